/- A part of the proof. -/
import Derived.Calls
import Derived.Test.YtjflaalpkjchoaaGreatDoorB
set_option linter.all false
namespace Go.Ev
open Go
section
def WW(ty:Ty):Nat->Code->AC->Prop:=λN c a=>bV ty c=a/\within N c=true
def put(fr:Frame)(tmps:Array Value)(ds:List Deferred)(todo:List Item):Frame:={ fr with tmps:=tmps,defers:=ds,todo:=todo}
def iV(P:Program)(η:Env)(m:Machine)(fr:Frame)(cs:List Frame)(k:List Item)(ex:Ex)(tmps:Array Value)(ds:List Deferred)(w:World):Prop:=
 match ex with
 | .normal=>Steps P m (lone (put fr tmps ds k) cs w)
 | .exit id=>∃k1,exitTo id k1=exitTo id k/\Steps P m (lone (put fr tmps ds (.code (.exit id)::k1)) cs w)
 | .ret=>∃k1,Steps P m (lone (put fr tmps ds (.code .ret::k1)) cs w)
 | .panic v=>∃k1 x,an η v x/\Steps P m (lone { put fr tmps ds k1 with mode:=.panicking [{ v:=x,recovered:=false}]} cs w)
def iV.of_steps{P:Program}{η:Env}{m c:Machine}{fr:Frame}{cs:List Frame}{k:List Item}{ex:Ex}{tmps:Array Value}{ds:List Deferred}{w:World}(h:Steps P m c)(h':iV P η c fr cs k ex tmps ds w):
 iV P η m fr cs k ex tmps ds w:=by
 cases ex with
 | normal=>exact h.trans h'
 | exit id=>obtain⟨k1,a,b⟩:=h';exact⟨k1,a,h.trans b⟩
 | ret=>obtain⟨k1,b⟩:=h';exact⟨k1,h.trans b⟩
 | panic v=>obtain⟨k1,x,a,b⟩:=h';exact⟨k1,x,a,h.trans b⟩
def iV.pass{P:Program}{η:Env}{m:Machine}{fr:Frame}{cs:List Frame}{x:Item}{k:List Item}{ex:Ex}{tmps:Array Value}{ds:List Deferred}{w:World}(c:∀id,x≠.inBlock id)(d:ex≠.normal)
 (h:iV P η m fr cs (x::k) ex tmps ds w):iV P η m fr cs k ex tmps ds w:=by
 cases ex with
 | normal=>exact absurd rfl d
 | exit id=>
  obtain⟨k1,a,b⟩:=h;exact⟨k1,by rw[a];cases x<;>first | exact absurd rfl (c _) | rfl,b⟩
 | ret=>exact h
 | panic v=>exact h
def Marks(s0:Nat)(η:Env)(H:Hp)(w:World)(ds:List Deferred)(ds0:List Deferred):Prop:=
 ∃bs:List Nat,ds=bs.map (λb=>{ target:=.collected b,args:=#[]})++ds0/\bs.Nodup/\∀b∈bs,s0<=b/\w.heap[b]?=some (.deferred (some []))/\¬ lQ η H true b
section marks
variable {W:Nat->Code->AC->Prop}{η η':Env}{H H':Hp}{n n':K}{w w':World}{s0:Nat}{ds ds0:List Deferred}
def Marks.refl(s0:Nat)(η:Env)(H:Hp)(w:World)(ds:List Deferred):Marks s0 η H w ds ds:=⟨[],rfl,.nil,λ_ h=>by cases h⟩
def Marks.trans(h:Marks s0 η H w ds ds0)(t:Trans W η H n w η' H' n' w'):Marks s0 η' H' w' ds ds0:=by
 obtain⟨bs,h1,f,h2⟩:=h;refine⟨bs,h1,f,λb hb=>?_⟩;obtain⟨a,c,d⟩:=h2 b hb;have g:b<w.heap.size:=(mU.1 c).1;refine⟨a,by rw[t.kept.block b g d];exact c,λhB=>?_⟩;rcases t.ka _ _ hB with e | e
 ·exact d e
 ·omega
def Marks.next{i:List Deferred}(h:Marks s0 η H w i ds0)(t:Trans W η H n w η' H' n' w')(h':Marks w.heap.size η' H' w' ds i)(hs:s0<=w.heap.size):Marks s0 η' H' w' ds ds0:=by
 have f:∃bs:List Nat,i=bs.map (λb=>{ target:=.collected b,args:=#[]})++ds0/\bs.Nodup/\∀b∈bs,b<w.heap.size/\s0<=b/\w'.heap[b]?=some (.deferred (some []))/\¬ lQ η' H' true b:=by
  obtain⟨bs,h1,j,h2⟩:=h;refine⟨bs,h1,j,λb hb=>?_⟩;obtain⟨a,c,d⟩:=h2 b hb;have f:b<w.heap.size:=(mU.1 c).1;refine⟨f,a,by rw[t.kept.block b f d];exact c,λhB=>?_⟩;rcases t.ka _ _ hB with g | g
  ·exact d g
  ·omega
 obtain⟨bs,h1,j,h2⟩:=f;obtain⟨l,g,m,k⟩:=h';refine⟨l++bs,by rw[g,h1];simp,?_,λb hb=>?_⟩
 ·rw[List.nodup_append];refine⟨m,j,λx o y p e=>?_⟩;subst e;have:=(k x o).1;have:=(h2 x p).1;omega
 ·rcases eG.1 hb with hb | hb
  ·obtain⟨a,c⟩:=k b hb;exact⟨by omega,c⟩
  ·exact(h2 b hb).2
end marks
section ops
variable {P:Program}{ty:Ty}{η:Env}{T:Tr V}{H H':Hp}{n n':K}{w:World}{v:V}
def eval_eq(fr:Frame):fr.eval=ai fr.tmps:=by funext x;cases x<;>rfl
def eval_put(fr:Frame)(tmps:Array Value)(ds:List Deferred)(todo:List Item):(put fr tmps ds todo).eval=ai tmps:=by funext x;cases x<;>rfl
def B3{fr:Frame}{cs:List Frame}{ops:Array Oper}{i:Nat}{rest:List Nat}{k:List Item}{o:Oper}(hm:fr.mode=.run)(ht:fr.todo=.inRegion ops (i::rest)::k)(a:ops[i]?=some o)
 (b:Region.wanted o (yielded ops fr.tmps)=true)(d:∀c,o.op≠.defer c):
 stepG P true { frame:=fr,callers:=cs,status:=.running,dying:=none} w=stepG.apply P true fr cs none (execOp fr.eval o) w:=by
 obtain⟨fn,tmps,todo,defers,mode,kind,roundOf⟩:=fr;simp only at hm ht;subst hm;subst ht;have:stepG.oper P true { fn,tmps,todo:=.inRegion ops (i::rest)::k,defers,mode:=.run,kind,roundOf} cs none w=
  stepG.apply P true { fn,tmps,todo:=.inRegion ops (i::rest)::k,defers,mode:=.run,kind,roundOf} cs none (execOp (Frame.eval { fn,tmps,todo:=.inRegion ops (i::rest)::k,defers,mode:=.run,kind,roundOf}) o) w:=by
  simp only[stepG.oper,Frame.oper?,a];cases roundOf with
  | none=>rfl
  | some l=>
   cases e:o.op<;>first | rfl | exact absurd e (d _)
 simp only[stepG,stepG.exec];simp only[a,ox,Option.getD_some];rw[ab b];exact this
def Qo{fr:Frame}{cs:List Frame}{s:Sem Next}{x:Value}{w':World}(h:s.run P w=.ok (.value x) w'):
 (stepG.apply P true fr cs none s w).bare=.go { frame:=fr.finish x,callers:=cs,status:=.running,dying:=none} w':=by
 simp[stepG.apply,h]
def It{fr:Frame}{cs:List Frame}{s:Sem Next}{w':World}(h:s.run P w=.ok .skip w'):
 (stepG.apply P true fr cs none s w).bare=.go { frame:=fr.finish undef,callers:=cs,status:=.running,dying:=none} w':=by
 simp[stepG.apply,h]
def EX(fr:Frame)(tmps:Array Value)(ds:List Deferred)(ops:Array Oper)(i:Nat)(rest:List Nat)(k:List Item)(x:Value):
 (put fr tmps ds (.inRegion ops (i::rest)::k)).finish x=put fr (match (ops[i]?).bind (·.dst) with | some d=>tmps.setIfInBounds d x | none=>tmps) ds (.inRegion ops rest::k):=rfl
end ops
end
section
def zO(P:Program)(s:Sem Next)(c:Frame)(cs:List Frame)(w:World)(v:Value)(w':World):Prop:=
 ∃e d,s.run P w=.ok e d/\match e with
  | .enter g a=>Steps P (lone (Frame.enter P g a .normal) (c::cs) d) (lone (c.finish v) cs w')
  | .round l g t a b=>Steps P (lone (Frame.round l g t a b .normal) (c::cs) d) (lone (c.finish v) cs w')
  | .value x=>x=v/\w'=d
  | .skip=>v=undef/\w'=d
  | _=>False
def Qp(P:Program)(s:Sem Next)(c:Frame)(cs:List Frame)(w:World)(x:Value)(w':World):Prop:=
 ∃g a b,s.run P w=.ok (.enter g a) b/\Steps P (lone (Frame.enter P g a .normal) (c::cs) b) (lone (c.raise [{ v:=x,recovered:=false}]) cs w')
def EY{P:Program}{fr:Frame}{cs:List Frame}{s:Sem Next}{w w':World}{v:Value}
 (e:stepG P true { frame:=fr,callers:=cs,status:=.running,dying:=none} w=stepG.apply P true fr cs none s w)
 (j:∀d r m k,fr.todo≠.call d true r m::k)(h:zO P s fr cs w v w'):Steps P (lone fr cs w) (lone (fr.finish v) cs w'):=by
 obtain⟨o,p,f,c⟩:=h;have i:(match fr.todo with | .call _ true _ _::_=>CallKind.wrapped | _=>.normal)=.normal:=by
  split
  ·rename_i h;exact absurd h (j _ _ _ _)
  ·rfl
 cases o<;>try exact c.elim
 case value x=>
  obtain⟨rfl,rfl⟩:=c;exact .one (ic (by rw[e];exact Qo f))
 case skip=>
  obtain⟨rfl,rfl⟩:=c;exact .one (ic (by rw[e];exact It f))
 case enter g a=>
  refine .head (ic ?_) c;rw[e];simp only[stepG.apply,Sem.runT_eq,f,GStep.bare_after,i];rfl
 case round l g t a b=>
  refine .head (ic ?_) c;rw[e];simp only[stepG.apply,Sem.runT_eq,f,GStep.bare_after,i];rfl
structure Good(P:Program)(ty:Ty)(C:Nat->Option aE):Prop where
 aC:cP P ty
 fn:∀g af,C g=some (.go af)->∃fn,P.funcs[g]?=some fn/\(fn.name == "runtime.NumGoroutine")=false/\sQ ty fn=some af
 mixed:P.follows .mixedOrders=true
 xq:∀g af,C g=some (.xq af)->∃fn cf,P.funcs[g]?=some fn/\(fn.name == "runtime.NumGoroutine")=false/\wa ty fn (λi=>P.funcs[i]?)=some af/\P.funcs[af.g]?=some cf/\(cf.name == "runtime.NumGoroutine")=false
def jV(fr:Frame)(w:World):Prop:=∀l,fr.roundOf=some l->∃q,w.heap[l]?=some (.loop q)
def kD(P:Program)(ty:Ty)(j:DD)(H:Hp)(n:K)(r:R):Prop:=
 match j with
 | .code a T=>∀(η:Env) (w:World) (fr:Frame) (cs:List Frame) (k:List Item) (c:Code),WW ty fr.tmps.size c a->aK η T fr.tmps->bM η ty.g->aU (WW ty) η H n w->fr.mode=.run->jV fr w->∃η' tmps ds w',Trans (WW ty) η H n w η' r.H r.n w'/\tmps.size=fr.tmps.size/\aK η' r.T tmps/\Marks w.heap.size η' r.H w' ds fr.defers/\iV P η' (lone (put fr fr.tmps fr.defers (.code c::k)) cs w) fr cs k r.ex tmps ds w'
 | .call f l=>∀(η:Env) (w:World) (c:Frame) (cs:List Frame) (b:Value) (args:List Value),an η f b->aL η l args->bM η ty.g->aU (WW ty) η H n w->(r.ex=.normal->∃η' v' w',Trans (WW ty) η H n w η' r.H r.n w'/\an η' r.v v'/\zO P (do let d←Deferred.ofValue b args.toArray;invoke d.target d.args) c cs w v' w')/\(∀u,r.ex=.panic u->∃η' v' w',Trans (WW ty) η H n w η' r.H r.n w'/\an η' u v'/\Qp P (do let d←Deferred.ofValue b args.toArray;invoke d.target d.args) c cs w v' w')
def kE(P:Program)(ty:Ty)(ih:cV):Prop:=∀j H n r,ih j H n=some r->kD P ty j H n r
section ops
variable {P:Program}{ty:Ty}{C:Nat->Option aE}{ih:cV}{η η':Env}{T:Tr V}{H H':Hp}{n n':K}{w w':World}{v:V}{tmps:Array Value}
def aK.set(h:aK η T tmps){d:Nat}(b:d<tmps.size){x:Value}(hv:an η v x):aK η (T.put (some v) (bF d)) (tmps.setIfInBounds d x):=by
 intro t u a;rw[Tr.fk]at a;split at a
 ·rename_i e;have:=ED e;subst this;injection a with a;subst a;exact⟨x,by simp[gj,b],hv⟩
 ·rename_i e;obtain⟨y,h1,h2⟩:=h t u a;refine⟨y,?_,h2⟩;rw[gj,Γ (λc=>e (by rw[c]))];exact h1
def jo(dst:Option Nat)(x:Value)(tmps:Array Value):Array Value:=
 match dst with
 | some d=>tmps.setIfInBounds d x
 | none=>tmps
def B4(dst:Option Nat)(x:Value)(tmps:Array Value):(jo dst x tmps).size=tmps.size:=by cases dst<;>simp[jo]
def aK.jo(h:aK η T tmps){dst:Option Nat}(a:∀d,dst=some d->d<tmps.size){x:Value}(hv:an η v x):aK η (da (dst.map bF) (some v) T) (jo dst x tmps):=by
 cases dst with
 | none=>exact h
 | some d=>exact h.set (a d rfl) hv
def Iu(η:Env):an η (.u []) undef:=.u _ _ .nil
def Iv(e:aK η T tmps){ops:Array Oper}{o:Oper}{g:Option (K×Bool)}(a:vX ops o.guard=some g){b:Bool}(h:want g T=some b):Region.wanted o (yielded ops tmps)=b:=by
 unfold Region.wanted;cases f:o.guard with
 | none=>
  rw[f]at a;simp only[vX]at a;injection a with a;subst a;simp only[want]at h;injection h
 | some p=>
  obtain⟨j,wn⟩:=p;rw[f]at a;simp only[vX]at a;split at a
  case h_2=>cases a
  rename_i d i;injection a with a;subst a;simp only[want]at h;show((match ((ops[j]?).bind (·.dst)).bind (tmps[·]?) with
   | some (.bool b)=>some b
   | _=>none)==some wn)=b
  rw[i];simp only[zt];split at h
  ·rename_i x c;obtain⟨y,h1,h2⟩:=e d _ c;cases h2;rw[h1];injection h with h;subst h;cases wn<;>cases x<;>rfl
  ·rename_i c;obtain⟨y,h1,h2⟩:=e d _ c;injection h with h;subst h;cases h2 with
   | u _ l hl=>cases hl;rw[h1];rfl
  ·cases h
def ab0{c:Call}{f:ao}{l:List ao}(h:qW ty c=some (.lO f l)):∃x,c.callee=.value x/\br ty x=some f/\oA ty c.args.toList=some l:=by
 obtain⟨callee,args,ts⟩:=c;cases callee with
 | value x=>
  simp only[qW]at h;split at h
  ·rename_i f' l' h1 h2;injection h with h;injection h with a d;subst a;subst d;exact⟨x,rfl,h1,h2⟩
  ·cases h
 | invoke r m=>cases h
 | builtin b=>
  simp only[qW]at h
  repeat' split at h
  all_goals cases h
def Qq{op:Op}{f:ao}{l:List ao}(h:de ty op=some (.lO f l)):∃a,op=.call a/\∃x,a.callee=.value x/\br ty x=some f/\oA ty a.args.toList=some l:=by
 cases op with
 | call c=>exact⟨c,rfl,ab0 h⟩
 | _=>
  simp only[de,gU]at h
  repeat' split at h
  all_goals cases h
def ab1{a:A}(h:oper ih a T H n=some (v,H',n')):∃T',dG ih a T H n=some ⟨.normal,T',v,H',n'⟩:=by
 unfold oper at h;split at h
 ·rename_i T' v1 H1 n1 h1;obtain⟨rfl,rfl,rfl⟩:=dC h;exact⟨T',h1⟩
 ·cases h
def ab2{a:A}{T':Tr V}(h:dG ih a T H n=some ⟨.normal,T',v,H',n'⟩):oper ih a T H n=some (v,H',n'):=by unfold oper;rw[h]
def xO{a:A}(b:∀f l,a≠.lO f l):oper ih a T H n=simple a T H n:=by
 cases a with
 | lO f l=>exact absurd rfl (b f l)
 | tR x=>
  simp only[oper,dG,simple];split
  ·rename_i h;split at h
   ·injection h with h;injection h with h;cases h
   ·cases h
  ·rfl
 | _=>
  unfold oper dG;simp only;generalize simple _ T H n=x;cases x with
  | none=>rfl
  | some p=>rfl
def Qr{f:ao}{l:List ao}(h:oper ih (.lO f l) T H n=some (v,H',n')):∃a lv T',aq T f=some a/\eZ T l=some lv/\ih (.call a lv) H n=some ⟨.normal,T',v,H',n'⟩:=by
 obtain⟨T',h⟩:=ab1 h;simp only[dG]at h;split at h
 ·rename_i a lv h1 h2;exact⟨a,lv,T',h1,h2,h⟩
 ·cases h
def ab3{a:A}{u:V}{T':Tr V}{v':V}(h:dG ih a T H n=some ⟨.panic u,T',v',H',n'⟩):
 (∃f l b lv,a=.lO f l/\aq T f=some b/\eZ T l=some lv/\ih (.call b lv) H n=some ⟨.panic u,T',v',H',n'⟩)\/
 (∃x t v,a=.tR x/\aq T x=some (.j9 t v)/\u=.j9 t v/\H'=H/\n'=n):=by
 cases a with
 | lO f l=>
  simp only[dG]at h;split at h
  ·rename_i b lv h1 h2;exact .inl ⟨f,l,b,lv,rfl,h1,h2,h⟩
  ·cases h
 | tR x=>
  simp only[dG]at h;split at h
  ·rename_i t v h1;injection h with h;injection h with h2 e g c d;injection h2 with h2;exact .inr ⟨x,t,v,rfl,h1,h2.symm,c.symm,d.symm⟩
  ·cases h
 | _=>
  unfold dG at h;simp only at h;split at h
  ·injection h with h;injection h with h;cases h
  ·cases h
def Qs(r:Good P ty C)(s:kE P ty ih)(m:aK η T tmps)(b:bM η ty.g)(p:aU (WW ty) η H n w){o:Oper}{a:A}(q:de ty o.op=some a)(hs:oper ih a T H n=some (v,H',n'))(c:Frame)(cs:List Frame):
 ∃η' v' w',Trans (WW ty) η H n w η' H' n' w'/\an η' v v'/\zO P (execOp (ai tmps) o) c cs w v' w':=by
 have t:simple a T H n=some (v,H',n')->∃η' v' w',Trans (WW ty) η H n w η' H' n' w'/\an η' v v'/\zO P (execOp (ai tmps) o) c cs w v' w':=λhs=>by
  obtain⟨I,i,j,η',ht,hv⟩:=abY (W:=WW ty) (w:=w) r.aC m b p q hs;rcases hv with ⟨y,rfl,u⟩ | ⟨rfl,rfl⟩
  ·exact⟨η',y,i,ht,u,.value y,i,j,rfl,rfl⟩
  ·exact⟨η',undef,i,ht,Iu _,.skip,i,j,rfl,rfl⟩
 cases a with
 | lO f l=>
  obtain⟨J,lv,T',hf,hl,j⟩:=Qr hs;obtain⟨k,z,x,B,D,E⟩:=Qq q;have h1:=bT m b D hf;have h2:=zH m b E hl;obtain⟨η',v',w',g1,F,G⟩:=(s _ _ _ _ j η w c cs _ _ h1 h2 b p).1 rfl;refine⟨η',v',w',g1,F,?_⟩;have e:execOp (ai tmps) o=(do let d←Deferred.ofValue (ai tmps x) (k.args.toList.map (ai tmps)).toArray;invoke d.target d.args):=by
   have:(k.args.toList.map (ai tmps)).toArray=k.args.map (ai tmps):=by apply jB;simp
   rw[this];obtain⟨dst,op,rt,pos,after,L⟩:=o;subst z;show(do let d←resolve (ai tmps) k rt;invoke d.target d.args)=_;unfold resolve;simp only[B]
  rw[e];exact G
 | _=>exact t (by rw[←hs];exact(xO (by intro f l h;cases h)).symm)
def ab5{op:Op}{x:ao}(h:de ty op=some (.tR x)):∃y,op=.panic y/\br ty y=some x:=by
 cases op with
 | panic y=>
  simp only[de]at h;split at h
  ·rename_i d a;injection h with h;injection h with h;subst h;exact⟨y,rfl,a⟩
  ·cases h
 | call c=>
  exfalso;simp only[de]at h;obtain⟨callee,args,ts⟩:=c;cases callee with
  | value x=>
   simp only[qW]at h;split at h
   ·injection h with h;cases h
   ·cases h
  | invoke r m=>cases h
  | builtin b=>
   simp only[qW]at h
   repeat' split at h
   all_goals cases h
 | _=>
  simp only[de,gU]at h
  repeat' split at h
  all_goals cases h
end ops
end
section
section ops
variable {P:Program}{ty:Ty}{C:Nat->Option aE}{ih:cV}{η η':Env}{T:Tr V}{H H':Hp}{n n':K}{w w':World}{v:V}{tmps:Array Value}{ds:List Deferred}{fr:Frame}{cs:List Frame}{k:List Item}
def jV.trans{W:Nat->Code->AC->Prop}(h:jV fr w)(t:Trans W η H n w η' H' n' w'):jV fr w':=λl hl=>let⟨q,a⟩:=h l hl;t.kept.loops l q a
def Qt{ops:Array Oper}{i:Nat}{rest:List Nat}{o:Oper}(hm:fr.mode=.run)(a:ops[i]?=some o)(b:Region.wanted o (yielded ops tmps)=false):
 step P (lone (put fr tmps ds (.inRegion ops (i::rest)::k)) cs w)=.next (lone (put fr (jo o.dst undef tmps) ds (.inRegion ops rest::k)) cs w):=by
 obtain⟨fn,c,todo,defers,mode,kind,roundOf⟩:=fr;simp only at hm;subst hm;refine ic ?_;simp only[put,stepG,stepG.exec,a,ox,Option.getD_some,b,mV,if_false,GStep.bare];simp only[Frame.finish,a,zt];rfl
def EZ{ops:Array Oper}(hm:fr.mode=.run):step P (lone (put fr tmps ds (.inRegion ops []::k)) cs w)=.next (lone (put fr tmps ds k) cs w):=by obtain⟨fn,a,todo,defers,mode,kind,roundOf⟩:=fr;simp only at hm;subst hm;exact ic (by simp[put,stepG,stepG.exec])
def Qu(i m:Nat):List.range' i (m+1)=i::List.range' (i+1) m:=by rw[List.range'_succ]
def Qv(hm:fr.mode=.run)(x:Value):fr.raise [{ v:=x,recovered:=false}]={ fr with mode:=.panicking [{ v:=x,recovered:=false}]}:=by unfold Frame.raise;rw[hm]
def ab6{s:Sem Next}{x:Value}(hm:fr.mode=.run)
 (b:stepG P true { frame:=fr,callers:=cs,status:=.running,dying:=none} w=stepG.apply P true fr cs none s w)
 (c:∀d r e k,fr.todo≠.call d true r e::k)(h:Qp P s fr cs w x w'):Steps P (lone fr cs w) (lone { fr with mode:=.panicking [{ v:=x,recovered:=false}]} cs w'):=by
 obtain⟨g,a,l,f,i⟩:=h;have j:(match fr.todo with | .call _ true _ _::_=>CallKind.wrapped | _=>.normal)=.normal:=by
  split
  ·rename_i h;exact absurd h (c _ _ _ _)
  ·rfl
 rw[←Qv hm];refine .head (ic ?_) i;rw[b];simp only[stepG.apply,Sem.runT_eq,f,GStep.bare_after,j];rfl
def ab7{s:Sem Next}{x:Value}(hm:fr.mode=.run)(h:s.run P w=.halt (.panic x) w'):
 (stepG.apply P true fr cs none s w).bare=.go { frame:={ fr with mode:=.panicking [{ v:=x,recovered:=false}]},callers:=cs,status:=.running,dying:=none} w':=by
 rw[←Qv hm];simp[stepG.apply,h]
def ab8(S:Good P ty C)(D:kE P ty ih)(hm:fr.mode=.run){ops:Array Oper}{i:Nat}{rest:List Nat}{o:Oper}(E:ops[i]?=some o)(F:Region.wanted o (yielded ops tmps)=true)
 (q:aK η T tmps)(b:bM η ty.g)(B:aU (WW ty) η H n w){a:A}(j:de ty o.op=some a){u:V}{T':Tr V}{v':V}(hs:dG ih a T H n=some ⟨.panic u,T',v',H',n'⟩):
 ∃η' w',Trans (WW ty) η H n w η' H' n' w'/\iV P η' (lone (put fr tmps ds (.inRegion ops (i::rest)::k)) cs w) fr cs k (.panic u) tmps ds w':=by
 have G:∀c,o.op≠.defer c:=λc e=>by rw[e]at j;cases j
 have m:=B3 (P:=P) (cs:=cs) (w:=w) (fr:=put fr tmps ds (.inRegion ops (i::rest)::k)) hm rfl E F G;rw[eval_put]at m;rcases ab3 hs with ⟨f,l,U,lv,rfl,h1,h2,I⟩ | ⟨x,t,v,rfl,h1,rfl,rfl,rfl⟩
 ·obtain⟨p,r,x,J,L,M⟩:=Qq j;obtain⟨η',y,w',g1,N,O⟩:=(D _ _ _ _ I η w (put fr tmps ds (.inRegion ops (i::rest)::k)) cs _ _ (bT q b L h1) (zH q b M h2) b B).2 u rfl;refine⟨η',w',g1,.inRegion ops (i::rest)::k,y,N,?_⟩;have e:execOp (ai tmps) o=(do let d←Deferred.ofValue (ai tmps x) (p.args.toList.map (ai tmps)).toArray;invoke d.target d.args):=by
   have:(p.args.toList.map (ai tmps)).toArray=p.args.map (ai tmps):=by apply jB;simp
   rw[this];obtain⟨dst,op,rt,pos,after,Q⟩:=o;subst r;show(do let d←resolve (ai tmps) p rt;invoke d.target d.args)=_;unfold resolve;simp only[J]
  rw[e]at m;exact ab6 hm m (λ_ _ _ _ h=>by cases h) O
 ·obtain⟨y,r,R⟩:=ab5 j;have s:=bT q b R h1;refine⟨η,w,.refl B,.inRegion ops (i::rest)::k,ai tmps y,s,.one (ic ?_)⟩;rw[m];refine ab7 hm ?_;obtain⟨dst,op,rt,pos,after,Q⟩:=o;subst r;show(do pure (.value (←Instr.panic (ai tmps y))):Sem Next).run P _=_;generalize ai tmps y=z at s;cases s with
  | j9 _ _ W _=>
   show(Sem.bind _ _).run P _=_;rw[Sem.run_bind'];rfl
def Iw(N:Good P ty C)(O:kE P ty ih){ops:Array Oper}(hm:fr.mode=.run)(Z:ij fr.tmps.size ops.toList=true):
 ∀(l:List Oper) (i:Nat),ops.toList.drop i=l->∀(η:Env) (T:Tr V) (H:Hp) (n:K) (w:World) (tmps:Array Value) (r:R),fc ih (cE ty ops l []) T H n=some r->aK η T tmps->tmps.size=fr.tmps.size->bM η ty.g->aU (WW ty) η H n w->∃η' D w',Trans (WW ty) η H n w η' r.H r.n w'/\D.size=fr.tmps.size/\aK η' r.T D/\iV P η' (lone (put fr tmps ds (.inRegion ops (List.range' i l.length)::k)) cs w) fr cs k r.ex D ds w':=by
 intro l
 induction l with
 | nil=>
  intro i hl η T H n w tmps r b f j s t;simp only[cE,fc]at b;injection b with b;subst b;exact⟨η,tmps,w,.refl t,j,f,.one (EZ hm)⟩
 | cons o l Q=>
  intro i hl η T H n w tmps r b f j s t;have x:ops[i]?=some o:=by rw[←mh];have:=congrArg (·[0]?) hl;simpa using this
  have S:ops.toList.drop (i+1)=l:=by have:=congrArg (List.drop 1) hl;simpa using this
  have U:∀d,o.dst=some d->d<tmps.size:=by
   have key:∀(l:List Oper),ij fr.tmps.size l=true->o∈l->∀d,o.dst=some d->d<fr.tmps.size:=by
    intro l
    induction l with
    | nil=>intro _ h;cases h
    | cons p l jY=>
     intro h hm d W;simp only[ij,aD]at h;rcases cD.1 hm with rfl | hm
     ·rw[W]at h;have:=h.1;simp only[fF,cC]at this;exact this
     ·exact jY h.2 hm d W
   rw[j];exact key _ Z (by
    have:=Array.mem_of_getElem? x;simpa using this)
  simp only[cE,fc]at b;have X8:∃g,vX ops o.guard=some g/\(jm ty ops o 0)={ dst:=o.dst.map bF,op:=(de ty o.op).getD .bad,guard:=g,Δ:=0}:=by
   cases y:vX ops o.guard with
   | some g=>exact⟨g,rfl,by simp[jm,y]⟩
   | none=>
    exfalso;have:jm ty ops o 0={ dst:=none,op:=.bad,guard:=none,Δ:=0}:=by simp[jm,y]
    rw[this]at b;simp only[want,dG,simple]at b;cases b
  obtain⟨g,y,xD⟩:=X8;rw[xD]at b;simp only at b;rw[eh,Qu];split at b
  ·rename_i E;have B:=Iv f y E;cases m:de ty o.op with
   | none=>rw[m]at b;simp only[Option.getD_none,dG,simple]at b;cases b
   | some a=>
    rw[m,Option.getD_some]at b;split at b
    ·rename_i T1 v1 H1 n1 z;have z:=ab2 z;obtain⟨η1,v',w1,g1,g2,g3⟩:=Qs N O f s t m z (put fr tmps ds (.inRegion ops (i::List.range' (i+1) l.length)::k)) cs;have oo:∀c,o.op≠.defer c:=λc e=>by rw[e]at m;cases m
     have X:=B3 (P:=P) (cs:=cs) (w:=w) (fr:=put fr tmps ds (.inRegion ops (i::List.range' (i+1) l.length)::k)) hm rfl x B oo;rw[eval_put]at X;have Y:=EY X (λ_ _ _ _ h=>by cases h) g3;rw[EX,x]at Y;have F:aK η1 (da (o.dst.map bF) (some v1) T) (jo o.dst v' tmps):=(f.mono g1.ext).jo U g2;obtain⟨G,I,J,q,A,L,M⟩:=Q (i+1) S η1 _ H1 n1 w1 (jo o.dst v' tmps) r b F (by rw[B4];exact j) (s.mono g1.ext) g1.rep;exact⟨G,I,J,g1.trans q,A,L,.of_steps Y M⟩
    ·rename_i u T1 v1 H1 n1 z;injection b with b;subst b;obtain⟨η',w',q,A⟩:=ab8 (fr:=fr) (cs:=cs) (k:=k) (ds:=ds) (rest:=List.range' (i+1) l.length) N O hm x B f s t m z;exact⟨η',tmps,w',q,j,f.mono q.ext,A⟩
    ·cases b
  ·rename_i E;have B:=Iv f y E;have F:aK η (da (o.dst.map bF) (some (.u [])) T) (jo o.dst undef tmps):=f.jo U (Iu _);obtain⟨G,I,J,q,A,L,M⟩:=Q (i+1) S η _ H n w (jo o.dst undef tmps) r b F (by rw[B4];exact j) s t;exact⟨G,I,J,q,A,L,.of_steps (.one (Qt hm x B)) M⟩
  ·cases b
end ops
end
section
section ops
variable {P:Program}{ty:Ty}{C:Nat->Option aE}{ih:cV}{η η':Env}{T:Tr V}{H H':Hp}{n n':K}{w w':World}{v:V}{tmps:Array Value}{ds:List Deferred}{fr:Frame}{cs:List Frame}{k:List Item}
def Steps.tail{m m1 a:Machine}(h:Steps P m a)(hs:step P m=.next m1)(b:m≠a):Steps P m1 a:=by
 obtain⟨j,hj⟩:=h;cases j with
 | zero=>simp only[runN]at hj;injection hj with hj;exact absurd hj b
 | succ j=>simp only[runN,hs]at hj;exact⟨j,hj⟩
section ab9
variable (hm:fr.mode=.run)
include hm
def qs{x:Item}{todo:List Item}(h:∀(b:Frame) (a:Act) (r:Option Nat),True->True)(hs:∀(fn:FuncId) (kind:CallKind) (roundOf:Option Nat),(stepG P true { frame:={ fn,tmps,todo:=x::k,defers:=ds,mode:=.run,kind,roundOf},callers:=cs,status:=.running,dying:=none} w).bare=
 .go { frame:={ fn,tmps,todo:=todo,defers:=ds,mode:=.run,kind,roundOf},callers:=cs,status:=.running,dying:=none} w):
 step P (lone (put fr tmps ds (x::k)) cs w)=.next (lone (put fr tmps ds todo) cs w):=by
 obtain⟨fn,c,d,defers,mode,kind,roundOf⟩:=fr;simp only at hm;subst hm;exact ic (hs fn kind roundOf)
def aca:step P (lone (put fr tmps ds (.code .skip::k)) cs w)=.next (lone (put fr tmps ds k) cs w):=qs hm (λ_ _ _ _=>trivial) λ_ _ _=>by simp[stepG,stepG.exec]
def acb{l:Nat}:step P (lone (put fr tmps ds (.code (.label l)::k)) cs w)=.next (lone (put fr tmps ds k) cs w):=qs hm (λ_ _ _ _=>trivial) λ_ _ _=>by simp[stepG,stepG.exec]
def acd{id:Nat}:step P (lone (put fr tmps ds (.inBlock id::k)) cs w)=.next (lone (put fr tmps ds k) cs w):=qs hm (λ_ _ _ _=>trivial) λ_ _ _=>by simp[stepG,stepG.exec]
def ace{c:Code}:step P (lone (put fr tmps ds (.inScope c::k)) cs w)=.next (lone (put fr tmps ds k) cs w):=qs hm (λ_ _ _ _=>trivial) λ_ _ _=>by simp[stepG,stepG.exec]
def zP{x y:Code}:step P (lone (put fr tmps ds (.code (.seq x y)::k)) cs w)=.next (lone (put fr tmps ds (.code x::.code y::k)) cs w):=qs hm (λ_ _ _ _=>trivial) λ_ _ _=>by simp[stepG,stepG.exec]
def Ix{id:Nat}{c:Code}:step P (lone (put fr tmps ds (.code (.block id c)::k)) cs w)=.next (lone (put fr tmps ds (.code c::.inBlock id::k)) cs w):=qs hm (λ_ _ _ _=>trivial) λ_ _ _=>by simp[stepG,stepG.exec]
def E8{c:Code}:step P (lone (put fr tmps ds (.code (.loop c)::k)) cs w)=.next (lone (put fr tmps ds (.code c::.inLoop c::k)) cs w):=qs hm (λ_ _ _ _=>trivial) λ_ _ _=>by simp[stepG,stepG.exec]
def Iy{c:Code}:step P (lone (put fr tmps ds (.inLoop c::k)) cs w)=.next (lone (put fr tmps ds (.code c::.inLoop c::k)) cs w):=qs hm (λ_ _ _ _=>trivial) λ_ _ _=>by simp[stepG,stepG.exec]
def acf{c:Code}:step P (lone (put fr tmps ds (.code (.scope c)::k)) cs w)=.next (lone (put fr tmps ds (.code c::.inScope c::k)) cs w):=qs hm (λ_ _ _ _=>trivial) λ_ _ _=>by simp[stepG,stepG.exec]
def B6{id:Nat}{ops:Array Oper}:step P (lone (put fr tmps ds (.code (.region id ops false)::k)) cs w)=.next (lone (put fr tmps ds (.inRegion ops (List.range ops.size)::k)) cs w):=qs hm (λ_ _ _ _=>trivial) λ_ _ _=>by simp[stepG,stepG.exec]
def acg{id:Nat}{k1:List Item}(h:exitTo id k=some k1):step P (lone (put fr tmps ds (.code (.exit id)::k)) cs w)=.next (lone (put fr tmps ds k1) cs w):=qs hm (λ_ _ _ _=>trivial) λ_ _ _=>by simp[stepG,stepG.exec,h]
def Qw{c:Operand}{x y:Code}{t:Bool}(h:ai tmps c=.bool t):step P (lone (put fr tmps ds (.code (.cond c x y)::k)) cs w)=.next (lone (put fr tmps ds (.code (if t then x else y)::k)) cs w):=
 qs hm (λ_ _ _ _=>trivial) λfn kind roundOf=>by
  have he:Frame.eval { fn,tmps,todo:=.code (.cond c x y)::k,defers:=ds,mode:=.run,kind,roundOf} c=.bool t:=by rw[eval_eq];exact h
  simp[stepG,stepG.exec,he]
end ab9
def ach{c a:AC}{c1 c2:Code}{r1 r2:R}(h1:kD P ty (.code c T) H n r1)(l:r1.ex=.normal)(h2:kD P ty (.code a r1.T) r1.H r1.n r2)
 {η:Env}{w:World}{fr:Frame}{cs:List Frame}{k:List Item}(o:WW ty fr.tmps.size c1 c)(p:WW ty fr.tmps.size c2 a)(q:aK η T fr.tmps)(d:bM η ty.g)(r:aU (WW ty) η H n w)(hm:fr.mode=.run)(hl:jV fr w)
 {x:Item}(J:∀id,x≠.inBlock id){k2:List Item}{m0:Machine}(hs:m0=lone (put fr fr.tmps fr.defers (.code c1::x::k)) cs w)
 (s:∀tmps ds w,Steps P (lone (put fr tmps ds (x::k)) cs w) (lone (put fr tmps ds (.code c2::k2)) cs w))
 (t:∀η ex tmps ds w m,iV P η m fr cs k2 ex tmps ds w->iV P η m fr cs k ex tmps ds w):
 ∃η' tmps ds w',Trans (WW ty) η H n w η' r2.H r2.n w'/\tmps.size=fr.tmps.size/\aK η' r2.T tmps/\Marks w.heap.size η' r2.H w' ds fr.defers/\iV P η' m0 fr cs k r2.ex tmps ds w':=by
 obtain⟨η1,b,e,f,g1,h,u,y,i⟩:=h1 η w fr cs (x::k) c1 o q d r hm hl;rw[l]at i;obtain⟨z,A,B,D,j,E,F,G,I⟩:=h2 η1 f (put fr b e []) cs k2 c2 (by show WW ty b.size c2 a;rw[h];exact p) u (d.mono g1.ext) g1.rep hm (hl.trans g1);refine⟨z,A,B,D,g1.trans j,E.trans h,F,y.next j G g1.kept.size,?_⟩;rw[hs];exact .of_steps (Steps.trans i (s b e f)) (t _ _ _ _ _ _ I)
structure Forms(P:Program)(ty:Ty)(ih:cV):Prop where
 draw:∀id ops T H n r,vZ (Region.before ops).toList 0 ops.toList (cE ty ops ops.toList (Region.before ops).toList)=true->aS (λ_=>none) ih (.code (.regd (cE ty ops ops.toList (Region.before ops).toList)) T) H n=some r->∀(η:Env) (w:World) (fr:Frame) (cs:List Frame) (k:List Item),within fr.tmps.size (.region id ops true)=true->aK η T fr.tmps->bM η ty.g->aU (WW ty) η H n w->fr.mode=.run->jV fr w->∃η' tmps ds w',Trans (WW ty) η H n w η' r.H r.n w'/\tmps.size=fr.tmps.size/\aK η' r.T tmps/\Marks w.heap.size η' r.H w' ds fr.defers/\iV P η' (lone (put fr fr.tmps fr.defers (.code (.region id ops true)::k)) cs w) fr cs k r.ex tmps ds w'
 oX:∀f ps bZ body f' T H n r,br ty f=some f'->aS (λ_=>none) ih (.code (.oX f' (ps.toList.map bF) (bV ty bZ) (bV ty body)) T) H n=some r->∀(η:Env) (w:World) (fr:Frame) (cs:List Frame) (k:List Item),within fr.tmps.size (.rangeFunc f ps bZ body)=true->aK η T fr.tmps->bM η ty.g->aU (WW ty) η H n w->fr.mode=.run->jV fr w->∃η' tmps ds w',Trans (WW ty) η H n w η' r.H r.n w'/\tmps.size=fr.tmps.size/\aK η' r.T tmps/\Marks w.heap.size η' r.H w' ds fr.defers/\iV P η' (lone (put fr fr.tmps fr.defers (.code (.rangeFunc f ps bZ body)::k)) cs w) fr cs k r.ex tmps ds w'
 jC:∀c d x l b ws T H n r,pe ty (bV ty c) c=.jC d x l b ws->aS (λ_=>none) ih (.code (.jC d x l b ws) T) H n=some r->∀(η:Env) (w:World) (fr:Frame) (cs:List Frame) (k:List Item),within fr.tmps.size (.loop c)=true->aK η T fr.tmps->bM η ty.g->aU (WW ty) η H n w->fr.mode=.run->jV fr w->∃η' tmps ds w',Trans (WW ty) η H n w η' r.H r.n w'/\tmps.size=fr.tmps.size/\aK η' r.T tmps/\Marks w.heap.size η' r.H w' ds fr.defers/\iV P η' (lone (put fr fr.tmps fr.defers (.code (.loop c)::k)) cs w) fr cs k r.ex tmps ds w'
def acj(a:AC)(c:Code):pe ty a c=.loop a\/pe ty a c=.bad\/∃d x l b ws,pe ty a c=.jC d x l b ws:=by
 unfold pe;split
 ·split
  ·exact .inr (.inr ⟨_,_,_,_,_,rfl⟩)
  ·exact .inr (.inl U)
 ·exact .inl U
def iV.back{m:Machine}{x:Item}{ex:Ex}(a:∀id,x≠.inBlock id)(hs:∀tmps ds w,Steps P (lone (put fr tmps ds (x::k)) cs w) (lone (put fr tmps ds k) cs w))(h:iV P η m fr cs (x::k) ex tmps ds w):
 iV P η m fr cs k ex tmps ds w:=by
 cases ex with
 | normal=>exact Steps.trans h (hs _ _ _)
 | exit id=>exact iV.pass a (by simp) h
 | ret=>exact iV.pass a (by simp) h
 | panic v=>exact iV.pass a (by simp) h
def ack(hC:Good P ty C)(E:kE P ty ih)(S:Forms P ty ih){a:AC}{r:R}(g:aS C ih (.code a T) H n=some r):kD P ty (.code a T) H n r:=by
 intro η w fr cs k c hW z D A hm hl;obtain⟨i,j⟩:=hW;have here:∀{T'},r=⟨.normal,T',.q,H,n⟩->T'=T->Steps P (lone (put fr fr.tmps fr.defers (.code c::k)) cs w) (lone (put fr fr.tmps fr.defers k) cs w)->∃η' tmps ds w',Trans (WW ty) η H n w η' r.H r.n w'/\tmps.size=fr.tmps.size/\aK η' r.T tmps/\Marks w.heap.size η' r.H w' ds fr.defers/\iV P η' (lone (put fr fr.tmps fr.defers (.code c::k)) cs w) fr cs k r.ex tmps ds w':=by rintro T' rfl rfl hs;exact⟨η,fr.tmps,fr.defers,w,.refl A,rfl,z,.refl _ _ _ _ _,hs⟩
 have one:∀{m1:Machine},step P (lone (put fr fr.tmps fr.defers (.code c::k)) cs w)=.next m1->∀{η' ex tmps ds w'},iV P η' m1 fr cs k ex tmps ds w'->iV P η' (lone (put fr fr.tmps fr.defers (.code c::k)) cs w) fr cs k ex tmps ds w':=
  λhs _ _ _ _ _ h=>.of_steps (.one hs) h
 cases c with
 | skip=>
  simp only[bV]at i;subst i;simp only[aS]at g;injection g with g;exact here g.symm U (.one (aca hm))
 | label l=>
  simp only[bV]at i;subst i;simp only[aS]at g;injection g with g;exact here g.symm U (.one (acb hm))
 | region id ops draw=>
  cases draw with
  | false=>
   simp only[bV,cond_false]at i;subst i;simp only[aS]at g;have hd:ij fr.tmps.size ops.toList=true:=j;obtain⟨η',t',w',g1,o,u,p⟩:=Iw (cs:=cs) (k:=k) (ds:=fr.defers) hC E hm hd ops.toList 0 rfl η T H n w fr.tmps r g z rfl D A;refine⟨η',t',fr.defers,w',g1,o,u,.refl _ _ _ _ _,?_⟩;have dN:ops.toList.length=ops.size:=by simp
   rw[dN,←vN]at p;exact .of_steps (.one (B6 hm)) p
  | true=>
   simp only[bV,cond_true]at i;cases W:vZ (Region.before ops).toList 0 ops.toList (cE ty ops ops.toList (Region.before ops).toList) with
   | false=>rw[W]at i;simp only[cond_false]at i;subst i;cases g
   | true=>
    rw[W]at i;simp only[cond_true]at i;subst i;exact S.draw id ops T H n r W g η w fr cs k j z D A hm hl
 | seq x y=>
  simp only[bV]at i;subst i;simp only[within,aD]at j;simp only[aS]at g;split at g
  ·rename_i T1 v1 H1 n1 h1;have B:=E _ _ _ _ h1;have X:=E _ _ _ _ g;obtain⟨η',t',d',w',g1,o,u,p,t⟩:=ach B rfl X (c1:=x) (c2:=y) (x:=.code y) (k2:=k) ⟨rfl,j.1⟩ ⟨rfl,j.2⟩ z D A hm hl (by intro id h;cases h) U (λ_ _ _=>.refl _ _) (λ_ _ _ _ _ _ h=>h);exact⟨η',t',d',w',g1,o,u,p,one (zP hm) t⟩
  ·rename_i J;have B:=E _ _ _ _ g;obtain⟨η',t',d',w',g1,o,u,p,t⟩:=B η w fr cs (.code y::k) x ⟨rfl,j.1⟩ z D A hm hl;have hex:r.ex≠.normal:=by
    intro e;obtain⟨ex,T1,v1,H1,n1⟩:=r;simp only at e;subst e;exact J _ _ _ _ g
   exact⟨η',t',d',w',g1,o,u,p,one (zP hm) (.pass (by intro id h;cases h) hex t)⟩
 | cond x c1 c2=>
  simp only[bV]at i;split at i
  case h_2=>subst i;cases g
  rename_i x' hx;subst i;simp only[within,aD]at j;simp only[aS]at g;split at g
  case h_2=>cases g
  rename_i b hb;have iz:=bT z D hx hb;have hv:ai fr.tmps x=.bool b:=by generalize ai fr.tmps x=y at iz;cases iz;rfl
  have B:=E _ _ _ _ g;cases b with
  | true=>
   obtain⟨η',t',d',w',g1,o,u,p,t⟩:=B η w fr cs k c1 ⟨rfl,j.1⟩ z D A hm hl;exact⟨η',t',d',w',g1,o,u,p,one (Qw hm hv) t⟩
  | false=>
   obtain⟨η',t',d',w',g1,o,u,p,t⟩:=B η w fr cs k c2 ⟨rfl,j.2⟩ z D A hm hl;exact⟨η',t',d',w',g1,o,u,p,one (Qw hm hv) t⟩
 | block id c1=>
  simp only[bV]at i;subst i;simp only[aS]at g;have j:within fr.tmps.size c1=true:=j;split at g
  ·rename_i Y T1 v1 H1 n1 h1;have B:=E _ _ _ _ h1;obtain⟨η',t',d',w',g1,o,u,p,k1,t,g6⟩:=B η w fr cs (.inBlock id::k) c1 ⟨rfl,j⟩ z D A hm hl;cases L:Nat.beq id Y with
   | true=>
    rw[L]at g;injection g with g;subst g;obtain rfl:=bY L;refine⟨η',t',d',w',g1,o,u,p,Steps.head (Ix hm) (Steps.trans g6 (.one (acg hm ?_)))⟩;rw[t];simp[exitTo]
   | false=>
    rw[L]at g;injection g with g;subst g;refine⟨η',t',d',w',g1,o,u,p,k1,?_,Steps.head (Ix hm) g6⟩;rw[t];have:(id==Y)=false:=by rw[dP]at L;simpa using L
    simp[exitTo,this]
  ·rename_i J;have B:=E _ _ _ _ g;obtain⟨η',t',d',w',g1,o,u,p,t⟩:=B η w fr cs (.inBlock id::k) c1 ⟨rfl,j⟩ z D A hm hl;refine⟨η',t',d',w',g1,o,u,p,one (Ix hm) ?_⟩;generalize hex:r.ex=ex at t;cases ex with
   | normal=>exact Steps.trans t (.one (acd hm))
   | exit Y=>
    exfalso;obtain⟨ex,T1,v1,H1,n1⟩:=r;simp only at hex;subst hex;exact J _ _ _ _ _ g
   | ret=>exact t
   | panic v=>exact t
 | loop c1=>
  have hwl:=j;have j:within fr.tmps.size c1=true:=j;have r8:bV ty (.loop c1)=pe ty (bV ty c1) c1:=rfl;rw[r8]at i;rcases acj (ty:=ty) (bV ty c1) c1 with F | F | ⟨d,x,l,b,ws,F⟩
  ·rw[F]at i;subst i;simp only[aS]at g;split at g
   ·rename_i T1 v1 H1 n1 h1;have B:=E _ _ _ _ h1;have X:=E _ _ _ _ g;obtain⟨η1,I,M,N,g1,o,u,p,t⟩:=B η w fr cs (.inLoop c1::k) c1 ⟨rfl,j⟩ z D A hm hl;obtain⟨η2,Z,d2,w2,q1,q2,q3,q4,G⟩:=X η1 N (put fr I M []) cs k (.loop c1) ⟨by rw[r8,F],by show within I.size (.loop c1)=true;rw[o];exact hwl⟩ u (D.mono g1.ext) g1.rep hm (hl.trans g1);refine⟨η2,Z,d2,w2,g1.trans q1,q2.trans o,q3,p.next q1 q4 g1.kept.size,?_⟩;refine .of_steps (Steps.head (E8 hm) (Steps.trans t (.one (Iy hm)))) ?_;have Q:step P (lone (put fr I M (.code (.loop c1)::k)) cs N)=.next (lone (put fr I M (.code c1::.inLoop c1::k)) cs N):=E8 hm;have G:iV P η2 (lone (put fr I M (.code (.loop c1)::k)) cs N) fr cs k r.ex Z d2 w2:=G;have ne:∀{todo:List Item},(.code (.loop c1)::k)≠todo->lone (put fr I M (.code (.loop c1)::k)) cs N≠lone (put fr Z d2 todo) cs w2:=by
     intro todo h e;have:=congrArg (λm:Machine=>(m.gs[0]?).map (·.frame.todo)) e;simp[lone,put]at this;exact h this
    generalize r.ex=ex at G;cases ex with
    | normal=>exact Steps.tail G Q (ne (by intro e;have:=congrArg List.length e;simp at this))
    | exit id=>obtain⟨k1,a1,O⟩:=G;exact⟨k1,a1,Steps.tail O Q (ne (by intro e;injection e with e;cases e))⟩
    | ret=>obtain⟨k1,O⟩:=G;exact⟨k1,Steps.tail O Q (ne (by intro e;injection e with e;cases e))⟩
    | panic v=>
     obtain⟨k1,x,a1,O⟩:=G;refine⟨k1,x,a1,Steps.tail O Q λe=>?_⟩;have:=congrArg (λm:Machine=>(m.gs[0]?).map (·.frame.mode)) e;simp[lone,put,hm]at this
   ·rename_i J;have B:=E _ _ _ _ g;obtain⟨η',t',d',w',g1,o,u,p,t⟩:=B η w fr cs (.inLoop c1::k) c1 ⟨rfl,j⟩ z D A hm hl;have hex:r.ex≠.normal:=by
     intro e;obtain⟨ex,T1,v1,H1,n1⟩:=r;simp only at e;subst e;exact J _ _ _ _ g
    exact⟨η',t',d',w',g1,o,u,p,one (E8 hm) (.pass (by intro id h;cases h) hex t)⟩
  ·rw[F]at i;subst i;cases g
  ·rw[F]at i;subst i;exact S.jC c1 d x l b ws T H n r F g η w fr cs k hwl z D A hm hl
 | rangeFunc f ps bZ body=>
  simp only[bV]at i;split at i
  case h_2=>subst i;cases g
  rename_i f' hf;subst i;exact S.oX f ps bZ body f' T H n r hf g η w fr cs k j z D A hm hl
 | exit id=>
  simp only[bV]at i;subst i;simp only[aS]at g;injection g with g;subst g;exact⟨η,fr.tmps,fr.defers,w,.refl A,rfl,z,.refl _ _ _ _ _,k,rfl,.refl _ _⟩
 | scope c1=>
  simp only[bV]at i;subst i;simp only[aS]at g;have j:within fr.tmps.size c1=true:=j;have B:=E _ _ _ _ g;obtain⟨η',t',d',w',g1,o,u,p,t⟩:=B η w fr cs (.inScope c1::k) c1 ⟨rfl,j⟩ z D A hm hl;exact⟨η',t',d',w',g1,o,u,p,one (acf hm) (.back (by intro id h;cases h) (λ_ _ _=>.one (ace hm)) t)⟩
 | ret=>
  simp only[bV]at i;subst i;simp only[aS]at g;injection g with g;subst g;exact⟨η,fr.tmps,fr.defers,w,.refl A,rfl,z,.refl _ _ _ _ _,k,.refl _ _⟩
 | goto l=>simp only[bV]at i;subst i;cases g
 | refuse s=>simp only[bV]at i;subst i;cases g
end ops
end
section
section ops
variable {P:Program}{ty:Ty}{C:Nat->Option aE}{W:Nat->Code->AC->Prop}{ih:cV}{η η':Env}{T:Tr V}{H H':Hp}{n n':K}{w w':World}{v:V}{tmps:Array Value}{ds:List Deferred}{fr:Frame}{cs:List Frame}{k:List Item}
def B7(tmps:Array Value):ResultVar->Sem Value
 | .tmp t=>pure (tmps.getD t undef)
 | .cell a t=>do loadVar t (←asAddr (tmps.getD a undef))
def acn(aC:cP P ty)(d:aK η T tmps)(f:aU W η H n w){c:ResultVar}{e:AR}(b:EC ty c=some e){v:V}(h:result T H e=some v):
 aN P (B7 tmps c) w λy w'=>an η v y/\w'=w:=by
 cases c with
 | tmp t=>
  simp only[EC]at b;injection b with b;subst b;simp only[result]at h;obtain⟨y,h1,h2⟩:=d t v h;refine Ω ⟨?_,rfl⟩;rw[vM,h1];exact h2
 | cell a t=>
  simp only[EC]at b;split at b
  case h_2=>cases b
  rename_i i hi;injection b with b;subst b;simp only[result]at h;split at h
  case h_2=>cases h
  rename_i p hp;obtain⟨y,h1,h2⟩:=d a p hp;have hp:∃A,y=.pointer (some A):=by
   unfold tD at h;split at h
   ·cases h2;exact⟨_,rfl⟩
   ·cases h
  obtain⟨A,rfl⟩:=hp;show aN P (do loadVar t (←asAddr (tmps.getD a undef))) w _;rw[vM,h1];exact ψ (Ω (O2 (aC.ok _ _ hi) f h2 h))
def aco(aC:cP P ty)(c:aK η T tmps)(d:aU W η H n w){l:List ResultVar}{bZ:List AR}(b:tX ty l=some bZ){vs:List V}(h:vU T H bZ=some vs):
 aN P (l.mapM (B7 tmps)) w λys w'=>aL η vs ys/\w'=w:=by
 induction l generalizing bZ vs with
 | nil=>
  simp only[tX]at b;injection b with b;subst b;simp only[vU]at h;injection h with h;subst h;exact Ω ⟨.nil,rfl⟩
 | cons r l ih=>
  simp only[tX]at b;split at b
  case h_2=>cases b
  rename_i a i h1 h2;injection b with b;subst b;simp only[vU]at h;split at h
  case h_2=>cases h
  rename_i v j e f;injection h with h;subst h;rw[List.mapM_cons];refine ψ ((acn aC c d h1 e).mono ?_);rintro y w' ⟨g1,rfl⟩;refine ψ ((ih h2 f).mono ?_);rintro ys w' ⟨g,rfl⟩;exact Ω ⟨.cons _ _ _ _ g1 g,rfl⟩
def IB(aC:cP P ty)(f:aK η T tmps)(g:aU W η H n w){fn:Func}{bZ:List AR}(i:tX ty fn.results.toList=some bZ){v:V}(h:qi bZ T H=some v):
 ∃y,(results fn tmps).run P w=.ok y w/\an η v y:=by
 have key:∀vs,vU T H bZ=some vs->(∀ys,aL η vs ys->an η v (if h:ys.toArray.size=1 then ys.toArray[0] else .tuple ys.toArray))->∃y,(results fn tmps).run P w=.ok y w/\an η v y:=by
  intro vs d j;obtain⟨ys,w',h1,h2,rfl⟩:=aco aC f g i d;refine⟨_,?_,j ys h2⟩;have e:results fn tmps=(do let vs←fn.results.mapM (B7 tmps);pure (if h:vs.size=1 then vs[0] else .tuple vs)):=rfl
  rw[e,Array.mapM_eq_mapM_toList];show(Sem.bind (Sem.bind (fn.results.toList.mapM (B7 tmps)) _) _).run P w'=_;rw[Sem.run_bind',Sem.run_bind',h1];rfl
 unfold qi at h;split at h
 ·rename_i u m;injection h with h;subst h;refine key _ m λys c=>?_;cases c with
  | cons _ y _ l a b=>cases b;simpa using a
 ·rename_i vs o d;injection h with h;subst h;refine key _ d λys c=>?_;have hlen:=c.length;have:¬ ys.toArray.size=1:=by
   intro e;simp at e;rw[e]at hlen;cases vs with
   | nil=>cases hlen
   | cons a l=>cases l with
    | nil=>exact o a rfl
    | cons=>simp at hlen
  rw[dif_neg this];exact .u _ _ c
 ·cases h
def IC:∀(vs:List V) (xs:List Value) (i m:Nat) (T T':Tr V),aL η vs xs->aK η T tmps->(∀j x,xs[j]?=some x->tmps[i+j]?=some x)->binds ((List.range' i m).map bF) vs T=some T'->aK η T' tmps:=by
 intro vs
 induction vs with
 | nil=>intro xs i m T T' hv b c h;cases hv;cases m<;>(simp only[List.range'_zero,List.range'_succ,eY,List.map_nil,binds]at h;injection h with h;subst h;exact b)
 | cons v vs ih=>
  intro xs i m T T' hv b c h;cases hv with
  | cons _ x _ xs h1 h2=>
   cases m with
   | zero=>simp only[List.range'_zero,List.map_nil,binds]at h;cases h
   | succ m=>
    rw[List.range'_succ,eY]at h;simp only[binds]at h;refine ih xs (i+1) m _ T' h2 ?_ (λj y hj=>by have:=c (j+1) y (by simpa using hj);rw[←this];congr 1;omega) h;intro t u a;rw[Tr.fk]at a;split at a
    ·rename_i e;have:=ED e;subst this;injection a with a;subst a;exact⟨x,by have:=c 0 x (by simp);simpa using this,h1⟩
    ·exact b t u a
def Qx{bs:List Nat}{b:Nat}{ds0:List Deferred}(hm:fr.mode≠.run)(h:w.heap[b]?=some (.deferred (some []))):
 step P (lone { fr with defers:={ target:=.collected b,args:=#[]}::ds0} cs w)=.next (lone { fr with defers:=ds0} cs { w with heap:=w.heap.setIfInBounds b (.deferred none)}):=by
 obtain⟨fn,a,todo,defers,mode,kind,roundOf⟩:=fr;simp only at hm;refine ic ?_;have:(Instr.takeDeferred b).run P w=.ok [] { w with heap:=w.heap.setIfInBounds b (.deferred none)}:=by simp[Instr.takeDeferred,getObj,setObj,bind,Sem.bind,Sem.run,h,pure]
 cases mode with
 | run=>exact absurd rfl hm
 | _=>
  simp only[stepG,unwind,Sem.runT_eq,this,GStep.bare_after,List.nil_append];rfl
def returning(hm:fr.mode=.run)(a:fr.roundOf=none):step P (lone (put fr tmps ds []) cs w)=.next (lone { put fr tmps ds [] with mode:=.returning} cs w):=by obtain⟨fn,b,todo,defers,mode,kind,roundOf⟩:=fr;simp only at hm a;subst hm;subst a;exact ic (by simp[put,stepG,stepG.exec])
def Fa(hm:fr.mode=.run)(a:fr.roundOf=none):step P (lone (put fr tmps ds (.code .ret::k)) cs w)=.next (lone { put fr tmps ds (.code .ret::k) with mode:=.returning} cs w):=by obtain⟨fn,b,todo,defers,mode,kind,roundOf⟩:=fr;simp only at hm a;subst hm;subst a;exact ic (by simp[put,stepG,stepG.exec])
def aU.Qy(h:aU W η H n w){b:Nat}{d:Option (List Deferred)}(hb:w.heap[b]?=some (.deferred d))(m:Bool):¬ lQ η H m b:=by
 rintro⟨q,o,L,h1,_,h2,rfl⟩;obtain⟨L',g1,e,a⟩:=h.obj q o h1;rw[h2]at g1;injection g1 with g1;subst g1;rw[hb]at a;cases o with
 | lp _ _ _ _ _ _=>obtain⟨_,h1,_⟩:=a;cases h1
 | c _ _ _=>obtain⟨_,_,h1,_⟩:=a;cases h1
 | r _=>obtain⟨_,_,_,h1,_⟩:=a;cases h1
 | mp _ _=>obtain⟨_,h1,_⟩:=a;cases h1
 | mi _ _=>obtain⟨_,_,_,h1⟩:=a;cases h1
 | me _ _ _=>obtain⟨_,_,_,_,_,h1,_⟩:=a;cases h1
 | it _ _ _=>obtain⟨_,h1,_⟩:=a;cases h1
 | b _ _ _=>obtain⟨_,_,_,h1,_⟩:=a;cases h1
def Trans.deferred(h:Trans W η H n w η' H' n' w'){b:Nat}{d d':Option (List Deferred)}(hb:w'.heap[b]?=some (.deferred d))(hs:w.heap.size<=b):
 Trans W η H n w η' H' n' { w' with heap:=w'.heap.setIfInBounds b (.deferred d')} where
 ext:=h.ext
 le:=h.le
 rep:=
  {obj:=λq o a=>by
    obtain⟨L,g1,c,f⟩:=h.rep.obj q o a;refine⟨L,g1,by simpa using c,?_⟩;show gN W η' o L (w'.heap.setIfInBounds b (.deferred d'))[L.blk]?;rw[gj,Γ]
    ·exact f
    ·intro e;exact h.rep.Qy hb false ⟨q,o,L,a,(λh=>by cases h),g1,e.symm⟩
   sep:=h.rep.sep
   free:=h.rep.free}
 kept:=
  {os:=h.kept.os
   tape:=h.kept.tape
   output:=h.kept.output
   size:=by simpa using h.kept.size
   block:=λq a g=>by show(w'.heap.setIfInBounds b (.deferred d'))[q]?=_;rw[gj,Γ (by omega)];exact h.kept.block q a g
   loops:=λq r a=>by
    obtain⟨r',h1⟩:=h.kept.loops q r a;refine⟨r',?_⟩;show(w'.heap.setIfInBounds b (.deferred d'))[q]?=_;rw[gj,Γ]
    ·exact h1
    ·intro e;rw[e,h1]at hb;cases hb}
 ka:=h.ka
 bC:=h.bC
def Fb:∀(bs:List Nat) (w':World),fr.mode≠.run->Trans W η H n w η' H' n' w'->(∀b∈bs,w.heap.size<=b/\w'.heap[b]?=some (.deferred (some [])))->bs.Nodup->∃a,Steps P (lone { fr with defers:=bs.map (λb=>{ target:=.collected b,args:=#[]})} cs w') (lone { fr with defers:=[]} cs a)/\Trans W η H n w η' H' n' a:=by
 intro bs
 induction bs with
 | nil=>intro w' hm ht _ _;exact⟨w',.refl _ _,ht⟩
 | cons b bs ih=>
  intro w' hm ht hb c;obtain⟨h1,h2⟩:=hb b (by simp);have f:=ht.deferred (d':=none) h2 h1;obtain⟨a,g,h⟩:=ih _ hm f (λq d=>by
   obtain⟨g1,i⟩:=hb q (by simp[d]);refine⟨g1,?_⟩;have j:b≠q:=λe=>by rw[e]at c;exact(List.nodup_cons.1 c).1 d
   show(w'.heap.setIfInBounds b (.deferred none))[q]?=_;rw[gj,Γ j];exact i) (List.nodup_cons.1 c).2
  exact⟨a,Steps.head (Qx (bs:=bs) hm h2) g,h⟩
def acp{c:Frame}{x:Value}{fn:Func}(hf:P.funcs[fr.fn]?=some fn)(a:fr.defers=[])(hm:fr.mode=.panicking [{ v:=x,recovered:=false}]):
 step P (lone fr (c::cs) w)=.next (lone (c.raise [{ v:=x,recovered:=false}]) cs w):=by
 obtain⟨b,d,todo,defers,mode,kind,roundOf⟩:=fr;simp only at hf a hm;subst a;subst hm;refine ic ?_;have e:Frame.catches P { fn:=b,tmps:=d,todo,defers:=[],mode:=.panicking [{ v:=x,recovered:=false}],kind,roundOf}=false:=by unfold Frame.catches;simp only[hf]
 simp only[stepG,unwind,e];rfl
def acr(U:Good P ty C)(dU:kE P ty ih){g:Nat}{a c l:List V}{af:AF}(X:C g=some (.go af)){r:R}(m:aS C ih (.call (.f g a c) l) H n=some r):kD P ty (.call (.f g a c) l) H n r:=by
 intro η w cf cs fv args tH jq hG hH;obtain⟨fn,E,qu,s⟩:=U.fn g af X;simp only[aS,X]at m;split at m
 case h_2=>cases m
 rename_i T I;unfold sQ at s;split at s
 case h_2=>cases s
 rename_i body rs Y AX;cases J:within fn.ntmps body with
 | false=>rw[J]at s;cases s
 | true=>
  rw[J]at s;simp only[cond_true]at s;injection s with s;subst s;simp only at m I;cases tH with
  | f _ _ _ a' c' ha j3=>
  have Z:aL η (a++(l++c)) (a'++(args++c')):=ha.append (jq.append j3);generalize ff:a'++(args++c')=xs at Z;let p:Array Value:=xs.toArray;let tm:Array Value:=p++Array.replicate (fn.ntmps - p.size) undef;have xP:fn.ntmps<=tm.size:=by simp only[tm,xm,Array.size_replicate];omega
  have hT:aK η T tm:=by rw[vN]at I;refine IC (tmps:=tm) _ xs 0 _ .e T Z (λt v h=>by rw[Tr.gV]at h;cases h) (λj x hj=>?_) I;have ω:=(cZ.1 hj).1;rw[eV];simp only[tm];rw[Array.getElem?_append_left (by simpa[p]using ω)];simpa[p]using hj
  have ID:∀(N M:Nat),N<=M->∀c,within N c=true->within M c=true:=by
   intro N M hNM;have hd:∀l,ij N l=true->ij M l=true:=by
    intro l
    induction l with
    | nil=>intro _;rfl
    | cons o l ih=>
     intro h;simp only[ij,aD]at h ⊢;refine⟨?_,ih h.2⟩;have h1:=h.1;split at h1
     ·rename_i d hd;rw[fF,cC]at h1 ⊢;omega
     ·rfl
   have hb:∀l,m9 N l=true->m9 M l=true:=by
    intro l
    induction l with
    | nil=>intro _;rfl
    | cons d l ih=>
     intro h;simp only[m9,aD]at h ⊢;refine⟨?_,ih h.2⟩;have h1:=h.1;rw[fF,cC]at h1 ⊢;omega
   intro c
   induction c with
   | region id ops dr=>exact hd _
   | seq a b q B=>intro h;simp only[within,aD]at h ⊢;exact⟨q h.1,B h.2⟩
   | cond x a b q B=>intro h;simp only[within,aD]at h ⊢;exact⟨q h.1,B h.2⟩
   | block id a q=>exact q
   | loop a q=>exact q
   | scope a q=>exact q
   | rangeFunc f ps a b q B=>intro h;simp only[within,aD]at h ⊢;exact⟨⟨hb _ h.1.1,q h.1.2⟩,B h.2⟩
   | _=>intro _;rfl
  let i:Frame:={ fn:=g,tmps:=tm,todo:=[.code body],defers:=[],mode:=.run,kind:=.normal};have qv:Frame.enter P g p .normal=put i i.tmps i.defers (.code body::[]):=by simp[Frame.enter,E,Y,put,i,tm]
  have oD:(do let d←Deferred.ofValue (.func (.func g) ⟨a'⟩ ⟨c'⟩) args.toArray;invoke d.target d.args:Sem Next).run P w=.ok (.enter g p) w:=by
   have X9:(⟨a'⟩:Array Value)++args.toArray++(⟨c'⟩:Array Value)=p:=by apply jB;simp[p,←ff]
   have:(do let d←Deferred.ofValue (.func (.func g) ⟨a'⟩ ⟨c'⟩) args.toArray;invoke d.target d.args:Sem Next)=callFunc g ((⟨a'⟩:Array Value)++args.toArray++(⟨c'⟩:Array Value)):=rfl;rw[this,X9];have IE:¬ fn.name = "runtime.NumGoroutine":=by simpa using qu
   simp[callFunc,program,bind,Sem.bind,Sem.run,E,IE,Y,pure]
  have run:∀r1,ih (.code (bV ty body) T) H n=some r1->∃(η':Env) (t':Array Value) (w':World) (bs:List Nat) (k1:List Item),Trans (WW ty) η H n w η' r1.H r1.n w'/\aK η' r1.T t'/\bs.Nodup/\(∀b∈bs,w.heap.size<=b/\w'.heap[b]?=some (.deferred (some [])))/\iV P η' (lone (put i i.tmps i.defers (.code body::[])) (cf::cs) w) i (cf::cs) k1 r1.ex t' (bs.map (λb=>{ target:=.collected b,args:=#[]})) w'/\k1=[]:=by
   intro r1 h1;obtain⟨η',t',d',w',g1,g2,F,⟨bs,L,D,A⟩,z⟩:=dU _ _ _ _ h1 η w i (cf::cs) [] body ⟨rfl,ID _ _ xP _ J⟩ hT hG hH rfl (by intro l h;cases h);have L:d'=bs.map (λb=>{ target:=.collected b,args:=#[]}):=by simpa[i]using L
   subst L;exact⟨η',t',w',bs,[],g1,F,D,λb hb=>⟨(A b hb).1,(A b hb).2.1⟩,z,rfl⟩
  split at m
  ·cases m
  ·rename_i u T1 v1 H1 n1 h1;injection m with m;subst m;refine⟨(λh=>by cases h),λu' O=>?_⟩;injection O with O;subst O;obtain⟨η',t',w',bs,_,g1,F,D,A,⟨k1,x,g6,z⟩,rfl⟩:=run _ h1;obtain⟨Q,S,G⟩:=Fb (P:=P) (cs:=cf::cs) (fr:={ put i t' [] k1 with mode:=.panicking [{ v:=x,recovered:=false}]}) bs w' (by intro h;cases h) g1 A D
   refine⟨η',x,Q,G,g6,g,p,w,oD,?_⟩;rw[qv];exact Steps.trans z (Steps.trans S (.one (acp (fn:=fn) E rfl rfl)))
  ·rename_i ex T1 v1 H1 n1 IF IG h1;split at m
   case h_2=>cases m
   rename_i v hv;injection m with m;subst m;refine⟨λ_=>?_,λu h=>by cases h⟩;obtain⟨η',t',w',bs,_,g1,F,D,A,z,rfl⟩:=run _ h1;have leave:∃todo,Steps P (lone (put i i.tmps i.defers (.code body::[])) (cf::cs) w) (lone { put i t' (bs.map (λb=>{ target:=.collected b,args:=#[]})) todo with mode:=.returning} (cf::cs) w'):=by
    cases ex with
    | normal=>exact⟨_,Steps.trans z (.one (returning rfl rfl))⟩
    | ret=>obtain⟨k1,z⟩:=z;exact⟨_,Steps.trans z (.one (Fa rfl rfl))⟩
    | exit id=>exact(IF id rfl).elim
    | panic u=>exact(IG u rfl).elim
   obtain⟨todo,s1⟩:=leave;obtain⟨Q,S,G⟩:=Fb (P:=P) (cs:=cf::cs) (fr:={ put i t' [] todo with mode:=.returning}) bs w' (by intro h;cases h) g1 A D;obtain⟨y,DH,xR⟩:=IB U.aC F G.rep AX hv;refine⟨η',y,Q,G,xR,.enter g p,w,oD,?_⟩;show Steps P (lone (Frame.enter P g p .normal) (cf::cs) w) _;rw[qv];exact Steps.trans s1 (Steps.trans S (.one (step_leave_returned ⟨rfl,rfl,rfl,fn,E,DH⟩)))
  ·cases m
end ops
end
section
section ops
variable {P:Program}{ty:Ty}{C:Nat->Option aE}{W:Nat->Code->AC->Prop}{ih:cV}{η η':Env}{T:Tr V}{H H':Hp}{n n':K}{w w':World}{v:V}{tmps:Array Value}{ds:List Deferred}{fr:Frame}{cs:List Frame}{k:List Item}
def Fc(a:aU W η H n w){q:K}{ready:Bool}{gn:Ex}{T:Tr V}{ps:List K}{bZ body:AC}(h:H.get q=some (.lp ready gn T ps bZ body)){L:Loc}(b:η q=some L):
 ∃r,w.heap[L.blk]?=some (.loop r)/\(r.state=if ready then .ready else if gn.iY then .busy else .done)/\r.pending=lj gn/\aK η T r.tmps/\ps=r.params.toList.map bF/\m9 r.tmps.size r.params.toList=true/\W r.tmps.size r.assign bZ/\W r.tmps.size r.body body:=by
 obtain⟨L',h1,h2,r,c⟩:=a.obj q _ h;rw[b]at h1;injection h1 with h1;subst h1;exact⟨r,c⟩
def acu:∀(vs:List V) (xs:List Value) (ps:List Nat) (T T':Tr V) (tmps:Array Value),aL η vs xs->aK η T tmps->m9 tmps.size ps=true->ps.length=vs.length->binds (ps.map bF) vs T=some T'->aK η T' ((ps.zip xs).foldl (λtmps (t,a)=>tmps.setIfInBounds t a) tmps)/\((ps.zip xs).foldl (λtmps (t,a)=>tmps.setIfInBounds t a) tmps).size=tmps.size:=by
 intro vs
 induction vs with
 | nil=>
  intro xs ps T T' tmps hv b hb hlen h;cases hv;cases ps with
  | nil=>simp only[List.map_nil,binds]at h;injection h with h;subst h;exact⟨b,rfl⟩
  | cons=>cases hlen
 | cons v vs ih=>
  intro xs ps T T' tmps hv b hb hlen h;cases hv with
  | cons _ x _ xs h1 h2=>
   cases ps with
   | nil=>cases hlen
   | cons p ps=>
    simp only[eY,binds]at h;simp only[m9,aD,fF,cC]at hb;simp only[List.zip_cons_cons,List.foldl_cons];obtain⟨g1,c⟩:=ih xs ps _ T' (tmps.setIfInBounds p x) h2 (b.set hb.1 h1) (by simpa using hb.2) (by simpa using hlen) h;exact⟨g1,by rw[c];simp⟩
def acv{l:Nat}{r:Go.Loop}{args:Array Value}(h:w.heap[l]?=some (.loop r))(b:args.size=r.params.size):
 (Instr.yield l args).run P w=.ok (.round l r.fn ((r.params.zip args).foldl (λtmps (t,a)=>tmps.setIfInBounds t a) r.tmps) r.assign r.body) w:=by
 simp[Instr.yield,Instr.getLoop,getObj,bind,Sem.bind,Sem.run,h,pure,b]
def acw{l:Nat}{r:Go.Loop}(hm:fr.mode=.run)(a:fr.roundOf=some l)(h:w.heap[l]?=some (.loop r))(b:r.state=.ready):
 step P (lone (put fr tmps ds (.beginRound::k)) cs w)=.next (lone (put fr tmps ds k) cs { w with heap:=w.heap.setIfInBounds l (.loop { r with state:=.busy})}):=by
 obtain⟨fn,d,todo,defers,mode,kind,roundOf⟩:=fr;simp only at hm a;subst hm;subst a;have c:(do Instr.beginRound l;pure Next.skip:Sem Next).run P w=.ok .skip { w with heap:=w.heap.setIfInBounds l (.loop { r with state:=.busy})}:=by simp[Instr.beginRound,Instr.getLoop,getObj,setObj,bind,Sem.bind,Sem.run,h,pure,b]
 refine ic ?_;have:=It (P:=P) (fr:={ fn,tmps,todo:=.beginRound::k,defers:=ds,mode:=.run,kind,roundOf:=some l}) (cs:=cs) c;simpa[put,stepG,stepG.exec,Frame.finish]using this
def acx{l:Nat}{r:Go.Loop}(h:w.heap[l]?=some (.loop r))(j:Option Code):
 (Instr.endRound l j).run P w=.ok (.bool j.isNone) { w with heap:=w.heap.setIfInBounds l (.loop { r with state:=if j.isNone then .ready else .done,pending:=j})}:=by
 simp[Instr.endRound,Instr.getLoop,getObj,setObj,bind,Sem.bind,Sem.run,h,pure]
def acy{l:Nat}{r:Go.Loop}{c:Frame}(hm:fr.mode=.run)(a:fr.roundOf=some l)(b:fr.kind=.normal)(h:w.heap[l]?=some (.loop r))(ex:Ex)
 (ht:match ex with | .normal=>k=[] | .exit id=>∃k1,k=.code (.exit id)::k1/\exitTo id k1=none | .ret=>∃k1,k=.code .ret::k1 | .panic _=>False):
 step P (lone (put fr tmps ds k) (c::cs) w)=.next (lone (c.finish (.bool ex.iY)) cs { w with heap:=w.heap.setIfInBounds l (.loop { r with state:=if (lj ex).isNone then .ready else .done,pending:=lj ex})}):=by
 obtain⟨fn,e,todo,defers,mode,kind,roundOf⟩:=fr;simp only at hm a b;subst hm;subst a;subst b;have he:=λj=>acx (P:=P) h j;refine ic ?_;cases ex with
 | normal=>
  simp only at ht;subst ht;have:=he none;simp[put,stepG,stepG.exec,this,doReturn,lj,Ex.iY]
 | exit id=>
  obtain⟨k1,rfl,d⟩:=ht;have:=he (some (.exit id));simp[put,stepG,stepG.exec,d,this,doReturn,lj,Ex.iY]
 | ret=>
  obtain⟨k1,rfl⟩:=ht;have:=he (some .ret);simp[put,stepG,stepG.exec,this,doReturn,lj,Ex.iY]
 | panic v=>exact ht.elim
end ops
end
section
section ops
variable {P:Program}{ty:Ty}{C:Nat->Option aE}{W:Nat->Code->AC->Prop}{ih:cV}{η η':Env}{T:Tr V}{H H':Hp}{n n':K}{w w':World}{v:V}{tmps:Array Value}{ds:List Deferred}{fr:Frame}{cs:List Frame}{k:List Item}
def acz(hC:Good P ty C)(F:kE P ty ih){q:K}{l:List V}{r:R}(c:aS C ih (.call (.y q) l) H n=some r):kD P ty (.call (.y q) l) H n r:=by
 intro η w cf cs fv args tH B G I;simp only[aS]at c;split at c
 case h_2=>cases c
 rename_i T ps bZ body hq;split at c
 case h_2=>cases c
 rename_i T' IH;cases hlen:Nat.beq ps.length l.length with
 | false=>rw[hlen]at c;cases c
 | true=>
  rw[hlen]at c;simp only[cond_true]at c;have hlen:=bY hlen;split at c
  case h_2=>cases c
  rename_i T1 v1 H1 n1 h1;split at c
  case h_2=>cases c
  rename_i Tb J M N O;split at c
  case h_2=>cases c
  rename_i r2 h2;split at c
  case h_2=>cases c
  rename_i Tc Q S X Y;cases j:r2.ex.qj with
  | true=>rw[j]at c;cases c
  | false=>
  rw[j]at c;simp only[cond_false]at c;injection c with c;subst c;refine⟨λ_=>?_,λu h=>by cases h⟩;cases tH with
  | y _ L Z=>
  obtain⟨lp,a1,a2,a3,a4,a5,a6,a7,a8⟩:=Fc I hq Z;have dN:args.length=lp.params.size:=by
   have D:ps.length=lp.params.size:=by rw[a5];simp
   rw[←B.length,←hlen,D]
  obtain⟨b1,b2⟩:=acu l args lp.params.toList T T' lp.tmps B a4 a6 (by rw[←B.length]at dN;simp;omega) (by rw[←a5];exact IH);let tm:Array Value:=(lp.params.toList.zip args).foldl (λtmps (t,a)=>tmps.setIfInBounds t a) lp.tmps;let e:Frame:={ fn:=lp.fn,tmps:=tm,todo:=[],defers:=[],mode:=.run,kind:=.normal,roundOf:=some L.blk};have xP:((lp.params.zip args.toArray).foldl (λtmps (t,a)=>tmps.setIfInBounds t a) lp.tmps)=tm:=by rw[←Array.foldl_toList];simp only[tm];congr 1;simp
  have oD:(do let d←Deferred.ofValue (.func (.yield L.blk) #[] #[]) args.toArray;invoke d.target d.args:Sem Next).run P w=.ok (.round L.blk lp.fn tm lp.assign lp.body) w:=by have:(do let d←Deferred.ofValue (.func (.yield L.blk) #[] #[]) args.toArray;invoke d.target d.args:Sem Next)=Instr.yield L.blk ((#[]:Array Value)++args.toArray):=rfl;rw[this,Array.empty_append,acv a1 (by simpa using dN),xP]
  have j1:=F _ _ _ _ h1;have j2:=F _ _ _ _ h2;obtain⟨η1,m,p,f,g1,g2,g3,g4,g5⟩:=j1 η w e (cf::cs) [.beginRound,.code lp.body] lp.assign (by show WW ty tm.size lp.assign bZ;rw[show tm.size=lp.tmps.size from b2];exact a7) b1 G I rfl
   (λl hl=>by injection hl with hl;subst hl;exact⟨lp,a1⟩)
  have E:η1 q=some L:=g1.ext _ _ Z;obtain⟨g,c1,c2,c3,c4,c5,c6,c7,c8⟩:=Fc g1.rep O E;have tb:Trans (WW ty) η1 H1 n1 f η1 (H1.put (some (.lp false .normal Tb J M N)) q) n1 { f with heap:=f.heap.setIfInBounds L.blk (.loop { g with state:=.busy})}:=
   Trans.write (o':=.lp false .normal Tb J M N) (ob:=.loop { g with state:=.busy}) g1.rep O rfl E ⟨{ g with state:=.busy},rfl,rfl,c3,c4,c5,c6,c7,c8⟩ rfl
  have s1:=acw (P:=P) (fr:=e) (tmps:=m) (ds:=p) (k:=[.code lp.body]) (cs:=cf::cs) U U c1 (by simpa using c2);obtain⟨s,t2,d2,i,z,q2,q3,q4,o⟩:=j2 η1 _ (put e m p []) (cf::cs) [] lp.body (by show WW ty m.size lp.body body;rw[g2,show e.tmps.size=lp.tmps.size from b2];exact a8) g3 (G.mono g1.ext) tb.rep U
   (λl hl=>by injection hl with hl;subst hl;refine⟨{ g with state:=.busy},?_⟩;show(f.heap.setIfInBounds L.blk _)[L.blk]?=_;have ω:=(mU.1 c1).1;simp[gj,ω])
  have wH:s q=some L:=z.ext _ _ E;obtain⟨A,D,e2,e3,e4,e5,e6,e7,e8⟩:=Fc z.rep Y wH;have acF:(if (lj r2.ex).isNone then LoopState.ready else LoopState.done)=(if r2.ex.iY then LoopState.ready else if r2.ex.iY then .busy else .done):=by generalize r2.ex=ex at j;cases ex<;>first | rfl | cases j
  have te:Trans (WW ty) s r2.H r2.n i s (r2.H.put (some (.lp r2.ex.iY r2.ex Tc Q S X)) q) r2.n
   {i with heap:=i.heap.setIfInBounds L.blk (.loop { A with state:=if (lj r2.ex).isNone then .ready else .done,pending:=lj r2.ex})}:=
   Trans.write (o':=.lp r2.ex.iY r2.ex Tc Q S X) (ob:=.loop { A with state:=if (lj r2.ex).isNone then .ready else .done,pending:=lj r2.ex}) z.rep Y rfl wH ⟨{ A with state:=if (lj r2.ex).isNone then .ready else .done,pending:=lj r2.ex},rfl,acF,rfl,e4,e5,e6,e7,e8⟩ rfl
  refine⟨s,.bool r2.ex.iY,_,((g1.trans tb).trans z).trans te,.b _,_,w,oD,?_⟩;have acG:Frame.round L.blk lp.fn tm lp.assign lp.body .normal=put e e.tmps e.defers (.code lp.assign::[.beginRound,.code lp.body]):=rfl;show Steps P (lone (Frame.round L.blk lp.fn tm lp.assign lp.body .normal) (cf::cs) w) _;rw[acG];refine Steps.trans g5 (Steps.head s1 ?_);have o:iV P s (lone (put e m p (.code lp.body::[])) (cf::cs) { f with heap:=f.heap.setIfInBounds L.blk (.loop { g with state:=.busy})}) e (cf::cs) [] r2.ex t2 d2 i:=o;have fin:∀(x:List Item),(match r2.ex with | .normal=>x=[] | .exit id=>∃k1,x=.code (.exit id)::k1/\exitTo id k1=none | .ret=>∃k1,x=.code .ret::k1 | .panic _=>False)->Steps P (lone (put e m p (.code lp.body::[])) (cf::cs) { f with heap:=f.heap.setIfInBounds L.blk (.loop { g with state:=.busy})}) (lone (put e t2 d2 x) (cf::cs) i)->Steps P (lone (put e m p (.code lp.body::[])) (cf::cs) { f with heap:=f.heap.setIfInBounds L.blk (.loop { g with state:=.busy})})
   (lone (cf.finish (.bool r2.ex.iY)) cs { i with heap:=i.heap.setIfInBounds L.blk (.loop { A with state:=if (lj r2.ex).isNone then .ready else .done,pending:=lj r2.ex})}):=
   λx hk hs=>Steps.trans hs (.one (acy (fr:=e) U U U D r2.ex hk))
  generalize hex:r2.ex=ex at o fin j ⊢;cases ex with
  | normal=>exact fin [] rfl o
  | exit id=>obtain⟨k1,x1,x2⟩:=o;exact fin _ ⟨k1,rfl,x1⟩ x2
  | ret=>obtain⟨k1,x2⟩:=o;exact fin _ ⟨k1,rfl⟩ x2
  | panic v=>cases j
end ops
end
section
section ops
variable {P:Program}{ty:Ty}{C:Nat->Option aE}{W:Nat->Code->AC->Prop}{ih:cV}{η η':Env}{T:Tr V}{H H':Hp}{n n':K}{w w':World}{v:V}{tmps:Array Value}{ds:List Deferred}{fr:Frame}{cs:List Frame}{k:List Item}
def Trans.push(h:aU W η H n w)(ob:Obj):Trans W η H n w η H n { w with heap:=w.heap.push ob} where
 ext:=.refl _
 le:=ξ _
 rep:=
  {obj:=λq o a=>by
    obtain⟨L,g1,d,c⟩:=h.obj q o a;refine⟨L,g1,by simp;omega,?_⟩;show gN W η o L (w.heap.push ob)[L.blk]?;rw[zk,Γ (by omega)];exact c
   sep:=h.sep
   free:=h.free}
 kept:=
  {os:=rfl
   tape:=rfl
   output:=rfl
   size:=by simp
   block:=λb hb _=>by show(w.heap.push ob)[b]?=_;rw[zk,Γ (by omega)]
   loops:=λb r hb=>⟨r,by
    have e:=(mU.1 hb).1;show(w.heap.push ob)[b]?=_;rw[zk,Γ (by omega)];exact hb⟩}
 ka:=λ_ _ h=>.inl h
 bC:=λ_ _=>rfl
def Trans.drop(h:aU W η H n w){q:K}{o:O}{L:Loc}(g:H.get q=some o)(hm:o.mut=true)(i:η q=some L)(lp:Go.Loop):
 Trans W η H n w η (H.put none q) n { w with heap:=w.heap.setIfInBounds L.blk (.loop lp)}:=by
 obtain⟨L0,f,j,_⟩:=h.obj q o g;rw[i]at f;injection f with f;subst f;have get:∀c o',(H.put none q).get c=some o'->c≠q/\H.get c=some o':=λc o' d=>by
  rw[Tr.fk]at d;split at d
  ·cases d
  ·rename_i e;exact⟨e,d⟩
 refine⟨.refl _,ξ _,⟨λc o' d=>?_,λa b o1 o2 L1 L2 l h1 p h2=>h.sep a b o1 o2 L1 L2 l (get _ _ h1).2 p (get _ _ h2).2,h.free⟩,⟨rfl,rfl,rfl,by simp,λb hb s=>?_,λb r hb=>?_⟩,λm b ⟨c,o',L',h1,h2,t,u⟩=>.inl ⟨c,o',L',(get _ _ h1).2,h2,t,u⟩,λ_ _=>rfl⟩
 ·obtain⟨e,h1⟩:=get _ _ d;obtain⟨L',g1,x,y⟩:=h.obj c o' h1;refine⟨L',g1,by simpa using x,?_⟩;show gN W η o' L' (w.heap.setIfInBounds L.blk (.loop lp))[L'.blk]?;rw[gj,Γ (h.sep q c o o' L L' (λz=>e z.symm) g hm h1 i g1)];exact y
 ·show(w.heap.setIfInBounds L.blk (.loop lp))[b]?=_;rw[gj,Γ];intro e;exact s ⟨q,o,L,g,λ_=>hm,i,e⟩
 ·show ∃r',(w.heap.setIfInBounds L.blk (.loop lp))[b]?=_;rw[gj];by_cases e:L.blk=b
  ·rw[ab e,ab j];exact⟨lp,rfl⟩
  ·rw[Γ e];exact⟨r,hb⟩
def acH{i:Frame}{w0:World}{s:Sem Next}{x:Value}
 (e:(stepG P true { frame:=i,callers:=cs,status:=.running,dying:=none} w0).bare=(stepG.apply P true fr cs none s w).bare)
 (m:∀d r o k,fr.todo≠.call d true r o::k)(h:zO P s fr cs w x w'):Steps P (lone i cs w0) (lone (fr.finish x) cs w'):=by
 obtain⟨p,q,f,c⟩:=h;have j:(match fr.todo with | .call _ true _ _::_=>CallKind.wrapped | _=>.normal)=.normal:=by
  split
  ·rename_i h;exact absurd h (m _ _ _ _)
  ·rfl
 cases p<;>try exact c.elim
 case value y=>
  obtain⟨rfl,rfl⟩:=c;exact .one (ic (by rw[e];exact Qo f))
 case skip=>
  obtain⟨rfl,rfl⟩:=c;exact .one (ic (by rw[e];exact It f))
 case enter g a=>
  refine .head (ic ?_) c;rw[e];simp only[stepG.apply,Sem.runT_eq,f,GStep.bare_after,j];rfl
 case round l g t a b=>
  refine .head (ic ?_) c;rw[e];simp only[stepG.apply,Sem.runT_eq,f,GStep.bare_after,j];rfl
def acI(h:jV fr w)(ps:Array Nat)(bZ body:Code):∃mark a lp,(Instr.enterLoop fr.fn tmps ps bZ body fr.roundOf).run P w=.ok (a.heap.size,mark) { a with heap:=a.heap.push (.loop lp)}/\lp.state=.ready/\lp.pending=none/\lp.tmps=tmps/\lp.params=ps/\lp.assign=bZ/\lp.body=body/\((mark=[]/\a=w)\/(mark=[{ target:=.collected w.heap.size,args:=#[]}]/\a={ w with heap:=w.heap.push (.deferred (some []))})):=by
 cases b:fr.roundOf with
 | none=>
  refine⟨[{ target:=.collected w.heap.size,args:=#[]}],{ w with heap:=w.heap.push (.deferred (some []))},{ state:=.ready,pending:=none,fn:=fr.fn,tmps:=tmps,params:=ps,assign:=bZ,body:=body,defers:=w.heap.size},?_,rfl,rfl,rfl,rfl,rfl,rfl,.inr ⟨rfl,rfl⟩⟩;simp only[Instr.enterLoop,newObj,bind,Sem.bind,Sem.run,pure]
 | some l=>
  obtain⟨q,c⟩:=h l b;refine⟨[],w,{ state:=.ready,pending:=none,fn:=fr.fn,tmps:=tmps,params:=ps,assign:=bZ,body:=body,defers:=q.defers},?_,rfl,rfl,rfl,rfl,rfl,rfl,.inl ⟨rfl,rfl⟩⟩;simp only[Instr.enterLoop,Instr.getLoop,getObj,newObj,bind,Sem.bind,Sem.run,pure,c]
def acJ{l:Nat}{lp:Go.Loop}(hm:fr.mode=.run)(h:w.heap[l]?=some (.loop lp))(a:lp.state≠.busy):
 step P (lone (put fr tmps ds (.endRangeFunc l::k)) cs w)=.next (lone (put fr tmps ds ((lp.pending.map Item.code).toList++k)) cs { w with heap:=w.heap.setIfInBounds l (.loop { lp with state:=.exhausted})}):=by
 obtain⟨fn,c,todo,defers,mode,kind,roundOf⟩:=fr;simp only at hm;subst hm;have hb:(lp.state==LoopState.busy)=false:=by cases hs:lp.state<;>first | rfl | exact absurd hs a
 have b:(Instr.endLoop l).run P w=.ok lp.pending { w with heap:=w.heap.setIfInBounds l (.loop { lp with state:=.exhausted})}:=by simp[Instr.endLoop,Instr.getLoop,getObj,setObj,bind,Sem.bind,Sem.run,h,pure];intro h;exact absurd h a
 refine ic ?_;simp[put,stepG,stepG.exec,b]
def acK(hC:Good P ty C)(X:kE P ty ih){f:Operand}{ps:Array Nat}{bZ body:Code}{f':ao}{r:R}(hf:br ty f=some f')(a:aS C ih (.code (.oX f' (ps.toList.map bF) (bV ty bZ) (bV ty body)) T) H n=some r)
 (η:Env)(w:World)(fr:Frame)(cs:List Frame)(k:List Item)(l:within fr.tmps.size (.rangeFunc f ps bZ body)=true)(x:aK η T fr.tmps)(F:bM η ty.g)(G:aU (WW ty) η H n w)(hm:fr.mode=.run)(hl:jV fr w):
  ∃η' tmps ds w',Trans (WW ty) η H n w η' r.H r.n w'/\tmps.size=fr.tmps.size/\aK η' r.T tmps/\Marks w.heap.size η' r.H w' ds fr.defers/\iV P η' (lone (put fr fr.tmps fr.defers (.code (.rangeFunc f ps bZ body)::k)) cs w) fr cs k r.ex tmps ds w':=by
 simp only[within,aD]at l;simp only[aS]at a;split at a
 case h_2=>cases a
 rename_i fv Y;split at a
 case h_2=>cases a
 rename_i T1 v1 H1 n1 h1;have Z:=bT x F hf Y;obtain⟨mark,c,lp,qv,e1,e2,m,I,e5,e6,J⟩:=acI (P:=P) (tmps:=fr.tmps) hl ps bZ body;have t0:Trans (WW ty) η H n w η H n c:=by
  rcases J with ⟨_,rfl⟩ | ⟨_,rfl⟩
  ·exact .refl G
  ·exact Trans.push G _
 obtain⟨η1,z,L⟩:=Trans.new (W:=WW ty) (room:=0) (o:=.lp true .normal T (ps.toList.map bF) (bV ty bZ) (bV ty body)) (ob:=.loop lp) t0.rep (λη' hle=>
  ⟨lp,rfl,by rw[e1];rfl,e2,by rw[m];exact x.mono hle,by rw[I],by rw[m,I];exact l.1.1,by rw[m,e5];exact⟨rfl,l.1.2⟩,by rw[m,e6];exact⟨rfl,l.2⟩⟩)
 have p:=t0.trans z;have j1:=X _ _ _ _ h1;let j:Frame:={ put fr fr.tmps (mark++fr.defers) (.inRangeFunc c.heap.size::k) with mode:=.run};have M:j=put fr fr.tmps (mark++fr.defers) (.inRangeFunc c.heap.size::k):=by show({ put fr fr.tmps (mark++fr.defers) (.inRangeFunc c.heap.size::k) with mode:=.run}:Frame)=_;rw[←hm];rfl
 obtain⟨N,v',A,e,q2,q3⟩:=(j1 η1 _ j cs (ai fr.tmps f) [.func (.yield c.heap.size) #[] #[]] (Z.mono p.ext) (.cons _ _ _ _ (an.y n _ L) .nil) (F.mono p.ext) z.rep).1 rfl;have s1:Steps P (lone (put fr fr.tmps fr.defers (.code (.rangeFunc f ps bZ body)::k)) cs w) (lone (j.finish v') cs A):=by
  refine acH ?_ (by intro _ _ _ _ h;cases h) q3;have yP:j.eval f=ai fr.tmps f:=by rw[M,eval_put]
  obtain⟨fn,mA,todo,defers,mode,kind,roundOf⟩:=fr;simp only at hm;subst hm;have xS:∀B:Frame,resolve B.eval { callee:=.value f,args:=#[.const (.func (.yield c.heap.size) #[] #[])],argTypes:=#[]} 0=Deferred.ofValue (B.eval f) [.func (.yield c.heap.size) #[] #[]].toArray:=by intro B;simp[resolve,Frame.eval]
  simp only[put,stepG,stepG.exec,Sem.runT_eq,qv,GStep.bare_after,xS];rw[eval_eq];rfl
 have lz:j.finish v'=put fr fr.tmps (mark++fr.defers) (.endRangeFunc c.heap.size::k):=by rw[M];rfl
 rw[lz]at s1;have O:N n=some ⟨c.heap.size,0,0⟩:=e.ext _ _ L;have fin:∀(rd:Bool) (gn:Ex) (T':Tr V) (s:List K) (t u:AC),H1.get n=some (.lp rd gn T' s t u)->(rd=true\/gn.iY=false)->gn.qj=false->r=⟨gn,T,.q,H1.put none n,n1⟩->∃η' tmps ds w',Trans (WW ty) η H n w η' r.H r.n w'/\tmps.size=fr.tmps.size/\aK η' r.T tmps/\Marks w.heap.size η' r.H w' ds fr.defers/\iV P η' (lone (put fr fr.tmps fr.defers (.code (.rangeFunc f ps bZ body)::k)) cs w) fr cs k r.ex tmps ds w':=by
  rintro rd gn T' s t u i IJ d rfl;obtain⟨D,a1,a2,a3,_⟩:=Fc e.rep i O;have yQ:D.state≠.busy:=by
   rw[a2];rcases IJ with rfl | hp
   ·simp
   ·cases rd
    ·rw[hp];simp
    ·simp
  have s2:=acJ (P:=P) (fr:=fr) (tmps:=fr.tmps) (ds:=mark++fr.defers) (k:=k) (cs:=cs) hm a1 yQ;have Q:=Trans.drop e.rep i rfl O { D with state:=.exhausted};refine⟨N,fr.tmps,mark++fr.defers,_,((p.trans e).trans Q),rfl,(x.mono (p.trans e).ext),?_,?_⟩
  ·rcases J with ⟨rfl,rfl⟩ | ⟨rfl,rfl⟩
   ·exact .refl _ _ _ _ _
   ·have m0:Marks w.heap.size η H { w with heap:=w.heap.push (.deferred (some []))} ([{ target:=.collected w.heap.size,args:=#[]}]++fr.defers) fr.defers:=by
     refine⟨[w.heap.size],rfl,by simp,λb hb=>?_⟩;have:b=w.heap.size:=by simpa using hb
     subst this;have S:({ w with heap:=w.heap.push (.deferred (some []))}:World).heap[w.heap.size]?=some (.deferred (some [])):=by simp
     exact⟨ξ _,S,t0.rep.Qy S true⟩
    exact m0.trans (z.trans (e.trans Q))
  ·have E:Steps P (lone (put fr fr.tmps fr.defers (.code (.rangeFunc f ps bZ body)::k)) cs w) (lone (put fr fr.tmps (mark++fr.defers) (((lj gn).map Item.code).toList++k)) cs
    {A with heap:=A.heap.setIfInBounds c.heap.size (.loop { D with state:=.exhausted})}):=by
    rw[←a3];exact Steps.trans s1 (.one s2)
   cases gn with
   | normal=>exact E
   | exit id=>exact⟨k,rfl,E⟩
   | ret=>exact⟨k,E⟩
   | panic v=>cases d
 split at a
 ·rename_i gn T' s t u i;cases d:gn.qj with
  | true=>rw[d]at a;cases a
  | false=>
   rw[d]at a;injection a with a;exact fin _ _ _ _ _ _ i (.inl U) d a.symm
 ·rename_i gn T' s t u i;cases d:gn.qj with
  | true=>rw[d]at a;cases a
  | false=>
  cases hp:gn.iY with
  | true=>rw[d,hp]at a;cases a
  | false=>
   rw[d,hp]at a;injection a with a;exact fin _ _ _ _ _ _ i (.inr hp) d a.symm
 ·cases a
end ops
end
section
section
variable {T T':Tr V}{H:Hp}{n:K}
def Fe{l:List ao}(h:∀x∈l,aq T x=aq T' x):eZ T l=eZ T' l:=by
 induction l with
 | nil=>rfl
 | cons x l ih=>simp only[eZ,h x (by simp),ih (λy a=>h y (by simp[a]))]
def QD{ps:List (Nat×Nat×ao)}(h:∀x∈ps.map (·.2.2),aq T x=aq T' x)(zs:List V):qh T zs ps=qh T' zs ps:=by
 induction ps generalizing zs with
 | nil=>rfl
 | cons p ps ih=>
  obtain⟨o,s,x⟩:=p;simp only[qh,h x (by simp)];have b:=ih (λy a=>h y (by simp at a ⊢;exact .inr a));simp only[b]
def IK{o:Option ao}(h:∀x∈o.toList,aq T x=aq T' x)(d:Nat):cL T d o=cL T' d o:=by
 cases o with
 | none=>rfl
 | some x=>simp only[cL,h x (by simp)]
def acL{k:XU}{v:V}{lo hi mx:Option ao}(h:∀x∈lo.toList++(hi.toList++mx.toList),aq T x=aq T' x):lP k T v lo hi mx=lP k T' v lo hi mx:=by
 have h1:=λd=>IK (o:=lo) (d:=d) λx a=>h x (by simp at a ⊢;exact .inl a);have h2:=λd=>IK (o:=hi) (d:=d) λx a=>h x (by simp at a ⊢;exact .inr (.inl a));have b:=λd=>IK (o:=mx) (d:=d) λx a=>h x (by simp at a ⊢;exact .inr (.inr a));unfold lP;simp only[h1,h2];cases mx with
 | none=>rfl
 | some y=>simp only[b]
def acM{op:A}(h:∀x∈op.eH,aq T x=aq T' x):simple op T H n=simple op T' H n:=by
 cases op with
 | bld zs ps=>simp only[simple,QD h]
 | bsl e zs len ps=>simp only[simple,QD h]
 | mfn f a c=>
  have h1:=Fe (l:=a) λx d=>h x (by simp only[A.eH,eG];exact .inl d);have h2:=Fe (l:=c) λx d=>h x (by simp only[A.eH,eG];exact .inr d);simp only[simple,h1,h2]
 | sli k x lo hi mx=>
  have h1:=h x (by simp[A.eH]);have h2:=λv=>acL (k:=k) (v:=v) (lo:=lo) (hi:=hi) (mx:=mx) λy g=>h y (by simp only[A.eH,cD];exact .inr g);simp only[simple,h1,h2]
 | mm mx l=>
  have h1:=Fe (l:=l) h;simp only[simple,h1]
 | pick c a b=>
  have h1:=h c (by simp[A.eH]);have h2:=h a (by simp[A.eH]);have i:=h b (by simp[A.eH]);simp only[simple,h1];cases aq T' c with
  | none=>rfl
  | some v=>
   cases v<;>try rfl
   rename_i x;cases x
   ·exact congrArg (cU H n) i
   ·exact congrArg (cU H n) h2
 | lO f l=>rfl
 | new e zs=>rfl
 | Ew e x y=>rfl
 | BB u a x=>simp only[simple,h a (by simp[A.eH]),h x (by simp[A.eH])]
 | mmap=>rfl
 | bad=>rfl
 | cap arr x=>cases arr with
  | none=>simp only[simple,h x (by simp[A.eH])]
  | some m=>rfl
 | GS q a b c=>simp only[simple,h a (by simp[A.eH]),h b (by simp[A.eH]),h c (by simp[A.eH])]
 | st sz a x=>simp only[simple,h a (by simp[A.eH]),h x (by simp[A.eH])]
 | bin o k a x=>simp only[simple,h a (by simp[A.eH]),h x (by simp[A.eH])]
 | iad r z a x=>simp only[simple,h a (by simp[A.eH]),h x (by simp[A.eH])]
 | idx r a x=>simp only[simple,h a (by simp[A.eH]),h x (by simp[A.eH])]
 | lkp q z ok a x=>simp only[simple,h a (by simp[A.eH]),h x (by simp[A.eH])]
 | app e z b j zs a x=>simp only[simple,h a (by simp[A.eH]),h x (by simp[A.eH])]
 | yI z a x=>simp only[simple,h a (by simp[A.eH]),h x (by simp[A.eH])]
 | msl e z b j a x=>simp only[simple,h a (by simp[A.eH]),h x (by simp[A.eH])]
 | _=>simp only[simple,h _ (by simp only[A.eH,gF];rfl)]
end
end
section
def bX(η:Env)(n:K):Env:=λk=>if k.num<n.num then η k else none
section
variable {W:Nat->Code->AC->Prop}{η η1:Env}{H Hs sn Hn:Hp}{n n':K}{w w1:World}
def xT(η:Env)(n:K):(bX η n).le η:=λk L h=>by
 unfold bX at h;split at h
 ·exact h
 ·cases h
def acN(η:Env){n m:K}(h:n.num<=m.num):(bX η n).le (bX η m):=λk L a=>by
 unfold bX at a ⊢;split at a
 ·rw[ab (by omega)];exact a
 ·cases a
structure Ff(W:Nat->Code->AC->Prop)(η:Env)(H:Hp)(w:World):Prop where
 obj:∀k o,H.get k=some o->∃L,η k=some L/\L.blk<w.heap.size/\gN W η o L w.heap[L.blk]?
 sep:∀k k' o o' L L',k≠k'->H.get k=some o->o.mut=true->H.get k'=some o'->η k=some L->η k'=some L'->L.blk≠L'.blk
def merge(η η1:Env)(n n':K):Env:=λk=>if n.num<=k.num/\k.num<n'.num then η1 k else η k
def merge_le(hf:∀k,n.num<=k.num->k.num<n'.num->η k=none):η.le (merge η η1 n n'):=λk L h=>by
 unfold merge;split
 ·rename_i a;rw[hf k a.1 a.2]at h;cases h
 ·exact h
def QE(ht:Trans W (bX η n) Hs n w η1 sn n' w1):bX (merge η η1 n n') n'=η1:=by
 funext k;unfold bX merge;by_cases h1:k.num<n'.num
 ·rw[ab h1];by_cases h2:n.num<=k.num
  ·rw[ab ⟨h2,h1⟩]
  ·rw[Γ (λh=>h2 h.1)];rw[ht.bC k (by omega)];unfold bX;rw[ab (by omega)]
 ·rw[Γ h1,ht.rep.free k (by omega)]
def outside(hS:Ff W η H w)(c:∀k o,Hs.get k=some o->H.get k=some o)(ht:Trans W (bX η n) Hs n w η1 sn n' w1)
 {k:K}{o:O}{L:Loc}(a:H.get k=some o)(d:Hs.get k=none)(b:η k=some L):w1.heap[L.blk]?=w.heap[L.blk]?:=by
 obtain⟨L',h1,h2,_⟩:=hS.obj k o a;rw[b]at h1;injection h1 with h1;subst h1;refine ht.kept.block _ h2 ?_;rintro⟨q,o',M,g1,f,g,h⟩;have i:q≠k:=λe=>by rw[e,d]at g1;cases g1
 exact hS.sep q k o' o M L i (c _ _ g1) (f rfl) a (xT _ _ _ _ g) b h
def acO(hS:Ff W η H w)(r:∀k o,Hs.get k=some o->H.get k=some o)(hf:∀k,n.num<=k.num->k.num<n'.num->η k=none)
 (ht:Trans W (bX η n) Hs n w η1 sn n' w1)(s:∀k o,Hn.get k=some o->(H.get k=some o/\Hs.get k=none)\/sn.get k=some o):
 Ff W (merge η η1 n n') Hn w1/\Kept (lQ η H true) w w1/\(∀m b,lQ (merge η η1 n n') Hn m b->lQ η H m b\/w.heap.size<=b):=by
 have hle:=merge_le (η1:=η1) hf;have u:η1.le (merge η η1 n n'):=by have h:=xT (merge η η1 n n') n';rw[QE ht]at h;exact h
 have inner:∀k o L,sn.get k=some o->merge η η1 n n' k=some L->η1 k=some L:=by intro k o L c a;obtain⟨L',g1,_⟩:=ht.rep.obj k o c;have:=u _ _ g1;rw[a]at this;injection this with this;rw[this];exact g1
 have outer:∀k o L,H.get k=some o->merge η η1 n n' k=some L->η k=some L:=by intro k o L c a;obtain⟨L',g1,_⟩:=hS.obj k o c;have:=hle _ _ g1;rw[a]at this;injection this with this;rw[this];exact g1
 have blk:∀m b,lQ η1 sn m b->(∃k o L,Hs.get k=some o/\(m=true->o.mut=true)/\η k=some L/\L.blk=b)\/w.heap.size<=b:=by
  intro m b hb;rcases ht.ka m b hb with ⟨k,o,L,g1,f,d,i⟩ | h
  ·exact .inl ⟨k,o,L,g1,f,xT _ _ _ _ d,i⟩
  ·exact .inr h
 have apart:∀{k k' o o' L L'},H.get k=some o->Hs.get k=none->η k=some L->sn.get k'=some o'->η1 k'=some L'->(o.mut=true\/o'.mut=true)->L.blk≠L'.blk:=by
  intro k k' o o' L L' c v a t j hm e;obtain⟨M,h1,h2,_⟩:=hS.obj k o c;rw[a]at h1;injection h1 with h1;subst h1;have key:∀m:Bool,(m=true->o'.mut=true)->∃q p M,Hs.get q=some p/\(m=true->p.mut=true)/\η q=some M/\M.blk=L'.blk:=by
   intro m z;rcases blk m L'.blk ⟨k',o',L',t,z,j,rfl⟩ with h | h
   ·exact h
   ·omega
  rcases hm with hm | hm
  ·obtain⟨q,p,M,g1,_,d,i⟩:=key false (λh=>by cases h);have l:k≠q:=λe=>by rw[e,g1]at v;cases v
   exact hS.sep k q o p L M l c hm (r _ _ g1) a d (by omega)
  ·obtain⟨q,p,M,g1,f,d,i⟩:=key true (λ_=>hm);have l:q≠k:=λe=>by rw[e,v]at g1;cases g1
   exact hS.sep q k p o M L l (r _ _ g1) (f rfl) c d a (by omega)
 refine⟨⟨λk o c=>?_,λk k' o o' L L' l c hm t a j=>?_⟩,⟨ht.kept.os,ht.kept.tape,ht.kept.output,ht.kept.size,λb hb A=>?_,ht.kept.loops⟩,λm b hb=>?_⟩
 ·rcases s k o c with ⟨h1,h2⟩ | h1
  ·obtain⟨L,g1,f,d⟩:=hS.obj k o h1;refine⟨L,hle _ _ g1,eE f ht.kept.size,?_⟩;rw[outside hS r ht h1 h2 g1];exact d.mono hle
  ·obtain⟨L,g1,f,d⟩:=ht.rep.obj k o h1;exact⟨L,u _ _ g1,f,d.mono u⟩
 ·rcases s k o c with ⟨h1,h2⟩ | h1
  ·rcases s k' o' t with ⟨g,x⟩ | g
   ·exact hS.sep k k' o o' L L' l h1 hm g (outer _ _ _ h1 a) (outer _ _ _ g j)
   ·exact apart h1 h2 (outer _ _ _ h1 a) g (inner _ _ _ g j) (.inl hm)
  ·rcases s k' o' t with ⟨g,x⟩ | g
   ·exact λe=>apart g x (outer _ _ _ g j) h1 (inner _ _ _ h1 a) (.inr hm) e.symm
   ·exact ht.rep.sep k k' o o' L L' l h1 hm g (inner _ _ _ h1 a) (inner _ _ _ g j)
 ·refine ht.kept.block b hb ?_;rintro⟨k,o,L,g1,f,d,i⟩;exact A ⟨k,o,L,r _ _ g1,f,xT _ _ _ _ d,i⟩
 ·obtain⟨k,o,L,c,hm,a,y⟩:=hb;rcases s k o c with ⟨h1,h2⟩ | h1
  ·exact .inl ⟨k,o,L,h1,hm,outer _ _ _ h1 a,y⟩
  ·rcases blk m b ⟨k,o,L,h1,hm,inner _ _ _ h1 a,y⟩ with ⟨q,p,M,g1,f,d,i⟩ | h
   ·exact .inl ⟨q,p,M,r _ _ g1,f,d,i⟩
   ·exact .inr h
end
end
structure Canon where
 T:Nat->Tr V
 H:Nat->Hp
 N:Nat->K
 M:Nat->Made
 run:Nat->Bool
 v:Nat->V
 H':Nat->Hp
 n':Nat->K
structure xU(ih:cV)(c:Canon)(rs:List Rd)(bs:List Bg)(i:Nat)(o:AO):Prop where
 want:want o.guard (c.T i)=some (c.run i)
 jj:c.T (i+1)=da o.dst (some (c.v i)) (c.T i)
 not:c.run i=false->c.v i=.u []/\c.H (i+1)=c.H i/\c.N (i+1)=c.N i/\c.M (i+1)=c.M i
 yR:c.run i=true->oper ih o.op (c.T i) (db (c.H i) o.Δ (c.M i)) (c.N i)=some (c.v i,c.H' i,c.n' i)
 pure:c.run i=true->cls o.op=.pure->c.H (i+1)=c.H i/\c.N (i+1)=c.N i/\c.M (i+1)=c.M i
 read:c.run i=true->cls o.op=.read->c.H (i+1)=c.H i/\c.N (i+1)=c.N i/\c.M (i+1)=c.M i/\bz (c.N i) (c.v i)=true/\⟨i,o.op,o.Δ,c.T i,c.v i⟩∈rs
 make:c.run i=true->cls o.op=.make->c.H (i+1)=back (c.H i) (c.H' i) o.Δ (c.M i)/\c.N (i+1)=c.n' i/\c.M (i+1)=(c.N i,i)::c.M i
 jP:c.run i=true->cls o.op=.jP->c.H (i+1)=back (c.H i) (c.H' i) o.Δ (c.M i)/\c.N (i+1)=c.n' i/\c.M (i+1)=c.M i/\⟨i,o.Δ,c.H i,c.H (i+1)⟩∈bs
def Canon.set(c:Canon)(i:Nat)(T:Tr V)(H:Hp)(n:K)(m:Made)(run:Bool)(v:V)(H':Hp)(n':K):Canon where
 T j:=if j=i then T else c.T j
 H j:=if j=i then H else c.H j
 N j:=if j=i then n else c.N j
 M j:=if j=i then m else c.M j
 run j:=if j=i then run else c.run j
 v j:=if j=i then v else c.v j
 H' j:=if j=i then H' else c.H' j
 n' j:=if j=i then n' else c.n' j
def xU.set{ih:cV}{c:Canon}{rs:List Rd}{bs:List Bg}{k:Nat}{o:AO}(h:xU ih c rs bs k o){i:Nat}(hi:i<k){T:Tr V}{H:Hp}{n:K}{m:Made}{run:Bool}{v:V}{H':Hp}{n':K}:
 xU ih (c.set i T H n m run v H' n') rs bs k o:=by
 have a:k≠i:=by omega
 have b:k+1≠i:=by omega
 obtain⟨h1,h2,d,e,f,g,j,l⟩:=h;constructor<;>simp only[Canon.set,Γ a,Γ b]<;>assumption
def acP{ih:cV}:∀(l:List AO) (i:Nat) (T:Tr V) (H:Hp) (n:K) (m:Made) (rs:List Rd) (bs:List Bg) (r:R),eo ih l i T H n m rs bs=some r->r.ex=.normal/\∃(c:Canon) (a:List Rd) (b:List Bg),(∀x∈rs,x∈a)/\(∀x∈bs,x∈b)/\c.T i=T/\c.H i=H/\c.N i=n/\c.M i=m/\c.T (i+l.length)=r.T/\c.H (i+l.length)=r.H/\c.N (i+l.length)=r.n/\tV (c.M (i+l.length)) a b=true/\∀(j:Nat) (o:AO),l[j]?=some o->xU ih c a b (i+j) o:=by
 intro l
 induction l with
 | nil=>
  intro i T H n m rs bs r h;simp only[eo]at h;cases A:tV m rs bs with
  | false=>rw[A]at h;cases h
  | true=>
   rw[A]at h;injection h with h;subst h;exact⟨rfl,⟨λ_=>T,λ_=>H,λ_=>n,λ_=>m,λ_=>false,λ_=>.q,λ_=>H,λ_=>n⟩,rs,bs,λ_ h=>h,λ_ h=>h,rfl,rfl,rfl,rfl,rfl,rfl,rfl,A,λj o h=>by simp at h⟩
 | cons o l E=>
  intro i T H n m rs bs r h;have t:∀j,i+1+j≠i:=by intro j;omega
  have F:i+(o::l).length=i+1+l.length:=by simp;omega
  have fin:∀(run:Bool) (v:V) (H':Hp) (n':K) (T1:Tr V) (H1:Hp) (n1:K) (m1:Made) (w:List Rd) (y:List Bg),eo ih l (Nat.succ i) T1 H1 n1 m1 w y=some r->(∀x∈rs,x∈w)->(∀x∈bs,x∈y)->(∀(c:Canon) (a:List Rd) (b:List Bg),(∀x∈w,x∈a)->(∀x∈y,x∈b)->c.T i=T->c.H i=H->c.N i=n->c.M i=m->c.run i=run->c.v i=v->c.H' i=H'->c.n' i=n'->c.T (i+1)=T1->c.H (i+1)=H1->c.N (i+1)=n1->c.M (i+1)=m1->xU ih c a b i o)->r.ex=.normal/\∃(c:Canon) (a:List Rd) (b:List Bg),(∀x∈rs,x∈a)/\(∀x∈bs,x∈b)/\c.T i=T/\c.H i=H/\c.N i=n/\c.M i=m/\c.T (i+(o::l).length)=r.T/\c.H (i+(o::l).length)=r.H/\c.N (i+(o::l).length)=r.n/\tV (c.M (i+(o::l).length)) a b=true/\∀(j:Nat) (p:AO),(o::l)[j]?=some p->xU ih c a b (i+j) p:=by
   intro run v H' n' T1 H1 n1 m1 w y h G I J;obtain⟨hex,c,a,b,C,D,L,O,P,Q,S,U,W,X,Y⟩:=E _ _ _ _ _ _ _ _ h;have Z:i+1≠i:=by omega
   refine⟨hex,c.set i T H n m run v H' n',a,b,λx B=>C x (G x B),λx B=>D x (I x B),?_⟩;rw[F];refine⟨by simp[Canon.set],by simp[Canon.set],by simp[Canon.set],by simp[Canon.set],?_,?_,?_,?_,?_⟩
   ·simp only[Canon.set,Γ (t _)];exact S
   ·simp only[Canon.set,Γ (t _)];exact U
   ·simp only[Canon.set,Γ (t _)];exact W
   ·simp only[Canon.set,Γ (t _)];exact X
   ·intro j p hp;cases j with
    | zero=>
     simp only[xj,kV]at hp;subst hp;refine J _ _ _ C D ?_ ?_ ?_ ?_ ?_ ?_ ?_ ?_ ?_ ?_ ?_ ?_
     all_goals simp only[Canon.set,if_true,Γ Z,j6]
     ·exact L
     ·exact O
     ·exact P
     ·exact Q
    | succ j=>
     simp only[qa]at hp;have:=(Y j p hp).set (i:=i) (by omega) (T:=T) (H:=H) (n:=n) (m:=m) (run:=run) (v:=v) (H':=H') (n':=n');rw[show i+(j+1)=Nat.succ i+j by omega];exact this
  simp only[eo]at h;split at h
  ·rename_i s;split at h
   case h_2=>cases h
   rename_i v H1 n1 z;cases k:cls o.op with
   | pure=>
    rw[k]at h;refine fin true v H1 n1 _ _ _ _ _ _ h (λ_ h=>h) (λ_ h=>h) ?_;intro c a b b1 b2 b3 b4 b5 b6 b7 b8 d e f b12 cY g;refine⟨?_,?_,?_,?_,?_,?_,?_,?_⟩<;>simp only[b3,b4,b5,b6,b7,b8,d,e,f,b12,cY,g,k]
    ·exact s
    ·intro h;cases h
    ·intro _;exact z
    ·intros;exact⟨trivial,trivial,trivial⟩
    ·intro _ h;cases h
    ·intro _ h;cases h
    ·intro _ h;cases h
   | read=>
    rw[k]at h;simp only[gU]at h;split at h
    case isFalse=>cases h
    rename_i gg;refine fin true v H1 n1 _ _ _ _ _ _ h (λ_ h=>List.mem_cons_of_mem _ h) (λ_ h=>h) ?_;intro c a b b1 b2 b3 b4 b5 b6 b7 b8 d e f b12 cY g;refine⟨?_,?_,?_,?_,?_,?_,?_,?_⟩<;>simp only[b3,b4,b5,b6,b7,b8,d,e,f,b12,cY,g,k]
    ·exact s
    ·intro h;cases h
    ·intro _;exact z
    ·intro _ h;cases h
    ·intros;exact⟨trivial,trivial,trivial,gg,b1 _ (by simp)⟩
    ·intro _ h;cases h
    ·intro _ h;cases h
   | make=>
    rw[k]at h;refine fin true v H1 n1 _ _ _ _ _ _ h (λ_ h=>h) (λ_ h=>h) ?_;intro c a b b1 b2 b3 b4 b5 b6 b7 b8 d e f b12 cY g;refine⟨?_,?_,?_,?_,?_,?_,?_,?_⟩<;>simp only[b3,b4,b5,b6,b7,b8,d,e,f,b12,cY,g,k]
    ·exact s
    ·intro h;cases h
    ·intro _;exact z
    ·intro _ h;cases h
    ·intro _ h;cases h
    ·intros;exact⟨trivial,trivial,trivial⟩
    ·intro _ h;cases h
   | jP=>
    rw[k]at h;refine fin true v H1 n1 _ _ _ _ _ _ h (λ_ h=>h) (λ_ h=>List.mem_cons_of_mem _ h) ?_;intro c a b b1 b2 b3 b4 b5 b6 b7 b8 d e f b12 cY g;refine⟨?_,?_,?_,?_,?_,?_,?_,?_⟩<;>simp only[b3,b4,b5,b6,b7,b8,d,e,f,b12,cY,g,k]
    ·exact s
    ·intro h;cases h
    ·intro _;exact z
    ·intro _ h;cases h
    ·intro _ h;cases h
    ·intro _ h;cases h
    ·intros;exact⟨trivial,trivial,trivial,b2 _ (by simp)⟩
  ·rename_i s;refine fin false (.u []) H n _ _ _ _ _ _ h (λ_ h=>h) (λ_ h=>h) ?_;intro c a b b1 b2 b3 b4 b5 b6 b7 b8 d e f b12 cY g;refine⟨?_,?_,?_,?_,?_,?_,?_,?_⟩<;>simp only[b3,b4,b5,b6,b7,b8,d,e,f,b12,cY,g]
   ·exact s
   ·intro _;exact⟨trivial,trivial,trivial,trivial⟩
   ·intro h;cases h
   ·intro h;cases h
   ·intro h;cases h
   ·intro h;cases h
   ·intro h;cases h
  ·cases h
def hidden(Δ:Nat)(m:Made)(k:K):Prop:=∃i,(k,i)∈m/\Nat.testBit Δ i=false
def Ca(Δ:Nat):∀(m:Made) (H:Hp) (k:K),(hidden Δ m k->(db H Δ m).get k=none)/\(¬ hidden Δ m k->(db H Δ m).get k=H.get k):=by
 intro m
 induction m with
 | nil=>intro H k;exact⟨(λ⟨i,h,_⟩=>by cases h),λ_=>rfl⟩
 | cons p m ih=>
  intro H k;obtain⟨q,i⟩:=p;cases hb:Nat.testBit Δ i with
  | true=>
   have e:db H Δ ((q,i)::m)=db H Δ m:=by simp only[db,hb,cond_true]
   rw[e];obtain⟨h1,h2⟩:=ih H k;refine⟨λ⟨j,hj,a⟩=>h1 ?_,λh=>h2 λ⟨j,hj,a⟩=>h ⟨j,by simp[hj],a⟩⟩;rcases cD.1 hj with hj | hj
   ·injection hj with _ c;rw[c,hb]at a;cases a
   ·exact⟨j,hj,a⟩
  | false=>
   have e:db H Δ ((q,i)::m)=db (H.put none q) Δ m:=by simp only[db,hb,cond_false]
   rw[e];obtain⟨h1,h2⟩:=ih (H.put none q) k;refine⟨λd=>?_,λh=>?_⟩
   ·by_cases b:hidden Δ m k
    ·exact h1 b
    ·rw[h2 b,Tr.fk];obtain⟨j,hj,a⟩:=d;rcases cD.1 hj with hj | hj
     ·injection hj with f _;rw[ab f]
     ·exact absurd ⟨j,hj,a⟩ b
   ·have b:¬ hidden Δ m k:=λ⟨j,hj,a⟩=>h ⟨j,by simp[hj],a⟩;rw[h2 b,Tr.fk,Γ];intro e;exact h ⟨i,by simp[e],hb⟩
def QF(Δ:Nat)(m:Made)(H:Hp)(k:K)(o:O)(h:(db H Δ m).get k=some o):H.get k=some o:=by
 obtain⟨h1,h2⟩:=Ca Δ m H k;by_cases a:hidden Δ m k
 ·rw[h1 a]at h;cases h
 ·rw[h2 a]at h;exact h
def xV(Δ:Nat):∀(m:Made) (H H':Hp) (k:K),(hidden Δ m k->(back H H' Δ m).get k=H.get k)/\(¬ hidden Δ m k->(back H H' Δ m).get k=H'.get k):=by
 intro m
 induction m with
 | nil=>intro H H' k;exact⟨(λ⟨i,h,_⟩=>by cases h),λ_=>rfl⟩
 | cons p m ih=>
  intro H H' k;obtain⟨q,i⟩:=p;cases hb:Nat.testBit Δ i with
  | true=>
   have e:back H H' Δ ((q,i)::m)=back H H' Δ m:=by simp only[back,hb,cond_true]
   rw[e];obtain⟨h1,h2⟩:=ih H H' k;refine⟨λ⟨j,hj,a⟩=>h1 ?_,λh=>h2 λ⟨j,hj,a⟩=>h ⟨j,by simp[hj],a⟩⟩;rcases cD.1 hj with hj | hj
   ·injection hj with _ d;rw[d,hb]at a;cases a
   ·exact⟨j,hj,a⟩
  | false=>
   have e:back H H' Δ ((q,i)::m)=back H (H'.put (H.get q) q) Δ m:=by simp only[back,hb,cond_false]
   rw[e];obtain⟨h1,h2⟩:=ih H (H'.put (H.get q) q) k;refine⟨λf=>?_,λh=>?_⟩
   ·by_cases b:hidden Δ m k
    ·exact h1 b
    ·rw[h2 b,Tr.fk];obtain⟨j,hj,a⟩:=f;rcases cD.1 hj with hj | hj
     ·injection hj with c _;rw[ab c,c]
     ·exact absurd ⟨j,hj,a⟩ b
   ·have b:¬ hidden Δ m k:=λ⟨j,hj,a⟩=>h ⟨j,by simp[hj],a⟩;rw[h2 b,Tr.fk,Γ];intro e;exact h ⟨i,by simp[e],hb⟩
section
def cmp_eq(f:Bool)(a b:K):K.cmp f a b=true↔a.num<b.num\/(f=true/\a.num=b.num):=by
 induction a generalizing f b with
 | h=>
  cases b with
  | h=>simp[K.cmp]
  | o p=>have:=p.qX;simp only[K.cmp,K.num];constructor<;>intro _<;>first | exact trivial | (left;omega)
  | i p=>have:=p.qX;simp only[K.cmp,K.num];constructor<;>intro _<;>first | exact trivial | (left;omega)
 | o a ih=>
  cases b with
  | h=>have:=a.qX;simp only[K.cmp,K.num];constructor<;>intro h<;>first | (cases h;done) | (exfalso;omega)
  | o b=>simp only[K.cmp,K.num,ih];constructor<;>rintro(h | ⟨h,h'⟩)<;>first | (left;omega) | (right;exact⟨h,by omega⟩)
  | i b=>
   simp only[K.cmp,K.num,ih];constructor<;>rintro(h | ⟨h,h'⟩)<;>first | (left;omega) | (exfalso;omega) | skip
   by_cases e:a.num=b.num
   ·exact .inr ⟨trivial,e⟩
   ·left;omega
 | i a ih=>
  cases b with
  | h=>have:=a.qX;simp only[K.cmp,K.num];constructor<;>intro h<;>first | (cases h;done) | (exfalso;omega)
  | o b=>simp only[K.cmp,K.num,ih];constructor<;>rintro(h | ⟨h,h'⟩)<;>first | (left;omega) | (cases h;done) | (exfalso;omega)
  | i b=>simp only[K.cmp,K.num,ih];constructor<;>rintro(h | ⟨h,h'⟩)<;>first | (left;omega) | (right;exact⟨h,by omega⟩)
def qw{a b:K}:K.cmp false a b=true↔a.num<b.num:=by rw[cmp_eq];simp
section
variable {T:Tr V}{H H':Hp}{n n':K}{v:V}
def Up(n n':K):Prop:=n'=n\/n'=n.succ
def acQ{x:Option V}(h:cU H n x=some (v,H',n')):Up n n':=.inl (kc h).2.2
def acR{x:Option Hp}(h:oZ n x=some (v,H',n')):Up n n':=by
 cases x with
 | none=>cases h
 | some H1=>exact .inl (dC h).2.2
def Cb{o:O}{x:V}{H0:Hp}(h:jD H0 n o x=some (v,H',n')):Up n n':=.inr (oC h).2.2
def Fg{a:V}{b:Hp}(h:(some (a,b,n):fY)=some (v,H',n')):Up n n':=.inl (dC h).2.2
def acS{e z bytes m:Nat}{s:V}{new:List V}(h:tT H n e z bytes s m new=some (v,H',n')):Up n n':=by
 rcases(Qg h).2.2.2 with ⟨_,_,_,_,h⟩ | ⟨_,_,h⟩ | ⟨_,_,_,_,_,_,_,_,_,h⟩ | ⟨_,_,_,_,_,_,_,_,_,h⟩ | ⟨_,_,_,_,_,_,_,_,_,h⟩ | ⟨_,_,_,_,_,_,_,_,h⟩ | ⟨_,_,_,_,_,_,_,_,_,_,_,_,h⟩
 ·exact .inl h
 ·exact Cb h
 ·exact .inl h
 ·exact .inl h
 ·exact Cb h
 ·exact .inl h
 ·exact Cb h
def acT{k:MT}{x:V}(h:qJ H n k x=some (v,H',n')):Up n n':=by
 cases k with
 | toInt k=>obtain⟨_,_,_,e⟩:=P3 h;injection e with _ e;injection e with _ e;exact .inl e
 | same=>obtain⟨_,_,_,e⟩:=P4 h;injection e with _ e;injection e with _ e;exact .inl e
 | BA=>obtain⟨_,_,_,_,_,_,e⟩:=P5 h;injection e with _ e;injection e with _ e;exact .inl e
 | Hz k=>obtain⟨_,_,_,e⟩:=P6 h;exact Cb e
 | AL=>obtain⟨_,_,_,_,e⟩:=P7 h;injection e with _ e;injection e with _ e;exact .inl e
 | GQ=>
  rcases P8 h with ⟨_,e⟩ | ⟨_,_,_,_,_,_,e⟩
  ·injection e with _ e;injection e with _ e;exact .inl e
  ·injection e with _ e;injection e with _ e;exact .inl e
 | GR u=>
  rcases P9 h with ⟨_,e⟩ | ⟨_,_,_,_,_,e⟩
  ·injection e with _ e;injection e with _ e;exact .inl e
  ·injection e with _ e;injection e with _ e;exact .inl e
def QG{op:A}(h:simple op T H n=some (v,H',n')):Up n n':=by
 cases op<;>simp only[simple,gU]at h<;>(try dsimp only at h)<;>(repeat' split at h)<;>
  first
   | (cases h;done)
   | exact acQ h
   | exact acR h
   | exact Cb h
   | exact Fg h
   | exact acS h
   | exact acT h
def Cc(h:Up n n'):n.num<=n'.num:=by
 rcases h with rfl | rfl
 ·exact ξ _
 ·rw[K.eI];omega
end
end
end Go.Ev
