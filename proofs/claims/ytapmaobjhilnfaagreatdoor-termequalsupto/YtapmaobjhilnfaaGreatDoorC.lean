/- A part of the proof. -/
import Derived.Calls
import Derived.Test.YtapmaobjhilnfaaGreatDoorB
set_option linter.all false
namespace Go.Ev
open Go
section
def WW(ty:Ty):Nat->Code->AC->Prop:=λN c a=>dC ty c=a/\within N c=true
def put(fr:Frame)(tmps:Array Value)(ds:List Deferred)(todo:List Item):Frame:={ fr with tmps:=tmps,defers:=ds,todo:=todo}
def jn(P:Program)(η:Env)(m:Machine)(fr:Frame)(cs:List Frame)(k:List Item)(ex:Ex)(tmps:Array Value)(ds:List Deferred)(w:World):Prop:=
 match ex with
 | .normal=>Steps P m (lone (put fr tmps ds k) cs w)
 | .exit id=>∃k1,exitTo id k1=exitTo id k/\Steps P m (lone (put fr tmps ds (.code (.exit id)::k1)) cs w)
 | .ret=>∃k1,Steps P m (lone (put fr tmps ds (.code .ret::k1)) cs w)
 | .panic v=>∃k1 x,al η v x/\Steps P m (lone { put fr tmps ds k1 with mode:=.panicking [{ v:=x,recovered:=false}]} cs w)
theorem jn.of_steps{P:Program}{η:Env}{m m':Machine}{fr:Frame}{cs:List Frame}{k:List Item}{ex:Ex}{tmps:Array Value}{ds:List Deferred}{w:World}(h:Steps P m m')(h':jn P η m' fr cs k ex tmps ds w):
 jn P η m fr cs k ex tmps ds w:=by
 cases ex with
 | normal=>exact h.trans h'
 | exit id=>obtain⟨k1,a,b⟩:=h';exact⟨k1,a,h.trans b⟩
 | ret=>obtain⟨k1,b⟩:=h';exact⟨k1,h.trans b⟩
 | panic v=>obtain⟨k1,x,a,b⟩:=h';exact⟨k1,x,a,h.trans b⟩
theorem jn.pass{P:Program}{η:Env}{m:Machine}{fr:Frame}{cs:List Frame}{x:Item}{k:List Item}{ex:Ex}{tmps:Array Value}{ds:List Deferred}{w:World}(hx:∀id,x≠.inBlock id)(hn:ex≠.normal)
 (h:jn P η m fr cs (x::k) ex tmps ds w):jn P η m fr cs k ex tmps ds w:=by
 cases ex with
 | normal=>exact absurd rfl hn
 | exit id=>
  obtain⟨k1,a,b⟩:=h;exact⟨k1,by rw[a];cases x<;>first | exact absurd rfl (hx _) | rfl,b⟩
 | ret=>exact h
 | panic v=>exact h
def Marks(s0:Nat)(η:Env)(H:Hp)(w:World)(ds:List Deferred)(ds0:List Deferred):Prop:=
 ∃bs:List Nat,ds=bs.map (λb=>{ target:=.collected b,args:=#[]})++ds0/\bs.Nodup/\∀b∈bs,s0<=b/\w.heap[b]?=some (.deferred (some []))/\¬ nc η H true b
section marks
variable {W:Nat->Code->AC->Prop}{η η':Env}{H H':Hp}{n n':K}{w w':World}{s0:Nat}{ds ds0:List Deferred}
theorem Marks.refl(s0:Nat)(η:Env)(H:Hp)(w:World)(ds:List Deferred):Marks s0 η H w ds ds:=⟨[],rfl,.nil,λ_ h=>by cases h⟩
theorem Marks.trans(h:Marks s0 η H w ds ds0)(t:Trans W η H n w η' H' n' w'):Marks s0 η' H' w' ds ds0:=by
 obtain⟨bs,h1,oX,h2⟩:=h;refine⟨bs,h1,oX,λb hb=>?_⟩;obtain⟨a,c,d⟩:=h2 b hb;have ω:b<w.heap.size:=(oh.1 c).1;refine⟨a,by rw[t.kept.block b ω d];exact c,λhB=>?_⟩;rcases t.kZ _ _ hB with h3 | h3
 ·exact d h3
 ·omega
theorem Marks.next{Jg:List Deferred}(h:Marks s0 η H w Jg ds0)(t:Trans W η H n w η' H' n' w')(h':Marks w.heap.size η' H' w' ds Jg)(hs:s0<=w.heap.size):Marks s0 η' H' w' ds ds0:=by
 have ω:∃bs:List Nat,Jg=bs.map (λb=>{ target:=.collected b,args:=#[]})++ds0/\bs.Nodup/\∀b∈bs,b<w.heap.size/\s0<=b/\w'.heap[b]?=some (.deferred (some []))/\¬ nc η' H' true b:=by
  obtain⟨bs,h1,oX,h2⟩:=h;refine⟨bs,h1,oX,λb hb=>?_⟩;obtain⟨a,c,d⟩:=h2 b hb;have ω:b<w.heap.size:=(oh.1 c).1;refine⟨ω,a,by rw[t.kept.block b ω d];exact c,λhB=>?_⟩;rcases t.kZ _ _ hB with h3 | h3
  ·exact d h3
  ·omega
 obtain⟨bs,h1,oX,h2⟩:=ω;obtain⟨nq,h3,abx,h4⟩:=h';refine⟨nq++bs,by rw[h3,h1];simp,?_,λb hb=>?_⟩
 ·rw[List.nodup_append];refine⟨abx,oX,λx hx y hy e=>?_⟩;subst e;have:=(h4 x hx).1;have:=(h2 x hy).1;omega
 ·rcases xP.1 hb with hb | hb
  ·obtain⟨a,c⟩:=h4 b hb;exact⟨by omega,c⟩
  ·exact(h2 b hb).2
end marks
section ops
variable {P:Program}{ty:Ty}{η:Env}{T:Tr V}{H H':Hp}{n n':K}{w:World}{v:V}
theorem eval_eq(fr:Frame):fr.eval=ai fr.tmps:=by funext x;cases x<;>rfl
theorem eval_put(fr:Frame)(tmps:Array Value)(ds:List Deferred)(todo:List Item):(put fr tmps ds todo).eval=ai tmps:=by funext x;cases x<;>rfl
theorem Eb{fr:Frame}{cs:List Frame}{ops:Array Oper}{i:Nat}{rest:List Nat}{k:List Item}{o:Oper}(hm:fr.mode=.run)(ht:fr.todo=.inRegion ops (i::rest)::k)(ho:ops[i]?=some o)
 (hw:Region.wanted o (yielded ops fr.tmps)=true)(hd:∀c,o.op≠.defer c):
 stepG P true { frame:=fr,callers:=cs,status:=.running,dying:=none} w=stepG.apply P true fr cs none (execOp fr.eval o) w:=by
 obtain⟨fn,tmps,todo,defers,mode,kind,roundOf⟩:=fr;simp only at hm ht;subst hm;subst ht;have:stepG.oper P true { fn,tmps,todo:=.inRegion ops (i::rest)::k,defers,mode:=.run,kind,roundOf} cs none w=
  stepG.apply P true { fn,tmps,todo:=.inRegion ops (i::rest)::k,defers,mode:=.run,kind,roundOf} cs none (execOp (Frame.eval { fn,tmps,todo:=.inRegion ops (i::rest)::k,defers,mode:=.run,kind,roundOf}) o) w:=by
  simp only[stepG.oper,Frame.oper?,ho];cases roundOf with
  | none=>rfl
  | some l=>
   cases eW:o.op<;>first | rfl | exact absurd eW (hd _)
 simp only[stepG,stepG.exec];simp only[ho,rk,Option.getD_some];rw[au hw];exact this
theorem QI{fr:Frame}{cs:List Frame}{s:Sem Next}{x:Value}{w':World}(h:s.run P w=.ok (.value x) w'):
 (stepG.apply P true fr cs none s w).bare=.go { frame:=fr.finish x,callers:=cs,status:=.running,dying:=none} w':=by
 simp[stepG.apply,h]
theorem KD{fr:Frame}{cs:List Frame}{s:Sem Next}{w':World}(h:s.run P w=.ok .skip w'):
 (stepG.apply P true fr cs none s w).bare=.go { frame:=fr.finish undef,callers:=cs,status:=.running,dying:=none} w':=by
 simp[stepG.apply,h]
theorem Hj(fr:Frame)(tmps:Array Value)(ds:List Deferred)(ops:Array Oper)(i:Nat)(rest:List Nat)(k:List Item)(x:Value):
 (put fr tmps ds (.inRegion ops (i::rest)::k)).finish x=put fr (match (ops[i]?).bind (·.dst) with | some d=>tmps.setIfInBounds d x | none=>tmps) ds (.inRegion ops rest::k):=rfl
end ops
end
section
def BW(P:Program)(s:Sem Next)(c:Frame)(cs:List Frame)(w:World)(v:Value)(w':World):Prop:=
 ∃nx w1,s.run P w=.ok nx w1/\match nx with
  | .enter g a=>Steps P (lone (Frame.enter P g a .normal) (c::cs) w1) (lone (c.finish v) cs w')
  | .round l g t a b=>Steps P (lone (Frame.round l g t a b .normal) (c::cs) w1) (lone (c.finish v) cs w')
  | .value x=>x=v/\w'=w1
  | .skip=>v=undef/\w'=w1
  | _=>False
def QJ(P:Program)(s:Sem Next)(c:Frame)(cs:List Frame)(w:World)(x:Value)(w':World):Prop:=
 ∃g a w1,s.run P w=.ok (.enter g a) w1/\Steps P (lone (Frame.enter P g a .normal) (c::cs) w1) (lone (c.raise [{ v:=x,recovered:=false}]) cs w')
theorem Hk{P:Program}{fr:Frame}{cs:List Frame}{s:Sem Next}{w w':World}{v:Value}
 (dJ:stepG P true { frame:=fr,callers:=cs,status:=.running,dying:=none} w=stepG.apply P true fr cs none s w)
 (hk:∀d r sv k,fr.todo≠.call d true r sv::k)(h:BW P s fr cs w v w'):Steps P (lone fr cs w) (lone (fr.finish v) cs w'):=by
 obtain⟨nx,w1,hr,hn⟩:=h;have zZ:(match fr.todo with | .call _ true _ _::_=>CallKind.wrapped | _=>.normal)=.normal:=by
  split
  ·rename_i h;exact absurd h (hk _ _ _ _)
  ·rfl
 cases nx<;>try exact hn.elim
 case value x=>
  obtain⟨rfl,rfl⟩:=hn;exact .one (iG (by rw[dJ];exact QI hr))
 case skip=>
  obtain⟨rfl,rfl⟩:=hn;exact .one (iG (by rw[dJ];exact KD hr))
 case enter g a=>
  refine .head (iG ?_) hn;rw[dJ];simp only[stepG.apply,Sem.runT_eq,hr,GStep.bare_after,zZ];rfl
 case round l g t a b=>
  refine .head (iG ?_) hn;rw[dJ];simp only[stepG.apply,Sem.runT_eq,hr,GStep.bare_after,zZ];rfl
structure Good(P:Program)(ty:Ty)(C:Nat->Option bN):Prop where
 aI:dI P ty
 fn:∀g af,C g=some (.go af)->∃fn,P.funcs[g]?=some fn/\(fn.name == "runtime.NumGoroutine")=false/\zM ty fn=some af
 mixed:P.follows .mixedOrders=true
 zI:∀g af,C g=some (.zI af)->∃fn cf,P.funcs[g]?=some fn/\(fn.name == "runtime.NumGoroutine")=false/\yc ty fn (λi=>P.funcs[i]?)=some af/\P.funcs[af.g]?=some cf/\(cf.name == "runtime.NumGoroutine")=false
def kI(fr:Frame)(w:World):Prop:=∀l,fr.roundOf=some l->∃q,w.heap[l]?=some (.loop q)
def lX(P:Program)(ty:Ty)(j:F5)(H:Hp)(n:K)(r:R):Prop:=
 match j with
 | .code a T=>∀(η:Env) (w:World) (fr:Frame) (cs:List Frame) (k:List Item) (c:Code),WW ty fr.tmps.size c a->aW η T fr.tmps->ch η ty.g->bk (WW ty) η H n w->fr.mode=.run->kI fr w->∃η' tmps ds w',Trans (WW ty) η H n w η' r.H r.n w'/\tmps.size=fr.tmps.size/\aW η' r.T tmps/\Marks w.heap.size η' r.H w' ds fr.defers/\jn P η' (lone (put fr fr.tmps fr.defers (.code c::k)) cs w) fr cs k r.ex tmps ds w'
 | .call f l=>∀(η:Env) (w:World) (c:Frame) (cs:List Frame) (fv:Value) (args:List Value),al η f fv->bc η l args->ch η ty.g->bk (WW ty) η H n w->(r.ex=.normal->∃η' v' w',Trans (WW ty) η H n w η' r.H r.n w'/\al η' r.v v'/\BW P (do let d←Deferred.ofValue fv args.toArray;invoke d.target d.args) c cs w v' w')/\(∀u,r.ex=.panic u->∃η' v' w',Trans (WW ty) η H n w η' r.H r.n w'/\al η' u v'/\QJ P (do let d←Deferred.ofValue fv args.toArray;invoke d.target d.args) c cs w v' w')
def lY(P:Program)(ty:Ty)(ih:dY):Prop:=∀j H n r,ih j H n=some r->lX P ty j H n r
section ops
variable {P:Program}{ty:Ty}{C:Nat->Option bN}{ih:dY}{η η':Env}{T:Tr V}{H H':Hp}{n n':K}{w w':World}{v:V}{tmps:Array Value}
theorem aW.set(h:aW η T tmps){d:Nat}(hd:d<tmps.size){x:Value}(hv:al η v x):aW η (T.put (some v) (cz d)) (tmps.setIfInBounds d x):=by
 intro t u hu;rw[Tr.fI]at hu;split at hu
 ·rename_i e;have:=GZ e;subst this;injection hu with hu;subst hu;exact⟨x,by simp[gB,hd],hv⟩
 ·rename_i e;obtain⟨y,h1,h2⟩:=h t u hu;refine⟨y,?_,h2⟩;rw[gB,Ξ (λe'=>e (by rw[e']))];exact h1
def jH(dst:Option Nat)(x:Value)(tmps:Array Value):Array Value:=
 match dst with
 | some d=>tmps.setIfInBounds d x
 | none=>tmps
theorem Ec(dst:Option Nat)(x:Value)(tmps:Array Value):(jH dst x tmps).size=tmps.size:=by cases dst<;>simp[jH]
theorem aW.jH(h:aW η T tmps){dst:Option Nat}(hd:∀d,dst=some d->d<tmps.size){x:Value}(hv:al η v x):aW η (eg (dst.map cz) (some v) T) (jH dst x tmps):=by
 cases dst with
 | none=>exact h
 | some d=>exact h.set (hd d rfl) hv
theorem KE(η:Env):al η (.u []) undef:=.u _ _ .nil
theorem KF(hT:aW η T tmps){ops:Array Oper}{o:Oper}{g:Option (K×Bool)}(hg:xY ops o.guard=some g){b:Bool}(h:want g T=some b):Region.wanted o (yielded ops tmps)=b:=by
 unfold Region.wanted;cases ho:o.guard with
 | none=>
  rw[ho]at hg;simp only[xY]at hg;injection hg with hg;subst hg;simp only[want]at h;injection h
 | some p=>
  obtain⟨j,wn⟩:=p;rw[ho]at hg;simp only[xY]at hg;split at hg
  case h_2=>cases hg
  rename_i d hd;injection hg with hg;subst hg;simp only[want]at h;show((match ((ops[j]?).bind (·.dst)).bind (tmps[·]?) with
   | some (.bool b)=>some b
   | _=>none)==some wn)=b
  rw[hd];simp only[BA];split at h
  ·rename_i x hx;obtain⟨y,h1,h2⟩:=hT d _ hx;cases h2;rw[h1];injection h with h;subst h;cases wn<;>cases x<;>rfl
  ·rename_i hx;obtain⟨y,h1,h2⟩:=hT d _ hx;injection h with h;subst h;cases h2 with
   | u _ l hl=>cases hl;rw[h1];rfl
  ·cases h
theorem aby{c:Call}{f:ax}{l:List ax}(h:sK ty c=some (.cg f l)):∃x,c.callee=.value x/\bK ty x=some f/\po ty c.args.toList=some l:=by
 obtain⟨callee,args,ts⟩:=c;cases callee with
 | value x=>
  simp only[sK]at h;split at h
  ·rename_i f' l' h1 h2;injection h with h;injection h with h3 h4;subst h3;subst h4;exact⟨x,rfl,h1,h2⟩
  ·cases h
 | invoke r m=>cases h
 | builtin b=>
  simp only[sK]at h
  repeat' split at h
  all_goals cases h
theorem QK{op:Op}{f:ax}{l:List ax}(h:dZ ty op=some (.cg f l)):∃cc,op=.call cc/\∃x,cc.callee=.value x/\bK ty x=some f/\po ty cc.args.toList=some l:=by
 cases op with
 | call c=>exact⟨c,rfl,aby h⟩
 | _=>
  simp only[dZ,iD]at h
  repeat' split at h
  all_goals cases h
theorem abz{a:A}(h:oper ih a T H n=some (v,H',n')):∃T',eC ih a T H n=some ⟨.normal,T',v,H',n'⟩:=by
 unfold oper at h;split at h
 ·rename_i T' v1 H1 n1 h1;obtain⟨rfl,rfl,rfl⟩:=ea h;exact⟨T',h1⟩
 ·cases h
theorem abA{a:A}{T':Tr V}(h:eC ih a T H n=some ⟨.normal,T',v,H',n'⟩):oper ih a T H n=some (v,H',n'):=by unfold oper;rw[h]
theorem Aa{a:A}(ha:∀f l,a≠.cg f l):oper ih a T H n=simple a T H n:=by
 cases a with
 | cg f l=>exact absurd rfl (ha f l)
 | wA x=>
  simp only[oper,eC,simple];split
  ·rename_i h;split at h
   ·injection h with h;injection h with h;cases h
   ·cases h
  ·rfl
 | _=>
  unfold oper eC;simp only;generalize simple _ T H n=x;cases x with
  | none=>rfl
  | some p=>rfl
theorem QL{f:ax}{l:List ax}(h:oper ih (.cg f l) T H n=some (v,H',n')):∃fv lv T',aq T f=some fv/\fD T l=some lv/\ih (.call fv lv) H n=some ⟨.normal,T',v,H',n'⟩:=by
 obtain⟨T',h⟩:=abz h;simp only[eC]at h;split at h
 ·rename_i fv lv h1 h2;exact⟨fv,lv,T',h1,h2,h⟩
 ·cases h
theorem abB{a:A}{u:V}{T':Tr V}{v':V}(h:eC ih a T H n=some ⟨.panic u,T',v',H',n'⟩):
 (∃f l fv lv,a=.cg f l/\aq T f=some fv/\fD T l=some lv/\ih (.call fv lv) H n=some ⟨.panic u,T',v',H',n'⟩)\/
 (∃x t v,a=.wA x/\aq T x=some (.kY t v)/\u=.kY t v/\H'=H/\n'=n):=by
 cases a with
 | cg f l=>
  simp only[eC]at h;split at h
  ·rename_i fv lv h1 h2;exact .inl ⟨f,l,fv,lv,rfl,h1,h2,h⟩
  ·cases h
 | wA x=>
  simp only[eC]at h;split at h
  ·rename_i t v h1;injection h with h;injection h with h2 h3 h4 h5 h6;injection h2 with h2;exact .inr ⟨x,t,v,rfl,h1,h2.symm,h5.symm,h6.symm⟩
  ·cases h
 | _=>
  unfold eC at h;simp only at h;split at h
  ·injection h with h;injection h with h;cases h
  ·cases h
theorem QM(hC:Good P ty C)(eO:lY P ty ih)(hT:aW η T tmps)(hG:ch η ty.g)(hH:bk (WW ty) η H n w){o:Oper}{a:A}(hc:dZ ty o.op=some a)(hs:oper ih a T H n=some (v,H',n'))(c:Frame)(cs:List Frame):
 ∃η' v' w',Trans (WW ty) η H n w η' H' n' w'/\al η' v v'/\BW P (execOp (ai tmps) o) c cs w v' w':=by
 have abC:simple a T H n=some (v,H',n')->∃η' v' w',Trans (WW ty) η H n w η' H' n' w'/\al η' v v'/\BW P (execOp (ai tmps) o) c cs w v' w':=λhs=>by
  obtain⟨nx,w1,hr,η',ht,hv⟩:=abw (W:=WW ty) (w:=w) hC.aI hT hG hH hc hs;rcases hv with ⟨y,rfl,hy⟩ | ⟨rfl,rfl⟩
  ·exact⟨η',y,w1,ht,hy,.value y,w1,hr,rfl,rfl⟩
  ·exact⟨η',undef,w1,ht,KE _,.skip,w1,hr,rfl,rfl⟩
 cases a with
 | cg f l=>
  obtain⟨fv,lv,T',hf,hl,hr⟩:=QL hs;obtain⟨cc,eW,x,hx,wO,ju⟩:=QK hc;have h1:=cw hT hG wO hf;have h2:=BO hT hG ju hl;obtain⟨η',v',w',g1,g2,g3⟩:=(eO _ _ _ _ hr η w c cs _ _ h1 h2 hG hH).1 rfl;refine⟨η',v',w',g1,g2,?_⟩;have e:execOp (ai tmps) o=(do let d←Deferred.ofValue (ai tmps x) (cc.args.toList.map (ai tmps)).toArray;invoke d.target d.args):=by
   have:(cc.args.toList.map (ai tmps)).toArray=cc.args.map (ai tmps):=by apply jP;simp
   rw[this];obtain⟨dst,op,rt,pos,after,gd⟩:=o;subst eW;show(do let d←resolve (ai tmps) cc rt;invoke d.target d.args)=_;unfold resolve;simp only[hx]
  rw[e];exact g3
 | _=>exact abC (by rw[←hs];exact(Aa (by intro f l h;cases h)).symm)
theorem abD{op:Op}{x:ax}(h:dZ ty op=some (.wA x)):∃y,op=.panic y/\bK ty y=some x:=by
 cases op with
 | panic y=>
  simp only[dZ]at h;split at h
  ·rename_i x' hx;injection h with h;injection h with h;subst h;exact⟨y,rfl,hx⟩
  ·cases h
 | call c=>
  exfalso;simp only[dZ]at h;obtain⟨callee,args,ts⟩:=c;cases callee with
  | value x=>
   simp only[sK]at h;split at h
   ·injection h with h;cases h
   ·cases h
  | invoke r m=>cases h
  | builtin b=>
   simp only[sK]at h
   repeat' split at h
   all_goals cases h
 | _=>
  simp only[dZ,iD]at h
  repeat' split at h
  all_goals cases h
end ops
end
section
section ops
variable {P:Program}{ty:Ty}{C:Nat->Option bN}{ih:dY}{η η':Env}{T:Tr V}{H H':Hp}{n n':K}{w w':World}{v:V}{tmps:Array Value}{ds:List Deferred}{fr:Frame}{cs:List Frame}{k:List Item}
theorem kI.trans{W:Nat->Code->AC->Prop}(h:kI fr w)(t:Trans W η H n w η' H' n' w'):kI fr w':=λl hl=>let⟨q,hq⟩:=h l hl;t.kept.loops l q hq
theorem QN{ops:Array Oper}{i:Nat}{rest:List Nat}{o:Oper}(hm:fr.mode=.run)(ho:ops[i]?=some o)(hw:Region.wanted o (yielded ops tmps)=false):
 step P (lone (put fr tmps ds (.inRegion ops (i::rest)::k)) cs w)=.next (lone (put fr (jH o.dst undef tmps) ds (.inRegion ops rest::k)) cs w):=by
 obtain⟨fn,nG,todo,defers,mode,kind,roundOf⟩:=fr;simp only at hm;subst hm;refine iG ?_;simp only[put,stepG,stepG.exec,ho,rk,Option.getD_some,hw,mC,if_false,GStep.bare];simp only[Frame.finish,ho,BA];rfl
theorem Hl{ops:Array Oper}(hm:fr.mode=.run):step P (lone (put fr tmps ds (.inRegion ops []::k)) cs w)=.next (lone (put fr tmps ds k) cs w):=by obtain⟨fn,nG,todo,defers,mode,kind,roundOf⟩:=fr;simp only at hm;subst hm;exact iG (by simp[put,stepG,stepG.exec])
theorem QO(i m:Nat):List.range' i (m+1)=i::List.range' (i+1) m:=by rw[List.range'_succ]
theorem QP(hm:fr.mode=.run)(x:Value):fr.raise [{ v:=x,recovered:=false}]={ fr with mode:=.panicking [{ v:=x,recovered:=false}]}:=by unfold Frame.raise;rw[hm]
theorem abE{s:Sem Next}{x:Value}(hm:fr.mode=.run)
 (dJ:stepG P true { frame:=fr,callers:=cs,status:=.running,dying:=none} w=stepG.apply P true fr cs none s w)
 (hk:∀d r sv k,fr.todo≠.call d true r sv::k)(h:QJ P s fr cs w x w'):Steps P (lone fr cs w) (lone { fr with mode:=.panicking [{ v:=x,recovered:=false}]} cs w'):=by
 obtain⟨g,a,w1,hr,hn⟩:=h;have zZ:(match fr.todo with | .call _ true _ _::_=>CallKind.wrapped | _=>.normal)=.normal:=by
  split
  ·rename_i h;exact absurd h (hk _ _ _ _)
  ·rfl
 rw[←QP hm];refine .head (iG ?_) hn;rw[dJ];simp only[stepG.apply,Sem.runT_eq,hr,GStep.bare_after,zZ];rfl
theorem abF{s:Sem Next}{x:Value}(hm:fr.mode=.run)(h:s.run P w=.halt (.panic x) w'):
 (stepG.apply P true fr cs none s w).bare=.go { frame:={ fr with mode:=.panicking [{ v:=x,recovered:=false}]},callers:=cs,status:=.running,dying:=none} w':=by
 rw[←QP hm];simp[stepG.apply,h]
theorem abG(hC:Good P ty C)(eO:lY P ty ih)(hm:fr.mode=.run){ops:Array Oper}{i:Nat}{rest:List Nat}{o:Oper}(ho:ops[i]?=some o)(wP:Region.wanted o (yielded ops tmps)=true)
 (hT:aW η T tmps)(hG:ch η ty.g)(hH:bk (WW ty) η H n w){a:A}(hc:dZ ty o.op=some a){u:V}{T':Tr V}{v':V}(hs:eC ih a T H n=some ⟨.panic u,T',v',H',n'⟩):
 ∃η' w',Trans (WW ty) η H n w η' H' n' w'/\jn P η' (lone (put fr tmps ds (.inRegion ops (i::rest)::k)) cs w) fr cs k (.panic u) tmps ds w':=by
 have oX:∀c,o.op≠.defer c:=λc e=>by rw[e]at hc;cases hc
 have dJ:=Eb (P:=P) (cs:=cs) (w:=w) (fr:=put fr tmps ds (.inRegion ops (i::rest)::k)) hm rfl ho wP oX;rw[eval_put]at dJ;rcases abB hs with ⟨f,l,fv,lv,rfl,h1,h2,h3⟩ | ⟨x,t,v,rfl,h1,rfl,rfl,rfl⟩
 ·obtain⟨cc,eW,x,hx,wO,ju⟩:=QK hc;obtain⟨η',y,w',g1,g2,g3⟩:=(eO _ _ _ _ h3 η w (put fr tmps ds (.inRegion ops (i::rest)::k)) cs _ _ (cw hT hG wO h1) (BO hT hG ju h2) hG hH).2 u rfl;refine⟨η',w',g1,.inRegion ops (i::rest)::k,y,g2,?_⟩;have e:execOp (ai tmps) o=(do let d←Deferred.ofValue (ai tmps x) (cc.args.toList.map (ai tmps)).toArray;invoke d.target d.args):=by
   have:(cc.args.toList.map (ai tmps)).toArray=cc.args.map (ai tmps):=by apply jP;simp
   rw[this];obtain⟨dst,op,rt,pos,after,gd⟩:=o;subst eW;show(do let d←resolve (ai tmps) cc rt;invoke d.target d.args)=_;unfold resolve;simp only[hx]
  rw[e]at dJ;exact abE hm dJ (λ_ _ _ _ h=>by cases h) g3
 ·obtain⟨y,eW,hcy⟩:=abD hc;have hr:=cw hT hG hcy h1;refine⟨η,w,.refl hH,.inRegion ops (i::rest)::k,ai tmps y,hr,.one (iG ?_)⟩;rw[dJ];refine abF hm ?_;obtain⟨dst,op,rt,pos,after,gd⟩:=o;subst eW;show(do pure (.value (←Instr.panic (ai tmps y))):Sem Next).run P _=_;generalize ai tmps y=z at hr;cases hr with
  | kY _ _ z' _=>
   show(Sem.bind _ _).run P _=_;rw[Sem.run_bind'];rfl
theorem KG(hC:Good P ty C)(eO:lY P ty ih){ops:Array Oper}(hm:fr.mode=.run)(hd:iK fr.tmps.size ops.toList=true):
 ∀(l:List Oper) (i:Nat),ops.toList.drop i=l->∀(η:Env) (T:Tr V) (H:Hp) (n:K) (w:World) (tmps:Array Value) (r:R),fZ ih (eD ty ops l []) T H n=some r->aW η T tmps->tmps.size=fr.tmps.size->ch η ty.g->bk (WW ty) η H n w->∃η' eb w',Trans (WW ty) η H n w η' r.H r.n w'/\eb.size=fr.tmps.size/\aW η' r.T eb/\jn P η' (lone (put fr tmps ds (.inRegion ops (List.range' i l.length)::k)) cs w) fr cs k r.ex eb ds w':=by
 intro l
 induction l with
 | nil=>
  intro i hl η T H n w tmps r hr hT eF hG hH;simp only[eD,fZ]at hr;injection hr with hr;subst hr;exact⟨η,tmps,w,.refl hH,eF,hT,.one (Hl hm)⟩
 | cons o l jN=>
  intro i hl η T H n w tmps r hr hT eF hG hH;have ho:ops[i]?=some o:=by rw[←nE];have:=congrArg (·[0]?) hl;simpa using this
  have qT:ops.toList.drop (i+1)=l:=by have:=congrArg (List.drop 1) hl;simpa using this
  have qj:∀d,o.dst=some d->d<tmps.size:=by
   have key:∀(l:List Oper),iK fr.tmps.size l=true->o∈l->∀d,o.dst=some d->d<fr.tmps.size:=by
    intro l
    induction l with
    | nil=>intro _ h;cases h
    | cons p l kR=>
     intro h hm d C1;simp only[iK,bh]at h;rcases fX.1 hm with rfl | hm
     ·rw[C1]at h;have:=h.1;simp only[fJ,bA]at this;exact this
     ·exact kR h.2 hm d C1
   rw[eF];exact key _ hd (by
    have:=Array.mem_of_getElem? ho;simpa using this)
  simp only[eD,fZ]at hr;have Yd:∃g,xY ops o.guard=some g/\(jE ty ops o 0)={ dst:=o.dst.map cz,op:=(dZ ty o.op).getD .bad,guard:=g,Δ:=0}:=by
   cases hg:xY ops o.guard with
   | some g=>exact⟨g,rfl,by simp[jE,hg]⟩
   | none=>
    exfalso;have:jE ty ops o 0={ dst:=none,op:=.bad,guard:=none,Δ:=0}:=by simp[jE,hg]
    rw[this]at hr;simp only[want,eC,simple]at hr;cases hr
  obtain⟨g,hg,zP⟩:=Yd;rw[zP]at hr;simp only at hr;rw[fH,QO];split at hr
  ·rename_i hw;have wP:=KF hT hg hw;cases rC:dZ ty o.op with
   | none=>rw[rC]at hr;simp only[Option.getD_none,eC,simple]at hr;cases hr
   | some a=>
    rw[rC,Option.getD_some]at hr;split at hr
    ·rename_i T1 v1 H1 n1 eW;have eW:=abA eW;obtain⟨η1,v',w1,g1,g2,g3⟩:=QM hC eO hT hG hH rC eW (put fr tmps ds (.inRegion ops (i::List.range' (i+1) l.length)::k)) cs;have oX:∀c,o.op≠.defer c:=λc e=>by rw[e]at rC;cases rC
     have dJ:=Eb (P:=P) (cs:=cs) (w:=w) (fr:=put fr tmps ds (.inRegion ops (i::List.range' (i+1) l.length)::k)) hm rfl ho wP oX;rw[eval_put]at dJ;have kA:=Hk dJ (λ_ _ _ _ h=>by cases h) g3;rw[Hj,ho]at kA;have Ye:aW η1 (eg (o.dst.map cz) (some v1) T) (jH o.dst v' tmps):=(hT.mono g1.ext).jH qj g2;obtain⟨η2,Ed,w2,q1,q2,q3,q4⟩:=jN (i+1) qT η1 _ H1 n1 w1 (jH o.dst v' tmps) r hr Ye (by rw[Ec];exact eF) (hG.mono g1.ext) g1.rep;exact⟨η2,Ed,w2,g1.trans q1,q2,q3,.of_steps kA q4⟩
    ·rename_i u T1 v1 H1 n1 eW;injection hr with hr;subst hr;obtain⟨η',w',q1,q2⟩:=abG (fr:=fr) (cs:=cs) (k:=k) (ds:=ds) (rest:=List.range' (i+1) l.length) hC eO hm ho wP hT hG hH rC eW;exact⟨η',tmps,w',q1,eF,hT.mono q1.ext,q2⟩
    ·cases hr
  ·rename_i hw;have wP:=KF hT hg hw;have Ye:aW η (eg (o.dst.map cz) (some (.u [])) T) (jH o.dst undef tmps):=hT.jH qj (KE _);obtain⟨η2,Ed,w2,q1,q2,q3,q4⟩:=jN (i+1) qT η _ H n w (jH o.dst undef tmps) r hr Ye (by rw[Ec];exact eF) hG hH;exact⟨η2,Ed,w2,q1,q2,q3,.of_steps (.one (QN hm ho wP)) q4⟩
  ·cases hr
end ops
end
section
section ops
variable {P:Program}{ty:Ty}{C:Nat->Option bN}{ih:dY}{η η':Env}{T:Tr V}{H H':Hp}{n n':K}{w w':World}{v:V}{tmps:Array Value}{ds:List Deferred}{fr:Frame}{cs:List Frame}{k:List Item}
theorem Steps.tail{m m1 m':Machine}(h:Steps P m m')(hs:step P m=.next m1)(aR:m≠m'):Steps P m1 m':=by
 obtain⟨j,hj⟩:=h;cases j with
 | zero=>simp only[runN]at hj;injection hj with hj;exact absurd hj aR
 | succ j=>simp only[runN,hs]at hj;exact⟨j,hj⟩
section abH
variable (hm:fr.mode=.run)
include hm
theorem rD{x:Item}{todo:List Item}(h:∀(b:Frame) (a:Act) (r:Option Nat),True->True)(hs:∀(fn:FuncId) (kind:CallKind) (roundOf:Option Nat),(stepG P true { frame:={ fn,tmps,todo:=x::k,defers:=ds,mode:=.run,kind,roundOf},callers:=cs,status:=.running,dying:=none} w).bare=
 .go { frame:={ fn,tmps,todo:=todo,defers:=ds,mode:=.run,kind,roundOf},callers:=cs,status:=.running,dying:=none} w):
 step P (lone (put fr tmps ds (x::k)) cs w)=.next (lone (put fr tmps ds todo) cs w):=by
 obtain⟨fn,nG,aul,defers,mode,kind,roundOf⟩:=fr;simp only at hm;subst hm;exact iG (hs fn kind roundOf)
theorem abI:step P (lone (put fr tmps ds (.code .skip::k)) cs w)=.next (lone (put fr tmps ds k) cs w):=rD hm (λ_ _ _ _=>trivial) λ_ _ _=>by simp[stepG,stepG.exec]
theorem abJ{l:Nat}:step P (lone (put fr tmps ds (.code (.label l)::k)) cs w)=.next (lone (put fr tmps ds k) cs w):=rD hm (λ_ _ _ _=>trivial) λ_ _ _=>by simp[stepG,stepG.exec]
theorem abK{id:Nat}:step P (lone (put fr tmps ds (.inBlock id::k)) cs w)=.next (lone (put fr tmps ds k) cs w):=rD hm (λ_ _ _ _=>trivial) λ_ _ _=>by simp[stepG,stepG.exec]
theorem abL{c:Code}:step P (lone (put fr tmps ds (.inScope c::k)) cs w)=.next (lone (put fr tmps ds k) cs w):=rD hm (λ_ _ _ _=>trivial) λ_ _ _=>by simp[stepG,stepG.exec]
theorem BX{x y:Code}:step P (lone (put fr tmps ds (.code (.seq x y)::k)) cs w)=.next (lone (put fr tmps ds (.code x::.code y::k)) cs w):=rD hm (λ_ _ _ _=>trivial) λ_ _ _=>by simp[stepG,stepG.exec]
theorem KH{id:Nat}{c:Code}:step P (lone (put fr tmps ds (.code (.block id c)::k)) cs w)=.next (lone (put fr tmps ds (.code c::.inBlock id::k)) cs w):=rD hm (λ_ _ _ _=>trivial) λ_ _ _=>by simp[stepG,stepG.exec]
theorem Hm{c:Code}:step P (lone (put fr tmps ds (.code (.loop c)::k)) cs w)=.next (lone (put fr tmps ds (.code c::.inLoop c::k)) cs w):=rD hm (λ_ _ _ _=>trivial) λ_ _ _=>by simp[stepG,stepG.exec]
theorem KI{c:Code}:step P (lone (put fr tmps ds (.inLoop c::k)) cs w)=.next (lone (put fr tmps ds (.code c::.inLoop c::k)) cs w):=rD hm (λ_ _ _ _=>trivial) λ_ _ _=>by simp[stepG,stepG.exec]
theorem abM{c:Code}:step P (lone (put fr tmps ds (.code (.scope c)::k)) cs w)=.next (lone (put fr tmps ds (.code c::.inScope c::k)) cs w):=rD hm (λ_ _ _ _=>trivial) λ_ _ _=>by simp[stepG,stepG.exec]
theorem Ee{id:Nat}{ops:Array Oper}:step P (lone (put fr tmps ds (.code (.region id ops false)::k)) cs w)=.next (lone (put fr tmps ds (.inRegion ops (List.range ops.size)::k)) cs w):=rD hm (λ_ _ _ _=>trivial) λ_ _ _=>by simp[stepG,stepG.exec]
theorem abN{id:Nat}{k1:List Item}(h:exitTo id k=some k1):step P (lone (put fr tmps ds (.code (.exit id)::k)) cs w)=.next (lone (put fr tmps ds k1) cs w):=rD hm (λ_ _ _ _=>trivial) λ_ _ _=>by simp[stepG,stepG.exec,h]
theorem QQ{c:Operand}{x y:Code}{t:Bool}(h:ai tmps c=.bool t):step P (lone (put fr tmps ds (.code (.cond c x y)::k)) cs w)=.next (lone (put fr tmps ds (.code (if t then x else y)::k)) cs w):=
 rD hm (λ_ _ _ _=>trivial) λfn kind roundOf=>by
  have he:Frame.eval { fn,tmps,todo:=.code (.cond c x y)::k,defers:=ds,mode:=.run,kind,roundOf} c=.bool t:=by rw[eval_eq];exact h
  simp[stepG,stepG.exec,he]
end abH
theorem abO{a1 a2:AC}{c1 c2:Code}{r1 r2:R}(h1:lX P ty (.code a1 T) H n r1)(hn:r1.ex=.normal)(h2:lX P ty (.code a2 r1.T) r1.H r1.n r2)
 {η:Env}{w:World}{fr:Frame}{cs:List Frame}{k:List Item}(D8:WW ty fr.tmps.size c1 a1)(tQ:WW ty fr.tmps.size c2 a2)(hT:aW η T fr.tmps)(hG:ch η ty.g)(hH:bk (WW ty) η H n w)(hm:fr.mode=.run)(hl:kI fr w)
 {x:Item}(hx:∀id,x≠.inBlock id){k2:List Item}{m0:Machine}(hs:m0=lone (put fr fr.tmps fr.defers (.code c1::x::k)) cs w)
 (KJ:∀tmps ds w,Steps P (lone (put fr tmps ds (x::k)) cs w) (lone (put fr tmps ds (.code c2::k2)) cs w))
 (abP:∀η ex tmps ds w m,jn P η m fr cs k2 ex tmps ds w->jn P η m fr cs k ex tmps ds w):
 ∃η' tmps ds w',Trans (WW ty) η H n w η' r2.H r2.n w'/\tmps.size=fr.tmps.size/\aW η' r2.T tmps/\Marks w.heap.size η' r2.H w' ds fr.defers/\jn P η' m0 fr cs k r2.ex tmps ds w':=by
 obtain⟨η1,t1,d1,w1,g1,g2,g3,g4,g5⟩:=h1 η w fr cs (x::k) c1 D8 hT hG hH hm hl;rw[hn]at g5;obtain⟨η2,t2,d2,w2,q1,q2,q3,q4,q5⟩:=h2 η1 w1 (put fr t1 d1 []) cs k2 c2 (by show WW ty t1.size c2 a2;rw[g2];exact tQ) g3 (hG.mono g1.ext) g1.rep hm (hl.trans g1);refine⟨η2,t2,d2,w2,g1.trans q1,q2.trans g2,q3,g4.next q1 q4 g1.kept.size,?_⟩;rw[hs];exact .of_steps (Steps.trans g5 (KJ t1 d1 w1)) (abP _ _ _ _ _ _ q5)
structure Forms(P:Program)(ty:Ty)(ih:dY):Prop where
 draw:∀id ops T H n r,ya (Region.before ops).toList 0 ops.toList (eD ty ops ops.toList (Region.before ops).toList)=true->bD (λ_=>none) ih (.code (.regd (eD ty ops ops.toList (Region.before ops).toList)) T) H n=some r->∀(η:Env) (w:World) (fr:Frame) (cs:List Frame) (k:List Item),within fr.tmps.size (.region id ops true)=true->aW η T fr.tmps->ch η ty.g->bk (WW ty) η H n w->fr.mode=.run->kI fr w->∃η' tmps ds w',Trans (WW ty) η H n w η' r.H r.n w'/\tmps.size=fr.tmps.size/\aW η' r.T tmps/\Marks w.heap.size η' r.H w' ds fr.defers/\jn P η' (lone (put fr fr.tmps fr.defers (.code (.region id ops true)::k)) cs w) fr cs k r.ex tmps ds w'
 lT:∀f ps as body f' T H n r,bK ty f=some f'->bD (λ_=>none) ih (.code (.lT f' (ps.toList.map cz) (dC ty as) (dC ty body)) T) H n=some r->∀(η:Env) (w:World) (fr:Frame) (cs:List Frame) (k:List Item),within fr.tmps.size (.rangeFunc f ps as body)=true->aW η T fr.tmps->ch η ty.g->bk (WW ty) η H n w->fr.mode=.run->kI fr w->∃η' tmps ds w',Trans (WW ty) η H n w η' r.H r.n w'/\tmps.size=fr.tmps.size/\aW η' r.T tmps/\Marks w.heap.size η' r.H w' ds fr.defers/\jn P η' (lone (put fr fr.tmps fr.defers (.code (.rangeFunc f ps as body)::k)) cs w) fr cs k r.ex tmps ds w'
 ph:∀c d x l b ws T H n r,uy ty (dC ty c) c=.ph d x l b ws->bD (λ_=>none) ih (.code (.ph d x l b ws) T) H n=some r->∀(η:Env) (w:World) (fr:Frame) (cs:List Frame) (k:List Item),within fr.tmps.size (.loop c)=true->aW η T fr.tmps->ch η ty.g->bk (WW ty) η H n w->fr.mode=.run->kI fr w->∃η' tmps ds w',Trans (WW ty) η H n w η' r.H r.n w'/\tmps.size=fr.tmps.size/\aW η' r.T tmps/\Marks w.heap.size η' r.H w' ds fr.defers/\jn P η' (lone (put fr fr.tmps fr.defers (.code (.loop c)::k)) cs w) fr cs k r.ex tmps ds w'
theorem abQ(a:AC)(c:Code):uy ty a c=.loop a\/uy ty a c=.bad\/∃d x l b ws,uy ty a c=.ph d x l b ws:=by
 unfold uy;split
 ·split
  ·exact .inr (.inr ⟨_,_,_,_,_,rfl⟩)
  ·exact .inr (.inl U)
 ·exact .inl U
theorem jn.back{m:Machine}{x:Item}{ex:Ex}(hx:∀id,x≠.inBlock id)(hs:∀tmps ds w,Steps P (lone (put fr tmps ds (x::k)) cs w) (lone (put fr tmps ds k) cs w))(h:jn P η m fr cs (x::k) ex tmps ds w):
 jn P η m fr cs k ex tmps ds w:=by
 cases ex with
 | normal=>exact Steps.trans h (hs _ _ _)
 | exit id=>exact jn.pass hx (by simp) h
 | ret=>exact jn.pass hx (by simp) h
 | panic v=>exact jn.pass hx (by simp) h
theorem abR(hC:Good P ty C)(eO:lY P ty ih)(hF:Forms P ty ih){a:AC}{r:R}(hr:bD C ih (.code a T) H n=some r):lX P ty (.code a T) H n r:=by
 intro η w fr cs k c hW hT hG hH hm hl;obtain⟨hc,jv⟩:=hW;have here:∀{T'},r=⟨.normal,T',.q,H,n⟩->T'=T->Steps P (lone (put fr fr.tmps fr.defers (.code c::k)) cs w) (lone (put fr fr.tmps fr.defers k) cs w)->∃η' tmps ds w',Trans (WW ty) η H n w η' r.H r.n w'/\tmps.size=fr.tmps.size/\aW η' r.T tmps/\Marks w.heap.size η' r.H w' ds fr.defers/\jn P η' (lone (put fr fr.tmps fr.defers (.code c::k)) cs w) fr cs k r.ex tmps ds w':=by rintro T' rfl rfl hs;exact⟨η,fr.tmps,fr.defers,w,.refl hH,rfl,hT,.refl _ _ _ _ _,hs⟩
 have one:∀{m1:Machine},step P (lone (put fr fr.tmps fr.defers (.code c::k)) cs w)=.next m1->∀{η' ex tmps ds w'},jn P η' m1 fr cs k ex tmps ds w'->jn P η' (lone (put fr fr.tmps fr.defers (.code c::k)) cs w) fr cs k ex tmps ds w':=
  λhs _ _ _ _ _ h=>.of_steps (.one hs) h
 cases c with
 | skip=>
  simp only[dC]at hc;subst hc;simp only[bD]at hr;injection hr with hr;exact here hr.symm U (.one (abI hm))
 | label l=>
  simp only[dC]at hc;subst hc;simp only[bD]at hr;injection hr with hr;exact here hr.symm U (.one (abJ hm))
 | region id ops draw=>
  cases draw with
  | false=>
   simp only[dC,cond_false]at hc;subst hc;simp only[bD]at hr;have hd:iK fr.tmps.size ops.toList=true:=jv;obtain⟨η',t',w',g1,g2,g3,g4⟩:=KG (cs:=cs) (k:=k) (ds:=fr.defers) hC eO hm hd ops.toList 0 rfl η T H n w fr.tmps r hr hT rfl hG hH;refine⟨η',t',fr.defers,w',g1,g2,g3,.refl _ _ _ _ _,?_⟩;have eF:ops.toList.length=ops.size:=by simp
   rw[eF,←xL]at g4;exact .of_steps (.one (Ee hm)) g4
  | true=>
   simp only[dC,cond_true]at hc;cases qj:ya (Region.before ops).toList 0 ops.toList (eD ty ops ops.toList (Region.before ops).toList) with
   | false=>rw[qj]at hc;simp only[cond_false]at hc;subst hc;cases hr
   | true=>
    rw[qj]at hc;simp only[cond_true]at hc;subst hc;exact hF.draw id ops T H n r qj hr η w fr cs k jv hT hG hH hm hl
 | seq x y=>
  simp only[dC]at hc;subst hc;simp only[within,bh]at jv;simp only[bD]at hr;split at hr
  ·rename_i T1 v1 H1 n1 h1;have j1:=eO _ _ _ _ h1;have j2:=eO _ _ _ _ hr;obtain⟨η',t',d',w',g1,g2,g3,g4,g5⟩:=abO j1 rfl j2 (c1:=x) (c2:=y) (x:=.code y) (k2:=k) ⟨rfl,jv.1⟩ ⟨rfl,jv.2⟩ hT hG hH hm hl (by intro id h;cases h) U (λ_ _ _=>.refl _ _) (λ_ _ _ _ _ _ h=>h);exact⟨η',t',d',w',g1,g2,g3,g4,one (BX hm) g5⟩
  ·rename_i hU;have j1:=eO _ _ _ _ hr;obtain⟨η',t',d',w',g1,g2,g3,g4,g5⟩:=j1 η w fr cs (.code y::k) x ⟨rfl,jv.1⟩ hT hG hH hm hl;have hex:r.ex≠.normal:=by
    intro e;obtain⟨ex,T1,v1,H1,n1⟩:=r;simp only at e;subst e;exact hU _ _ _ _ hr
   exact⟨η',t',d',w',g1,g2,g3,g4,one (BX hm) (.pass (by intro id h;cases h) hex g5)⟩
 | cond x c1 c2=>
  simp only[dC]at hc;split at hc
  case h_2=>subst hc;cases hr
  rename_i x' hx;subst hc;simp only[within,bh]at jv;simp only[bD]at hr;split at hr
  case h_2=>cases hr
  rename_i b hb;have iM:=cw hT hG hx hb;have hv:ai fr.tmps x=.bool b:=by generalize ai fr.tmps x=y at iM;cases iM;rfl
  have j1:=eO _ _ _ _ hr;cases b with
  | true=>
   obtain⟨η',t',d',w',g1,g2,g3,g4,g5⟩:=j1 η w fr cs k c1 ⟨rfl,jv.1⟩ hT hG hH hm hl;exact⟨η',t',d',w',g1,g2,g3,g4,one (QQ hm hv) g5⟩
  | false=>
   obtain⟨η',t',d',w',g1,g2,g3,g4,g5⟩:=j1 η w fr cs k c2 ⟨rfl,jv.2⟩ hT hG hH hm hl;exact⟨η',t',d',w',g1,g2,g3,g4,one (QQ hm hv) g5⟩
 | block id c1=>
  simp only[dC]at hc;subst hc;simp only[bD]at hr;have jv:within fr.tmps.size c1=true:=jv;split at hr
  ·rename_i CY T1 v1 H1 n1 h1;have j1:=eO _ _ _ _ h1;obtain⟨η',t',d',w',g1,g2,g3,g4,k1,g5,g6⟩:=j1 η w fr cs (.inBlock id::k) c1 ⟨rfl,jv⟩ hT hG hH hm hl;cases Ef:Nat.beq id CY with
   | true=>
    rw[Ef]at hr;injection hr with hr;subst hr;obtain rfl:=cL Ef;refine⟨η',t',d',w',g1,g2,g3,g4,Steps.head (KH hm) (Steps.trans g6 (.one (abN hm ?_)))⟩;rw[g5];simp[exitTo]
   | false=>
    rw[Ef]at hr;injection hr with hr;subst hr;refine⟨η',t',d',w',g1,g2,g3,g4,k1,?_,Steps.head (KH hm) g6⟩;rw[g5];have:(id==CY)=false:=by rw[dD]at Ef;simpa using Ef
    simp[exitTo,this]
  ·rename_i hU;have j1:=eO _ _ _ _ hr;obtain⟨η',t',d',w',g1,g2,g3,g4,g5⟩:=j1 η w fr cs (.inBlock id::k) c1 ⟨rfl,jv⟩ hT hG hH hm hl;refine⟨η',t',d',w',g1,g2,g3,g4,one (KH hm) ?_⟩;generalize hex:r.ex=ex at g5;cases ex with
   | normal=>exact Steps.trans g5 (.one (abK hm))
   | exit CY=>
    exfalso;obtain⟨ex,T1,v1,H1,n1⟩:=r;simp only at hex;subst hex;exact hU _ _ _ _ _ hr
   | ret=>exact g5
   | panic v=>exact g5
 | loop c1=>
  have hwl:=jv;have jv:within fr.tmps.size c1=true:=jv;have tL:dC ty (.loop c1)=uy ty (dC ty c1) c1:=rfl;rw[tL]at hc;rcases abQ (ty:=ty) (dC ty c1) c1 with hk | hk | ⟨d,x,l,b,ws,hk⟩
  ·rw[hk]at hc;subst hc;simp only[bD]at hr;split at hr
   ·rename_i T1 v1 H1 n1 h1;have j1:=eO _ _ _ _ h1;have j2:=eO _ _ _ _ hr;obtain⟨η1,t1,d1,w1,g1,g2,g3,g4,g5⟩:=j1 η w fr cs (.inLoop c1::k) c1 ⟨rfl,jv⟩ hT hG hH hm hl;obtain⟨η2,t2,d2,w2,q1,q2,q3,q4,q5⟩:=j2 η1 w1 (put fr t1 d1 []) cs k (.loop c1) ⟨by rw[tL,hk],by show within t1.size (.loop c1)=true;rw[g2];exact hwl⟩ g3 (hG.mono g1.ext) g1.rep hm (hl.trans g1);refine⟨η2,t2,d2,w2,g1.trans q1,q2.trans g2,q3,g4.next q1 q4 g1.kept.size,?_⟩;refine .of_steps (Steps.head (Hm hm) (Steps.trans g5 (.one (KI hm)))) ?_;have dJ:step P (lone (put fr t1 d1 (.code (.loop c1)::k)) cs w1)=.next (lone (put fr t1 d1 (.code c1::.inLoop c1::k)) cs w1):=Hm hm;have q5:jn P η2 (lone (put fr t1 d1 (.code (.loop c1)::k)) cs w1) fr cs k r.ex t2 d2 w2:=q5;have ne:∀{todo:List Item},(.code (.loop c1)::k)≠todo->lone (put fr t1 d1 (.code (.loop c1)::k)) cs w1≠lone (put fr t2 d2 todo) cs w2:=by
     intro todo h e;have:=congrArg (λm:Machine=>(m.gs[0]?).map (·.frame.todo)) e;simp[lone,put]at this;exact h this
    generalize r.ex=ex at q5;cases ex with
    | normal=>exact Steps.tail q5 dJ (ne (by intro e;have:=congrArg List.length e;simp at this))
    | exit id=>obtain⟨k1,a1,a2⟩:=q5;exact⟨k1,a1,Steps.tail a2 dJ (ne (by intro e;injection e with e;cases e))⟩
    | ret=>obtain⟨k1,a2⟩:=q5;exact⟨k1,Steps.tail a2 dJ (ne (by intro e;injection e with e;cases e))⟩
    | panic v=>
     obtain⟨k1,x,a1,a2⟩:=q5;refine⟨k1,x,a1,Steps.tail a2 dJ λe=>?_⟩;have:=congrArg (λm:Machine=>(m.gs[0]?).map (·.frame.mode)) e;simp[lone,put,hm]at this
   ·rename_i hU;have j1:=eO _ _ _ _ hr;obtain⟨η',t',d',w',g1,g2,g3,g4,g5⟩:=j1 η w fr cs (.inLoop c1::k) c1 ⟨rfl,jv⟩ hT hG hH hm hl;have hex:r.ex≠.normal:=by
     intro e;obtain⟨ex,T1,v1,H1,n1⟩:=r;simp only at e;subst e;exact hU _ _ _ _ hr
    exact⟨η',t',d',w',g1,g2,g3,g4,one (Hm hm) (.pass (by intro id h;cases h) hex g5)⟩
  ·rw[hk]at hc;subst hc;cases hr
  ·rw[hk]at hc;subst hc;exact hF.ph c1 d x l b ws T H n r hk hr η w fr cs k hwl hT hG hH hm hl
 | rangeFunc f ps as body=>
  simp only[dC]at hc;split at hc
  case h_2=>subst hc;cases hr
  rename_i f' hf;subst hc;exact hF.lT f ps as body f' T H n r hf hr η w fr cs k jv hT hG hH hm hl
 | exit id=>
  simp only[dC]at hc;subst hc;simp only[bD]at hr;injection hr with hr;subst hr;exact⟨η,fr.tmps,fr.defers,w,.refl hH,rfl,hT,.refl _ _ _ _ _,k,rfl,.refl _ _⟩
 | scope c1=>
  simp only[dC]at hc;subst hc;simp only[bD]at hr;have jv:within fr.tmps.size c1=true:=jv;have j1:=eO _ _ _ _ hr;obtain⟨η',t',d',w',g1,g2,g3,g4,g5⟩:=j1 η w fr cs (.inScope c1::k) c1 ⟨rfl,jv⟩ hT hG hH hm hl;exact⟨η',t',d',w',g1,g2,g3,g4,one (abM hm) (.back (by intro id h;cases h) (λ_ _ _=>.one (abL hm)) g5)⟩
 | ret=>
  simp only[dC]at hc;subst hc;simp only[bD]at hr;injection hr with hr;subst hr;exact⟨η,fr.tmps,fr.defers,w,.refl hH,rfl,hT,.refl _ _ _ _ _,k,.refl _ _⟩
 | goto l=>simp only[dC]at hc;subst hc;cases hr
 | refuse s=>simp only[dC]at hc;subst hc;cases hr
end ops
end
section
section ops
variable {P:Program}{ty:Ty}{C:Nat->Option bN}{W:Nat->Code->AC->Prop}{ih:dY}{η η':Env}{T:Tr V}{H H':Hp}{n n':K}{w w':World}{v:V}{tmps:Array Value}{ds:List Deferred}{fr:Frame}{cs:List Frame}{k:List Item}
def Eg(tmps:Array Value):ResultVar->Sem Value
 | .tmp t=>pure (tmps.getD t undef)
 | .cell a t=>do loadVar t (←asAddr (tmps.getD a undef))
theorem abT(aI:dI P ty)(hT:aW η T tmps)(hH:bk W η H n w){rv:ResultVar}{ar:AR}(hc:GY ty rv=some ar){v:V}(h:result T H ar=some v):
 aZ P (Eg tmps rv) w λy w'=>al η v y/\w'=w:=by
 cases rv with
 | tmp t=>
  simp only[GY]at hc;injection hc with hc;subst hc;simp only[result]at h;obtain⟨y,h1,h2⟩:=hT t v h;refine aa ⟨?_,rfl⟩;rw[xF,h1];exact h2
 | cell a t=>
  simp only[GY]at hc;split at hc
  case h_2=>cases hc
  rename_i i hi;injection hc with hc;subst hc;simp only[result]at h;split at h
  case h_2=>cases h
  rename_i p hp;obtain⟨y,h1,h2⟩:=hT a p hp;have hp:∃A,y=.pointer (some A):=by
   unfold wc at h;split at h
   ·cases h2;exact⟨_,rfl⟩
   ·cases h
  obtain⟨A,rfl⟩:=hp;show aZ P (do loadVar t (←asAddr (tmps.getD a undef))) w _;rw[xF,h1];exact ψ (aa (Pu (aI.ok _ _ hi) hH h2 h))
theorem abU(aI:dI P ty)(hT:aW η T tmps)(hH:bk W η H n w){l:List ResultVar}{as:List AR}(hc:yb ty l=some as){vs:List V}(h:xV T H as=some vs):
 aZ P (l.mapM (Eg tmps)) w λys w'=>bc η vs ys/\w'=w:=by
 induction l generalizing as vs with
 | nil=>
  simp only[yb]at hc;injection hc with hc;subst hc;simp only[xV]at h;injection h with h;subst h;exact aa ⟨.nil,rfl⟩
 | cons r l ih=>
  simp only[yb]at hc;split at hc
  case h_2=>cases hc
  rename_i a F6 h1 h2;injection hc with hc;subst hc;simp only[xV]at h;split at h
  case h_2=>cases h
  rename_i v DT h3 h4;injection h with h;subst h;rw[List.mapM_cons];refine ψ ((abT aI hT hH h1 h3).mono ?_);rintro y w' ⟨g1,rfl⟩;refine ψ ((ih h2 h4).mono ?_);rintro ys w' ⟨g2,rfl⟩;exact aa ⟨.cons _ _ _ _ g1 g2,rfl⟩
theorem KK(aI:dI P ty)(hT:aW η T tmps)(hH:bk W η H n w){fn:Func}{as:List AR}(hc:yb ty fn.results.toList=some as){v:V}(h:rp as T H=some v):
 ∃y,(results fn tmps).run P w=.ok y w/\al η v y:=by
 have key:∀vs,xV T H as=some vs->(∀ys,bc η vs ys->al η v (if h:ys.toArray.size=1 then ys.toArray[0] else .tuple ys.toArray))->∃y,(results fn tmps).run P w=.ok y w/\al η v y:=by
  intro vs F7 jR;obtain⟨ys,w',h1,h2,rfl⟩:=abU aI hT hH hc F7;refine⟨_,?_,jR ys h2⟩;have e:results fn tmps=(do let vs←fn.results.mapM (Eg tmps);pure (if h:vs.size=1 then vs[0] else .tuple vs)):=rfl
  rw[e,Array.mapM_eq_mapM_toList];show(Sem.bind (Sem.bind (fn.results.toList.mapM (Eg tmps)) _) _).run P w'=_;rw[Sem.run_bind',Sem.run_bind',h1];rfl
 unfold rp at h;split at h
 ·rename_i u hu;injection h with h;subst h;refine key _ hu λys Oi=>?_;cases Oi with
  | cons _ y _ l a b=>cases b;simpa using a
 ·rename_i vs hU F7;injection h with h;subst h;refine key _ F7 λys Oi=>?_;have hlen:=Oi.length;have:¬ ys.toArray.size=1:=by
   intro e;simp at e;rw[e]at hlen;cases vs with
   | nil=>cases hlen
   | cons a l=>cases l with
    | nil=>exact hU a rfl
    | cons=>simp at hlen
  rw[dif_neg this];exact .u _ _ Oi
 ·cases h
theorem KL:∀(vs:List V) (xs:List Value) (i m:Nat) (T T':Tr V),bc η vs xs->aW η T tmps->(∀j x,xs[j]?=some x->tmps[i+j]?=some x)->binds ((List.range' i m).map cz) vs T=some T'->aW η T' tmps:=by
 intro vs
 induction vs with
 | nil=>intro xs i m T T' hv hT hx h;cases hv;cases m<;>(simp only[List.range'_zero,List.range'_succ,lP,List.map_nil,binds]at h;injection h with h;subst h;exact hT)
 | cons v vs ih=>
  intro xs i m T T' hv hT hx h;cases hv with
  | cons _ x _ xs h1 h2=>
   cases m with
   | zero=>simp only[List.range'_zero,List.map_nil,binds]at h;cases h
   | succ m=>
    rw[List.range'_succ,lP]at h;simp only[binds]at h;refine ih xs (i+1) m _ T' h2 ?_ (λj y hj=>by have:=hx (j+1) y (by simpa using hj);rw[←this];congr 1;omega) h;intro t u hu;rw[Tr.fI]at hu;split at hu
    ·rename_i e;have:=GZ e;subst this;injection hu with hu;subst hu;exact⟨x,by have:=hx 0 x (by simp);simpa using this,h1⟩
    ·exact hT t u hu
theorem QR{bs:List Nat}{b:Nat}{ds0:List Deferred}(hm:fr.mode≠.run)(h:w.heap[b]?=some (.deferred (some []))):
 step P (lone { fr with defers:={ target:=.collected b,args:=#[]}::ds0} cs w)=.next (lone { fr with defers:=ds0} cs { w with heap:=w.heap.setIfInBounds b (.deferred none)}):=by
 obtain⟨fn,nG,todo,defers,mode,kind,roundOf⟩:=fr;simp only at hm;refine iG ?_;have:(Instr.takeDeferred b).run P w=.ok [] { w with heap:=w.heap.setIfInBounds b (.deferred none)}:=by simp[Instr.takeDeferred,getObj,setObj,bind,Sem.bind,Sem.run,h,pure]
 cases mode with
 | run=>exact absurd rfl hm
 | _=>
  simp only[stepG,unwind,Sem.runT_eq,this,GStep.bare_after,List.nil_append];rfl
theorem returning(hm:fr.mode=.run)(hr:fr.roundOf=none):step P (lone (put fr tmps ds []) cs w)=.next (lone { put fr tmps ds [] with mode:=.returning} cs w):=by obtain⟨fn,nG,todo,defers,mode,kind,roundOf⟩:=fr;simp only at hm hr;subst hm;subst hr;exact iG (by simp[put,stepG,stepG.exec])
theorem Ho(hm:fr.mode=.run)(hr:fr.roundOf=none):step P (lone (put fr tmps ds (.code .ret::k)) cs w)=.next (lone { put fr tmps ds (.code .ret::k) with mode:=.returning} cs w):=by obtain⟨fn,nG,todo,defers,mode,kind,roundOf⟩:=fr;simp only at hm hr;subst hm;subst hr;exact iG (by simp[put,stepG,stepG.exec])
theorem bk.QS(h:bk W η H n w){b:Nat}{d:Option (List Deferred)}(hb:w.heap[b]?=some (.deferred d))(m:Bool):¬ nc η H m b:=by
 rintro⟨q,o,L,h1,_,h2,rfl⟩;obtain⟨L',g1,g2,g3⟩:=h.obj q o h1;rw[h2]at g1;injection g1 with g1;subst g1;rw[hb]at g3;cases o with
 | lp _ _ _ _ _ _=>obtain⟨_,h1,_⟩:=g3;cases h1
 | c _ _ _=>obtain⟨_,_,h1,_⟩:=g3;cases h1
 | r _=>obtain⟨_,_,_,h1,_⟩:=g3;cases h1
 | mp _ _=>obtain⟨_,h1,_⟩:=g3;cases h1
 | mi _ _=>obtain⟨_,_,_,h1⟩:=g3;cases h1
 | me _ _ _=>obtain⟨_,_,_,_,_,h1,_⟩:=g3;cases h1
 | it _ _ _=>obtain⟨_,h1,_⟩:=g3;cases h1
 | b _ _ _=>obtain⟨_,_,_,h1,_⟩:=g3;cases h1
theorem Trans.deferred(h:Trans W η H n w η' H' n' w'){b:Nat}{d d':Option (List Deferred)}(hb:w'.heap[b]?=some (.deferred d))(hs:w.heap.size<=b):
 Trans W η H n w η' H' n' { w' with heap:=w'.heap.setIfInBounds b (.deferred d')} where
 ext:=h.ext
 le:=h.le
 rep:=
  {obj:=λq o hq=>by
    obtain⟨L,g1,g2,g3⟩:=h.rep.obj q o hq;refine⟨L,g1,by simpa using g2,?_⟩;show gO W η' o L (w'.heap.setIfInBounds b (.deferred d'))[L.blk]?;rw[gB,Ξ]
    ·exact g3
    ·intro e;exact h.rep.QS hb false ⟨q,o,L,hq,(λh=>by cases h),g1,e.symm⟩
   sep:=h.rep.sep
   free:=h.rep.free}
 kept:=
  {os:=h.kept.os
   tape:=h.kept.tape
   output:=h.kept.output
   size:=by simpa using h.kept.size
   block:=λq hq hF=>by show(w'.heap.setIfInBounds b (.deferred d'))[q]?=_;rw[gB,Ξ (by omega)];exact h.kept.block q hq hF
   loops:=λq r hq=>by
    obtain⟨r',h1⟩:=h.kept.loops q r hq;refine⟨r',?_⟩;show(w'.heap.setIfInBounds b (.deferred d'))[q]?=_;rw[gB,Ξ]
    ·exact h1
    ·intro e;rw[e,h1]at hb;cases hb}
 kZ:=h.kZ
 dR:=h.dR
theorem Hq:∀(bs:List Nat) (w':World),fr.mode≠.run->Trans W η H n w η' H' n' w'->(∀b∈bs,w.heap.size<=b/\w'.heap[b]?=some (.deferred (some [])))->bs.Nodup->∃w2,Steps P (lone { fr with defers:=bs.map (λb=>{ target:=.collected b,args:=#[]})} cs w') (lone { fr with defers:=[]} cs w2)/\Trans W η H n w η' H' n' w2:=by
 intro bs
 induction bs with
 | nil=>intro w' hm ht _ _;exact⟨w',.refl _ _,ht⟩
 | cons b bs ih=>
  intro w' hm ht hb oX;obtain⟨h1,h2⟩:=hb b (by simp);have wg:=ht.deferred (d':=none) h2 h1;obtain⟨w2,s2,t2⟩:=ih _ hm wg (λq hq=>by
   obtain⟨g1,g2⟩:=hb q (by simp[hq]);refine⟨g1,?_⟩;have aR:b≠q:=λe=>by rw[e]at oX;exact(List.nodup_cons.1 oX).1 hq
   show(w'.heap.setIfInBounds b (.deferred none))[q]?=_;rw[gB,Ξ aR];exact g2) (List.nodup_cons.1 oX).2
  exact⟨w2,Steps.head (QR (bs:=bs) hm h2) s2,t2⟩
theorem abV{c:Frame}{x:Value}{fn:Func}(hf:P.funcs[fr.fn]?=some fn)(hd:fr.defers=[])(hm:fr.mode=.panicking [{ v:=x,recovered:=false}]):
 step P (lone fr (c::cs) w)=.next (lone (c.raise [{ v:=x,recovered:=false}]) cs w):=by
 obtain⟨abW,nG,todo,defers,mode,kind,roundOf⟩:=fr;simp only at hf hd hm;subst hd;subst hm;refine iG ?_;have hc:Frame.catches P { fn:=abW,tmps:=nG,todo,defers:=[],mode:=.panicking [{ v:=x,recovered:=false}],kind,roundOf}=false:=by unfold Frame.catches;simp only[hf]
 simp only[stepG,unwind,hc];rfl
theorem abX(hC:Good P ty C)(eO:lY P ty ih){g:Nat}{a c l:List V}{af:AF}(hg:C g=some (.go af)){r:R}(hr:bD C ih (.call (.f g a c) l) H n=some r):lX P ty (.call (.f g a c) l) H n r:=by
 intro η w cf cs fv args wh jI hG hH;obtain⟨fn,nZ,rE,my⟩:=hC.fn g af hg;simp only[bD,hg]at hr;split at hr
 case h_2=>cases hr
 rename_i T zX;unfold zM at my;split at my
 case h_2=>cases my
 rename_i body rs oD C3;cases jv:within fn.ntmps body with
 | false=>rw[jv]at my;cases my
 | true=>
  rw[jv]at my;simp only[cond_true]at my;injection my with my;subst my;simp only at hr zX;cases wh with
  | f _ _ _ a' c' ha sW=>
  have iM:bc η (a++(l++c)) (a'++(args++c')):=ha.append (jI.append sW);generalize jc:a'++(args++c')=xs at iM;let av:Array Value:=xs.toArray;let tm:Array Value:=av++Array.replicate (fn.ntmps - av.size) undef;have C4:fn.ntmps<=tm.size:=by simp only[tm,zD,Array.size_replicate];omega
  have hT:aW η T tm:=by rw[xL]at zX;refine KL (tmps:=tm) _ xs 0 _ .e T iM (λt v h=>by rw[Tr.gZ]at h;cases h) (λj x hj=>?_) zX;have ω:=(oj.1 hj).1;rw[iI];simp only[tm];rw[Array.getElem?_append_left (by simpa[av]using ω)];simpa[av]using hj
  have KM:∀(N M:Nat),N<=M->∀c,within N c=true->within M c=true:=by
   intro N M hNM;have hd:∀l,iK N l=true->iK M l=true:=by
    intro l
    induction l with
    | nil=>intro _;rfl
    | cons o l ih=>
     intro h;simp only[iK,bh]at h ⊢;refine⟨?_,ih h.2⟩;have h1:=h.1;split at h1
     ·rename_i d hd;rw[fJ,bA]at h1 ⊢;omega
     ·rfl
   have hb:∀l,ou N l=true->ou M l=true:=by
    intro l
    induction l with
    | nil=>intro _;rfl
    | cons d l ih=>
     intro h;simp only[ou,bh]at h ⊢;refine⟨?_,ih h.2⟩;have h1:=h.1;rw[fJ,bA]at h1 ⊢;omega
   intro c
   induction c with
   | region id ops dr=>exact hd _
   | seq a b jw qW=>intro h;simp only[within,bh]at h ⊢;exact⟨jw h.1,qW h.2⟩
   | cond x a b jw qW=>intro h;simp only[within,bh]at h ⊢;exact⟨jw h.1,qW h.2⟩
   | block id a jw=>exact jw
   | loop a jw=>exact jw
   | scope a jw=>exact jw
   | rangeFunc f ps a b jw qW=>intro h;simp only[within,bh]at h ⊢;exact⟨⟨hb _ h.1.1,jw h.1.2⟩,qW h.2⟩
   | _=>intro _;rfl
  let ee:Frame:={ fn:=g,tmps:=tm,todo:=[.code body],defers:=[],mode:=.run,kind:=.normal};have rF:Frame.enter P g av .normal=put ee ee.tmps ee.defers (.code body::[]):=by simp[Frame.enter,nZ,oD,put,ee,tm]
  have px:(do let d←Deferred.ofValue (.func (.func g) ⟨a'⟩ ⟨c'⟩) args.toArray;invoke d.target d.args:Sem Next).run P w=.ok (.enter g av) w:=by
   have Yf:(⟨a'⟩:Array Value)++args.toArray++(⟨c'⟩:Array Value)=av:=by apply jP;simp[av,←jc]
   have:(do let d←Deferred.ofValue (.func (.func g) ⟨a'⟩ ⟨c'⟩) args.toArray;invoke d.target d.args:Sem Next)=callFunc g ((⟨a'⟩:Array Value)++args.toArray++(⟨c'⟩:Array Value)):=rfl;rw[this,Yf];have KN:¬ fn.name = "runtime.NumGoroutine":=by simpa using rE
   simp[callFunc,program,bind,Sem.bind,Sem.run,nZ,KN,oD,pure]
  have run:∀r1,ih (.code (dC ty body) T) H n=some r1->∃(η':Env) (t':Array Value) (w':World) (bs:List Nat) (k1:List Item),Trans (WW ty) η H n w η' r1.H r1.n w'/\aW η' r1.T t'/\bs.Nodup/\(∀b∈bs,w.heap.size<=b/\w'.heap[b]?=some (.deferred (some [])))/\jn P η' (lone (put ee ee.tmps ee.defers (.code body::[])) (cf::cs) w) ee (cf::cs) k1 r1.ex t' (bs.map (λb=>{ target:=.collected b,args:=#[]})) w'/\k1=[]:=by
   intro r1 h1;obtain⟨η',t',d',w',g1,g2,g3,⟨bs,Gc,C5,Ab⟩,g5⟩:=eO _ _ _ _ h1 η w ee (cf::cs) [] body ⟨rfl,KM _ _ C4 _ jv⟩ hT hG hH rfl (by intro l h;cases h);have Gc:d'=bs.map (λb=>{ target:=.collected b,args:=#[]}):=by simpa[ee]using Gc
   subst Gc;exact⟨η',t',w',bs,[],g1,g3,C5,λb hb=>⟨(Ab b hb).1,(Ab b hb).2.1⟩,g5,rfl⟩
  split at hr
  ·cases hr
  ·rename_i u T1 v1 H1 n1 h1;injection hr with hr;subst hr;refine⟨(λh=>by cases h),λu' hu=>?_⟩;injection hu with hu;subst hu;obtain⟨η',t',w',bs,_,g1,g3,C5,Ab,⟨k1,x,g6,g5⟩,rfl⟩:=run _ h1;obtain⟨w2,s2,t2⟩:=Hq (P:=P) (cs:=cf::cs) (fr:={ put ee t' [] k1 with mode:=.panicking [{ v:=x,recovered:=false}]}) bs w' (by intro h;cases h) g1 Ab C5
   refine⟨η',x,w2,t2,g6,g,av,w,px,?_⟩;rw[rF];exact Steps.trans g5 (Steps.trans s2 (.one (abV (fn:=fn) nZ rfl rfl)))
  ·rename_i ex T1 v1 H1 n1 KO KP h1;split at hr
   case h_2=>cases hr
   rename_i v hv;injection hr with hr;subst hr;refine⟨λ_=>?_,λu h=>by cases h⟩;obtain⟨η',t',w',bs,_,g1,g3,C5,Ab,g5,rfl⟩:=run _ h1;have leave:∃todo,Steps P (lone (put ee ee.tmps ee.defers (.code body::[])) (cf::cs) w) (lone { put ee t' (bs.map (λb=>{ target:=.collected b,args:=#[]})) todo with mode:=.returning} (cf::cs) w'):=by
    cases ex with
    | normal=>exact⟨_,Steps.trans g5 (.one (returning rfl rfl))⟩
    | ret=>obtain⟨k1,g5⟩:=g5;exact⟨_,Steps.trans g5 (.one (Ho rfl rfl))⟩
    | exit id=>exact(KO id rfl).elim
    | panic u=>exact(KP u rfl).elim
   obtain⟨todo,s1⟩:=leave;obtain⟨w2,s2,t2⟩:=Hq (P:=P) (cs:=cf::cs) (fr:={ put ee t' [] todo with mode:=.returning}) bs w' (by intro h;cases h) g1 Ab C5;obtain⟨y,F8,Ac⟩:=KK hC.aI g3 t2.rep C3 hv;refine⟨η',y,w2,t2,Ac,.enter g av,w,px,?_⟩;show Steps P (lone (Frame.enter P g av .normal) (cf::cs) w) _;rw[rF];exact Steps.trans s1 (Steps.trans s2 (.one (step_leave_returned ⟨rfl,rfl,rfl,fn,nZ,F8⟩)))
  ·cases hr
end ops
end
section
section ops
variable {P:Program}{ty:Ty}{C:Nat->Option bN}{W:Nat->Code->AC->Prop}{ih:dY}{η η':Env}{T:Tr V}{H H':Hp}{n n':K}{w w':World}{v:V}{tmps:Array Value}{ds:List Deferred}{fr:Frame}{cs:List Frame}{k:List Item}
theorem Hr(hH:bk W η H n w){q:K}{ready:Bool}{gC:Ex}{T:Tr V}{ps:List K}{as body:AC}(h:H.get q=some (.lp ready gC T ps as body)){L:Loc}(hL:η q=some L):
 ∃r,w.heap[L.blk]?=some (.loop r)/\(r.state=if ready then .ready else if gC.js then .busy else .done)/\r.pending=mF gC/\aW η T r.tmps/\ps=r.params.toList.map cz/\ou r.tmps.size r.params.toList=true/\W r.tmps.size r.assign as/\W r.tmps.size r.body body:=by
 obtain⟨L',h1,h2,r,h3⟩:=hH.obj q _ h;rw[hL]at h1;injection h1 with h1;subst h1;exact⟨r,h3⟩
theorem abZ:∀(vs:List V) (xs:List Value) (ps:List Nat) (T T':Tr V) (tmps:Array Value),bc η vs xs->aW η T tmps->ou tmps.size ps=true->ps.length=vs.length->binds (ps.map cz) vs T=some T'->aW η T' ((ps.zip xs).foldl (λtmps (t,a)=>tmps.setIfInBounds t a) tmps)/\((ps.zip xs).foldl (λtmps (t,a)=>tmps.setIfInBounds t a) tmps).size=tmps.size:=by
 intro vs
 induction vs with
 | nil=>
  intro xs ps T T' tmps hv hT hb hlen h;cases hv;cases ps with
  | nil=>simp only[List.map_nil,binds]at h;injection h with h;subst h;exact⟨hT,rfl⟩
  | cons=>cases hlen
 | cons v vs ih=>
  intro xs ps T T' tmps hv hT hb hlen h;cases hv with
  | cons _ x _ xs h1 h2=>
   cases ps with
   | nil=>cases hlen
   | cons p ps=>
    simp only[lP,binds]at h;simp only[ou,bh,fJ,bA]at hb;simp only[List.zip_cons_cons,List.foldl_cons];obtain⟨g1,g2⟩:=ih xs ps _ T' (tmps.setIfInBounds p x) h2 (hT.set hb.1 h1) (by simpa using hb.2) (by simpa using hlen) h;exact⟨g1,by rw[g2];simp⟩
theorem ab0{l:Nat}{r:Go.Loop}{args:Array Value}(h:w.heap[l]?=some (.loop r))(eF:args.size=r.params.size):
 (Instr.yield l args).run P w=.ok (.round l r.fn ((r.params.zip args).foldl (λtmps (t,a)=>tmps.setIfInBounds t a) r.tmps) r.assign r.body) w:=by
 simp[Instr.yield,Instr.getLoop,getObj,bind,Sem.bind,Sem.run,h,pure,eF]
theorem ab1{l:Nat}{r:Go.Loop}(hm:fr.mode=.run)(hr:fr.roundOf=some l)(h:w.heap[l]?=some (.loop r))(dJ:r.state=.ready):
 step P (lone (put fr tmps ds (.beginRound::k)) cs w)=.next (lone (put fr tmps ds k) cs { w with heap:=w.heap.setIfInBounds l (.loop { r with state:=.busy})}):=by
 obtain⟨fn,nG,todo,defers,mode,kind,roundOf⟩:=fr;simp only at hm hr;subst hm;subst hr;have px:(do Instr.beginRound l;pure Next.skip:Sem Next).run P w=.ok .skip { w with heap:=w.heap.setIfInBounds l (.loop { r with state:=.busy})}:=by simp[Instr.beginRound,Instr.getLoop,getObj,setObj,bind,Sem.bind,Sem.run,h,pure,dJ]
 refine iG ?_;have:=KD (P:=P) (fr:={ fn,tmps,todo:=.beginRound::k,defers:=ds,mode:=.run,kind,roundOf:=some l}) (cs:=cs) px;simpa[put,stepG,stepG.exec,Frame.finish]using this
theorem ab2{l:Nat}{r:Go.Loop}(h:w.heap[l]?=some (.loop r))(j:Option Code):
 (Instr.endRound l j).run P w=.ok (.bool j.isNone) { w with heap:=w.heap.setIfInBounds l (.loop { r with state:=if j.isNone then .ready else .done,pending:=j})}:=by
 simp[Instr.endRound,Instr.getLoop,getObj,setObj,bind,Sem.bind,Sem.run,h,pure]
theorem ab3{l:Nat}{r:Go.Loop}{c:Frame}(hm:fr.mode=.run)(hr:fr.roundOf=some l)(hk:fr.kind=.normal)(h:w.heap[l]?=some (.loop r))(ex:Ex)
 (ht:match ex with | .normal=>k=[] | .exit id=>∃k1,k=.code (.exit id)::k1/\exitTo id k1=none | .ret=>∃k1,k=.code .ret::k1 | .panic _=>False):
 step P (lone (put fr tmps ds k) (c::cs) w)=.next (lone (c.finish (.bool ex.js)) cs { w with heap:=w.heap.setIfInBounds l (.loop { r with state:=if (mF ex).isNone then .ready else .done,pending:=mF ex})}):=by
 obtain⟨fn,nG,todo,defers,mode,kind,roundOf⟩:=fr;simp only at hm hr hk;subst hm;subst hr;subst hk;have he:=λj=>ab2 (P:=P) h j;refine iG ?_;cases ex with
 | normal=>
  simp only at ht;subst ht;have:=he none;simp[put,stepG,stepG.exec,this,doReturn,mF,Ex.js]
 | exit id=>
  obtain⟨k1,rfl,hx⟩:=ht;have:=he (some (.exit id));simp[put,stepG,stepG.exec,hx,this,doReturn,mF,Ex.js]
 | ret=>
  obtain⟨k1,rfl⟩:=ht;have:=he (some .ret);simp[put,stepG,stepG.exec,this,doReturn,mF,Ex.js]
 | panic v=>exact ht.elim
end ops
end
section
section ops
variable {P:Program}{ty:Ty}{C:Nat->Option bN}{W:Nat->Code->AC->Prop}{ih:dY}{η η':Env}{T:Tr V}{H H':Hp}{n n':K}{w w':World}{v:V}{tmps:Array Value}{ds:List Deferred}{fr:Frame}{cs:List Frame}{k:List Item}
theorem ab4(hC:Good P ty C)(eO:lY P ty ih){q:K}{l:List V}{r:R}(hr:bD C ih (.call (.y q) l) H n=some r):lX P ty (.call (.y q) l) H n r:=by
 intro η w cf cs fv args wh jI hG hH;simp only[bD]at hr;split at hr
 case h_2=>cases hr
 rename_i T ps as body hq;split at hr
 case h_2=>cases hr
 rename_i T' KQ;cases hlen:Nat.beq ps.length l.length with
 | false=>rw[hlen]at hr;cases hr
 | true=>
  rw[hlen]at hr;simp only[cond_true]at hr;have hlen:=cL hlen;split at hr
  case h_2=>cases hr
  rename_i T1 v1 H1 n1 h1;split at hr
  case h_2=>cases hr
  rename_i Tb psb asb QT hq1;split at hr
  case h_2=>cases hr
  rename_i r2 h2;split at hr
  case h_2=>cases hr
  rename_i Tc psc asc QU Oe;cases sX:r2.ex.rq with
  | true=>rw[sX]at hr;cases hr
  | false=>
  rw[sX]at hr;simp only[cond_false]at hr;injection hr with hr;subst hr;refine⟨λ_=>?_,λu h=>by cases h⟩;cases wh with
  | y _ L hL=>
  obtain⟨lp,a1,a2,a3,a4,a5,a6,a7,a8⟩:=Hr hH hq hL;have eF:args.length=lp.params.size:=by
   have e1:ps.length=lp.params.size:=by rw[a5];simp
   rw[←jI.length,←hlen,e1]
  obtain⟨b1,b2⟩:=abZ l args lp.params.toList T T' lp.tmps jI a4 a6 (by rw[←jI.length]at eF;simp;omega) (by rw[←a5];exact KQ);let tm:Array Value:=(lp.params.toList.zip args).foldl (λtmps (t,a)=>tmps.setIfInBounds t a) lp.tmps;let ee:Frame:={ fn:=lp.fn,tmps:=tm,todo:=[],defers:=[],mode:=.run,kind:=.normal,roundOf:=some L.blk};have C4:((lp.params.zip args.toArray).foldl (λtmps (t,a)=>tmps.setIfInBounds t a) lp.tmps)=tm:=by rw[←Array.foldl_toList];simp only[tm];congr 1;simp
  have px:(do let d←Deferred.ofValue (.func (.yield L.blk) #[] #[]) args.toArray;invoke d.target d.args:Sem Next).run P w=.ok (.round L.blk lp.fn tm lp.assign lp.body) w:=by have:(do let d←Deferred.ofValue (.func (.yield L.blk) #[] #[]) args.toArray;invoke d.target d.args:Sem Next)=Instr.yield L.blk ((#[]:Array Value)++args.toArray):=rfl;rw[this,Array.empty_append,ab0 a1 (by simpa using eF),C4]
  have j1:=eO _ _ _ _ h1;have j2:=eO _ _ _ _ h2;obtain⟨η1,t1,d1,w1,g1,g2,g3,g4,g5⟩:=j1 η w ee (cf::cs) [.beginRound,.code lp.body] lp.assign (by show WW ty tm.size lp.assign as;rw[show tm.size=lp.tmps.size from b2];exact a7) b1 hG hH rfl
   (λl hl=>by injection hl with hl;subst hl;exact⟨lp,a1⟩)
  have tK:η1 q=some L:=g1.ext _ _ hL;obtain⟨Gd,c1,c2,c3,c4,c5,c6,c7,c8⟩:=Hr g1.rep hq1 tK;have tb:Trans (WW ty) η1 H1 n1 w1 η1 (H1.put (some (.lp false .normal Tb psb asb QT)) q) n1 { w1 with heap:=w1.heap.setIfInBounds L.blk (.loop { Gd with state:=.busy})}:=
   Trans.write (o':=.lp false .normal Tb psb asb QT) (ob:=.loop { Gd with state:=.busy}) g1.rep hq1 rfl tK ⟨{ Gd with state:=.busy},rfl,rfl,c3,c4,c5,c6,c7,c8⟩ rfl
  have s1:=ab1 (P:=P) (fr:=ee) (tmps:=t1) (ds:=d1) (k:=[.code lp.body]) (cs:=cf::cs) U U c1 (by simpa using c2);obtain⟨η2,t2,d2,w2,q1,q2,q3,q4,q5⟩:=j2 η1 _ (put ee t1 d1 []) (cf::cs) [] lp.body (by show WW ty t1.size lp.body body;rw[g2,show ee.tmps.size=lp.tmps.size from b2];exact a8) g3 (hG.mono g1.ext) tb.rep U
   (λl hl=>by injection hl with hl;subst hl;refine⟨{ Gd with state:=.busy},?_⟩;show(w1.heap.setIfInBounds L.blk _)[L.blk]?=_;have ω:=(oh.1 c1).1;simp[gB,ω])
  have yW:η2 q=some L:=q1.ext _ _ tK;obtain⟨Eh,e1,e2,e3,e4,e5,e6,e7,e8⟩:=Hr q1.rep Oe yW;have aca:(if (mF r2.ex).isNone then LoopState.ready else LoopState.done)=(if r2.ex.js then LoopState.ready else if r2.ex.js then .busy else .done):=by generalize r2.ex=ex at sX;cases ex<;>first | rfl | cases sX
  have te:Trans (WW ty) η2 r2.H r2.n w2 η2 (r2.H.put (some (.lp r2.ex.js r2.ex Tc psc asc QU)) q) r2.n
   {w2 with heap:=w2.heap.setIfInBounds L.blk (.loop { Eh with state:=if (mF r2.ex).isNone then .ready else .done,pending:=mF r2.ex})}:=
   Trans.write (o':=.lp r2.ex.js r2.ex Tc psc asc QU) (ob:=.loop { Eh with state:=if (mF r2.ex).isNone then .ready else .done,pending:=mF r2.ex}) q1.rep Oe rfl yW ⟨{ Eh with state:=if (mF r2.ex).isNone then .ready else .done,pending:=mF r2.ex},rfl,aca,rfl,e4,e5,e6,e7,e8⟩ rfl
  refine⟨η2,.bool r2.ex.js,_,((g1.trans tb).trans q1).trans te,.b _,_,w,px,?_⟩;have acb:Frame.round L.blk lp.fn tm lp.assign lp.body .normal=put ee ee.tmps ee.defers (.code lp.assign::[.beginRound,.code lp.body]):=rfl;show Steps P (lone (Frame.round L.blk lp.fn tm lp.assign lp.body .normal) (cf::cs) w) _;rw[acb];refine Steps.trans g5 (Steps.head s1 ?_);have q5:jn P η2 (lone (put ee t1 d1 (.code lp.body::[])) (cf::cs) { w1 with heap:=w1.heap.setIfInBounds L.blk (.loop { Gd with state:=.busy})}) ee (cf::cs) [] r2.ex t2 d2 w2:=q5;have fin:∀(kk:List Item),(match r2.ex with | .normal=>kk=[] | .exit id=>∃k1,kk=.code (.exit id)::k1/\exitTo id k1=none | .ret=>∃k1,kk=.code .ret::k1 | .panic _=>False)->Steps P (lone (put ee t1 d1 (.code lp.body::[])) (cf::cs) { w1 with heap:=w1.heap.setIfInBounds L.blk (.loop { Gd with state:=.busy})}) (lone (put ee t2 d2 kk) (cf::cs) w2)->Steps P (lone (put ee t1 d1 (.code lp.body::[])) (cf::cs) { w1 with heap:=w1.heap.setIfInBounds L.blk (.loop { Gd with state:=.busy})})
   (lone (cf.finish (.bool r2.ex.js)) cs { w2 with heap:=w2.heap.setIfInBounds L.blk (.loop { Eh with state:=if (mF r2.ex).isNone then .ready else .done,pending:=mF r2.ex})}):=
   λkk hk hs=>Steps.trans hs (.one (ab3 (fr:=ee) U U U e1 r2.ex hk))
  generalize hex:r2.ex=ex at q5 fin sX ⊢;cases ex with
  | normal=>exact fin [] rfl q5
  | exit id=>obtain⟨k1,x1,x2⟩:=q5;exact fin _ ⟨k1,rfl,x1⟩ x2
  | ret=>obtain⟨k1,x2⟩:=q5;exact fin _ ⟨k1,rfl⟩ x2
  | panic v=>cases sX
end ops
end
section
section ops
variable {P:Program}{ty:Ty}{C:Nat->Option bN}{W:Nat->Code->AC->Prop}{ih:dY}{η η':Env}{T:Tr V}{H H':Hp}{n n':K}{w w':World}{v:V}{tmps:Array Value}{ds:List Deferred}{fr:Frame}{cs:List Frame}{k:List Item}
theorem Trans.push(h:bk W η H n w)(ob:Obj):Trans W η H n w η H n { w with heap:=w.heap.push ob} where
 ext:=.refl _
 le:=χ _
 rep:=
  {obj:=λq o hq=>by
    obtain⟨L,g1,g2,g3⟩:=h.obj q o hq;refine⟨L,g1,by simp;omega,?_⟩;show gO W η o L (w.heap.push ob)[L.blk]?;rw[Bu,Ξ (by omega)];exact g3
   sep:=h.sep
   free:=h.free}
 kept:=
  {os:=rfl
   tape:=rfl
   output:=rfl
   size:=by simp
   block:=λb hb _=>by show(w.heap.push ob)[b]?=_;rw[Bu,Ξ (by omega)]
   loops:=λb r hb=>⟨r,by
    have ω:=(oh.1 hb).1;show(w.heap.push ob)[b]?=_;rw[Bu,Ξ (by omega)];exact hb⟩}
 kZ:=λ_ _ h=>.inl h
 dR:=λ_ _=>rfl
theorem Trans.drop(h:bk W η H n w){q:K}{o:O}{L:Loc}(hq:H.get q=some o)(hm:o.mut=true)(hL:η q=some L)(lp:Go.Loop):
 Trans W η H n w η (H.put none q) n { w with heap:=w.heap.setIfInBounds L.blk (.loop lp)}:=by
 obtain⟨L0,nV,ω,_⟩:=h.obj q o hq;rw[hL]at nV;injection nV with nV;subst nV;have get:∀q' o',(H.put none q).get q'=some o'->q'≠q/\H.get q'=some o':=λq' o' gU=>by
  rw[Tr.fI]at gU;split at gU
  ·cases gU
  ·rename_i e;exact⟨e,gU⟩
 refine⟨.refl _,χ _,⟨λq' o' gU=>?_,λa b o1 o2 L1 L2 aR h1 sN h2=>h.sep a b o1 o2 L1 L2 aR (get _ _ h1).2 sN (get _ _ h2).2,h.free⟩,⟨rfl,rfl,rfl,by simp,λb hb hF=>?_,λb r hb=>?_⟩,λm b ⟨q',o',L',h1,h2,h3,h4⟩=>.inl ⟨q',o',L',(get _ _ h1).2,h2,h3,h4⟩,λ_ _=>rfl⟩
 ·obtain⟨e,h1⟩:=get _ _ gU;obtain⟨L',g1,g2,g3⟩:=h.obj q' o' h1;refine⟨L',g1,by simpa using g2,?_⟩;show gO W η o' L' (w.heap.setIfInBounds L.blk (.loop lp))[L'.blk]?;rw[gB,Ξ (h.sep q q' o o' L L' (λe'=>e e'.symm) hq hm h1 hL g1)];exact g3
 ·show(w.heap.setIfInBounds L.blk (.loop lp))[b]?=_;rw[gB,Ξ];intro e;exact hF ⟨q,o,L,hq,λ_=>hm,hL,e⟩
 ·show ∃r',(w.heap.setIfInBounds L.blk (.loop lp))[b]?=_;rw[gB];by_cases e:L.blk=b
  ·rw[au e,au ω];exact⟨lp,rfl⟩
  ·rw[Ξ e];exact⟨r,hb⟩
theorem acd{ee:Frame}{w0:World}{s:Sem Next}{x:Value}
 (dJ:(stepG P true { frame:=ee,callers:=cs,status:=.running,dying:=none} w0).bare=(stepG.apply P true fr cs none s w).bare)
 (hk:∀d r sv k,fr.todo≠.call d true r sv::k)(h:BW P s fr cs w x w'):Steps P (lone ee cs w0) (lone (fr.finish x) cs w'):=by
 obtain⟨nx,w1,hr,hn⟩:=h;have zZ:(match fr.todo with | .call _ true _ _::_=>CallKind.wrapped | _=>.normal)=.normal:=by
  split
  ·rename_i h;exact absurd h (hk _ _ _ _)
  ·rfl
 cases nx<;>try exact hn.elim
 case value y=>
  obtain⟨rfl,rfl⟩:=hn;exact .one (iG (by rw[dJ];exact QI hr))
 case skip=>
  obtain⟨rfl,rfl⟩:=hn;exact .one (iG (by rw[dJ];exact KD hr))
 case enter g a=>
  refine .head (iG ?_) hn;rw[dJ];simp only[stepG.apply,Sem.runT_eq,hr,GStep.bare_after,zZ];rfl
 case round l g t a b=>
  refine .head (iG ?_) hn;rw[dJ];simp only[stepG.apply,Sem.runT_eq,hr,GStep.bare_after,zZ];rfl
theorem ace(h:kI fr w)(ps:Array Nat)(as body:Code):∃mark w1 lp,(Instr.enterLoop fr.fn tmps ps as body fr.roundOf).run P w=.ok (w1.heap.size,mark) { w1 with heap:=w1.heap.push (.loop lp)}/\lp.state=.ready/\lp.pending=none/\lp.tmps=tmps/\lp.params=ps/\lp.assign=as/\lp.body=body/\((mark=[]/\w1=w)\/(mark=[{ target:=.collected w.heap.size,args:=#[]}]/\w1={ w with heap:=w.heap.push (.deferred (some []))})):=by
 cases hr:fr.roundOf with
 | none=>
  refine⟨[{ target:=.collected w.heap.size,args:=#[]}],{ w with heap:=w.heap.push (.deferred (some []))},{ state:=.ready,pending:=none,fn:=fr.fn,tmps:=tmps,params:=ps,assign:=as,body:=body,defers:=w.heap.size},?_,rfl,rfl,rfl,rfl,rfl,rfl,.inr ⟨rfl,rfl⟩⟩;simp only[Instr.enterLoop,newObj,bind,Sem.bind,Sem.run,pure]
 | some l=>
  obtain⟨q,hq⟩:=h l hr;refine⟨[],w,{ state:=.ready,pending:=none,fn:=fr.fn,tmps:=tmps,params:=ps,assign:=as,body:=body,defers:=q.defers},?_,rfl,rfl,rfl,rfl,rfl,rfl,.inl ⟨rfl,rfl⟩⟩;simp only[Instr.enterLoop,Instr.getLoop,getObj,newObj,bind,Sem.bind,Sem.run,pure,hq]
theorem acf{l:Nat}{lp:Go.Loop}(hm:fr.mode=.run)(h:w.heap[l]?=some (.loop lp))(dJ:lp.state≠.busy):
 step P (lone (put fr tmps ds (.endRangeFunc l::k)) cs w)=.next (lone (put fr tmps ds ((lp.pending.map Item.code).toList++k)) cs { w with heap:=w.heap.setIfInBounds l (.loop { lp with state:=.exhausted})}):=by
 obtain⟨fn,nG,todo,defers,mode,kind,roundOf⟩:=fr;simp only at hm;subst hm;have hb:(lp.state==LoopState.busy)=false:=by cases hs:lp.state<;>first | rfl | exact absurd hs dJ
 have px:(Instr.endLoop l).run P w=.ok lp.pending { w with heap:=w.heap.setIfInBounds l (.loop { lp with state:=.exhausted})}:=by simp[Instr.endLoop,Instr.getLoop,getObj,setObj,bind,Sem.bind,Sem.run,h,pure];intro h;exact absurd h dJ
 refine iG ?_;simp[put,stepG,stepG.exec,px]
theorem acg(hC:Good P ty C)(eO:lY P ty ih){f:Operand}{ps:Array Nat}{as body:Code}{f':ax}{r:R}(hf:bK ty f=some f')(hr:bD C ih (.code (.lT f' (ps.toList.map cz) (dC ty as) (dC ty body)) T) H n=some r)
 (η:Env)(w:World)(fr:Frame)(cs:List Frame)(k:List Item)(jv:within fr.tmps.size (.rangeFunc f ps as body)=true)(hT:aW η T fr.tmps)(hG:ch η ty.g)(hH:bk (WW ty) η H n w)(hm:fr.mode=.run)(hl:kI fr w):
  ∃η' tmps ds w',Trans (WW ty) η H n w η' r.H r.n w'/\tmps.size=fr.tmps.size/\aW η' r.T tmps/\Marks w.heap.size η' r.H w' ds fr.defers/\jn P η' (lone (put fr fr.tmps fr.defers (.code (.rangeFunc f ps as body)::k)) cs w) fr cs k r.ex tmps ds w':=by
 simp only[within,bh]at jv;simp only[bD]at hr;split at hr
 case h_2=>cases hr
 rename_i fv wh;split at hr
 case h_2=>cases hr
 rename_i T1 v1 H1 n1 h1;have hrf:=cw hT hG hf wh;obtain⟨mark,w1,lp,rF,e1,e2,e3,e4,e5,e6,nY⟩:=ace (P:=P) (tmps:=fr.tmps) hl ps as body;have t0:Trans (WW ty) η H n w η H n w1:=by
  rcases nY with ⟨_,rfl⟩ | ⟨_,rfl⟩
  ·exact .refl hH
  ·exact Trans.push hH _
 obtain⟨η1,t1,dS⟩:=Trans.new (W:=WW ty) (room:=0) (o:=.lp true .normal T (ps.toList.map cz) (dC ty as) (dC ty body)) (ob:=.loop lp) t0.rep (λη' hle=>
  ⟨lp,rfl,by rw[e1];rfl,e2,by rw[e3];exact hT.mono hle,by rw[e4],by rw[e3,e4];exact jv.1.1,by rw[e3,e5];exact⟨rfl,jv.1.2⟩,by rw[e3,e6];exact⟨rfl,jv.2⟩⟩)
 have Oj:=t0.trans t1;have j1:=eO _ _ _ _ h1;let KR:Frame:={ put fr fr.tmps (mark++fr.defers) (.inRangeFunc w1.heap.size::k) with mode:=.run};have QV:KR=put fr fr.tmps (mark++fr.defers) (.inRangeFunc w1.heap.size::k):=by show({ put fr fr.tmps (mark++fr.defers) (.inRangeFunc w1.heap.size::k) with mode:=.run}:Frame)=_;rw[←hm];rfl
 obtain⟨η2,v',w2,q1,q2,q3⟩:=(j1 η1 _ KR cs (ai fr.tmps f) [.func (.yield w1.heap.size) #[] #[]] (hrf.mono Oj.ext) (.cons _ _ _ _ (al.y n _ dS) .nil) (hG.mono Oj.ext) t1.rep).1 rfl;have s1:Steps P (lone (put fr fr.tmps fr.defers (.code (.rangeFunc f ps as body)::k)) cs w) (lone (KR.finish v') cs w2):=by
  refine acd ?_ (by intro _ _ _ _ h;cases h) q3;have Bf:KR.eval f=ai fr.tmps f:=by rw[QV,eval_put]
  obtain⟨fn,nG,todo,defers,mode,kind,roundOf⟩:=fr;simp only at hm;subst hm;have Ad:∀Og:Frame,resolve Og.eval { callee:=.value f,args:=#[.const (.func (.yield w1.heap.size) #[] #[])],argTypes:=#[]} 0=Deferred.ofValue (Og.eval f) [.func (.yield w1.heap.size) #[] #[]].toArray:=by intro Og;simp[resolve,Frame.eval]
  simp only[put,stepG,stepG.exec,Sem.runT_eq,rF,GStep.bare_after,Ad];rw[eval_eq];rfl
 have jR:KR.finish v'=put fr fr.tmps (mark++fr.defers) (.endRangeFunc w1.heap.size::k):=by rw[QV];rfl
 rw[jR]at s1;have yW:η2 n=some ⟨w1.heap.size,0,0⟩:=q1.ext _ _ dS;have fin:∀(rd:Bool) (gC:Ex) (T':Tr V) (Ol:List K) (F6 BK:AC),H1.get n=some (.lp rd gC T' Ol F6 BK)->(rd=true\/gC.js=false)->gC.rq=false->r=⟨gC,T,.q,H1.put none n,n1⟩->∃η' tmps ds w',Trans (WW ty) η H n w η' r.H r.n w'/\tmps.size=fr.tmps.size/\aW η' r.T tmps/\Marks w.heap.size η' r.H w' ds fr.defers/\jn P η' (lone (put fr fr.tmps fr.defers (.code (.rangeFunc f ps as body)::k)) cs w) fr cs k r.ex tmps ds w':=by
  rintro rd gC T' Ol F6 BK hg KS sX rfl;obtain⟨Eh,a1,a2,a3,_⟩:=Hr q1.rep hg yW;have hnb:Eh.state≠.busy:=by
   rw[a2];rcases KS with rfl | hp
   ·simp
   ·cases rd
    ·rw[hp];simp
    ·simp
  have s2:=acf (P:=P) (fr:=fr) (tmps:=fr.tmps) (ds:=mark++fr.defers) (k:=k) (cs:=cs) hm a1 hnb;have td:=Trans.drop q1.rep hg rfl yW { Eh with state:=.exhausted};refine⟨η2,fr.tmps,mark++fr.defers,_,((Oj.trans q1).trans td),rfl,(hT.mono (Oj.trans q1).ext),?_,?_⟩
  ·rcases nY with ⟨rfl,rfl⟩ | ⟨rfl,rfl⟩
   ·exact .refl _ _ _ _ _
   ·have m0:Marks w.heap.size η H { w with heap:=w.heap.push (.deferred (some []))} ([{ target:=.collected w.heap.size,args:=#[]}]++fr.defers) fr.defers:=by
     refine⟨[w.heap.size],rfl,by simp,λb hb=>?_⟩;have:b=w.heap.size:=by simpa using hb
     subst this;have fM:({ w with heap:=w.heap.push (.deferred (some []))}:World).heap[w.heap.size]?=some (.deferred (some [])):=by simp
     exact⟨χ _,fM,t0.rep.QS fM true⟩
    exact m0.trans (t1.trans (q1.trans td))
  ·have s3:Steps P (lone (put fr fr.tmps fr.defers (.code (.rangeFunc f ps as body)::k)) cs w) (lone (put fr fr.tmps (mark++fr.defers) (((mF gC).map Item.code).toList++k)) cs
    {w2 with heap:=w2.heap.setIfInBounds w1.heap.size (.loop { Eh with state:=.exhausted})}):=by
    rw[←a3];exact Steps.trans s1 (.one s2)
   cases gC with
   | normal=>exact s3
   | exit id=>exact⟨k,rfl,s3⟩
   | ret=>exact⟨k,s3⟩
   | panic v=>cases sX
 split at hr
 ·rename_i gC T' Ol F6 BK hg;cases sX:gC.rq with
  | true=>rw[sX]at hr;cases hr
  | false=>
   rw[sX]at hr;injection hr with hr;exact fin _ _ _ _ _ _ hg (.inl U) sX hr.symm
 ·rename_i gC T' Ol F6 BK hg;cases sX:gC.rq with
  | true=>rw[sX]at hr;cases hr
  | false=>
  cases hp:gC.js with
  | true=>rw[sX,hp]at hr;cases hr
  | false=>
   rw[sX,hp]at hr;injection hr with hr;exact fin _ _ _ _ _ _ hg (.inr hp) sX hr.symm
 ·cases hr
end ops
end
section
section
variable {T T':Tr V}{H:Hp}{n:K}
theorem Ht{l:List ax}(h:∀x∈l,aq T x=aq T' x):fD T l=fD T' l:=by
 induction l with
 | nil=>rfl
 | cons x l ih=>simp only[fD,h x (by simp),ih (λy hy=>h y (by simp[hy]))]
theorem QW{ps:List (Nat×Nat×ax)}(h:∀x∈ps.map (·.2.2),aq T x=aq T' x)(zs:List V):rn T zs ps=rn T' zs ps:=by
 induction ps generalizing zs with
 | nil=>rfl
 | cons p ps ih=>
  obtain⟨o,s,x⟩:=p;simp only[rn,h x (by simp)];have jN:=ih (λy hy=>h y (by simp at hy ⊢;exact .inr hy));simp only[jN]
theorem KT{o:Option ax}(h:∀x∈o.toList,aq T x=aq T' x)(d:Nat):dH T d o=dH T' d o:=by
 cases o with
 | none=>rfl
 | some x=>simp only[dH,h x (by simp)]
theorem ach{k:XZ}{v:V}{lo hi mx:Option ax}(h:∀x∈lo.toList++(hi.toList++mx.toList),aq T x=aq T' x):oq k T v lo hi mx=oq k T' v lo hi mx:=by
 have h1:=λd=>KT (o:=lo) (d:=d) λx hx=>h x (by simp at hx ⊢;exact .inl hx);have h2:=λd=>KT (o:=hi) (d:=d) λx hx=>h x (by simp at hx ⊢;exact .inr (.inl hx));have h3:=λd=>KT (o:=mx) (d:=d) λx hx=>h x (by simp at hx ⊢;exact .inr (.inr hx));unfold oq;simp only[h1,h2];cases mx with
 | none=>rfl
 | some y=>simp only[h3]
theorem aci{op:A}(h:∀x∈op.eU,aq T x=aq T' x):simple op T H n=simple op T' H n:=by
 cases op with
 | bld zs ps=>simp only[simple,QW h]
 | bsl e zs len ps=>simp only[simple,QW h]
 | mfn f a c=>
  have h1:=Ht (l:=a) λx hx=>h x (by simp only[A.eU,xP];exact .inl hx);have h2:=Ht (l:=c) λx hx=>h x (by simp only[A.eU,xP];exact .inr hx);simp only[simple,h1,h2]
 | sli k x lo hi mx=>
  have h1:=h x (by simp[A.eU]);have h2:=λv=>ach (k:=k) (v:=v) (lo:=lo) (hi:=hi) (mx:=mx) λy hy=>h y (by simp only[A.eU,fX];exact .inr hy);simp only[simple,h1,h2]
 | mm mx l=>
  have h1:=Ht (l:=l) h;simp only[simple,h1]
 | pick c a b=>
  have h1:=h c (by simp[A.eU]);have h2:=h a (by simp[A.eU]);have h3:=h b (by simp[A.eU]);simp only[simple,h1];cases aq T' c with
  | none=>rfl
  | some v=>
   cases v<;>try rfl
   rename_i x;cases x
   ·exact congrArg (dX H n) h3
   ·exact congrArg (dX H n) h2
 | cg f l=>rfl
 | new e zs=>rfl
 | BD e x y=>rfl
 | zG u a x=>simp only[simple,h a (by simp[A.eU]),h x (by simp[A.eU])]
 | mmap=>rfl
 | bad=>rfl
 | cap arr x=>cases arr with
  | none=>simp only[simple,h x (by simp[A.eU])]
  | some m=>rfl
 | I4 q a b c=>simp only[simple,h a (by simp[A.eU]),h b (by simp[A.eU]),h c (by simp[A.eU])]
 | st sz a x=>simp only[simple,h a (by simp[A.eU]),h x (by simp[A.eU])]
 | bin o k a x=>simp only[simple,h a (by simp[A.eU]),h x (by simp[A.eU])]
 | iad r z a x=>simp only[simple,h a (by simp[A.eU]),h x (by simp[A.eU])]
 | idx r a x=>simp only[simple,h a (by simp[A.eU]),h x (by simp[A.eU])]
 | lkp q z ok a x=>simp only[simple,h a (by simp[A.eU]),h x (by simp[A.eU])]
 | app e z b zl zs a x=>simp only[simple,h a (by simp[A.eU]),h x (by simp[A.eU])]
 | A8 z a x=>simp only[simple,h a (by simp[A.eU]),h x (by simp[A.eU])]
 | del q a x=>simp only[simple,h a (by simp[A.eU]),h x (by simp[A.eU])]
 | msl e z b zl a x=>simp only[simple,h a (by simp[A.eU]),h x (by simp[A.eU])]
 | _=>simp only[simple,h _ (by simp only[A.eU,zB];rfl)]
end
end
section
def cI(η:Env)(n:K):Env:=λk=>if k.num<n.num then η k else none
section
variable {W:Nat->Code->AC->Prop}{η η1:Env}{H Hs tS Hn:Hp}{n n':K}{w w1:World}
theorem Ae(η:Env)(n:K):(cI η n).le η:=λk L h=>by
 unfold cI at h;split at h
 ·exact h
 ·cases h
theorem acj(η:Env){n m:K}(h:n.num<=m.num):(cI η n).le (cI η m):=λk L hk=>by
 unfold cI at hk ⊢;split at hk
 ·rw[au (by omega)];exact hk
 ·cases hk
structure Hu(W:Nat->Code->AC->Prop)(η:Env)(H:Hp)(w:World):Prop where
 obj:∀k o,H.get k=some o->∃L,η k=some L/\L.blk<w.heap.size/\gO W η o L w.heap[L.blk]?
 sep:∀k k' o o' L L',k≠k'->H.get k=some o->o.mut=true->H.get k'=some o'->η k=some L->η k'=some L'->L.blk≠L'.blk
def merge(η η1:Env)(n n':K):Env:=λk=>if n.num<=k.num/\k.num<n'.num then η1 k else η k
theorem merge_le(hf:∀k,n.num<=k.num->k.num<n'.num->η k=none):η.le (merge η η1 n n'):=λk L h=>by
 unfold merge;split
 ·rename_i hk;rw[hf k hk.1 hk.2]at h;cases h
 ·exact h
theorem QX(ht:Trans W (cI η n) Hs n w η1 tS n' w1):cI (merge η η1 n n') n'=η1:=by
 funext k;unfold cI merge;by_cases h1:k.num<n'.num
 ·rw[au h1];by_cases h2:n.num<=k.num
  ·rw[au ⟨h2,h1⟩]
  ·rw[Ξ (λh=>h2 h.1)];rw[ht.dR k (by omega)];unfold cI;rw[au (by omega)]
 ·rw[Ξ h1,ht.rep.free k (by omega)]
theorem outside(hS:Hu W η H w)(jT:∀k o,Hs.get k=some o->H.get k=some o)(ht:Trans W (cI η n) Hs n w η1 tS n' w1)
 {k:K}{o:O}{L:Loc}(hk:H.get k=some o)(hn:Hs.get k=none)(hL:η k=some L):w1.heap[L.blk]?=w.heap[L.blk]?:=by
 obtain⟨L',h1,h2,_⟩:=hS.obj k o hk;rw[hL]at h1;injection h1 with h1;subst h1;refine ht.kept.block _ h2 ?_;rintro⟨q,o',M,g1,g2,g3,g4⟩;have aR:q≠k:=λe=>by rw[e,hn]at g1;cases g1
 exact hS.sep q k o' o M L aR (jT _ _ g1) (g2 rfl) hk (Ae _ _ _ _ g3) hL g4
theorem ack(hS:Hu W η H w)(jT:∀k o,Hs.get k=some o->H.get k=some o)(hf:∀k,n.num<=k.num->k.num<n'.num->η k=none)
 (ht:Trans W (cI η n) Hs n w η1 tS n' w1)(Ge:∀k o,Hn.get k=some o->(H.get k=some o/\Hs.get k=none)\/tS.get k=some o):
 Hu W (merge η η1 n n') Hn w1/\Kept (nc η H true) w w1/\(∀m b,nc (merge η η1 n n') Hn m b->nc η H m b\/w.heap.size<=b):=by
 have hle:=merge_le (η1:=η1) hf;have Ei:η1.le (merge η η1 n n'):=by have h:=Ae (merge η η1 n n') n';rw[QX ht]at h;exact h
 have inner:∀k o L,tS.get k=some o->merge η η1 n n' k=some L->η1 k=some L:=by intro k o L hk hL;obtain⟨L',g1,_⟩:=ht.rep.obj k o hk;have:=Ei _ _ g1;rw[hL]at this;injection this with this;rw[this];exact g1
 have outer:∀k o L,H.get k=some o->merge η η1 n n' k=some L->η k=some L:=by intro k o L hk hL;obtain⟨L',g1,_⟩:=hS.obj k o hk;have:=hle _ _ g1;rw[hL]at this;injection this with this;rw[this];exact g1
 have blk:∀m b,nc η1 tS m b->(∃k o L,Hs.get k=some o/\(m=true->o.mut=true)/\η k=some L/\L.blk=b)\/w.heap.size<=b:=by
  intro m b hb;rcases ht.kZ m b hb with ⟨k,o,L,g1,g2,g3,g4⟩ | h
  ·exact .inl ⟨k,o,L,g1,g2,Ae _ _ _ _ g3,g4⟩
  ·exact .inr h
 have apart:∀{k k' o o' L L'},H.get k=some o->Hs.get k=none->η k=some L->tS.get k'=some o'->η1 k'=some L'->(o.mut=true\/o'.mut=true)->L.blk≠L'.blk:=by
  intro k k' o o' L L' hk hn hL gJ iZ hm e;obtain⟨M,h1,h2,_⟩:=hS.obj k o hk;rw[hL]at h1;injection h1 with h1;subst h1;have key:∀m:Bool,(m=true->o'.mut=true)->∃q p M,Hs.get q=some p/\(m=true->p.mut=true)/\η q=some M/\M.blk=L'.blk:=by
   intro m Ki;rcases blk m L'.blk ⟨k',o',L',gJ,Ki,iZ,rfl⟩ with h | h
   ·exact h
   ·omega
  rcases hm with hm | hm
  ·obtain⟨q,p,M,g1,_,g3,g4⟩:=key false (λh=>by cases h);have aR:k≠q:=λe=>by rw[e,g1]at hn;cases hn
   exact hS.sep k q o p L M aR hk hm (jT _ _ g1) hL g3 (by omega)
  ·obtain⟨q,p,M,g1,g2,g3,g4⟩:=key true (λ_=>hm);have aR:q≠k:=λe=>by rw[e,hn]at g1;cases g1
   exact hS.sep q k p o M L aR (jT _ _ g1) (g2 rfl) hk g3 hL (by omega)
 refine⟨⟨λk o hk=>?_,λk k' o o' L L' aR hk hm gJ hL iZ=>?_⟩,⟨ht.kept.os,ht.kept.tape,ht.kept.output,ht.kept.size,λb hb hF=>?_,ht.kept.loops⟩,λm b hb=>?_⟩
 ·rcases Ge k o hk with ⟨h1,h2⟩ | h1
  ·obtain⟨L,g1,g2,g3⟩:=hS.obj k o h1;refine⟨L,hle _ _ g1,fk g2 ht.kept.size,?_⟩;rw[outside hS jT ht h1 h2 g1];exact g3.mono hle
  ·obtain⟨L,g1,g2,g3⟩:=ht.rep.obj k o h1;exact⟨L,Ei _ _ g1,g2,g3.mono Ei⟩
 ·rcases Ge k o hk with ⟨h1,h2⟩ | h1
  ·rcases Ge k' o' gJ with ⟨h3,h4⟩ | h3
   ·exact hS.sep k k' o o' L L' aR h1 hm h3 (outer _ _ _ h1 hL) (outer _ _ _ h3 iZ)
   ·exact apart h1 h2 (outer _ _ _ h1 hL) h3 (inner _ _ _ h3 iZ) (.inl hm)
  ·rcases Ge k' o' gJ with ⟨h3,h4⟩ | h3
   ·exact λe=>apart h3 h4 (outer _ _ _ h3 iZ) h1 (inner _ _ _ h1 hL) (.inr hm) e.symm
   ·exact ht.rep.sep k k' o o' L L' aR h1 hm h3 (inner _ _ _ h1 hL) (inner _ _ _ h3 iZ)
 ·refine ht.kept.block b hb ?_;rintro⟨k,o,L,g1,g2,g3,g4⟩;exact hF ⟨k,o,L,jT _ _ g1,g2,Ae _ _ _ _ g3,g4⟩
 ·obtain⟨k,o,L,hk,hm,hL,hK⟩:=hb;rcases Ge k o hk with ⟨h1,h2⟩ | h1
  ·exact .inl ⟨k,o,L,h1,hm,outer _ _ _ h1 hL,hK⟩
  ·rcases blk m b ⟨k,o,L,h1,hm,inner _ _ _ h1 hL,hK⟩ with ⟨q,p,M,g1,g2,g3,g4⟩ | h
   ·exact .inl ⟨q,p,M,jT _ _ g1,g2,g3,g4⟩
   ·exact .inr h
end
end
structure Canon where
 T:Nat->Tr V
 H:Nat->Hp
 N:Nat->K
 M:Nat->Made
 run:Nat->Bool
 v:Nat->V
 H':Nat->Hp
 n':Nat->K
structure Af(ih:dY)(c:Canon)(rs:List Rd)(bs:List Bg)(i:Nat)(o:AO):Prop where
 want:want o.guard (c.T i)=some (c.run i)
 jD:c.T (i+1)=eg o.dst (some (c.v i)) (c.T i)
 not:c.run i=false->c.v i=.u []/\c.H (i+1)=c.H i/\c.N (i+1)=c.N i/\c.M (i+1)=c.M i
 Bh:c.run i=true->oper ih o.op (c.T i) (dT (c.H i) o.Δ (c.M i)) (c.N i)=some (c.v i,c.H' i,c.n' i)
 pure:c.run i=true->cls o.op=.pure->c.H (i+1)=c.H i/\c.N (i+1)=c.N i/\c.M (i+1)=c.M i
 read:c.run i=true->cls o.op=.read->c.H (i+1)=c.H i/\c.N (i+1)=c.N i/\c.M (i+1)=c.M i/\bB (c.N i) (c.v i)=true/\⟨i,o.op,o.Δ,c.T i,c.v i⟩∈rs
 make:c.run i=true->cls o.op=.make->c.H (i+1)=back (c.H i) (c.H' i) o.Δ (c.M i)/\c.N (i+1)=c.n' i/\c.M (i+1)=(c.N i,i)::c.M i
 kq:c.run i=true->cls o.op=.kq->c.H (i+1)=back (c.H i) (c.H' i) o.Δ (c.M i)/\c.N (i+1)=c.n' i/\c.M (i+1)=c.M i/\⟨i,o.Δ,c.H i,c.H (i+1)⟩∈bs
def Canon.set(c:Canon)(i:Nat)(T:Tr V)(H:Hp)(n:K)(m:Made)(run:Bool)(v:V)(H':Hp)(n':K):Canon where
 T j:=if j=i then T else c.T j
 H j:=if j=i then H else c.H j
 N j:=if j=i then n else c.N j
 M j:=if j=i then m else c.M j
 run j:=if j=i then run else c.run j
 v j:=if j=i then v else c.v j
 H' j:=if j=i then H' else c.H' j
 n' j:=if j=i then n' else c.n' j
theorem Af.set{ih:dY}{c:Canon}{rs:List Rd}{bs:List Bg}{k:Nat}{o:AO}(h:Af ih c rs bs k o){i:Nat}(hi:i<k){T:Tr V}{H:Hp}{n:K}{m:Made}{run:Bool}{v:V}{H':Hp}{n':K}:
 Af ih (c.set i T H n m run v H' n') rs bs k o:=by
 have e1:k≠i:=by omega
 have e2:k+1≠i:=by omega
 obtain⟨h1,h2,h3,h4,h5,h6,h7,h8⟩:=h;constructor<;>simp only[Canon.set,Ξ e1,Ξ e2]<;>assumption
theorem acm{ih:dY}:∀(l:List AO) (i:Nat) (T:Tr V) (H:Hp) (n:K) (m:Made) (rs:List Rd) (bs:List Bg) (r:R),eY ih l i T H n m rs bs=some r->r.ex=.normal/\∃(c:Canon) (sY:List Rd) (nq:List Bg),(∀x∈rs,x∈sY)/\(∀x∈bs,x∈nq)/\c.T i=T/\c.H i=H/\c.N i=n/\c.M i=m/\c.T (i+l.length)=r.T/\c.H (i+l.length)=r.H/\c.N (i+l.length)=r.n/\wE (c.M (i+l.length)) sY nq=true/\∀(j:Nat) (o:AO),l[j]?=some o->Af ih c sY nq (i+j) o:=by
 intro l
 induction l with
 | nil=>
  intro i T H n m rs bs r h;simp only[eY]at h;cases ha:wE m rs bs with
  | false=>rw[ha]at h;cases h
  | true=>
   rw[ha]at h;injection h with h;subst h;exact⟨rfl,⟨λ_=>T,λ_=>H,λ_=>n,λ_=>m,λ_=>false,λ_=>.q,λ_=>H,λ_=>n⟩,rs,bs,λ_ h=>h,λ_ h=>h,rfl,rfl,rfl,rfl,rfl,rfl,rfl,ha,λj o h=>by simp at h⟩
 | cons o l jN=>
  intro i T H n m rs bs r h;have e1:∀j,i+1+j≠i:=by intro j;omega
  have acn:i+(o::l).length=i+1+l.length:=by simp;omega
  have fin:∀(run:Bool) (v:V) (H':Hp) (n':K) (T1:Tr V) (H1:Hp) (n1:K) (m1:Made) (Om:List Rd) (On:List Bg),eY ih l (Nat.succ i) T1 H1 n1 m1 Om On=some r->(∀x∈rs,x∈Om)->(∀x∈bs,x∈On)->(∀(c:Canon) (sY:List Rd) (nq:List Bg),(∀x∈Om,x∈sY)->(∀x∈On,x∈nq)->c.T i=T->c.H i=H->c.N i=n->c.M i=m->c.run i=run->c.v i=v->c.H' i=H'->c.n' i=n'->c.T (i+1)=T1->c.H (i+1)=H1->c.N (i+1)=n1->c.M (i+1)=m1->Af ih c sY nq i o)->r.ex=.normal/\∃(c:Canon) (sY:List Rd) (nq:List Bg),(∀x∈rs,x∈sY)/\(∀x∈bs,x∈nq)/\c.T i=T/\c.H i=H/\c.N i=n/\c.M i=m/\c.T (i+(o::l).length)=r.T/\c.H (i+(o::l).length)=r.H/\c.N (i+(o::l).length)=r.n/\wE (c.M (i+(o::l).length)) sY nq=true/\∀(j:Nat) (p:AO),(o::l)[j]?=some p->Af ih c sY nq (i+j) p:=by
   intro run v H' n' T1 H1 n1 m1 Om On h C3 Ej KJ;obtain⟨hex,c,sY,nq,a1,a2,a3,a4,a5,a6,a7,a8,a9,zd,Gf⟩:=jN _ _ _ _ _ _ _ _ h;have e2:i+1≠i:=by omega
   refine⟨hex,c.set i T H n m run v H' n',sY,nq,λx hx=>a1 x (C3 x hx),λx hx=>a2 x (Ej x hx),?_⟩;rw[acn];refine⟨by simp[Canon.set],by simp[Canon.set],by simp[Canon.set],by simp[Canon.set],?_,?_,?_,?_,?_⟩
   ·simp only[Canon.set,Ξ (e1 _)];exact a7
   ·simp only[Canon.set,Ξ (e1 _)];exact a8
   ·simp only[Canon.set,Ξ (e1 _)];exact a9
   ·simp only[Canon.set,Ξ (e1 _)];exact zd
   ·intro j p hp;cases j with
    | zero=>
     simp only[xH,p7]at hp;subst hp;refine KJ _ _ _ a1 a2 ?_ ?_ ?_ ?_ ?_ ?_ ?_ ?_ ?_ ?_ ?_ ?_
     all_goals simp only[Canon.set,if_true,Ξ e2,kF]
     ·exact a3
     ·exact a4
     ·exact a5
     ·exact a6
    | succ j=>
     simp only[rf]at hp;have:=(Gf j p hp).set (i:=i) (by omega) (T:=T) (H:=H) (n:=n) (m:=m) (run:=run) (v:=v) (H':=H') (n':=n');rw[show i+(j+1)=Nat.succ i+j by omega];exact this
  simp only[eY]at h;split at h
  ·rename_i hw;split at h
   case h_2=>cases h
   rename_i v H1 n1 eW;cases hc:cls o.op with
   | pure=>
    rw[hc]at h;refine fin true v H1 n1 _ _ _ _ _ _ h (λ_ h=>h) (λ_ h=>h) ?_;intro c sY nq b1 b2 b3 b4 b5 b6 b7 b8 b9 fT oE b12 ef Ah;refine⟨?_,?_,?_,?_,?_,?_,?_,?_⟩<;>simp only[b3,b4,b5,b6,b7,b8,b9,fT,oE,b12,ef,Ah,hc]
    ·exact hw
    ·intro h;cases h
    ·intro _;exact eW
    ·intros;exact⟨trivial,trivial,trivial⟩
    ·intro _ h;cases h
    ·intro _ h;cases h
    ·intro _ h;cases h
   | read=>
    rw[hc]at h;simp only[iD]at h;split at h
    case isFalse=>cases h
    rename_i hK;refine fin true v H1 n1 _ _ _ _ _ _ h (λ_ h=>List.mem_cons_of_mem _ h) (λ_ h=>h) ?_;intro c sY nq b1 b2 b3 b4 b5 b6 b7 b8 b9 fT oE b12 ef Ah;refine⟨?_,?_,?_,?_,?_,?_,?_,?_⟩<;>simp only[b3,b4,b5,b6,b7,b8,b9,fT,oE,b12,ef,Ah,hc]
    ·exact hw
    ·intro h;cases h
    ·intro _;exact eW
    ·intro _ h;cases h
    ·intros;exact⟨trivial,trivial,trivial,hK,b1 _ (by simp)⟩
    ·intro _ h;cases h
    ·intro _ h;cases h
   | make=>
    rw[hc]at h;refine fin true v H1 n1 _ _ _ _ _ _ h (λ_ h=>h) (λ_ h=>h) ?_;intro c sY nq b1 b2 b3 b4 b5 b6 b7 b8 b9 fT oE b12 ef Ah;refine⟨?_,?_,?_,?_,?_,?_,?_,?_⟩<;>simp only[b3,b4,b5,b6,b7,b8,b9,fT,oE,b12,ef,Ah,hc]
    ·exact hw
    ·intro h;cases h
    ·intro _;exact eW
    ·intro _ h;cases h
    ·intro _ h;cases h
    ·intros;exact⟨trivial,trivial,trivial⟩
    ·intro _ h;cases h
   | kq=>
    rw[hc]at h;refine fin true v H1 n1 _ _ _ _ _ _ h (λ_ h=>h) (λ_ h=>List.mem_cons_of_mem _ h) ?_;intro c sY nq b1 b2 b3 b4 b5 b6 b7 b8 b9 fT oE b12 ef Ah;refine⟨?_,?_,?_,?_,?_,?_,?_,?_⟩<;>simp only[b3,b4,b5,b6,b7,b8,b9,fT,oE,b12,ef,Ah,hc]
    ·exact hw
    ·intro h;cases h
    ·intro _;exact eW
    ·intro _ h;cases h
    ·intro _ h;cases h
    ·intro _ h;cases h
    ·intros;exact⟨trivial,trivial,trivial,b2 _ (by simp)⟩
  ·rename_i hw;refine fin false (.u []) H n _ _ _ _ _ _ h (λ_ h=>h) (λ_ h=>h) ?_;intro c sY nq b1 b2 b3 b4 b5 b6 b7 b8 b9 fT oE b12 ef Ah;refine⟨?_,?_,?_,?_,?_,?_,?_,?_⟩<;>simp only[b3,b4,b5,b6,b7,b8,b9,fT,oE,b12,ef,Ah]
   ·exact hw
   ·intro _;exact⟨trivial,trivial,trivial,trivial⟩
   ·intro h;cases h
   ·intro h;cases h
   ·intro h;cases h
   ·intro h;cases h
   ·intro h;cases h
  ·cases h
def hidden(Δ:Nat)(m:Made)(k:K):Prop:=∃i,(k,i)∈m/\Nat.testBit Δ i=false
theorem Ek(Δ:Nat):∀(m:Made) (H:Hp) (k:K),(hidden Δ m k->(dT H Δ m).get k=none)/\(¬ hidden Δ m k->(dT H Δ m).get k=H.get k):=by
 intro m
 induction m with
 | nil=>intro H k;exact⟨(λ⟨i,h,_⟩=>by cases h),λ_=>rfl⟩
 | cons p m ih=>
  intro H k;obtain⟨q,i⟩:=p;cases hb:Nat.testBit Δ i with
  | true=>
   have e:dT H Δ ((q,i)::m)=dT H Δ m:=by simp only[dT,hb,cond_true]
   rw[e];obtain⟨h1,h2⟩:=ih H k;refine⟨λ⟨j,hj,eN⟩=>h1 ?_,λh=>h2 λ⟨j,hj,eN⟩=>h ⟨j,by simp[hj],eN⟩⟩;rcases fX.1 hj with hj | hj
   ·injection hj with _ e2;rw[e2,hb]at eN;cases eN
   ·exact⟨j,hj,eN⟩
  | false=>
   have e:dT H Δ ((q,i)::m)=dT (H.put none q) Δ m:=by simp only[dT,hb,cond_false]
   rw[e];obtain⟨h1,h2⟩:=ih (H.put none q) k;refine⟨λhh=>?_,λh=>?_⟩
   ·by_cases hk:hidden Δ m k
    ·exact h1 hk
    ·rw[h2 hk,Tr.fI];obtain⟨j,hj,eN⟩:=hh;rcases fX.1 hj with hj | hj
     ·injection hj with e1 _;rw[au e1]
     ·exact absurd ⟨j,hj,eN⟩ hk
   ·have hk:¬ hidden Δ m k:=λ⟨j,hj,eN⟩=>h ⟨j,by simp[hj],eN⟩;rw[h2 hk,Tr.fI,Ξ];intro e;exact h ⟨i,by simp[e],hb⟩
theorem QY(Δ:Nat)(m:Made)(H:Hp)(k:K)(o:O)(h:(dT H Δ m).get k=some o):H.get k=some o:=by
 obtain⟨h1,h2⟩:=Ek Δ m H k;by_cases hh:hidden Δ m k
 ·rw[h1 hh]at h;cases h
 ·rw[h2 hh]at h;exact h
theorem Ai(Δ:Nat):∀(m:Made) (H H':Hp) (k:K),(hidden Δ m k->(back H H' Δ m).get k=H.get k)/\(¬ hidden Δ m k->(back H H' Δ m).get k=H'.get k):=by
 intro m
 induction m with
 | nil=>intro H H' k;exact⟨(λ⟨i,h,_⟩=>by cases h),λ_=>rfl⟩
 | cons p m ih=>
  intro H H' k;obtain⟨q,i⟩:=p;cases hb:Nat.testBit Δ i with
  | true=>
   have e:back H H' Δ ((q,i)::m)=back H H' Δ m:=by simp only[back,hb,cond_true]
   rw[e];obtain⟨h1,h2⟩:=ih H H' k;refine⟨λ⟨j,hj,eN⟩=>h1 ?_,λh=>h2 λ⟨j,hj,eN⟩=>h ⟨j,by simp[hj],eN⟩⟩;rcases fX.1 hj with hj | hj
   ·injection hj with _ e2;rw[e2,hb]at eN;cases eN
   ·exact⟨j,hj,eN⟩
  | false=>
   have e:back H H' Δ ((q,i)::m)=back H (H'.put (H.get q) q) Δ m:=by simp only[back,hb,cond_false]
   rw[e];obtain⟨h1,h2⟩:=ih H (H'.put (H.get q) q) k;refine⟨λhh=>?_,λh=>?_⟩
   ·by_cases hk:hidden Δ m k
    ·exact h1 hk
    ·rw[h2 hk,Tr.fI];obtain⟨j,hj,eN⟩:=hh;rcases fX.1 hj with hj | hj
     ·injection hj with e1 _;rw[au e1,e1]
     ·exact absurd ⟨j,hj,eN⟩ hk
   ·have hk:¬ hidden Δ m k:=λ⟨j,hj,eN⟩=>h ⟨j,by simp[hj],eN⟩;rw[h2 hk,Tr.fI,Ξ];intro e;exact h ⟨i,by simp[e],hb⟩
section
theorem cmp_eq(f:Bool)(a b:K):K.cmp f a b=true↔a.num<b.num\/(f=true/\a.num=b.num):=by
 induction a generalizing f b with
 | h=>
  cases b with
  | h=>simp[K.cmp]
  | o p=>have:=p.yd;simp only[K.cmp,K.num];constructor<;>intro _<;>first | exact trivial | (left;omega)
  | i p=>have:=p.yd;simp only[K.cmp,K.num];constructor<;>intro _<;>first | exact trivial | (left;omega)
 | o a ih=>
  cases b with
  | h=>have:=a.yd;simp only[K.cmp,K.num];constructor<;>intro h<;>first | (cases h;done) | (exfalso;omega)
  | o b=>simp only[K.cmp,K.num,ih];constructor<;>rintro(h | ⟨h,h'⟩)<;>first | (left;omega) | (right;exact⟨h,by omega⟩)
  | i b=>
   simp only[K.cmp,K.num,ih];constructor<;>rintro(h | ⟨h,h'⟩)<;>first | (left;omega) | (exfalso;omega) | skip
   by_cases e:a.num=b.num
   ·exact .inr ⟨trivial,e⟩
   ·left;omega
 | i a ih=>
  cases b with
  | h=>have:=a.yd;simp only[K.cmp,K.num];constructor<;>intro h<;>first | (cases h;done) | (exfalso;omega)
  | o b=>simp only[K.cmp,K.num,ih];constructor<;>rintro(h | ⟨h,h'⟩)<;>first | (left;omega) | (cases h;done) | (exfalso;omega)
  | i b=>simp only[K.cmp,K.num,ih];constructor<;>rintro(h | ⟨h,h'⟩)<;>first | (left;omega) | (right;exact⟨h,by omega⟩)
theorem rG{a b:K}:K.cmp false a b=true↔a.num<b.num:=by rw[cmp_eq];simp
section
variable {T:Tr V}{H H':Hp}{n n':K}{v:V}
def Up(n n':K):Prop:=n'=n\/n'=n.succ
theorem aco{x:Option V}(h:dX H n x=some (v,H',n')):Up n n':=.inl (lf h).2.2
theorem acp{x:Option Hp}(h:qd n x=some (v,H',n')):Up n n':=by
 cases x with
 | none=>cases h
 | some H1=>exact .inl (ea h).2.2
theorem El{o:O}{x:V}{H0:Hp}(h:kp H0 n o x=some (v,H',n')):Up n n':=.inr (pv h).2.2
theorem Hv{a:V}{b:Hp}(h:(some (a,b,n):gm)=some (v,H',n')):Up n n':=.inl (ea h).2.2
theorem acq{e z bytes m:Nat}{s:V}{new:List V}(h:wC H n e z bytes s m new=some (v,H',n')):Up n n':=by
 rcases(QA h).2.2.2 with ⟨_,_,_,_,h⟩ | ⟨_,_,h⟩ | ⟨_,_,_,_,_,_,_,_,_,h⟩ | ⟨_,_,_,_,_,_,_,_,_,h⟩ | ⟨_,_,_,_,_,_,_,_,_,h⟩ | ⟨_,_,_,_,_,_,_,_,h⟩ | ⟨_,_,_,_,_,_,_,_,_,_,_,_,h⟩
 ·exact .inl h
 ·exact El h
 ·exact .inl h
 ·exact .inl h
 ·exact El h
 ·exact .inl h
 ·exact El h
theorem acr{k:N8}{x:V}(h:qR H n k x=some (v,H',n')):Up n n':=by
 cases k with
 | toInt k=>obtain⟨_,_,_,e⟩:=Qn h;injection e with _ e;injection e with _ e;exact .inl e
 | same=>obtain⟨_,_,_,e⟩:=Qo h;injection e with _ e;injection e with _ e;exact .inl e
 | zE=>obtain⟨_,_,_,_,_,_,e⟩:=Qp h;injection e with _ e;injection e with _ e;exact .inl e
 | JO k=>obtain⟨_,_,_,e⟩:=Qq h;exact El e
 | zF=>obtain⟨_,_,_,_,e⟩:=Qr h;injection e with _ e;injection e with _ e;exact .inl e
 | IY=>
  rcases Qs h with ⟨_,e⟩ | ⟨_,_,_,_,_,_,e⟩
  ·injection e with _ e;injection e with _ e;exact .inl e
  ·injection e with _ e;injection e with _ e;exact .inl e
 | IZ u=>
  rcases Qt h with ⟨_,e⟩ | ⟨_,_,_,_,_,e⟩
  ·injection e with _ e;injection e with _ e;exact .inl e
  ·injection e with _ e;injection e with _ e;exact .inl e
theorem QZ{op:A}(h:simple op T H n=some (v,H',n')):Up n n':=by
 cases op<;>simp only[simple,iD]at h<;>(try dsimp only at h)<;>(repeat' split at h)<;>
  first
   | (cases h;done)
   | exact aco h
   | exact acp h
   | exact El h
   | exact Hv h
   | exact acq h
   | exact acr h
theorem En(h:Up n n'):n.num<=n'.num:=by
 rcases h with rfl | rfl
 ·exact χ _
 ·rw[K.fQ];omega
end
end
end Go.Ev
