/- A part of the proof. -/
import Derived.Calls
import Derived.Test.YtpdbepbhlalldaaGreatDoorB
set_option linter.all false
namespace Go.Ev
open Go
section
def WW(ty:Ty):Nat->Code->AC->Prop:=λN c a=>dL ty c=a/\within N c=true
def put(fr:Frame)(tmps:Array Value)(ds:List Deferred)(todo:List Item):Frame:={ fr with tmps:=tmps,defers:=ds,todo:=todo}
def jv(P:Program)(η:Env)(m:Machine)(fr:Frame)(cs:List Frame)(k:List Item)(ex:Ex)(tmps:Array Value)(ds:List Deferred)(w:World):Prop:=
 match ex with
 | .normal=>Steps P m (lone (put fr tmps ds k) cs w)
 | .exit id=>∃k1,exitTo id k1=exitTo id k/\Steps P m (lone (put fr tmps ds (.code (.exit id)::k1)) cs w)
 | .ret=>∃k1,Steps P m (lone (put fr tmps ds (.code .ret::k1)) cs w)
 | .panic v=>∃k1 x,aC η v x/\Steps P m (lone { put fr tmps ds k1 with mode:=.panicking [{ v:=x,recovered:=false}]} cs w)
theorem jv.of_steps{P:Program}{η:Env}{m m':Machine}{fr:Frame}{cs:List Frame}{k:List Item}{ex:Ex}{tmps:Array Value}{ds:List Deferred}{w:World}(h:Steps P m m')(h':jv P η m' fr cs k ex tmps ds w):
 jv P η m fr cs k ex tmps ds w:=by
 cases ex with
 | normal=>exact h.trans h'
 | exit id=>obtain⟨k1,a,b⟩:=h';exact⟨k1,a,h.trans b⟩
 | ret=>obtain⟨k1,b⟩:=h';exact⟨k1,h.trans b⟩
 | panic v=>obtain⟨k1,x,a,b⟩:=h';exact⟨k1,x,a,h.trans b⟩
theorem jv.pass{P:Program}{η:Env}{m:Machine}{fr:Frame}{cs:List Frame}{x:Item}{k:List Item}{ex:Ex}{tmps:Array Value}{ds:List Deferred}{w:World}(hx:∀id,x≠.inBlock id)(hn:ex≠.normal)
 (h:jv P η m fr cs (x::k) ex tmps ds w):jv P η m fr cs k ex tmps ds w:=by
 cases ex with
 | normal=>exact absurd rfl hn
 | exit id=>
  obtain⟨k1,a,b⟩:=h;exact⟨k1,by rw[a];cases x<;>first | exact absurd rfl (hx _) | rfl,b⟩
 | ret=>exact h
 | panic v=>exact h
def Marks(s0:Nat)(η:Env)(H:Hp)(w:World)(ds:List Deferred)(ds0:List Deferred):Prop:=
 ∃bs:List Nat,ds=bs.map (λb=>{ target:=.collected b,args:=#[]})++ds0/\bs.Nodup/\∀b∈bs,s0<=b/\w.heap[b]?=some (.deferred (some []))/\¬ nt η H true b
section marks
variable {W:Nat->Code->AC->Prop}{η η':Env}{H H':Hp}{n n':K}{w w':World}{s0:Nat}{ds ds0:List Deferred}
theorem Marks.refl(s0:Nat)(η:Env)(H:Hp)(w:World)(ds:List Deferred):Marks s0 η H w ds ds:=⟨[],rfl,.nil,λ_ h=>by cases h⟩
theorem Marks.trans(h:Marks s0 η H w ds ds0)(t:Trans W η H n w η' H' n' w'):Marks s0 η' H' w' ds ds0:=by
 obtain⟨bs,h1,pr,h2⟩:=h;refine⟨bs,h1,pr,λb hb=>?_⟩;obtain⟨a,c,d⟩:=h2 b hb;have ψ:b<w.heap.size:=(oC.1 c).1;refine⟨a,by rw[t.kept.block b ψ d];exact c,λhB=>?_⟩;rcases t.lF _ _ hB with h3 | h3
 ·exact d h3
 ·omega
theorem Marks.next{Jt:List Deferred}(h:Marks s0 η H w Jt ds0)(t:Trans W η H n w η' H' n' w')(h':Marks w.heap.size η' H' w' ds Jt)(hs:s0<=w.heap.size):Marks s0 η' H' w' ds ds0:=by
 have ψ:∃bs:List Nat,Jt=bs.map (λb=>{ target:=.collected b,args:=#[]})++ds0/\bs.Nodup/\∀b∈bs,b<w.heap.size/\s0<=b/\w'.heap[b]?=some (.deferred (some []))/\¬ nt η' H' true b:=by
  obtain⟨bs,h1,pr,h2⟩:=h;refine⟨bs,h1,pr,λb hb=>?_⟩;obtain⟨a,c,d⟩:=h2 b hb;have ψ:b<w.heap.size:=(oC.1 c).1;refine⟨ψ,a,by rw[t.kept.block b ψ d];exact c,λhB=>?_⟩;rcases t.lF _ _ hB with h3 | h3
  ·exact d h3
  ·omega
 obtain⟨bs,h1,pr,h2⟩:=ψ;obtain⟨ny,h3,ab5,h4⟩:=h';refine⟨ny++bs,by rw[h3,h1];simp,?_,λb hb=>?_⟩
 ·rw[List.nodup_append];refine⟨ab5,pr,λx hx y hy e=>?_⟩;subst e;have:=(h4 x hx).1;have:=(h2 x hy).1;omega
 ·rcases kc.1 hb with hb | hb
  ·obtain⟨a,c⟩:=h4 b hb;exact⟨by omega,c⟩
  ·exact(h2 b hb).2
end marks
section ops
variable {P:Program}{ty:Ty}{η:Env}{T:Tr V}{H H':Hp}{n n':K}{w:World}{v:V}
theorem eval_eq(fr:Frame):fr.eval=ax fr.tmps:=by funext x;cases x<;>rfl
theorem eval_put(fr:Frame)(tmps:Array Value)(ds:List Deferred)(todo:List Item):(put fr tmps ds todo).eval=ax tmps:=by funext x;cases x<;>rfl
theorem DZ{fr:Frame}{cs:List Frame}{ops:Array Oper}{i:Nat}{rest:List Nat}{k:List Item}{o:Oper}(hm:fr.mode=.run)(ht:fr.todo=.inRegion ops (i::rest)::k)(ho:ops[i]?=some o)
 (hw:Region.wanted o (yielded ops fr.tmps)=true)(hd:∀c,o.op≠.defer c):
 stepG P true { frame:=fr,callers:=cs,status:=.running,dying:=none} w=stepG.apply P true fr cs none (execOp fr.eval o) w:=by
 obtain⟨fn,tmps,todo,defers,mode,kind,roundOf⟩:=fr;simp only at hm ht;subst hm;subst ht;have:stepG.oper P true { fn,tmps,todo:=.inRegion ops (i::rest)::k,defers,mode:=.run,kind,roundOf} cs none w=
  stepG.apply P true { fn,tmps,todo:=.inRegion ops (i::rest)::k,defers,mode:=.run,kind,roundOf} cs none (execOp (Frame.eval { fn,tmps,todo:=.inRegion ops (i::rest)::k,defers,mode:=.run,kind,roundOf}) o) w:=by
  simp only[stepG.oper,Frame.oper?,ho];cases roundOf with
  | none=>rfl
  | some l=>
   cases fm:o.op<;>first | rfl | exact absurd fm (hd _)
 simp only[stepG,stepG.exec];simp only[ho,rz,Option.getD_some];rw[az hw];exact this
theorem Q5{fr:Frame}{cs:List Frame}{s:Sem Next}{x:Value}{w':World}(h:s.run P w=.ok (.value x) w'):
 (stepG.apply P true fr cs none s w).bare=.go { frame:=fr.finish x,callers:=cs,status:=.running,dying:=none} w':=by
 simp[stepG.apply,h]
theorem KS{fr:Frame}{cs:List Frame}{s:Sem Next}{w':World}(h:s.run P w=.ok .skip w'):
 (stepG.apply P true fr cs none s w).bare=.go { frame:=fr.finish undef,callers:=cs,status:=.running,dying:=none} w':=by
 simp[stepG.apply,h]
theorem G9(fr:Frame)(tmps:Array Value)(ds:List Deferred)(ops:Array Oper)(i:Nat)(rest:List Nat)(k:List Item)(x:Value):
 (put fr tmps ds (.inRegion ops (i::rest)::k)).finish x=put fr (match (ops[i]?).bind (·.dst) with | some d=>tmps.setIfInBounds d x | none=>tmps) ds (.inRegion ops rest::k):=rfl
end ops
end
section
def BO(P:Program)(s:Sem Next)(c:Frame)(cs:List Frame)(w:World)(v:Value)(w':World):Prop:=
 ∃nx w1,s.run P w=.ok nx w1/\match nx with
  | .enter g a=>Steps P (lone (Frame.enter P g a .normal) (c::cs) w1) (lone (c.finish v) cs w')
  | .round l g t a b=>Steps P (lone (Frame.round l g t a b .normal) (c::cs) w1) (lone (c.finish v) cs w')
  | .value x=>x=v/\w'=w1
  | .skip=>v=undef/\w'=w1
  | _=>False
def Q6(P:Program)(s:Sem Next)(c:Frame)(cs:List Frame)(w:World)(x:Value)(w':World):Prop:=
 ∃g a w1,s.run P w=.ok (.enter g a) w1/\Steps P (lone (Frame.enter P g a .normal) (c::cs) w1) (lone (c.raise [{ v:=x,recovered:=false}]) cs w')
theorem Ha{P:Program}{fr:Frame}{cs:List Frame}{s:Sem Next}{w w':World}{v:Value}
 (dP:stepG P true { frame:=fr,callers:=cs,status:=.running,dying:=none} w=stepG.apply P true fr cs none s w)
 (hk:∀d r sv k,fr.todo≠.call d true r sv::k)(h:BO P s fr cs w v w'):Steps P (lone fr cs w) (lone (fr.finish v) cs w'):=by
 obtain⟨nx,w1,hr,hn⟩:=h;have zT:(match fr.todo with | .call _ true _ _::_=>CallKind.wrapped | _=>.normal)=.normal:=by
  split
  ·rename_i h;exact absurd h (hk _ _ _ _)
  ·rfl
 cases nx<;>try exact hn.elim
 case value x=>
  obtain⟨rfl,rfl⟩:=hn;exact .one (iY (by rw[dP];exact Q5 hr))
 case skip=>
  obtain⟨rfl,rfl⟩:=hn;exact .one (iY (by rw[dP];exact KS hr))
 case enter g a=>
  refine .head (iY ?_) hn;rw[dP];simp only[stepG.apply,Sem.runT_eq,hr,GStep.bare_after,zT];rfl
 case round l g t a b=>
  refine .head (iY ?_) hn;rw[dP];simp only[stepG.apply,Sem.runT_eq,hr,GStep.bare_after,zT];rfl
structure Good(P:Program)(ty:Ty)(C:Nat->Option bP):Prop where
 aW:dO P ty
 fn:∀g af,C g=some (.go af)->∃fn,P.funcs[g]?=some fn/\(fn.name == "runtime.NumGoroutine")=false/\zJ ty fn=some af
 mixed:P.follows .mixedOrders=true
 zF:∀g af,C g=some (.zF af)->∃fn cf,P.funcs[g]?=some fn/\(fn.name == "runtime.NumGoroutine")=false/\xN ty fn (λi=>P.funcs[i]?)=some af/\P.funcs[af.g]?=some cf/\(cf.name == "runtime.NumGoroutine")=false
def kO(fr:Frame)(w:World):Prop:=∀l,fr.roundOf=some l->∃q,w.heap[l]?=some (.loop q)
def mj(P:Program)(ty:Ty)(j:FR)(H:Hp)(n:K)(r:R):Prop:=
 match j with
 | .code a T=>∀(η:Env) (w:World) (fr:Frame) (cs:List Frame) (k:List Item) (c:Code),WW ty fr.tmps.size c a->br η T fr.tmps->cM η ty.g->bM (WW ty) η H n w->fr.mode=.run->kO fr w->∃η' tmps ds w',Trans (WW ty) η H n w η' r.H r.n w'/\tmps.size=fr.tmps.size/\br η' r.T tmps/\Marks w.heap.size η' r.H w' ds fr.defers/\jv P η' (lone (put fr fr.tmps fr.defers (.code c::k)) cs w) fr cs k r.ex tmps ds w'
 | .call f l=>∀(η:Env) (w:World) (c:Frame) (cs:List Frame) (fv:Value) (args:List Value),aC η f fv->bB η l args->cM η ty.g->bM (WW ty) η H n w->(r.ex=.normal->∃η' v' w',Trans (WW ty) η H n w η' r.H r.n w'/\aC η' r.v v'/\BO P (do let d←Deferred.ofValue fv args.toArray;invoke d.target d.args) c cs w v' w')/\(∀u,r.ex=.panic u->∃η' v' w',Trans (WW ty) η H n w η' r.H r.n w'/\aC η' u v'/\Q6 P (do let d←Deferred.ofValue fv args.toArray;invoke d.target d.args) c cs w v' w')
def ml(P:Program)(ty:Ty)(ih:eh):Prop:=∀j H n r,ih j H n=some r->mj P ty j H n r
section ops
variable {P:Program}{ty:Ty}{C:Nat->Option bP}{ih:eh}{η η':Env}{T:Tr V}{H H':Hp}{n n':K}{w w':World}{v:V}{tmps:Array Value}
theorem br.set(h:br η T tmps){d:Nat}(hd:d<tmps.size){x:Value}(hv:aC η v x):br η (T.put (some v) (cT d)) (tmps.setIfInBounds d x):=by
 intro t u hu;rw[Tr.gb]at hu;split at hu
 ·rename_i e;have:=GQ e;subst this;injection hu with hu;subst hu;exact⟨x,by simp[gO,hd],hv⟩
 ·rename_i e;obtain⟨y,h1,h2⟩:=h t u hu;refine⟨y,?_,h2⟩;rw[gO,ai (λe'=>e (by rw[e']))];exact h1
def jX(dst:Option Nat)(x:Value)(tmps:Array Value):Array Value:=
 match dst with
 | some d=>tmps.setIfInBounds d x
 | none=>tmps
theorem D2(dst:Option Nat)(x:Value)(tmps:Array Value):(jX dst x tmps).size=tmps.size:=by cases dst<;>simp[jX]
theorem br.jX(h:br η T tmps){dst:Option Nat}(hd:∀d,dst=some d->d<tmps.size){x:Value}(hv:aC η v x):br η (eA (dst.map cT) (some v) T) (jX dst x tmps):=by
 cases dst with
 | none=>exact h
 | some d=>exact h.set (hd d rfl) hv
theorem KT(η:Env):aC η (.u []) undef:=.u _ _ .nil
theorem KU(hT:br η T tmps){ops:Array Oper}{o:Oper}{g:Option (K×Bool)}(hg:xJ ops o.guard=some g){b:Bool}(h:want g T=some b):Region.wanted o (yielded ops tmps)=b:=by
 unfold Region.wanted;cases ho:o.guard with
 | none=>
  rw[ho]at hg;simp only[xJ]at hg;injection hg with hg;subst hg;simp only[want]at h;injection h
 | some p=>
  obtain⟨j,wn⟩:=p;rw[ho]at hg;simp only[xJ]at hg;split at hg
  case h_2=>cases hg
  rename_i d hd;injection hg with hg;subst hg;simp only[want]at h;show((match ((ops[j]?).bind (·.dst)).bind (tmps[·]?) with
   | some (.bool b)=>some b
   | _=>none)==some wn)=b
  rw[hd];simp only[Bv];split at h
  ·rename_i x hx;obtain⟨y,h1,h2⟩:=hT d _ hx;cases h2;rw[h1];injection h with h;subst h;cases wn<;>cases x<;>rfl
  ·rename_i hx;obtain⟨y,h1,h2⟩:=hT d _ hx;injection h with h;subst h;cases h2 with
   | u _ l hl=>cases hl;rw[h1];rfl
  ·cases h
theorem ab6{c:Call}{f:aJ}{l:List aJ}(h:sO ty c=some (.hU f l)):∃x,c.callee=.value x/\cr ty x=some f/\pK ty c.args.toList=some l:=by
 obtain⟨callee,args,ts⟩:=c;cases callee with
 | value x=>
  simp only[sO]at h;split at h
  ·rename_i f' l' h1 h2;injection h with h;injection h with h3 h4;subst h3;subst h4;exact⟨x,rfl,h1,h2⟩
  ·cases h
 | invoke r m=>cases h
 | builtin b=>
  simp only[sO]at h
  repeat' split at h
  all_goals cases h
theorem Q7{op:Op}{f:aJ}{l:List aJ}(h:en ty op=some (.hU f l)):∃cc,op=.call cc/\∃x,cc.callee=.value x/\cr ty x=some f/\pK ty cc.args.toList=some l:=by
 cases op with
 | call c=>exact⟨c,rfl,ab6 h⟩
 | _=>
  simp only[en,iW]at h
  repeat' split at h
  all_goals cases h
theorem ab7{a:A}(h:oper ih a T H n=some (v,H',n')):∃T',eN ih a T H n=some ⟨.normal,T',v,H',n'⟩:=by
 unfold oper at h;split at h
 ·rename_i T' v1 H1 n1 h1;obtain⟨rfl,rfl,rfl⟩:=eo h;exact⟨T',h1⟩
 ·cases h
theorem ab8{a:A}{T':Tr V}(h:eN ih a T H n=some ⟨.normal,T',v,H',n'⟩):oper ih a T H n=some (v,H',n'):=by unfold oper;rw[h]
theorem zU{a:A}(ha:∀f l,a≠.hU f l):oper ih a T H n=simple a T H n:=by
 cases a with
 | hU f l=>exact absurd rfl (ha f l)
 | tW x=>
  simp only[oper,eN,simple];split
  ·rename_i h;split at h
   ·injection h with h;injection h with h;cases h
   ·cases h
  ·rfl
 | _=>
  unfold oper eN;simp only;generalize simple _ T H n=x;cases x with
  | none=>rfl
  | some p=>rfl
theorem Q8{f:aJ}{l:List aJ}(h:oper ih (.hU f l) T H n=some (v,H',n')):∃fv lv T',aI T f=some fv/\fP T l=some lv/\ih (.call fv lv) H n=some ⟨.normal,T',v,H',n'⟩:=by
 obtain⟨T',h⟩:=ab7 h;simp only[eN]at h;split at h
 ·rename_i fv lv h1 h2;exact⟨fv,lv,T',h1,h2,h⟩
 ·cases h
theorem ab9{a:A}{u:V}{T':Tr V}{v':V}(h:eN ih a T H n=some ⟨.panic u,T',v',H',n'⟩):
 (∃f l fv lv,a=.hU f l/\aI T f=some fv/\fP T l=some lv/\ih (.call fv lv) H n=some ⟨.panic u,T',v',H',n'⟩)\/
 (∃x t v,a=.tW x/\aI T x=some (.lD t v)/\u=.lD t v/\H'=H/\n'=n):=by
 cases a with
 | hU f l=>
  simp only[eN]at h;split at h
  ·rename_i fv lv h1 h2;exact .inl ⟨f,l,fv,lv,rfl,h1,h2,h⟩
  ·cases h
 | tW x=>
  simp only[eN]at h;split at h
  ·rename_i t v h1;injection h with h;injection h with h2 h3 h4 h5 h6;injection h2 with h2;exact .inr ⟨x,t,v,rfl,h1,h2.symm,h5.symm,h6.symm⟩
  ·cases h
 | _=>
  unfold eN at h;simp only at h;split at h
  ·injection h with h;injection h with h;cases h
  ·cases h
theorem Q9(hC:Good P ty C)(fi:ml P ty ih)(hT:br η T tmps)(hG:cM η ty.g)(hH:bM (WW ty) η H n w){o:Oper}{a:A}(hc:en ty o.op=some a)(hs:oper ih a T H n=some (v,H',n'))(c:Frame)(cs:List Frame):
 ∃η' v' w',Trans (WW ty) η H n w η' H' n' w'/\aC η' v v'/\BO P (execOp (ax tmps) o) c cs w v' w':=by
 have aca:simple a T H n=some (v,H',n')->∃η' v' w',Trans (WW ty) η H n w η' H' n' w'/\aC η' v v'/\BO P (execOp (ax tmps) o) c cs w v' w':=λhs=>by
  obtain⟨nx,w1,hr,η',ht,hv⟩:=ab4 (W:=WW ty) (w:=w) hC.aW hT hG hH hc hs;rcases hv with ⟨y,rfl,hy⟩ | ⟨rfl,rfl⟩
  ·exact⟨η',y,w1,ht,hy,.value y,w1,hr,rfl,rfl⟩
  ·exact⟨η',undef,w1,ht,KT _,.skip,w1,hr,rfl,rfl⟩
 cases a with
 | hU f l=>
  obtain⟨fv,lv,T',hf,hl,hr⟩:=Q8 hs;obtain⟨cc,fm,x,hx,wg,iV⟩:=Q7 hc;have h1:=cS hT hG wg hf;have h2:=BH hT hG iV hl;obtain⟨η',v',w',g1,g2,g3⟩:=(fi _ _ _ _ hr η w c cs _ _ h1 h2 hG hH).1 rfl;refine⟨η',v',w',g1,g2,?_⟩;have e:execOp (ax tmps) o=(do let d←Deferred.ofValue (ax tmps x) (cc.args.toList.map (ax tmps)).toArray;invoke d.target d.args):=by
   have:(cc.args.toList.map (ax tmps)).toArray=cc.args.map (ax tmps):=by apply j9;simp
   rw[this];obtain⟨dst,op,rt,pos,after,gd⟩:=o;subst fm;show(do let d←resolve (ax tmps) cc rt;invoke d.target d.args)=_;unfold resolve;simp only[hx]
  rw[e];exact g3
 | _=>exact aca (by rw[←hs];exact(zU (by intro f l h;cases h)).symm)
theorem acb{op:Op}{x:aJ}(h:en ty op=some (.tW x)):∃y,op=.panic y/\cr ty y=some x:=by
 cases op with
 | panic y=>
  simp only[en]at h;split at h
  ·rename_i x' hx;injection h with h;injection h with h;subst h;exact⟨y,rfl,hx⟩
  ·cases h
 | call c=>
  exfalso;simp only[en]at h;obtain⟨callee,args,ts⟩:=c;cases callee with
  | value x=>
   simp only[sO]at h;split at h
   ·injection h with h;cases h
   ·cases h
  | invoke r m=>cases h
  | builtin b=>
   simp only[sO]at h
   repeat' split at h
   all_goals cases h
 | _=>
  simp only[en,iW]at h
  repeat' split at h
  all_goals cases h
end ops
end
section
section ops
variable {P:Program}{ty:Ty}{C:Nat->Option bP}{ih:eh}{η η':Env}{T:Tr V}{H H':Hp}{n n':K}{w w':World}{v:V}{tmps:Array Value}{ds:List Deferred}{fr:Frame}{cs:List Frame}{k:List Item}
theorem kO.trans{W:Nat->Code->AC->Prop}(h:kO fr w)(t:Trans W η H n w η' H' n' w'):kO fr w':=λl hl=>let⟨q,hq⟩:=h l hl;t.kept.loops l q hq
theorem Ra{ops:Array Oper}{i:Nat}{rest:List Nat}{o:Oper}(hm:fr.mode=.run)(ho:ops[i]?=some o)(hw:Region.wanted o (yielded ops tmps)=false):
 step P (lone (put fr tmps ds (.inRegion ops (i::rest)::k)) cs w)=.next (lone (put fr (jX o.dst undef tmps) ds (.inRegion ops rest::k)) cs w):=by
 obtain⟨fn,nP,todo,defers,mode,kind,roundOf⟩:=fr;simp only at hm;subst hm;refine iY ?_;simp only[put,stepG,stepG.exec,ho,rz,Option.getD_some,hw,zt,if_false,GStep.bare];simp only[Frame.finish,ho,Bv];rfl
theorem Hb{ops:Array Oper}(hm:fr.mode=.run):step P (lone (put fr tmps ds (.inRegion ops []::k)) cs w)=.next (lone (put fr tmps ds k) cs w):=by obtain⟨fn,nP,todo,defers,mode,kind,roundOf⟩:=fr;simp only at hm;subst hm;exact iY (by simp[put,stepG,stepG.exec])
theorem Rb(i m:Nat):List.range' i (m+1)=i::List.range' (i+1) m:=by rw[List.range'_succ]
theorem Rc(hm:fr.mode=.run)(x:Value):fr.raise [{ v:=x,recovered:=false}]={ fr with mode:=.panicking [{ v:=x,recovered:=false}]}:=by unfold Frame.raise;rw[hm]
theorem acd{s:Sem Next}{x:Value}(hm:fr.mode=.run)
 (dP:stepG P true { frame:=fr,callers:=cs,status:=.running,dying:=none} w=stepG.apply P true fr cs none s w)
 (hk:∀d r sv k,fr.todo≠.call d true r sv::k)(h:Q6 P s fr cs w x w'):Steps P (lone fr cs w) (lone { fr with mode:=.panicking [{ v:=x,recovered:=false}]} cs w'):=by
 obtain⟨g,a,w1,hr,hn⟩:=h;have zT:(match fr.todo with | .call _ true _ _::_=>CallKind.wrapped | _=>.normal)=.normal:=by
  split
  ·rename_i h;exact absurd h (hk _ _ _ _)
  ·rfl
 rw[←Rc hm];refine .head (iY ?_) hn;rw[dP];simp only[stepG.apply,Sem.runT_eq,hr,GStep.bare_after,zT];rfl
theorem ace{s:Sem Next}{x:Value}(hm:fr.mode=.run)(h:s.run P w=.halt (.panic x) w'):
 (stepG.apply P true fr cs none s w).bare=.go { frame:={ fr with mode:=.panicking [{ v:=x,recovered:=false}]},callers:=cs,status:=.running,dying:=none} w':=by
 rw[←Rc hm];simp[stepG.apply,h]
theorem acf(hC:Good P ty C)(fi:ml P ty ih)(hm:fr.mode=.run){ops:Array Oper}{i:Nat}{rest:List Nat}{o:Oper}(ho:ops[i]?=some o)(wi:Region.wanted o (yielded ops tmps)=true)
 (hT:br η T tmps)(hG:cM η ty.g)(hH:bM (WW ty) η H n w){a:A}(hc:en ty o.op=some a){u:V}{T':Tr V}{v':V}(hs:eN ih a T H n=some ⟨.panic u,T',v',H',n'⟩):
 ∃η' w',Trans (WW ty) η H n w η' H' n' w'/\jv P η' (lone (put fr tmps ds (.inRegion ops (i::rest)::k)) cs w) fr cs k (.panic u) tmps ds w':=by
 have pr:∀c,o.op≠.defer c:=λc e=>by rw[e]at hc;cases hc
 have dP:=DZ (P:=P) (cs:=cs) (w:=w) (fr:=put fr tmps ds (.inRegion ops (i::rest)::k)) hm rfl ho wi pr;rw[eval_put]at dP;rcases ab9 hs with ⟨f,l,fv,lv,rfl,h1,h2,h3⟩ | ⟨x,t,v,rfl,h1,rfl,rfl,rfl⟩
 ·obtain⟨cc,fm,x,hx,wg,iV⟩:=Q7 hc;obtain⟨η',y,w',g1,g2,g3⟩:=(fi _ _ _ _ h3 η w (put fr tmps ds (.inRegion ops (i::rest)::k)) cs _ _ (cS hT hG wg h1) (BH hT hG iV h2) hG hH).2 u rfl;refine⟨η',w',g1,.inRegion ops (i::rest)::k,y,g2,?_⟩;have e:execOp (ax tmps) o=(do let d←Deferred.ofValue (ax tmps x) (cc.args.toList.map (ax tmps)).toArray;invoke d.target d.args):=by
   have:(cc.args.toList.map (ax tmps)).toArray=cc.args.map (ax tmps):=by apply j9;simp
   rw[this];obtain⟨dst,op,rt,pos,after,gd⟩:=o;subst fm;show(do let d←resolve (ax tmps) cc rt;invoke d.target d.args)=_;unfold resolve;simp only[hx]
  rw[e]at dP;exact acd hm dP (λ_ _ _ _ h=>by cases h) g3
 ·obtain⟨y,fm,hcy⟩:=acb hc;have hr:=cS hT hG hcy h1;refine⟨η,w,.refl hH,.inRegion ops (i::rest)::k,ax tmps y,hr,.one (iY ?_)⟩;rw[dP];refine ace hm ?_;obtain⟨dst,op,rt,pos,after,gd⟩:=o;subst fm;show(do pure (.value (←Instr.panic (ax tmps y))):Sem Next).run P _=_;generalize ax tmps y=z at hr;cases hr with
  | lD _ _ z' _=>
   show(Sem.bind _ _).run P _=_;rw[Sem.run_bind'];rfl
theorem KV(hC:Good P ty C)(fi:ml P ty ih){ops:Array Oper}(hm:fr.mode=.run)(hd:iZ fr.tmps.size ops.toList=true):
 ∀(l:List Oper) (i:Nat),ops.toList.drop i=l->∀(η:Env) (T:Tr V) (H:Hp) (n:K) (w:World) (tmps:Array Value) (r:R),gv ih (eO ty ops l []) T H n=some r->br η T tmps->tmps.size=fr.tmps.size->cM η ty.g->bM (WW ty) η H n w->∃η' ep w',Trans (WW ty) η H n w η' r.H r.n w'/\ep.size=fr.tmps.size/\br η' r.T ep/\jv P η' (lone (put fr tmps ds (.inRegion ops (List.range' i l.length)::k)) cs w) fr cs k r.ex ep ds w':=by
 intro l
 induction l with
 | nil=>
  intro i hl η T H n w tmps r hr hT eQ hG hH;simp only[eO,gv]at hr;injection hr with hr;subst hr;exact⟨η,tmps,w,.refl hH,eQ,hT,.one (Hb hm)⟩
 | cons o l j5=>
  intro i hl η T H n w tmps r hr hT eQ hG hH;have ho:ops[i]?=some o:=by rw[←nK];have:=congrArg (·[0]?) hl;simpa using this
  have re:ops.toList.drop (i+1)=l:=by have:=congrArg (List.drop 1) hl;simpa using this
  have qB:∀d,o.dst=some d->d<tmps.size:=by
   have key:∀(l:List Oper),iZ fr.tmps.size l=true->o∈l->∀d,o.dst=some d->d<fr.tmps.size:=by
    intro l
    induction l with
    | nil=>intro _ h;cases h
    | cons p l lU=>
     intro h hm d CP;simp only[iZ,bG]at h;rcases fY.1 hm with rfl | hm
     ·rw[CP]at h;have:=h.1;simp only[gf,bT]at this;exact this
     ·exact lU h.2 hm d CP
   rw[eQ];exact key _ hd (by
    have:=Array.mem_of_getElem? ho;simpa using this)
  simp only[eO,gv]at hr;have YI:∃g,xJ ops o.guard=some g/\(jU ty ops o 0)={ dst:=o.dst.map cT,op:=(en ty o.op).getD .bad,guard:=g,ah:=0}:=by
   cases hg:xJ ops o.guard with
   | some g=>exact⟨g,rfl,by simp[jU,hg]⟩
   | none=>
    exfalso;have:jU ty ops o 0={ dst:=none,op:=.bad,guard:=none,ah:=0}:=by simp[jU,hg]
    rw[this]at hr;simp only[want,eN,simple]at hr;cases hr
  obtain⟨g,hg,zM⟩:=YI;rw[zM]at hr;simp only at hr;rw[fG,Rb];split at hr
  ·rename_i hw;have wi:=KU hT hg hw;cases rH:en ty o.op with
   | none=>rw[rH]at hr;simp only[Option.getD_none,eN,simple]at hr;cases hr
   | some a=>
    rw[rH,Option.getD_some]at hr;split at hr
    ·rename_i T1 v1 H1 n1 fm;have fm:=ab8 fm;obtain⟨η1,v',w1,g1,g2,g3⟩:=Q9 hC fi hT hG hH rH fm (put fr tmps ds (.inRegion ops (i::List.range' (i+1) l.length)::k)) cs;have pr:∀c,o.op≠.defer c:=λc e=>by rw[e]at rH;cases rH
     have dP:=DZ (P:=P) (cs:=cs) (w:=w) (fr:=put fr tmps ds (.inRegion ops (i::List.range' (i+1) l.length)::k)) hm rfl ho wi pr;rw[eval_put]at dP;have kh:=Ha dP (λ_ _ _ _ h=>by cases h) g3;rw[G9,ho]at kh;have YJ:br η1 (eA (o.dst.map cT) (some v1) T) (jX o.dst v' tmps):=(hT.mono g1.ext).jX qB g2;obtain⟨η2,D3,w2,q1,q2,q3,q4⟩:=j5 (i+1) re η1 _ H1 n1 w1 (jX o.dst v' tmps) r hr YJ (by rw[D2];exact eQ) (hG.mono g1.ext) g1.rep;exact⟨η2,D3,w2,g1.trans q1,q2,q3,.of_steps kh q4⟩
    ·rename_i u T1 v1 H1 n1 fm;injection hr with hr;subst hr;obtain⟨η',w',q1,q2⟩:=acf (fr:=fr) (cs:=cs) (k:=k) (ds:=ds) (rest:=List.range' (i+1) l.length) hC fi hm ho wi hT hG hH rH fm;exact⟨η',tmps,w',q1,eQ,hT.mono q1.ext,q2⟩
    ·cases hr
  ·rename_i hw;have wi:=KU hT hg hw;have YJ:br η (eA (o.dst.map cT) (some (.u [])) T) (jX o.dst undef tmps):=hT.jX qB (KT _);obtain⟨η2,D3,w2,q1,q2,q3,q4⟩:=j5 (i+1) re η _ H n w (jX o.dst undef tmps) r hr YJ (by rw[D2];exact eQ) hG hH;exact⟨η2,D3,w2,q1,q2,q3,.of_steps (.one (Ra hm ho wi)) q4⟩
  ·cases hr
end ops
end
section
section ops
variable {P:Program}{ty:Ty}{C:Nat->Option bP}{ih:eh}{η η':Env}{T:Tr V}{H H':Hp}{n n':K}{w w':World}{v:V}{tmps:Array Value}{ds:List Deferred}{fr:Frame}{cs:List Frame}{k:List Item}
theorem Steps.tail{m m1 m':Machine}(h:Steps P m m')(hs:step P m=.next m1)(bC:m≠m'):Steps P m1 m':=by
 obtain⟨j,hj⟩:=h;cases j with
 | zero=>simp only[runN]at hj;injection hj with hj;exact absurd hj bC
 | succ j=>simp only[runN,hs]at hj;exact⟨j,hj⟩
section acg
variable (hm:fr.mode=.run)
include hm
theorem rI{x:Item}{todo:List Item}(h:∀(b:Frame) (a:Act) (r:Option Nat),True->True)(hs:∀(fn:FuncId) (kind:CallKind) (roundOf:Option Nat),(stepG P true { frame:={ fn,tmps,todo:=x::k,defers:=ds,mode:=.run,kind,roundOf},callers:=cs,status:=.running,dying:=none} w).bare=
 .go { frame:={ fn,tmps,todo:=todo,defers:=ds,mode:=.run,kind,roundOf},callers:=cs,status:=.running,dying:=none} w):
 step P (lone (put fr tmps ds (x::k)) cs w)=.next (lone (put fr tmps ds todo) cs w):=by
 obtain⟨fn,nP,aqb,defers,mode,kind,roundOf⟩:=fr;simp only at hm;subst hm;exact iY (hs fn kind roundOf)
theorem ach:step P (lone (put fr tmps ds (.code .skip::k)) cs w)=.next (lone (put fr tmps ds k) cs w):=rI hm (λ_ _ _ _=>trivial) λ_ _ _=>by simp[stepG,stepG.exec]
theorem aci{l:Nat}:step P (lone (put fr tmps ds (.code (.label l)::k)) cs w)=.next (lone (put fr tmps ds k) cs w):=rI hm (λ_ _ _ _=>trivial) λ_ _ _=>by simp[stepG,stepG.exec]
theorem acj{id:Nat}:step P (lone (put fr tmps ds (.inBlock id::k)) cs w)=.next (lone (put fr tmps ds k) cs w):=rI hm (λ_ _ _ _=>trivial) λ_ _ _=>by simp[stepG,stepG.exec]
theorem ack{c:Code}:step P (lone (put fr tmps ds (.inScope c::k)) cs w)=.next (lone (put fr tmps ds k) cs w):=rI hm (λ_ _ _ _=>trivial) λ_ _ _=>by simp[stepG,stepG.exec]
theorem BP{x y:Code}:step P (lone (put fr tmps ds (.code (.seq x y)::k)) cs w)=.next (lone (put fr tmps ds (.code x::.code y::k)) cs w):=rI hm (λ_ _ _ _=>trivial) λ_ _ _=>by simp[stepG,stepG.exec]
theorem KW{id:Nat}{c:Code}:step P (lone (put fr tmps ds (.code (.block id c)::k)) cs w)=.next (lone (put fr tmps ds (.code c::.inBlock id::k)) cs w):=rI hm (λ_ _ _ _=>trivial) λ_ _ _=>by simp[stepG,stepG.exec]
theorem Hc{c:Code}:step P (lone (put fr tmps ds (.code (.loop c)::k)) cs w)=.next (lone (put fr tmps ds (.code c::.inLoop c::k)) cs w):=rI hm (λ_ _ _ _=>trivial) λ_ _ _=>by simp[stepG,stepG.exec]
theorem KX{c:Code}:step P (lone (put fr tmps ds (.inLoop c::k)) cs w)=.next (lone (put fr tmps ds (.code c::.inLoop c::k)) cs w):=rI hm (λ_ _ _ _=>trivial) λ_ _ _=>by simp[stepG,stepG.exec]
theorem acm{c:Code}:step P (lone (put fr tmps ds (.code (.scope c)::k)) cs w)=.next (lone (put fr tmps ds (.code c::.inScope c::k)) cs w):=rI hm (λ_ _ _ _=>trivial) λ_ _ _=>by simp[stepG,stepG.exec]
theorem D4{id:Nat}{ops:Array Oper}:step P (lone (put fr tmps ds (.code (.region id ops false)::k)) cs w)=.next (lone (put fr tmps ds (.inRegion ops (List.range ops.size)::k)) cs w):=rI hm (λ_ _ _ _=>trivial) λ_ _ _=>by simp[stepG,stepG.exec]
theorem acn{id:Nat}{k1:List Item}(h:exitTo id k=some k1):step P (lone (put fr tmps ds (.code (.exit id)::k)) cs w)=.next (lone (put fr tmps ds k1) cs w):=rI hm (λ_ _ _ _=>trivial) λ_ _ _=>by simp[stepG,stepG.exec,h]
theorem Re{c:Operand}{x y:Code}{t:Bool}(h:ax tmps c=.bool t):step P (lone (put fr tmps ds (.code (.cond c x y)::k)) cs w)=.next (lone (put fr tmps ds (.code (if t then x else y)::k)) cs w):=
 rI hm (λ_ _ _ _=>trivial) λfn kind roundOf=>by
  have he:Frame.eval { fn,tmps,todo:=.code (.cond c x y)::k,defers:=ds,mode:=.run,kind,roundOf} c=.bool t:=by rw[eval_eq];exact h
  simp[stepG,stepG.exec,he]
end acg
theorem aco{a1 a2:AC}{c1 c2:Code}{r1 r2:R}(h1:mj P ty (.code a1 T) H n r1)(hn:r1.ex=.normal)(h2:mj P ty (.code a2 r1.T) r1.H r1.n r2)
 {η:Env}{w:World}{fr:Frame}{cs:List Frame}{k:List Item}(DW:WW ty fr.tmps.size c1 a1)(uf:WW ty fr.tmps.size c2 a2)(hT:br η T fr.tmps)(hG:cM η ty.g)(hH:bM (WW ty) η H n w)(hm:fr.mode=.run)(hl:kO fr w)
 {x:Item}(hx:∀id,x≠.inBlock id){k2:List Item}{m0:Machine}(hs:m0=lone (put fr fr.tmps fr.defers (.code c1::x::k)) cs w)
 (KY:∀tmps ds w,Steps P (lone (put fr tmps ds (x::k)) cs w) (lone (put fr tmps ds (.code c2::k2)) cs w))
 (acp:∀η ex tmps ds w m,jv P η m fr cs k2 ex tmps ds w->jv P η m fr cs k ex tmps ds w):
 ∃η' tmps ds w',Trans (WW ty) η H n w η' r2.H r2.n w'/\tmps.size=fr.tmps.size/\br η' r2.T tmps/\Marks w.heap.size η' r2.H w' ds fr.defers/\jv P η' m0 fr cs k r2.ex tmps ds w':=by
 obtain⟨η1,t1,d1,w1,g1,g2,g3,g4,g5⟩:=h1 η w fr cs (x::k) c1 DW hT hG hH hm hl;rw[hn]at g5;obtain⟨η2,t2,d2,w2,q1,q2,q3,q4,q5⟩:=h2 η1 w1 (put fr t1 d1 []) cs k2 c2 (by show WW ty t1.size c2 a2;rw[g2];exact uf) g3 (hG.mono g1.ext) g1.rep hm (hl.trans g1);refine⟨η2,t2,d2,w2,g1.trans q1,q2.trans g2,q3,g4.next q1 q4 g1.kept.size,?_⟩;rw[hs];exact .of_steps (Steps.trans g5 (KY t1 d1 w1)) (acp _ _ _ _ _ _ q5)
structure Forms(P:Program)(ty:Ty)(ih:eh):Prop where
 draw:∀id ops T H n r,xL (Region.before ops).toList 0 ops.toList (eO ty ops ops.toList (Region.before ops).toList)=true->ca (λ_=>none) ih (.code (.regd (eO ty ops ops.toList (Region.before ops).toList)) T) H n=some r->∀(η:Env) (w:World) (fr:Frame) (cs:List Frame) (k:List Item),within fr.tmps.size (.region id ops true)=true->br η T fr.tmps->cM η ty.g->bM (WW ty) η H n w->fr.mode=.run->kO fr w->∃η' tmps ds w',Trans (WW ty) η H n w η' r.H r.n w'/\tmps.size=fr.tmps.size/\br η' r.T tmps/\Marks w.heap.size η' r.H w' ds fr.defers/\jv P η' (lone (put fr fr.tmps fr.defers (.code (.region id ops true)::k)) cs w) fr cs k r.ex tmps ds w'
 mf:∀f ps as body f' T H n r,cr ty f=some f'->ca (λ_=>none) ih (.code (.mf f' (ps.toList.map cT) (dL ty as) (dL ty body)) T) H n=some r->∀(η:Env) (w:World) (fr:Frame) (cs:List Frame) (k:List Item),within fr.tmps.size (.rangeFunc f ps as body)=true->br η T fr.tmps->cM η ty.g->bM (WW ty) η H n w->fr.mode=.run->kO fr w->∃η' tmps ds w',Trans (WW ty) η H n w η' r.H r.n w'/\tmps.size=fr.tmps.size/\br η' r.T tmps/\Marks w.heap.size η' r.H w' ds fr.defers/\jv P η' (lone (put fr fr.tmps fr.defers (.code (.rangeFunc f ps as body)::k)) cs w) fr cs k r.ex tmps ds w'
 pH:∀c d x l b ws T H n r,uH ty (dL ty c) c=.pH d x l b ws->ca (λ_=>none) ih (.code (.pH d x l b ws) T) H n=some r->∀(η:Env) (w:World) (fr:Frame) (cs:List Frame) (k:List Item),within fr.tmps.size (.loop c)=true->br η T fr.tmps->cM η ty.g->bM (WW ty) η H n w->fr.mode=.run->kO fr w->∃η' tmps ds w',Trans (WW ty) η H n w η' r.H r.n w'/\tmps.size=fr.tmps.size/\br η' r.T tmps/\Marks w.heap.size η' r.H w' ds fr.defers/\jv P η' (lone (put fr fr.tmps fr.defers (.code (.loop c)::k)) cs w) fr cs k r.ex tmps ds w'
theorem acq(a:AC)(c:Code):uH ty a c=.loop a\/uH ty a c=.bad\/∃d x l b ws,uH ty a c=.pH d x l b ws:=by
 unfold uH;split
 ·split
  ·exact .inr (.inr ⟨_,_,_,_,_,rfl⟩)
  ·exact .inr (.inl U)
 ·exact .inl U
theorem jv.back{m:Machine}{x:Item}{ex:Ex}(hx:∀id,x≠.inBlock id)(hs:∀tmps ds w,Steps P (lone (put fr tmps ds (x::k)) cs w) (lone (put fr tmps ds k) cs w))(h:jv P η m fr cs (x::k) ex tmps ds w):
 jv P η m fr cs k ex tmps ds w:=by
 cases ex with
 | normal=>exact Steps.trans h (hs _ _ _)
 | exit id=>exact jv.pass hx (by simp) h
 | ret=>exact jv.pass hx (by simp) h
 | panic v=>exact jv.pass hx (by simp) h
theorem acr(hC:Good P ty C)(fi:ml P ty ih)(hF:Forms P ty ih){a:AC}{r:R}(hr:ca C ih (.code a T) H n=some r):mj P ty (.code a T) H n r:=by
 intro η w fr cs k c hW hT hG hH hm hl;obtain⟨hc,jI⟩:=hW;have here:∀{T'},r=⟨.normal,T',.q,H,n⟩->T'=T->Steps P (lone (put fr fr.tmps fr.defers (.code c::k)) cs w) (lone (put fr fr.tmps fr.defers k) cs w)->∃η' tmps ds w',Trans (WW ty) η H n w η' r.H r.n w'/\tmps.size=fr.tmps.size/\br η' r.T tmps/\Marks w.heap.size η' r.H w' ds fr.defers/\jv P η' (lone (put fr fr.tmps fr.defers (.code c::k)) cs w) fr cs k r.ex tmps ds w':=by rintro T' rfl rfl hs;exact⟨η,fr.tmps,fr.defers,w,.refl hH,rfl,hT,.refl _ _ _ _ _,hs⟩
 have one:∀{m1:Machine},step P (lone (put fr fr.tmps fr.defers (.code c::k)) cs w)=.next m1->∀{η' ex tmps ds w'},jv P η' m1 fr cs k ex tmps ds w'->jv P η' (lone (put fr fr.tmps fr.defers (.code c::k)) cs w) fr cs k ex tmps ds w':=
  λhs _ _ _ _ _ h=>.of_steps (.one hs) h
 cases c with
 | skip=>
  simp only[dL]at hc;subst hc;simp only[ca]at hr;injection hr with hr;exact here hr.symm U (.one (ach hm))
 | label l=>
  simp only[dL]at hc;subst hc;simp only[ca]at hr;injection hr with hr;exact here hr.symm U (.one (aci hm))
 | region id ops draw=>
  cases draw with
  | false=>
   simp only[dL,cond_false]at hc;subst hc;simp only[ca]at hr;have hd:iZ fr.tmps.size ops.toList=true:=jI;obtain⟨η',t',w',g1,g2,g3,g4⟩:=KV (cs:=cs) (k:=k) (ds:=fr.defers) hC fi hm hd ops.toList 0 rfl η T H n w fr.tmps r hr hT rfl hG hH;refine⟨η',t',fr.defers,w',g1,g2,g3,.refl _ _ _ _ _,?_⟩;have eQ:ops.toList.length=ops.size:=by simp
   rw[eQ,←xz]at g4;exact .of_steps (.one (D4 hm)) g4
  | true=>
   simp only[dL,cond_true]at hc;cases qB:xL (Region.before ops).toList 0 ops.toList (eO ty ops ops.toList (Region.before ops).toList) with
   | false=>rw[qB]at hc;simp only[cond_false]at hc;subst hc;cases hr
   | true=>
    rw[qB]at hc;simp only[cond_true]at hc;subst hc;exact hF.draw id ops T H n r qB hr η w fr cs k jI hT hG hH hm hl
 | seq x y=>
  simp only[dL]at hc;subst hc;simp only[within,bG]at jI;simp only[ca]at hr;split at hr
  ·rename_i T1 v1 H1 n1 h1;have j1:=fi _ _ _ _ h1;have j2:=fi _ _ _ _ hr;obtain⟨η',t',d',w',g1,g2,g3,g4,g5⟩:=aco j1 rfl j2 (c1:=x) (c2:=y) (x:=.code y) (k2:=k) ⟨rfl,jI.1⟩ ⟨rfl,jI.2⟩ hT hG hH hm hl (by intro id h;cases h) U (λ_ _ _=>.refl _ _) (λ_ _ _ _ _ _ h=>h);exact⟨η',t',d',w',g1,g2,g3,g4,one (BP hm) g5⟩
  ·rename_i jn;have j1:=fi _ _ _ _ hr;obtain⟨η',t',d',w',g1,g2,g3,g4,g5⟩:=j1 η w fr cs (.code y::k) x ⟨rfl,jI.1⟩ hT hG hH hm hl;have hex:r.ex≠.normal:=by
    intro e;obtain⟨ex,T1,v1,H1,n1⟩:=r;simp only at e;subst e;exact jn _ _ _ _ hr
   exact⟨η',t',d',w',g1,g2,g3,g4,one (BP hm) (.pass (by intro id h;cases h) hex g5)⟩
 | cond x c1 c2=>
  simp only[dL]at hc;split at hc
  case h_2=>subst hc;cases hr
  rename_i x' hx;subst hc;simp only[within,bG]at jI;simp only[ca]at hr;split at hr
  case h_2=>cases hr
  rename_i b hb;have jb:=cS hT hG hx hb;have hv:ax fr.tmps x=.bool b:=by generalize ax fr.tmps x=y at jb;cases jb;rfl
  have j1:=fi _ _ _ _ hr;cases b with
  | true=>
   obtain⟨η',t',d',w',g1,g2,g3,g4,g5⟩:=j1 η w fr cs k c1 ⟨rfl,jI.1⟩ hT hG hH hm hl;exact⟨η',t',d',w',g1,g2,g3,g4,one (Re hm hv) g5⟩
  | false=>
   obtain⟨η',t',d',w',g1,g2,g3,g4,g5⟩:=j1 η w fr cs k c2 ⟨rfl,jI.2⟩ hT hG hH hm hl;exact⟨η',t',d',w',g1,g2,g3,g4,one (Re hm hv) g5⟩
 | block id c1=>
  simp only[dL]at hc;subst hc;simp only[ca]at hr;have jI:within fr.tmps.size c1=true:=jI;split at hr
  ·rename_i CK T1 v1 H1 n1 h1;have j1:=fi _ _ _ _ h1;obtain⟨η',t',d',w',g1,g2,g3,g4,k1,g5,g6⟩:=j1 η w fr cs (.inBlock id::k) c1 ⟨rfl,jI⟩ hT hG hH hm hl;cases D5:Nat.beq id CK with
   | true=>
    rw[D5]at hr;injection hr with hr;subst hr;obtain rfl:=cZ D5;refine⟨η',t',d',w',g1,g2,g3,g4,Steps.head (KW hm) (Steps.trans g6 (.one (acn hm ?_)))⟩;rw[g5];simp[exitTo]
   | false=>
    rw[D5]at hr;injection hr with hr;subst hr;refine⟨η',t',d',w',g1,g2,g3,g4,k1,?_,Steps.head (KW hm) g6⟩;rw[g5];have:(id==CK)=false:=by rw[dD]at D5;simpa using D5
    simp[exitTo,this]
  ·rename_i jn;have j1:=fi _ _ _ _ hr;obtain⟨η',t',d',w',g1,g2,g3,g4,g5⟩:=j1 η w fr cs (.inBlock id::k) c1 ⟨rfl,jI⟩ hT hG hH hm hl;refine⟨η',t',d',w',g1,g2,g3,g4,one (KW hm) ?_⟩;generalize hex:r.ex=ex at g5;cases ex with
   | normal=>exact Steps.trans g5 (.one (acj hm))
   | exit CK=>
    exfalso;obtain⟨ex,T1,v1,H1,n1⟩:=r;simp only at hex;subst hex;exact jn _ _ _ _ _ hr
   | ret=>exact g5
   | panic v=>exact g5
 | loop c1=>
  have hwl:=jI;have jI:within fr.tmps.size c1=true:=jI;have tZ:dL ty (.loop c1)=uH ty (dL ty c1) c1:=rfl;rw[tZ]at hc;rcases acq (ty:=ty) (dL ty c1) c1 with hk | hk | ⟨d,x,l,b,ws,hk⟩
  ·rw[hk]at hc;subst hc;simp only[ca]at hr;split at hr
   ·rename_i T1 v1 H1 n1 h1;have j1:=fi _ _ _ _ h1;have j2:=fi _ _ _ _ hr;obtain⟨η1,t1,d1,w1,g1,g2,g3,g4,g5⟩:=j1 η w fr cs (.inLoop c1::k) c1 ⟨rfl,jI⟩ hT hG hH hm hl;obtain⟨η2,t2,d2,w2,q1,q2,q3,q4,q5⟩:=j2 η1 w1 (put fr t1 d1 []) cs k (.loop c1) ⟨by rw[tZ,hk],by show within t1.size (.loop c1)=true;rw[g2];exact hwl⟩ g3 (hG.mono g1.ext) g1.rep hm (hl.trans g1);refine⟨η2,t2,d2,w2,g1.trans q1,q2.trans g2,q3,g4.next q1 q4 g1.kept.size,?_⟩;refine .of_steps (Steps.head (Hc hm) (Steps.trans g5 (.one (KX hm)))) ?_;have dP:step P (lone (put fr t1 d1 (.code (.loop c1)::k)) cs w1)=.next (lone (put fr t1 d1 (.code c1::.inLoop c1::k)) cs w1):=Hc hm;have q5:jv P η2 (lone (put fr t1 d1 (.code (.loop c1)::k)) cs w1) fr cs k r.ex t2 d2 w2:=q5;have ne:∀{todo:List Item},(.code (.loop c1)::k)≠todo->lone (put fr t1 d1 (.code (.loop c1)::k)) cs w1≠lone (put fr t2 d2 todo) cs w2:=by
     intro todo h e;have:=congrArg (λm:Machine=>(m.gs[0]?).map (·.frame.todo)) e;simp[lone,put]at this;exact h this
    generalize r.ex=ex at q5;cases ex with
    | normal=>exact Steps.tail q5 dP (ne (by intro e;have:=congrArg List.length e;simp at this))
    | exit id=>obtain⟨k1,a1,a2⟩:=q5;exact⟨k1,a1,Steps.tail a2 dP (ne (by intro e;injection e with e;cases e))⟩
    | ret=>obtain⟨k1,a2⟩:=q5;exact⟨k1,Steps.tail a2 dP (ne (by intro e;injection e with e;cases e))⟩
    | panic v=>
     obtain⟨k1,x,a1,a2⟩:=q5;refine⟨k1,x,a1,Steps.tail a2 dP λe=>?_⟩;have:=congrArg (λm:Machine=>(m.gs[0]?).map (·.frame.mode)) e;simp[lone,put,hm]at this
   ·rename_i jn;have j1:=fi _ _ _ _ hr;obtain⟨η',t',d',w',g1,g2,g3,g4,g5⟩:=j1 η w fr cs (.inLoop c1::k) c1 ⟨rfl,jI⟩ hT hG hH hm hl;have hex:r.ex≠.normal:=by
     intro e;obtain⟨ex,T1,v1,H1,n1⟩:=r;simp only at e;subst e;exact jn _ _ _ _ hr
    exact⟨η',t',d',w',g1,g2,g3,g4,one (Hc hm) (.pass (by intro id h;cases h) hex g5)⟩
  ·rw[hk]at hc;subst hc;cases hr
  ·rw[hk]at hc;subst hc;exact hF.pH c1 d x l b ws T H n r hk hr η w fr cs k hwl hT hG hH hm hl
 | rangeFunc f ps as body=>
  simp only[dL]at hc;split at hc
  case h_2=>subst hc;cases hr
  rename_i f' hf;subst hc;exact hF.mf f ps as body f' T H n r hf hr η w fr cs k jI hT hG hH hm hl
 | exit id=>
  simp only[dL]at hc;subst hc;simp only[ca]at hr;injection hr with hr;subst hr;exact⟨η,fr.tmps,fr.defers,w,.refl hH,rfl,hT,.refl _ _ _ _ _,k,rfl,.refl _ _⟩
 | scope c1=>
  simp only[dL]at hc;subst hc;simp only[ca]at hr;have jI:within fr.tmps.size c1=true:=jI;have j1:=fi _ _ _ _ hr;obtain⟨η',t',d',w',g1,g2,g3,g4,g5⟩:=j1 η w fr cs (.inScope c1::k) c1 ⟨rfl,jI⟩ hT hG hH hm hl;exact⟨η',t',d',w',g1,g2,g3,g4,one (acm hm) (.back (by intro id h;cases h) (λ_ _ _=>.one (ack hm)) g5)⟩
 | ret=>
  simp only[dL]at hc;subst hc;simp only[ca]at hr;injection hr with hr;subst hr;exact⟨η,fr.tmps,fr.defers,w,.refl hH,rfl,hT,.refl _ _ _ _ _,k,.refl _ _⟩
 | goto l=>simp only[dL]at hc;subst hc;cases hr
 | refuse s=>simp only[dL]at hc;subst hc;cases hr
end ops
end
section
section ops
variable {P:Program}{ty:Ty}{C:Nat->Option bP}{W:Nat->Code->AC->Prop}{ih:eh}{η η':Env}{T:Tr V}{H H':Hp}{n n':K}{w w':World}{v:V}{tmps:Array Value}{ds:List Deferred}{fr:Frame}{cs:List Frame}{k:List Item}
def D6(tmps:Array Value):ResultVar->Sem Value
 | .tmp t=>pure (tmps.getD t undef)
 | .cell a t=>do loadVar t (←asAddr (tmps.getD a undef))
theorem acu(aW:dO P ty)(hT:br η T tmps)(hH:bM W η H n w){rv:ResultVar}{ar:AR}(hc:GP ty rv=some ar){v:V}(h:result T H ar=some v):
 bA P (D6 tmps rv) w λy w'=>aC η v y/\w'=w:=by
 cases rv with
 | tmp t=>
  simp only[GP]at hc;injection hc with hc;subst hc;simp only[result]at h;obtain⟨y,h1,h2⟩:=hT t v h;refine an ⟨?_,rfl⟩;rw[xp,h1];exact h2
 | cell a t=>
  simp only[GP]at hc;split at hc
  case h_2=>cases hc
  rename_i i hi;injection hc with hc;subst hc;simp only[result]at h;split at h
  case h_2=>cases h
  rename_i p hp;obtain⟨y,h1,h2⟩:=hT a p hp;have hp:∃A,y=.pointer (some A):=by
   unfold vF at h;split at h
   ·cases h2;exact⟨_,rfl⟩
   ·cases h
  obtain⟨A,rfl⟩:=hp;show bA P (do loadVar t (←asAddr (tmps.getD a undef))) w _;rw[xp,h1];exact Δ (an (PQ (aW.ok _ _ hi) hH h2 h))
theorem acv(aW:dO P ty)(hT:br η T tmps)(hH:bM W η H n w){l:List ResultVar}{as:List AR}(hc:xM ty l=some as){vs:List V}(h:xG T H as=some vs):
 bA P (l.mapM (D6 tmps)) w λys w'=>bB η vs ys/\w'=w:=by
 induction l generalizing as vs with
 | nil=>
  simp only[xM]at hc;injection hc with hc;subst hc;simp only[xG]at h;injection h with h;subst h;exact an ⟨.nil,rfl⟩
 | cons r l ih=>
  simp only[xM]at hc;split at hc
  case h_2=>cases hc
  rename_i a FT h1 h2;injection hc with hc;subst hc;simp only[xG]at h;split at h
  case h_2=>cases h
  rename_i v DI h3 h4;injection h with h;subst h;rw[List.mapM_cons];refine Δ ((acu aW hT hH h1 h3).mono ?_);rintro y w' ⟨g1,rfl⟩;refine Δ ((ih h2 h4).mono ?_);rintro ys w' ⟨g2,rfl⟩;exact an ⟨.cons _ _ _ _ g1 g2,rfl⟩
theorem KZ(aW:dO P ty)(hT:br η T tmps)(hH:bM W η H n w){fn:Func}{as:List AR}(hc:xM ty fn.results.toList=some as){v:V}(h:rD as T H=some v):
 ∃y,(results fn tmps).run P w=.ok y w/\aC η v y:=by
 have key:∀vs,xG T H as=some vs->(∀ys,bB η vs ys->aC η v (if h:ys.toArray.size=1 then ys.toArray[0] else .tuple ys.toArray))->∃y,(results fn tmps).run P w=.ok y w/\aC η v y:=by
  intro vs FU kf;obtain⟨ys,w',h1,h2,rfl⟩:=acv aW hT hH hc FU;refine⟨_,?_,kf ys h2⟩;have e:results fn tmps=(do let vs←fn.results.mapM (D6 tmps);pure (if h:vs.size=1 then vs[0] else .tuple vs)):=rfl
  rw[e,Array.mapM_eq_mapM_toList];show(Sem.bind (Sem.bind (fn.results.toList.mapM (D6 tmps)) _) _).run P w'=_;rw[Sem.run_bind',Sem.run_bind',h1];rfl
 unfold rD at h;split at h
 ·rename_i u hu;injection h with h;subst h;refine key _ hu λys Oy=>?_;cases Oy with
  | cons _ y _ l a b=>cases b;simpa using a
 ·rename_i vs jn FU;injection h with h;subst h;refine key _ FU λys Oy=>?_;have hlen:=Oy.length;have:¬ ys.toArray.size=1:=by
   intro e;simp at e;rw[e]at hlen;cases vs with
   | nil=>cases hlen
   | cons a l=>cases l with
    | nil=>exact jn a rfl
    | cons=>simp at hlen
  rw[dif_neg this];exact .u _ _ Oy
 ·cases h
theorem K0:∀(vs:List V) (xs:List Value) (i m:Nat) (T T':Tr V),bB η vs xs->br η T tmps->(∀j x,xs[j]?=some x->tmps[i+j]?=some x)->binds ((List.range' i m).map cT) vs T=some T'->br η T' tmps:=by
 intro vs
 induction vs with
 | nil=>intro xs i m T T' hv hT hx h;cases hv;cases m<;>(simp only[List.range'_zero,List.range'_succ,ma,List.map_nil,binds]at h;injection h with h;subst h;exact hT)
 | cons v vs ih=>
  intro xs i m T T' hv hT hx h;cases hv with
  | cons _ x _ xs h1 h2=>
   cases m with
   | zero=>simp only[List.range'_zero,List.map_nil,binds]at h;cases h
   | succ m=>
    rw[List.range'_succ,ma]at h;simp only[binds]at h;refine ih xs (i+1) m _ T' h2 ?_ (λj y hj=>by have:=hx (j+1) y (by simpa using hj);rw[←this];congr 1;omega) h;intro t u hu;rw[Tr.gb]at hu;split at hu
    ·rename_i e;have:=GQ e;subst this;injection hu with hu;subst hu;exact⟨x,by have:=hx 0 x (by simp);simpa using this,h1⟩
    ·exact hT t u hu
theorem Rf{bs:List Nat}{b:Nat}{ds0:List Deferred}(hm:fr.mode≠.run)(h:w.heap[b]?=some (.deferred (some []))):
 step P (lone { fr with defers:={ target:=.collected b,args:=#[]}::ds0} cs w)=.next (lone { fr with defers:=ds0} cs { w with heap:=w.heap.setIfInBounds b (.deferred none)}):=by
 obtain⟨fn,nP,todo,defers,mode,kind,roundOf⟩:=fr;simp only at hm;refine iY ?_;have:(Instr.takeDeferred b).run P w=.ok [] { w with heap:=w.heap.setIfInBounds b (.deferred none)}:=by simp[Instr.takeDeferred,getObj,setObj,bind,Sem.bind,Sem.run,h,pure]
 cases mode with
 | run=>exact absurd rfl hm
 | _=>
  simp only[stepG,unwind,Sem.runT_eq,this,GStep.bare_after,List.nil_append];rfl
theorem returning(hm:fr.mode=.run)(hr:fr.roundOf=none):step P (lone (put fr tmps ds []) cs w)=.next (lone { put fr tmps ds [] with mode:=.returning} cs w):=by obtain⟨fn,nP,todo,defers,mode,kind,roundOf⟩:=fr;simp only at hm hr;subst hm;subst hr;exact iY (by simp[put,stepG,stepG.exec])
theorem He(hm:fr.mode=.run)(hr:fr.roundOf=none):step P (lone (put fr tmps ds (.code .ret::k)) cs w)=.next (lone { put fr tmps ds (.code .ret::k) with mode:=.returning} cs w):=by obtain⟨fn,nP,todo,defers,mode,kind,roundOf⟩:=fr;simp only at hm hr;subst hm;subst hr;exact iY (by simp[put,stepG,stepG.exec])
theorem bM.Rg(h:bM W η H n w){b:Nat}{d:Option (List Deferred)}(hb:w.heap[b]?=some (.deferred d))(m:Bool):¬ nt η H m b:=by
 rintro⟨q,o,L,h1,_,h2,rfl⟩;obtain⟨L',g1,g2,g3⟩:=h.obj q o h1;rw[h2]at g1;injection g1 with g1;subst g1;rw[hb]at g3;cases o with
 | lp _ _ _ _ _ _=>obtain⟨_,h1,_⟩:=g3;cases h1
 | c _ _ _=>obtain⟨_,_,h1,_⟩:=g3;cases h1
 | r _=>obtain⟨_,_,_,h1,_⟩:=g3;cases h1
 | mp _ _=>obtain⟨_,h1,_⟩:=g3;cases h1
 | mi _ _=>obtain⟨_,_,_,h1⟩:=g3;cases h1
 | me _ _ _=>obtain⟨_,_,_,_,_,h1,_⟩:=g3;cases h1
 | it _ _ _=>obtain⟨_,h1,_⟩:=g3;cases h1
 | b _ _ _=>obtain⟨_,_,_,h1,_⟩:=g3;cases h1
theorem Trans.deferred(h:Trans W η H n w η' H' n' w'){b:Nat}{d d':Option (List Deferred)}(hb:w'.heap[b]?=some (.deferred d))(hs:w.heap.size<=b):
 Trans W η H n w η' H' n' { w' with heap:=w'.heap.setIfInBounds b (.deferred d')} where
 ext:=h.ext
 le:=h.le
 rep:=
  {obj:=λq o hq=>by
    obtain⟨L,g1,g2,g3⟩:=h.rep.obj q o hq;refine⟨L,g1,by simpa using g2,?_⟩;show ic W η' o L (w'.heap.setIfInBounds b (.deferred d'))[L.blk]?;rw[gO,ai]
    ·exact g3
    ·intro e;exact h.rep.Rg hb false ⟨q,o,L,hq,(λh=>by cases h),g1,e.symm⟩
   sep:=h.rep.sep
   free:=h.rep.free}
 kept:=
  {os:=h.kept.os
   tape:=h.kept.tape
   output:=h.kept.output
   size:=by simpa using h.kept.size
   block:=λq hq hF=>by show(w'.heap.setIfInBounds b (.deferred d'))[q]?=_;rw[gO,ai (by omega)];exact h.kept.block q hq hF
   loops:=λq r hq=>by
    obtain⟨r',h1⟩:=h.kept.loops q r hq;refine⟨r',?_⟩;show(w'.heap.setIfInBounds b (.deferred d'))[q]?=_;rw[gO,ai]
    ·exact h1
    ·intro e;rw[e,h1]at hb;cases hb}
 lF:=h.lF
 ef:=h.ef
theorem Hg:∀(bs:List Nat) (w':World),fr.mode≠.run->Trans W η H n w η' H' n' w'->(∀b∈bs,w.heap.size<=b/\w'.heap[b]?=some (.deferred (some [])))->bs.Nodup->∃w2,Steps P (lone { fr with defers:=bs.map (λb=>{ target:=.collected b,args:=#[]})} cs w') (lone { fr with defers:=[]} cs w2)/\Trans W η H n w η' H' n' w2:=by
 intro bs
 induction bs with
 | nil=>intro w' hm ht _ _;exact⟨w',.refl _ _,ht⟩
 | cons b bs ih=>
  intro w' hm ht hb pr;obtain⟨h1,h2⟩:=hb b (by simp);have vH:=ht.deferred (d':=none) h2 h1;obtain⟨w2,s2,t2⟩:=ih _ hm vH (λq hq=>by
   obtain⟨g1,g2⟩:=hb q (by simp[hq]);refine⟨g1,?_⟩;have bC:b≠q:=λe=>by rw[e]at pr;exact(List.nodup_cons.1 pr).1 hq
   show(w'.heap.setIfInBounds b (.deferred none))[q]?=_;rw[gO,ai bC];exact g2) (List.nodup_cons.1 pr).2
  exact⟨w2,Steps.head (Rf (bs:=bs) hm h2) s2,t2⟩
theorem acw{c:Frame}{x:Value}{fn:Func}(hf:P.funcs[fr.fn]?=some fn)(hd:fr.defers=[])(hm:fr.mode=.panicking [{ v:=x,recovered:=false}]):
 step P (lone fr (c::cs) w)=.next (lone (c.raise [{ v:=x,recovered:=false}]) cs w):=by
 obtain⟨acx,nP,todo,defers,mode,kind,roundOf⟩:=fr;simp only at hf hd hm;subst hd;subst hm;refine iY ?_;have hc:Frame.catches P { fn:=acx,tmps:=nP,todo,defers:=[],mode:=.panicking [{ v:=x,recovered:=false}],kind,roundOf}=false:=by unfold Frame.catches;simp only[hf]
 simp only[stepG,unwind,hc];rfl
theorem acy(hC:Good P ty C)(fi:ml P ty ih){g:Nat}{a c l:List V}{af:AF}(hg:C g=some (.go af)){r:R}(hr:ca C ih (.call (.f g a c) l) H n=some r):mj P ty (.call (.f g a c) l) H n r:=by
 intro η w cf cs fv args vI jY hG hH;obtain⟨fn,oo,rJ,mH⟩:=hC.fn g af hg;simp only[ca,hg]at hr;split at hr
 case h_2=>cases hr
 rename_i T zS;unfold zJ at mH;split at mH
 case h_2=>cases mH
 rename_i body rs oS CQ;cases jI:within fn.ntmps body with
 | false=>rw[jI]at mH;cases mH
 | true=>
  rw[jI]at mH;simp only[cond_true]at mH;injection mH with mH;subst mH;simp only at hr zS;cases vI with
  | f _ _ _ a' c' ha tc=>
  have jb:bB η (a++(l++c)) (a'++(args++c')):=ha.append (jY.append tc);generalize jo:a'++(args++c')=xs at jb;let av:Array Value:=xs.toArray;let tm:Array Value:=av++Array.replicate (fn.ntmps - av.size) undef;have zV:fn.ntmps<=tm.size:=by simp only[tm,zy,Array.size_replicate];omega
  have hT:br η T tm:=by rw[xz]at zS;refine K0 (tmps:=tm) _ xs 0 _ .e T jb (λt v h=>by rw[Tr.iz]at h;cases h) (λj x hj=>?_) zS;have ψ:=(nL.1 hj).1;rw[hY];simp only[tm];rw[Array.getElem?_append_left (by simpa[av]using ψ)];simpa[av]using hj
  have K1:∀(N M:Nat),N<=M->∀c,within N c=true->within M c=true:=by
   intro N M hNM;have hd:∀l,iZ N l=true->iZ M l=true:=by
    intro l
    induction l with
    | nil=>intro _;rfl
    | cons o l ih=>
     intro h;simp only[iZ,bG]at h ⊢;refine⟨?_,ih h.2⟩;have h1:=h.1;split at h1
     ·rename_i d hd;rw[gf,bT]at h1 ⊢;omega
     ·rfl
   have hb:∀l,oG N l=true->oG M l=true:=by
    intro l
    induction l with
    | nil=>intro _;rfl
    | cons d l ih=>
     intro h;simp only[oG,bG]at h ⊢;refine⟨?_,ih h.2⟩;have h1:=h.1;rw[gf,bT]at h1 ⊢;omega
   intro c
   induction c with
   | region id ops dr=>exact hd _
   | seq a b jJ rh=>intro h;simp only[within,bG]at h ⊢;exact⟨jJ h.1,rh h.2⟩
   | cond x a b jJ rh=>intro h;simp only[within,bG]at h ⊢;exact⟨jJ h.1,rh h.2⟩
   | block id a jJ=>exact jJ
   | loop a jJ=>exact jJ
   | scope a jJ=>exact jJ
   | rangeFunc f ps a b jJ rh=>intro h;simp only[within,bG]at h ⊢;exact⟨⟨hb _ h.1.1,jJ h.1.2⟩,rh h.2⟩
   | _=>intro _;rfl
  let eu:Frame:={ fn:=g,tmps:=tm,todo:=[.code body],defers:=[],mode:=.run,kind:=.normal};have rK:Frame.enter P g av .normal=put eu eu.tmps eu.defers (.code body::[]):=by simp[Frame.enter,oo,oS,put,eu,tm]
  have pO:(do let d←Deferred.ofValue (.func (.func g) ⟨a'⟩ ⟨c'⟩) args.toArray;invoke d.target d.args:Sem Next).run P w=.ok (.enter g av) w:=by
   have YK:(⟨a'⟩:Array Value)++args.toArray++(⟨c'⟩:Array Value)=av:=by apply j9;simp[av,←jo]
   have:(do let d←Deferred.ofValue (.func (.func g) ⟨a'⟩ ⟨c'⟩) args.toArray;invoke d.target d.args:Sem Next)=callFunc g ((⟨a'⟩:Array Value)++args.toArray++(⟨c'⟩:Array Value)):=rfl;rw[this,YK];have K2:¬ fn.name = "runtime.NumGoroutine":=by simpa using rJ
   simp[callFunc,program,bind,Sem.bind,Sem.run,oo,K2,oS,pure]
  have run:∀r1,ih (.code (dL ty body) T) H n=some r1->∃(η':Env) (t':Array Value) (w':World) (bs:List Nat) (k1:List Item),Trans (WW ty) η H n w η' r1.H r1.n w'/\br η' r1.T t'/\bs.Nodup/\(∀b∈bs,w.heap.size<=b/\w'.heap[b]?=some (.deferred (some [])))/\jv P η' (lone (put eu eu.tmps eu.defers (.code body::[])) (cf::cs) w) eu (cf::cs) k1 r1.ex t' (bs.map (λb=>{ target:=.collected b,args:=#[]})) w'/\k1=[]:=by
   intro r1 h1;obtain⟨η',t',d',w',g1,g2,g3,⟨bs,FZ,CR,zW⟩,g5⟩:=fi _ _ _ _ h1 η w eu (cf::cs) [] body ⟨rfl,K1 _ _ zV _ jI⟩ hT hG hH rfl (by intro l h;cases h);have FZ:d'=bs.map (λb=>{ target:=.collected b,args:=#[]}):=by simpa[eu]using FZ
   subst FZ;exact⟨η',t',w',bs,[],g1,g3,CR,λb hb=>⟨(zW b hb).1,(zW b hb).2.1⟩,g5,rfl⟩
  split at hr
  ·cases hr
  ·rename_i u T1 v1 H1 n1 h1;injection hr with hr;subst hr;refine⟨(λh=>by cases h),λu' hu=>?_⟩;injection hu with hu;subst hu;obtain⟨η',t',w',bs,_,g1,g3,CR,zW,⟨k1,x,g6,g5⟩,rfl⟩:=run _ h1;obtain⟨w2,s2,t2⟩:=Hg (P:=P) (cs:=cf::cs) (fr:={ put eu t' [] k1 with mode:=.panicking [{ v:=x,recovered:=false}]}) bs w' (by intro h;cases h) g1 zW CR
   refine⟨η',x,w2,t2,g6,g,av,w,pO,?_⟩;rw[rK];exact Steps.trans g5 (Steps.trans s2 (.one (acw (fn:=fn) oo rfl rfl)))
  ·rename_i ex T1 v1 H1 n1 K3 K4 h1;split at hr
   case h_2=>cases hr
   rename_i v hv;injection hr with hr;subst hr;refine⟨λ_=>?_,λu h=>by cases h⟩;obtain⟨η',t',w',bs,_,g1,g3,CR,zW,g5,rfl⟩:=run _ h1;have leave:∃todo,Steps P (lone (put eu eu.tmps eu.defers (.code body::[])) (cf::cs) w) (lone { put eu t' (bs.map (λb=>{ target:=.collected b,args:=#[]})) todo with mode:=.returning} (cf::cs) w'):=by
    cases ex with
    | normal=>exact⟨_,Steps.trans g5 (.one (returning rfl rfl))⟩
    | ret=>obtain⟨k1,g5⟩:=g5;exact⟨_,Steps.trans g5 (.one (He rfl rfl))⟩
    | exit id=>exact(K3 id rfl).elim
    | panic u=>exact(K4 u rfl).elim
   obtain⟨todo,s1⟩:=leave;obtain⟨w2,s2,t2⟩:=Hg (P:=P) (cs:=cf::cs) (fr:={ put eu t' [] todo with mode:=.returning}) bs w' (by intro h;cases h) g1 zW CR;obtain⟨y,FV,K5⟩:=KZ hC.aW g3 t2.rep CQ hv;refine⟨η',y,w2,t2,K5,.enter g av,w,pO,?_⟩;show Steps P (lone (Frame.enter P g av .normal) (cf::cs) w) _;rw[rK];exact Steps.trans s1 (Steps.trans s2 (.one (step_leave_returned ⟨rfl,rfl,rfl,fn,oo,FV⟩)))
  ·cases hr
end ops
end
section
section ops
variable {P:Program}{ty:Ty}{C:Nat->Option bP}{W:Nat->Code->AC->Prop}{ih:eh}{η η':Env}{T:Tr V}{H H':Hp}{n n':K}{w w':World}{v:V}{tmps:Array Value}{ds:List Deferred}{fr:Frame}{cs:List Frame}{k:List Item}
theorem Hh(hH:bM W η H n w){q:K}{ready:Bool}{gQ:Ex}{T:Tr V}{ps:List K}{as body:AC}(h:H.get q=some (.lp ready gQ T ps as body)){L:Loc}(hL:η q=some L):
 ∃r,w.heap[L.blk]?=some (.loop r)/\(r.state=if ready then .ready else if gQ.jF then .busy else .done)/\r.pending=mO gQ/\br η T r.tmps/\ps=r.params.toList.map cT/\oG r.tmps.size r.params.toList=true/\W r.tmps.size r.assign as/\W r.tmps.size r.body body:=by
 obtain⟨L',h1,h2,r,h3⟩:=hH.obj q _ h;rw[hL]at h1;injection h1 with h1;subst h1;exact⟨r,h3⟩
theorem acA:∀(vs:List V) (xs:List Value) (ps:List Nat) (T T':Tr V) (tmps:Array Value),bB η vs xs->br η T tmps->oG tmps.size ps=true->ps.length=vs.length->binds (ps.map cT) vs T=some T'->br η T' ((ps.zip xs).foldl (λtmps (t,a)=>tmps.setIfInBounds t a) tmps)/\((ps.zip xs).foldl (λtmps (t,a)=>tmps.setIfInBounds t a) tmps).size=tmps.size:=by
 intro vs
 induction vs with
 | nil=>
  intro xs ps T T' tmps hv hT hb hlen h;cases hv;cases ps with
  | nil=>simp only[List.map_nil,binds]at h;injection h with h;subst h;exact⟨hT,rfl⟩
  | cons=>cases hlen
 | cons v vs ih=>
  intro xs ps T T' tmps hv hT hb hlen h;cases hv with
  | cons _ x _ xs h1 h2=>
   cases ps with
   | nil=>cases hlen
   | cons p ps=>
    simp only[ma,binds]at h;simp only[oG,bG,gf,bT]at hb;simp only[List.zip_cons_cons,List.foldl_cons];obtain⟨g1,g2⟩:=ih xs ps _ T' (tmps.setIfInBounds p x) h2 (hT.set hb.1 h1) (by simpa using hb.2) (by simpa using hlen) h;exact⟨g1,by rw[g2];simp⟩
theorem acB{l:Nat}{r:Go.Loop}{args:Array Value}(h:w.heap[l]?=some (.loop r))(eQ:args.size=r.params.size):
 (Instr.yield l args).run P w=.ok (.round l r.fn ((r.params.zip args).foldl (λtmps (t,a)=>tmps.setIfInBounds t a) r.tmps) r.assign r.body) w:=by
 simp[Instr.yield,Instr.getLoop,getObj,bind,Sem.bind,Sem.run,h,pure,eQ]
theorem acC{l:Nat}{r:Go.Loop}(hm:fr.mode=.run)(hr:fr.roundOf=some l)(h:w.heap[l]?=some (.loop r))(dP:r.state=.ready):
 step P (lone (put fr tmps ds (.beginRound::k)) cs w)=.next (lone (put fr tmps ds k) cs { w with heap:=w.heap.setIfInBounds l (.loop { r with state:=.busy})}):=by
 obtain⟨fn,nP,todo,defers,mode,kind,roundOf⟩:=fr;simp only at hm hr;subst hm;subst hr;have pO:(do Instr.beginRound l;pure Next.skip:Sem Next).run P w=.ok .skip { w with heap:=w.heap.setIfInBounds l (.loop { r with state:=.busy})}:=by simp[Instr.beginRound,Instr.getLoop,getObj,setObj,bind,Sem.bind,Sem.run,h,pure,dP]
 refine iY ?_;have:=KS (P:=P) (fr:={ fn,tmps,todo:=.beginRound::k,defers:=ds,mode:=.run,kind,roundOf:=some l}) (cs:=cs) pO;simpa[put,stepG,stepG.exec,Frame.finish]using this
theorem acD{l:Nat}{r:Go.Loop}(h:w.heap[l]?=some (.loop r))(j:Option Code):
 (Instr.endRound l j).run P w=.ok (.bool j.isNone) { w with heap:=w.heap.setIfInBounds l (.loop { r with state:=if j.isNone then .ready else .done,pending:=j})}:=by
 simp[Instr.endRound,Instr.getLoop,getObj,setObj,bind,Sem.bind,Sem.run,h,pure]
theorem acE{l:Nat}{r:Go.Loop}{c:Frame}(hm:fr.mode=.run)(hr:fr.roundOf=some l)(hk:fr.kind=.normal)(h:w.heap[l]?=some (.loop r))(ex:Ex)
 (ht:match ex with | .normal=>k=[] | .exit id=>∃k1,k=.code (.exit id)::k1/\exitTo id k1=none | .ret=>∃k1,k=.code .ret::k1 | .panic _=>False):
 step P (lone (put fr tmps ds k) (c::cs) w)=.next (lone (c.finish (.bool ex.jF)) cs { w with heap:=w.heap.setIfInBounds l (.loop { r with state:=if (mO ex).isNone then .ready else .done,pending:=mO ex})}):=by
 obtain⟨fn,nP,todo,defers,mode,kind,roundOf⟩:=fr;simp only at hm hr hk;subst hm;subst hr;subst hk;have he:=λj=>acD (P:=P) h j;refine iY ?_;cases ex with
 | normal=>
  simp only at ht;subst ht;have:=he none;simp[put,stepG,stepG.exec,this,doReturn,mO,Ex.jF]
 | exit id=>
  obtain⟨k1,rfl,hx⟩:=ht;have:=he (some (.exit id));simp[put,stepG,stepG.exec,hx,this,doReturn,mO,Ex.jF]
 | ret=>
  obtain⟨k1,rfl⟩:=ht;have:=he (some .ret);simp[put,stepG,stepG.exec,this,doReturn,mO,Ex.jF]
 | panic v=>exact ht.elim
end ops
end
section
section ops
variable {P:Program}{ty:Ty}{C:Nat->Option bP}{W:Nat->Code->AC->Prop}{ih:eh}{η η':Env}{T:Tr V}{H H':Hp}{n n':K}{w w':World}{v:V}{tmps:Array Value}{ds:List Deferred}{fr:Frame}{cs:List Frame}{k:List Item}
theorem acF(hC:Good P ty C)(fi:ml P ty ih){q:K}{l:List V}{r:R}(hr:ca C ih (.call (.y q) l) H n=some r):mj P ty (.call (.y q) l) H n r:=by
 intro η w cf cs fv args vI jY hG hH;simp only[ca]at hr;split at hr
 case h_2=>cases hr
 rename_i T ps as body hq;split at hr
 case h_2=>cases hr
 rename_i T' K6;cases hlen:Nat.beq ps.length l.length with
 | false=>rw[hlen]at hr;cases hr
 | true=>
  rw[hlen]at hr;simp only[cond_true]at hr;have hlen:=cZ hlen;split at hr
  case h_2=>cases hr
  rename_i T1 v1 H1 n1 h1;split at hr
  case h_2=>cases hr
  rename_i Tb psb asb Rh hq1;split at hr
  case h_2=>cases hr
  rename_i r2 h2;split at hr
  case h_2=>cases hr
  rename_i Tc psc asc Ri CO;cases tf:r2.ex.rE with
  | true=>rw[tf]at hr;cases hr
  | false=>
  rw[tf]at hr;simp only[cond_false]at hr;injection hr with hr;subst hr;refine⟨λ_=>?_,λu h=>by cases h⟩;cases vI with
  | y _ L hL=>
  obtain⟨lp,a1,a2,a3,a4,a5,a6,a7,a8⟩:=Hh hH hq hL;have eQ:args.length=lp.params.size:=by
   have e1:ps.length=lp.params.size:=by rw[a5];simp
   rw[←jY.length,←hlen,e1]
  obtain⟨b1,b2⟩:=acA l args lp.params.toList T T' lp.tmps jY a4 a6 (by rw[←jY.length]at eQ;simp;omega) (by rw[←a5];exact K6);let tm:Array Value:=(lp.params.toList.zip args).foldl (λtmps (t,a)=>tmps.setIfInBounds t a) lp.tmps;let eu:Frame:={ fn:=lp.fn,tmps:=tm,todo:=[],defers:=[],mode:=.run,kind:=.normal,roundOf:=some L.blk};have zV:((lp.params.zip args.toArray).foldl (λtmps (t,a)=>tmps.setIfInBounds t a) lp.tmps)=tm:=by rw[←Array.foldl_toList];simp only[tm];congr 1;simp
  have pO:(do let d←Deferred.ofValue (.func (.yield L.blk) #[] #[]) args.toArray;invoke d.target d.args:Sem Next).run P w=.ok (.round L.blk lp.fn tm lp.assign lp.body) w:=by have:(do let d←Deferred.ofValue (.func (.yield L.blk) #[] #[]) args.toArray;invoke d.target d.args:Sem Next)=Instr.yield L.blk ((#[]:Array Value)++args.toArray):=rfl;rw[this,Array.empty_append,acB a1 (by simpa using eQ),zV]
  have j1:=fi _ _ _ _ h1;have j2:=fi _ _ _ _ h2;obtain⟨η1,t1,d1,w1,g1,g2,g3,g4,g5⟩:=j1 η w eu (cf::cs) [.beginRound,.code lp.body] lp.assign (by show WW ty tm.size lp.assign as;rw[show tm.size=lp.tmps.size from b2];exact a7) b1 hG hH rfl
   (λl hl=>by injection hl with hl;subst hl;exact⟨lp,a1⟩)
  have sh:η1 q=some L:=g1.ext _ _ hL;obtain⟨F0,c1,c2,c3,c4,c5,c6,c7,c8⟩:=Hh g1.rep hq1 sh;have tb:Trans (WW ty) η1 H1 n1 w1 η1 (H1.put (some (.lp false .normal Tb psb asb Rh)) q) n1 { w1 with heap:=w1.heap.setIfInBounds L.blk (.loop { F0 with state:=.busy})}:=
   Trans.write (o':=.lp false .normal Tb psb asb Rh) (ob:=.loop { F0 with state:=.busy}) g1.rep hq1 rfl sh ⟨{ F0 with state:=.busy},rfl,rfl,c3,c4,c5,c6,c7,c8⟩ rfl
  have s1:=acC (P:=P) (fr:=eu) (tmps:=t1) (ds:=d1) (k:=[.code lp.body]) (cs:=cf::cs) U U c1 (by simpa using c2);obtain⟨η2,t2,d2,w2,q1,q2,q3,q4,q5⟩:=j2 η1 _ (put eu t1 d1 []) (cf::cs) [] lp.body (by show WW ty t1.size lp.body body;rw[g2,show eu.tmps.size=lp.tmps.size from b2];exact a8) g3 (hG.mono g1.ext) tb.rep U
   (λl hl=>by injection hl with hl;subst hl;refine⟨{ F0 with state:=.busy},?_⟩;show(w1.heap.setIfInBounds L.blk _)[L.blk]?=_;have ψ:=(oC.1 c1).1;simp[gO,ψ])
  have vW:η2 q=some L:=q1.ext _ _ sh;obtain⟨D7,e1,e2,e3,e4,e5,e6,e7,e8⟩:=Hh q1.rep CO vW;have acL:(if (mO r2.ex).isNone then LoopState.ready else LoopState.done)=(if r2.ex.jF then LoopState.ready else if r2.ex.jF then .busy else .done):=by generalize r2.ex=ex at tf;cases ex<;>first | rfl | cases tf
  have te:Trans (WW ty) η2 r2.H r2.n w2 η2 (r2.H.put (some (.lp r2.ex.jF r2.ex Tc psc asc Ri)) q) r2.n
   {w2 with heap:=w2.heap.setIfInBounds L.blk (.loop { D7 with state:=if (mO r2.ex).isNone then .ready else .done,pending:=mO r2.ex})}:=
   Trans.write (o':=.lp r2.ex.jF r2.ex Tc psc asc Ri) (ob:=.loop { D7 with state:=if (mO r2.ex).isNone then .ready else .done,pending:=mO r2.ex}) q1.rep CO rfl vW ⟨{ D7 with state:=if (mO r2.ex).isNone then .ready else .done,pending:=mO r2.ex},rfl,acL,rfl,e4,e5,e6,e7,e8⟩ rfl
  refine⟨η2,.bool r2.ex.jF,_,((g1.trans tb).trans q1).trans te,.b _,_,w,pO,?_⟩;have acM:Frame.round L.blk lp.fn tm lp.assign lp.body .normal=put eu eu.tmps eu.defers (.code lp.assign::[.beginRound,.code lp.body]):=rfl;show Steps P (lone (Frame.round L.blk lp.fn tm lp.assign lp.body .normal) (cf::cs) w) _;rw[acM];refine Steps.trans g5 (Steps.head s1 ?_);have q5:jv P η2 (lone (put eu t1 d1 (.code lp.body::[])) (cf::cs) { w1 with heap:=w1.heap.setIfInBounds L.blk (.loop { F0 with state:=.busy})}) eu (cf::cs) [] r2.ex t2 d2 w2:=q5;have fin:∀(kk:List Item),(match r2.ex with | .normal=>kk=[] | .exit id=>∃k1,kk=.code (.exit id)::k1/\exitTo id k1=none | .ret=>∃k1,kk=.code .ret::k1 | .panic _=>False)->Steps P (lone (put eu t1 d1 (.code lp.body::[])) (cf::cs) { w1 with heap:=w1.heap.setIfInBounds L.blk (.loop { F0 with state:=.busy})}) (lone (put eu t2 d2 kk) (cf::cs) w2)->Steps P (lone (put eu t1 d1 (.code lp.body::[])) (cf::cs) { w1 with heap:=w1.heap.setIfInBounds L.blk (.loop { F0 with state:=.busy})})
   (lone (cf.finish (.bool r2.ex.jF)) cs { w2 with heap:=w2.heap.setIfInBounds L.blk (.loop { D7 with state:=if (mO r2.ex).isNone then .ready else .done,pending:=mO r2.ex})}):=
   λkk hk hs=>Steps.trans hs (.one (acE (fr:=eu) U U U e1 r2.ex hk))
  generalize hex:r2.ex=ex at q5 fin tf ⊢;cases ex with
  | normal=>exact fin [] rfl q5
  | exit id=>obtain⟨k1,x1,x2⟩:=q5;exact fin _ ⟨k1,rfl,x1⟩ x2
  | ret=>obtain⟨k1,x2⟩:=q5;exact fin _ ⟨k1,rfl⟩ x2
  | panic v=>cases tf
end ops
end
section
section ops
variable {P:Program}{ty:Ty}{C:Nat->Option bP}{W:Nat->Code->AC->Prop}{ih:eh}{η η':Env}{T:Tr V}{H H':Hp}{n n':K}{w w':World}{v:V}{tmps:Array Value}{ds:List Deferred}{fr:Frame}{cs:List Frame}{k:List Item}
theorem Trans.push(h:bM W η H n w)(ob:Obj):Trans W η H n w η H n { w with heap:=w.heap.push ob} where
 ext:=.refl _
 le:=Γ _
 rep:=
  {obj:=λq o hq=>by
    obtain⟨L,g1,g2,g3⟩:=h.obj q o hq;refine⟨L,g1,by simp;omega,?_⟩;show ic W η o L (w.heap.push ob)[L.blk]?;rw[Br,ai (by omega)];exact g3
   sep:=h.sep
   free:=h.free}
 kept:=
  {os:=rfl
   tape:=rfl
   output:=rfl
   size:=by simp
   block:=λb hb _=>by show(w.heap.push ob)[b]?=_;rw[Br,ai (by omega)]
   loops:=λb r hb=>⟨r,by
    have ψ:=(oC.1 hb).1;show(w.heap.push ob)[b]?=_;rw[Br,ai (by omega)];exact hb⟩}
 lF:=λ_ _ h=>.inl h
 ef:=λ_ _=>rfl
theorem Trans.drop(h:bM W η H n w){q:K}{o:O}{L:Loc}(hq:H.get q=some o)(hm:o.mut=true)(hL:η q=some L)(lp:Go.Loop):
 Trans W η H n w η (H.put none q) n { w with heap:=w.heap.setIfInBounds L.blk (.loop lp)}:=by
 obtain⟨L0,og,ψ,_⟩:=h.obj q o hq;rw[hL]at og;injection og with og;subst og;have get:∀q' o',(H.put none q).get q'=some o'->q'≠q/\H.get q'=some o':=λq' o' hJ=>by
  rw[Tr.gb]at hJ;split at hJ
  ·cases hJ
  ·rename_i e;exact⟨e,hJ⟩
 refine⟨.refl _,Γ _,⟨λq' o' hJ=>?_,λa b o1 o2 L1 L2 bC h1 tY h2=>h.sep a b o1 o2 L1 L2 bC (get _ _ h1).2 tY (get _ _ h2).2,h.free⟩,⟨rfl,rfl,rfl,by simp,λb hb hF=>?_,λb r hb=>?_⟩,λm b ⟨q',o',L',h1,h2,h3,h4⟩=>.inl ⟨q',o',L',(get _ _ h1).2,h2,h3,h4⟩,λ_ _=>rfl⟩
 ·obtain⟨e,h1⟩:=get _ _ hJ;obtain⟨L',g1,g2,g3⟩:=h.obj q' o' h1;refine⟨L',g1,by simpa using g2,?_⟩;show ic W η o' L' (w.heap.setIfInBounds L.blk (.loop lp))[L'.blk]?;rw[gO,ai (h.sep q q' o o' L L' (λe'=>e e'.symm) hq hm h1 hL g1)];exact g3
 ·show(w.heap.setIfInBounds L.blk (.loop lp))[b]?=_;rw[gO,ai];intro e;exact hF ⟨q,o,L,hq,λ_=>hm,hL,e⟩
 ·show ∃r',(w.heap.setIfInBounds L.blk (.loop lp))[b]?=_;rw[gO];by_cases e:L.blk=b
  ·rw[az e,az ψ];exact⟨lp,rfl⟩
  ·rw[ai e];exact⟨r,hb⟩
theorem acN{eu:Frame}{w0:World}{s:Sem Next}{x:Value}
 (dP:(stepG P true { frame:=eu,callers:=cs,status:=.running,dying:=none} w0).bare=(stepG.apply P true fr cs none s w).bare)
 (hk:∀d r sv k,fr.todo≠.call d true r sv::k)(h:BO P s fr cs w x w'):Steps P (lone eu cs w0) (lone (fr.finish x) cs w'):=by
 obtain⟨nx,w1,hr,hn⟩:=h;have zT:(match fr.todo with | .call _ true _ _::_=>CallKind.wrapped | _=>.normal)=.normal:=by
  split
  ·rename_i h;exact absurd h (hk _ _ _ _)
  ·rfl
 cases nx<;>try exact hn.elim
 case value y=>
  obtain⟨rfl,rfl⟩:=hn;exact .one (iY (by rw[dP];exact Q5 hr))
 case skip=>
  obtain⟨rfl,rfl⟩:=hn;exact .one (iY (by rw[dP];exact KS hr))
 case enter g a=>
  refine .head (iY ?_) hn;rw[dP];simp only[stepG.apply,Sem.runT_eq,hr,GStep.bare_after,zT];rfl
 case round l g t a b=>
  refine .head (iY ?_) hn;rw[dP];simp only[stepG.apply,Sem.runT_eq,hr,GStep.bare_after,zT];rfl
theorem acO(h:kO fr w)(ps:Array Nat)(as body:Code):∃mark w1 lp,(Instr.enterLoop fr.fn tmps ps as body fr.roundOf).run P w=.ok (w1.heap.size,mark) { w1 with heap:=w1.heap.push (.loop lp)}/\lp.state=.ready/\lp.pending=none/\lp.tmps=tmps/\lp.params=ps/\lp.assign=as/\lp.body=body/\((mark=[]/\w1=w)\/(mark=[{ target:=.collected w.heap.size,args:=#[]}]/\w1={ w with heap:=w.heap.push (.deferred (some []))})):=by
 cases hr:fr.roundOf with
 | none=>
  refine⟨[{ target:=.collected w.heap.size,args:=#[]}],{ w with heap:=w.heap.push (.deferred (some []))},{ state:=.ready,pending:=none,fn:=fr.fn,tmps:=tmps,params:=ps,assign:=as,body:=body,defers:=w.heap.size},?_,rfl,rfl,rfl,rfl,rfl,rfl,.inr ⟨rfl,rfl⟩⟩;simp only[Instr.enterLoop,newObj,bind,Sem.bind,Sem.run,pure]
 | some l=>
  obtain⟨q,hq⟩:=h l hr;refine⟨[],w,{ state:=.ready,pending:=none,fn:=fr.fn,tmps:=tmps,params:=ps,assign:=as,body:=body,defers:=q.defers},?_,rfl,rfl,rfl,rfl,rfl,rfl,.inl ⟨rfl,rfl⟩⟩;simp only[Instr.enterLoop,Instr.getLoop,getObj,newObj,bind,Sem.bind,Sem.run,pure,hq]
theorem acP{l:Nat}{lp:Go.Loop}(hm:fr.mode=.run)(h:w.heap[l]?=some (.loop lp))(dP:lp.state≠.busy):
 step P (lone (put fr tmps ds (.endRangeFunc l::k)) cs w)=.next (lone (put fr tmps ds ((lp.pending.map Item.code).toList++k)) cs { w with heap:=w.heap.setIfInBounds l (.loop { lp with state:=.exhausted})}):=by
 obtain⟨fn,nP,todo,defers,mode,kind,roundOf⟩:=fr;simp only at hm;subst hm;have hb:(lp.state==LoopState.busy)=false:=by cases hs:lp.state<;>first | rfl | exact absurd hs dP
 have pO:(Instr.endLoop l).run P w=.ok lp.pending { w with heap:=w.heap.setIfInBounds l (.loop { lp with state:=.exhausted})}:=by simp[Instr.endLoop,Instr.getLoop,getObj,setObj,bind,Sem.bind,Sem.run,h,pure];intro h;exact absurd h dP
 refine iY ?_;simp[put,stepG,stepG.exec,pO]
theorem acQ(hC:Good P ty C)(fi:ml P ty ih){f:Operand}{ps:Array Nat}{as body:Code}{f':aJ}{r:R}(hf:cr ty f=some f')(hr:ca C ih (.code (.mf f' (ps.toList.map cT) (dL ty as) (dL ty body)) T) H n=some r)
 (η:Env)(w:World)(fr:Frame)(cs:List Frame)(k:List Item)(jI:within fr.tmps.size (.rangeFunc f ps as body)=true)(hT:br η T fr.tmps)(hG:cM η ty.g)(hH:bM (WW ty) η H n w)(hm:fr.mode=.run)(hl:kO fr w):
  ∃η' tmps ds w',Trans (WW ty) η H n w η' r.H r.n w'/\tmps.size=fr.tmps.size/\br η' r.T tmps/\Marks w.heap.size η' r.H w' ds fr.defers/\jv P η' (lone (put fr fr.tmps fr.defers (.code (.rangeFunc f ps as body)::k)) cs w) fr cs k r.ex tmps ds w':=by
 simp only[within,bG]at jI;simp only[ca]at hr;split at hr
 case h_2=>cases hr
 rename_i fv vI;split at hr
 case h_2=>cases hr
 rename_i T1 v1 H1 n1 h1;have hrf:=cS hT hG hf vI;obtain⟨mark,w1,lp,rK,e1,e2,e3,e4,e5,e6,om⟩:=acO (P:=P) (tmps:=fr.tmps) hl ps as body;have t0:Trans (WW ty) η H n w η H n w1:=by
  rcases om with ⟨_,rfl⟩ | ⟨_,rfl⟩
  ·exact .refl hH
  ·exact Trans.push hH _
 obtain⟨η1,t1,dZ⟩:=Trans.new (W:=WW ty) (room:=0) (o:=.lp true .normal T (ps.toList.map cT) (dL ty as) (dL ty body)) (ob:=.loop lp) t0.rep (λη' hle=>
  ⟨lp,rfl,by rw[e1];rfl,e2,by rw[e3];exact hT.mono hle,by rw[e4],by rw[e3,e4];exact jI.1.1,by rw[e3,e5];exact⟨rfl,jI.1.2⟩,by rw[e3,e6];exact⟨rfl,jI.2⟩⟩)
 have Oz:=t0.trans t1;have j1:=fi _ _ _ _ h1;let K7:Frame:={ put fr fr.tmps (mark++fr.defers) (.inRangeFunc w1.heap.size::k) with mode:=.run};have Rj:K7=put fr fr.tmps (mark++fr.defers) (.inRangeFunc w1.heap.size::k):=by show({ put fr fr.tmps (mark++fr.defers) (.inRangeFunc w1.heap.size::k) with mode:=.run}:Frame)=_;rw[←hm];rfl
 obtain⟨η2,v',w2,q1,q2,q3⟩:=(j1 η1 _ K7 cs (ax fr.tmps f) [.func (.yield w1.heap.size) #[] #[]] (hrf.mono Oz.ext) (.cons _ _ _ _ (aC.y n _ dZ) .nil) (hG.mono Oz.ext) t1.rep).1 rfl;have s1:Steps P (lone (put fr fr.tmps fr.defers (.code (.rangeFunc f ps as body)::k)) cs w) (lone (K7.finish v') cs w2):=by
  refine acN ?_ (by intro _ _ _ _ h;cases h) q3;have A4:K7.eval f=ax fr.tmps f:=by rw[Rj,eval_put]
  obtain⟨fn,nP,todo,defers,mode,kind,roundOf⟩:=fr;simp only at hm;subst hm;have zX:∀Ov:Frame,resolve Ov.eval { callee:=.value f,args:=#[.const (.func (.yield w1.heap.size) #[] #[])],argTypes:=#[]} 0=Deferred.ofValue (Ov.eval f) [.func (.yield w1.heap.size) #[] #[]].toArray:=by intro Ov;simp[resolve,Frame.eval]
  simp only[put,stepG,stepG.exec,Sem.runT_eq,rK,GStep.bare_after,zX];rw[eval_eq];rfl
 have kf:K7.finish v'=put fr fr.tmps (mark++fr.defers) (.endRangeFunc w1.heap.size::k):=by rw[Rj];rfl
 rw[kf]at s1;have vW:η2 n=some ⟨w1.heap.size,0,0⟩:=q1.ext _ _ dZ;have fin:∀(rd:Bool) (gQ:Ex) (T':Tr V) (OA:List K) (FT BD:AC),H1.get n=some (.lp rd gQ T' OA FT BD)->(rd=true\/gQ.jF=false)->gQ.rE=false->r=⟨gQ,T,.q,H1.put none n,n1⟩->∃η' tmps ds w',Trans (WW ty) η H n w η' r.H r.n w'/\tmps.size=fr.tmps.size/\br η' r.T tmps/\Marks w.heap.size η' r.H w' ds fr.defers/\jv P η' (lone (put fr fr.tmps fr.defers (.code (.rangeFunc f ps as body)::k)) cs w) fr cs k r.ex tmps ds w':=by
  rintro rd gQ T' OA FT BD hg K8 tf rfl;obtain⟨D7,a1,a2,a3,_⟩:=Hh q1.rep hg vW;have hnb:D7.state≠.busy:=by
   rw[a2];rcases K8 with rfl | hp
   ·simp
   ·cases rd
    ·rw[hp];simp
    ·simp
  have s2:=acP (P:=P) (fr:=fr) (tmps:=fr.tmps) (ds:=mark++fr.defers) (k:=k) (cs:=cs) hm a1 hnb;have td:=Trans.drop q1.rep hg rfl vW { D7 with state:=.exhausted};refine⟨η2,fr.tmps,mark++fr.defers,_,((Oz.trans q1).trans td),rfl,(hT.mono (Oz.trans q1).ext),?_,?_⟩
  ·rcases om with ⟨rfl,rfl⟩ | ⟨rfl,rfl⟩
   ·exact .refl _ _ _ _ _
   ·have m0:Marks w.heap.size η H { w with heap:=w.heap.push (.deferred (some []))} ([{ target:=.collected w.heap.size,args:=#[]}]++fr.defers) fr.defers:=by
     refine⟨[w.heap.size],rfl,by simp,λb hb=>?_⟩;have:b=w.heap.size:=by simpa using hb
     subst this;have fM:({ w with heap:=w.heap.push (.deferred (some []))}:World).heap[w.heap.size]?=some (.deferred (some [])):=by simp
     exact⟨Γ _,fM,t0.rep.Rg fM true⟩
    exact m0.trans (t1.trans (q1.trans td))
  ·have s3:Steps P (lone (put fr fr.tmps fr.defers (.code (.rangeFunc f ps as body)::k)) cs w) (lone (put fr fr.tmps (mark++fr.defers) (((mO gQ).map Item.code).toList++k)) cs
    {w2 with heap:=w2.heap.setIfInBounds w1.heap.size (.loop { D7 with state:=.exhausted})}):=by
    rw[←a3];exact Steps.trans s1 (.one s2)
   cases gQ with
   | normal=>exact s3
   | exit id=>exact⟨k,rfl,s3⟩
   | ret=>exact⟨k,s3⟩
   | panic v=>cases tf
 split at hr
 ·rename_i gQ T' OA FT BD hg;cases tf:gQ.rE with
  | true=>rw[tf]at hr;cases hr
  | false=>
   rw[tf]at hr;injection hr with hr;exact fin _ _ _ _ _ _ hg (.inl U) tf hr.symm
 ·rename_i gQ T' OA FT BD hg;cases tf:gQ.rE with
  | true=>rw[tf]at hr;cases hr
  | false=>
  cases hp:gQ.jF with
  | true=>rw[tf,hp]at hr;cases hr
  | false=>
   rw[tf,hp]at hr;injection hr with hr;exact fin _ _ _ _ _ _ hg (.inr hp) tf hr.symm
 ·cases hr
end ops
end
section
section
variable {T T':Tr V}{H:Hp}{n:K}
theorem Hi{l:List aJ}(h:∀x∈l,aI T x=aI T' x):fP T l=fP T' l:=by
 induction l with
 | nil=>rfl
 | cons x l ih=>simp only[fP,h x (by simp),ih (λy hy=>h y (by simp[hy]))]
theorem Rk{ps:List (Nat×Nat×aJ)}(h:∀x∈ps.map (·.2.2),aI T x=aI T' x)(zs:List V):rC T zs ps=rC T' zs ps:=by
 induction ps generalizing zs with
 | nil=>rfl
 | cons p ps ih=>
  obtain⟨o,s,x⟩:=p;simp only[rC,h x (by simp)];have j5:=ih (λy hy=>h y (by simp at hy ⊢;exact .inr hy));simp only[j5]
theorem K9{o:Option aJ}(h:∀x∈o.toList,aI T x=aI T' x)(d:Nat):dA T d o=dA T' d o:=by
 cases o with
 | none=>rfl
 | some x=>simp only[dA,h x (by simp)]
theorem acR{k:Yv}{v:V}{lo hi mx:Option aJ}(h:∀x∈lo.toList++(hi.toList++mx.toList),aI T x=aI T' x):nq k T v lo hi mx=nq k T' v lo hi mx:=by
 have h1:=λd=>K9 (o:=lo) (d:=d) λx hx=>h x (by simp at hx ⊢;exact .inl hx);have h2:=λd=>K9 (o:=hi) (d:=d) λx hx=>h x (by simp at hx ⊢;exact .inr (.inl hx));have h3:=λd=>K9 (o:=mx) (d:=d) λx hx=>h x (by simp at hx ⊢;exact .inr (.inr hx));unfold nq;simp only[h1,h2];cases mx with
 | none=>rfl
 | some y=>simp only[h3]
theorem acS{op:A}(h:∀x∈op.fj,aI T x=aI T' x):simple op T H n=simple op T' H n:=by
 cases op with
 | bld zs ps=>simp only[simple,Rk h]
 | bsl e zs len ps=>simp only[simple,Rk h]
 | mfn f a c=>
  have h1:=Hi (l:=a) λx hx=>h x (by simp only[A.fj,kc];exact .inl hx);have h2:=Hi (l:=c) λx hx=>h x (by simp only[A.fj,kc];exact .inr hx);simp only[simple,h1,h2]
 | sli k x lo hi mx=>
  have h1:=h x (by simp[A.fj]);have h2:=λv=>acR (k:=k) (v:=v) (lo:=lo) (hi:=hi) (mx:=mx) λy hy=>h y (by simp only[A.fj,fY];exact .inr hy);simp only[simple,h1,h2]
 | mm mx l=>
  have h1:=Hi (l:=l) h;simp only[simple,h1]
 | pick c a b=>
  have h1:=h c (by simp[A.fj]);have h2:=h a (by simp[A.fj]);have h3:=h b (by simp[A.fj]);simp only[simple,h1];cases aI T' c with
  | none=>rfl
  | some v=>
   cases v<;>try rfl
   rename_i x;cases x
   ·exact congrArg (eg H n) h3
   ·exact congrArg (eg H n) h2
 | hU f l=>rfl
 | new e zs=>rfl
 | Bw e x y=>rfl
 | zC u a x=>simp only[simple,h a (by simp[A.fj]),h x (by simp[A.fj])]
 | mmap=>rfl
 | bad=>rfl
 | cap arr x=>cases arr with
  | none=>simp only[simple,h x (by simp[A.fj])]
  | some m=>rfl
 | Jh q a b c=>simp only[simple,h a (by simp[A.fj]),h b (by simp[A.fj]),h c (by simp[A.fj])]
 | st sz a x=>simp only[simple,h a (by simp[A.fj]),h x (by simp[A.fj])]
 | bin o k a x=>simp only[simple,h a (by simp[A.fj]),h x (by simp[A.fj])]
 | iad r z a x=>simp only[simple,h a (by simp[A.fj]),h x (by simp[A.fj])]
 | idx r a x=>simp only[simple,h a (by simp[A.fj]),h x (by simp[A.fj])]
 | lkp q z ok a x=>simp only[simple,h a (by simp[A.fj]),h x (by simp[A.fj])]
 | app e z b zl zs a x=>simp only[simple,h a (by simp[A.fj]),h x (by simp[A.fj])]
 | zD z a x=>simp only[simple,h a (by simp[A.fj]),h x (by simp[A.fj])]
 | del q a x=>simp only[simple,h a (by simp[A.fj]),h x (by simp[A.fj])]
 | msl e z b zl a x=>simp only[simple,h a (by simp[A.fj]),h x (by simp[A.fj])]
 | _=>simp only[simple,h _ (by simp only[A.fj,mN];rfl)]
end
end
section
def cY(η:Env)(n:K):Env:=λk=>if k.num<n.num then η k else none
section
variable {W:Nat->Code->AC->Prop}{η η1:Env}{H Hs uh Hn:Hp}{n n':K}{w w1:World}
theorem zY(η:Env)(n:K):(cY η n).le η:=λk L h=>by
 unfold cY at h;split at h
 ·exact h
 ·cases h
theorem acT(η:Env){n m:K}(h:n.num<=m.num):(cY η n).le (cY η m):=λk L hk=>by
 unfold cY at hk ⊢;split at hk
 ·rw[az (by omega)];exact hk
 ·cases hk
structure Hj(W:Nat->Code->AC->Prop)(η:Env)(H:Hp)(w:World):Prop where
 obj:∀k o,H.get k=some o->∃L,η k=some L/\L.blk<w.heap.size/\ic W η o L w.heap[L.blk]?
 sep:∀k k' o o' L L',k≠k'->H.get k=some o->o.mut=true->H.get k'=some o'->η k=some L->η k'=some L'->L.blk≠L'.blk
def merge(η η1:Env)(n n':K):Env:=λk=>if n.num<=k.num/\k.num<n'.num then η1 k else η k
theorem merge_le(hf:∀k,n.num<=k.num->k.num<n'.num->η k=none):η.le (merge η η1 n n'):=λk L h=>by
 unfold merge;split
 ·rename_i hk;rw[hf k hk.1 hk.2]at h;cases h
 ·exact h
theorem Rl(ht:Trans W (cY η n) Hs n w η1 uh n' w1):cY (merge η η1 n n') n'=η1:=by
 funext k;unfold cY merge;by_cases h1:k.num<n'.num
 ·rw[az h1];by_cases h2:n.num<=k.num
  ·rw[az ⟨h2,h1⟩]
  ·rw[ai (λh=>h2 h.1)];rw[ht.ef k (by omega)];unfold cY;rw[az (by omega)]
 ·rw[ai h1,ht.rep.free k (by omega)]
theorem outside(hS:Hj W η H w)(kg:∀k o,Hs.get k=some o->H.get k=some o)(ht:Trans W (cY η n) Hs n w η1 uh n' w1)
 {k:K}{o:O}{L:Loc}(hk:H.get k=some o)(hn:Hs.get k=none)(hL:η k=some L):w1.heap[L.blk]?=w.heap[L.blk]?:=by
 obtain⟨L',h1,h2,_⟩:=hS.obj k o hk;rw[hL]at h1;injection h1 with h1;subst h1;refine ht.kept.block _ h2 ?_;rintro⟨q,o',M,g1,g2,g3,g4⟩;have bC:q≠k:=λe=>by rw[e,hn]at g1;cases g1
 exact hS.sep q k o' o M L bC (kg _ _ g1) (g2 rfl) hk (zY _ _ _ _ g3) hL g4
theorem acU(hS:Hj W η H w)(kg:∀k o,Hs.get k=some o->H.get k=some o)(hf:∀k,n.num<=k.num->k.num<n'.num->η k=none)
 (ht:Trans W (cY η n) Hs n w η1 uh n' w1)(F1:∀k o,Hn.get k=some o->(H.get k=some o/\Hs.get k=none)\/uh.get k=some o):
 Hj W (merge η η1 n n') Hn w1/\Kept (nt η H true) w w1/\(∀m b,nt (merge η η1 n n') Hn m b->nt η H m b\/w.heap.size<=b):=by
 have hle:=merge_le (η1:=η1) hf;have D8:η1.le (merge η η1 n n'):=by have h:=zY (merge η η1 n n') n';rw[Rl ht]at h;exact h
 have inner:∀k o L,uh.get k=some o->merge η η1 n n' k=some L->η1 k=some L:=by intro k o L hk hL;obtain⟨L',g1,_⟩:=ht.rep.obj k o hk;have:=D8 _ _ g1;rw[hL]at this;injection this with this;rw[this];exact g1
 have outer:∀k o L,H.get k=some o->merge η η1 n n' k=some L->η k=some L:=by intro k o L hk hL;obtain⟨L',g1,_⟩:=hS.obj k o hk;have:=hle _ _ g1;rw[hL]at this;injection this with this;rw[this];exact g1
 have blk:∀m b,nt η1 uh m b->(∃k o L,Hs.get k=some o/\(m=true->o.mut=true)/\η k=some L/\L.blk=b)\/w.heap.size<=b:=by
  intro m b hb;rcases ht.lF m b hb with ⟨k,o,L,g1,g2,g3,g4⟩ | h
  ·exact .inl ⟨k,o,L,g1,g2,zY _ _ _ _ g3,g4⟩
  ·exact .inr h
 have apart:∀{k k' o o' L L'},H.get k=some o->Hs.get k=none->η k=some L->uh.get k'=some o'->η1 k'=some L'->(o.mut=true\/o'.mut=true)->L.blk≠L'.blk:=by
  intro k k' o o' L L' hk hn hL gD jm hm e;obtain⟨M,h1,h2,_⟩:=hS.obj k o hk;rw[hL]at h1;injection h1 with h1;subst h1;have key:∀m:Bool,(m=true->o'.mut=true)->∃q p M,Hs.get q=some p/\(m=true->p.mut=true)/\η q=some M/\M.blk=L'.blk:=by
   intro m Kx;rcases blk m L'.blk ⟨k',o',L',gD,Kx,jm,rfl⟩ with h | h
   ·exact h
   ·omega
  rcases hm with hm | hm
  ·obtain⟨q,p,M,g1,_,g3,g4⟩:=key false (λh=>by cases h);have bC:k≠q:=λe=>by rw[e,g1]at hn;cases hn
   exact hS.sep k q o p L M bC hk hm (kg _ _ g1) hL g3 (by omega)
  ·obtain⟨q,p,M,g1,g2,g3,g4⟩:=key true (λ_=>hm);have bC:q≠k:=λe=>by rw[e,hn]at g1;cases g1
   exact hS.sep q k p o M L bC (kg _ _ g1) (g2 rfl) hk g3 hL (by omega)
 refine⟨⟨λk o hk=>?_,λk k' o o' L L' bC hk hm gD hL jm=>?_⟩,⟨ht.kept.os,ht.kept.tape,ht.kept.output,ht.kept.size,λb hb hF=>?_,ht.kept.loops⟩,λm b hb=>?_⟩
 ·rcases F1 k o hk with ⟨h1,h2⟩ | h1
  ·obtain⟨L,g1,g2,g3⟩:=hS.obj k o h1;refine⟨L,hle _ _ g1,fN g2 ht.kept.size,?_⟩;rw[outside hS kg ht h1 h2 g1];exact g3.mono hle
  ·obtain⟨L,g1,g2,g3⟩:=ht.rep.obj k o h1;exact⟨L,D8 _ _ g1,g2,g3.mono D8⟩
 ·rcases F1 k o hk with ⟨h1,h2⟩ | h1
  ·rcases F1 k' o' gD with ⟨h3,h4⟩ | h3
   ·exact hS.sep k k' o o' L L' bC h1 hm h3 (outer _ _ _ h1 hL) (outer _ _ _ h3 jm)
   ·exact apart h1 h2 (outer _ _ _ h1 hL) h3 (inner _ _ _ h3 jm) (.inl hm)
  ·rcases F1 k' o' gD with ⟨h3,h4⟩ | h3
   ·exact λe=>apart h3 h4 (outer _ _ _ h3 jm) h1 (inner _ _ _ h1 hL) (.inr hm) e.symm
   ·exact ht.rep.sep k k' o o' L L' bC h1 hm h3 (inner _ _ _ h1 hL) (inner _ _ _ h3 jm)
 ·refine ht.kept.block b hb ?_;rintro⟨k,o,L,g1,g2,g3,g4⟩;exact hF ⟨k,o,L,kg _ _ g1,g2,zY _ _ _ _ g3,g4⟩
 ·obtain⟨k,o,L,hk,hm,hL,iL⟩:=hb;rcases F1 k o hk with ⟨h1,h2⟩ | h1
  ·exact .inl ⟨k,o,L,h1,hm,outer _ _ _ h1 hL,iL⟩
  ·rcases blk m b ⟨k,o,L,h1,hm,inner _ _ _ h1 hL,iL⟩ with ⟨q,p,M,g1,g2,g3,g4⟩ | h
   ·exact .inl ⟨q,p,M,kg _ _ g1,g2,g3,g4⟩
   ·exact .inr h
end
end
structure Canon where
 T:Nat->Tr V
 H:Nat->Hp
 N:Nat->K
 M:Nat->Made
 run:Nat->Bool
 v:Nat->V
 H':Nat->Hp
 n':Nat->K
structure zZ(ih:eh)(c:Canon)(rs:List Rd)(bs:List Bg)(i:Nat)(o:AO):Prop where
 want:want o.guard (c.T i)=some (c.run i)
 jT:c.T (i+1)=eA o.dst (some (c.v i)) (c.T i)
 not:c.run i=false->c.v i=.u []/\c.H (i+1)=c.H i/\c.N (i+1)=c.N i/\c.M (i+1)=c.M i
 A5:c.run i=true->oper ih o.op (c.T i) (ee (c.H i) o.ah (c.M i)) (c.N i)=some (c.v i,c.H' i,c.n' i)
 pure:c.run i=true->cls o.op=.pure->c.H (i+1)=c.H i/\c.N (i+1)=c.N i/\c.M (i+1)=c.M i
 read:c.run i=true->cls o.op=.read->c.H (i+1)=c.H i/\c.N (i+1)=c.N i/\c.M (i+1)=c.M i/\cu (c.N i) (c.v i)=true/\⟨i,o.op,o.ah,c.T i,c.v i⟩∈rs
 make:c.run i=true->cls o.op=.make->c.H (i+1)=back (c.H i) (c.H' i) o.ah (c.M i)/\c.N (i+1)=c.n' i/\c.M (i+1)=(c.N i,i)::c.M i
 kJ:c.run i=true->cls o.op=.kJ->c.H (i+1)=back (c.H i) (c.H' i) o.ah (c.M i)/\c.N (i+1)=c.n' i/\c.M (i+1)=c.M i/\⟨i,o.ah,c.H i,c.H (i+1)⟩∈bs
def Canon.set(c:Canon)(i:Nat)(T:Tr V)(H:Hp)(n:K)(m:Made)(run:Bool)(v:V)(H':Hp)(n':K):Canon where
 T j:=if j=i then T else c.T j
 H j:=if j=i then H else c.H j
 N j:=if j=i then n else c.N j
 M j:=if j=i then m else c.M j
 run j:=if j=i then run else c.run j
 v j:=if j=i then v else c.v j
 H' j:=if j=i then H' else c.H' j
 n' j:=if j=i then n' else c.n' j
theorem zZ.set{ih:eh}{c:Canon}{rs:List Rd}{bs:List Bg}{k:Nat}{o:AO}(h:zZ ih c rs bs k o){i:Nat}(hi:i<k){T:Tr V}{H:Hp}{n:K}{m:Made}{run:Bool}{v:V}{H':Hp}{n':K}:
 zZ ih (c.set i T H n m run v H' n') rs bs k o:=by
 have e1:k≠i:=by omega
 have e2:k+1≠i:=by omega
 obtain⟨h1,h2,h3,h4,h5,h6,h7,h8⟩:=h;constructor<;>simp only[Canon.set,ai e1,ai e2]<;>assumption
theorem acV{ih:eh}:∀(l:List AO) (i:Nat) (T:Tr V) (H:Hp) (n:K) (m:Made) (rs:List Rd) (bs:List Bg) (r:R),fw ih l i T H n m rs bs=some r->r.ex=.normal/\∃(c:Canon) (th:List Rd) (ny:List Bg),(∀x∈rs,x∈th)/\(∀x∈bs,x∈ny)/\c.T i=T/\c.H i=H/\c.N i=n/\c.M i=m/\c.T (i+l.length)=r.T/\c.H (i+l.length)=r.H/\c.N (i+l.length)=r.n/\vT (c.M (i+l.length)) th ny=true/\∀(j:Nat) (o:AO),l[j]?=some o->zZ ih c th ny (i+j) o:=by
 intro l
 induction l with
 | nil=>
  intro i T H n m rs bs r h;simp only[fw]at h;cases ha:vT m rs bs with
  | false=>rw[ha]at h;cases h
  | true=>
   rw[ha]at h;injection h with h;subst h;exact⟨rfl,⟨λ_=>T,λ_=>H,λ_=>n,λ_=>m,λ_=>false,λ_=>.q,λ_=>H,λ_=>n⟩,rs,bs,λ_ h=>h,λ_ h=>h,rfl,rfl,rfl,rfl,rfl,rfl,rfl,ha,λj o h=>by simp at h⟩
 | cons o l j5=>
  intro i T H n m rs bs r h;have e1:∀j,i+1+j≠i:=by intro j;omega
  have acW:i+(o::l).length=i+1+l.length:=by simp;omega
  have fin:∀(run:Bool) (v:V) (H':Hp) (n':K) (T1:Tr V) (H1:Hp) (n1:K) (m1:Made) (OB:List Rd) (OC:List Bg),fw ih l (Nat.succ i) T1 H1 n1 m1 OB OC=some r->(∀x∈rs,x∈OB)->(∀x∈bs,x∈OC)->(∀(c:Canon) (th:List Rd) (ny:List Bg),(∀x∈OB,x∈th)->(∀x∈OC,x∈ny)->c.T i=T->c.H i=H->c.N i=n->c.M i=m->c.run i=run->c.v i=v->c.H' i=H'->c.n' i=n'->c.T (i+1)=T1->c.H (i+1)=H1->c.N (i+1)=n1->c.M (i+1)=m1->zZ ih c th ny i o)->r.ex=.normal/\∃(c:Canon) (th:List Rd) (ny:List Bg),(∀x∈rs,x∈th)/\(∀x∈bs,x∈ny)/\c.T i=T/\c.H i=H/\c.N i=n/\c.M i=m/\c.T (i+(o::l).length)=r.T/\c.H (i+(o::l).length)=r.H/\c.N (i+(o::l).length)=r.n/\vT (c.M (i+(o::l).length)) th ny=true/\∀(j:Nat) (p:AO),(o::l)[j]?=some p->zZ ih c th ny (i+j) p:=by
   intro run v H' n' T1 H1 n1 m1 OB OC h CQ D9 KY;obtain⟨hex,c,th,ny,a1,a2,a3,a4,a5,a6,a7,a8,a9,A6,F2⟩:=j5 _ _ _ _ _ _ _ _ h;have e2:i+1≠i:=by omega
   refine⟨hex,c.set i T H n m run v H' n',th,ny,λx hx=>a1 x (CQ x hx),λx hx=>a2 x (D9 x hx),?_⟩;rw[acW];refine⟨by simp[Canon.set],by simp[Canon.set],by simp[Canon.set],by simp[Canon.set],?_,?_,?_,?_,?_⟩
   ·simp only[Canon.set,ai (e1 _)];exact a7
   ·simp only[Canon.set,ai (e1 _)];exact a8
   ·simp only[Canon.set,ai (e1 _)];exact a9
   ·simp only[Canon.set,ai (e1 _)];exact A6
   ·intro j p hp;cases j with
    | zero=>
     simp only[xq,rq]at hp;subst hp;refine KY _ _ _ a1 a2 ?_ ?_ ?_ ?_ ?_ ?_ ?_ ?_ ?_ ?_ ?_ ?_
     all_goals simp only[Canon.set,if_true,ai e2,j8]
     ·exact a3
     ·exact a4
     ·exact a5
     ·exact a6
    | succ j=>
     simp only[rn]at hp;have:=(F2 j p hp).set (i:=i) (by omega) (T:=T) (H:=H) (n:=n) (m:=m) (run:=run) (v:=v) (H':=H') (n':=n');rw[show i+(j+1)=Nat.succ i+j by omega];exact this
  simp only[fw]at h;split at h
  ·rename_i hw;split at h
   case h_2=>cases h
   rename_i v H1 n1 fm;cases hc:cls o.op with
   | pure=>
    rw[hc]at h;refine fin true v H1 n1 _ _ _ _ _ _ h (λ_ h=>h) (λ_ h=>h) ?_;intro c th ny b1 b2 b3 b4 b5 b6 b7 b8 b9 kZ oT b12 ey Aa;refine⟨?_,?_,?_,?_,?_,?_,?_,?_⟩<;>simp only[b3,b4,b5,b6,b7,b8,b9,kZ,oT,b12,ey,Aa,hc]
    ·exact hw
    ·intro h;cases h
    ·intro _;exact fm
    ·intros;exact⟨trivial,trivial,trivial⟩
    ·intro _ h;cases h
    ·intro _ h;cases h
    ·intro _ h;cases h
   | read=>
    rw[hc]at h;simp only[iW]at h;split at h
    case isFalse=>cases h
    rename_i iL;refine fin true v H1 n1 _ _ _ _ _ _ h (λ_ h=>List.mem_cons_of_mem _ h) (λ_ h=>h) ?_;intro c th ny b1 b2 b3 b4 b5 b6 b7 b8 b9 kZ oT b12 ey Aa;refine⟨?_,?_,?_,?_,?_,?_,?_,?_⟩<;>simp only[b3,b4,b5,b6,b7,b8,b9,kZ,oT,b12,ey,Aa,hc]
    ·exact hw
    ·intro h;cases h
    ·intro _;exact fm
    ·intro _ h;cases h
    ·intros;exact⟨trivial,trivial,trivial,iL,b1 _ (by simp)⟩
    ·intro _ h;cases h
    ·intro _ h;cases h
   | make=>
    rw[hc]at h;refine fin true v H1 n1 _ _ _ _ _ _ h (λ_ h=>h) (λ_ h=>h) ?_;intro c th ny b1 b2 b3 b4 b5 b6 b7 b8 b9 kZ oT b12 ey Aa;refine⟨?_,?_,?_,?_,?_,?_,?_,?_⟩<;>simp only[b3,b4,b5,b6,b7,b8,b9,kZ,oT,b12,ey,Aa,hc]
    ·exact hw
    ·intro h;cases h
    ·intro _;exact fm
    ·intro _ h;cases h
    ·intro _ h;cases h
    ·intros;exact⟨trivial,trivial,trivial⟩
    ·intro _ h;cases h
   | kJ=>
    rw[hc]at h;refine fin true v H1 n1 _ _ _ _ _ _ h (λ_ h=>h) (λ_ h=>List.mem_cons_of_mem _ h) ?_;intro c th ny b1 b2 b3 b4 b5 b6 b7 b8 b9 kZ oT b12 ey Aa;refine⟨?_,?_,?_,?_,?_,?_,?_,?_⟩<;>simp only[b3,b4,b5,b6,b7,b8,b9,kZ,oT,b12,ey,Aa,hc]
    ·exact hw
    ·intro h;cases h
    ·intro _;exact fm
    ·intro _ h;cases h
    ·intro _ h;cases h
    ·intro _ h;cases h
    ·intros;exact⟨trivial,trivial,trivial,b2 _ (by simp)⟩
  ·rename_i hw;refine fin false (.u []) H n _ _ _ _ _ _ h (λ_ h=>h) (λ_ h=>h) ?_;intro c th ny b1 b2 b3 b4 b5 b6 b7 b8 b9 kZ oT b12 ey Aa;refine⟨?_,?_,?_,?_,?_,?_,?_,?_⟩<;>simp only[b3,b4,b5,b6,b7,b8,b9,kZ,oT,b12,ey,Aa]
   ·exact hw
   ·intro _;exact⟨trivial,trivial,trivial,trivial⟩
   ·intro h;cases h
   ·intro h;cases h
   ·intro h;cases h
   ·intro h;cases h
   ·intro h;cases h
  ·cases h
def hidden(ah:Nat)(m:Made)(k:K):Prop:=∃i,(k,i)∈m/\Nat.testBit ah i=false
theorem Ea(ah:Nat):∀(m:Made) (H:Hp) (k:K),(hidden ah m k->(ee H ah m).get k=none)/\(¬ hidden ah m k->(ee H ah m).get k=H.get k):=by
 intro m
 induction m with
 | nil=>intro H k;exact⟨(λ⟨i,h,_⟩=>by cases h),λ_=>rfl⟩
 | cons p m ih=>
  intro H k;obtain⟨q,i⟩:=p;cases hb:Nat.testBit ah i with
  | true=>
   have e:ee H ah ((q,i)::m)=ee H ah m:=by simp only[ee,hb,cond_true]
   rw[e];obtain⟨h1,h2⟩:=ih H k;refine⟨λ⟨j,hj,fb⟩=>h1 ?_,λh=>h2 λ⟨j,hj,fb⟩=>h ⟨j,by simp[hj],fb⟩⟩;rcases fY.1 hj with hj | hj
   ·injection hj with _ e2;rw[e2,hb]at fb;cases fb
   ·exact⟨j,hj,fb⟩
  | false=>
   have e:ee H ah ((q,i)::m)=ee (H.put none q) ah m:=by simp only[ee,hb,cond_false]
   rw[e];obtain⟨h1,h2⟩:=ih (H.put none q) k;refine⟨λhh=>?_,λh=>?_⟩
   ·by_cases hk:hidden ah m k
    ·exact h1 hk
    ·rw[h2 hk,Tr.gb];obtain⟨j,hj,fb⟩:=hh;rcases fY.1 hj with hj | hj
     ·injection hj with e1 _;rw[az e1]
     ·exact absurd ⟨j,hj,fb⟩ hk
   ·have hk:¬ hidden ah m k:=λ⟨j,hj,fb⟩=>h ⟨j,by simp[hj],fb⟩;rw[h2 hk,Tr.gb,ai];intro e;exact h ⟨i,by simp[e],hb⟩
theorem Rm(ah:Nat)(m:Made)(H:Hp)(k:K)(o:O)(h:(ee H ah m).get k=some o):H.get k=some o:=by
 obtain⟨h1,h2⟩:=Ea ah m H k;by_cases hh:hidden ah m k
 ·rw[h1 hh]at h;cases h
 ·rw[h2 hh]at h;exact h
theorem Ab(ah:Nat):∀(m:Made) (H H':Hp) (k:K),(hidden ah m k->(back H H' ah m).get k=H.get k)/\(¬ hidden ah m k->(back H H' ah m).get k=H'.get k):=by
 intro m
 induction m with
 | nil=>intro H H' k;exact⟨(λ⟨i,h,_⟩=>by cases h),λ_=>rfl⟩
 | cons p m ih=>
  intro H H' k;obtain⟨q,i⟩:=p;cases hb:Nat.testBit ah i with
  | true=>
   have e:back H H' ah ((q,i)::m)=back H H' ah m:=by simp only[back,hb,cond_true]
   rw[e];obtain⟨h1,h2⟩:=ih H H' k;refine⟨λ⟨j,hj,fb⟩=>h1 ?_,λh=>h2 λ⟨j,hj,fb⟩=>h ⟨j,by simp[hj],fb⟩⟩;rcases fY.1 hj with hj | hj
   ·injection hj with _ e2;rw[e2,hb]at fb;cases fb
   ·exact⟨j,hj,fb⟩
  | false=>
   have e:back H H' ah ((q,i)::m)=back H (H'.put (H.get q) q) ah m:=by simp only[back,hb,cond_false]
   rw[e];obtain⟨h1,h2⟩:=ih H (H'.put (H.get q) q) k;refine⟨λhh=>?_,λh=>?_⟩
   ·by_cases hk:hidden ah m k
    ·exact h1 hk
    ·rw[h2 hk,Tr.gb];obtain⟨j,hj,fb⟩:=hh;rcases fY.1 hj with hj | hj
     ·injection hj with e1 _;rw[az e1,e1]
     ·exact absurd ⟨j,hj,fb⟩ hk
   ·have hk:¬ hidden ah m k:=λ⟨j,hj,fb⟩=>h ⟨j,by simp[hj],fb⟩;rw[h2 hk,Tr.gb,ai];intro e;exact h ⟨i,by simp[e],hb⟩
section
theorem cmp_eq(f:Bool)(a b:K):K.cmp f a b=true↔a.num<b.num\/(f=true/\a.num=b.num):=by
 induction a generalizing f b with
 | h=>
  cases b with
  | h=>simp[K.cmp]
  | o p=>have:=p.xO;simp only[K.cmp,K.num];constructor<;>intro _<;>first | exact trivial | (left;omega)
  | i p=>have:=p.xO;simp only[K.cmp,K.num];constructor<;>intro _<;>first | exact trivial | (left;omega)
 | o a ih=>
  cases b with
  | h=>have:=a.xO;simp only[K.cmp,K.num];constructor<;>intro h<;>first | (cases h;done) | (exfalso;omega)
  | o b=>simp only[K.cmp,K.num,ih];constructor<;>rintro(h | ⟨h,h'⟩)<;>first | (left;omega) | (right;exact⟨h,by omega⟩)
  | i b=>
   simp only[K.cmp,K.num,ih];constructor<;>rintro(h | ⟨h,h'⟩)<;>first | (left;omega) | (exfalso;omega) | skip
   by_cases e:a.num=b.num
   ·exact .inr ⟨trivial,e⟩
   ·left;omega
 | i a ih=>
  cases b with
  | h=>have:=a.xO;simp only[K.cmp,K.num];constructor<;>intro h<;>first | (cases h;done) | (exfalso;omega)
  | o b=>simp only[K.cmp,K.num,ih];constructor<;>rintro(h | ⟨h,h'⟩)<;>first | (left;omega) | (cases h;done) | (exfalso;omega)
  | i b=>simp only[K.cmp,K.num,ih];constructor<;>rintro(h | ⟨h,h'⟩)<;>first | (left;omega) | (right;exact⟨h,by omega⟩)
theorem rL{a b:K}:K.cmp false a b=true↔a.num<b.num:=by rw[cmp_eq];simp
section
variable {T:Tr V}{H H':Hp}{n n':K}{v:V}
def Up(n n':K):Prop:=n'=n\/n'=n.succ
theorem acX{x:Option V}(h:eg H n x=some (v,H',n')):Up n n':=.inl (lG h).2.2
theorem acY{x:Option Hp}(h:qt n x=some (v,H',n')):Up n n':=by
 cases x with
 | none=>cases h
 | some H1=>exact .inl (eo h).2.2
theorem Eb{o:O}{x:V}{H0:Hp}(h:j4 H0 n o x=some (v,H',n')):Up n n':=.inr (pM h).2.2
theorem Hk{a:V}{b:Hp}(h:(some (a,b,n):gC)=some (v,H',n')):Up n n':=.inl (eo h).2.2
theorem acZ{e z bytes m:Nat}{s:V}{new:List V}(h:ra H n e z bytes s m new=some (v,H',n')):Up n n':=by
 rcases(QW h).2.2.2 with ⟨_,_,_,_,h⟩ | ⟨_,_,h⟩ | ⟨_,_,_,_,_,_,_,_,_,h⟩ | ⟨_,_,_,_,_,_,_,_,_,h⟩ | ⟨_,_,_,_,_,_,_,_,_,h⟩ | ⟨_,_,_,_,_,_,_,_,h⟩ | ⟨_,_,_,_,_,_,_,_,_,_,_,_,h⟩
 ·exact .inl h
 ·exact Eb h
 ·exact .inl h
 ·exact .inl h
 ·exact Eb h
 ·exact .inl h
 ·exact Eb h
theorem ac0{k:Oj}{x:V}(h:rb H n k x=some (v,H',n')):Up n n':=by
 cases k with
 | toInt k=>obtain⟨_,_,_,e⟩:=QJ h;injection e with _ e;injection e with _ e;exact .inl e
 | same=>obtain⟨_,_,_,e⟩:=QK h;injection e with _ e;injection e with _ e;exact .inl e
 | zA=>obtain⟨_,_,_,_,_,_,e⟩:=QL h;injection e with _ e;injection e with _ e;exact .inl e
 | J2 k=>obtain⟨_,_,_,e⟩:=QM h;exact Eb e
 | zB=>obtain⟨_,_,_,_,e⟩:=QN h;injection e with _ e;injection e with _ e;exact .inl e
 | Je=>
  rcases QO h with ⟨_,e⟩ | ⟨_,_,_,_,_,_,e⟩
  ·injection e with _ e;injection e with _ e;exact .inl e
  ·injection e with _ e;injection e with _ e;exact .inl e
 | Jf u=>
  rcases QP h with ⟨_,e⟩ | ⟨_,_,_,_,_,e⟩
  ·injection e with _ e;injection e with _ e;exact .inl e
  ·injection e with _ e;injection e with _ e;exact .inl e
theorem Ro{op:A}(h:simple op T H n=some (v,H',n')):Up n n':=by
 cases op<;>simp only[simple,iW]at h<;>(try dsimp only at h)<;>(repeat' split at h)<;>
  first
   | (cases h;done)
   | exact acX h
   | exact acY h
   | exact Eb h
   | exact Hk h
   | exact acZ h
   | exact ac0 h
theorem Ec(h:Up n n'):n.num<=n'.num:=by
 rcases h with rfl | rfl
 ·exact Γ _
 ·rw[K.fH];omega
end
end
end Go.Ev
