/- A part of the proof. -/
import Derived.Maps.RangeRun
import Derived.Lib.Bytealg
import Derived.Lib.Builder
import Derived.Test.YtpdbepbhlalldaaGreatDoorE
import Derived.Test.YtpdbepbhlalldaaGreatDoorA
set_option linter.all false
namespace Go.Ev
open Go
theorem aez{a b:V×V×Nat}(h:Kb a b=true):a=b:=by obtain⟨x,y,z⟩:=a;obtain⟨x',y',z'⟩:=b;simp only[Kb,bG]at h;rw[wL h.1.1,wL h.1.2,cZ h.2]
theorem Vo:∀{a b:List (V×V×Nat)},Jl a b=true->a=b
 | [],[],_=>rfl
 | [],_::_,h=>by simp only[Jl]at h;cases h
 | _::_,[],h=>by simp only[Jl]at h;cases h
 | a::l,b::l',h=>by simp only[Jl,bG]at h;rw[aez h.1,Vo h.2]
theorem Iq{a b:O}(h:vU a b=true):a=b:=by
 cases a<;>cases b<;>simp only[vU,bG]at h<;>(try (cases h;done))
 ·rw[yK h.1.1,cZ h.1.2,cZ h.2]
 ·rw[yK h]
 ·rw[wL h.1.1,wL h.1.2,cZ h.2]
 ·rw[Vo h.1,cZ h.2]
 ·rw[K.beq_eq h.1,cZ h.2]
 ·rw[K.beq_eq h.1.1,cZ h.1.2,cZ h.2]
 ·rw[cZ h.1.1,cZ h.1.2,cZ h.2]
theorem Aq{α:Type}{eq:α->α->Bool}(he:∀a b,eq a b=true->a=b):∀{T T':Tr α},gk eq T T'=true->∀k a,T.get k=some a->T'.get k=some a:=by
 intro T
 induction T with
 | e=>intro T' _ k a h;rw[Tr.iz]at h;cases h
 | n v l r lU tX=>
  intro T' h k a hk;cases T' with
  | e=>
   simp only[gk,bG]at h;cases k with
   | h=>simp only[Tr.get]at hk;subst hk;have:=h.1.1;cases this
   | o k=>simp only[Tr.get]at hk;have:=lU h.1.2 k a hk;rw[Tr.iz]at this;cases this
   | i k=>simp only[Tr.get]at hk;have:=tX h.2 k a hk;rw[Tr.iz]at this;cases this
  | n v' l' r'=>
   simp only[gk,bG]at h;cases k with
   | h=>
    simp only[Tr.get]at hk ⊢;subst hk;have:=h.1.1;cases v' with
    | none=>cases this
    | some b=>rw[he _ _ this]
   | o k=>simp only[Tr.get]at hk ⊢;exact lU h.1.2 k a hk
   | i k=>simp only[Tr.get]at hk ⊢;exact tX h.2 k a hk
theorem aeA:∀(ws:List K) (T:Tr V) (k:K) (v:V),(erase T ws).get k=some v->T.get k=some v:=by
 intro ws
 induction ws with
 | nil=>intro T k v h;exact h
 | cons a ws ih=>
  intro T k v h;have:=ih _ k v h;rw[Tr.gb]at this;split at this
  ·cases this
  ·exact this
def Ar(ih:eh)(d:Option K)(l:List AO)(c:AC)(b m:K)(dC:Nat)(T:Tr V)(H:Hp)(n:K)(e:V×V×Nat):Option R:=
 match gv ih l (eA d (some (.u [.b true,e.1,e.2.1])) T) (H.put (some (.me m dC e.2.2)) b) n with
 | some ⟨.normal,T,_,H,n⟩=>ih (.code c T) H n
 | _=>none
def EE(ih:eh)(d:Option K)(l:List AO)(c:AC)(T:Tr V)(H:Hp)(n:K):Option R:=
 match gv ih l (eA d (some (.u [.b false])) T) H n with
 | some ⟨.normal,T,_,H,n⟩=>(match ih (.code c T) H n with
  | some ⟨.normal,_,_,_,_⟩=>none
  | r=>r)
 | _=>none
def Vp(ih:eh)(d:Option K)(x:aJ)(l:List AO)(c:AC)(b m:K)(since dC:Nat)(T:Tr V)(H:Hp)(n:K)(e:V×V×Nat):Option R:=
 match Ar ih d l c b m dC T (H.put none b) n e with
 | some ⟨.normal,T,_,H,n⟩=>(match H.get b,H.get m with
  | some (.me _ _ _),some (.mp [(_,_,t)] dC)=>bif Nat.beq since dC&&Nat.beq t e.2.2&&sN T x b then EE ih d l c T (H.put none b) n else none
  | _,_=>none)
 | r=>r
theorem aeB{C:Nat->Option bP}{ih:eh}{d:Option K}{x:aJ}{l:List AO}{c:AC}{ws:List K}{T:Tr V}{H:Hp}{n:K}{r:R}(h:ca C ih (.code (.pH d x l c ws) T) H n=some r):
 ∃b m since es dC,aI T x=some (.p b 0)/\H.get b=some (.mi m since)/\H.get m=some (.mp es dC)/\since=dC/\xF dC 0 es=true/\((∃e,es=[e]/\Vp ih d x l c b m since dC T H n e=some r)\/
  (sN (erase T ws) x b=true/\Dz (Ar ih d l c b m dC (erase T ws) (H.put none b) n) (erase T ws) (H.put none b) es=true/\EE ih d l c (erase T ws) (H.put none b) n=some r)):=by
 simp only[ca]at h;split at h
 case h_2=>cases h
 rename_i b hb;split at h
 case h_2=>cases h
 rename_i m since hm;split at h
 case h_2=>cases h
 rename_i es dC he;cases hc:Nat.beq since dC&&xF dC 0 es with
 | false=>rw[hc]at h;cases h
 | true=>
  rw[hc]at h;simp only[cond_true]at h;simp only[bG]at hc;refine⟨b,m,since,es,dC,hb,hm,he,cZ hc.1,hc.2,?_⟩;split at h
  ·rename_i e;exact .inl ⟨e,rfl,h⟩
  ·right;simp only[iW]at h;split at h
   ·rename_i h1;simp only[bG]at h1;exact⟨h1.1,h1.2,h⟩
   ·cases h
theorem aeC{go:V×V×Nat->Option R}{T:Tr V}{H:Hp}:∀{es:List (V×V×Nat)},Dz go T H es=true->∀e∈es,∃T' v H' n',go e=some ⟨.normal,T',v,H',n'⟩/\gk dH T T'=true/\gk vU H H'=true:=by
 intro es
 induction es with
 | nil=>intro _ e h;cases h
 | cons a es ih=>
  intro h e he;simp only[Dz,bG]at h;rcases fY.1 he with rfl | he
  ·have h1:=h.1;split at h1
   ·rename_i T' v H' n' hg;simp only[bG]at h1;exact⟨T',v,H',n',hg,h1⟩
   ·cases h1
  ·exact ih h.2 e he
theorem aeD{ty:Ty}{c:Code}{d:Option K}{x:aJ}{l:List AO}{b:AC}{ws:List K}(h:uH ty (dL ty c) c=.pH d x l b ws):
 ∃(rid:Nat) (d0:Option Tmp) (x0:Operand) (rt:TypeId) (pos:String) (after:Array Edge) (rest:List Oper) (c2:Code),c=.seq (.region rid ⟨⟨d0,.next x0 false,rt,pos,after,none⟩::rest⟩ false) c2/\d=d0.map cT/\cr ty x0=some x/\b=dL ty c2/\l=eO ty ⟨⟨d0,.next x0 false,rt,pos,after,none⟩::rest⟩ rest []:=by
 unfold uH at h;split at h
 case h_2=>cases h
 rename_i rid d0 x0 rt pos after rest c2;split at h
 case h_2=>cases h
 rename_i c1 l' c' x' tZ hx;injection h with h1 h2 h3 h4 h5;subst h1;subst h2;subst h3;subst h4;simp only[dL,cond_false]at tZ;injection tZ with h6 h7;injection h6 with h6;simp only[eO]at h6;injection h6 with h8 h9;exact⟨rid,d0,x0,rt,pos,after,rest,c2,rfl,rfl,hx,h7.symm,h9.symm⟩
end Go.Ev
namespace Go.Ev
open Go
open Go.ChangeMaps (setBlock)
section
section
variable {P:Program}{ty:Ty}{C:Nat->Option bP}{ih:eh}{η η':Env}{T:Tr V}{H H' Hx:Hp}{n n':K}{w w' w0:World}{tmps:Array Value}{ds:List Deferred}{fr:Frame}{cs:List Frame}{k:List Item}
 {rid:Nat}{o0:Oper}{rest:List Oper}{c2:Code}{ops:Array Oper}
theorem Vq(hm:fr.mode=.run)(hg:o0.guard=none)(pr:∀c,o0.op≠.defer c){v:Value}(hr:(execOp (ax tmps) o0).run P w=.ok (.value v) w'):
 Steps P (lone (put fr tmps ds (.code (.seq (.region rid ⟨o0::rest⟩ false) c2)::k)) cs w) (lone (put fr (jX o0.dst v tmps) ds (.inRegion ⟨o0::rest⟩ (List.range' 1 rest.length)::.code c2::k)) cs w'):=by
 refine Steps.head (BP hm) (Steps.head (D4 hm) ?_);have e:List.range (⟨o0::rest⟩:Array Oper).size=0::List.range' 1 rest.length:=by rw[xz];show List.range' 0 (rest.length+1)=_;rw[Rb]
 rw[e];have ho:(⟨o0::rest⟩:Array Oper)[0]?=some o0:=rfl;have hw:Region.wanted o0 (yielded ⟨o0::rest⟩ (put fr tmps ds (.inRegion ⟨o0::rest⟩ (0::List.range' 1 rest.length)::.code c2::k)).tmps)=true:=by unfold Region.wanted;rw[hg]
 have dP:=DZ (P:=P) (cs:=cs) (w:=w) (fr:=put fr tmps ds (.inRegion ⟨o0::rest⟩ (0::List.range' 1 rest.length)::.code c2::k)) hm rfl ho hw pr;rw[eval_put]at dP;have kh:=Ha dP (λ_ _ _ _ h=>by cases h) (v:=v) (w':=w') ⟨.value v,w',hr,rfl,rfl⟩;rw[G9,ho]at kh;exact kh
theorem Vr(hC:Good P ty C)(fi:ml P ty ih)(hm:fr.mode=.run)(hd:iZ fr.tmps.size (o0::rest)=true)(uf:within fr.tmps.size c2=true){Tx T1:Tr V}{v1:V}{H1:Hp}{n1:K}{r:R}
 (eR:gv ih (eO ty ⟨o0::rest⟩ rest []) Tx Hx n=some ⟨.normal,T1,v1,H1,n1⟩)(fQ:ih (.code (dL ty c2) T1) H1 n1=some r)(hT:br η Tx tmps)(eQ:tmps.size=fr.tmps.size)(hG:cM η ty.g)(hH:bM (WW ty) η Hx n w)(hl:kO fr w):
 ∃η' ep ly w',Trans (WW ty) η Hx n w η' r.H r.n w'/\ep.size=fr.tmps.size/\br η' r.T ep/\Marks w.heap.size η' r.H w' ly ds/\jv P η' (lone (put fr tmps ds (.inRegion ⟨o0::rest⟩ (List.range' 1 rest.length)::.code c2::k)) cs w) fr cs k r.ex ep ly w':=by
 obtain⟨η1,t1,w1,g1,g2,g3,g4⟩:=KV (fr:=fr) (cs:=cs) (k:=.code c2::k) (ds:=ds) (ops:=⟨o0::rest⟩) hC fi hm hd rest 1 rfl η Tx Hx n w tmps _ eR hT eQ hG hH;obtain⟨η2,t2,d2,w2,q1,q2,q3,q4,q5⟩:=fi _ _ _ _ fQ η1 w1 (put fr t1 ds []) cs k c2 ⟨rfl,by show within t1.size c2=true;rw[g2];exact uf⟩ g3 (hG.mono g1.ext) g1.rep hm (hl.trans g1);refine⟨η2,t2,d2,w2,g1.trans q1,q2.trans g2,q3,?_,.of_steps g4 q5⟩;obtain⟨bs,h1,h2,h3⟩:=q4;exact⟨bs,h1,h2,λb hb=>⟨gY g1.kept.size (h3 b hb).1,(h3 b hb).2⟩⟩
theorem Vs(ht:Trans (WW ty) η H n w η' H' n' w')(hf:∀k,n.num<=k.num->η k=none):cY η' n=η:=by
 funext k;unfold cY;by_cases h:k.num<n.num
 ·rw[az h];exact ht.ef k h
 ·rw[ai h,hf k (by omega)]
theorem aeE{H0:Hp}(ht:Trans (WW ty) η H n w η' H' n' w')(hf:∀k,n.num<=k.num->η k=none)(hb:∀k o,H0.get k=some o->nU n o/\k.num<n.num)(hs:∀k o,H0.get k=some o->H'.get k=some o):bM (WW ty) η H0 n w':=by
 have e:=Vs ht hf;refine⟨λq o hq=>?_,λq q' o o' L L' bC hq hm hJ hL jm=>?_,hf⟩
 ·obtain⟨L,h1,h2,h3⟩:=ht.rep.obj q o (hs q o hq);refine⟨L,by rw[←e];exact qH h1 (hb q o hq).2,h2,?_⟩;rw[←e];exact h3.cY (hb q o hq).1
 ·exact ht.rep.sep q q' o o' L L' bC (hs q o hq) hm (hs q' o' hJ) (ht.ext _ _ hL) (ht.ext _ _ jm)
theorem aeF{T:Tr V}{t:Array Value}(ht:Trans (WW ty) η H n w η' H' n' w')(hf:∀k,n.num<=k.num->η k=none)(h:br η' T t)(hb:∀t v,T.get (cT t)=some v->cu n v=true):br η T t:=by have e:=Vs ht hf;rw[←e];exact h.cY hb
structure yL(ty:Ty)(η:Env)(H H0:Hp)(n:K)(T:Tr V)(w0:World)(fr:Frame)(Lb Lm:Loc)(since:Nat)(w:World)(tmps:Array Value)(ds:List Deferred)(seen:Array Nat)(c0:Nat):Prop where
 rep:bM (WW ty) η H0 n w
 it:w.heap[Lb.blk]?=some (.mapIter (some Lm.blk) since seen c0)
 c0:since<=c0
 kept:Kept (nt η H true) w0 w
 size:tmps.size=fr.tmps.size
 jT:br η T tmps
 marks:Marks w0.heap.size η H0 w ds fr.defers
structure tC(P:Program)(ty:Ty)(η:Env)(H H0:Hp)(kb m:K)(Lb Lm:Loc)(es:List (V×V×Nat))(dC:Nat):Prop where
 sub:∀k o,H0.get k=some o->H.get k=some o
 get:∃o,H.get kb=some o/\o.mut=true
 none:H0.get kb=none
 map:H0.get m=some (.mp es dC)
 lb:η kb=some Lb
 lm:η m=some Lm
 off:Lb.off=0
 apart:∀k o L,H0.get k=some o->η k=some L->L.blk≠Lb.blk
 stamps:xF dC 0 es=true
theorem Vt{dC:Nat}:∀{lo:Nat} {es:List (V×V×Nat)},xF dC lo es=true->∀e∈es,e.2.2<dC:=by
 intro lo es
 induction es generalizing lo with
 | nil=>intro _ e h;cases h
 | cons a es ih=>
  obtain⟨x,y,t⟩:=a;intro h e he;simp only[xF,bG]at h;rcases fY.1 he with rfl | he
  ·have:=h.1.2;simpa[gf]using this
  ·exact ih h.2 e he
theorem eP.mem:∀{es:List (V×V×Nat)} {l:List MapEntry},eP η es l->∀e∈l,∃k v,(k,v,e.born)∈es/\aC η k e.key/\aC η v e.val
 | [],[],_,e,h=>by cases h
 | (a,b,t)::es,x::l,⟨h1,h2,h3,h4⟩,e,h=>by
  rcases fY.1 h with rfl | h
  ·exact⟨a,b,by rw[h3];simp,h1,h2⟩
  ·obtain⟨k,v,g1,g2⟩:=eP.mem h4 e h;exact⟨k,v,List.mem_cons_of_mem _ g1,g2⟩
theorem eP.L4:∀{es:List (V×V×Nat)} {l:List MapEntry},eP η es l->l.map (·.born)=es.map (·.2.2)
 | [],[],_=>rfl
 | (a,b,t)::es,x::l,⟨h1,h2,h3,h4⟩=>by simp only[ma,h3,eP.L4 h4]
theorem Vu(gL:Array MapEntry)(seen:Array Nat):(leftOf gL seen).size=(gL.toList.map (·.born)).countP (λt=>!seen.contains t):=by unfold leftOf;rw[←Bq,Array.toList_filter,←List.countP_eq_length_filter,List.countP_map];rfl
theorem yL.me{H0:Hp}{kb m:K}{Lb Lm:Loc}{es:List (V×V×Nat)}{dC since c0 t:Nat}{seen:Array Nat}(X:tC P ty η H H0 kb m Lb Lm es dC)(I:yL ty η H H0 n T w0 fr Lb Lm since w tmps ds seen c0){w1:World}(hw:w1=w\/w1=w.drew):
 bM (WW ty) η (H0.put (some (.me m dC t)) kb) n (setBlock w1 Lb.blk (.mapIter (some Lm.blk) since (seen.push t) dC))/\Kept (nt η H true) w0 (setBlock w1 Lb.blk (.mapIter (some Lm.blk) since (seen.push t) dC))/\(setBlock w1 Lb.blk (.mapIter (some Lm.blk) since (seen.push t) dC)).heap[Lb.blk]?=some (.mapIter (some Lm.blk) since (seen.push t) dC)/\Marks w0.heap.size η (H0.put (some (.me m dC t)) kb) (setBlock w1 Lb.blk (.mapIter (some Lm.blk) since (seen.push t) dC)) ds fr.defers/\(setBlock w1 Lb.blk (.mapIter (some Lm.blk) since (seen.push t) dC)).heap.size=w.heap.size:=by
 have hh:w1.heap=w.heap:=by rcases hw with rfl | rfl<;>rfl
 have h1:w1.os=w.os:=by rcases hw with rfl | rfl<;>rfl
 have h2:w1.tape=w.tape:=by rcases hw with rfl | rfl<;>rfl
 have h3:w1.output=w.output:=by rcases hw with rfl | rfl<;>rfl
 have ψ:Lb.blk<w.heap.size:=(oC.1 I.it).1;have heap:(setBlock w1 Lb.blk (.mapIter (some Lm.blk) since (seen.push t) dC)).heap=w.heap.setIfInBounds Lb.blk (.mapIter (some Lm.blk) since (seen.push t) dC):=by show w1.heap.setIfInBounds _ _=_;rw[hh]
 have same:∀b,b≠Lb.blk->(setBlock w1 Lb.blk (.mapIter (some Lm.blk) since (seen.push t) dC)).heap[b]?=w.heap[b]?:=λb hb=>by rw[heap,gO,ai (λe=>hb e.symm)]
 have at':(setBlock w1 Lb.blk (.mapIter (some Lm.blk) since (seen.push t) dC)).heap[Lb.blk]?=some (.mapIter (some Lm.blk) since (seen.push t) dC):=by rw[heap,gO,az rfl,az ψ]
 have sz:(setBlock w1 Lb.blk (.mapIter (some Lm.blk) since (seen.push t) dC)).heap.size=w.heap.size:=by rw[heap];simp
 refine⟨⟨λq o hq=>?_,λq q' o o' L L' bC hq Jw hJ hL jm=>?_,I.rep.free⟩,?_,at',?_,sz⟩
 ·rw[Tr.gb]at hq;by_cases e:q=kb
  ·rw[az e]at hq;injection hq with hq;subst hq;subst e;exact⟨Lb,X.lb,by rw[sz];exact ψ,X.off,Lm,since,seen.push t,X.lm,at',by simp⟩
  ·rw[ai e]at hq;obtain⟨L,g1,g2,g3⟩:=I.rep.obj q o hq;refine⟨L,g1,by rw[sz];exact g2,?_⟩;rw[same _ (X.apart q o L hq g1)];exact g3
 ·rw[Tr.gb]at hq hJ;by_cases e:q=kb
  ·rw[az e]at hq;injection hq with hq;subst hq;cases Jw
  ·rw[ai e]at hq;by_cases e':q'=kb
   ·rw[e',X.lb]at jm;injection jm with jm;subst jm;exact X.apart q o L hq hL
   ·rw[ai e']at hJ;exact I.rep.sep q q' o o' L L' bC hq Jw hJ hL jm
 ·obtain⟨ob,hob,Jw⟩:=X.get;refine⟨h1.trans I.kept.os,h2.trans I.kept.tape,h3.trans I.kept.output,by rw[sz];exact I.kept.size,λb hb hF=>?_,λb r hr=>?_⟩
  ·rw[same b (λe=>hF ⟨kb,ob,Lb,hob,λ_=>Jw,X.lb,e.symm⟩)];exact I.kept.block b hb hF
  ·obtain⟨r',h⟩:=I.kept.loops b r hr;refine⟨r',?_⟩;rw[same b (λe=>by rw[e,I.it]at h;cases h)];exact h
 ·obtain⟨bs,g1,g2,g3⟩:=I.marks;refine⟨bs,g1,g2,λb hb=>?_⟩;obtain⟨a1,a2,a3⟩:=g3 b hb;refine⟨a1,?_,?_⟩
  ·rw[same b (λe=>by rw[e,I.it]at a2;cases a2)];exact a2
  ·rintro⟨q,o,L,b1,b2,b3,b4⟩;rw[Tr.gb]at b1;by_cases e:q=kb
   ·rw[az e]at b1;injection b1 with b1;subst b1;cases b2 rfl
   ·rw[ai e]at b1;exact a3 ⟨q,o,L,b1,b2,b3,b4⟩
theorem Vv{x0:Operand}{x:aJ}{kb:K}{Lb:Loc}(wg:cr ty x0=some x)(hi:sN T x kb=true)(hT:br η T tmps)(hG:cM η ty.g)(hb:η kb=some Lb)(ho:Lb.off=0):ax tmps x0=.pointer (some ⟨Lb.blk,0,none⟩):=by
 unfold sN at hi;split at hi
 case h_2=>cases hi
 rename_i b' hx;have e:=K.beq_eq hi;subst e;have h:=cS hT hG wg hx;generalize ax tmps x0=y at h;cases h with
 | p _ _ L hL=>rw[hb]at hL;injection hL with hL;subst hL;rw[ho]
theorem L5(hC:Good P ty C)(fi:ml P ty ih)(hm:fr.mode=.run){d0:Option Tmp}{x0:Operand}{rt:TypeId}{pos:String}{after:Array Edge}(vK:o0=⟨d0,.next x0 false,rt,pos,after,none⟩)
 (hd:iZ fr.tmps.size (o0::rest)=true)(uf:within fr.tmps.size c2=true){x:aJ}(wg:cr ty x0=some x){H0:Hp}{kb m:K}{Lb Lm:Loc}{es:List (V×V×Nat)}{dC c0:Nat}{seen:Array Nat}
 (X:tC P ty η H H0 kb m Lb Lm es dC)(I:yL ty η H H0 n T w0 fr Lb Lm dC w tmps ds seen c0)(hG:cM η ty.g)(hl:kO fr w0)(Jx:sN T x kb=true)
 (L6:∀e∈es,∃rr,Ar ih (d0.map cT) (eO ty ⟨o0::rest⟩ rest []) (dL ty c2) kb m dC T H0 n e=some rr):
 ((es.map (·.2.2)).countP (λt=>!seen.contains t)=0/\(execOp (ax tmps) o0).run P w=.ok (.value (.tuple #[.bool false])) w)\/
 ∃e rr w2 η' ep ly w',e∈es/\seen.contains e.2.2=false/\Ar ih (d0.map cT) (eO ty ⟨o0::rest⟩ rest []) (dL ty c2) kb m dC T H0 n e=some rr/\bM (WW ty) η (H0.put (some (.me m dC e.2.2)) kb) n w2/\Kept (nt η H true) w0 w2/\w2.heap[Lb.blk]?=some (.mapIter (some Lm.blk) dC (seen.push e.2.2) dC)/\Marks w0.heap.size η (H0.put (some (.me m dC e.2.2)) kb) w2 ds fr.defers/\Trans (WW ty) η (H0.put (some (.me m dC e.2.2)) kb) n w2 η' rr.H rr.n w'/\ep.size=fr.tmps.size/\br η' rr.T ep/\Marks w2.heap.size η' rr.H w' ly ds/\jv P η' (lone (put fr tmps ds (.code (.seq (.region rid ⟨o0::rest⟩ false) c2)::k)) cs w) fr cs k rr.ex ep ly w':=by
 obtain⟨gL,tY,Jr⟩:=xW I.rep X.map X.lm;have hold:∀y∈gL.toList,y.born<dC:=λy hy=>by obtain⟨_,_,h,_⟩:=Jr.mem y hy;exact Vt X.stamps _ h
 have A4:=Vv wg Jx I.jT hG X.lb X.off;have hx:∀v w1,(Instr.next (.pointer (some ⟨Lb.blk,0,none⟩)) false rt).run P w=.ok v w1->(execOp (ax tmps) o0).run P w=.ok (.value v) w1:=by intro v w1 h;subst vK;show(do pure (.value (←Instr.next (ax tmps x0) false rt)):Sem Next).run P w=_;rw[A4];show(Sem.bind _ _).run P w=_;rw[Sem.run_bind',h];rfl
 rcases run_next_at w rt Lb.blk Lm.blk dC c0 seen gL dC I.it tY hold I.c0 with ⟨h1,h2⟩ | ⟨e',h1,w1,h2,h3⟩
 ·left;refine⟨?_,hx _ _ h2⟩;rw[Vu,Jr.L4]at h1;exact h1
 ·right;have OI:e'∈gL.toList/\seen.contains e'.born=false:=by
   unfold leftOf at h1;simpa using h1
  obtain⟨kk,vv,Vw,hk,hv⟩:=Jr.mem e' OI.1;obtain⟨rr,F3⟩:=L6 _ Vw;obtain⟨q1,q2,q3,q4,q5⟩:=I.me X h2 (t:=e'.born);have Ir:=F3;unfold Ar at Ir;split at Ir
  case h_2=>cases Ir
  rename_i T1 v1 H1 n1 L7;have eQ:∀d,o0.dst=some d->d<tmps.size:=λd oO=>by rw[I.size];exact LZ hd o0 (by simp) d oO
  have qc:o0.dst=d0:=by rw[vK]
  have L8:br η (eA (d0.map cT) (some (.u [.b true,kk,vv])) T) (jX o0.dst (.tuple #[.bool true,e'.key,e'.val]) tmps):=by rw[←qc];exact I.jT.jX eQ (.u _ _ (.cons _ _ _ _ (.b _) (.cons _ _ _ _ hk (.cons _ _ _ _ hv .nil))))
  have oz:kO fr (setBlock w1 Lb.blk (.mapIter (some Lm.blk) dC (seen.push e'.born) dC)):=λl oA=>let⟨q,hq⟩:=hl l oA;q2.loops l q hq;obtain⟨η',ep,ly,w',b1,b2,b3,b4,b5⟩:=Vr (cs:=cs) (k:=k) (ds:=ds) hC fi hm hd uf L7 Ir L8 (by rw[D2];exact I.size) hG q1 oz;refine⟨(kk,vv,e'.born),rr,_,η',ep,ly,w',Vw,OI.2,F3,q1,q2,q3,q4,b1,b2,b3,b4,.of_steps (Vq hm (by rw[vK]) (λc h=>by rw[vK]at h;cases h) (hx _ _ h3)) b5⟩
end
end
section
section
variable {P:Program}{ty:Ty}{C:Nat->Option bP}{ih:eh}{η η':Env}{T:Tr V}{H H' Hx H0:Hp}{n n':K}{w w' w0 w2:World}{tmps ep:Array Value}{ds ly:List Deferred}{fr:Frame}{cs:List Frame}{k:List Item}
 {rid:Nat}{o0:Oper}{rest:List Oper}{c2:Code}{ops:Array Oper}{kb m:K}{Lb Lm:Loc}{es:List (V×V×Nat)}{dC c0 t:Nat}{seen:Array Nat}
theorem Trans.from(kept:Kept (nt η H true) w0 w)(kg:∀mm b,nt η Hx mm b->nt η H mm b)(tr:Trans (WW ty) η Hx n w η' H' n' w'):Trans (WW ty) η H n w0 η' H' n' w' where
 ext:=tr.ext
 le:=tr.le
 rep:=tr.rep
 kept:=
  {os:=tr.kept.os.trans kept.os
   tape:=tr.kept.tape.trans kept.tape
   output:=tr.kept.output.trans kept.output
   size:=gY kept.size tr.kept.size
   block:=λb hb hF=>by rw[tr.kept.block b (fN hb kept.size) λKl=>hF (kg _ _ Kl),kept.block b hb hF]
   loops:=λb r hb=>let⟨r',h1⟩:=kept.loops b r hb;tr.kept.loops b r' h1}
 lF:=λmm b hb=>by
  rcases tr.lF mm b hb with h1 | h1
  ·exact .inl (kg _ _ h1)
  ·exact .inr (gY kept.size h1)
 ef:=tr.ef
theorem tC.Vx(X:tC P ty η H H0 kb m Lb Lm es dC)(mm:Bool)(b:Nat)(h:nt η H0 mm b):nt η H mm b:=let⟨q,o,L,h1,h2⟩:=h;⟨q,o,L,X.sub q o h1,h2⟩
theorem tC.Vy(X:tC P ty η H H0 kb m Lb Lm es dC)(mm:Bool)(b:Nat)(h:nt η (H0.put (some (.me m dC t)) kb) mm b):nt η H mm b:=by
 obtain⟨q,o,L,h1,h2,h3,h4⟩:=h;rw[Tr.gb]at h1;by_cases e:q=kb
 ·rw[az e]at h1;injection h1 with h1;subst h1;subst e;obtain⟨ob,g1,g2⟩:=X.get;exact⟨q,ob,L,g1,λ_=>g2,h3,h4⟩
 ·rw[ai e]at h1;exact⟨q,o,L,X.sub q o h1,h2,h3,h4⟩
theorem tC.Vz(X:tC P ty η H H0 kb m Lb Lm es dC):¬ nt η (H0.put (some (.me m dC t)) kb) true Lb.blk:=by
 rintro⟨q,o,L,h1,h2,h3,h4⟩;rw[Tr.gb]at h1;by_cases e:q=kb
 ·rw[az e]at h1;injection h1 with h1;subst h1;cases h2 rfl
 ·rw[ai e]at h1;exact X.apart q o L h1 h3 h4
theorem yL.again(X:tC P ty η H H0 kb m Lb Lm es dC)(I:yL ty η H H0 n T w0 fr Lb Lm dC w tmps ds seen c0)(VA:Kept (nt η H true) w0 w2)
 (it2:w2.heap[Lb.blk]?=some (.mapIter (some Lm.blk) dC (seen.push t) dC))(aeH:Marks w0.heap.size η (H0.put (some (.me m dC t)) kb) w2 ds fr.defers)
 (tr:Trans (WW ty) η (H0.put (some (.me m dC t)) kb) n w2 η' H' n' w')(eQ:ep.size=fr.tmps.size){T':Tr V}(K6:br η' T' ep)(mk:Marks w2.heap.size η' H' w' ly ds)
 (hTT:gk dH T T'=true)(hHH:gk vU H0 H'=true):yL ty η H H0 n T w0 fr Lb Lm dC w' ep ly (seen.push t) dC:=by
 have hs:∀q o,H0.get q=some o->H'.get q=some o:=Aq (λ_ _=>Iq) hHH;have eJ:∀q o,H0.get q=some o->nU n o/\q.num<n.num:=λq o hq=>⟨let⟨L,_,_,h⟩:=I.rep.obj q o hq;h.below I.rep.free,I.rep.zL hq⟩;have ψ:Lb.blk<w2.heap.size:=(oC.1 it2).1;refine⟨aeE tr I.rep.free eJ hs,?_,Γ _,?_,eQ,aeF tr I.rep.free (λq v hv=>K6 q v (Aq (λ_ _=>wL) hTT _ _ hv)) (λq v hv=>let⟨y,_,h⟩:=I.jT q v hv;h.mr I.rep.free),?_⟩
 ·rw[tr.kept.block _ ψ X.Vz];exact it2
 ·have:=Trans.from VA (λmm b=>X.Vy mm b) tr;exact this.kept
 ·obtain⟨bs,h1,h2,h3⟩:=aeH.next tr mk VA.size;refine⟨bs,h1,h2,λb hb=>?_⟩;obtain⟨a1,a2,a3⟩:=h3 b hb;refine⟨a1,a2,λ⟨q,o,L,b1,b2,b3,b4⟩=>a3 ⟨q,o,L,hs q o b1,b2,tr.ext _ _ b3,b4⟩⟩
theorem L9(hC:Good P ty C)(fi:ml P ty ih)(hm:fr.mode=.run){d0:Option Tmp}{x0:Operand}{rt:TypeId}{pos:String}{after:Array Edge}(vK:o0=⟨d0,.next x0 false,rt,pos,after,none⟩)
 (hd:iZ fr.tmps.size (o0::rest)=true)(uf:within fr.tmps.size c2=true){r:R}(A7:EE ih (d0.map cT) (eO ty ⟨o0::rest⟩ rest []) (dL ty c2) T H0 n=some r)
 (hx:(execOp (ax tmps) o0).run P w=.ok (.value (.tuple #[.bool false])) w)(hT:br η T tmps)(eQ:tmps.size=fr.tmps.size)(hG:cM η ty.g)(hH:bM (WW ty) η H0 n w)(hl:kO fr w):
 r.ex≠.normal/\∃η' ep ly w',Trans (WW ty) η H0 n w η' r.H r.n w'/\ep.size=fr.tmps.size/\br η' r.T ep/\Marks w.heap.size η' r.H w' ly ds/\jv P η' (lone (put fr tmps ds (.code (.seq (.region rid ⟨o0::rest⟩ false) c2)::k)) cs w) fr cs k r.ex ep ly w':=by
 unfold EE at A7;split at A7
 case h_2=>cases A7
 rename_i T1 v1 H1 n1 L7;have bC:r.ex≠.normal/\ih (.code (dL ty c2) T1) H1 n1=some r:=by
  split at A7
  ·cases A7
  ·rename_i jn;refine⟨λe=>?_,A7⟩;obtain⟨ex,T2,v2,H2,n2⟩:=r;simp only at e;subst e;exact jn _ _ _ _ A7
 have aeI:∀d,o0.dst=some d->d<tmps.size:=λd oO=>by rw[eQ];exact LZ hd o0 (by simp) d oO
 have qc:o0.dst=d0:=by rw[vK]
 have L8:br η (eA (d0.map cT) (some (.u [.b false])) T) (jX o0.dst (.tuple #[.bool false]) tmps):=by rw[←qc];exact hT.jX aeI (.u _ _ (.cons _ _ _ _ (.b _) .nil))
 obtain⟨η',ep,ly,w',b1,b2,b3,b4,b5⟩:=Vr (cs:=cs) (k:=k) (ds:=ds) hC fi hm hd uf L7 bC.2 L8 (by rw[D2];exact eQ) hG hH hl;exact⟨bC.1,η',ep,ly,w',b1,b2,b3,b4,.of_steps (Vq hm (by rw[vK]) (λc h=>by rw[vK]at h;cases h) hx) b5⟩
theorem aeJ(hC:Good P ty C)(fi:ml P ty ih)(hm:fr.mode=.run){d0:Option Tmp}{x0:Operand}{rt:TypeId}{pos:String}{after:Array Edge}(vK:o0=⟨d0,.next x0 false,rt,pos,after,none⟩)
 (hd:iZ fr.tmps.size (o0::rest)=true)(uf:within fr.tmps.size c2=true){x:aJ}(wg:cr ty x0=some x)(X:tC P ty η H H0 kb m Lb Lm es dC)(hG:cM η ty.g)(hl:kO fr w0)(Jx:sN T x kb=true)
 (L6:∀e∈es,∃T' v H' n',Ar ih (d0.map cT) (eO ty ⟨o0::rest⟩ rest []) (dL ty c2) kb m dC T H0 n e=some ⟨.normal,T',v,H',n'⟩/\gk dH T T'=true/\gk vU H0 H'=true)
 {r:R}(A7:EE ih (d0.map cT) (eO ty ⟨o0::rest⟩ rest []) (dL ty c2) T H0 n=some r):
 ∀(OJ:Nat) (w:World) (tmps:Array Value) (ds:List Deferred) (seen:Array Nat) (c0:Nat),yL ty η H H0 n T w0 fr Lb Lm dC w tmps ds seen c0->(es.map (·.2.2)).countP (λt=>!seen.contains t)<=OJ->∃η' ep ly w',Trans (WW ty) η H n w0 η' r.H r.n w'/\ep.size=fr.tmps.size/\br η' r.T ep/\Marks w0.heap.size η' r.H w' ly fr.defers/\jv P η' (lone (put fr tmps ds (.code (.seq (.region rid ⟨o0::rest⟩ false) c2)::.inLoop (.seq (.region rid ⟨o0::rest⟩ false) c2)::k)) cs w) fr cs k r.ex ep ly w':=by
 intro OJ
 induction OJ with
 | zero=>
  intro w tmps ds seen c0 I aeK;rcases L5 (cs:=cs) (rid:=rid) (k:=.inLoop (.seq (.region rid ⟨o0::rest⟩ false) c2)::k) hC fi hm vK hd uf wg X I hG hl Jx (λe he=>let⟨T',v,H',n',h,_⟩:=L6 e he;⟨_,h⟩) with ⟨h1,h2⟩ | ⟨e,rr,w2,η',ep,ly,w',h1,h2,h3⟩
  ·have re:kO fr w:=λl oA=>let⟨q,hq⟩:=hl l oA;I.kept.loops l q hq;obtain⟨bC,η',ep,ly,w',b1,b2,b3,b4,b5⟩:=L9 (cs:=cs) (rid:=rid) (k:=.inLoop (.seq (.region rid ⟨o0::rest⟩ false) c2)::k) (ds:=ds) hC fi hm vK hd uf A7 h2 I.jT I.size hG I.rep re;exact⟨η',ep,ly,w',.from I.kept X.Vx b1,b2,b3,I.marks.next b1 b4 I.kept.size,.pass (by intro id h;cases h) bC b5⟩
  ·exfalso;have h0:(es.map (·.2.2)).countP (λt=>!seen.contains t)=0:=by omega
   rw[List.countP_eq_zero]at h0;have:=h0 e.2.2 (List.mem_map.2 ⟨e,h1,rfl⟩);rw[h2]at this;exact this rfl
 | succ OJ j5=>
  intro w tmps ds seen c0 I aeK;rcases L5 (cs:=cs) (rid:=rid) (k:=.inLoop (.seq (.region rid ⟨o0::rest⟩ false) c2)::k) hC fi hm vK hd uf wg X I hG hl Jx (λe he=>let⟨T',v,H',n',h,_⟩:=L6 e he;⟨_,h⟩) with ⟨h1,h2⟩ | ⟨e,rr,w2,η',ep,ly,w',h1,h2,h3,g1,g2,g3,g4,g5,g6,g7,g8,g9⟩
  ·have re:kO fr w:=λl oA=>let⟨q,hq⟩:=hl l oA;I.kept.loops l q hq;obtain⟨bC,η',ep,ly,w',b1,b2,b3,b4,b5⟩:=L9 (cs:=cs) (rid:=rid) (k:=.inLoop (.seq (.region rid ⟨o0::rest⟩ false) c2)::k) (ds:=ds) hC fi hm vK hd uf A7 h2 I.jT I.size hG I.rep re;exact⟨η',ep,ly,w',.from I.kept X.Vx b1,b2,b3,I.marks.next b1 b4 I.kept.size,.pass (by intro id h;cases h) bC b5⟩
  ·obtain⟨T',v,H',n',q1,q2,q3⟩:=L6 e h1;rw[h3]at q1;injection q1 with q1;subst q1;have I':=I.again X g2 g3 g4 g5 g6 g7 g8 q2 q3;have hc:(es.map (·.2.2)).countP (λt=>!(seen.push e.2.2).contains t)<(es.map (·.2.2)).countP (λt=>!seen.contains t):=by
    refine Vn (λx hx=>?_) (List.mem_map.2 ⟨e,h1,rfl⟩) (by rw[h2];rfl) (by simp);simp at hx ⊢;exact hx.1
   obtain⟨η2,t2,d2,w3,b1,b2,b3,b4,b5⟩:=j5 w' ep ly (seen.push e.2.2) dC I' (by omega);refine⟨η2,t2,d2,w3,b1,b2,b3,b4,.of_steps (Steps.trans g9 (.one (KX hm))) b5⟩
theorem aeL(hC:Good P ty C)(fi:ml P ty ih)(c:Code)(d:Option K)(x:aJ)(l:List AO)(b:AC)(ws:List K)(T:Tr V)(H:Hp)(n:K)(r:R)(hk:uH ty (dL ty c) c=.pH d x l b ws)
 (hr:ca (λ_=>none) ih (.code (.pH d x l b ws) T) H n=some r)(η:Env)(w:World)(fr:Frame)(cs:List Frame)(k:List Item)(hw:within fr.tmps.size (.loop c)=true)
 (hT:br η T fr.tmps)(hG:cM η ty.g)(hH:bM (WW ty) η H n w)(hm:fr.mode=.run)(hl:kO fr w):
 ∃η' tmps ds w',Trans (WW ty) η H n w η' r.H r.n w'/\tmps.size=fr.tmps.size/\br η' r.T tmps/\Marks w.heap.size η' r.H w' ds fr.defers/\jv P η' (lone (put fr fr.tmps fr.defers (.code (.loop c)::k)) cs w) fr cs k r.ex tmps ds w':=by
 obtain⟨rid,d0,x0,rt,pos,after,rest,c2,rfl,rfl,wg,rfl,rfl⟩:=aeD hk;have xi:within fr.tmps.size (.seq (.region rid ⟨⟨d0,.next x0 false,rt,pos,after,none⟩::rest⟩ false) c2)=true:=hw;simp only[within,bG]at xi;obtain⟨kb,m,since,es,dC,hx,hb,wM,rfl,dP,aeM⟩:=aeB hr;obtain⟨Lb,YP,lb2,lb3,Lm,lb4,lb5⟩:=hH.obj kb _ hb;have bC:m≠kb:=λe=>by rw[e,hb]at wM;cases wM
 have X:tC P ty η H (H.put none kb) kb m Lb Lm es since:=by
  have hs:∀q o,(H.put none kb).get q=some o->H.get q=some o:=λq o hq=>by
   rw[Tr.gb]at hq;split at hq
   ·cases hq
   ·exact hq
  refine⟨hs,⟨_,hb,rfl⟩,Tr.GR _ _ _,by rw[Tr.GS _ _ bC];exact wM,YP,lb4,lb3,λq o L hq hL=>?_,dP⟩;have hqk:kb≠q:=λe=>by rw[←e,Tr.GR]at hq;cases hq
  exact λe=>hH.sep kb q _ o Lb L hqk hb rfl (hs q o hq) YP hL e.symm
 have start:∀T0:Tr V,(∀q v,T0.get q=some v->T.get q=some v)->yL ty η H (H.put none kb) n T0 w fr Lb Lm since w fr.tmps fr.defers #[] since:=λT0 h0=>
  ⟨hH.less X.sub,lb5,Γ _,.refl _ _,rfl,λq v hv=>hT q v (h0 _ _ hv),.refl _ _ _ _ _⟩
 have EF:Steps P (lone (put fr fr.tmps fr.defers (.code (.loop (.seq (.region rid ⟨⟨d0,.next x0 false,rt,pos,after,none⟩::rest⟩ false) c2))::k)) cs w)
  (lone (put fr fr.tmps fr.defers (.code (.seq (.region rid ⟨⟨d0,.next x0 false,rt,pos,after,none⟩::rest⟩ false) c2)::.inLoop (.seq (.region rid ⟨⟨d0,.next x0 false,rt,pos,after,none⟩::rest⟩ false) c2)::k)) cs w):=.one (Hc hm)
 rcases aeM with ⟨e,rfl,h⟩ | ⟨h1,h2,h3⟩
 ·
  have I:=start T (λ_ _ h=>h);have Jx:sN T x kb=true:=by unfold sN;rw[hx];exact K.beq_refl _
  unfold Vp at h;cases F3:Ar ih (d0.map cT) (eO ty ⟨⟨d0,.next x0 false,rt,pos,after,none⟩::rest⟩ rest []) (dL ty c2) kb m since T (H.put none kb) n e with
  | none=>rw[F3]at h;cases h
  | some rr=>
   rw[F3]at h;rcases L5 (cs:=cs) (rid:=rid) (k:=.inLoop (.seq (.region rid ⟨⟨d0,.next x0 false,rt,pos,after,none⟩::rest⟩ false) c2)::k) hC fi hm rfl xi.1 xi.2 wg X I hG hl Jx (λe' OI=>by
    have:e'=e:=by simpa using OI
    subst this;exact⟨rr,F3⟩) with ⟨h1,h2⟩ | ⟨e',rr',w2,η',ep,ly,w',h1,h2,h3,g1,g2,g3,g4,g5,g6,g7,g8,g9⟩
   ·exfalso;simp at h1
   ·have he:e'=e:=by simpa using h1
    subst he;rw[F3]at h3;injection h3 with h3;subst h3;have aqd:=g2;have t1:=Trans.from g2 (λmm b=>X.Vy mm b) g5;have OK:=g4.next g5 g8 g2.size;obtain⟨ex,T1,v1,H1,n1⟩:=rr;cases ex with
    | exit id=>
     injection h with h;subst h;exact⟨η',ep,ly,w',t1,g6,g7,OK,.of_steps EF (.pass (by intro id h;cases h) (by intro h;cases h) g9)⟩
    | ret=>
     injection h with h;subst h;exact⟨η',ep,ly,w',t1,g6,g7,OK,.of_steps EF (.pass (by intro id h;cases h) (by intro h;cases h) g9)⟩
    | panic u=>
     injection h with h;subst h;exact⟨η',ep,ly,w',t1,g6,g7,OK,.of_steps EF (.pass (by intro id h;cases h) (by intro h;cases h) g9)⟩
    | normal=>
     simp only at h;split at h
     case h_2=>cases h
     rename_i _ _ _ k' v' t' aeP e1 e2;cases hc:Nat.beq since aeP&&Nat.beq t' e'.2.2&&sN T1 x kb with
     | false=>rw[hc]at h;cases h
     | true=>
      rw[hc]at h;simp only[cond_true]at h;simp only[bG]at hc;obtain⟨⟨zg,OL⟩,A8⟩:=hc;have zg:=cZ zg;have OL:=cZ OL;subst zg;have ψ:Lb.blk<w2.heap.size:=(oC.1 g3).1;have it':w'.heap[Lb.blk]?=some (.mapIter (some Lm.blk) since ((#[]:Array Nat).push e'.2.2) since):=by rw[g5.kept.block _ ψ X.Vz];exact g3
      obtain⟨gL,m1,m2⟩:=xW g5.rep e2 (g5.ext _ _ lb4);have aeQ:e'.2.2<since:=Vt dP e' (by simp);have hold:∀y∈gL.toList,y.born<since:=λy hy=>by obtain⟨_,_,hh,_⟩:=m2.mem y hy;simp only[mN,Prod.mk.injEq]at hh;rw[hh.2.2,OL];exact aeQ
      have hG':=hG.mono g5.ext;have A4:=Vv wg A8 g7 hG' (g5.ext _ _ YP) lb3;have aeS:(leftOf gL ((#[]:Array Nat).push e'.2.2)).size=0:=by rw[Vu,m2.L4];simp[OL]
      have jQ:(execOp (ax ep) ⟨d0,.next x0 false,rt,pos,after,none⟩).run P w'=.ok (.value (.tuple #[.bool false])) w':=by
       rcases run_next_at w' rt Lb.blk Lm.blk since since _ gL since it' m1 hold (Γ _) with ⟨_,h2⟩ | ⟨e2,h1,_⟩
       ·show(do pure (.value (←Instr.next (ax ep x0) false rt)):Sem Next).run P w'=_;rw[A4];show(Sem.bind _ _).run P w'=_;rw[Sem.run_bind',h2];rfl
       ·exfalso;have:leftOf gL ((#[]:Array Nat).push e'.2.2)=#[]:=Array.eq_empty_of_size_eq_zero aeS;rw[this]at h1;cases h1
      have re:kO fr w':=λl oA=>let⟨q,hq⟩:=hl l oA;t1.kept.loops l q hq;have tl:=Trans.less g5.rep kb;obtain⟨oJ,η2,t2,d2,w3,b1,b2,b3,b4,b5⟩:=L9 (cs:=cs) (rid:=rid) (k:=.inLoop (.seq (.region rid ⟨⟨d0,.next x0 false,rt,pos,after,none⟩::rest⟩ false) c2)::k) (ds:=ly) hC fi hm rfl xi.1 xi.2 h jQ g7 g6 hG' tl.rep re;exact⟨η2,t2,d2,w3,(t1.trans tl).trans b1,b2,b3,(OK.trans tl).next b1 b4 t1.kept.size,.of_steps (Steps.trans EF (Steps.trans g9 (.one (KX hm)))) (.pass (by intro id h;cases h) oJ b5)⟩
 ·have I:=start (erase T ws) (λq v h=>aeA ws T q v h);obtain⟨η2,t2,d2,w3,b1,b2,b3,b4,b5⟩:=aeJ (cs:=cs) (rid:=rid) (k:=k) hC fi hm rfl xi.1 xi.2 wg X hG hl h1 (aeC h2) h3 _ w fr.tmps fr.defers #[] since I (Γ _);exact⟨η2,t2,d2,w3,b1,b2,b3,b4,.of_steps EF b5⟩
end
end
end Go.Ev
namespace Go.Ev
open Go
section
section ops
variable {P:Program}{ty:Ty}{C:Nat->Option bP}{W:Nat->Code->AC->Prop}{ih:eh}{η η':Env}{T:Tr V}{H H':Hp}{n n':K}{w w':World}{v:V}{tmps:Array Value}{ds:List Deferred}{fr:Frame}{cs:List Frame}{k:List Item}
theorem Ma{N M:Nat}(hNM:N<=M):∀c,within N c=true->within M c=true:=by
 have hd:∀l,iZ N l=true->iZ M l=true:=by
  intro l
  induction l with
  | nil=>intro _;rfl
  | cons o l ih=>
   intro h;simp only[iZ,bG]at h ⊢;refine⟨?_,ih h.2⟩;have h1:=h.1;split at h1
   ·rename_i d hd;rw[gf,bT]at h1 ⊢;omega
   ·rfl
 have hb:∀l,oG N l=true->oG M l=true:=by
  intro l
  induction l with
  | nil=>intro _;rfl
  | cons d l ih=>
   intro h;simp only[oG,bG]at h ⊢;refine⟨?_,ih h.2⟩;have h1:=h.1;rw[gf,bT]at h1 ⊢;omega
 intro c
 induction c with
 | region id ops dr=>exact hd _
 | seq a b jJ rh=>intro h;simp only[within,bG]at h ⊢;exact⟨jJ h.1,rh h.2⟩
 | cond x a b jJ rh=>intro h;simp only[within,bG]at h ⊢;exact⟨jJ h.1,rh h.2⟩
 | block id a jJ=>exact jJ
 | loop a jJ=>exact jJ
 | scope a jJ=>exact jJ
 | rangeFunc f ps a b jJ rh=>intro h;simp only[within,bG]at h ⊢;exact⟨⟨hb _ h.1.1,jJ h.1.2⟩,rh h.2⟩
 | _=>intro _;rfl
theorem aeT{ds0:List Deferred}:∀(bs:List Nat) (w':World),fr.mode≠.run->Trans W η H n w η' H' n' w'->(∀b∈bs,w.heap.size<=b/\w'.heap[b]?=some (.deferred (some [])))->bs.Nodup->∃w2,Steps P (lone { fr with defers:=bs.map (λb=>{ target:=.collected b,args:=#[]})++ds0} cs w') (lone { fr with defers:=ds0} cs w2)/\Trans W η H n w η' H' n' w2:=by
 intro bs
 induction bs with
 | nil=>intro w' hm ht _ _;exact⟨w',.refl _ _,ht⟩
 | cons b bs ih=>
  intro w' hm ht hb pr;obtain⟨h1,h2⟩:=hb b (by simp);have vH:=ht.deferred (d':=none) h2 h1;obtain⟨w2,s2,t2⟩:=ih _ hm vH (λq hq=>by
   obtain⟨g1,g2⟩:=hb q (by simp[hq]);refine⟨g1,?_⟩;have bC:b≠q:=λe=>by rw[e]at pr;exact(List.nodup_cons.1 pr).1 hq
   show(w'.heap.setIfInBounds b (.deferred none))[q]?=_;rw[gO,ai bC];exact g2) (List.nodup_cons.1 pr).2
  exact⟨w2,Steps.head (Rf (bs:=bs) hm h2) s2,t2⟩
theorem aeU{ops:Array Oper}{i:Nat}{rest:List Nat}{o:Oper}{c:Call}{d:Deferred}(hm:fr.mode=.run)(hr:fr.roundOf=none)(ho:ops[i]?=some o)(fm:o.op=.defer c)(hg:o.guard=none)
 (zX:(resolve (ax tmps) c o.type).run P w=.ok d w):
 step P (lone (put fr tmps ds (.inRegion ops (i::rest)::k)) cs w)=.next (lone (put fr (jX o.dst undef tmps) (d::ds) (.inRegion ops rest::k)) cs w):=by
 obtain⟨fn,nP,todo,defers,mode,kind,roundOf⟩:=fr;simp only at hm hr;subst hm;subst hr;have hw:Region.wanted o (yielded ops tmps)=true:=by unfold Region.wanted;rw[hg]
 have A4:Frame.eval { fn,tmps,todo:=.inRegion ops (i::rest)::k,defers:=ds,mode:=.run,kind,roundOf:=none}=ax tmps:=by rw[eval_eq]
 have hex:(execOp (ax tmps) o).run P w=.ok (.defer d) w:=by obtain⟨dst,op,rt,pos,after,gd⟩:=o;subst fm;show(do pure (.defer (←resolve (ax tmps) c rt)):Sem Next).run P w=_;show(Sem.bind _ _).run P w=_;rw[Sem.run_bind',zX];rfl
 refine iY ?_;simp only[put,stepG,stepG.exec,ho,rz,Option.getD_some,hw,if_true];have:stepG.oper P true { fn,tmps,todo:=.inRegion ops (i::rest)::k,defers:=ds,mode:=.run,kind,roundOf:=none} cs none w=
  stepG.apply P true { fn,tmps,todo:=.inRegion ops (i::rest)::k,defers:=ds,mode:=.run,kind,roundOf:=none} cs none (execOp (ax tmps) o) w:=by
  simp only[stepG.oper,Frame.oper?,ho,A4]
 rw[this];simp only[stepG.apply,Sem.runT_eq,hex,GStep.bare_after];simp only[Frame.finish,ho,Bv];rfl
def found(caller:Frame)(x:Value)(mY:Frame):Prop:=
 (caller.mode=.returning/\x=.nilIface/\mY=caller)\/
 (caller.mode=.panicking [{ v:=x,recovered:=false}]/\mY={ caller with mode:=.panicking [{ v:=x,recovered:=true}]})
theorem aeV{ops:Array Oper}{i:Nat}{rest:List Nat}{o:Oper}{a:Array Operand}{t:Array TypeId}{caller mY:Frame}{x:Value}(hm:fr.mode=.run)(hk:fr.kind=.deferred)(hr:fr.roundOf=none)(ho:ops[i]?=some o)(fm:o.op=.call ⟨.builtin .recover,a,t⟩)(hg:o.guard=none)
 (hf:found caller x mY):
 step P (lone (put fr tmps ds (.inRegion ops (i::rest)::k)) (caller::cs) w)=.next (lone (put fr (jX o.dst x tmps) ds (.inRegion ops rest::k)) (mY::cs) w):=by
 obtain⟨fn,nP,todo,defers,mode,kind,roundOf⟩:=fr;simp only at hm hr hk;subst hm;subst hr;subst hk;have hw:Region.wanted o (yielded ops tmps)=true:=by unfold Region.wanted;rw[hg]
 have A4:Frame.eval { fn,tmps,todo:=.inRegion ops (i::rest)::k,defers:=ds,mode:=.run,kind:=.deferred,roundOf:=none}=ax tmps:=by rw[eval_eq]
 have hex:(execOp (ax tmps) o).run P w=.ok .recover w:=by obtain⟨dst,op,rt,pos,after,gd⟩:=o;subst fm;rfl
 refine iY ?_;simp only[put,stepG,stepG.exec,ho,rz,Option.getD_some,hw,if_true];have:stepG.oper P true { fn,tmps,todo:=.inRegion ops (i::rest)::k,defers:=ds,mode:=.run,kind:=.deferred,roundOf:=none} (caller::cs) none w=
  stepG.apply P true { fn,tmps,todo:=.inRegion ops (i::rest)::k,defers:=ds,mode:=.run,kind:=.deferred,roundOf:=none} (caller::cs) none (execOp (ax tmps) o) w:=by
  simp only[stepG.oper,Frame.oper?,ho,A4]
 rw[this];simp only[stepG.apply,Sem.runT_eq,hex,GStep.bare_after];rcases hf with ⟨h1,rfl,rfl⟩ | ⟨h1,rfl⟩
 ·simp only[tryRecover,h1];simp only[Frame.finish,ho,Bv];rfl
 ·simp only[tryRecover,h1];simp only[Frame.finish,ho,Bv];rfl
theorem aeW{g:Nat}{cap:Array Value}{args:Array Value}{ds0:List Deferred}{av:Array Value}(hm:fr.mode≠.run)(hd:fr.defers={ target:=.fn (.func g) cap,args}::ds0)(pO:(invoke (.fn (.func g) cap) args).run P w=.ok (.enter g av) w):
 step P (lone fr cs w)=.next (lone (Frame.enter P g av .deferred) ({ fr with defers:=ds0}::cs) w):=by
 obtain⟨fn,nP,todo,defers,mode,kind,roundOf⟩:=fr;simp only at hm hd;subst hd;refine iY ?_;cases mode with
 | run=>exact absurd rfl hm
 | _=>simp[stepG,unwind,callDeferred,Sem.runT_eq,pO]
theorem aeX{caller:Frame}{x:Value}{cf:Func}{y:Value}(hf:P.funcs[fr.fn]?=some cf)(hm:fr.mode=.returning)(hd:fr.defers=[])(hk:fr.kind=.deferred)(zX:(results cf fr.tmps).run P w=.ok y w)
 (hc:caller.mode=.returning\/caller.mode=.panicking [{ v:=x,recovered:=true}]):
 step P (lone fr (caller::cs) w)=.next (lone { caller with mode:=.returning} cs w):=by
 obtain⟨fn,nP,todo,defers,mode,kind,roundOf⟩:=fr;simp only at hm hd hk hf zX;subst hd;subst hk;subst hm;refine iY ?_;rcases hc with h | h
 ·have e:({ caller with mode:=.returning}:Frame)=caller:=by rw[←h]
  simp[stepG,unwind,hf,zX,doReturn,h,e]
 ·simp[stepG,unwind,hf,zX,doReturn,h]
end ops
end
section
section ops
variable {P:Program}{ty:Ty}{C:Nat->Option bP}{W:Nat->Code->AC->Prop}{ih:eh}{η η':Env}{T:Tr V}{H H':Hp}{n n':K}{w w':World}{v:V}{tmps:Array Value}{ds:List Deferred}{fr:Frame}{cs:List Frame}{k:List Item}
theorem aeY{fn:Func}{cl:Nat->Option Func}{af:Bx}(h:xN ty fn cl=some af):
 ∃(i1 i2 i3:Nat) (pre:Array Oper) (s:Tmp) (g:FuncId) (hZ:Array Operand) (t1 t2 t3:TypeId) (p1 p2 p3:String) (e1 e2 e3:Array Edge) (CU Mb:Array TypeId) (a3:Array Operand) (rest oH:Code) (q:Tmp) (cf:Func) (rs:List AR) (DE:List aJ),fn.body=some (.seq (.region i1 pre false) (.seq (.region i2 ⟨[⟨some s,.makeFunc (.func g) ⟨[]⟩ hZ,t1,p1,e1,none⟩,⟨none,.defer ⟨.value (.tmp s),⟨[]⟩,CU⟩,t2,p2,e2,none⟩]⟩ false) rest))/\xM ty fn.results.toList=some rs/\pK ty hZ.toList=some DE/\cl g=some cf/\cf.body=some (.seq (.region i3 ⟨[⟨some q,.call ⟨.builtin .recover,a3,Mb⟩,t3,p3,e3,none⟩]⟩ false) oH)/\iZ fn.ntmps pre.toList=true/\s<fn.ntmps/\within fn.ntmps rest=true/\q<cf.ntmps/\within cf.ntmps oH=true/\cf.results.size=0/\af={ jT:=(List.range (fn.params.size+fn.nfree)).map cT,res:=rs,pre:=eO ty pre pre.toList [],J4:=cT s,g:=g,hZ:=DE,body:=dL ty rest,J5:=(List.range (cf.params.size+cf.nfree)).map cT,J6:=cT q,J7:=dL ty oH}:=by
 unfold xN at h;split at h
 case h_2=>cases h
 rename_i oS CQ;split at h
 case h_2=>cases h
 rename_i aeZ iV;split at h
 case h_2=>cases h
 rename_i Ju;simp only[iW]at h;split at h
 case isFalse=>cases h
 rename_i uK;simp only[bG,gf,bT]at uK;obtain⟨c1,c2,c3,c4,c5,c6,c7⟩:=uK;injection h with h;have c1:=cZ c1;subst c1;exact⟨_,_,_,_,_,_,_,_,_,_,_,_,_,_,_,_,_,_,_,_,_,_,_,_,_,oS,CQ,aeZ,iV,Ju,c2,c3,c4,c5,c6,cZ c7,h.symm⟩
theorem VB{g:Nat}{fn:Func}{body:Code}(oo:P.funcs[g]?=some fn)(hb:fn.body=some body)(av:Array Value)(kd:CallKind):
 Frame.enter P g av kd={ fn:=g,tmps:=av++Array.replicate (fn.ntmps - av.size) undef,todo:=[.code body],defers:=[],mode:=.run,kind:=kd}:=by
 simp[Frame.enter,oo,hb]
theorem VC{vs:List V}{xs:List Value}{m:Nat}(jb:bB η vs xs)(hT:binds ((List.range m).map cT) vs .e=some T)(N:Nat):br η T (xs.toArray++Array.replicate N undef):=by rw[xz]at hT;refine K0 _ xs 0 _ .e T jb (λt v h=>by rw[Tr.iz]at h;cases h) (λj x hj=>?_) hT;have ψ:=(nL.1 hj).1;rw[hY];rw[Array.getElem?_append_left (by simpa using ψ)];simpa using hj
theorem VD{g:Nat}{fn:Func}{body:Code}(oo:P.funcs[g]?=some fn)(hb:fn.body=some body)(rJ:(fn.name == "runtime.NumGoroutine")=false)(av:Array Value):(callFunc g av).run P w=.ok (.enter g av) w:=by
 have K2:¬ fn.name = "runtime.NumGoroutine":=by simpa using rJ
 simp[callFunc,program,bind,Sem.bind,Sem.run,oo,K2,hb,pure]
theorem ae0(hC:Good P ty C)(fi:ml P ty ih){g:Nat}{a c l:List V}{af:Bx}(hg:C g=some (.zF af)){r:R}(hr:ca C ih (.call (.f g a c) l) H n=some r):mj P ty (.call (.f g a c) l) H n r:=by
 intro η w qd cs fv args vI jY hG hH;obtain⟨fn,cf,oo,rJ,y9,mH,ae1⟩:=hC.zF g af hg;obtain⟨i1,i2,i3,pre,s,g',hZ,t1,t2,t3,p1,p2,p3,e1,e2,e3,CU,Mb,a3,rest,oH,q,cf',rs,DE,oS,CQ,ae2,iV,Ju,k2,k3,k4,k5,k6,k7,rfl⟩:=aeY y9;simp only at mH iV;rw[mH]at iV;injection iV with iV;subst iV;simp only[ca,hg]at hr;split at hr
 case h_2=>cases hr
 rename_i T0 zS;split at hr
 case h_2=>cases hr
 rename_i T1 v1 H1 n1 h0;split at hr
 case h_2=>cases hr
 rename_i cv hcv;split at hr
 case h_1=>cases hr
 case h_3=>cases hr
 rename_i ex T2 v2 H2 n2 jn h1;split at hr
 case h_2=>cases hr
 rename_i Tc hTc;split at hr
 case h_1=>cases hr
 case h_2=>cases hr
 case h_4=>cases hr
 rename_i ex3 T3 v3 H3 n3 ae3 ae4 h3;split at hr
 case h_2=>cases hr
 rename_i v hv;injection hr with hr;subst hr;refine⟨λ_=>?_,λu h=>by cases h⟩;cases vI with
 | f _ _ _ a' c' ha tc=>
 have jb:bB η (a++(l++c)) (a'++(args++c')):=ha.append (jY.append tc);generalize jo:a'++(args++c')=xs at jb;let av:Array Value:=xs.toArray;let tm:Array Value:=av++Array.replicate (fn.ntmps - av.size) undef;have zV:fn.ntmps<=tm.size:=by simp only[tm,zy,Array.size_replicate];omega
 have hT:br η T0 tm:=VC jb zS _;let eu:Frame:={ fn:=g,tmps:=tm,todo:=[],defers:=[],mode:=.run,kind:=.normal};have pO:(do let d←Deferred.ofValue (.func (.func g) ⟨a'⟩ ⟨c'⟩) args.toArray;invoke d.target d.args:Sem Next).run P w=.ok (.enter g av) w:=by
  have YK:(⟨a'⟩:Array Value)++args.toArray++(⟨c'⟩:Array Value)=av:=by apply j9;simp[av,←jo]
  have:(do let d←Deferred.ofValue (.func (.func g) ⟨a'⟩ ⟨c'⟩) args.toArray;invoke d.target d.args:Sem Next)=callFunc g ((⟨a'⟩:Array Value)++args.toArray++(⟨c'⟩:Array Value)):=rfl;rw[this,YK];exact VD oo oS rJ av
 obtain⟨η1,tD,w1,g1,g2,g3,g4⟩:=KV (fr:=eu) (cs:=qd::cs) (k:=[.code (.seq (.region i2 ⟨[⟨some s,.makeFunc (.func g') ⟨[]⟩ hZ,t1,p1,e1,none⟩,⟨none,.defer ⟨.value (.tmp s),⟨[]⟩,CU⟩,t2,p2,e2,none⟩]⟩ false) rest)]) (ds:=[]) hC fi rfl
  (show iZ tm.size pre.toList=true from Ma zV (.region 0 pre false) k2) pre.toList 0 rfl η T0 H n w tm _ h0 hT rfl hG hH
 have s0:Steps P (lone (Frame.enter P g av .normal) (qd::cs) w) (lone (put eu tD [] [.code (.seq (.region i2 ⟨[⟨some s,.makeFunc (.func g') ⟨[]⟩ hZ,t1,p1,e1,none⟩,⟨none,.defer ⟨.value (.tmp s),⟨[]⟩,CU⟩,t2,p2,e2,none⟩]⟩ false) rest)]) (qd::cs) w1):=by
  rw[VB oo oS];have e:({ fn:=g,tmps:=av++Array.replicate (fn.ntmps - av.size) undef,todo:=[.code (.seq (.region i1 pre false) (.seq (.region i2 ⟨[⟨some s,.makeFunc (.func g') ⟨[]⟩ hZ,t1,p1,e1,none⟩,⟨none,.defer ⟨.value (.tmp s),⟨[]⟩,CU⟩,t2,p2,e2,none⟩]⟩ false) rest))],defers:=[],mode:=.run,kind:=.normal}:Frame)=
   put eu tm [] (.code (.seq (.region i1 pre false) (.seq (.region i2 ⟨[⟨some s,.makeFunc (.func g') ⟨[]⟩ hZ,t1,p1,e1,none⟩,⟨none,.defer ⟨.value (.tmp s),⟨[]⟩,CU⟩,t2,p2,e2,none⟩]⟩ false) rest))::[]):=rfl
  rw[e];refine Steps.head (BP rfl) (Steps.head (D4 rfl) ?_);have eQ:pre.toList.length=pre.size:=by simp
  rw[eQ,←xz]at g4;exact g4
 have YQ:=hG.mono g1.ext;have VE:=BH g3 YQ ae2 hcv;have kh:s<tD.size:=by rw[g2];exact fN k3 zV
 have e0:∀f:Operand->Value,(⟨[]⟩:Array Operand).map f=⟨[]⟩:=λf=>by apply j9;simp
 let F4:Value:=.func (.func g') ⟨[]⟩ ⟨hZ.toList.map (ax tD)⟩;have ae5:aC η1 (.f g' [] cv) F4:=.f _ _ _ _ _ .nil VE;let zh:Array Value:=tD.setIfInBounds s F4;have L8:br η1 (T1.put (some (.f g' [] cv)) (cT s)) zh:=g3.set kh ae5;let d:Deferred:={ target:=.fn (.func g') ⟨hZ.toList.map (ax tD)⟩,args:=⟨[]⟩};have s1:Steps P (lone (put eu tD [] [.code (.seq (.region i2 ⟨[⟨some s,.makeFunc (.func g') ⟨[]⟩ hZ,t1,p1,e1,none⟩,⟨none,.defer ⟨.value (.tmp s),⟨[]⟩,CU⟩,t2,p2,e2,none⟩]⟩ false) rest)]) (qd::cs) w1)
  (lone (put eu zh [d] [.code rest]) (qd::cs) w1):=by
  refine Steps.head (BP rfl) (Steps.head (D4 rfl) ?_);show Steps P (lone (put eu tD [] (.inRegion _ [0,1]::[.code rest])) (qd::cs) w1) _;have dP:=DZ (P:=P) (cs:=qd::cs) (w:=w1) (fr:=put eu tD [] (.inRegion ⟨[⟨some s,.makeFunc (.func g') ⟨[]⟩ hZ,t1,p1,e1,none⟩,⟨none,.defer ⟨.value (.tmp s),⟨[]⟩,CU⟩,t2,p2,e2,none⟩]⟩ [0,1]::[.code rest])) U U
   (o:=⟨some s,.makeFunc (.func g') ⟨[]⟩ hZ,t1,p1,e1,none⟩) U U (λc h=>by cases h)
  rw[eval_put]at dP;have om:(execOp (ax tD) ⟨some s,.makeFunc (.func g') ⟨[]⟩ hZ,t1,p1,e1,none⟩).run P w1=.ok (.value F4) w1:=by
   have:hZ.map (ax tD)=⟨hZ.toList.map (ax tD)⟩:=by apply j9;simp
   show(Sem.pure (Next.value (.func (.func g') ((⟨[]⟩:Array Operand).map (ax tD)) (hZ.map (ax tD))))).run P w1=_;rw[this,e0];rfl
  have h1:=Ha dP (λ_ _ _ _ h=>by cases h) (v:=F4) (w':=w1) ⟨.value F4,w1,om,rfl,rfl⟩;rw[G9]at h1;refine Steps.trans h1 (Steps.head (aeU (d:=d) U U (o:=⟨none,.defer ⟨.value (.tmp s),⟨[]⟩,CU⟩,t2,p2,e2,none⟩) U U U ?_) (.one (Hb rfl)));have A4:ax zh (.tmp s)=F4:=by show zh.getD s undef=F4;simp[zh,xp,kh]
  show(Deferred.ofValue (ax zh (.tmp s)) ((⟨[]⟩:Array Operand).map (ax zh))).run P w1=_;rw[A4,e0];rfl
 have ae6:zh.size=tm.size:=by simp only[zh,Array.size_setIfInBounds];exact g2
 obtain⟨η2,A9,d3,w2,q1,q2,q3,⟨bs,m1,m2,m3⟩,q5⟩:=fi _ _ _ _ h1 η1 w1 (put eu zh [d] []) (qd::cs) [] rest ⟨rfl,by show within zh.size rest=true;rw[ae6];exact Ma zV rest k4⟩ L8 YQ g1.rep U (by intro l h;cases h);have m1:d3=bs.map (λb=>{ target:=.collected b,args:=#[]})++[d]:=m1;subst m1;have leave:∃(todo:List Item) (md:FrameMode) (x:Value) (mY:Frame),md≠.run/\aC η2 ex.Kc x/\found { put eu A9 [] todo with mode:=md} x mY/\(mY.mode=.returning\/mY.mode=.panicking [{ v:=x,recovered:=true}])/\({ mY with mode:=.returning}:Frame)={ put eu A9 [] todo with mode:=.returning}/\Steps P (lone (put eu zh [d] [.code rest]) (qd::cs) w1) (lone { put eu A9 (bs.map (λb=>{ target:=.collected b,args:=#[]})++[d]) todo with mode:=md} (qd::cs) w2):=by
  cases ex with
  | normal=>exact⟨[],.returning,.nilIface,_,(by intro h;cases h),.ni,.inl ⟨rfl,rfl,rfl⟩,.inl U,rfl,Steps.trans q5 (.one (returning rfl rfl))⟩
  | ret=>obtain⟨k1,q5⟩:=q5;exact⟨.code .ret::k1,.returning,.nilIface,_,(by intro h;cases h),.ni,.inl ⟨rfl,rfl,rfl⟩,.inl U,rfl,Steps.trans q5 (.one (He rfl rfl))⟩
  | exit id=>exact(jn id rfl).elim
  | panic u=>obtain⟨k1,x,q6,q5⟩:=q5;exact⟨k1,.panicking [{ v:=x,recovered:=false}],x,_,(by intro h;cases h),q6,.inr ⟨rfl,rfl⟩,.inr U,rfl,q5⟩
 obtain⟨todo,md,x,mY,hmd,hx,ae8,tE,Mc,s2⟩:=leave;obtain⟨w3,s3,t3'⟩:=aeT (P:=P) (cs:=qd::cs) (ds0:=[d]) (fr:={ put eu A9 [] todo with mode:=md}) bs w2 hmd q1 (λb hb=>⟨(m3 b hb).1,(m3 b hb).2.1⟩) m2;let cx:List Value:=hZ.toList.map (ax tD);have afa:(⟨[]⟩:Array Value)++(⟨hZ.toList.map (ax tD)⟩:Array Value)=cx.toArray:=by apply j9;simp[cx]
 have s4:Steps P (lone { put eu A9 [d] todo with mode:=md} (qd::cs) w3) (lone (Frame.enter P g' cx.toArray .deferred) ({ put eu A9 [] todo with mode:=md}::qd::cs) w3):=
  .one (aeW (fr:={ put eu A9 [d] todo with mode:=md}) (ds0:=[]) hmd rfl (by
   show(callFunc g' ((⟨[]⟩:Array Value)++(⟨hZ.toList.map (ax tD)⟩:Array Value))).run P w3=_;rw[afa];exact VD mH Ju ae1 _))
 let zi:Array Value:=cx.toArray++Array.replicate (cf.ntmps - cx.toArray.size) undef;have VF:cf.ntmps<=zi.size:=by simp only[zi,zy,Array.size_replicate];omega
 have hcT:br η2 Tc zi:=VC (VE.mono q1.ext) hTc _;let CV:Frame:={ fn:=g',tmps:=zi,todo:=[],defers:=[],mode:=.run,kind:=.deferred};have afb:q<zi.size:=fN k5 VF;have s5:Steps P (lone (Frame.enter P g' cx.toArray .deferred) ({ put eu A9 [] todo with mode:=md}::qd::cs) w3) (lone (put CV (zi.setIfInBounds q x) [] [.code oH]) (mY::qd::cs) w3):=by
  rw[VB mH Ju];have e:({ fn:=g',tmps:=cx.toArray++Array.replicate (cf.ntmps - cx.toArray.size) undef,todo:=[.code (.seq (.region i3 ⟨[⟨some q,.call ⟨.builtin .recover,a3,Mb⟩,t3,p3,e3,none⟩]⟩ false) oH)],defers:=[],mode:=.run,kind:=.deferred}:Frame)=
   put CV zi [] (.code (.seq (.region i3 ⟨[⟨some q,.call ⟨.builtin .recover,a3,Mb⟩,t3,p3,e3,none⟩]⟩ false) oH)::[]):=rfl
  rw[e];refine Steps.head (BP rfl) (Steps.head (D4 rfl) ?_);show Steps P (lone (put CV zi [] (.inRegion _ [0]::[.code oH])) _ w3) _;exact Steps.head (aeV rfl rfl rfl (o:=⟨some q,.call ⟨.builtin .recover,a3,Mb⟩,t3,p3,e3,none⟩) U U U ae8) (.one (Hb rfl))
 have afc:br η2 (Tc.put (some ex.Kc) (cT q)) (zi.setIfInBounds q x):=hcT.set afb hx;have hG2:=YQ.mono q1.ext;obtain⟨η3,Jy,d4,w4,r1,r2,r3,⟨ny,YR,m2',m3'⟩,r5⟩:=fi _ _ _ _ h3 η2 w3 (put CV (zi.setIfInBounds q x) [] []) (mY::qd::cs) [] oH ⟨rfl,by show within (zi.setIfInBounds q x).size oH=true;rw[Array.size_setIfInBounds];exact Ma VF oH k6⟩ afc hG2 t3'.rep U (by intro l h;cases h);have YR:d4=ny.map (λb=>{ target:=.collected b,args:=#[]}):=by simpa[CV,put]using YR
 subst YR;have afe:∃Is,Steps P (lone (put CV (zi.setIfInBounds q x) [] [.code oH]) (mY::qd::cs) w3) (lone { put CV Jy (ny.map (λb=>{ target:=.collected b,args:=#[]})) Is with mode:=.returning} (mY::qd::cs) w4):=by
  cases ex3 with
  | normal=>exact⟨[],Steps.trans r5 (.one (returning rfl rfl))⟩
  | ret=>obtain⟨k1,r5⟩:=r5;exact⟨_,Steps.trans r5 (.one (He rfl rfl))⟩
  | exit id=>exact(ae3 id rfl).elim
  | panic u=>exact(ae4 u rfl).elim
 obtain⟨Is,s6⟩:=afe;obtain⟨w5,s7,t5⟩:=Hg (P:=P) (cs:=mY::qd::cs) (fr:={ put CV Jy [] Is with mode:=.returning}) ny w4 (by intro h;cases h) r1 (λb hb=>⟨(m3' b hb).1,(m3' b hb).2.1⟩) m2'
 have aff:(results cf Jy).run P w5=.ok (.tuple #[]) w5:=by
  have:cf.results=#[]:=Array.eq_empty_of_size_eq_zero k7;have e:results cf Jy=(do let vs←cf.results.mapM (D6 Jy);pure (if h:vs.size=1 then vs[0] else .tuple vs)):=rfl
  rw[e,this,Array.mapM_eq_mapM_toList];rfl
 have s8:Steps P (lone { put CV Jy [] Is with mode:=.returning} (mY::qd::cs) w5) (lone { put eu A9 [] todo with mode:=.returning} (qd::cs) w5):=by rw[←Mc];exact .one (aeX (x:=x) (cf:=cf) mH rfl rfl rfl aff tE)
 have VG:=((g1.trans t3').trans t5);obtain⟨y,FV,K5⟩:=KZ hC.aW (q3.mono t5.ext) VG.rep CQ hv;refine⟨η3,y,w5,VG,K5,.enter g av,w,pO,?_⟩;exact Steps.trans s0 (Steps.trans s1 (Steps.trans s2 (Steps.trans s3 (Steps.trans s4 (Steps.trans s5 (Steps.trans s6 (Steps.trans s7 (Steps.trans s8 (.one (step_leave_returned (fr:={ put eu A9 [] todo with mode:=.returning}) ⟨rfl,rfl,rfl,fn,oo,FV⟩))))))))))
end ops
end
def Md(P:Program)(ty:Ty)(C:Nat->Option bP):Prop:=
 ∀g p,C g=some (.pm p)->∀(a c l:List V) (H:Hp) (n:K) (v:V) (H':Hp) (n':K),pm p (a++(l++c)) H n=some (v,H',n')->mj P ty (.call (.f g a c) l) H n ⟨.normal,.e,v,H',n'⟩
theorem VH{P:Program}{ty:Ty}{C:Nat->Option bP}(hC:Good P ty C)(hp:Md P ty C):∀f,ml P ty (ev C f)/\wJ (ev C f):=by
 intro f
 induction f with
 | zero=>exact⟨λj H n r h=>(by cases h),λj H n r h=>(by cases h)⟩
 | succ f ih=>
  obtain⟨fi,hup⟩:=ih;refine⟨λj H n r h=>?_,ad4 hup⟩;have h:ca C (ev C f) j H n=some r:=h;cases j with
  | code a T=>
   refine acr hC fi ?_ h;refine⟨λid ops T H n r hd hr η w fr cs k=>aew hC fi hup id ops T H n r hd hr η w fr cs k,λg ps as body g' T H n r hf hr η w fr cs k=>?_,λc d x l b ws T H n r hk hr η w fr cs k=>aeL hC fi c d x l b ws T H n r hk hr η w fr cs k⟩;exact acQ hC fi hf (by exact hr) η w fr cs k
  | call fv l=>
   cases fv with
   | f g a c=>
    cases hg:C g with
    | none=>simp only[ca,hg]at h;cases h
    | some af=>
     cases af with
     | go af=>exact acy hC fi hg h
     | zF af=>exact ae0 hC fi hg h
     | pm p=>
      simp only[ca,hg]at h;split at h
      ·rename_i v H1 n1 h1;injection h with h;subst h;exact hp g p hg a c l H n v H1 n1 h1
      ·cases h
   | y q=>exact acF hC fi h
   | _=>cases h
def TE.Ok(P:Program)(ty:Ty)(g:Nat)(e:TE):Prop:=mj P ty (.call (.f g [] []) e.args) e.cU e.n ⟨.normal,.e,e.v,e.add,e.n'⟩
def EG(P:Program)(ty:Ty)(C:Nat->Option bP):Prop:=
 ∀g p,C g=some (.pm p)->match p with
  | .vQ=>∃fn,P.funcs[g]?=some fn/\(fn.name == "runtime.NumGoroutine")=false/\fn.body.isNone=true/\Extern.findNext fn=none/\Extern.find fn=some Extern.BytealgIndexByte.indexByte
  | .same=>∃fn,P.funcs[g]?=some fn/\(fn.name == "runtime.NumGoroutine")=false/\fn.body.isNone=true/\Extern.findNext fn=none/\Extern.find fn=some Extern.AbiNoEscape.same
  | .kI es=>∀e∈es,e.Ok P ty g
  | .Ds cU v=>∀H n,(∀k o,cU.get k=some o->H.get k=some o)->mj P ty (.call (.f g [] []) []) H n ⟨.normal,.e,v,H,n⟩
theorem mj.weaken{P:Program}{ty:Ty}{f:V}{l:List V}{H H2:Hp}{n:K}{v:V}{H' H3:Hp}{n':K}(h:mj P ty (.call f l) H n ⟨.normal,.e,v,H',n'⟩)(hs:∀k o,H.get k=some o->H2.get k=some o)(sj:∀k o,H3.get k=some o->H'.get k=some o):
 mj P ty (.call f l) H2 n ⟨.normal,.e,v,H3,n'⟩:=by
 intro η w cf cs fv args vI jY hG hH;refine⟨λ_=>?_,λu h=>by cases h⟩;obtain⟨η',v',w',t,hv,hc⟩:=(h η w cf cs fv args vI jY hG (hH.less hs)).1 rfl;refine⟨η',v',w',⟨t.ext,t.le,t.rep.less sj,?_,λm b hb=>?_,t.ef⟩,hv,hc⟩
 ·refine⟨t.kept.os,t.kept.tape,t.kept.output,t.kept.size,λb hb hF=>t.kept.block b hb λ⟨q,o,L,h1,h2⟩=>hF ⟨q,o,L,hs q o h1,h2⟩,t.kept.loops⟩
 ·obtain⟨q,o,L,h1,h2⟩:=hb;rcases t.lF m b ⟨q,o,L,sj q o h1,h2⟩ with ⟨q',o',L',g1,g2⟩ | g
  ·exact .inl ⟨q',o',L',hs q' o' g1,g2⟩
  ·exact .inr g
theorem afh(c:UInt8):∀(l n i:Nat),Ke (BC c.toNat l n i)=(if Lib.indexByte (cH l n) c == -1 then .i .i64 (-1) else .i .i64 (Lib.indexByte (cH l n) c+i)):=by
 intro l
 induction l with
 | zero=>intro n i;rfl
 | succ l ih=>
  intro n i;simp only[BC,cH,Lib.indexByte,iW];have hb:(Nat.beq (Nat.mod n 256) c.toNat=true)↔((UInt8.ofNat (n % 256)==c)=true):=by
   rw[Nat.beq_eq,beq_iff_eq];constructor
   ·intro h;apply UInt8.toNat.inj;show(n % 256) % 256=_;have h:n % 256=c.toNat:=h;rw[h];have:=c.toNat_lt;omega
   ·intro h;have:=congrArg UInt8.toNat h;have h2:(UInt8.ofNat (n % 256)).toNat=(n % 256) % 256:=rfl;rw[h2]at this;show n % 256=_;omega
  by_cases h:(UInt8.ofNat (n % 256)==c)=true
  ·rw[az (hb.2 h),az h];simp[Ke]
  ·rw[ai (λe=>h (hb.1 e)),ai h,ih];have zb:=Lib.indexByte_ge (cH l (n / 256)) c;show(if Lib.indexByte (cH l (n / 256)) c == -1 then V.i .i64 (-1) else V.i .i64 (Lib.indexByte (cH l (n / 256)) c+((i+1:Nat):Int)))=_
   by_cases h1:(Lib.indexByte (cH l (n / 256)) c == -1)=true
   ·rw[az h1,az h1];rfl
   ·rw[ai h1,ai h1];have nu:Lib.indexByte (cH l (n / 256)) c ≠ -1:=by simpa using h1
    have h2:¬ ((Lib.indexByte (cH l (n / 256)) c+1 == -1)=true):=by rw[beq_iff_eq];omega
    rw[ai h2];congr 1;omega
theorem VI{P:Program}{ty:Ty}{C:Nat->Option bP}(hg:EG P ty C):Md P ty C:=by
 intro g p hp a c l H n v H' n' h;have OM:=hg g p hp;intro η w cf cs fv args vI jY hG hH;refine⟨λ_=>?_,λu h=>by cases h⟩;cases vI with
 | f _ _ _ a' c' ha hc=>
 have jb:bB η (a++(l++c)) (a'++(args++c')):=ha.append (jY.append hc);generalize a++(l++c)=vs at jb h;have jo:(⟨a'⟩:Array Value)++args.toArray++(⟨c'⟩:Array Value)=(a'++(args++c')).toArray:=by apply j9;simp
 generalize a'++(args++c')=xs at jb jo;have Me:(do let d←Deferred.ofValue (.func (.func g) ⟨a'⟩ ⟨c'⟩) args.toArray;invoke d.target d.args:Sem Next)=callFunc g ((⟨a'⟩:Array Value)++args.toArray++(⟨c'⟩:Array Value)):=rfl;have fin:∀(e:Array Value->Sem Value) (fn:Func),P.funcs[g]?=some fn->(fn.name == "runtime.NumGoroutine")=false->fn.body.isNone=true->Extern.findNext fn=none->Extern.find fn=some e->∀y,(e xs.toArray).run P w=.ok y w->aC η v y->H'=H->n'=n->∃η' v' w',Trans (WW ty) η H n w η' H' n' w'/\aC η' v v'/\BO P (do let d←Deferred.ofValue (.func (.func g) ⟨a'⟩ ⟨c'⟩) args.toArray;invoke d.target d.args) cf cs w v' w':=by rintro e fn oo rJ oS tF rK y hy hv rfl rfl;refine⟨η,y,w,.refl hH,hv,.value y,w,?_,rfl,rfl⟩;rw[Me,jo,run_callFunc_extern oo rJ oS tF rK,hy];rfl
 cases p with
 | kI es=>
  obtain⟨e,he,hf,hq⟩:=U4 h;injection hq with h1 h2;injection h2 with h2 h3;subst h1;subst h2;subst h3;simp only[TE.fits,bG]at hf;obtain⟨⟨⟨f1,f2⟩,f3⟩,f4⟩:=hf;have f1:=K.beq_eq f1;have f2:=yK f2;subst f2;have hj:mj P ty (.call (.f g [] []) e.args) e.cU e.n ⟨.normal,.e,e.v,e.add,e.n'⟩:=OM e he;rw[f1]at hj;have qA:=hj.weaken (H2:=H) (H3:=e.add) (λk o hk=>Aq (λ_ _=>Iq) f4 k o hk) (λ_ _ h=>h);obtain⟨η',v',w',t,hv,tE⟩:=(qA η w cf cs (.func (.func g) ⟨[]⟩ ⟨[]⟩) xs (.f _ _ _ _ _ .nil .nil) jb hG hH).1 rfl;refine⟨η',v',w',t,hv,?_⟩;have e2:(do let d←Deferred.ofValue (.func (.func g) ⟨[]⟩ ⟨[]⟩) xs.toArray;invoke d.target d.args:Sem Next)=callFunc g ((⟨[]⟩:Array Value)++xs.toArray++(⟨[]⟩:Array Value)):=rfl;have e3:((⟨[]⟩:Array Value)++xs.toArray++(⟨[]⟩:Array Value))=xs.toArray:=by apply j9;simp
  rw[e2,e3]at tE;rw[Me,jo];exact tE
 | Ds cU u=>
  simp only[pm]at h;split at h
  case h_2=>cases h
  cases ht:gk vU cU H with
  | false=>rw[ht]at h;cases h
  | true=>
  rw[ht]at h;obtain⟨rfl,rfl,rfl⟩:=eo h;obtain⟨η',v',w',t,hv,tE⟩:=(OM _ _ (λk o hk=>Aq (λ_ _=>Iq) ht k o hk) η w cf cs (.func (.func g) ⟨[]⟩ ⟨[]⟩) xs (.f _ _ _ _ _ .nil .nil) jb hG hH).1 rfl;refine⟨η',v',w',t,hv,?_⟩;have e2:(do let d←Deferred.ofValue (.func (.func g) ⟨[]⟩ ⟨[]⟩) xs.toArray;invoke d.target d.args:Sem Next)=callFunc g ((⟨[]⟩:Array Value)++xs.toArray++(⟨[]⟩:Array Value)):=rfl;have e3:((⟨[]⟩:Array Value)++xs.toArray++(⟨[]⟩:Array Value))=xs.toArray:=by apply j9;simp
  rw[e2,e3]at tE;rw[Me,jo];exact tE
 | vQ=>
  obtain⟨fn,oo,rJ,oS,tF,rK⟩:=OM;simp only[pm,DA]at h;split at h
  case h_2=>cases h
  rename_i sl sm bb;cases sD:Nat.blt bb 256 with
  | false=>rw[sD]at h;cases h
  | true=>
  rw[sD]at h;simp only[cond_true]at h;have u9:bb<256:=by rw[gf]at sD;simpa using sD
  obtain⟨rfl,rfl,rfl⟩:=eo h;cases jb with
  | cons _ y _ r h1 h2=>
  cases h2 with
  | cons _ z _ r h2 h3=>
  cases h3;cases h1 with
  | s _ _ ψ=>
  cases h2;have hz:=afh (UInt8.ofNat bb) sl sm 0;have fM:(UInt8.ofNat bb).toNat=bb:=by simp;omega
  rw[fM]at hz;have pO:=Lib.run_indexByteString (P:=P) (strOf sl sm) (Int.ofNat bb) w;refine fin _ fn oo rJ oS tF rK _ pO ?_ rfl rfl;rw[hz];have e1:(strOf sl sm).data.toList=cH sl sm:=by simp[strOf]
  have e2:(Int.ofNat bb).toNat.toUInt8=UInt8.ofNat bb:=rfl;rw[e1,e2];split
  ·rename_i h;rw[beq_iff_eq]at h;rw[h];exact .i _ _
  ·simp only[Int.natCast_zero,Int.add_zero];exact .i _ _
 | same=>
  obtain⟨fn,oo,rJ,oS,tF,rK⟩:=OM;simp only[pm,Kf]at h;split at h
  case h_2=>cases h
  obtain⟨rfl,rfl,rfl⟩:=eo h;cases jb with
  | cons _ y _ r h1 h2=>
  cases h2;exact fin _ fn oo rJ oS tF rK y rfl h1 rfl rfl
def TE.check(C:Nat->Option bP)(fuel:Nat)(g:Nat)(e:TE)(r:Option R):Bool:=
 match r with
 | some ⟨.normal,_,v,H',n'⟩=>dH v e.v&&K.beq n' e.n'&&gk vU e.add H'
 | _=>false
theorem TE.ok{P:Program}{ty:Ty}{C:Nat->Option bP}(hC:Good P ty C)(hg:EG P ty C){fuel g:Nat}{e:TE}(h:e.check C fuel g (ev C fuel (.call (.f g [] []) e.args) e.cU e.n)=true):e.Ok P ty g:=by
 unfold TE.check at h;split at h
 case h_2=>cases h
 rename_i T v H' n' hr;simp only[bG]at h;have h1:=wL h.1.1;have h2:=K.beq_eq h.1.2;subst h1;subst h2;have hj:=(VH hC (VI hg) fuel).1 _ _ _ _ hr;refine mj.weaken (H:=e.cU) (H':=H') (λη w cf cs fv args vI jY hG hH=>⟨λ_=>?_,λu h=>by cases h⟩) (λ_ _ h=>h) (λk o hk=>Aq (λ_ _=>Iq) h.2 k o hk);exact(hj η w cf cs fv args vI jY hG hH).1 rfl
def vh(P:Program)(t:Nat):TD:=
 match P.underlying t with
 | some .bool=>.bool
 | some (.int k)=>.int k
 | some .string=>.str
 | some (.pointer e)=>.ptr e
 | some (.slice e)=>.slice e
 | some (.array n e)=>.arr n e
 | some (.map k e)=>.map k e
 | some (.struct fs)=>.rF (fs.toList.map λf=>(f.type,f.offset)) (fs.toList.all (λf=>f.name != "_")&&(!(P.stoodInHeld t)&&!(P.eqGuardType P.depth t)))
 | some (.func _ _ _)=>.func
 | some (.interface _)=>.iface
 | some .unsafePointer=>.BE
 | _=>.other
def VJ(P:Program)(t:Nat)(i:TI)(z:Value):Bool:=
 Nat.beq i.zero.length i.size&&(bN i.zero&&((match z with | .agg _=>i.desc.agg | .tuple _=>false | _=>!i.desc.agg)&&
  (match i.desc with | .rF fs _=>fs.all (λf=>(P.info? f.1).isSome) | .other=>(P.underlying t).isSome | _=>true)))
def Mf(P:Program)(t:Nat):Option TI:=
 match P.info? t with
 | some i=>match i.zero with
  | some z=>match xH z.cells.toList with
   | some zs=>bif VJ P t { desc:=vh P t,size:=i.size,bytes:=i.bytes,zero:=zs} z then some { desc:=vh P t,size:=i.size,bytes:=i.bytes,zero:=zs} else none
   | none=>none
  | none=>none
 | none=>none
def laid(l:List (Nat×bP)):Tr bP:=
 match l with
 | []=>.e
 | p::l=>(laid l).put (some p.2) (cT p.1)
theorem afi{P:Program}{t:Nat}(h:∀fs pl,vh P t=.rF fs pl->fs.all (λf=>(P.info? f.1).isSome)=true):Kk P t (vh P t):=by
 unfold vh at h ⊢;cases hu:P.underlying t with
 | none=>trivial
 | some d=>
  rw[hu]at h;cases d<;>try (exact hu)
  case struct l=>
   simp only at h ⊢;refine⟨l,hu,rfl,λf hf=>?_,λhp=>?_⟩
   ·have:=h _ _ rfl;rw[ru]at this;have:=this (f.type,f.offset) (List.mem_map.2 ⟨f,hf,rfl⟩);exact GJ.1 this
   ·simp only[bG,vN,ru,bne_iff_ne]at hp;exact⟨λf hf=>hp.1 f (by simpa using hf),hp.2.1,hp.2.2⟩
  case func a b c=>exact⟨a,b,c,hu⟩
  case interface ms=>exact⟨ms,hu⟩
  all_goals trivial
theorem afj{P:Program}{t:Nat}{i:TI}(h:Mf P t=some i):vX P t i:=by
 unfold Mf at h;split at h
 case h_2=>cases h
 rename_i ti DK;split at h
 case h_2=>cases h
 rename_i z hz;split at h
 case h_2=>cases h
 rename_i zs Yx;simp only[iW]at h;split at h
 case isFalse=>cases h
 rename_i sA;injection h with h;subst h;simp only[VJ,bG]at sA;obtain⟨h1,h2,h3,h4⟩:=sA;refine⟨afi λfs pl he=>?_,⟨ti,z,DK,rfl,rfl,hz,Yx,λha=>?_,λha=>?_,cZ h1,h2⟩,λho=>?_⟩
 ·rw[he]at h4;exact h4
 ·have YS:(vh P t).agg=true:=ha;cases z<;>simp only[YS,Bool.not_true]at h3<;>first | exact⟨_,rfl⟩ | cases h3
 ·have YS:(vh P t).agg=false:=ha;cases z<;>simp only[YS]at h3<;>first | rfl | cases h3
 ·have ho:vh P t=.other:=ho;rw[ho]at h4;obtain⟨d,hd⟩:=GJ.1 h4;refine⟨d,hd,λfs e=>?_,λn e' e=>?_⟩
  ·subst e;unfold vh at ho;rw[hd]at ho;cases ho
  ·subst e;unfold vh at ho;rw[hd]at ho;cases ho
def wN(Q:Nat->bP->Prop):List (Nat×bP)->Prop
 | []=>True
 | p::l=>Q p.1 p.2/\wN Q l
theorem Mg{Q:Nat->bP->Prop}:∀{l:List (Nat×bP)},wN Q l->∀{g:Nat} {a:bP},(laid l).get (cT g)=some a->Q g a:=by
 intro l
 induction l with
 | nil=>intro _ g a h;simp only[laid,Tr.iz]at h;cases h
 | cons p l ih=>
  intro hq g a h;simp only[laid,Tr.gb]at h;split at h
  ·rename_i e;have:=GQ e;subst this;injection h with h;subst h;exact hq.1
  ·exact ih hq.2 h
def iJ(P:Program)(ty:Ty)(g:Nat)(a:bP):Prop:=
 match a with
 | .go af=>∃fn,P.funcs[g]?=some fn/\(fn.name == "runtime.NumGoroutine")=false/\zJ ty fn=some af
 | .zF af=>∃fn cf,P.funcs[g]?=some fn/\(fn.name == "runtime.NumGoroutine")=false/\xN ty fn (λi=>P.funcs[i]?)=some af/\P.funcs[af.g]?=some cf/\(cf.name == "runtime.NumGoroutine")=false
 | .pm p=>match p with
  | .vQ=>∃fn,P.funcs[g]?=some fn/\(fn.name == "runtime.NumGoroutine")=false/\fn.body.isNone=true/\Extern.findNext fn=none/\Extern.find fn=some Extern.BytealgIndexByte.indexByte
  | .same=>∃fn,P.funcs[g]?=some fn/\(fn.name == "runtime.NumGoroutine")=false/\fn.body.isNone=true/\Extern.findNext fn=none/\Extern.find fn=some Extern.AbiNoEscape.same
  | .kI es=>∀e∈es,e.Ok P ty g
  | .Ds cU v=>∀H n,(∀k o,cU.get k=some o->H.get k=some o)->mj P ty (.call (.f g [] []) []) H n ⟨.normal,.e,v,H,n⟩
theorem Mh{P:Program}{ty:Ty}{l:List (Nat×bP)}(aW:dO P ty)(hm:P.follows .mixedOrders=true)(hl:wN (iJ P ty) l):Good P ty (λg=>(laid l).get (cT g)):=
 ⟨aW,λg af h=>Mg hl h,hm,λg af h=>Mg hl h⟩
theorem Mi{P:Program}{ty:Ty}{l:List (Nat×bP)}(hl:wN (iJ P ty) l):EG P ty (λg=>(laid l).get (cT g)):=by intro g p h;have:=Mg hl h;cases p<;>exact this
section
section
variable {P:Program}{ty:Ty}
def okB(P:Program)(ty:Ty)(g:Nat):Bool:=match P.funcs[g]? with
 | some fn=>!(fn.name == "runtime.NumGoroutine")&&(zJ ty fn).isSome
 | none=>false
def EH(P:Program)(ty:Ty)(g:Nat):bP:=.go (match P.funcs[g]? with
 | some fn=>(zJ ty fn).getD ⟨[],[],.bad⟩
 | none=>⟨[],[],.bad⟩)
theorem VK{g:Nat}(h:okB P ty g=true):iJ P ty g (EH P ty g):=by
 unfold okB at h;unfold EH;cases hf:P.funcs[g]? with
 | none=>rw[hf]at h;cases h
 | some fn=>
  rw[hf]at h;simp only[bG,vN]at h;obtain⟨a,ha⟩:=GJ.1 h.2;exact⟨fn,hf,h.1,by simp only[ha];rfl⟩
theorem VL:∀{l:List Nat},l.all (okB P ty)=true->wN (iJ P ty) (l.map λg=>(g,EH P ty g))
 | [],_=>trivial
 | g::l,h=>by rw[List.all_cons,bG]at h;exact⟨VK h.1,VL h.2⟩
def It(P:Program)(ty:Ty)(g:Nat):Option AF:=match P.funcs[g]? with
 | some fn=>bif fn.name == "runtime.NumGoroutine" then none else zJ ty fn
 | none=>none
theorem afk{g:Nat}{a:AF}(h:It P ty g=some a):iJ P ty g (.go a):=by
 unfold It at h;cases hf:P.funcs[g]? with
 | none=>rw[hf]at h;cases h
 | some fn=>
  rw[hf]at h;simp only at h;cases hn:fn.name == "runtime.NumGoroutine" with
  | true=>rw[hn]at h;cases h
  | false=>rw[hn]at h;exact⟨fn,hf,hn,h⟩
theorem VM:∀{gs:List Nat} {xs:List AF},gs.map (It P ty)=xs.map some->wN (iJ P ty) (List.zipWith (λg a=>(g,bP.go a)) gs xs)
 | [],_,_=>trivial
 | _::_,[],_=>trivial
 | g::gs,a::xs,h=>by rw[ma,ma]at h;injection h with h1 h2;exact⟨afk h1,VM h2⟩
end
end
def Ca(n:K):Hp->Bool
 | .e=>true
 | .n v l r=>(match v with | none=>true | some (.r l)=>gZ n l | some _=>false)&&(Ca n l&&Ca n r)
theorem Iu{n:K}:∀{H:Hp},Ca n H=true->∀{k:K} {o:O},H.get k=some o->∃l,o=.r l/\gZ n l=true:=by
 intro H
 induction H with
 | e=>intro _ k o h;rw[Tr.iz]at h;cases h
 | n v l r lU tX=>
  intro hp k o h;simp only[Ca,bG]at hp;cases k with
  | h=>
   simp only[Tr.get]at h;subst h;have:=hp.1;cases o with
   | r l=>exact⟨l,rfl,this⟩
   | _=>cases this
  | o k=>exact lU hp.2.1 h
  | i k=>exact tX hp.2.2 h
theorem afl{P:Program}{ty:Ty}{g:Nat}{cU:Hp}{n0:K}{v:V}{H':Hp}{n':K}(hp:Ca n0 cU=true)(hd:∀k o,cU.get k=some o->k.num<n0.num)(hg:ty.g<n0.num)(hv:∀η η' x,aC η v x->aC η' v x)
 (h:mj P ty (.call (.f g [] []) []) cU n0 ⟨.normal,.e,v,H',n'⟩)(H:Hp)(n:K)(hs:∀k o,cU.get k=some o->H.get k=some o):mj P ty (.call (.f g [] []) []) H n ⟨.normal,.e,v,H,n⟩:=by
 intro η w cf cs fv args vI jY hG hH;refine⟨λ_=>?_,λu h=>by cases h⟩;cases vI with
 | f _ _ _ a' c' ha hc=>
 have afm:aC (cY η n0) (.f g [] []) (.func (.func g) ⟨a'⟩ ⟨c'⟩):=by cases ha;cases hc;exact .f _ _ _ _ _ .nil .nil
 have afn:bB (cY η n0) [] args:=by cases jY;exact .nil
 have hG0:cM (cY η n0) ty.g:=λq hq=>let⟨L,h1,h2⟩:=hG q hq;⟨L,qH h1 (by rw[zK];omega),h2⟩;have Jq:bM (WW ty) (cY η n0) cU n0 w:=by
  refine⟨λk o hk=>?_,λk k' o o' L L' bC hk hm _ _ _=>?_,Vl η n0⟩
  ·obtain⟨L,h1,h2,h3⟩:=hH.obj k o (hs k o hk);obtain⟨l,rfl,hl⟩:=Iu hp hk;exact⟨L,qH h1 (hd k _ hk),h2,h3.cY hl⟩
  ·obtain⟨l,rfl,_⟩:=Iu hp hk;cases hm
 obtain⟨η1,y,w1,t,hy,tE⟩:=(h (cY η n0) w cf cs _ args afm afn hG0 Jq).1 rfl;have same:∀b,b<w.heap.size->w1.heap[b]?=w.heap[b]?:=λb hb=>t.kept.block b hb λ⟨q,o,L,h1,h2,_,_⟩=>by obtain⟨l,rfl,_⟩:=Iu hp h1;cases h2 rfl
 refine⟨η,y,w1,⟨.refl _,Γ _,⟨λk o hk=>?_,hH.sep,hH.free⟩,⟨t.kept.os,t.kept.tape,t.kept.output,t.kept.size,λb hb _=>same b hb,t.kept.loops⟩,λm b hb=>.inl hb,λ_ _=>rfl⟩,hv _ _ _ hy,tE⟩;obtain⟨L,h1,h2,h3⟩:=hH.obj k o hk;exact⟨L,h1,fN h2 t.kept.size,by rw[same _ h2];exact h3⟩
end Go.Ev
namespace Go.Ev.F
open Go Go.Ev
noncomputable section
def get{α:Type}(k:K):Tr α->Option α:=
 K.rec (motive:=λ_=>Tr α->Option α) (λt=>Tr.casesOn t none (λv _ _=>v)) (λ_ ih t=>Tr.casesOn t none (λ_ l _=>ih l)) (λ_ ih t=>Tr.casesOn t none (λ_ _ r=>ih r)) k
theorem get_eq{α:Type}(k:K)(t:Tr α):get k t=t.get k:=by
 induction k generalizing t with
 | h=>cases t<;>rfl
 | o p ih=>cases t with
  | e=>rfl
  | n v l r=>exact ih l
 | i p ih=>cases t with
  | e=>rfl
  | n v l r=>exact ih r
def put{α:Type}(v:Option α)(k:K):Tr α->Tr α:=
 K.rec (motive:=λ_=>Tr α->Tr α) (λt=>Tr.casesOn t (.n v .e .e) (λ_ l r=>.n v l r)) (λ_ ih t=>Tr.casesOn t (.n none (ih .e) .e) (λw l r=>.n w (ih l) r))
  (λ_ ih t=>Tr.casesOn t (.n none .e (ih .e)) (λw l r=>.n w l (ih r))) k
theorem put_eq{α:Type}(v:Option α)(k:K)(t:Tr α):put v k t=t.put v k:=by
 induction k generalizing t with
 | h=>cases t<;>rfl
 | o p ih=>cases t with
  | e=>show Tr.n none (put v p .e) .e=_;rw[ih];cases p<;>rfl
  | n w l r=>show Tr.n w (put v p l) r=_;rw[ih];rfl
 | i p ih=>cases t with
  | e=>show Tr.n none .e (put v p .e)=_;rw[ih];cases p<;>rfl
  | n w l r=>show Tr.n w l (put v p r)=_;rw[ih];rfl
def aI(x:aJ):Tr V->Option V:=aJ.casesOn x (λk=>get k) (λv _=>some v)
theorem jh(x:aJ)(T:Tr V):aI x T=Ev.aI T x:=by
 cases x with
 | t k=>exact get_eq k T
 | c v=>rfl
def bu{α β:Type}(x:Option α)(f:α->Option β):Option β:=Option.casesOn x none f
def fP(l:List aJ):Tr V->Option (List V):=
 List.rec (motive:=λ_=>Tr V->Option (List V)) (λ_=>some []) (λx _ ih T=>bu (aI x T) λv=>bu (ih T) λvs=>some (v::vs)) l
theorem Mj(l:List aJ)(T:Tr V):fP l T=Ev.fP T l:=by
 induction l with
 | nil=>rfl
 | cons x l ih=>
  show bu (aI x T) (λv=>bu (fP l T) λvs=>some (v::vs))=_;rw[jh,ih];simp only[Ev.fP];cases Ev.aI T x<;>cases Ev.fP T l<;>rfl
def nth{α:Type}(l:List α):Nat->Option α:=
 List.rec (motive:=λ_=>Nat->Option α) (λ_=>none) (λa _ ih n=>Nat.casesOn n (some a) ih) l
theorem pL{α:Type}(l:List α)(n:Nat):nth l n=Ev.nth l n:=by
 induction l generalizing n with
 | nil=>rfl
 | cons a l ih=>cases n with
  | zero=>rfl
  | succ n=>exact ih n
def takeN{α:Type}(n:Nat):List α->Option (List α):=
 Nat.rec (motive:=λ_=>List α->Option (List α)) (λ_=>some []) (λ_ ih l=>List.casesOn l none (λa l=>bu (ih l) λl'=>some (a::l'))) n
theorem GU{α:Type}(n:Nat)(l:List α):takeN n l=Ev.takeN n l:=by
 induction n generalizing l with
 | zero=>rfl
 | succ n ih=>cases l with
  | nil=>rfl
  | cons a l=>
   show bu (takeN n l) (λl'=>some (a::l'))=_;rw[ih];simp only[Ev.takeN];cases Ev.takeN n l<;>rfl
def pI{α:Type}(n:Nat):List α->Option (List α):=
 Nat.rec (motive:=λ_=>List α->Option (List α)) (λl=>some l) (λ_ ih l=>List.casesOn l none (λ_ l=>ih l)) n
theorem Kg{α:Type}(n:Nat)(l:List α):pI n l=Ev.pI n l:=by
 induction n generalizing l with
 | zero=>cases l<;>rfl
 | succ n ih=>cases l with
  | nil=>rfl
  | cons a l=>exact ih l
def dt{α:Type}(l:List α)(o n:Nat):Option (List α):=bu (pI o l) λl'=>takeN n l'
theorem oI{α:Type}(l:List α)(o n:Nat):dt l o n=Ev.dt l o n:=by
 unfold dt Ev.dt;rw[Kg];cases Ev.pI o l with
 | none=>rfl
 | some l'=>exact GU n l'
def over{α:Type}(vs:List α):List α->Option (List α):=
 List.rec (motive:=λ_=>List α->Option (List α)) (λl=>some l) (λv _ ih l=>List.casesOn l none (λ_ l=>bu (ih l) λl'=>some (v::l'))) vs
theorem afo{α:Type}(vs l:List α):over vs l=Ev.over vs l:=by
 induction vs generalizing l with
 | nil=>cases l<;>rfl
 | cons v vs ih=>cases l with
  | nil=>rfl
  | cons a l=>
   show bu (over vs l) (λl'=>some (v::l'))=_;rw[ih];simp only[Ev.over];cases Ev.over vs l<;>rfl
def eW{α:Type}(vs:List α)(o:Nat):List α->Option (List α):=
 Nat.rec (motive:=λ_=>List α->Option (List α)) (over vs) (λ_ ih l=>List.casesOn l none (λa l=>bu (ih l) λl'=>some (a::l'))) o
theorem afp{α:Type}(vs:List α)(o:Nat)(l:List α):eW vs o l=Ev.eW vs l o:=by
 induction o generalizing l with
 | zero=>exact(afo vs l).trans (by cases l<;>rfl)
 | succ o ih=>cases l with
  | nil=>rfl
  | cons a l=>
   show bu (eW vs o l) (λl'=>some (a::l'))=_;rw[ih];simp only[Ev.eW];cases Ev.eW vs l o<;>rfl
def bN(l:List V):Bool:=List.rec (motive:=λ_=>Bool) true (λv _ ih=>cond (V.one v) ih false) l
theorem afq(l:List V):bN l=Ev.bN l:=by
 induction l with
 | nil=>rfl
 | cons v l ih=>
  show cond (V.one v) (bN l) false=(V.one v&&Ev.bN l);rw[ih];cases V.one v<;>rfl
def row(o:O):Option (List V):=O.casesOn o (λl _ _=>some l) (λl=>some l) (λx y _=>some [x,y]) (λ_ _=>none) (λ_ _=>none) (λ_ _ _=>none) (λ_ _ _=>none) (λ_ _ _ _ _ _=>none)
theorem afr(o:O):row o=o.row:=by cases o<;>rfl
def Ml(v:V):Option (K×Nat):=V.casesOn (motive_1:=λ_=>Option (K×Nat)) v (λ_=>none) (λ_ _=>none) (λ_ _=>none) none (λb o=>some (b,o)) none (λ_ _ _ _=>none) (λ_ _ _ _=>none) none (λ_=>none) none (λ_ _ _=>none) (λ_=>none) none (λ_ _=>none) (λ_=>none) (λ_=>none) none
def Mm(agg:Bool)(sz:Nat)(H:Hp)(q:K×Nat):Option V:=
 bu (get q.1 H) λo=>bu (row o) λl=>cond agg (bu (dt l q.2 sz) λl'=>some (.a l')) (nth l q.2)
def vF(agg:Bool)(sz:Nat)(H:Hp)(v:V):Option V:=bu (Ml v) (Mm agg sz H)
theorem afs(agg:Bool)(sz:Nat)(H:Hp)(v:V):vF agg sz H v=Ev.vF H agg sz v:=by
 cases v<;>try rfl
 rename_i b o;show Mm agg sz H (b,o)=_;unfold Mm;simp only[Ev.vF,rowAt,get_eq];cases H.get b with
 | none=>rfl
 | some ob=>
  show bu (row ob) (λl=>cond agg (bu (dt l o sz) λl'=>some (.a l')) (nth l o))=(match ob.row with
   | some l=>bif agg then (match Ev.dt l o sz with | some l'=>some (.a l') | none=>none) else Ev.nth l o
   | none=>none)
  rw[afr];cases ob.row with
  | none=>rfl
  | some l=>
   show cond agg (bu (dt l o sz) λl'=>some (.a l')) (nth l o)=cond agg (match Ev.dt l o sz with | some l'=>some (.a l') | none=>none) (Ev.nth l o)
   rw[oI,pL];cases agg with
   | false=>rfl
   | true=>simp only[cond_true];cases Ev.dt l o sz<;>rfl
def YT(H:Hp)(b:K)(o:Nat)(vs:List V)(l:List V)(e fz:Nat):Option Hp:=
 cond (Nat.ble fz o) (cond (bN vs) (bu (eW vs o l) λl'=>some (put (some (.c l' e fz)) b H)) none) none
def iP(H:Hp)(b:K)(o:Nat)(vs:List V):Option Hp:=
 bu (get b H) λob=>O.casesOn ob (λl e fz=>YT H b o vs l e fz) (λ_=>none) (λ_ _ _=>Ev.iP H b o vs) (λ_ _=>none) (λ_ _=>none) (λ_ _ _=>none) (λ_ _ _=>none) (λ_ _ _ _ _ _=>none)
theorem aft(H:Hp)(b:K)(o:Nat)(vs:List V):iP H b o vs=Ev.iP H b o vs:=by
 unfold iP;rw[get_eq];cases hb:H.get b with
 | none=>simp only[bu,Ev.iP,hb]
 | some ob=>
  cases ob with
  | c l e fz=>
   show YT H b o vs l e fz=_;unfold YT;simp only[Ev.iP,hb,afq,afp];cases Nat.ble fz o with
   | false=>rfl
   | true=>
    cases Ev.bN vs with
    | false=>rfl
    | true=>
     simp only[cond_true,nN];cases Ev.eW vs l o with
     | none=>rfl
     | some l'=>show some (put _ b H)=_;rw[put_eq]
  | b x y e=>rfl
  | _=>simp only[bu,Ev.iP,hb]
def Mn(sz:Nat)(x:V)(H:Hp)(q:K×Nat):Option Hp:=cond (Nat.beq x.cells.length sz) (iP H q.1 q.2 x.cells) none
def CJ(sz:Nat)(a x:V)(H:Hp):Option Hp:=bu (Ml a) (Mn sz x H)
theorem afu(sz:Nat)(a x:V)(H:Hp):CJ sz a x H=Ev.CJ H sz a x:=by
 cases a<;>try rfl
 rename_i b o;show Mn sz x H (b,o)=_;unfold Mn;rw[aft];rfl
def mk(o:O)(v:K->V)(H:Hp)(n:K):gC:=some (v n,put (some o) n H,n.succ)
theorem mk_eq(o:O)(v:K->V)(H:Hp)(n:K):mk o v H n=j4 H n o (v n):=by unfold mk j4;rw[put_eq]
def eg(H:Hp)(n:K)(x:Option V):gC:=Option.casesOn x none (λv=>some (v,H,n))
theorem lG(H:Hp)(n:K)(x:Option V):eg H n x=Ev.eg H n x:=by cases x<;>rfl
def qt(n:K)(x:Option Hp):gC:=Option.casesOn x none (λH=>some (.u [],H,n))
theorem afv(n:K)(x:Option Hp):qt n x=Ev.qt n x:=by cases x<;>rfl
def sMv(x:aJ)(T:Tr V)(H:Hp)(n:K):gC:=eg H n (aI x T)
def VN(c a b:aJ)(T:Tr V)(H:Hp)(n:K):gC:=bu (aI c T) λv=>V.casesOn (motive_1:=λ_=>gC) v (λx=>eg H n (cond x (aI a T) (aI b T))) (λ_ _=>none) (λ_ _=>none) none (λ_ _=>none) none (λ_ _ _ _=>none) (λ_ _ _ _=>none) none (λ_=>none) none (λ_ _ _=>none) (λ_=>none) none (λ_ _=>none) (λ_=>none) (λ_=>none) none
def VO(e:Nat)(zs:List V)(T:Tr V)(H:Hp)(n:K):gC:=mk (.c zs e 0) (λn=>.p n 0) H n
def sLd(agg:Bool)(sz:Nat)(a:aJ)(T:Tr V)(H:Hp)(n:K):gC:=bu (aI a T) λv=>eg H n (vF agg sz H v)
def sSt(sz:Nat)(a x:aJ)(T:Tr V)(H:Hp)(n:K):gC:=bu (aI a T) λa=>bu (aI x T) λx=>qt n (CJ sz a x H)
def nck(v:V):Option V:=V.casesOn (motive_1:=λ_=>Option V) v (λ_=>none) (λ_ _=>none) (λ_ _=>none) none (λb o=>some (.p b o)) none (λ_ _ _ _=>none) (λ_ _ _ _=>none) none (λ_=>none) none (λg a c=>some (.f g a c)) (λl=>some (.y l)) none (λ_ _=>none) (λ_=>none) (λ_=>none) none
def VP(x:aJ)(T:Tr V)(H:Hp)(n:K):gC:=bu (aI x T) λv=>eg H n (nck v)
def Cb(f:Int->Int->Bool)(_:IntKind)(x y:Int):Option V:=some (.b (f x y))
def Mo(f:Int->Int->Int)(k:IntKind)(x y:Int):Option V:=some (.i k (wr k (f x y)))
def VQ(op:BinOp):IntKind->Int->Int->Option V:=
 match op with
 | .add=>Mo Int.add
 | .sub=>Mo Int.sub
 | .mul=>Mo Int.mul
 | .eql=>Cb sg
 | .neq=>Cb (λx y=>!(sg x y))
 | .lss=>Cb xd
 | .leq=>Cb Dt
 | .gtr=>Cb (λx y=>xd y x)
 | .geq=>Cb (λx y=>Dt y x)
 | op=>Ev.oD op
theorem afz(op:BinOp)(k:IntKind)(x y:Int):VQ op k x y=Ev.oD op k x y:=by cases op<;>rfl
def afA(op:BinOp):Bool:=match op with | .shl=>true | .shr=>true | _=>false
def Mp(op:BinOp)(k:IntKind)(a:Int)(k':IntKind)(b:Int):Option V:=
 cond (afA op) (Ev.J8 op k a b) (cond (Nat.beq (kn k) (kn k')) (VQ op k a b) none)
def dW(op:BinOp)(q:eH)(x y:V):Option V:=Ev.oE op q x y
def bin(op:BinOp)(q:eH)(x y:V):Option V:=
 V.casesOn (motive_1:=λ_=>Option V) x (λ_=>(dW op q x y)) (λk a=>V.casesOn (motive_1:=λ_=>Option V) y (λ_=>(dW op q x y)) (λk' b=>Mp op k a k' b) (λ_ _=>(dW op q x y)) (dW op q x y) (λ_ _=>(dW op q x y)) (dW op q x y) (λ_ _ _ _=>(dW op q x y)) (λ_ _ _ _=>(dW op q x y)) (dW op q x y) (λ_=>(dW op q x y)) (dW op q x y) (λ_ _ _=>(dW op q x y)) (λ_=>(dW op q x y)) (dW op q x y) (λ_ _=>(dW op q x y)) (λ_=>(dW op q x y)) (λ_=>(dW op q x y)) (dW op q x y)) (λl n=>V.casesOn (motive_1:=λ_=>Option V) y (λ_=>(dW op q x y)) (λ_ _=>(dW op q x y)) (λl' n'=>Ev.GK op l n l' n') (dW op q x y) (λ_ _=>(dW op q x y)) (dW op q x y) (λ_ _ _ _=>(dW op q x y)) (λ_ _ _ _=>(dW op q x y)) (dW op q x y) (λ_=>(dW op q x y)) (dW op q x y) (λ_ _ _=>(dW op q x y)) (λ_=>(dW op q x y)) (dW op q x y) (λ_ _=>(dW op q x y)) (λ_=>(dW op q x y)) (λ_=>(dW op q x y)) (dW op q x y)) (dW op q x y) (λ_ _=>(dW op q x y)) (dW op q x y) (λ_ _ _ _=>(dW op q x y)) (λ_ _ _ _=>(dW op q x y)) (dW op q x y) (λ_=>(dW op q x y)) (dW op q x y) (λ_ _ _=>(dW op q x y)) (λ_=>(dW op q x y)) (dW op q x y) (λ_ _=>(dW op q x y)) (λ_=>(dW op q x y)) (λ_=>(dW op q x y)) (dW op q x y)
theorem afB(op:BinOp)(q:eH)(x y:V):bin op q x y=Ev.oE op q x y:=by
 cases x<;>try rfl
 ·cases y<;>try rfl
  rename_i k a k' b;show Mp op k a k' b=_;unfold Mp;rw[afz];cases op<;>rfl
 ·cases y<;>try rfl
  cases op<;>rfl
def VR(op:BinOp)(k:eH)(x y:aJ)(T:Tr V)(H:Hp)(n:K):gC:=bu (aI x T) λx=>bu (aI y T) λy=>eg H n (bin op k x y)
def sUn(op:UnOp)(x:aJ)(T:Tr V)(H:Hp)(n:K):gC:=bu (aI x T) λx=>eg H n (Ev.J9 op x)
def VS(t:Nat)(x:aJ)(T:Tr V)(H:Hp)(n:K):gC:=bu (aI x T) λv=>some (.lD t v,H,n)
def VT(f:Nat)(a c:List aJ)(T:Tr V)(H:Hp)(n:K):gC:=bu (fP a T) λa=>bu (fP c T) λc=>some (.f f a c,H,n)
def VU(off:Nat)(H:Hp)(n:K)(q:K×Nat):gC:=some (.p q.1 (Nat.add q.2 off),H,n)
def VV(off:Nat)(x:aJ)(T:Tr V)(H:Hp)(n:K):gC:=bu (aI x T) λv=>bu (Ml v) (VU off H n)
def asA(v:V):Option (List V):=V.casesOn (motive_1:=λ_=>Option (List V)) v (λ_=>none) (λ_ _=>none) (λ_ _=>none) none (λ_ _=>none) none (λ_ _ _ _=>none) (λ_ _ _ _=>none) none (λ_=>none) none (λ_ _ _=>none) (λ_=>none) none (λ_ _=>none) (λl=>some l) (λ_=>none) none
def asU(v:V):Option (List V):=V.casesOn (motive_1:=λ_=>Option (List V)) v (λ_=>none) (λ_ _=>none) (λ_ _=>none) none (λ_ _=>none) none (λ_ _ _ _=>none) (λ_ _ _ _=>none) none (λ_=>none) none (λ_ _ _=>none) (λ_=>none) none (λ_ _=>none) (λ_=>none) (λl=>some l) none
def VW(agg:Bool)(off sz:Nat)(x:aJ)(T:Tr V)(H:Hp)(n:K):gC:=
 bu (aI x T) λv=>bu (asA v) λl=>cond agg (bu (dt l off sz) λl'=>some (.a l',H,n)) (eg H n (nth l off))
def VX(x:aJ)(i:Nat)(T:Tr V)(H:Hp)(n:K):gC:=bu (aI x T) λv=>bu (asU v) λl=>eg H n (nth l i)
def afF(v:V):Option (K×Nat×Nat):=V.casesOn (motive_1:=λ_=>Option (K×Nat×Nat)) v (λ_=>none) (λ_ _=>none) (λ_ _=>none) none (λ_ _=>none) none (λb o l _=>some (b,o,l)) (λb o l _=>some (b,o,l)) none (λ_=>none) none (λ_ _ _=>none) (λ_=>none) none (λ_ _=>none) (λ_=>none) (λ_=>none) none
def ON(v:V):Option Nat:=V.casesOn (motive_1:=λ_=>Option Nat) v (λ_=>none) (λ_ n=>Int.casesOn n (λn=>some n) (λ_=>none)) (λ_ _=>none) none (λ_ _=>none) none (λ_ _ _ _=>none) (λ_ _ _ _=>none) none (λ_=>none) none (λ_ _ _=>none) (λ_=>none) none (λ_ _=>none) (λ_=>none) (λ_=>none) none
def afG(z i:Nat)(H:Hp)(n:K)(q:K×Nat×Nat):gC:=cond (Nat.blt i q.2.2) (some (.p q.1 (Nat.add q.2.1 (Nat.mul i z)),H,n)) none
def afH(m z i:Nat)(H:Hp)(n:K)(q:K×Nat):gC:=cond (Nat.blt i m) (some (.p q.1 (Nat.add q.2 (Nat.mul i z)),H,n)) none
def Mq(arr:Option Nat)(z i:Nat)(v:V)(H:Hp)(n:K):gC:=
 Option.casesOn arr (bu (afF v) (afG z i H n)) (λm=>bu (Ml v) (afH m z i H n))
def VY(arr:Option Nat)(z:Nat)(x i:aJ)(T:Tr V)(H:Hp)(n:K):gC:=bu (aI x T) λv=>bu (aI i T) λi=>bu (ON i) λi=>Mq arr z i v H n
def Mr(i:Nat)(v:V):Option V:=V.casesOn (motive_1:=λ_=>Option V) v (λ_=>none) (λ_ _=>none) (λl m=>cond (Nat.blt i l) (some (.i .u8 (Int.ofNat (Jj m i)))) none) none (λ_ _=>none) none (λ_ _ _ _=>none) (λ_ _ _ _=>none) none (λ_=>none) none (λ_ _ _=>none) (λ_=>none) none (λ_ _=>none) (λ_=>none) (λ_=>none) none
def VZ(arr:Option (Nat×Nat×Bool))(x i:aJ)(T:Tr V)(H:Hp)(n:K):gC:=
 Option.casesOn arr (bu (aI x T) λv=>bu (aI i T) λi=>bu (ON i) λi=>eg H n (Mr i v)) (λ_=>Ev.simple (.idx arr x i) T H n)
def V2(v:V):Option V:=V.casesOn (motive_1:=λ_=>Option V) v (λ_=>none) (λ_ _=>none) (λ_ _=>none) none (λ_ _=>none) (some (.i .i64 0)) (λ_ _ l _=>some (.i .i64 (Int.ofNat l))) (λ_ _ l _=>some (.i .i64 (Int.ofNat l))) none (λ_=>none) none (λ_ _ _=>none) (λ_=>none) none (λ_ _=>none) (λ_=>none) (λ_=>none) none
def V3(v:V):Option V:=V.casesOn (motive_1:=λ_=>Option V) v (λ_=>none) (λ_ _=>none) (λl _=>some (.i .i64 (Int.ofNat l))) none (λ_ _=>none) none (λ_ _ _ _=>none) (λ_ _ _ _=>none) none (λ_=>none) none (λ_ _ _=>none) (λ_=>none) none (λ_ _=>none) (λ_=>none) (λ_=>none) none
def gx(k:Nat)(x:aJ)(T:Tr V)(H:Hp)(n:K):gC:=
 Nat.casesOn k (bu (aI x T) λv=>eg H n (V3 v)) (λk1=>Nat.casesOn k1 (bu (aI x T) λv=>eg H n (V2 v)) (λ_=>Ev.simple (.len k x) T H n))
def toInt(k:IntKind)(v:V):Option V:=V.casesOn (motive_1:=λ_=>Option V) v (λ_=>none) (λ_ m=>some (.i k (wr k m))) (λ_ _=>none) none (λ_ _=>none) none (λ_ _ _ _=>none) (λ_ _ _ _=>none) none (λ_=>none) none (λ_ _ _=>none) (λ_=>none) none (λ_ _=>none) (λ_=>none) (λ_=>none) none
def sCv(k:Oj)(x:aJ)(T:Tr V)(H:Hp)(n:K):gC:=
 match k with
 | .toInt k=>bu (aI x T) λv=>eg H n (toInt k v)
 | k=>Ev.simple (.cv k x) T H n
def simple(op:A):Tr V->Hp->K->gC:=A.casesOn (motive:=λ_=>Tr V->Hp->K->gC) op (λx0=>sMv x0) (λx0 x1 x2=>VN x0 x1 x2) (λx0 x1=>VO x0 x1) (λx0 x1 x2=>Ev.simple (.Bw x0 x1 x2)) (λx0=>Ev.simple (.Jg x0)) (λx0 x1 x2=>Ev.simple (.zC x0 x1 x2)) (λx0 x1=>Ev.simple (.box x0 x1)) (λx0 x1=>Ev.simple (.bld x0 x1)) (λx0 x1 x2 x3=>Ev.simple (.bsl x0 x1 x2 x3)) (λx0 x1 x2=>sLd x0 x1 x2) (λx0 x1 x2=>sSt x0 x1 x2) (λx0=>VP x0) (λx0 x1 x2 x3=>VR x0 x1 x2 x3) (λx0 x1=>sUn x0 x1) (λx0 x1=>sCv x0 x1) (λx0 x1=>VS x0 x1) (λx0 x1 x2=>VT x0 x1 x2) (Ev.simple .mmap) (λx0 x1 x2 x3 x4 x5=>Ev.simple (.msl x0 x1 x2 x3 x4 x5)) (λx0 x1 x2 x3 x4=>Ev.simple (.sli x0 x1 x2 x3 x4)) (λx0 x1=>VV x0 x1) (λx0 x1 x2 x3=>VW x0 x1 x2 x3) (λx0 x1 x2 x3=>VY x0 x1 x2 x3) (λx0 x1 x2=>VZ x0 x1 x2) (λx0 x1 x2 x3 x4=>Ev.simple (.lkp x0 x1 x2 x3 x4)) (λx0 x1 x2 x3=>Ev.simple (.Jh x0 x1 x2 x3)) (λx0 x1=>Ev.simple (.Dp x0 x1)) (λx0 x1=>Ev.simple (.Dq x0 x1)) (λx0=>Ev.simple (.J3 x0)) (λx0 x1 x2 x3=>Ev.simple (.tas x0 x1 x2 x3)) (λx0 x1=>VX x0 x1) (λx0 x1 x2 x3 x4 x5 x6=>Ev.simple (.app x0 x1 x2 x3 x4 x5 x6)) (λx0 x1 x2=>Ev.simple (.zD x0 x1 x2)) (λx0 x1=>gx x0 x1) (λx0 x1=>Ev.simple (.cap x0 x1)) (λx0 x1 x2=>Ev.simple (.del x0 x1 x2)) (λx0 x1=>Ev.simple (.mm x0 x1)) (λx0 x1=>Ev.simple (.Ji x0 x1)) (λx0 x1=>Ev.simple (.hU x0 x1)) (λx0=>Ev.simple (.tW x0)) (Ev.simple .bad)
theorem afJ(op:A)(T:Tr V)(H:Hp)(n:K):simple op T H n=Ev.simple op T H n:=by
 cases op<;>try rfl
 case mv x=>show eg H n (aI x T)=_;rw[lG,jh];rfl
 case pick c a b=>
  show bu (aI c T) _=_;rw[jh];simp only[Ev.simple];cases Ev.aI T c with
  | none=>rfl
  | some v=>
   cases v<;>try rfl
   rename_i x;show eg H n (cond x (aI a T) (aI b T))=_;rw[lG,jh,jh];cases x<;>rfl
 case new e zs=>exact mk_eq (.c zs e 0) (λn=>.p n 0) H n
 case ld agg sz a=>
  show bu (aI a T) (λv=>eg H n (vF agg sz H v))=_;rw[jh];simp only[Ev.simple];cases Ev.aI T a with
  | none=>rfl
  | some v=>show eg H n (vF agg sz H v)=_;rw[lG,afs]
 case st sz a x=>
  show bu (aI a T) (λa=>bu (aI x T) λx=>qt n (CJ sz a x H))=_;rw[jh,jh];simp only[Ev.simple];cases Ev.aI T a with
  | none=>rfl
  | some v=>cases Ev.aI T x with
   | none=>rfl
   | some u=>show qt n (CJ sz v u H)=_;rw[afv,afu]
 case nck x=>
  show bu (aI x T) (λv=>eg H n (nck v))=_;rw[jh];simp only[Ev.simple];cases Ev.aI T x with
  | none=>rfl
  | some v=>cases v<;>rfl
 case bin o k x y=>
  show bu (aI x T) (λx=>bu (aI y T) λy=>eg H n (bin o k x y))=_;rw[jh,jh];simp only[Ev.simple];cases Ev.aI T x with
  | none=>rfl
  | some v=>cases Ev.aI T y with
   | none=>rfl
   | some u=>show eg H n (bin o k v u)=_;rw[lG,afB]
 case un o x=>
  show bu (aI x T) (λx=>eg H n (Ev.J9 o x))=_;rw[jh];simp only[Ev.simple];cases Ev.aI T x with
  | none=>rfl
  | some v=>exact lG _ _ _
 case cv k x=>
  cases k<;>try rfl
  rename_i k;show bu (aI x T) (λv=>eg H n (toInt k v))=_;rw[jh];simp only[Ev.simple];cases Ev.aI T x with
  | none=>rfl
  | some v=>cases v<;>rfl
 case mif t x=>
  show bu (aI x T) (λv=>(some (V.lD t v,H,n):gC))=_;rw[jh];simp only[Ev.simple];cases Ev.aI T x<;>rfl
 case mfn f a c=>
  show bu (fP a T) (λa=>bu (fP c T) λc=>(some (V.f f a c,H,n):gC))=_;rw[Mj,Mj];simp only[Ev.simple];cases Ev.fP T a with
  | none=>rfl
  | some v=>cases Ev.fP T c<;>rfl
 case fad off x=>
  show bu (aI x T) (λv=>bu (Ml v) (VU off H n))=_;rw[jh];simp only[Ev.simple];cases Ev.aI T x with
  | none=>rfl
  | some v=>cases v<;>rfl
 case fld agg off sz x=>
  show bu (aI x T) (λv=>bu (asA v) λl=>cond agg (bu (dt l off sz) λl'=>some (.a l',H,n)) (eg H n (nth l off)))=_;rw[jh];simp only[Ev.simple];cases Ev.aI T x with
  | none=>rfl
  | some v=>
   cases v<;>try rfl
   rename_i l;show cond agg (bu (dt l off sz) λl'=>some (.a l',H,n)) (eg H n (nth l off))=_;rw[oI,pL,lG];cases agg with
   | false=>rfl
   | true=>simp only[cond_true];cases Ev.dt l off sz<;>rfl
 case iad arr z x i=>
  show bu (aI x T) (λv=>bu (aI i T) λi=>bu (ON i) λi=>Mq arr z i v H n)=_;rw[jh,jh];simp only[Ev.simple];cases Ev.aI T x with
  | none=>cases Ev.aI T i<;>rfl
  | some v=>
   cases Ev.aI T i with
   | none=>rfl
   | some u=>
    cases u<;>try rfl
    rename_i k m;cases m with
    | negSucc=>rfl
    | ofNat m=>
     show Mq arr z m v H n=_;cases arr with
     | none=>cases v<;>rfl
     | some q=>cases v<;>rfl
 case idx arr x i=>
  cases arr with
  | some q=>rfl
  | none=>
   show bu (aI x T) (λv=>bu (aI i T) λi=>bu (ON i) λi=>eg H n (Mr i v))=_;rw[jh,jh];simp only[Ev.simple];cases Ev.aI T x with
   | none=>cases Ev.aI T i<;>rfl
   | some v=>
    cases Ev.aI T i with
    | none=>rfl
    | some u=>
     cases u<;>try rfl
     rename_i k m;cases m with
     | negSucc=>rfl
     | ofNat m=>
      show eg H n (Mr m v)=_;cases v<;>try rfl
      rename_i l q;show eg H n (cond (Nat.blt m l) (some (.i .u8 (Int.ofNat (Jj q m)))) none)=_;simp only;cases Nat.blt m l<;>rfl
 case ext x i=>
  show bu (aI x T) (λv=>bu (asU v) λl=>eg H n (nth l i))=_;rw[jh];simp only[Ev.simple];cases Ev.aI T x with
  | none=>rfl
  | some v=>
   cases v<;>try rfl
   rename_i l;show eg H n (nth l i)=_;rw[lG,pL]
 case len k x=>
  rcases k with _ | _ | k
  ·show bu (aI x T) (λv=>eg H n (V3 v))=_;rw[jh];simp only[Ev.simple];cases Ev.aI T x with
   | none=>rfl
   | some v=>cases v<;>rfl
  ·show bu (aI x T) (λv=>eg H n (V2 v))=_;rw[jh];simp only[Ev.simple];cases Ev.aI T x with
   | none=>rfl
   | some v=>cases v<;>rfl
  ·rfl
end
noncomputable section
def afK(f:aJ)(l:List aJ)(ih:eh)(T:Tr V)(H:Hp)(n:K):Option R:=bu (aI f T) λf=>bu (fP l T) λl=>ih (.call f l) H n
def afL(x:aJ)(ih:eh)(T:Tr V)(H:Hp)(n:K):Option R:=Ev.eN ih (.tW x) T H n
def YU(x:gC):Option R:=bu x λp=>some ⟨.normal,.e,p.1,p.2.1,p.2.2⟩
def fk(s:Tr V->Hp->K->gC)(ih:eh)(T:Tr V)(H:Hp)(n:K):Option R:=YU (s T H n)
def eN(op:A):eh->Tr V->Hp->K->Option R:=A.casesOn (motive:=λ_=>eh->Tr V->Hp->K->Option R) op (λx0=>fk (sMv x0)) (λx0 x1 x2=>fk (VN x0 x1 x2)) (λx0 x1=>fk (VO x0 x1)) (λx0 x1 x2=>fk (Ev.simple (.Bw x0 x1 x2))) (λx0=>fk (Ev.simple (.Jg x0))) (λx0 x1 x2=>fk (Ev.simple (.zC x0 x1 x2))) (λx0 x1=>fk (Ev.simple (.box x0 x1))) (λx0 x1=>fk (Ev.simple (.bld x0 x1))) (λx0 x1 x2 x3=>fk (Ev.simple (.bsl x0 x1 x2 x3))) (λx0 x1 x2=>fk (sLd x0 x1 x2)) (λx0 x1 x2=>fk (sSt x0 x1 x2)) (λx0=>fk (VP x0)) (λx0 x1 x2 x3=>fk (VR x0 x1 x2 x3)) (λx0 x1=>fk (sUn x0 x1)) (λx0 x1=>fk (sCv x0 x1)) (λx0 x1=>fk (VS x0 x1)) (λx0 x1 x2=>fk (VT x0 x1 x2)) (fk (Ev.simple .mmap)) (λx0 x1 x2 x3 x4 x5=>fk (Ev.simple (.msl x0 x1 x2 x3 x4 x5))) (λx0 x1 x2 x3 x4=>fk (Ev.simple (.sli x0 x1 x2 x3 x4))) (λx0 x1=>fk (VV x0 x1)) (λx0 x1 x2 x3=>fk (VW x0 x1 x2 x3)) (λx0 x1 x2 x3=>fk (VY x0 x1 x2 x3)) (λx0 x1 x2=>fk (VZ x0 x1 x2)) (λx0 x1 x2 x3 x4=>fk (Ev.simple (.lkp x0 x1 x2 x3 x4))) (λx0 x1 x2 x3=>fk (Ev.simple (.Jh x0 x1 x2 x3))) (λx0 x1=>fk (Ev.simple (.Dp x0 x1))) (λx0 x1=>fk (Ev.simple (.Dq x0 x1))) (λx0=>fk (Ev.simple (.J3 x0))) (λx0 x1 x2 x3=>fk (Ev.simple (.tas x0 x1 x2 x3))) (λx0 x1=>fk (VX x0 x1)) (λx0 x1 x2 x3 x4 x5 x6=>fk (Ev.simple (.app x0 x1 x2 x3 x4 x5 x6))) (λx0 x1 x2=>fk (Ev.simple (.zD x0 x1 x2))) (λx0 x1=>fk (gx x0 x1)) (λx0 x1=>fk (Ev.simple (.cap x0 x1))) (λx0 x1 x2=>fk (Ev.simple (.del x0 x1 x2))) (λx0 x1=>fk (Ev.simple (.mm x0 x1))) (λx0 x1=>fk (Ev.simple (.Ji x0 x1))) (λx0 x1=>afK x0 x1) (λx0=>afL x0) (fk (Ev.simple .bad))
theorem afM(op:A)(h1:∀f l,op≠.hU f l)(h2:∀x,op≠.tW x):eN op=fk (simple op):=by cases op<;>first | rfl | exact absurd rfl (h1 _ _) | exact absurd rfl (h2 _)
theorem afN(ih:eh)(op:A)(T:Tr V)(H:Hp)(n:K)(h1:∀f l,op≠.hU f l)(h2:∀x,op≠.tW x):Ev.eN ih op T H n=YU (Ev.simple op T H n):=by
 cases op<;>first | exact absurd rfl (h1 _ _) | exact absurd rfl (h2 _) | skip
 all_goals
  unfold Ev.eN;simp only;generalize Ev.simple _ T H n=x;cases x<;>rfl
theorem V4(ih:eh)(op:A)(T:Tr V)(H:Hp)(n:K):eN op ih T H n=Ev.eN ih op T H n:=by
 by_cases h1:∃f l,op=.hU f l
 ·obtain⟨f,l,rfl⟩:=h1;show bu (aI f T) (λf=>bu (fP l T) λl=>ih (.call f l) H n)=_;rw[jh,Mj];simp only[Ev.eN];cases Ev.aI T f<;>cases Ev.fP T l<;>rfl
 ·by_cases h2:∃x,op=.tW x
  ·obtain⟨x,rfl⟩:=h2;rfl
  ·rw[afM op (λf l e=>h1 ⟨f,l,e⟩) (λx e=>h2 ⟨x,e⟩),afN ih op T H n (λf l e=>h1 ⟨f,l,e⟩) (λx e=>h2 ⟨x,e⟩)];show YU (simple op T H n)=_;rw[afJ]
def eA(d:Option K)(v:V)(T:Tr V):Tr V:=Option.casesOn d T (λk=>put (some v) k T)
theorem Iv(d:Option K)(v:V)(T:Tr V):eA d v T=Ev.eA d (some v) T:=by
 cases d with
 | none=>rfl
 | some k=>exact put_eq _ _ _
def V5(w:Bool)(v:V):Option Bool:=V.casesOn (motive_1:=λ_=>Option Bool) v (λx=>some (cond w x (!x))) (λ_ _=>none) (λ_ _=>none) none (λ_ _=>none) none (λ_ _ _ _=>none) (λ_ _ _ _=>none) none (λ_=>none) none (λ_ _ _=>none) (λ_=>none) none (λ_ _=>none) (λ_=>none) (λl=>List.casesOn l (some false) (λ_ _=>none)) none
def want(g:Option (K×Bool))(T:Tr V):Option Bool:=Option.casesOn g (some true) (λp=>bu (get p.1 T) (V5 p.2))
theorem V6(g:Option (K×Bool))(T:Tr V):want g T=Ev.want g T:=by
 cases g with
 | none=>rfl
 | some p=>
  obtain⟨k,w⟩:=p;show bu (get k T) (V5 w)=_;rw[get_eq];simp only[Ev.want];cases T.get k with
  | none=>rfl
  | some v=>
   cases v<;>try rfl
   rename_i l;cases l<;>rfl
def YV(r:Option R)(T:Tr V)(d:Option K)(rest:Tr V->Hp->K->Option R):Option R:=
 Option.casesOn r none (λr=>R.casesOn r λex _ v H n=>Ex.casesOn ex (rest (eA d v T) H n) (λ_=>none) none (λu=>some ⟨.panic u,T,.q,H,n⟩))
def afO(o:AO)(ih:eh)(rest:Tr V->Hp->K->Option R)(T:Tr V)(H:Hp)(n:K):Option R:=
 AO.casesOn o λdst op guard _=>Option.casesOn (want guard T) none λb=>cond b (YV (eN op ih T H n) T dst rest) (rest (eA dst (.u []) T) H n)
def gv(l:List AO)(ih:eh):Tr V->Hp->K->Option R:=
 List.rec (motive:=λ_=>Tr V->Hp->K->Option R) (λT H n=>some ⟨.normal,T,.q,H,n⟩) (λo _ rest=>afO o ih rest) l
theorem afP(ih:eh)(l:List AO)(T:Tr V)(H:Hp)(n:K):gv l ih T H n=Ev.gv ih l T H n:=by
 induction l generalizing T H n with
 | nil=>rfl
 | cons o l lU=>
  obtain⟨dst,op,guard,ah⟩:=o;show Option.casesOn (motive:=λ_=>Option R) (want guard T) none (λb=>cond b (YV (eN op ih T H n) T dst (gv l ih)) (gv l ih (eA dst (.u []) T) H n))=_;rw[V6,V4];simp only[Ev.gv];cases Ev.want guard T with
  | none=>rfl
  | some b=>
   cases b with
   | false=>show gv l ih (eA dst (.u []) T) H n=_;rw[lU,Iv]
   | true=>
    show YV (Ev.eN ih op T H n) T dst (gv l ih)=_;cases Ev.eN ih op T H n with
    | none=>rfl
    | some r=>
     obtain⟨ex,T',v,H',n'⟩:=r;cases ex with
     | normal=>show gv l ih (eA dst v T) H' n'=_;rw[lU,Iv]
     | _=>rfl
def oper(op:A)(ih:eh)(T:Tr V)(H:Hp)(n:K):gC:=
 bu (eN op ih T H n) λr=>R.casesOn r λex _ v H n=>Ex.casesOn ex (some (v,H,n)) (λ_=>none) none (λ_=>none)
theorem zU(ih:eh)(op:A)(T:Tr V)(H:Hp)(n:K):oper op ih T H n=Ev.oper ih op T H n:=by
 unfold oper Ev.oper;rw[V4];cases Ev.eN ih op T H n with
 | none=>rfl
 | some r=>obtain⟨ex,T',v,H',n'⟩:=r;cases ex<;>rfl
def ee(ah:Nat)(m:Made)(H:Hp):Hp:=
 List.rec (motive:=λ_=>Hp->Hp) (λH=>H) (λp _ ih H=>cond (Nat.testBit ah p.2) (ih H) (ih (put none p.1 H))) m H
theorem afQ(ah:Nat)(m:Made)(H:Hp):ee ah m H=Ev.ee H ah m:=by
 induction m generalizing H with
 | nil=>rfl
 | cons p m ih=>
  obtain⟨k,i⟩:=p;show cond (Nat.testBit ah i) (ee ah m H) (ee ah m (put none k H))=_;rw[ih,ih,put_eq];rfl
def back(H:Hp)(ah:Nat)(m:Made)(H':Hp):Hp:=
 List.rec (motive:=λ_=>Hp->Hp) (λH'=>H') (λp _ ih H'=>cond (Nat.testBit ah p.2) (ih H') (ih (put (get p.1 H) p.1 H'))) m H'
theorem back_eq(H:Hp)(ah:Nat)(m:Made)(H':Hp):back H ah m H'=Ev.back H H' ah m:=by
 induction m generalizing H' with
 | nil=>rfl
 | cons p m ih=>
  obtain⟨k,i⟩:=p;show cond (Nat.testBit ah i) (back H ah m H') (back H ah m (put (get k H) k H'))=_;rw[ih,ih,put_eq,get_eq];rfl
def fw(l:List AO)(ih:eh):Nat->Tr V->Hp->K->Made->List Rd->List Bg->Option R:=
 List.rec (motive:=λ_=>Nat->Tr V->Hp->K->Made->List Rd->List Bg->Option R)
  (λ_ T H n m rs bs=>cond (vT m rs bs) (some ⟨.normal,T,.q,H,n⟩) none)
  (λo _ rest i T H n m rs bs=>AO.casesOn o λdst op guard ah=>Option.casesOn (want guard T) none λb=>cond b
   (bu (oper op ih T (ee ah m H) n) λp=>Prod.casesOn p λv p=>Prod.casesOn p λH' n'=>
    match cls op with
    | .pure=>rest (Nat.succ i) (eA dst v T) H n m rs bs
    | .read=>cond (cu n v) (rest (Nat.succ i) (eA dst v T) H n m (⟨i,op,ah,T,v⟩::rs) bs) none
    | .make=>rest (Nat.succ i) (eA dst v T) (back H ah m H') n' ((n,i)::m) rs bs
    | .kJ=>rest (Nat.succ i) (eA dst v T) (back H ah m H') n' m rs (⟨i,ah,H,back H ah m H'⟩::bs))
   (rest (Nat.succ i) (eA dst (.u []) T) H n m rs bs)) l
theorem afR(ih:eh)(l:List AO)(i:Nat)(T:Tr V)(H:Hp)(n:K)(m:Made)(rs:List Rd)(bs:List Bg):fw l ih i T H n m rs bs=Ev.fw ih l i T H n m rs bs:=by
 induction l generalizing i T H n m rs bs with
 | nil=>rfl
 | cons o l lU=>
  obtain⟨dst,op,guard,ah⟩:=o;simp only[Ev.fw];rw[←V6,←afQ,←zU];show Option.casesOn (motive:=λ_=>Option R) (want guard T) none (λb=>cond b
   (bu (oper op ih T (ee ah m H) n) λp=>Prod.casesOn p λv p=>Prod.casesOn p λH' n'=>
    match cls op with
    | .pure=>fw l ih (Nat.succ i) (eA dst v T) H n m rs bs
    | .read=>cond (cu n v) (fw l ih (Nat.succ i) (eA dst v T) H n m (⟨i,op,ah,T,v⟩::rs) bs) none
    | .make=>fw l ih (Nat.succ i) (eA dst v T) (back H ah m H') n' ((n,i)::m) rs bs
    | .kJ=>fw l ih (Nat.succ i) (eA dst v T) (back H ah m H') n' m rs (⟨i,ah,H,back H ah m H'⟩::bs))
   (fw l ih (Nat.succ i) (eA dst (.u []) T) H n m rs bs))=_
  cases want guard T with
  | none=>rfl
  | some b=>
   cases b with
   | false=>show fw l ih _ (eA dst (.u []) T) H n m rs bs=_;rw[lU,Iv]
   | true=>
    simp only[cond_true];cases oper op ih T (ee ah m H) n with
    | none=>rfl
    | some p=>
     obtain⟨v,H',n'⟩:=p;show(match cls op with
      | .pure=>fw l ih (Nat.succ i) (eA dst v T) H n m rs bs
      | .read=>cond (cu n v) (fw l ih (Nat.succ i) (eA dst v T) H n m (⟨i,op,ah,T,v⟩::rs) bs) none
      | .make=>fw l ih (Nat.succ i) (eA dst v T) (back H ah m H') n' ((n,i)::m) rs bs
      | .kJ=>fw l ih (Nat.succ i) (eA dst v T) (back H ah m H') n' m rs (⟨i,ah,H,back H ah m H'⟩::bs))=_
     simp only[Iv,back_eq];cases cls op<;>simp only[lU]
def afS(a b:AC)(ih:eh)(T:Tr V)(H:Hp)(n:K):Option R:=
 bu (ih (.code a T) H n) λr=>R.casesOn r λex T v H n=>Ex.casesOn ex (ih (.code b T) H n) (λid=>some ⟨.exit id,T,v,H,n⟩) (some ⟨.ret,T,v,H,n⟩) (λu=>some ⟨.panic u,T,v,H,n⟩)
def Ms(c:aJ)(a b:AC)(ih:eh)(T:Tr V)(H:Hp)(n:K):Option R:=
 bu (aI c T) λv=>V.casesOn (motive_1:=λ_=>Option R) v (λx=>cond x (ih (.code a T) H n) (ih (.code b T) H n)) (λ_ _=>none) (λ_ _=>none) none (λ_ _=>none) none (λ_ _ _ _=>none) (λ_ _ _ _=>none) none (λ_=>none) none (λ_ _ _=>none) (λ_=>none) none (λ_ _=>none) (λ_=>none) (λ_=>none) none
def afT(id:Nat)(c:AC)(ih:eh)(T:Tr V)(H:Hp)(n:K):Option R:=
 bu (ih (.code c T) H n) λr=>R.casesOn r λex T v H n=>Ex.casesOn ex (some ⟨.normal,T,v,H,n⟩) (λCK=>cond (Nat.beq id CK) (some ⟨.normal,T,v,H,n⟩) (some ⟨.exit CK,T,v,H,n⟩)) (some ⟨.ret,T,v,H,n⟩) (λu=>some ⟨.panic u,T,v,H,n⟩)
def afU(c:AC)(ih:eh)(T:Tr V)(H:Hp)(n:K):Option R:=
 bu (ih (.code c T) H n) λr=>R.casesOn r λex T v H n=>Ex.casesOn ex (ih (.code (.loop c) T) H n) (λid=>some ⟨.exit id,T,v,H,n⟩) (some ⟨.ret,T,v,H,n⟩) (λu=>some ⟨.panic u,T,v,H,n⟩)
def afV(l:List AO)(ih:eh)(T:Tr V)(H:Hp)(n:K):Option R:=gv l ih T H n
def afW(l:List AO)(ih:eh)(T:Tr V)(H:Hp)(n:K):Option R:=fw l ih 0 T H n [] [] []
def Mt(ex:Ex)(ih:eh)(T:Tr V)(H:Hp)(n:K):Option R:=some ⟨ex,T,.q,H,n⟩
def afX(c:AC)(ih:eh)(T:Tr V)(H:Hp)(n:K):Option R:=ih (.code c T) H n
def Mu(c:AC)(ih:eh)(T:Tr V)(H:Hp)(n:K):Option R:=Ev.ca (λ_=>none) ih (.code c T) H n
def code(c:AC):eh->Tr V->Hp->K->Option R:=AC.casesOn (motive:=λ_=>eh->Tr V->Hp->K->Option R) c (Mt .normal) (λx0=>afV x0) (λx0=>afW x0) (λx0 x1=>afS x0 x1) (λx0 x1 x2=>Ms x0 x1 x2) (λx0 x1=>afT x0 x1) (λx0=>afU x0) (λx0 x1 x2 x3=>Mu (.mf x0 x1 x2 x3)) (λx0=>Mt (.exit x0)) (λx0=>afX x0) (λx0 x1 x2 x3 x4=>Mu (.pH x0 x1 x2 x3 x4)) (Mt .ret) (Mu .bad)
theorem afY(C:Nat->Option bP)(c:AC)(ih:eh)(T:Tr V)(H:Hp)(n:K):code c ih T H n=Ev.ca C ih (.code c T) H n:=by
 cases c<;>try rfl
 case reg l=>exact afP ih l T H n
 case regd l=>exact afR ih l 0 T H n [] [] []
 case seq a b=>
  show bu (ih (.code a T) H n) _=_;simp only[Ev.ca];cases ih (.code a T) H n with
  | none=>rfl
  | some r=>obtain⟨ex,T',v,H',n'⟩:=r;cases ex<;>rfl
 case cond x a b=>
  show Ms x a b ih T H n=_;unfold Ms;rw[jh];simp only[Ev.ca];cases Ev.aI T x with
  | none=>rfl
  | some v=>
   cases v<;>try rfl
   rename_i q;cases q<;>rfl
 case block id c=>
  show bu (ih (.code c T) H n) _=_;simp only[Ev.ca];cases ih (.code c T) H n with
  | none=>rfl
  | some r=>
   obtain⟨ex,T',v,H',n'⟩:=r;cases ex<;>rfl
 case loop c=>
  show bu (ih (.code c T) H n) _=_;simp only[Ev.ca];cases ih (.code c T) H n with
  | none=>rfl
  | some r=>obtain⟨ex,T',v,H',n'⟩:=r;cases ex<;>rfl
def binds(ks:List K):List V->Tr V->Option (Tr V):=
 List.rec (motive:=λ_=>List V->Tr V->Option (Tr V)) (λvs T=>List.casesOn vs (some T) (λ_ _=>none)) (λk _ ih vs T=>List.casesOn vs (some T) (λv vs=>ih vs (put (some v) k T))) ks
theorem afZ(ks:List K)(vs:List V)(T:Tr V):binds ks vs T=Ev.binds ks vs T:=by
 induction ks generalizing vs T with
 | nil=>cases vs<;>rfl
 | cons k ks ih=>
  cases vs with
  | nil=>rfl
  | cons v vs=>show binds ks vs (put (some v) k T)=_;rw[ih,put_eq];rfl
def af0(af:AF)(l:List V)(ih:eh)(H:Hp)(n:K):Option R:=
 AF.casesOn af λjT res body=>bu (binds jT l .e) λT=>bu (ih (.code body T) H n) λr=>R.casesOn r λex T v H n=>
  Ex.casesOn ex (bu (Ev.rD res T H) λv=>some ⟨.normal,.e,v,H,n⟩) (λ_=>none) (bu (Ev.rD res T H) λv=>some ⟨.normal,.e,v,H,n⟩) (λu=>some ⟨.panic u,.e,.q,H,n⟩)
def Mv(a l c:List V):List V:=a++(l++c)
def af1(C:Nat->Option bP)(ih:eh)(g:Nat)(a c l:List V)(H:Hp)(n:K):Option R:=
 bu (C g) λfn=>bP.casesOn fn (λaf=>af0 af (Mv a l c) ih H n) (λ_=>Ev.ca C ih (.call (.f g a c) l) H n) (λ_=>Ev.ca C ih (.call (.f g a c) l) H n)
def call(C:Nat->Option bP)(ih:eh)(f:V)(l:List V)(H:Hp)(n:K):Option R:=
 match f with
 | .f g a c=>af1 C ih g a c l H n
 | f=>Ev.ca C ih (.call f l) H n
theorem af2(C:Nat->Option bP)(ih:eh)(f:V)(l:List V)(H:Hp)(n:K):call C ih f l H n=Ev.ca C ih (.call f l) H n:=by
 cases f<;>try rfl
 rename_i g a c;show bu (C g) _=_;cases hg:C g with
 | none=>simp only[bu,Ev.ca,hg]
 | some fn=>
  cases fn with
  | pm p=>rfl
  | zF af=>rfl
  | go af=>
   obtain⟨jT,res,body⟩:=af;show bu (binds jT (Mv a l c) .e) _=_;rw[afZ];simp only[Ev.ca,hg,Mv];cases Ev.binds jT (a++(l++c)) .e with
   | none=>rfl
   | some T=>
    show bu (ih (.code body T) H n) _=_;simp only;cases ih (.code body T) H n with
    | none=>rfl
    | some r=>
     obtain⟨ex,T',v,H',n'⟩:=r;cases ex with
     | exit id=>rfl
     | panic u=>rfl
     | normal=>show bu (Ev.rD res T' H') _=_;simp only;cases Ev.rD res T' H'<;>rfl
     | ret=>show bu (Ev.rD res T' H') _=_;simp only;cases Ev.rD res T' H'<;>rfl
def ca(C:Nat->Option bP)(ih:eh)(j:FR):Hp->K->Option R:=FR.casesOn j (λc T=>code c ih T) (λf l=>call C ih f l)
theorem af3(C:Nat->Option bP)(ih:eh):ca C ih=Ev.ca C ih:=by
 funext j H n;cases j with
 | code c T=>exact afY C c ih T H n
 | call f l=>exact af2 C ih f l H n
def ev(C:Nat->Option bP)(f:Nat):eh:=Nat.rec (motive:=λ_=>eh) (λ_ _ _=>none) (λ_ ih=>ca C ih) f
theorem gI(C:Nat->Option bP)(f:Nat):ev C f=Ev.ev C f:=by
 induction f with
 | zero=>rfl
 | succ f ih=>show ca C (ev C f)=_;rw[ih,af3];rfl
end
end Go.Ev.F
namespace Go.Ev
open Go
section
section ops
variable {P:Program}{ty:Ty}{C:Nat->Option bP}{ih:eh}{η:Env}{H:Hp}{n:K}{w:World}{fr:Frame}
theorem ak1(hC:Good P ty C)(fi:ml P ty ih){g:Nat}{l:List V}{af:AF}(hg:C g=some (.go af)){T0:Tr V}{v0:V}{H':Hp}{n':K}(hr:ca C ih (.call (.f g [] []) l) H n=some ⟨.normal,T0,v0,H',n'⟩)
 {args:List Value}(jY:bB η l args)(hG:cM η ty.g)(hH:bM (WW ty) η H n w)(cs:List Frame):
 ∃η' y w2 fr,Trans (WW ty) η H n w η' H' n' w2/\aC η' v0 y/\Steps P (lone (Frame.enter P g args.toArray .normal) cs w) (lone fr cs w2)/\fr.fn=g/\fr.leaving P w2 (.returned y):=by
 obtain⟨fn,oo,rJ,mH⟩:=hC.fn g af hg;simp only[ca,hg]at hr;split at hr
 case h_2=>cases hr
 rename_i T zS;unfold zJ at mH;split at mH
 case h_2=>cases mH
 rename_i body rs oS CQ;cases jI:within fn.ntmps body with
 | false=>rw[jI]at mH;cases mH
 | true=>
  rw[jI]at mH;simp only[cond_true]at mH;injection mH with mH;subst mH;simp only at hr zS;have jb:bB η ([]++(l++[])) args:=by simpa using jY
  generalize jo:args=xs at jb;let av:Array Value:=xs.toArray;let tm:Array Value:=av++Array.replicate (fn.ntmps - av.size) undef;have zV:fn.ntmps<=tm.size:=by simp only[tm,zy,Array.size_replicate];omega
  have hT:br η T tm:=by rw[xz]at zS;refine K0 (tmps:=tm) _ xs 0 _ .e T jb (λt v h=>by rw[Tr.iz]at h;cases h) (λj x hj=>?_) zS;have ψ:=(nL.1 hj).1;rw[hY];simp only[tm];rw[Array.getElem?_append_left (by simpa[av]using ψ)];simpa[av]using hj
  have K1:∀(N M:Nat),N<=M->∀c,within N c=true->within M c=true:=by
   intro N M hNM;have hd:∀l,iZ N l=true->iZ M l=true:=by
    intro l
    induction l with
    | nil=>intro _;rfl
    | cons o l ih=>
     intro h;simp only[iZ,bG]at h ⊢;refine⟨?_,ih h.2⟩;have h1:=h.1;split at h1
     ·rename_i d hd;rw[gf,bT]at h1 ⊢;omega
     ·rfl
   have hb:∀l,oG N l=true->oG M l=true:=by
    intro l
    induction l with
    | nil=>intro _;rfl
    | cons d l ih=>
     intro h;simp only[oG,bG]at h ⊢;refine⟨?_,ih h.2⟩;have h1:=h.1;rw[gf,bT]at h1 ⊢;omega
   intro c
   induction c with
   | region id ops dr=>exact hd _
   | seq a b jJ rh=>intro h;simp only[within,bG]at h ⊢;exact⟨jJ h.1,rh h.2⟩
   | cond x a b jJ rh=>intro h;simp only[within,bG]at h ⊢;exact⟨jJ h.1,rh h.2⟩
   | block id a jJ=>exact jJ
   | loop a jJ=>exact jJ
   | scope a jJ=>exact jJ
   | rangeFunc f ps a b jJ rh=>intro h;simp only[within,bG]at h ⊢;exact⟨⟨hb _ h.1.1,jJ h.1.2⟩,rh h.2⟩
   | _=>intro _;rfl
  let eu:Frame:={ fn:=g,tmps:=tm,todo:=[.code body],defers:=[],mode:=.run,kind:=.normal};have rK:Frame.enter P g av .normal=put eu eu.tmps eu.defers (.code body::[]):=by simp[Frame.enter,oo,oS,put,eu,tm]
  have run:∀r1,ih (.code (dL ty body) T) H n=some r1->∃(η':Env) (t':Array Value) (w':World) (bs:List Nat) (k1:List Item),Trans (WW ty) η H n w η' r1.H r1.n w'/\br η' r1.T t'/\bs.Nodup/\(∀b∈bs,w.heap.size<=b/\w'.heap[b]?=some (.deferred (some [])))/\jv P η' (lone (put eu eu.tmps eu.defers (.code body::[])) cs w) eu cs k1 r1.ex t' (bs.map (λb=>{ target:=.collected b,args:=#[]})) w'/\k1=[]:=by
   intro r1 h1;obtain⟨η',t',d',w',g1,g2,g3,⟨bs,FZ,CR,zW⟩,g5⟩:=fi _ _ _ _ h1 η w eu cs [] body ⟨rfl,K1 _ _ zV _ jI⟩ hT hG hH rfl (by intro l h;cases h);have FZ:d'=bs.map (λb=>{ target:=.collected b,args:=#[]}):=by simpa[eu]using FZ
   subst FZ;exact⟨η',t',w',bs,[],g1,g3,CR,λb hb=>⟨(zW b hb).1,(zW b hb).2.1⟩,g5,rfl⟩
  split at hr
  ·cases hr
  ·cases hr
  ·rename_i ex T1 v1 H1 n1 K3 K4 h1;split at hr
   case h_2=>cases hr
   rename_i v hv;injection hr with hr;injection hr with eR fQ A2 Pk hr5;subst A2;subst Pk;subst hr5;obtain⟨η',t',w',bs,_,g1,g3,CR,zW,g5,rfl⟩:=run _ h1;have leave:∃todo,Steps P (lone (put eu eu.tmps eu.defers (.code body::[])) cs w) (lone { put eu t' (bs.map (λb=>{ target:=.collected b,args:=#[]})) todo with mode:=.returning} cs w'):=by
    cases ex with
    | normal=>exact⟨_,Steps.trans g5 (.one (returning rfl rfl))⟩
    | ret=>obtain⟨k1,g5⟩:=g5;exact⟨_,Steps.trans g5 (.one (He rfl rfl))⟩
    | exit id=>exact(K3 id rfl).elim
    | panic u=>exact(K4 u rfl).elim
   obtain⟨todo,s1⟩:=leave;obtain⟨w2,s2,t2⟩:=Hg (P:=P) (cs:=cs) (fr:={ put eu t' [] todo with mode:=.returning}) bs w' (by intro h;cases h) g1 zW CR;obtain⟨y,FV,K5⟩:=KZ hC.aW g3 t2.rep CQ hv;refine⟨η',y,w2,{ put eu t' [] todo with mode:=.returning},t2,K5,?_,rfl,⟨rfl,rfl,rfl,fn,oo,FV⟩⟩;show Steps P (lone (Frame.enter P g av .normal) cs w) _;rw[rK];exact Steps.trans s1 s2
  ·cases hr
end ops
theorem ak2{P:Program}{ty:Ty}{C:Nat->Option bP}(hC:Good P ty C)(hP:Md P ty C){g:Nat}{l:List V}{af:AF}(hg:C g=some (.go af)){H:Hp}{n:K}{Q:V->X.Hf->K->Prop}(hw:X.τ C (.f g [] []) l H.get n Q)
 {η:Env}{w:World}{args:List Value}(jY:bB η l args)(hG:cM η ty.g)(hH:bM (WW ty) η H n w):
 Calls P g args.toArray w λe w'=>∃y v η' H' n',e=.returned y/\Q v H'.get n'/\aC η' v y/\Trans (WW ty) η H n w η' H' n' w':=by
 intro cs;obtain⟨v,H',n',⟨f0,hr⟩,hq⟩:=hw H rfl;have h1:=hr (f0+1) (by omega);obtain⟨η',y,w2,fr,t,hv,st,hf,hl⟩:=ak1 hC (VH hC hP f0).1 hg (h1:ca C (ev C f0) _ _ _=_) jY hG hH cs;exact⟨.returned y,w2,fr,⟨y,v,η',H',n',rfl,hq,hv,t⟩,st,hf,hl⟩
end
end Go.Ev
