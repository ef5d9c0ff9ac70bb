/- A part of the proof. -/
import Derived.Maps.RangeRun
import Derived.Lib.Bytealg
import Derived.Lib.Builder
import Derived.Test.YtapmaobjhilnfaaGreatDoorE
import Derived.Test.YtapmaobjhilnfaaGreatDoorA
set_option linter.all false
namespace Go.Ev
open Go
theorem adJ{a b:V×V×Nat}(h:JY a b=true):a=b:=by obtain⟨x,y,z⟩:=a;obtain⟨x',y',z'⟩:=b;simp only[JY,bh]at h;rw[wZ h.1.1,wZ h.1.2,cL h.2]
theorem UM:∀{a b:List (V×V×Nat)},I8 a b=true->a=b
 | [],[],_=>rfl
 | [],_::_,h=>by simp only[I8]at h;cases h
 | _::_,[],h=>by simp only[I8]at h;cases h
 | a::l,b::l',h=>by simp only[I8,bh]at h;rw[adJ h.1,UM h.2]
theorem Ii{a b:O}(h:wF a b=true):a=b:=by
 cases a<;>cases b<;>simp only[wF,bh]at h<;>(try (cases h;done))
 ·rw[yE h.1.1,cL h.1.2,cL h.2]
 ·rw[yE h]
 ·rw[wZ h.1.1,wZ h.1.2,cL h.2]
 ·rw[UM h.1,cL h.2]
 ·rw[K.beq_eq h.1,cL h.2]
 ·rw[K.beq_eq h.1.1,cL h.1.2,cL h.2]
 ·rw[cL h.1.1,cL h.1.2,cL h.2]
theorem AA{α:Type}{eq:α->α->Bool}(he:∀a b,eq a b=true->a=b):∀{T T':Tr α},fP eq T T'=true->∀k a,T.get k=some a->T'.get k=some a:=by
 intro T
 induction T with
 | e=>intro T' _ k a h;rw[Tr.gZ]at h;cases h
 | n v l r kR qf=>
  intro T' h k a hk;cases T' with
  | e=>
   simp only[fP,bh]at h;cases k with
   | h=>simp only[Tr.get]at hk;subst hk;have:=h.1.1;cases this
   | o k=>simp only[Tr.get]at hk;have:=kR h.1.2 k a hk;rw[Tr.gZ]at this;cases this
   | i k=>simp only[Tr.get]at hk;have:=qf h.2 k a hk;rw[Tr.gZ]at this;cases this
  | n v' l' r'=>
   simp only[fP,bh]at h;cases k with
   | h=>
    simp only[Tr.get]at hk ⊢;subst hk;have:=h.1.1;cases v' with
    | none=>cases this
    | some b=>rw[he _ _ this]
   | o k=>simp only[Tr.get]at hk ⊢;exact kR h.1.2 k a hk
   | i k=>simp only[Tr.get]at hk ⊢;exact qf h.2 k a hk
theorem adK:∀(ws:List K) (T:Tr V) (k:K) (v:V),(erase T ws).get k=some v->T.get k=some v:=by
 intro ws
 induction ws with
 | nil=>intro T k v h;exact h
 | cons a ws ih=>
  intro T k v h;have:=ih _ k v h;rw[Tr.fI]at this;split at this
  ·cases this
  ·exact this
def AB(ih:dY)(d:Option K)(l:List AO)(c:AC)(b m:K)(dc:Nat)(T:Tr V)(H:Hp)(n:K)(e:V×V×Nat):Option R:=
 match fZ ih l (eg d (some (.u [.b true,e.1,e.2.1])) T) (H.put (some (.me m dc e.2.2)) b) n with
 | some ⟨.normal,T,_,H,n⟩=>ih (.code c T) H n
 | _=>none
def EZ(ih:dY)(d:Option K)(l:List AO)(c:AC)(T:Tr V)(H:Hp)(n:K):Option R:=
 match fZ ih l (eg d (some (.u [.b false])) T) H n with
 | some ⟨.normal,T,_,H,n⟩=>(match ih (.code c T) H n with
  | some ⟨.normal,_,_,_,_⟩=>none
  | r=>r)
 | _=>none
def UN(ih:dY)(d:Option K)(x:ax)(l:List AO)(c:AC)(b m:K)(since dc:Nat)(T:Tr V)(H:Hp)(n:K)(e:V×V×Nat):Option R:=
 match AB ih d l c b m dc T (H.put none b) n e with
 | some ⟨.normal,T,_,H,n⟩=>(match H.get b,H.get m with
  | some (.me _ _ _),some (.mp [(_,_,t)] dc)=>bif Nat.beq since dc&&Nat.beq t e.2.2&&sJ T x b then EZ ih d l c T (H.put none b) n else none
  | _,_=>none)
 | r=>r
theorem adL{C:Nat->Option bN}{ih:dY}{d:Option K}{x:ax}{l:List AO}{c:AC}{ws:List K}{T:Tr V}{H:Hp}{n:K}{r:R}(h:bD C ih (.code (.ph d x l c ws) T) H n=some r):
 ∃b m since es dc,aq T x=some (.p b 0)/\H.get b=some (.mi m since)/\H.get m=some (.mp es dc)/\since=dc/\xU dc 0 es=true/\((∃e,es=[e]/\UN ih d x l c b m since dc T H n e=some r)\/
  (sJ (erase T ws) x b=true/\DK (AB ih d l c b m dc (erase T ws) (H.put none b) n) (erase T ws) (H.put none b) es=true/\EZ ih d l c (erase T ws) (H.put none b) n=some r)):=by
 simp only[bD]at h;split at h
 case h_2=>cases h
 rename_i b hb;split at h
 case h_2=>cases h
 rename_i m since hm;split at h
 case h_2=>cases h
 rename_i es dc he;cases hc:Nat.beq since dc&&xU dc 0 es with
 | false=>rw[hc]at h;cases h
 | true=>
  rw[hc]at h;simp only[cond_true]at h;simp only[bh]at hc;refine⟨b,m,since,es,dc,hb,hm,he,cL hc.1,hc.2,?_⟩;split at h
  ·rename_i e;exact .inl ⟨e,rfl,h⟩
  ·right;simp only[iD]at h;split at h
   ·rename_i h1;simp only[bh]at h1;exact⟨h1.1,h1.2,h⟩
   ·cases h
theorem adM{go:V×V×Nat->Option R}{T:Tr V}{H:Hp}:∀{es:List (V×V×Nat)},DK go T H es=true->∀e∈es,∃T' v H' n',go e=some ⟨.normal,T',v,H',n'⟩/\fP cT T T'=true/\fP wF H H'=true:=by
 intro es
 induction es with
 | nil=>intro _ e h;cases h
 | cons a es ih=>
  intro h e he;simp only[DK,bh]at h;rcases fX.1 he with rfl | he
  ·have h1:=h.1;split at h1
   ·rename_i T' v H' n' hg;simp only[bh]at h1;exact⟨T',v,H',n',hg,h1⟩
   ·cases h1
  ·exact ih h.2 e he
theorem adN{ty:Ty}{c:Code}{d:Option K}{x:ax}{l:List AO}{b:AC}{ws:List K}(h:uy ty (dC ty c) c=.ph d x l b ws):
 ∃(rid:Nat) (d0:Option Tmp) (x0:Operand) (rt:TypeId) (pos:String) (after:Array Edge) (rest:List Oper) (c2:Code),c=.seq (.region rid ⟨⟨d0,.next x0 false,rt,pos,after,none⟩::rest⟩ false) c2/\d=d0.map cz/\bK ty x0=some x/\b=dC ty c2/\l=eD ty ⟨⟨d0,.next x0 false,rt,pos,after,none⟩::rest⟩ rest []:=by
 unfold uy at h;split at h
 case h_2=>cases h
 rename_i rid d0 x0 rt pos after rest c2;split at h
 case h_2=>cases h
 rename_i c1 l' c' x' tL hx;injection h with h1 h2 h3 h4 h5;subst h1;subst h2;subst h3;subst h4;simp only[dC,cond_false]at tL;injection tL with h6 h7;injection h6 with h6;simp only[eD]at h6;injection h6 with h8 h9;exact⟨rid,d0,x0,rt,pos,after,rest,c2,rfl,rfl,hx,h7.symm,h9.symm⟩
end Go.Ev
namespace Go.Ev
open Go
open Go.ChangeMaps (setBlock)
section
section
variable {P:Program}{ty:Ty}{C:Nat->Option bN}{ih:dY}{η η':Env}{T:Tr V}{H H' Hx:Hp}{n n':K}{w w' w0:World}{tmps:Array Value}{ds:List Deferred}{fr:Frame}{cs:List Frame}{k:List Item}
 {rid:Nat}{o0:Oper}{rest:List Oper}{c2:Code}{ops:Array Oper}
theorem UO(hm:fr.mode=.run)(hg:o0.guard=none)(oX:∀c,o0.op≠.defer c){v:Value}(hr:(execOp (ai tmps) o0).run P w=.ok (.value v) w'):
 Steps P (lone (put fr tmps ds (.code (.seq (.region rid ⟨o0::rest⟩ false) c2)::k)) cs w) (lone (put fr (jH o0.dst v tmps) ds (.inRegion ⟨o0::rest⟩ (List.range' 1 rest.length)::.code c2::k)) cs w'):=by
 refine Steps.head (BX hm) (Steps.head (Ee hm) ?_);have e:List.range (⟨o0::rest⟩:Array Oper).size=0::List.range' 1 rest.length:=by rw[xL];show List.range' 0 (rest.length+1)=_;rw[QO]
 rw[e];have ho:(⟨o0::rest⟩:Array Oper)[0]?=some o0:=rfl;have hw:Region.wanted o0 (yielded ⟨o0::rest⟩ (put fr tmps ds (.inRegion ⟨o0::rest⟩ (0::List.range' 1 rest.length)::.code c2::k)).tmps)=true:=by unfold Region.wanted;rw[hg]
 have dJ:=Eb (P:=P) (cs:=cs) (w:=w) (fr:=put fr tmps ds (.inRegion ⟨o0::rest⟩ (0::List.range' 1 rest.length)::.code c2::k)) hm rfl ho hw oX;rw[eval_put]at dJ;have kA:=Hk dJ (λ_ _ _ _ h=>by cases h) (v:=v) (w':=w') ⟨.value v,w',hr,rfl,rfl⟩;rw[Hj,ho]at kA;exact kA
theorem UP(hC:Good P ty C)(eO:lY P ty ih)(hm:fr.mode=.run)(hd:iK fr.tmps.size (o0::rest)=true)(tQ:within fr.tmps.size c2=true){Tx T1:Tr V}{v1:V}{H1:Hp}{n1:K}{r:R}
 (eG:fZ ih (eD ty ⟨o0::rest⟩ rest []) Tx Hx n=some ⟨.normal,T1,v1,H1,n1⟩)(fE:ih (.code (dC ty c2) T1) H1 n1=some r)(hT:aW η Tx tmps)(eF:tmps.size=fr.tmps.size)(hG:ch η ty.g)(hH:bk (WW ty) η Hx n w)(hl:kI fr w):
 ∃η' eb kV w',Trans (WW ty) η Hx n w η' r.H r.n w'/\eb.size=fr.tmps.size/\aW η' r.T eb/\Marks w.heap.size η' r.H w' kV ds/\jn P η' (lone (put fr tmps ds (.inRegion ⟨o0::rest⟩ (List.range' 1 rest.length)::.code c2::k)) cs w) fr cs k r.ex eb kV w':=by
 obtain⟨η1,t1,w1,g1,g2,g3,g4⟩:=KG (fr:=fr) (cs:=cs) (k:=.code c2::k) (ds:=ds) (ops:=⟨o0::rest⟩) hC eO hm hd rest 1 rfl η Tx Hx n w tmps _ eG hT eF hG hH;obtain⟨η2,t2,d2,w2,q1,q2,q3,q4,q5⟩:=eO _ _ _ _ fE η1 w1 (put fr t1 ds []) cs k c2 ⟨rfl,by show within t1.size c2=true;rw[g2];exact tQ⟩ g3 (hG.mono g1.ext) g1.rep hm (hl.trans g1);refine⟨η2,t2,d2,w2,g1.trans q1,q2.trans g2,q3,?_,.of_steps g4 q5⟩;obtain⟨bs,h1,h2,h3⟩:=q4;exact⟨bs,h1,h2,λb hb=>⟨iH g1.kept.size (h3 b hb).1,(h3 b hb).2⟩⟩
theorem UQ(ht:Trans (WW ty) η H n w η' H' n' w')(hf:∀k,n.num<=k.num->η k=none):cI η' n=η:=by
 funext k;unfold cI;by_cases h:k.num<n.num
 ·rw[au h];exact ht.dR k h
 ·rw[Ξ h,hf k (by omega)]
theorem adO{H0:Hp}(ht:Trans (WW ty) η H n w η' H' n' w')(hf:∀k,n.num<=k.num->η k=none)(hb:∀k o,H0.get k=some o->nL n o/\k.num<n.num)(hs:∀k o,H0.get k=some o->H'.get k=some o):bk (WW ty) η H0 n w':=by
 have e:=UQ ht hf;refine⟨λq o hq=>?_,λq q' o o' L L' aR hq hm gU hL iZ=>?_,hf⟩
 ·obtain⟨L,h1,h2,h3⟩:=ht.rep.obj q o (hs q o hq);refine⟨L,by rw[←e];exact qy h1 (hb q o hq).2,h2,?_⟩;rw[←e];exact h3.cI (hb q o hq).1
 ·exact ht.rep.sep q q' o o' L L' aR (hs q o hq) hm (hs q' o' gU) (ht.ext _ _ hL) (ht.ext _ _ iZ)
theorem adP{T:Tr V}{t:Array Value}(ht:Trans (WW ty) η H n w η' H' n' w')(hf:∀k,n.num<=k.num->η k=none)(h:aW η' T t)(hb:∀t v,T.get (cz t)=some v->bB n v=true):aW η T t:=by have e:=UQ ht hf;rw[←e];exact h.cI hb
structure yF(ty:Ty)(η:Env)(H H0:Hp)(n:K)(T:Tr V)(w0:World)(fr:Frame)(Lb Lm:Loc)(since:Nat)(w:World)(tmps:Array Value)(ds:List Deferred)(seen:Array Nat)(c0:Nat):Prop where
 rep:bk (WW ty) η H0 n w
 it:w.heap[Lb.blk]?=some (.mapIter (some Lm.blk) since seen c0)
 c0:since<=c0
 kept:Kept (nc η H true) w0 w
 size:tmps.size=fr.tmps.size
 jD:aW η T tmps
 marks:Marks w0.heap.size η H0 w ds fr.defers
structure tq(P:Program)(ty:Ty)(η:Env)(H H0:Hp)(kb m:K)(Lb Lm:Loc)(es:List (V×V×Nat))(dc:Nat):Prop where
 sub:∀k o,H0.get k=some o->H.get k=some o
 get:∃o,H.get kb=some o/\o.mut=true
 none:H0.get kb=none
 map:H0.get m=some (.mp es dc)
 lb:η kb=some Lb
 lm:η m=some Lm
 off:Lb.off=0
 apart:∀k o L,H0.get k=some o->η k=some L->L.blk≠Lb.blk
 stamps:xU dc 0 es=true
theorem UR{dc:Nat}:∀{lo:Nat} {es:List (V×V×Nat)},xU dc lo es=true->∀e∈es,e.2.2<dc:=by
 intro lo es
 induction es generalizing lo with
 | nil=>intro _ e h;cases h
 | cons a es ih=>
  obtain⟨x,y,t⟩:=a;intro h e he;simp only[xU,bh]at h;rcases fX.1 he with rfl | he
  ·have:=h.1.2;simpa[fJ]using this
  ·exact ih h.2 e he
theorem eE.mem:∀{es:List (V×V×Nat)} {l:List MapEntry},eE η es l->∀e∈l,∃k v,(k,v,e.born)∈es/\al η k e.key/\al η v e.val
 | [],[],_,e,h=>by cases h
 | (a,b,t)::es,x::l,⟨h1,h2,h3,h4⟩,e,h=>by
  rcases fX.1 h with rfl | h
  ·exact⟨a,b,by rw[h3];simp,h1,h2⟩
  ·obtain⟨k,v,g1,g2⟩:=eE.mem h4 e h;exact⟨k,v,List.mem_cons_of_mem _ g1,g2⟩
theorem eE.LR:∀{es:List (V×V×Nat)} {l:List MapEntry},eE η es l->l.map (·.born)=es.map (·.2.2)
 | [],[],_=>rfl
 | (a,b,t)::es,x::l,⟨h1,h2,h3,h4⟩=>by simp only[lP,h3,eE.LR h4]
theorem US(gw:Array MapEntry)(seen:Array Nat):(leftOf gw seen).size=(gw.toList.map (·.born)).countP (λt=>!seen.contains t):=by unfold leftOf;rw[←Bt,Array.toList_filter,←List.countP_eq_length_filter,List.countP_map];rfl
theorem yF.me{H0:Hp}{kb m:K}{Lb Lm:Loc}{es:List (V×V×Nat)}{dc since c0 t:Nat}{seen:Array Nat}(X:tq P ty η H H0 kb m Lb Lm es dc)(I:yF ty η H H0 n T w0 fr Lb Lm since w tmps ds seen c0){w1:World}(hw:w1=w\/w1=w.drew):
 bk (WW ty) η (H0.put (some (.me m dc t)) kb) n (setBlock w1 Lb.blk (.mapIter (some Lm.blk) since (seen.push t) dc))/\Kept (nc η H true) w0 (setBlock w1 Lb.blk (.mapIter (some Lm.blk) since (seen.push t) dc))/\(setBlock w1 Lb.blk (.mapIter (some Lm.blk) since (seen.push t) dc)).heap[Lb.blk]?=some (.mapIter (some Lm.blk) since (seen.push t) dc)/\Marks w0.heap.size η (H0.put (some (.me m dc t)) kb) (setBlock w1 Lb.blk (.mapIter (some Lm.blk) since (seen.push t) dc)) ds fr.defers/\(setBlock w1 Lb.blk (.mapIter (some Lm.blk) since (seen.push t) dc)).heap.size=w.heap.size:=by
 have hh:w1.heap=w.heap:=by rcases hw with rfl | rfl<;>rfl
 have h1:w1.os=w.os:=by rcases hw with rfl | rfl<;>rfl
 have h2:w1.tape=w.tape:=by rcases hw with rfl | rfl<;>rfl
 have h3:w1.output=w.output:=by rcases hw with rfl | rfl<;>rfl
 have ω:Lb.blk<w.heap.size:=(oh.1 I.it).1;have heap:(setBlock w1 Lb.blk (.mapIter (some Lm.blk) since (seen.push t) dc)).heap=w.heap.setIfInBounds Lb.blk (.mapIter (some Lm.blk) since (seen.push t) dc):=by show w1.heap.setIfInBounds _ _=_;rw[hh]
 have same:∀b,b≠Lb.blk->(setBlock w1 Lb.blk (.mapIter (some Lm.blk) since (seen.push t) dc)).heap[b]?=w.heap[b]?:=λb hb=>by rw[heap,gB,Ξ (λe=>hb e.symm)]
 have at':(setBlock w1 Lb.blk (.mapIter (some Lm.blk) since (seen.push t) dc)).heap[Lb.blk]?=some (.mapIter (some Lm.blk) since (seen.push t) dc):=by rw[heap,gB,au rfl,au ω]
 have sz:(setBlock w1 Lb.blk (.mapIter (some Lm.blk) since (seen.push t) dc)).heap.size=w.heap.size:=by rw[heap];simp
 refine⟨⟨λq o hq=>?_,λq q' o o' L L' aR hq Jj gU hL iZ=>?_,I.rep.free⟩,?_,at',?_,sz⟩
 ·rw[Tr.fI]at hq;by_cases e:q=kb
  ·rw[au e]at hq;injection hq with hq;subst hq;subst e;exact⟨Lb,X.lb,by rw[sz];exact ω,X.off,Lm,since,seen.push t,X.lm,at',by simp⟩
  ·rw[Ξ e]at hq;obtain⟨L,g1,g2,g3⟩:=I.rep.obj q o hq;refine⟨L,g1,by rw[sz];exact g2,?_⟩;rw[same _ (X.apart q o L hq g1)];exact g3
 ·rw[Tr.fI]at hq gU;by_cases e:q=kb
  ·rw[au e]at hq;injection hq with hq;subst hq;cases Jj
  ·rw[Ξ e]at hq;by_cases e':q'=kb
   ·rw[e',X.lb]at iZ;injection iZ with iZ;subst iZ;exact X.apart q o L hq hL
   ·rw[Ξ e']at gU;exact I.rep.sep q q' o o' L L' aR hq Jj gU hL iZ
 ·obtain⟨ob,hob,Jj⟩:=X.get;refine⟨h1.trans I.kept.os,h2.trans I.kept.tape,h3.trans I.kept.output,by rw[sz];exact I.kept.size,λb hb hF=>?_,λb r hr=>?_⟩
  ·rw[same b (λe=>hF ⟨kb,ob,Lb,hob,λ_=>Jj,X.lb,e.symm⟩)];exact I.kept.block b hb hF
  ·obtain⟨r',h⟩:=I.kept.loops b r hr;refine⟨r',?_⟩;rw[same b (λe=>by rw[e,I.it]at h;cases h)];exact h
 ·obtain⟨bs,g1,g2,g3⟩:=I.marks;refine⟨bs,g1,g2,λb hb=>?_⟩;obtain⟨a1,a2,a3⟩:=g3 b hb;refine⟨a1,?_,?_⟩
  ·rw[same b (λe=>by rw[e,I.it]at a2;cases a2)];exact a2
  ·rintro⟨q,o,L,b1,b2,b3,b4⟩;rw[Tr.fI]at b1;by_cases e:q=kb
   ·rw[au e]at b1;injection b1 with b1;subst b1;cases b2 rfl
   ·rw[Ξ e]at b1;exact a3 ⟨q,o,L,b1,b2,b3,b4⟩
theorem UT{x0:Operand}{x:ax}{kb:K}{Lb:Loc}(wO:bK ty x0=some x)(hi:sJ T x kb=true)(hT:aW η T tmps)(hG:ch η ty.g)(hb:η kb=some Lb)(ho:Lb.off=0):ai tmps x0=.pointer (some ⟨Lb.blk,0,none⟩):=by
 unfold sJ at hi;split at hi
 case h_2=>cases hi
 rename_i b' hx;have e:=K.beq_eq hi;subst e;have h:=cw hT hG wO hx;generalize ai tmps x0=y at h;cases h with
 | p _ _ L hL=>rw[hb]at hL;injection hL with hL;subst hL;rw[ho]
theorem LS(hC:Good P ty C)(eO:lY P ty ih)(hm:fr.mode=.run){d0:Option Tmp}{x0:Operand}{rt:TypeId}{pos:String}{after:Array Edge}(wi:o0=⟨d0,.next x0 false,rt,pos,after,none⟩)
 (hd:iK fr.tmps.size (o0::rest)=true)(tQ:within fr.tmps.size c2=true){x:ax}(wO:bK ty x0=some x){H0:Hp}{kb m:K}{Lb Lm:Loc}{es:List (V×V×Nat)}{dc c0:Nat}{seen:Array Nat}
 (X:tq P ty η H H0 kb m Lb Lm es dc)(I:yF ty η H H0 n T w0 fr Lb Lm dc w tmps ds seen c0)(hG:ch η ty.g)(hl:kI fr w0)(Jk:sJ T x kb=true)
 (LU:∀e∈es,∃rr,AB ih (d0.map cz) (eD ty ⟨o0::rest⟩ rest []) (dC ty c2) kb m dc T H0 n e=some rr):
 ((es.map (·.2.2)).countP (λt=>!seen.contains t)=0/\(execOp (ai tmps) o0).run P w=.ok (.value (.tuple #[.bool false])) w)\/
 ∃e rr w2 η' eb kV w',e∈es/\seen.contains e.2.2=false/\AB ih (d0.map cz) (eD ty ⟨o0::rest⟩ rest []) (dC ty c2) kb m dc T H0 n e=some rr/\bk (WW ty) η (H0.put (some (.me m dc e.2.2)) kb) n w2/\Kept (nc η H true) w0 w2/\w2.heap[Lb.blk]?=some (.mapIter (some Lm.blk) dc (seen.push e.2.2) dc)/\Marks w0.heap.size η (H0.put (some (.me m dc e.2.2)) kb) w2 ds fr.defers/\Trans (WW ty) η (H0.put (some (.me m dc e.2.2)) kb) n w2 η' rr.H rr.n w'/\eb.size=fr.tmps.size/\aW η' rr.T eb/\Marks w2.heap.size η' rr.H w' kV ds/\jn P η' (lone (put fr tmps ds (.code (.seq (.region rid ⟨o0::rest⟩ false) c2)::k)) cs w) fr cs k rr.ex eb kV w':=by
 obtain⟨gw,sN,Jf⟩:=yj I.rep X.map X.lm;have hold:∀y∈gw.toList,y.born<dc:=λy hy=>by obtain⟨_,_,h,_⟩:=Jf.mem y hy;exact UR X.stamps _ h
 have Bf:=UT wO Jk I.jD hG X.lb X.off;have hx:∀v w1,(Instr.next (.pointer (some ⟨Lb.blk,0,none⟩)) false rt).run P w=.ok v w1->(execOp (ai tmps) o0).run P w=.ok (.value v) w1:=by intro v w1 h;subst wi;show(do pure (.value (←Instr.next (ai tmps x0) false rt)):Sem Next).run P w=_;rw[Bf];show(Sem.bind _ _).run P w=_;rw[Sem.run_bind',h];rfl
 rcases run_next_at w rt Lb.blk Lm.blk dc c0 seen gw dc I.it sN hold I.c0 with ⟨h1,h2⟩ | ⟨e',h1,w1,h2,h3⟩
 ·left;refine⟨?_,hx _ _ h2⟩;rw[US,Jf.LR]at h1;exact h1
 ·right;have Ov:e'∈gw.toList/\seen.contains e'.born=false:=by
   unfold leftOf at h1;simpa using h1
  obtain⟨kk,vv,UU,hk,hv⟩:=Jf.mem e' Ov.1;obtain⟨rr,C7⟩:=LU _ UU;obtain⟨q1,q2,q3,q4,q5⟩:=I.me X h2 (t:=e'.born);have Ij:=C7;unfold AB at Ij;split at Ij
  case h_2=>cases Ij
  rename_i T1 v1 H1 n1 LV;have eF:∀d,o0.dst=some d->d<tmps.size:=λd oz=>by rw[I.size];exact LP hd o0 (by simp) d oz
  have pV:o0.dst=d0:=by rw[wi]
  have LW:aW η (eg (d0.map cz) (some (.u [.b true,kk,vv])) T) (jH o0.dst (.tuple #[.bool true,e'.key,e'.val]) tmps):=by rw[←pV];exact I.jD.jH eF (.u _ _ (.cons _ _ _ _ (.b _) (.cons _ _ _ _ hk (.cons _ _ _ _ hv .nil))))
  have oY:kI fr (setBlock w1 Lb.blk (.mapIter (some Lm.blk) dc (seen.push e'.born) dc)):=λl tt=>let⟨q,hq⟩:=hl l tt;q2.loops l q hq;obtain⟨η',eb,kV,w',b1,b2,b3,b4,b5⟩:=UP (cs:=cs) (k:=k) (ds:=ds) hC eO hm hd tQ LV Ij LW (by rw[Ec];exact I.size) hG q1 oY;refine⟨(kk,vv,e'.born),rr,_,η',eb,kV,w',UU,Ov.2,C7,q1,q2,q3,q4,b1,b2,b3,b4,.of_steps (UO hm (by rw[wi]) (λc h=>by rw[wi]at h;cases h) (hx _ _ h3)) b5⟩
end
end
section
section
variable {P:Program}{ty:Ty}{C:Nat->Option bN}{ih:dY}{η η':Env}{T:Tr V}{H H' Hx H0:Hp}{n n':K}{w w' w0 w2:World}{tmps eb:Array Value}{ds kV:List Deferred}{fr:Frame}{cs:List Frame}{k:List Item}
 {rid:Nat}{o0:Oper}{rest:List Oper}{c2:Code}{ops:Array Oper}{kb m:K}{Lb Lm:Loc}{es:List (V×V×Nat)}{dc c0 t:Nat}{seen:Array Nat}
theorem Trans.from(kept:Kept (nc η H true) w0 w)(jT:∀mm b,nc η Hx mm b->nc η H mm b)(tr:Trans (WW ty) η Hx n w η' H' n' w'):Trans (WW ty) η H n w0 η' H' n' w' where
 ext:=tr.ext
 le:=tr.le
 rep:=tr.rep
 kept:=
  {os:=tr.kept.os.trans kept.os
   tape:=tr.kept.tape.trans kept.tape
   output:=tr.kept.output.trans kept.output
   size:=iH kept.size tr.kept.size
   block:=λb hb hF=>by rw[tr.kept.block b (fk hb kept.size) λJ7=>hF (jT _ _ J7),kept.block b hb hF]
   loops:=λb r hb=>let⟨r',h1⟩:=kept.loops b r hb;tr.kept.loops b r' h1}
 kZ:=λmm b hb=>by
  rcases tr.kZ mm b hb with h1 | h1
  ·exact .inl (jT _ _ h1)
  ·exact .inr (iH kept.size h1)
 dR:=tr.dR
theorem tq.UW(X:tq P ty η H H0 kb m Lb Lm es dc)(mm:Bool)(b:Nat)(h:nc η H0 mm b):nc η H mm b:=let⟨q,o,L,h1,h2⟩:=h;⟨q,o,L,X.sub q o h1,h2⟩
theorem tq.UX(X:tq P ty η H H0 kb m Lb Lm es dc)(mm:Bool)(b:Nat)(h:nc η (H0.put (some (.me m dc t)) kb) mm b):nc η H mm b:=by
 obtain⟨q,o,L,h1,h2,h3,h4⟩:=h;rw[Tr.fI]at h1;by_cases e:q=kb
 ·rw[au e]at h1;injection h1 with h1;subst h1;subst e;obtain⟨ob,g1,g2⟩:=X.get;exact⟨q,ob,L,g1,λ_=>g2,h3,h4⟩
 ·rw[Ξ e]at h1;exact⟨q,o,L,X.sub q o h1,h2,h3,h4⟩
theorem tq.UY(X:tq P ty η H H0 kb m Lb Lm es dc):¬ nc η (H0.put (some (.me m dc t)) kb) true Lb.blk:=by
 rintro⟨q,o,L,h1,h2,h3,h4⟩;rw[Tr.fI]at h1;by_cases e:q=kb
 ·rw[au e]at h1;injection h1 with h1;subst h1;cases h2 rfl
 ·rw[Ξ e]at h1;exact X.apart q o L h1 h3 h4
theorem yF.again(X:tq P ty η H H0 kb m Lb Lm es dc)(I:yF ty η H H0 n T w0 fr Lb Lm dc w tmps ds seen c0)(UZ:Kept (nc η H true) w0 w2)
 (it2:w2.heap[Lb.blk]?=some (.mapIter (some Lm.blk) dc (seen.push t) dc))(adR:Marks w0.heap.size η (H0.put (some (.me m dc t)) kb) w2 ds fr.defers)
 (tr:Trans (WW ty) η (H0.put (some (.me m dc t)) kb) n w2 η' H' n' w')(eF:eb.size=fr.tmps.size){T':Tr V}(KQ:aW η' T' eb)(mk:Marks w2.heap.size η' H' w' kV ds)
 (hTT:fP cT T T'=true)(hHH:fP wF H0 H'=true):yF ty η H H0 n T w0 fr Lb Lm dc w' eb kV (seen.push t) dc:=by
 have hs:∀q o,H0.get q=some o->H'.get q=some o:=AA (λ_ _=>Ii) hHH;have gW:∀q o,H0.get q=some o->nL n o/\q.num<n.num:=λq o hq=>⟨let⟨L,_,_,h⟩:=I.rep.obj q o hq;h.below I.rep.free,I.rep.zO hq⟩;have ω:Lb.blk<w2.heap.size:=(oh.1 it2).1;refine⟨adO tr I.rep.free gW hs,?_,χ _,?_,eF,adP tr I.rep.free (λq v hv=>KQ q v (AA (λ_ _=>wZ) hTT _ _ hv)) (λq v hv=>let⟨y,_,h⟩:=I.jD q v hv;h.mf I.rep.free),?_⟩
 ·rw[tr.kept.block _ ω X.UY];exact it2
 ·have:=Trans.from UZ (λmm b=>X.UX mm b) tr;exact this.kept
 ·obtain⟨bs,h1,h2,h3⟩:=adR.next tr mk UZ.size;refine⟨bs,h1,h2,λb hb=>?_⟩;obtain⟨a1,a2,a3⟩:=h3 b hb;refine⟨a1,a2,λ⟨q,o,L,b1,b2,b3,b4⟩=>a3 ⟨q,o,L,hs q o b1,b2,tr.ext _ _ b3,b4⟩⟩
theorem LX(hC:Good P ty C)(eO:lY P ty ih)(hm:fr.mode=.run){d0:Option Tmp}{x0:Operand}{rt:TypeId}{pos:String}{after:Array Edge}(wi:o0=⟨d0,.next x0 false,rt,pos,after,none⟩)
 (hd:iK fr.tmps.size (o0::rest)=true)(tQ:within fr.tmps.size c2=true){r:R}(Bj:EZ ih (d0.map cz) (eD ty ⟨o0::rest⟩ rest []) (dC ty c2) T H0 n=some r)
 (hx:(execOp (ai tmps) o0).run P w=.ok (.value (.tuple #[.bool false])) w)(hT:aW η T tmps)(eF:tmps.size=fr.tmps.size)(hG:ch η ty.g)(hH:bk (WW ty) η H0 n w)(hl:kI fr w):
 r.ex≠.normal/\∃η' eb kV w',Trans (WW ty) η H0 n w η' r.H r.n w'/\eb.size=fr.tmps.size/\aW η' r.T eb/\Marks w.heap.size η' r.H w' kV ds/\jn P η' (lone (put fr tmps ds (.code (.seq (.region rid ⟨o0::rest⟩ false) c2)::k)) cs w) fr cs k r.ex eb kV w':=by
 unfold EZ at Bj;split at Bj
 case h_2=>cases Bj
 rename_i T1 v1 H1 n1 LV;have aR:r.ex≠.normal/\ih (.code (dC ty c2) T1) H1 n1=some r:=by
  split at Bj
  ·cases Bj
  ·rename_i hU;refine⟨λe=>?_,Bj⟩;obtain⟨ex,T2,v2,H2,n2⟩:=r;simp only at e;subst e;exact hU _ _ _ _ Bj
 have adS:∀d,o0.dst=some d->d<tmps.size:=λd oz=>by rw[eF];exact LP hd o0 (by simp) d oz
 have pV:o0.dst=d0:=by rw[wi]
 have LW:aW η (eg (d0.map cz) (some (.u [.b false])) T) (jH o0.dst (.tuple #[.bool false]) tmps):=by rw[←pV];exact hT.jH adS (.u _ _ (.cons _ _ _ _ (.b _) .nil))
 obtain⟨η',eb,kV,w',b1,b2,b3,b4,b5⟩:=UP (cs:=cs) (k:=k) (ds:=ds) hC eO hm hd tQ LV aR.2 LW (by rw[Ec];exact eF) hG hH hl;exact⟨aR.1,η',eb,kV,w',b1,b2,b3,b4,.of_steps (UO hm (by rw[wi]) (λc h=>by rw[wi]at h;cases h) hx) b5⟩
theorem adT(hC:Good P ty C)(eO:lY P ty ih)(hm:fr.mode=.run){d0:Option Tmp}{x0:Operand}{rt:TypeId}{pos:String}{after:Array Edge}(wi:o0=⟨d0,.next x0 false,rt,pos,after,none⟩)
 (hd:iK fr.tmps.size (o0::rest)=true)(tQ:within fr.tmps.size c2=true){x:ax}(wO:bK ty x0=some x)(X:tq P ty η H H0 kb m Lb Lm es dc)(hG:ch η ty.g)(hl:kI fr w0)(Jk:sJ T x kb=true)
 (LU:∀e∈es,∃T' v H' n',AB ih (d0.map cz) (eD ty ⟨o0::rest⟩ rest []) (dC ty c2) kb m dc T H0 n e=some ⟨.normal,T',v,H',n'⟩/\fP cT T T'=true/\fP wF H0 H'=true)
 {r:R}(Bj:EZ ih (d0.map cz) (eD ty ⟨o0::rest⟩ rest []) (dC ty c2) T H0 n=some r):
 ∀(Ox:Nat) (w:World) (tmps:Array Value) (ds:List Deferred) (seen:Array Nat) (c0:Nat),yF ty η H H0 n T w0 fr Lb Lm dc w tmps ds seen c0->(es.map (·.2.2)).countP (λt=>!seen.contains t)<=Ox->∃η' eb kV w',Trans (WW ty) η H n w0 η' r.H r.n w'/\eb.size=fr.tmps.size/\aW η' r.T eb/\Marks w0.heap.size η' r.H w' kV fr.defers/\jn P η' (lone (put fr tmps ds (.code (.seq (.region rid ⟨o0::rest⟩ false) c2)::.inLoop (.seq (.region rid ⟨o0::rest⟩ false) c2)::k)) cs w) fr cs k r.ex eb kV w':=by
 intro Ox
 induction Ox with
 | zero=>
  intro w tmps ds seen c0 I adU;rcases LS (cs:=cs) (rid:=rid) (k:=.inLoop (.seq (.region rid ⟨o0::rest⟩ false) c2)::k) hC eO hm wi hd tQ wO X I hG hl Jk (λe he=>let⟨T',v,H',n',h,_⟩:=LU e he;⟨_,h⟩) with ⟨h1,h2⟩ | ⟨e,rr,w2,η',eb,kV,w',h1,h2,h3⟩
  ·have qT:kI fr w:=λl tt=>let⟨q,hq⟩:=hl l tt;I.kept.loops l q hq;obtain⟨aR,η',eb,kV,w',b1,b2,b3,b4,b5⟩:=LX (cs:=cs) (rid:=rid) (k:=.inLoop (.seq (.region rid ⟨o0::rest⟩ false) c2)::k) (ds:=ds) hC eO hm wi hd tQ Bj h2 I.jD I.size hG I.rep qT;exact⟨η',eb,kV,w',.from I.kept X.UW b1,b2,b3,I.marks.next b1 b4 I.kept.size,.pass (by intro id h;cases h) aR b5⟩
  ·exfalso;have h0:(es.map (·.2.2)).countP (λt=>!seen.contains t)=0:=by omega
   rw[List.countP_eq_zero]at h0;have:=h0 e.2.2 (List.mem_map.2 ⟨e,h1,rfl⟩);rw[h2]at this;exact this rfl
 | succ Ox jN=>
  intro w tmps ds seen c0 I adU;rcases LS (cs:=cs) (rid:=rid) (k:=.inLoop (.seq (.region rid ⟨o0::rest⟩ false) c2)::k) hC eO hm wi hd tQ wO X I hG hl Jk (λe he=>let⟨T',v,H',n',h,_⟩:=LU e he;⟨_,h⟩) with ⟨h1,h2⟩ | ⟨e,rr,w2,η',eb,kV,w',h1,h2,h3,g1,g2,g3,g4,g5,g6,g7,g8,g9⟩
  ·have qT:kI fr w:=λl tt=>let⟨q,hq⟩:=hl l tt;I.kept.loops l q hq;obtain⟨aR,η',eb,kV,w',b1,b2,b3,b4,b5⟩:=LX (cs:=cs) (rid:=rid) (k:=.inLoop (.seq (.region rid ⟨o0::rest⟩ false) c2)::k) (ds:=ds) hC eO hm wi hd tQ Bj h2 I.jD I.size hG I.rep qT;exact⟨η',eb,kV,w',.from I.kept X.UW b1,b2,b3,I.marks.next b1 b4 I.kept.size,.pass (by intro id h;cases h) aR b5⟩
  ·obtain⟨T',v,H',n',q1,q2,q3⟩:=LU e h1;rw[h3]at q1;injection q1 with q1;subst q1;have I':=I.again X g2 g3 g4 g5 g6 g7 g8 q2 q3;have hc:(es.map (·.2.2)).countP (λt=>!(seen.push e.2.2).contains t)<(es.map (·.2.2)).countP (λt=>!seen.contains t):=by
    refine UL (λx hx=>?_) (List.mem_map.2 ⟨e,h1,rfl⟩) (by rw[h2];rfl) (by simp);simp at hx ⊢;exact hx.1
   obtain⟨η2,t2,d2,w3,b1,b2,b3,b4,b5⟩:=jN w' eb kV (seen.push e.2.2) dc I' (by omega);refine⟨η2,t2,d2,w3,b1,b2,b3,b4,.of_steps (Steps.trans g9 (.one (KI hm))) b5⟩
theorem adV(hC:Good P ty C)(eO:lY P ty ih)(c:Code)(d:Option K)(x:ax)(l:List AO)(b:AC)(ws:List K)(T:Tr V)(H:Hp)(n:K)(r:R)(hk:uy ty (dC ty c) c=.ph d x l b ws)
 (hr:bD (λ_=>none) ih (.code (.ph d x l b ws) T) H n=some r)(η:Env)(w:World)(fr:Frame)(cs:List Frame)(k:List Item)(hw:within fr.tmps.size (.loop c)=true)
 (hT:aW η T fr.tmps)(hG:ch η ty.g)(hH:bk (WW ty) η H n w)(hm:fr.mode=.run)(hl:kI fr w):
 ∃η' tmps ds w',Trans (WW ty) η H n w η' r.H r.n w'/\tmps.size=fr.tmps.size/\aW η' r.T tmps/\Marks w.heap.size η' r.H w' ds fr.defers/\jn P η' (lone (put fr fr.tmps fr.defers (.code (.loop c)::k)) cs w) fr cs k r.ex tmps ds w':=by
 obtain⟨rid,d0,x0,rt,pos,after,rest,c2,rfl,rfl,wO,rfl,rfl⟩:=adN hk;have xr:within fr.tmps.size (.seq (.region rid ⟨⟨d0,.next x0 false,rt,pos,after,none⟩::rest⟩ false) c2)=true:=hw;simp only[within,bh]at xr;obtain⟨kb,m,since,es,dc,hx,hb,C8,rfl,dJ,adW⟩:=adL hr;obtain⟨Lb,Yk,lb2,lb3,Lm,lb4,lb5⟩:=hH.obj kb _ hb;have aR:m≠kb:=λe=>by rw[e,hb]at C8;cases C8
 have X:tq P ty η H (H.put none kb) kb m Lb Lm es since:=by
  have hs:∀q o,(H.put none kb).get q=some o->H.get q=some o:=λq o hq=>by
   rw[Tr.fI]at hq;split at hq
   ·cases hq
   ·exact hq
  refine⟨hs,⟨_,hb,rfl⟩,Tr.G0 _ _ _,by rw[Tr.G1 _ _ aR];exact C8,Yk,lb4,lb3,λq o L hq hL=>?_,dJ⟩;have hqk:kb≠q:=λe=>by rw[←e,Tr.G0]at hq;cases hq
  exact λe=>hH.sep kb q _ o Lb L hqk hb rfl (hs q o hq) Yk hL e.symm
 have start:∀T0:Tr V,(∀q v,T0.get q=some v->T.get q=some v)->yF ty η H (H.put none kb) n T0 w fr Lb Lm since w fr.tmps fr.defers #[] since:=λT0 h0=>
  ⟨hH.less X.sub,lb5,χ _,.refl _ _,rfl,λq v hv=>hT q v (h0 _ _ hv),.refl _ _ _ _ _⟩
 have E0:Steps P (lone (put fr fr.tmps fr.defers (.code (.loop (.seq (.region rid ⟨⟨d0,.next x0 false,rt,pos,after,none⟩::rest⟩ false) c2))::k)) cs w)
  (lone (put fr fr.tmps fr.defers (.code (.seq (.region rid ⟨⟨d0,.next x0 false,rt,pos,after,none⟩::rest⟩ false) c2)::.inLoop (.seq (.region rid ⟨⟨d0,.next x0 false,rt,pos,after,none⟩::rest⟩ false) c2)::k)) cs w):=.one (Hm hm)
 rcases adW with ⟨e,rfl,h⟩ | ⟨h1,h2,h3⟩
 ·
  have I:=start T (λ_ _ h=>h);have Jk:sJ T x kb=true:=by unfold sJ;rw[hx];exact K.beq_refl _
  unfold UN at h;cases C7:AB ih (d0.map cz) (eD ty ⟨⟨d0,.next x0 false,rt,pos,after,none⟩::rest⟩ rest []) (dC ty c2) kb m since T (H.put none kb) n e with
  | none=>rw[C7]at h;cases h
  | some rr=>
   rw[C7]at h;rcases LS (cs:=cs) (rid:=rid) (k:=.inLoop (.seq (.region rid ⟨⟨d0,.next x0 false,rt,pos,after,none⟩::rest⟩ false) c2)::k) hC eO hm rfl xr.1 xr.2 wO X I hG hl Jk (λe' Ov=>by
    have:e'=e:=by simpa using Ov
    subst this;exact⟨rr,C7⟩) with ⟨h1,h2⟩ | ⟨e',rr',w2,η',eb,kV,w',h1,h2,h3,g1,g2,g3,g4,g5,g6,g7,g8,g9⟩
   ·exfalso;simp at h1
   ·have he:e'=e:=by simpa using h1
    subst he;rw[C7]at h3;injection h3 with h3;subst h3;have aun:=g2;have t1:=Trans.from g2 (λmm b=>X.UX mm b) g5;have Oy:=g4.next g5 g8 g2.size;obtain⟨ex,T1,v1,H1,n1⟩:=rr;cases ex with
    | exit id=>
     injection h with h;subst h;exact⟨η',eb,kV,w',t1,g6,g7,Oy,.of_steps E0 (.pass (by intro id h;cases h) (by intro h;cases h) g9)⟩
    | ret=>
     injection h with h;subst h;exact⟨η',eb,kV,w',t1,g6,g7,Oy,.of_steps E0 (.pass (by intro id h;cases h) (by intro h;cases h) g9)⟩
    | panic u=>
     injection h with h;subst h;exact⟨η',eb,kV,w',t1,g6,g7,Oy,.of_steps E0 (.pass (by intro id h;cases h) (by intro h;cases h) g9)⟩
    | normal=>
     simp only at h;split at h
     case h_2=>cases h
     rename_i _ _ _ k' v' t' adZ e1 e2;cases hc:Nat.beq since adZ&&Nat.beq t' e'.2.2&&sJ T1 x kb with
     | false=>rw[hc]at h;cases h
     | true=>
      rw[hc]at h;simp only[cond_true]at h;simp only[bh]at hc;obtain⟨⟨zg,Oz⟩,Bk⟩:=hc;have zg:=cL zg;have Oz:=cL Oz;subst zg;have ω:Lb.blk<w2.heap.size:=(oh.1 g3).1;have it':w'.heap[Lb.blk]?=some (.mapIter (some Lm.blk) since ((#[]:Array Nat).push e'.2.2) since):=by rw[g5.kept.block _ ω X.UY];exact g3
      obtain⟨gw,m1,m2⟩:=yj g5.rep e2 (g5.ext _ _ lb4);have ad0:e'.2.2<since:=UR dJ e' (by simp);have hold:∀y∈gw.toList,y.born<since:=λy hy=>by obtain⟨_,_,hh,_⟩:=m2.mem y hy;simp only[zB,Prod.mk.injEq]at hh;rw[hh.2.2,Oz];exact ad0
      have hG':=hG.mono g5.ext;have Bf:=UT wO Bk g7 hG' (g5.ext _ _ Yk) lb3;have ad2:(leftOf gw ((#[]:Array Nat).push e'.2.2)).size=0:=by rw[US,m2.LR];simp[Oz]
      have jA:(execOp (ai eb) ⟨d0,.next x0 false,rt,pos,after,none⟩).run P w'=.ok (.value (.tuple #[.bool false])) w':=by
       rcases run_next_at w' rt Lb.blk Lm.blk since since _ gw since it' m1 hold (χ _) with ⟨_,h2⟩ | ⟨e2,h1,_⟩
       ·show(do pure (.value (←Instr.next (ai eb x0) false rt)):Sem Next).run P w'=_;rw[Bf];show(Sem.bind _ _).run P w'=_;rw[Sem.run_bind',h2];rfl
       ·exfalso;have:leftOf gw ((#[]:Array Nat).push e'.2.2)=#[]:=Array.eq_empty_of_size_eq_zero ad2;rw[this]at h1;cases h1
      have qT:kI fr w':=λl tt=>let⟨q,hq⟩:=hl l tt;t1.kept.loops l q hq;have tl:=Trans.less g5.rep kb;obtain⟨qS,η2,t2,d2,w3,b1,b2,b3,b4,b5⟩:=LX (cs:=cs) (rid:=rid) (k:=.inLoop (.seq (.region rid ⟨⟨d0,.next x0 false,rt,pos,after,none⟩::rest⟩ false) c2)::k) (ds:=kV) hC eO hm rfl xr.1 xr.2 h jA g7 g6 hG' tl.rep qT;exact⟨η2,t2,d2,w3,(t1.trans tl).trans b1,b2,b3,(Oy.trans tl).next b1 b4 t1.kept.size,.of_steps (Steps.trans E0 (Steps.trans g9 (.one (KI hm)))) (.pass (by intro id h;cases h) qS b5)⟩
 ·have I:=start (erase T ws) (λq v h=>adK ws T q v h);obtain⟨η2,t2,d2,w3,b1,b2,b3,b4,b5⟩:=adT (cs:=cs) (rid:=rid) (k:=k) hC eO hm rfl xr.1 xr.2 wO X hG hl h1 (adM h2) h3 _ w fr.tmps fr.defers #[] since I (χ _);exact⟨η2,t2,d2,w3,b1,b2,b3,b4,.of_steps E0 b5⟩
end
end
end Go.Ev
namespace Go.Ev
open Go
section
section ops
variable {P:Program}{ty:Ty}{C:Nat->Option bN}{W:Nat->Code->AC->Prop}{ih:dY}{η η':Env}{T:Tr V}{H H':Hp}{n n':K}{w w':World}{v:V}{tmps:Array Value}{ds:List Deferred}{fr:Frame}{cs:List Frame}{k:List Item}
theorem LY{N M:Nat}(hNM:N<=M):∀c,within N c=true->within M c=true:=by
 have hd:∀l,iK N l=true->iK M l=true:=by
  intro l
  induction l with
  | nil=>intro _;rfl
  | cons o l ih=>
   intro h;simp only[iK,bh]at h ⊢;refine⟨?_,ih h.2⟩;have h1:=h.1;split at h1
   ·rename_i d hd;rw[fJ,bA]at h1 ⊢;omega
   ·rfl
 have hb:∀l,ou N l=true->ou M l=true:=by
  intro l
  induction l with
  | nil=>intro _;rfl
  | cons d l ih=>
   intro h;simp only[ou,bh]at h ⊢;refine⟨?_,ih h.2⟩;have h1:=h.1;rw[fJ,bA]at h1 ⊢;omega
 intro c
 induction c with
 | region id ops dr=>exact hd _
 | seq a b jw qW=>intro h;simp only[within,bh]at h ⊢;exact⟨jw h.1,qW h.2⟩
 | cond x a b jw qW=>intro h;simp only[within,bh]at h ⊢;exact⟨jw h.1,qW h.2⟩
 | block id a jw=>exact jw
 | loop a jw=>exact jw
 | scope a jw=>exact jw
 | rangeFunc f ps a b jw qW=>intro h;simp only[within,bh]at h ⊢;exact⟨⟨hb _ h.1.1,jw h.1.2⟩,qW h.2⟩
 | _=>intro _;rfl
theorem ad3{ds0:List Deferred}:∀(bs:List Nat) (w':World),fr.mode≠.run->Trans W η H n w η' H' n' w'->(∀b∈bs,w.heap.size<=b/\w'.heap[b]?=some (.deferred (some [])))->bs.Nodup->∃w2,Steps P (lone { fr with defers:=bs.map (λb=>{ target:=.collected b,args:=#[]})++ds0} cs w') (lone { fr with defers:=ds0} cs w2)/\Trans W η H n w η' H' n' w2:=by
 intro bs
 induction bs with
 | nil=>intro w' hm ht _ _;exact⟨w',.refl _ _,ht⟩
 | cons b bs ih=>
  intro w' hm ht hb oX;obtain⟨h1,h2⟩:=hb b (by simp);have wg:=ht.deferred (d':=none) h2 h1;obtain⟨w2,s2,t2⟩:=ih _ hm wg (λq hq=>by
   obtain⟨g1,g2⟩:=hb q (by simp[hq]);refine⟨g1,?_⟩;have aR:b≠q:=λe=>by rw[e]at oX;exact(List.nodup_cons.1 oX).1 hq
   show(w'.heap.setIfInBounds b (.deferred none))[q]?=_;rw[gB,Ξ aR];exact g2) (List.nodup_cons.1 oX).2
  exact⟨w2,Steps.head (QR (bs:=bs) hm h2) s2,t2⟩
theorem ad4{ops:Array Oper}{i:Nat}{rest:List Nat}{o:Oper}{c:Call}{d:Deferred}(hm:fr.mode=.run)(hr:fr.roundOf=none)(ho:ops[i]?=some o)(eW:o.op=.defer c)(hg:o.guard=none)
 (Ad:(resolve (ai tmps) c o.type).run P w=.ok d w):
 step P (lone (put fr tmps ds (.inRegion ops (i::rest)::k)) cs w)=.next (lone (put fr (jH o.dst undef tmps) (d::ds) (.inRegion ops rest::k)) cs w):=by
 obtain⟨fn,nG,todo,defers,mode,kind,roundOf⟩:=fr;simp only at hm hr;subst hm;subst hr;have hw:Region.wanted o (yielded ops tmps)=true:=by unfold Region.wanted;rw[hg]
 have Bf:Frame.eval { fn,tmps,todo:=.inRegion ops (i::rest)::k,defers:=ds,mode:=.run,kind,roundOf:=none}=ai tmps:=by rw[eval_eq]
 have hex:(execOp (ai tmps) o).run P w=.ok (.defer d) w:=by obtain⟨dst,op,rt,pos,after,gd⟩:=o;subst eW;show(do pure (.defer (←resolve (ai tmps) c rt)):Sem Next).run P w=_;show(Sem.bind _ _).run P w=_;rw[Sem.run_bind',Ad];rfl
 refine iG ?_;simp only[put,stepG,stepG.exec,ho,rk,Option.getD_some,hw,if_true];have:stepG.oper P true { fn,tmps,todo:=.inRegion ops (i::rest)::k,defers:=ds,mode:=.run,kind,roundOf:=none} cs none w=
  stepG.apply P true { fn,tmps,todo:=.inRegion ops (i::rest)::k,defers:=ds,mode:=.run,kind,roundOf:=none} cs none (execOp (ai tmps) o) w:=by
  simp only[stepG.oper,Frame.oper?,ho,Bf]
 rw[this];simp only[stepG.apply,Sem.runT_eq,hex,GStep.bare_after];simp only[Frame.finish,ho,BA];rfl
def found(caller:Frame)(x:Value)(mS:Frame):Prop:=
 (caller.mode=.returning/\x=.nilIface/\mS=caller)\/
 (caller.mode=.panicking [{ v:=x,recovered:=false}]/\mS={ caller with mode:=.panicking [{ v:=x,recovered:=true}]})
theorem ad5{ops:Array Oper}{i:Nat}{rest:List Nat}{o:Oper}{a:Array Operand}{t:Array TypeId}{caller mS:Frame}{x:Value}(hm:fr.mode=.run)(hk:fr.kind=.deferred)(hr:fr.roundOf=none)(ho:ops[i]?=some o)(eW:o.op=.call ⟨.builtin .recover,a,t⟩)(hg:o.guard=none)
 (hf:found caller x mS):
 step P (lone (put fr tmps ds (.inRegion ops (i::rest)::k)) (caller::cs) w)=.next (lone (put fr (jH o.dst x tmps) ds (.inRegion ops rest::k)) (mS::cs) w):=by
 obtain⟨fn,nG,todo,defers,mode,kind,roundOf⟩:=fr;simp only at hm hr hk;subst hm;subst hr;subst hk;have hw:Region.wanted o (yielded ops tmps)=true:=by unfold Region.wanted;rw[hg]
 have Bf:Frame.eval { fn,tmps,todo:=.inRegion ops (i::rest)::k,defers:=ds,mode:=.run,kind:=.deferred,roundOf:=none}=ai tmps:=by rw[eval_eq]
 have hex:(execOp (ai tmps) o).run P w=.ok .recover w:=by obtain⟨dst,op,rt,pos,after,gd⟩:=o;subst eW;rfl
 refine iG ?_;simp only[put,stepG,stepG.exec,ho,rk,Option.getD_some,hw,if_true];have:stepG.oper P true { fn,tmps,todo:=.inRegion ops (i::rest)::k,defers:=ds,mode:=.run,kind:=.deferred,roundOf:=none} (caller::cs) none w=
  stepG.apply P true { fn,tmps,todo:=.inRegion ops (i::rest)::k,defers:=ds,mode:=.run,kind:=.deferred,roundOf:=none} (caller::cs) none (execOp (ai tmps) o) w:=by
  simp only[stepG.oper,Frame.oper?,ho,Bf]
 rw[this];simp only[stepG.apply,Sem.runT_eq,hex,GStep.bare_after];rcases hf with ⟨h1,rfl,rfl⟩ | ⟨h1,rfl⟩
 ·simp only[tryRecover,h1];simp only[Frame.finish,ho,BA];rfl
 ·simp only[tryRecover,h1];simp only[Frame.finish,ho,BA];rfl
theorem ad6{g:Nat}{cap:Array Value}{args:Array Value}{ds0:List Deferred}{av:Array Value}(hm:fr.mode≠.run)(hd:fr.defers={ target:=.fn (.func g) cap,args}::ds0)(px:(invoke (.fn (.func g) cap) args).run P w=.ok (.enter g av) w):
 step P (lone fr cs w)=.next (lone (Frame.enter P g av .deferred) ({ fr with defers:=ds0}::cs) w):=by
 obtain⟨fn,nG,todo,defers,mode,kind,roundOf⟩:=fr;simp only at hm hd;subst hd;refine iG ?_;cases mode with
 | run=>exact absurd rfl hm
 | _=>simp[stepG,unwind,callDeferred,Sem.runT_eq,px]
theorem ad7{caller:Frame}{x:Value}{cf:Func}{y:Value}(hf:P.funcs[fr.fn]?=some cf)(hm:fr.mode=.returning)(hd:fr.defers=[])(hk:fr.kind=.deferred)(Ad:(results cf fr.tmps).run P w=.ok y w)
 (hc:caller.mode=.returning\/caller.mode=.panicking [{ v:=x,recovered:=true}]):
 step P (lone fr (caller::cs) w)=.next (lone { caller with mode:=.returning} cs w):=by
 obtain⟨fn,nG,todo,defers,mode,kind,roundOf⟩:=fr;simp only at hm hd hk hf Ad;subst hd;subst hk;subst hm;refine iG ?_;rcases hc with h | h
 ·have e:({ caller with mode:=.returning}:Frame)=caller:=by rw[←h]
  simp[stepG,unwind,hf,Ad,doReturn,h,e]
 ·simp[stepG,unwind,hf,Ad,doReturn,h]
end ops
end
section
section ops
variable {P:Program}{ty:Ty}{C:Nat->Option bN}{W:Nat->Code->AC->Prop}{ih:dY}{η η':Env}{T:Tr V}{H H':Hp}{n n':K}{w w':World}{v:V}{tmps:Array Value}{ds:List Deferred}{fr:Frame}{cs:List Frame}{k:List Item}
theorem ad8{fn:Func}{cl:Nat->Option Func}{af:BE}(h:yc ty fn cl=some af):
 ∃(i1 i2 i3:Nat) (pre:Array Oper) (s:Tmp) (g:FuncId) (gN:Array Operand) (t1 t2 t3:TypeId) (p1 p2 p3:String) (e1 e2 e3:Array Edge) (C9 LZ:Array TypeId) (a3:Array Operand) (rest ov:Code) (q:Tmp) (cf:Func) (rs:List AR) (DP:List ax),fn.body=some (.seq (.region i1 pre false) (.seq (.region i2 ⟨[⟨some s,.makeFunc (.func g) ⟨[]⟩ gN,t1,p1,e1,none⟩,⟨none,.defer ⟨.value (.tmp s),⟨[]⟩,C9⟩,t2,p2,e2,none⟩]⟩ false) rest))/\yb ty fn.results.toList=some rs/\po ty gN.toList=some DP/\cl g=some cf/\cf.body=some (.seq (.region i3 ⟨[⟨some q,.call ⟨.builtin .recover,a3,LZ⟩,t3,p3,e3,none⟩]⟩ false) ov)/\iK fn.ntmps pre.toList=true/\s<fn.ntmps/\within fn.ntmps rest=true/\q<cf.ntmps/\within cf.ntmps ov=true/\cf.results.size=0/\af={ jD:=(List.range (fn.params.size+fn.nfree)).map cz,res:=rs,pre:=eD ty pre pre.toList [],JQ:=cz s,g:=g,gN:=DP,body:=dC ty rest,JR:=(List.range (cf.params.size+cf.nfree)).map cz,JT:=cz q,JU:=dC ty ov}:=by
 unfold yc at h;split at h
 case h_2=>cases h
 rename_i oD C3;split at h
 case h_2=>cases h
 rename_i ad9 ju;split at h
 case h_2=>cases h
 rename_i Jh;simp only[iD]at h;split at h
 case isFalse=>cases h
 rename_i uF;simp only[bh,fJ,bA]at uF;obtain⟨c1,c2,c3,c4,c5,c6,c7⟩:=uF;injection h with h;have c1:=cL c1;subst c1;exact⟨_,_,_,_,_,_,_,_,_,_,_,_,_,_,_,_,_,_,_,_,_,_,_,_,_,oD,C3,ad9,ju,Jh,c2,c3,c4,c5,c6,cL c7,h.symm⟩
theorem U0{g:Nat}{fn:Func}{body:Code}(nZ:P.funcs[g]?=some fn)(hb:fn.body=some body)(av:Array Value)(kd:CallKind):
 Frame.enter P g av kd={ fn:=g,tmps:=av++Array.replicate (fn.ntmps - av.size) undef,todo:=[.code body],defers:=[],mode:=.run,kind:=kd}:=by
 simp[Frame.enter,nZ,hb]
theorem U1{vs:List V}{xs:List Value}{m:Nat}(iM:bc η vs xs)(hT:binds ((List.range m).map cz) vs .e=some T)(N:Nat):aW η T (xs.toArray++Array.replicate N undef):=by rw[xL]at hT;refine KL _ xs 0 _ .e T iM (λt v h=>by rw[Tr.gZ]at h;cases h) (λj x hj=>?_) hT;have ω:=(oj.1 hj).1;rw[iI];rw[Array.getElem?_append_left (by simpa using ω)];simpa using hj
theorem U2{g:Nat}{fn:Func}{body:Code}(nZ:P.funcs[g]?=some fn)(hb:fn.body=some body)(rE:(fn.name == "runtime.NumGoroutine")=false)(av:Array Value):(callFunc g av).run P w=.ok (.enter g av) w:=by
 have KN:¬ fn.name = "runtime.NumGoroutine":=by simpa using rE
 simp[callFunc,program,bind,Sem.bind,Sem.run,nZ,KN,hb,pure]
theorem aea(hC:Good P ty C)(eO:lY P ty ih){g:Nat}{a c l:List V}{af:BE}(hg:C g=some (.zI af)){r:R}(hr:bD C ih (.call (.f g a c) l) H n=some r):lX P ty (.call (.f g a c) l) H n r:=by
 intro η w pW cs fv args wh jI hG hH;obtain⟨fn,cf,nZ,rE,yX,my,aeb⟩:=hC.zI g af hg;obtain⟨i1,i2,i3,pre,s,g',gN,t1,t2,t3,p1,p2,p3,e1,e2,e3,C9,LZ,a3,rest,ov,q,cf',rs,DP,oD,C3,aec,ju,Jh,k2,k3,k4,k5,k6,k7,rfl⟩:=ad8 yX;simp only at my ju;rw[my]at ju;injection ju with ju;subst ju;simp only[bD,hg]at hr;split at hr
 case h_2=>cases hr
 rename_i T0 zX;split at hr
 case h_2=>cases hr
 rename_i T1 v1 H1 n1 h0;split at hr
 case h_2=>cases hr
 rename_i cv hcv;split at hr
 case h_1=>cases hr
 case h_3=>cases hr
 rename_i ex T2 v2 H2 n2 hU h1;split at hr
 case h_2=>cases hr
 rename_i Tc hTc;split at hr
 case h_1=>cases hr
 case h_2=>cases hr
 case h_4=>cases hr
 rename_i ex3 T3 v3 H3 n3 aed aee h3;split at hr
 case h_2=>cases hr
 rename_i v hv;injection hr with hr;subst hr;refine⟨λ_=>?_,λu h=>by cases h⟩;cases wh with
 | f _ _ _ a' c' ha sW=>
 have iM:bc η (a++(l++c)) (a'++(args++c')):=ha.append (jI.append sW);generalize jc:a'++(args++c')=xs at iM;let av:Array Value:=xs.toArray;let tm:Array Value:=av++Array.replicate (fn.ntmps - av.size) undef;have C4:fn.ntmps<=tm.size:=by simp only[tm,zD,Array.size_replicate];omega
 have hT:aW η T0 tm:=U1 iM zX _;let ee:Frame:={ fn:=g,tmps:=tm,todo:=[],defers:=[],mode:=.run,kind:=.normal};have px:(do let d←Deferred.ofValue (.func (.func g) ⟨a'⟩ ⟨c'⟩) args.toArray;invoke d.target d.args:Sem Next).run P w=.ok (.enter g av) w:=by
  have Yf:(⟨a'⟩:Array Value)++args.toArray++(⟨c'⟩:Array Value)=av:=by apply jP;simp[av,←jc]
  have:(do let d←Deferred.ofValue (.func (.func g) ⟨a'⟩ ⟨c'⟩) args.toArray;invoke d.target d.args:Sem Next)=callFunc g ((⟨a'⟩:Array Value)++args.toArray++(⟨c'⟩:Array Value)):=rfl;rw[this,Yf];exact U2 nZ oD rE av
 obtain⟨η1,sw,w1,g1,g2,g3,g4⟩:=KG (fr:=ee) (cs:=pW::cs) (k:=[.code (.seq (.region i2 ⟨[⟨some s,.makeFunc (.func g') ⟨[]⟩ gN,t1,p1,e1,none⟩,⟨none,.defer ⟨.value (.tmp s),⟨[]⟩,C9⟩,t2,p2,e2,none⟩]⟩ false) rest)]) (ds:=[]) hC eO rfl
  (show iK tm.size pre.toList=true from LY C4 (.region 0 pre false) k2) pre.toList 0 rfl η T0 H n w tm _ h0 hT rfl hG hH
 have s0:Steps P (lone (Frame.enter P g av .normal) (pW::cs) w) (lone (put ee sw [] [.code (.seq (.region i2 ⟨[⟨some s,.makeFunc (.func g') ⟨[]⟩ gN,t1,p1,e1,none⟩,⟨none,.defer ⟨.value (.tmp s),⟨[]⟩,C9⟩,t2,p2,e2,none⟩]⟩ false) rest)]) (pW::cs) w1):=by
  rw[U0 nZ oD];have e:({ fn:=g,tmps:=av++Array.replicate (fn.ntmps - av.size) undef,todo:=[.code (.seq (.region i1 pre false) (.seq (.region i2 ⟨[⟨some s,.makeFunc (.func g') ⟨[]⟩ gN,t1,p1,e1,none⟩,⟨none,.defer ⟨.value (.tmp s),⟨[]⟩,C9⟩,t2,p2,e2,none⟩]⟩ false) rest))],defers:=[],mode:=.run,kind:=.normal}:Frame)=
   put ee tm [] (.code (.seq (.region i1 pre false) (.seq (.region i2 ⟨[⟨some s,.makeFunc (.func g') ⟨[]⟩ gN,t1,p1,e1,none⟩,⟨none,.defer ⟨.value (.tmp s),⟨[]⟩,C9⟩,t2,p2,e2,none⟩]⟩ false) rest))::[]):=rfl
  rw[e];refine Steps.head (BX rfl) (Steps.head (Ee rfl) ?_);have eF:pre.toList.length=pre.size:=by simp
  rw[eF,←xL]at g4;exact g4
 have Yl:=hG.mono g1.ext;have U3:=BO g3 Yl aec hcv;have kA:s<sw.size:=by rw[g2];exact fk k3 C4
 have e0:∀f:Operand->Value,(⟨[]⟩:Array Operand).map f=⟨[]⟩:=λf=>by apply jP;simp
 let Gg:Value:=.func (.func g') ⟨[]⟩ ⟨gN.toList.map (ai sw)⟩;have aef:al η1 (.f g' [] cv) Gg:=.f _ _ _ _ _ .nil U3;let zh:Array Value:=sw.setIfInBounds s Gg;have LW:aW η1 (T1.put (some (.f g' [] cv)) (cz s)) zh:=g3.set kA aef;let d:Deferred:={ target:=.fn (.func g') ⟨gN.toList.map (ai sw)⟩,args:=⟨[]⟩};have s1:Steps P (lone (put ee sw [] [.code (.seq (.region i2 ⟨[⟨some s,.makeFunc (.func g') ⟨[]⟩ gN,t1,p1,e1,none⟩,⟨none,.defer ⟨.value (.tmp s),⟨[]⟩,C9⟩,t2,p2,e2,none⟩]⟩ false) rest)]) (pW::cs) w1)
  (lone (put ee zh [d] [.code rest]) (pW::cs) w1):=by
  refine Steps.head (BX rfl) (Steps.head (Ee rfl) ?_);show Steps P (lone (put ee sw [] (.inRegion _ [0,1]::[.code rest])) (pW::cs) w1) _;have dJ:=Eb (P:=P) (cs:=pW::cs) (w:=w1) (fr:=put ee sw [] (.inRegion ⟨[⟨some s,.makeFunc (.func g') ⟨[]⟩ gN,t1,p1,e1,none⟩,⟨none,.defer ⟨.value (.tmp s),⟨[]⟩,C9⟩,t2,p2,e2,none⟩]⟩ [0,1]::[.code rest])) U U
   (o:=⟨some s,.makeFunc (.func g') ⟨[]⟩ gN,t1,p1,e1,none⟩) U U (λc h=>by cases h)
  rw[eval_put]at dJ;have nY:(execOp (ai sw) ⟨some s,.makeFunc (.func g') ⟨[]⟩ gN,t1,p1,e1,none⟩).run P w1=.ok (.value Gg) w1:=by
   have:gN.map (ai sw)=⟨gN.toList.map (ai sw)⟩:=by apply jP;simp
   show(Sem.pure (Next.value (.func (.func g') ((⟨[]⟩:Array Operand).map (ai sw)) (gN.map (ai sw))))).run P w1=_;rw[this,e0];rfl
  have h1:=Hk dJ (λ_ _ _ _ h=>by cases h) (v:=Gg) (w':=w1) ⟨.value Gg,w1,nY,rfl,rfl⟩;rw[Hj]at h1;refine Steps.trans h1 (Steps.head (ad4 (d:=d) U U (o:=⟨none,.defer ⟨.value (.tmp s),⟨[]⟩,C9⟩,t2,p2,e2,none⟩) U U U ?_) (.one (Hl rfl)));have Bf:ai zh (.tmp s)=Gg:=by show zh.getD s undef=Gg;simp[zh,xF,kA]
  show(Deferred.ofValue (ai zh (.tmp s)) ((⟨[]⟩:Array Operand).map (ai zh))).run P w1=_;rw[Bf,e0];rfl
 have aeg:zh.size=tm.size:=by simp only[zh,Array.size_setIfInBounds];exact g2
 obtain⟨η2,Bl,d3,w2,q1,q2,q3,⟨bs,m1,m2,m3⟩,q5⟩:=eO _ _ _ _ h1 η1 w1 (put ee zh [d] []) (pW::cs) [] rest ⟨rfl,by show within zh.size rest=true;rw[aeg];exact LY C4 rest k4⟩ LW Yl g1.rep U (by intro l h;cases h);have m1:d3=bs.map (λb=>{ target:=.collected b,args:=#[]})++[d]:=m1;subst m1;have leave:∃(todo:List Item) (md:FrameMode) (x:Value) (mS:Frame),md≠.run/\al η2 ex.JZ x/\found { put ee Bl [] todo with mode:=md} x mS/\(mS.mode=.returning\/mS.mode=.panicking [{ v:=x,recovered:=true}])/\({ mS with mode:=.returning}:Frame)={ put ee Bl [] todo with mode:=.returning}/\Steps P (lone (put ee zh [d] [.code rest]) (pW::cs) w1) (lone { put ee Bl (bs.map (λb=>{ target:=.collected b,args:=#[]})++[d]) todo with mode:=md} (pW::cs) w2):=by
  cases ex with
  | normal=>exact⟨[],.returning,.nilIface,_,(by intro h;cases h),.ni,.inl ⟨rfl,rfl,rfl⟩,.inl U,rfl,Steps.trans q5 (.one (returning rfl rfl))⟩
  | ret=>obtain⟨k1,q5⟩:=q5;exact⟨.code .ret::k1,.returning,.nilIface,_,(by intro h;cases h),.ni,.inl ⟨rfl,rfl,rfl⟩,.inl U,rfl,Steps.trans q5 (.one (Ho rfl rfl))⟩
  | exit id=>exact(hU id rfl).elim
  | panic u=>obtain⟨k1,x,q6,q5⟩:=q5;exact⟨k1,.panicking [{ v:=x,recovered:=false}],x,_,(by intro h;cases h),q6,.inr ⟨rfl,rfl⟩,.inr U,rfl,q5⟩
 obtain⟨todo,md,x,mS,hmd,hx,aei,tu,L3,s2⟩:=leave;obtain⟨w3,s3,t3'⟩:=ad3 (P:=P) (cs:=pW::cs) (ds0:=[d]) (fr:={ put ee Bl [] todo with mode:=md}) bs w2 hmd q1 (λb hb=>⟨(m3 b hb).1,(m3 b hb).2.1⟩) m2;let cx:List Value:=gN.toList.map (ai sw);have aek:(⟨[]⟩:Array Value)++(⟨gN.toList.map (ai sw)⟩:Array Value)=cx.toArray:=by apply jP;simp[cx]
 have s4:Steps P (lone { put ee Bl [d] todo with mode:=md} (pW::cs) w3) (lone (Frame.enter P g' cx.toArray .deferred) ({ put ee Bl [] todo with mode:=md}::pW::cs) w3):=
  .one (ad6 (fr:={ put ee Bl [d] todo with mode:=md}) (ds0:=[]) hmd rfl (by
   show(callFunc g' ((⟨[]⟩:Array Value)++(⟨gN.toList.map (ai sw)⟩:Array Value))).run P w3=_;rw[aek];exact U2 my Jh aeb _))
 let zi:Array Value:=cx.toArray++Array.replicate (cf.ntmps - cx.toArray.size) undef;have U4:cf.ntmps<=zi.size:=by simp only[zi,zD,Array.size_replicate];omega
 have hcT:aW η2 Tc zi:=U1 (U3.mono q1.ext) hTc _;let Da:Frame:={ fn:=g',tmps:=zi,todo:=[],defers:=[],mode:=.run,kind:=.deferred};have ael:q<zi.size:=fk k5 U4;have s5:Steps P (lone (Frame.enter P g' cx.toArray .deferred) ({ put ee Bl [] todo with mode:=md}::pW::cs) w3) (lone (put Da (zi.setIfInBounds q x) [] [.code ov]) (mS::pW::cs) w3):=by
  rw[U0 my Jh];have e:({ fn:=g',tmps:=cx.toArray++Array.replicate (cf.ntmps - cx.toArray.size) undef,todo:=[.code (.seq (.region i3 ⟨[⟨some q,.call ⟨.builtin .recover,a3,LZ⟩,t3,p3,e3,none⟩]⟩ false) ov)],defers:=[],mode:=.run,kind:=.deferred}:Frame)=
   put Da zi [] (.code (.seq (.region i3 ⟨[⟨some q,.call ⟨.builtin .recover,a3,LZ⟩,t3,p3,e3,none⟩]⟩ false) ov)::[]):=rfl
  rw[e];refine Steps.head (BX rfl) (Steps.head (Ee rfl) ?_);show Steps P (lone (put Da zi [] (.inRegion _ [0]::[.code ov])) _ w3) _;exact Steps.head (ad5 rfl rfl rfl (o:=⟨some q,.call ⟨.builtin .recover,a3,LZ⟩,t3,p3,e3,none⟩) U U U aei) (.one (Hl rfl))
 have aem:aW η2 (Tc.put (some ex.JZ) (cz q)) (zi.setIfInBounds q x):=hcT.set ael hx;have hG2:=Yl.mono q1.ext;obtain⟨η3,Jl,d4,w4,r1,r2,r3,⟨nq,Ym,m2',m3'⟩,r5⟩:=eO _ _ _ _ h3 η2 w3 (put Da (zi.setIfInBounds q x) [] []) (mS::pW::cs) [] ov ⟨rfl,by show within (zi.setIfInBounds q x).size ov=true;rw[Array.size_setIfInBounds];exact LY U4 ov k6⟩ aem hG2 t3'.rep U (by intro l h;cases h);have Ym:d4=nq.map (λb=>{ target:=.collected b,args:=#[]}):=by simpa[Da,put]using Ym
 subst Ym;have aeo:∃Ik,Steps P (lone (put Da (zi.setIfInBounds q x) [] [.code ov]) (mS::pW::cs) w3) (lone { put Da Jl (nq.map (λb=>{ target:=.collected b,args:=#[]})) Ik with mode:=.returning} (mS::pW::cs) w4):=by
  cases ex3 with
  | normal=>exact⟨[],Steps.trans r5 (.one (returning rfl rfl))⟩
  | ret=>obtain⟨k1,r5⟩:=r5;exact⟨_,Steps.trans r5 (.one (Ho rfl rfl))⟩
  | exit id=>exact(aed id rfl).elim
  | panic u=>exact(aee u rfl).elim
 obtain⟨Ik,s6⟩:=aeo;obtain⟨w5,s7,t5⟩:=Hq (P:=P) (cs:=mS::pW::cs) (fr:={ put Da Jl [] Ik with mode:=.returning}) nq w4 (by intro h;cases h) r1 (λb hb=>⟨(m3' b hb).1,(m3' b hb).2.1⟩) m2'
 have aep:(results cf Jl).run P w5=.ok (.tuple #[]) w5:=by
  have:cf.results=#[]:=Array.eq_empty_of_size_eq_zero k7;have e:results cf Jl=(do let vs←cf.results.mapM (Eg Jl);pure (if h:vs.size=1 then vs[0] else .tuple vs)):=rfl
  rw[e,this,Array.mapM_eq_mapM_toList];rfl
 have s8:Steps P (lone { put Da Jl [] Ik with mode:=.returning} (mS::pW::cs) w5) (lone { put ee Bl [] todo with mode:=.returning} (pW::cs) w5):=by rw[←L3];exact .one (ad7 (x:=x) (cf:=cf) my rfl rfl rfl aep tu)
 have U5:=((g1.trans t3').trans t5);obtain⟨y,F8,Ac⟩:=KK hC.aI (q3.mono t5.ext) U5.rep C3 hv;refine⟨η3,y,w5,U5,Ac,.enter g av,w,px,?_⟩;exact Steps.trans s0 (Steps.trans s1 (Steps.trans s2 (Steps.trans s3 (Steps.trans s4 (Steps.trans s5 (Steps.trans s6 (Steps.trans s7 (Steps.trans s8 (.one (step_leave_returned (fr:={ put ee Bl [] todo with mode:=.returning}) ⟨rfl,rfl,rfl,fn,nZ,F8⟩))))))))))
end ops
end
def L4(P:Program)(ty:Ty)(C:Nat->Option bN):Prop:=
 ∀g p,C g=some (.pm p)->∀(a c l:List V) (H:Hp) (n:K) (v:V) (H':Hp) (n':K),pm p (a++(l++c)) H n=some (v,H',n')->lX P ty (.call (.f g a c) l) H n ⟨.normal,.e,v,H',n'⟩
theorem U6{P:Program}{ty:Ty}{C:Nat->Option bN}(hC:Good P ty C)(hp:L4 P ty C):∀f,lY P ty (ev C f)/\wX (ev C f):=by
 intro f
 induction f with
 | zero=>exact⟨λj H n r h=>(by cases h),λj H n r h=>(by cases h)⟩
 | succ f ih=>
  obtain⟨eO,hup⟩:=ih;refine⟨λj H n r h=>?_,adf hup⟩;have h:bD C (ev C f) j H n=some r:=h;cases j with
  | code a T=>
   refine abR hC eO ?_ h;refine⟨λid ops T H n r hd hr η w fr cs k=>adG hC eO hup id ops T H n r hd hr η w fr cs k,λg ps as body g' T H n r hf hr η w fr cs k=>?_,λc d x l b ws T H n r hk hr η w fr cs k=>adV hC eO c d x l b ws T H n r hk hr η w fr cs k⟩;exact acg hC eO hf (by exact hr) η w fr cs k
  | call fv l=>
   cases fv with
   | f g a c=>
    cases hg:C g with
    | none=>simp only[bD,hg]at h;cases h
    | some af=>
     cases af with
     | go af=>exact abX hC eO hg h
     | zI af=>exact aea hC eO hg h
     | pm p=>
      simp only[bD,hg]at h;split at h
      ·rename_i v H1 n1 h1;injection h with h;subst h;exact hp g p hg a c l H n v H1 n1 h1
      ·cases h
   | y q=>exact ab4 hC eO h
   | _=>cases h
def TE.Ok(P:Program)(ty:Ty)(g:Nat)(e:TE):Prop:=lX P ty (.call (.f g [] []) e.args) e.cA e.n ⟨.normal,.e,e.v,e.add,e.n'⟩
def E8(P:Program)(ty:Ty)(C:Nat->Option bN):Prop:=
 ∀g p,C g=some (.pm p)->match p with
  | .wB=>∃fn,P.funcs[g]?=some fn/\(fn.name == "runtime.NumGoroutine")=false/\fn.body.isNone=true/\Extern.findNext fn=none/\Extern.find fn=some Extern.BytealgIndexByte.indexByte
  | .same=>∃fn,P.funcs[g]?=some fn/\(fn.name == "runtime.NumGoroutine")=false/\fn.body.isNone=true/\Extern.findNext fn=none/\Extern.find fn=some Extern.AbiNoEscape.same
  | .km es=>∀e∈es,e.Ok P ty g
  | .DE cA v=>∀H n,(∀k o,cA.get k=some o->H.get k=some o)->lX P ty (.call (.f g [] []) []) H n ⟨.normal,.e,v,H,n⟩
theorem lX.weaken{P:Program}{ty:Ty}{f:V}{l:List V}{H H2:Hp}{n:K}{v:V}{H' H3:Hp}{n':K}(h:lX P ty (.call f l) H n ⟨.normal,.e,v,H',n'⟩)(hs:∀k o,H.get k=some o->H2.get k=some o)(tR:∀k o,H3.get k=some o->H'.get k=some o):
 lX P ty (.call f l) H2 n ⟨.normal,.e,v,H3,n'⟩:=by
 intro η w cf cs fv args wh jI hG hH;refine⟨λ_=>?_,λu h=>by cases h⟩;obtain⟨η',v',w',t,hv,hc⟩:=(h η w cf cs fv args wh jI hG (hH.less hs)).1 rfl;refine⟨η',v',w',⟨t.ext,t.le,t.rep.less tR,?_,λm b hb=>?_,t.dR⟩,hv,hc⟩
 ·refine⟨t.kept.os,t.kept.tape,t.kept.output,t.kept.size,λb hb hF=>t.kept.block b hb λ⟨q,o,L,h1,h2⟩=>hF ⟨q,o,L,hs q o h1,h2⟩,t.kept.loops⟩
 ·obtain⟨q,o,L,h1,h2⟩:=hb;rcases t.kZ m b ⟨q,o,L,tR q o h1,h2⟩ with ⟨q',o',L',g1,g2⟩ | g
  ·exact .inl ⟨q',o',L',hs q' o' g1,g2⟩
  ·exact .inr g
theorem aes(c:UInt8):∀(l n i:Nat),J0 (BJ c.toNat l n i)=(if Lib.indexByte (bU l n) c == -1 then .i .i64 (-1) else .i .i64 (Lib.indexByte (bU l n) c+i)):=by
 intro l
 induction l with
 | zero=>intro n i;rfl
 | succ l ih=>
  intro n i;simp only[BJ,bU,Lib.indexByte,iD];have hb:(Nat.beq (Nat.mod n 256) c.toNat=true)↔((UInt8.ofNat (n % 256)==c)=true):=by
   rw[Nat.beq_eq,beq_iff_eq];constructor
   ·intro h;apply UInt8.toNat.inj;show(n % 256) % 256=_;have h:n % 256=c.toNat:=h;rw[h];have:=c.toNat_lt;omega
   ·intro h;have:=congrArg UInt8.toNat h;have h2:(UInt8.ofNat (n % 256)).toNat=(n % 256) % 256:=rfl;rw[h2]at this;show n % 256=_;omega
  by_cases h:(UInt8.ofNat (n % 256)==c)=true
  ·rw[au (hb.2 h),au h];simp[J0]
  ·rw[Ξ (λe=>h (hb.1 e)),Ξ h,ih];have D5:=Lib.indexByte_ge (bU l (n / 256)) c;show(if Lib.indexByte (bU l (n / 256)) c == -1 then V.i .i64 (-1) else V.i .i64 (Lib.indexByte (bU l (n / 256)) c+((i+1:Nat):Int)))=_
   by_cases h1:(Lib.indexByte (bU l (n / 256)) c == -1)=true
   ·rw[au h1,au h1];rfl
   ·rw[Ξ h1,Ξ h1];have nj:Lib.indexByte (bU l (n / 256)) c ≠ -1:=by simpa using h1
    have h2:¬ ((Lib.indexByte (bU l (n / 256)) c+1 == -1)=true):=by rw[beq_iff_eq];omega
    rw[Ξ h2];congr 1;omega
theorem U7{P:Program}{ty:Ty}{C:Nat->Option bN}(hg:E8 P ty C):L4 P ty C:=by
 intro g p hp a c l H n v H' n' h;have OA:=hg g p hp;intro η w cf cs fv args wh jI hG hH;refine⟨λ_=>?_,λu h=>by cases h⟩;cases wh with
 | f _ _ _ a' c' ha hc=>
 have iM:bc η (a++(l++c)) (a'++(args++c')):=ha.append (jI.append hc);generalize a++(l++c)=vs at iM h;have jc:(⟨a'⟩:Array Value)++args.toArray++(⟨c'⟩:Array Value)=(a'++(args++c')).toArray:=by apply jP;simp
 generalize a'++(args++c')=xs at iM jc;have L5:(do let d←Deferred.ofValue (.func (.func g) ⟨a'⟩ ⟨c'⟩) args.toArray;invoke d.target d.args:Sem Next)=callFunc g ((⟨a'⟩:Array Value)++args.toArray++(⟨c'⟩:Array Value)):=rfl;have fin:∀(e:Array Value->Sem Value) (fn:Func),P.funcs[g]?=some fn->(fn.name == "runtime.NumGoroutine")=false->fn.body.isNone=true->Extern.findNext fn=none->Extern.find fn=some e->∀y,(e xs.toArray).run P w=.ok y w->al η v y->H'=H->n'=n->∃η' v' w',Trans (WW ty) η H n w η' H' n' w'/\al η' v v'/\BW P (do let d←Deferred.ofValue (.func (.func g) ⟨a'⟩ ⟨c'⟩) args.toArray;invoke d.target d.args) cf cs w v' w':=by rintro e fn nZ rE oD ub rF y hy hv rfl rfl;refine⟨η,y,w,.refl hH,hv,.value y,w,?_,rfl,rfl⟩;rw[L5,jc,run_callFunc_extern nZ rE oD ub rF,hy];rfl
 cases p with
 | km es=>
  obtain⟨e,he,hf,hq⟩:=Us h;injection hq with h1 h2;injection h2 with h2 h3;subst h1;subst h2;subst h3;simp only[TE.fits,bh]at hf;obtain⟨⟨⟨f1,f2⟩,f3⟩,f4⟩:=hf;have f1:=K.beq_eq f1;have f2:=yE f2;subst f2;have hj:lX P ty (.call (.f g [] []) e.args) e.cA e.n ⟨.normal,.e,e.v,e.add,e.n'⟩:=OA e he;rw[f1]at hj;have y9:=hj.weaken (H2:=H) (H3:=e.add) (λk o hk=>AA (λ_ _=>Ii) f4 k o hk) (λ_ _ h=>h);obtain⟨η',v',w',t,hv,tu⟩:=(y9 η w cf cs (.func (.func g) ⟨[]⟩ ⟨[]⟩) xs (.f _ _ _ _ _ .nil .nil) iM hG hH).1 rfl;refine⟨η',v',w',t,hv,?_⟩;have e2:(do let d←Deferred.ofValue (.func (.func g) ⟨[]⟩ ⟨[]⟩) xs.toArray;invoke d.target d.args:Sem Next)=callFunc g ((⟨[]⟩:Array Value)++xs.toArray++(⟨[]⟩:Array Value)):=rfl;have e3:((⟨[]⟩:Array Value)++xs.toArray++(⟨[]⟩:Array Value))=xs.toArray:=by apply jP;simp
  rw[e2,e3]at tu;rw[L5,jc];exact tu
 | DE cA u=>
  simp only[pm]at h;split at h
  case h_2=>cases h
  cases ht:fP wF cA H with
  | false=>rw[ht]at h;cases h
  | true=>
  rw[ht]at h;obtain⟨rfl,rfl,rfl⟩:=ea h;obtain⟨η',v',w',t,hv,tu⟩:=(OA _ _ (λk o hk=>AA (λ_ _=>Ii) ht k o hk) η w cf cs (.func (.func g) ⟨[]⟩ ⟨[]⟩) xs (.f _ _ _ _ _ .nil .nil) iM hG hH).1 rfl;refine⟨η',v',w',t,hv,?_⟩;have e2:(do let d←Deferred.ofValue (.func (.func g) ⟨[]⟩ ⟨[]⟩) xs.toArray;invoke d.target d.args:Sem Next)=callFunc g ((⟨[]⟩:Array Value)++xs.toArray++(⟨[]⟩:Array Value)):=rfl;have e3:((⟨[]⟩:Array Value)++xs.toArray++(⟨[]⟩:Array Value))=xs.toArray:=by apply jP;simp
  rw[e2,e3]at tu;rw[L5,jc];exact tu
 | wB=>
  obtain⟨fn,nZ,rE,oD,ub,rF⟩:=OA;simp only[pm,DL]at h;split at h
  case h_2=>cases h
  rename_i sl sm bb;cases ua:Nat.blt bb 256 with
  | false=>rw[ua]at h;cases h
  | true=>
  rw[ua]at h;simp only[cond_true]at h;have vP:bb<256:=by rw[fJ]at ua;simpa using ua
  obtain⟨rfl,rfl,rfl⟩:=ea h;cases iM with
  | cons _ y _ r h1 h2=>
  cases h2 with
  | cons _ z _ r h2 h3=>
  cases h3;cases h1 with
  | s _ _ ω=>
  cases h2;have hz:=aes (UInt8.ofNat bb) sl sm 0;have fM:(UInt8.ofNat bb).toNat=bb:=by simp;omega
  rw[fM]at hz;have px:=Lib.run_indexByteString (P:=P) (strOf sl sm) (Int.ofNat bb) w;refine fin _ fn nZ rE oD ub rF _ px ?_ rfl rfl;rw[hz];have e1:(strOf sl sm).data.toList=bU sl sm:=by simp[strOf]
  have e2:(Int.ofNat bb).toNat.toUInt8=UInt8.ofNat bb:=rfl;rw[e1,e2];split
  ·rename_i h;rw[beq_iff_eq]at h;rw[h];exact .i _ _
  ·simp only[Int.natCast_zero,Int.add_zero];exact .i _ _
 | same=>
  obtain⟨fn,nZ,rE,oD,ub,rF⟩:=OA;simp only[pm,J1]at h;split at h
  case h_2=>cases h
  obtain⟨rfl,rfl,rfl⟩:=ea h;cases iM with
  | cons _ y _ r h1 h2=>
  cases h2;exact fin _ fn nZ rE oD ub rF y rfl h1 rfl rfl
def TE.check(C:Nat->Option bN)(fuel:Nat)(g:Nat)(e:TE)(r:Option R):Bool:=
 match r with
 | some ⟨.normal,_,v,H',n'⟩=>cT v e.v&&K.beq n' e.n'&&fP wF e.add H'
 | _=>false
theorem TE.ok{P:Program}{ty:Ty}{C:Nat->Option bN}(hC:Good P ty C)(hg:E8 P ty C){fuel g:Nat}{e:TE}(h:e.check C fuel g (ev C fuel (.call (.f g [] []) e.args) e.cA e.n)=true):e.Ok P ty g:=by
 unfold TE.check at h;split at h
 case h_2=>cases h
 rename_i T v H' n' hr;simp only[bh]at h;have h1:=wZ h.1.1;have h2:=K.beq_eq h.1.2;subst h1;subst h2;have hj:=(U6 hC (U7 hg) fuel).1 _ _ _ _ hr;refine lX.weaken (H:=e.cA) (H':=H') (λη w cf cs fv args wh jI hG hH=>⟨λ_=>?_,λu h=>by cases h⟩) (λ_ _ h=>h) (λk o hk=>AA (λ_ _=>Ii) h.2 k o hk);exact(hj η w cf cs fv args wh jI hG hH).1 rfl
def vQ(P:Program)(t:Nat):TD:=
 match P.underlying t with
 | some .bool=>.bool
 | some (.int k)=>.int k
 | some .string=>.str
 | some (.pointer e)=>.ptr e
 | some (.slice e)=>.slice e
 | some (.array n e)=>.arr n e
 | some (.map k e)=>.map k e
 | some (.struct fs)=>.ru (fs.toList.map λf=>(f.type,f.offset)) (fs.toList.all (λf=>f.name != "_")&&(!(P.stoodInHeld t)&&!(P.eqGuardType P.depth t)))
 | some (.func _ _ _)=>.func
 | some (.interface _)=>.iface
 | some .unsafePointer=>.BL
 | _=>.other
def U8(P:Program)(t:Nat)(i:TI)(z:Value):Bool:=
 Nat.beq i.zero.length i.size&&(bE i.zero&&((match z with | .agg _=>i.desc.agg | .tuple _=>false | _=>!i.desc.agg)&&
  (match i.desc with | .ru fs _=>fs.all (λf=>(P.info? f.1).isSome) | .other=>(P.underlying t).isSome | _=>true)))
def L6(P:Program)(t:Nat):Option TI:=
 match P.info? t with
 | some i=>match i.zero with
  | some z=>match xW z.cells.toList with
   | some zs=>bif U8 P t { desc:=vQ P t,size:=i.size,bytes:=i.bytes,zero:=zs} z then some { desc:=vQ P t,size:=i.size,bytes:=i.bytes,zero:=zs} else none
   | none=>none
  | none=>none
 | none=>none
def laid(l:List (Nat×bN)):Tr bN:=
 match l with
 | []=>.e
 | p::l=>(laid l).put (some p.2) (cz p.1)
theorem aet{P:Program}{t:Nat}(h:∀fs pl,vQ P t=.ru fs pl->fs.all (λf=>(P.info? f.1).isSome)=true):J6 P t (vQ P t):=by
 unfold vQ at h ⊢;cases hu:P.underlying t with
 | none=>trivial
 | some d=>
  rw[hu]at h;cases d<;>try (exact hu)
  case struct l=>
   simp only at h ⊢;refine⟨l,hu,rfl,λf hf=>?_,λhp=>?_⟩
   ·have:=h _ _ rfl;rw[sF]at this;have:=this (f.type,f.offset) (List.mem_map.2 ⟨f,hf,rfl⟩);exact GR.1 this
   ·simp only[bh,xM,sF,bne_iff_ne]at hp;exact⟨λf hf=>hp.1 f (by simpa using hf),hp.2.1,hp.2.2⟩
  case func a b c=>exact⟨a,b,c,hu⟩
  case interface ms=>exact⟨ms,hu⟩
  all_goals trivial
theorem aeu{P:Program}{t:Nat}{i:TI}(h:L6 P t=some i):wH P t i:=by
 unfold L6 at h;split at h
 case h_2=>cases h
 rename_i ti DU;split at h
 case h_2=>cases h
 rename_i z hz;split at h
 case h_2=>cases h
 rename_i zs X1;simp only[iD]at h;split at h
 case isFalse=>cases h
 rename_i Bi;injection h with h;subst h;simp only[U8,bh]at Bi;obtain⟨h1,h2,h3,h4⟩:=Bi;refine⟨aet λfs pl he=>?_,⟨ti,z,DU,rfl,rfl,hz,X1,λha=>?_,λha=>?_,cL h1,h2⟩,λho=>?_⟩
 ·rw[he]at h4;exact h4
 ·have Yn:(vQ P t).agg=true:=ha;cases z<;>simp only[Yn,Bool.not_true]at h3<;>first | exact⟨_,rfl⟩ | cases h3
 ·have Yn:(vQ P t).agg=false:=ha;cases z<;>simp only[Yn]at h3<;>first | rfl | cases h3
 ·have ho:vQ P t=.other:=ho;rw[ho]at h4;obtain⟨d,hd⟩:=GR.1 h4;refine⟨d,hd,λfs e=>?_,λn e' e=>?_⟩
  ·subst e;unfold vQ at ho;rw[hd]at ho;cases ho
  ·subst e;unfold vQ at ho;rw[hd]at ho;cases ho
def AD(Q:Nat->bN->Prop):List (Nat×bN)->Prop
 | []=>True
 | p::l=>Q p.1 p.2/\AD Q l
theorem L7{Q:Nat->bN->Prop}:∀{l:List (Nat×bN)},AD Q l->∀{g:Nat} {a:bN},(laid l).get (cz g)=some a->Q g a:=by
 intro l
 induction l with
 | nil=>intro _ g a h;simp only[laid,Tr.gZ]at h;cases h
 | cons p l ih=>
  intro hq g a h;simp only[laid,Tr.fI]at h;split at h
  ·rename_i e;have:=GZ e;subst this;injection h with h;subst h;exact hq.1
  ·exact ih hq.2 h
def σ(P:Program)(ty:Ty)(g:Nat)(a:bN):Prop:=
 match a with
 | .go af=>∃fn,P.funcs[g]?=some fn/\(fn.name == "runtime.NumGoroutine")=false/\zM ty fn=some af
 | .zI af=>∃fn cf,P.funcs[g]?=some fn/\(fn.name == "runtime.NumGoroutine")=false/\yc ty fn (λi=>P.funcs[i]?)=some af/\P.funcs[af.g]?=some cf/\(cf.name == "runtime.NumGoroutine")=false
 | .pm p=>match p with
  | .wB=>∃fn,P.funcs[g]?=some fn/\(fn.name == "runtime.NumGoroutine")=false/\fn.body.isNone=true/\Extern.findNext fn=none/\Extern.find fn=some Extern.BytealgIndexByte.indexByte
  | .same=>∃fn,P.funcs[g]?=some fn/\(fn.name == "runtime.NumGoroutine")=false/\fn.body.isNone=true/\Extern.findNext fn=none/\Extern.find fn=some Extern.AbiNoEscape.same
  | .km es=>∀e∈es,e.Ok P ty g
  | .DE cA v=>∀H n,(∀k o,cA.get k=some o->H.get k=some o)->lX P ty (.call (.f g [] []) []) H n ⟨.normal,.e,v,H,n⟩
theorem L8{P:Program}{ty:Ty}{l:List (Nat×bN)}(aI:dI P ty)(hm:P.follows .mixedOrders=true)(hl:AD (σ P ty) l):Good P ty (λg=>(laid l).get (cz g)):=
 ⟨aI,λg af h=>L7 hl h,hm,λg af h=>L7 hl h⟩
theorem L9{P:Program}{ty:Ty}{l:List (Nat×bN)}(hl:AD (σ P ty) l):E8 P ty (λg=>(laid l).get (cz g)):=by intro g p h;have:=L7 hl h;cases p<;>exact this
def Cq(n:K):Hp->Bool
 | .e=>true
 | .n v l r=>(match v with | none=>true | some (.r l)=>gn n l | some _=>false)&&(Cq n l&&Cq n r)
theorem Il{n:K}:∀{H:Hp},Cq n H=true->∀{k:K} {o:O},H.get k=some o->∃l,o=.r l/\gn n l=true:=by
 intro H
 induction H with
 | e=>intro _ k o h;rw[Tr.gZ]at h;cases h
 | n v l r kR qf=>
  intro hp k o h;simp only[Cq,bh]at hp;cases k with
  | h=>
   simp only[Tr.get]at h;subst h;have:=hp.1;cases o with
   | r l=>exact⟨l,rfl,this⟩
   | _=>cases this
  | o k=>exact kR hp.2.1 h
  | i k=>exact qf hp.2.2 h
theorem aev{P:Program}{ty:Ty}{g:Nat}{cA:Hp}{n0:K}{v:V}{H':Hp}{n':K}(hp:Cq n0 cA=true)(hd:∀k o,cA.get k=some o->k.num<n0.num)(hg:ty.g<n0.num)(hv:∀η η' x,al η v x->al η' v x)
 (h:lX P ty (.call (.f g [] []) []) cA n0 ⟨.normal,.e,v,H',n'⟩)(H:Hp)(n:K)(hs:∀k o,cA.get k=some o->H.get k=some o):lX P ty (.call (.f g [] []) []) H n ⟨.normal,.e,v,H,n⟩:=by
 intro η w cf cs fv args wh jI hG hH;refine⟨λ_=>?_,λu h=>by cases h⟩;cases wh with
 | f _ _ _ a' c' ha hc=>
 have aew:al (cI η n0) (.f g [] []) (.func (.func g) ⟨a'⟩ ⟨c'⟩):=by cases ha;cases hc;exact .f _ _ _ _ _ .nil .nil
 have aex:bc (cI η n0) [] args:=by cases jI;exact .nil
 have hG0:ch (cI η n0) ty.g:=λq hq=>let⟨L,h1,h2⟩:=hG q hq;⟨L,qy h1 (by rw[zN];omega),h2⟩;have Je:bk (WW ty) (cI η n0) cA n0 w:=by
  refine⟨λk o hk=>?_,λk k' o o' L L' aR hk hm _ _ _=>?_,UJ η n0⟩
  ·obtain⟨L,h1,h2,h3⟩:=hH.obj k o (hs k o hk);obtain⟨l,rfl,hl⟩:=Il hp hk;exact⟨L,qy h1 (hd k _ hk),h2,h3.cI hl⟩
  ·obtain⟨l,rfl,_⟩:=Il hp hk;cases hm
 obtain⟨η1,y,w1,t,hy,tu⟩:=(h (cI η n0) w cf cs _ args aew aex hG0 Je).1 rfl;have same:∀b,b<w.heap.size->w1.heap[b]?=w.heap[b]?:=λb hb=>t.kept.block b hb λ⟨q,o,L,h1,h2,_,_⟩=>by obtain⟨l,rfl,_⟩:=Il hp h1;cases h2 rfl
 refine⟨η,y,w1,⟨.refl _,χ _,⟨λk o hk=>?_,hH.sep,hH.free⟩,⟨t.kept.os,t.kept.tape,t.kept.output,t.kept.size,λb hb _=>same b hb,t.kept.loops⟩,λm b hb=>.inl hb,λ_ _=>rfl⟩,hv _ _ _ hy,tu⟩;obtain⟨L,h1,h2,h3⟩:=hH.obj k o hk;exact⟨L,h1,fk h2 t.kept.size,by rw[same _ h2];exact h3⟩
end Go.Ev
namespace Go.Ev.F
open Go Go.Ev
noncomputable section
def get{α:Type}(k:K):Tr α->Option α:=
 K.rec (motive:=λ_=>Tr α->Option α) (λt=>Tr.casesOn t none (λv _ _=>v)) (λ_ ih t=>Tr.casesOn t none (λ_ l _=>ih l)) (λ_ ih t=>Tr.casesOn t none (λ_ _ r=>ih r)) k
theorem get_eq{α:Type}(k:K)(t:Tr α):get k t=t.get k:=by
 induction k generalizing t with
 | h=>cases t<;>rfl
 | o p ih=>cases t with
  | e=>rfl
  | n v l r=>exact ih l
 | i p ih=>cases t with
  | e=>rfl
  | n v l r=>exact ih r
def put{α:Type}(v:Option α)(k:K):Tr α->Tr α:=
 K.rec (motive:=λ_=>Tr α->Tr α) (λt=>Tr.casesOn t (.n v .e .e) (λ_ l r=>.n v l r)) (λ_ ih t=>Tr.casesOn t (.n none (ih .e) .e) (λw l r=>.n w (ih l) r))
  (λ_ ih t=>Tr.casesOn t (.n none .e (ih .e)) (λw l r=>.n w l (ih r))) k
theorem put_eq{α:Type}(v:Option α)(k:K)(t:Tr α):put v k t=t.put v k:=by
 induction k generalizing t with
 | h=>cases t<;>rfl
 | o p ih=>cases t with
  | e=>show Tr.n none (put v p .e) .e=_;rw[ih];cases p<;>rfl
  | n w l r=>show Tr.n w (put v p l) r=_;rw[ih];rfl
 | i p ih=>cases t with
  | e=>show Tr.n none .e (put v p .e)=_;rw[ih];cases p<;>rfl
  | n w l r=>show Tr.n w l (put v p r)=_;rw[ih];rfl
def aq(x:ax):Tr V->Option V:=ax.casesOn x (λk=>get k) (λv _=>some v)
theorem iT(x:ax)(T:Tr V):aq x T=Ev.aq T x:=by
 cases x with
 | t k=>exact get_eq k T
 | c v=>rfl
def aY{α β:Type}(x:Option α)(f:α->Option β):Option β:=Option.casesOn x none f
def fD(l:List ax):Tr V->Option (List V):=
 List.rec (motive:=λ_=>Tr V->Option (List V)) (λ_=>some []) (λx _ ih T=>aY (aq x T) λv=>aY (ih T) λvs=>some (v::vs)) l
theorem Ma(l:List ax)(T:Tr V):fD l T=Ev.fD T l:=by
 induction l with
 | nil=>rfl
 | cons x l ih=>
  show aY (aq x T) (λv=>aY (fD l T) λvs=>some (v::vs))=_;rw[iT,ih];simp only[Ev.fD];cases Ev.aq T x<;>cases Ev.fD T l<;>rfl
def nth{α:Type}(l:List α):Nat->Option α:=
 List.rec (motive:=λ_=>Nat->Option α) (λ_=>none) (λa _ ih n=>Nat.casesOn n (some a) ih) l
theorem pr{α:Type}(l:List α)(n:Nat):nth l n=Ev.nth l n:=by
 induction l generalizing n with
 | nil=>rfl
 | cons a l ih=>cases n with
  | zero=>rfl
  | succ n=>exact ih n
def takeN{α:Type}(n:Nat):List α->Option (List α):=
 Nat.rec (motive:=λ_=>List α->Option (List α)) (λ_=>some []) (λ_ ih l=>List.casesOn l none (λa l=>aY (ih l) λl'=>some (a::l'))) n
theorem G2{α:Type}(n:Nat)(l:List α):takeN n l=Ev.takeN n l:=by
 induction n generalizing l with
 | zero=>rfl
 | succ n ih=>cases l with
  | nil=>rfl
  | cons a l=>
   show aY (takeN n l) (λl'=>some (a::l'))=_;rw[ih];simp only[Ev.takeN];cases Ev.takeN n l<;>rfl
def pj{α:Type}(n:Nat):List α->Option (List α):=
 Nat.rec (motive:=λ_=>List α->Option (List α)) (λl=>some l) (λ_ ih l=>List.casesOn l none (λ_ l=>ih l)) n
theorem J2{α:Type}(n:Nat)(l:List α):pj n l=Ev.pj n l:=by
 induction n generalizing l with
 | zero=>cases l<;>rfl
 | succ n ih=>cases l with
  | nil=>rfl
  | cons a l=>exact ih l
def db{α:Type}(l:List α)(o n:Nat):Option (List α):=aY (pj o l) λl'=>takeN n l'
theorem ow{α:Type}(l:List α)(o n:Nat):db l o n=Ev.db l o n:=by
 unfold db Ev.db;rw[J2];cases Ev.pj o l with
 | none=>rfl
 | some l'=>exact G2 n l'
def over{α:Type}(vs:List α):List α->Option (List α):=
 List.rec (motive:=λ_=>List α->Option (List α)) (λl=>some l) (λv _ ih l=>List.casesOn l none (λ_ l=>aY (ih l) λl'=>some (v::l'))) vs
theorem aey{α:Type}(vs l:List α):over vs l=Ev.over vs l:=by
 induction vs generalizing l with
 | nil=>cases l<;>rfl
 | cons v vs ih=>cases l with
  | nil=>rfl
  | cons a l=>
   show aY (over vs l) (λl'=>some (v::l'))=_;rw[ih];simp only[Ev.over];cases Ev.over vs l<;>rfl
def eK{α:Type}(vs:List α)(o:Nat):List α->Option (List α):=
 Nat.rec (motive:=λ_=>List α->Option (List α)) (over vs) (λ_ ih l=>List.casesOn l none (λa l=>aY (ih l) λl'=>some (a::l'))) o
theorem aez{α:Type}(vs:List α)(o:Nat)(l:List α):eK vs o l=Ev.eK vs l o:=by
 induction o generalizing l with
 | zero=>exact(aey vs l).trans (by cases l<;>rfl)
 | succ o ih=>cases l with
  | nil=>rfl
  | cons a l=>
   show aY (eK vs o l) (λl'=>some (a::l'))=_;rw[ih];simp only[Ev.eK];cases Ev.eK vs l o<;>rfl
def bE(l:List V):Bool:=List.rec (motive:=λ_=>Bool) true (λv _ ih=>cond (V.one v) ih false) l
theorem aeA(l:List V):bE l=Ev.bE l:=by
 induction l with
 | nil=>rfl
 | cons v l ih=>
  show cond (V.one v) (bE l) false=(V.one v&&Ev.bE l);rw[ih];cases V.one v<;>rfl
def row(o:O):Option (List V):=O.casesOn o (λl _ _=>some l) (λl=>some l) (λx y _=>some [x,y]) (λ_ _=>none) (λ_ _=>none) (λ_ _ _=>none) (λ_ _ _=>none) (λ_ _ _ _ _ _=>none)
theorem aeB(o:O):row o=o.row:=by cases o<;>rfl
def Mb(v:V):Option (K×Nat):=V.casesOn (motive_1:=λ_=>Option (K×Nat)) v (λ_=>none) (λ_ _=>none) (λ_ _=>none) none (λb o=>some (b,o)) none (λ_ _ _ _=>none) (λ_ _ _ _=>none) none (λ_=>none) none (λ_ _ _=>none) (λ_=>none) none (λ_ _=>none) (λ_=>none) (λ_=>none) none
def Mc(agg:Bool)(sz:Nat)(H:Hp)(q:K×Nat):Option V:=
 aY (get q.1 H) λo=>aY (row o) λl=>cond agg (aY (db l q.2 sz) λl'=>some (.a l')) (nth l q.2)
def wc(agg:Bool)(sz:Nat)(H:Hp)(v:V):Option V:=aY (Mb v) (Mc agg sz H)
theorem aeC(agg:Bool)(sz:Nat)(H:Hp)(v:V):wc agg sz H v=Ev.wc H agg sz v:=by
 cases v<;>try rfl
 rename_i b o;show Mc agg sz H (b,o)=_;unfold Mc;simp only[Ev.wc,rowAt,get_eq];cases H.get b with
 | none=>rfl
 | some ob=>
  show aY (row ob) (λl=>cond agg (aY (db l o sz) λl'=>some (.a l')) (nth l o))=(match ob.row with
   | some l=>bif agg then (match Ev.db l o sz with | some l'=>some (.a l') | none=>none) else Ev.nth l o
   | none=>none)
  rw[aeB];cases ob.row with
  | none=>rfl
  | some l=>
   show cond agg (aY (db l o sz) λl'=>some (.a l')) (nth l o)=cond agg (match Ev.db l o sz with | some l'=>some (.a l') | none=>none) (Ev.nth l o)
   rw[ow,pr];cases agg with
   | false=>rfl
   | true=>simp only[cond_true];cases Ev.db l o sz<;>rfl
def Yo(H:Hp)(b:K)(o:Nat)(vs:List V)(l:List V)(e fz:Nat):Option Hp:=
 cond (Nat.ble fz o) (cond (bE vs) (aY (eK vs o l) λl'=>some (put (some (.c l' e fz)) b H)) none) none
def iu(H:Hp)(b:K)(o:Nat)(vs:List V):Option Hp:=
 aY (get b H) λob=>O.casesOn ob (λl e fz=>Yo H b o vs l e fz) (λ_=>none) (λ_ _ _=>Ev.iu H b o vs) (λ_ _=>none) (λ_ _=>none) (λ_ _ _=>none) (λ_ _ _=>none) (λ_ _ _ _ _ _=>none)
theorem aeD(H:Hp)(b:K)(o:Nat)(vs:List V):iu H b o vs=Ev.iu H b o vs:=by
 unfold iu;rw[get_eq];cases hb:H.get b with
 | none=>simp only[aY,Ev.iu,hb]
 | some ob=>
  cases ob with
  | c l e fz=>
   show Yo H b o vs l e fz=_;unfold Yo;simp only[Ev.iu,hb,aeA,aez];cases Nat.ble fz o with
   | false=>rfl
   | true=>
    cases Ev.bE vs with
    | false=>rfl
    | true=>
     simp only[cond_true,om];cases Ev.eK vs l o with
     | none=>rfl
     | some l'=>show some (put _ b H)=_;rw[put_eq]
  | b x y e=>rfl
  | _=>simp only[aY,Ev.iu,hb]
def Md(sz:Nat)(x:V)(H:Hp)(q:K×Nat):Option Hp:=cond (Nat.beq x.cells.length sz) (iu H q.1 q.2 x.cells) none
def CX(sz:Nat)(a x:V)(H:Hp):Option Hp:=aY (Mb a) (Md sz x H)
theorem aeE(sz:Nat)(a x:V)(H:Hp):CX sz a x H=Ev.CX H sz a x:=by
 cases a<;>try rfl
 rename_i b o;show Md sz x H (b,o)=_;unfold Md;rw[aeD];rfl
def mk(o:O)(v:K->V)(H:Hp)(n:K):gm:=some (v n,put (some o) n H,n.succ)
theorem mk_eq(o:O)(v:K->V)(H:Hp)(n:K):mk o v H n=kp H n o (v n):=by unfold mk kp;rw[put_eq]
def dX(H:Hp)(n:K)(x:Option V):gm:=Option.casesOn x none (λv=>some (v,H,n))
theorem lf(H:Hp)(n:K)(x:Option V):dX H n x=Ev.dX H n x:=by cases x<;>rfl
def qd(n:K)(x:Option Hp):gm:=Option.casesOn x none (λH=>some (.u [],H,n))
theorem aeF(n:K)(x:Option Hp):qd n x=Ev.qd n x:=by cases x<;>rfl
def sMv(x:ax)(T:Tr V)(H:Hp)(n:K):gm:=dX H n (aq x T)
def U9(c a b:ax)(T:Tr V)(H:Hp)(n:K):gm:=aY (aq c T) λv=>V.casesOn (motive_1:=λ_=>gm) v (λx=>dX H n (cond x (aq a T) (aq b T))) (λ_ _=>none) (λ_ _=>none) none (λ_ _=>none) none (λ_ _ _ _=>none) (λ_ _ _ _=>none) none (λ_=>none) none (λ_ _ _=>none) (λ_=>none) none (λ_ _=>none) (λ_=>none) (λ_=>none) none
def Va(e:Nat)(zs:List V)(T:Tr V)(H:Hp)(n:K):gm:=mk (.c zs e 0) (λn=>.p n 0) H n
def sLd(agg:Bool)(sz:Nat)(a:ax)(T:Tr V)(H:Hp)(n:K):gm:=aY (aq a T) λv=>dX H n (wc agg sz H v)
def sSt(sz:Nat)(a x:ax)(T:Tr V)(H:Hp)(n:K):gm:=aY (aq a T) λa=>aY (aq x T) λx=>qd n (CX sz a x H)
def nck(v:V):Option V:=V.casesOn (motive_1:=λ_=>Option V) v (λ_=>none) (λ_ _=>none) (λ_ _=>none) none (λb o=>some (.p b o)) none (λ_ _ _ _=>none) (λ_ _ _ _=>none) none (λ_=>none) none (λg a c=>some (.f g a c)) (λl=>some (.y l)) none (λ_ _=>none) (λ_=>none) (λ_=>none) none
def Vb(x:ax)(T:Tr V)(H:Hp)(n:K):gm:=aY (aq x T) λv=>dX H n (nck v)
def Cr(f:Int->Int->Bool)(_:IntKind)(x y:Int):Option V:=some (.b (f x y))
def Me(f:Int->Int->Int)(k:IntKind)(x y:Int):Option V:=some (.i k (wr k (f x y)))
def Vc(op:BinOp):IntKind->Int->Int->Option V:=
 match op with
 | .add=>Me Int.add
 | .sub=>Me Int.sub
 | .mul=>Me Int.mul
 | .eql=>Cr r8
 | .neq=>Cr (λx y=>!(r8 x y))
 | .lss=>Cr xo
 | .leq=>Cr DF
 | .gtr=>Cr (λx y=>xo y x)
 | .geq=>Cr (λx y=>DF y x)
 | op=>Ev.oo op
theorem aeJ(op:BinOp)(k:IntKind)(x y:Int):Vc op k x y=Ev.oo op k x y:=by cases op<;>rfl
def aeK(op:BinOp):Bool:=match op with | .shl=>true | .shr=>true | _=>false
def Mf(op:BinOp)(k:IntKind)(a:Int)(k':IntKind)(b:Int):Option V:=
 cond (aeK op) (Ev.JV op k a b) (cond (Nat.beq (kn k) (kn k')) (Vc op k a b) none)
def dO(op:BinOp)(q:ey)(x y:V):Option V:=Ev.pk op q x y
def bin(op:BinOp)(q:ey)(x y:V):Option V:=
 V.casesOn (motive_1:=λ_=>Option V) x (λ_=>(dO op q x y)) (λk a=>V.casesOn (motive_1:=λ_=>Option V) y (λ_=>(dO op q x y)) (λk' b=>Mf op k a k' b) (λ_ _=>(dO op q x y)) (dO op q x y) (λ_ _=>(dO op q x y)) (dO op q x y) (λ_ _ _ _=>(dO op q x y)) (λ_ _ _ _=>(dO op q x y)) (dO op q x y) (λ_=>(dO op q x y)) (dO op q x y) (λ_ _ _=>(dO op q x y)) (λ_=>(dO op q x y)) (dO op q x y) (λ_ _=>(dO op q x y)) (λ_=>(dO op q x y)) (λ_=>(dO op q x y)) (dO op q x y)) (λl n=>V.casesOn (motive_1:=λ_=>Option V) y (λ_=>(dO op q x y)) (λ_ _=>(dO op q x y)) (λl' n'=>Ev.GS op l n l' n') (dO op q x y) (λ_ _=>(dO op q x y)) (dO op q x y) (λ_ _ _ _=>(dO op q x y)) (λ_ _ _ _=>(dO op q x y)) (dO op q x y) (λ_=>(dO op q x y)) (dO op q x y) (λ_ _ _=>(dO op q x y)) (λ_=>(dO op q x y)) (dO op q x y) (λ_ _=>(dO op q x y)) (λ_=>(dO op q x y)) (λ_=>(dO op q x y)) (dO op q x y)) (dO op q x y) (λ_ _=>(dO op q x y)) (dO op q x y) (λ_ _ _ _=>(dO op q x y)) (λ_ _ _ _=>(dO op q x y)) (dO op q x y) (λ_=>(dO op q x y)) (dO op q x y) (λ_ _ _=>(dO op q x y)) (λ_=>(dO op q x y)) (dO op q x y) (λ_ _=>(dO op q x y)) (λ_=>(dO op q x y)) (λ_=>(dO op q x y)) (dO op q x y)
theorem aeL(op:BinOp)(q:ey)(x y:V):bin op q x y=Ev.pk op q x y:=by
 cases x<;>try rfl
 ·cases y<;>try rfl
  rename_i k a k' b;show Mf op k a k' b=_;unfold Mf;rw[aeJ];cases op<;>rfl
 ·cases y<;>try rfl
  cases op<;>rfl
def Vd(op:BinOp)(k:ey)(x y:ax)(T:Tr V)(H:Hp)(n:K):gm:=aY (aq x T) λx=>aY (aq y T) λy=>dX H n (bin op k x y)
def sUn(op:UnOp)(x:ax)(T:Tr V)(H:Hp)(n:K):gm:=aY (aq x T) λx=>dX H n (Ev.JW op x)
def Ve(t:Nat)(x:ax)(T:Tr V)(H:Hp)(n:K):gm:=aY (aq x T) λv=>some (.kY t v,H,n)
def Vf(f:Nat)(a c:List ax)(T:Tr V)(H:Hp)(n:K):gm:=aY (fD a T) λa=>aY (fD c T) λc=>some (.f f a c,H,n)
def Vg(off:Nat)(H:Hp)(n:K)(q:K×Nat):gm:=some (.p q.1 (Nat.add q.2 off),H,n)
def Vh(off:Nat)(x:ax)(T:Tr V)(H:Hp)(n:K):gm:=aY (aq x T) λv=>aY (Mb v) (Vg off H n)
def asA(v:V):Option (List V):=V.casesOn (motive_1:=λ_=>Option (List V)) v (λ_=>none) (λ_ _=>none) (λ_ _=>none) none (λ_ _=>none) none (λ_ _ _ _=>none) (λ_ _ _ _=>none) none (λ_=>none) none (λ_ _ _=>none) (λ_=>none) none (λ_ _=>none) (λl=>some l) (λ_=>none) none
def asU(v:V):Option (List V):=V.casesOn (motive_1:=λ_=>Option (List V)) v (λ_=>none) (λ_ _=>none) (λ_ _=>none) none (λ_ _=>none) none (λ_ _ _ _=>none) (λ_ _ _ _=>none) none (λ_=>none) none (λ_ _ _=>none) (λ_=>none) none (λ_ _=>none) (λ_=>none) (λl=>some l) none
def Vi(agg:Bool)(off sz:Nat)(x:ax)(T:Tr V)(H:Hp)(n:K):gm:=
 aY (aq x T) λv=>aY (asA v) λl=>cond agg (aY (db l off sz) λl'=>some (.a l',H,n)) (dX H n (nth l off))
def Vj(x:ax)(i:Nat)(T:Tr V)(H:Hp)(n:K):gm:=aY (aq x T) λv=>aY (asU v) λl=>dX H n (nth l i)
def aeP(v:V):Option (K×Nat×Nat):=V.casesOn (motive_1:=λ_=>Option (K×Nat×Nat)) v (λ_=>none) (λ_ _=>none) (λ_ _=>none) none (λ_ _=>none) none (λb o l _=>some (b,o,l)) (λb o l _=>some (b,o,l)) none (λ_=>none) none (λ_ _ _=>none) (λ_=>none) none (λ_ _=>none) (λ_=>none) (λ_=>none) none
def OB(v:V):Option Nat:=V.casesOn (motive_1:=λ_=>Option Nat) v (λ_=>none) (λ_ n=>Int.casesOn n (λn=>some n) (λ_=>none)) (λ_ _=>none) none (λ_ _=>none) none (λ_ _ _ _=>none) (λ_ _ _ _=>none) none (λ_=>none) none (λ_ _ _=>none) (λ_=>none) none (λ_ _=>none) (λ_=>none) (λ_=>none) none
def aeQ(z i:Nat)(H:Hp)(n:K)(q:K×Nat×Nat):gm:=cond (Nat.blt i q.2.2) (some (.p q.1 (Nat.add q.2.1 (Nat.mul i z)),H,n)) none
def aeR(m z i:Nat)(H:Hp)(n:K)(q:K×Nat):gm:=cond (Nat.blt i m) (some (.p q.1 (Nat.add q.2 (Nat.mul i z)),H,n)) none
def Mg(arr:Option Nat)(z i:Nat)(v:V)(H:Hp)(n:K):gm:=
 Option.casesOn arr (aY (aeP v) (aeQ z i H n)) (λm=>aY (Mb v) (aeR m z i H n))
def Vk(arr:Option Nat)(z:Nat)(x i:ax)(T:Tr V)(H:Hp)(n:K):gm:=aY (aq x T) λv=>aY (aq i T) λi=>aY (OB i) λi=>Mg arr z i v H n
def Mh(i:Nat)(v:V):Option V:=V.casesOn (motive_1:=λ_=>Option V) v (λ_=>none) (λ_ _=>none) (λl m=>cond (Nat.blt i l) (some (.i .u8 (Int.ofNat (I6 m i)))) none) none (λ_ _=>none) none (λ_ _ _ _=>none) (λ_ _ _ _=>none) none (λ_=>none) none (λ_ _ _=>none) (λ_=>none) none (λ_ _=>none) (λ_=>none) (λ_=>none) none
def Vl(arr:Option (Nat×Nat×Bool))(x i:ax)(T:Tr V)(H:Hp)(n:K):gm:=
 Option.casesOn arr (aY (aq x T) λv=>aY (aq i T) λi=>aY (OB i) λi=>dX H n (Mh i v)) (λ_=>Ev.simple (.idx arr x i) T H n)
def Vm(v:V):Option V:=V.casesOn (motive_1:=λ_=>Option V) v (λ_=>none) (λ_ _=>none) (λ_ _=>none) none (λ_ _=>none) (some (.i .i64 0)) (λ_ _ l _=>some (.i .i64 (Int.ofNat l))) (λ_ _ l _=>some (.i .i64 (Int.ofNat l))) none (λ_=>none) none (λ_ _ _=>none) (λ_=>none) none (λ_ _=>none) (λ_=>none) (λ_=>none) none
def Vn(v:V):Option V:=V.casesOn (motive_1:=λ_=>Option V) v (λ_=>none) (λ_ _=>none) (λl _=>some (.i .i64 (Int.ofNat l))) none (λ_ _=>none) none (λ_ _ _ _=>none) (λ_ _ _ _=>none) none (λ_=>none) none (λ_ _ _=>none) (λ_=>none) none (λ_ _=>none) (λ_=>none) (λ_=>none) none
def gf(k:Nat)(x:ax)(T:Tr V)(H:Hp)(n:K):gm:=
 Nat.casesOn k (aY (aq x T) λv=>dX H n (Vn v)) (λk1=>Nat.casesOn k1 (aY (aq x T) λv=>dX H n (Vm v)) (λ_=>Ev.simple (.len k x) T H n))
def toInt(k:IntKind)(v:V):Option V:=V.casesOn (motive_1:=λ_=>Option V) v (λ_=>none) (λ_ m=>some (.i k (wr k m))) (λ_ _=>none) none (λ_ _=>none) none (λ_ _ _ _=>none) (λ_ _ _ _=>none) none (λ_=>none) none (λ_ _ _=>none) (λ_=>none) none (λ_ _=>none) (λ_=>none) (λ_=>none) none
def sCv(k:N8)(x:ax)(T:Tr V)(H:Hp)(n:K):gm:=
 match k with
 | .toInt k=>aY (aq x T) λv=>dX H n (toInt k v)
 | k=>Ev.simple (.cv k x) T H n
def simple(op:A):Tr V->Hp->K->gm:=A.casesOn (motive:=λ_=>Tr V->Hp->K->gm) op (λx0=>sMv x0) (λx0 x1 x2=>U9 x0 x1 x2) (λx0 x1=>Va x0 x1) (λx0 x1 x2=>Ev.simple (.BD x0 x1 x2)) (λx0=>Ev.simple (.I3 x0)) (λx0 x1 x2=>Ev.simple (.zG x0 x1 x2)) (λx0 x1=>Ev.simple (.box x0 x1)) (λx0 x1=>Ev.simple (.bld x0 x1)) (λx0 x1 x2 x3=>Ev.simple (.bsl x0 x1 x2 x3)) (λx0 x1 x2=>sLd x0 x1 x2) (λx0 x1 x2=>sSt x0 x1 x2) (λx0=>Vb x0) (λx0 x1 x2 x3=>Vd x0 x1 x2 x3) (λx0 x1=>sUn x0 x1) (λx0 x1=>sCv x0 x1) (λx0 x1=>Ve x0 x1) (λx0 x1 x2=>Vf x0 x1 x2) (Ev.simple .mmap) (λx0 x1 x2 x3 x4 x5=>Ev.simple (.msl x0 x1 x2 x3 x4 x5)) (λx0 x1 x2 x3 x4=>Ev.simple (.sli x0 x1 x2 x3 x4)) (λx0 x1=>Vh x0 x1) (λx0 x1 x2 x3=>Vi x0 x1 x2 x3) (λx0 x1 x2 x3=>Vk x0 x1 x2 x3) (λx0 x1 x2=>Vl x0 x1 x2) (λx0 x1 x2 x3 x4=>Ev.simple (.lkp x0 x1 x2 x3 x4)) (λx0 x1 x2 x3=>Ev.simple (.I4 x0 x1 x2 x3)) (λx0 x1=>Ev.simple (.DC x0 x1)) (λx0 x1=>Ev.simple (.DD x0 x1)) (λx0=>Ev.simple (.JP x0)) (λx0 x1 x2 x3=>Ev.simple (.tas x0 x1 x2 x3)) (λx0 x1=>Vj x0 x1) (λx0 x1 x2 x3 x4 x5 x6=>Ev.simple (.app x0 x1 x2 x3 x4 x5 x6)) (λx0 x1 x2=>Ev.simple (.A8 x0 x1 x2)) (λx0 x1=>gf x0 x1) (λx0 x1=>Ev.simple (.cap x0 x1)) (λx0 x1 x2=>Ev.simple (.del x0 x1 x2)) (λx0 x1=>Ev.simple (.mm x0 x1)) (λx0 x1=>Ev.simple (.I5 x0 x1)) (λx0 x1=>Ev.simple (.cg x0 x1)) (λx0=>Ev.simple (.wA x0)) (Ev.simple .bad)
theorem aeT(op:A)(T:Tr V)(H:Hp)(n:K):simple op T H n=Ev.simple op T H n:=by
 cases op<;>try rfl
 case mv x=>show dX H n (aq x T)=_;rw[lf,iT];rfl
 case pick c a b=>
  show aY (aq c T) _=_;rw[iT];simp only[Ev.simple];cases Ev.aq T c with
  | none=>rfl
  | some v=>
   cases v<;>try rfl
   rename_i x;show dX H n (cond x (aq a T) (aq b T))=_;rw[lf,iT,iT];cases x<;>rfl
 case new e zs=>exact mk_eq (.c zs e 0) (λn=>.p n 0) H n
 case ld agg sz a=>
  show aY (aq a T) (λv=>dX H n (wc agg sz H v))=_;rw[iT];simp only[Ev.simple];cases Ev.aq T a with
  | none=>rfl
  | some v=>show dX H n (wc agg sz H v)=_;rw[lf,aeC]
 case st sz a x=>
  show aY (aq a T) (λa=>aY (aq x T) λx=>qd n (CX sz a x H))=_;rw[iT,iT];simp only[Ev.simple];cases Ev.aq T a with
  | none=>rfl
  | some v=>cases Ev.aq T x with
   | none=>rfl
   | some u=>show qd n (CX sz v u H)=_;rw[aeF,aeE]
 case nck x=>
  show aY (aq x T) (λv=>dX H n (nck v))=_;rw[iT];simp only[Ev.simple];cases Ev.aq T x with
  | none=>rfl
  | some v=>cases v<;>rfl
 case bin o k x y=>
  show aY (aq x T) (λx=>aY (aq y T) λy=>dX H n (bin o k x y))=_;rw[iT,iT];simp only[Ev.simple];cases Ev.aq T x with
  | none=>rfl
  | some v=>cases Ev.aq T y with
   | none=>rfl
   | some u=>show dX H n (bin o k v u)=_;rw[lf,aeL]
 case un o x=>
  show aY (aq x T) (λx=>dX H n (Ev.JW o x))=_;rw[iT];simp only[Ev.simple];cases Ev.aq T x with
  | none=>rfl
  | some v=>exact lf _ _ _
 case cv k x=>
  cases k<;>try rfl
  rename_i k;show aY (aq x T) (λv=>dX H n (toInt k v))=_;rw[iT];simp only[Ev.simple];cases Ev.aq T x with
  | none=>rfl
  | some v=>cases v<;>rfl
 case mif t x=>
  show aY (aq x T) (λv=>(some (V.kY t v,H,n):gm))=_;rw[iT];simp only[Ev.simple];cases Ev.aq T x<;>rfl
 case mfn f a c=>
  show aY (fD a T) (λa=>aY (fD c T) λc=>(some (V.f f a c,H,n):gm))=_;rw[Ma,Ma];simp only[Ev.simple];cases Ev.fD T a with
  | none=>rfl
  | some v=>cases Ev.fD T c<;>rfl
 case fad off x=>
  show aY (aq x T) (λv=>aY (Mb v) (Vg off H n))=_;rw[iT];simp only[Ev.simple];cases Ev.aq T x with
  | none=>rfl
  | some v=>cases v<;>rfl
 case fld agg off sz x=>
  show aY (aq x T) (λv=>aY (asA v) λl=>cond agg (aY (db l off sz) λl'=>some (.a l',H,n)) (dX H n (nth l off)))=_;rw[iT];simp only[Ev.simple];cases Ev.aq T x with
  | none=>rfl
  | some v=>
   cases v<;>try rfl
   rename_i l;show cond agg (aY (db l off sz) λl'=>some (.a l',H,n)) (dX H n (nth l off))=_;rw[ow,pr,lf];cases agg with
   | false=>rfl
   | true=>simp only[cond_true];cases Ev.db l off sz<;>rfl
 case iad arr z x i=>
  show aY (aq x T) (λv=>aY (aq i T) λi=>aY (OB i) λi=>Mg arr z i v H n)=_;rw[iT,iT];simp only[Ev.simple];cases Ev.aq T x with
  | none=>cases Ev.aq T i<;>rfl
  | some v=>
   cases Ev.aq T i with
   | none=>rfl
   | some u=>
    cases u<;>try rfl
    rename_i k m;cases m with
    | negSucc=>rfl
    | ofNat m=>
     show Mg arr z m v H n=_;cases arr with
     | none=>cases v<;>rfl
     | some q=>cases v<;>rfl
 case idx arr x i=>
  cases arr with
  | some q=>rfl
  | none=>
   show aY (aq x T) (λv=>aY (aq i T) λi=>aY (OB i) λi=>dX H n (Mh i v))=_;rw[iT,iT];simp only[Ev.simple];cases Ev.aq T x with
   | none=>cases Ev.aq T i<;>rfl
   | some v=>
    cases Ev.aq T i with
    | none=>rfl
    | some u=>
     cases u<;>try rfl
     rename_i k m;cases m with
     | negSucc=>rfl
     | ofNat m=>
      show dX H n (Mh m v)=_;cases v<;>try rfl
      rename_i l q;show dX H n (cond (Nat.blt m l) (some (.i .u8 (Int.ofNat (I6 q m)))) none)=_;simp only;cases Nat.blt m l<;>rfl
 case ext x i=>
  show aY (aq x T) (λv=>aY (asU v) λl=>dX H n (nth l i))=_;rw[iT];simp only[Ev.simple];cases Ev.aq T x with
  | none=>rfl
  | some v=>
   cases v<;>try rfl
   rename_i l;show dX H n (nth l i)=_;rw[lf,pr]
 case len k x=>
  rcases k with _ | _ | k
  ·show aY (aq x T) (λv=>dX H n (Vn v))=_;rw[iT];simp only[Ev.simple];cases Ev.aq T x with
   | none=>rfl
   | some v=>cases v<;>rfl
  ·show aY (aq x T) (λv=>dX H n (Vm v))=_;rw[iT];simp only[Ev.simple];cases Ev.aq T x with
   | none=>rfl
   | some v=>cases v<;>rfl
  ·rfl
end
noncomputable section
def aeU(f:ax)(l:List ax)(ih:dY)(T:Tr V)(H:Hp)(n:K):Option R:=aY (aq f T) λf=>aY (fD l T) λl=>ih (.call f l) H n
def aeV(x:ax)(ih:dY)(T:Tr V)(H:Hp)(n:K):Option R:=Ev.eC ih (.wA x) T H n
def Yp(x:gm):Option R:=aY x λp=>some ⟨.normal,.e,p.1,p.2.1,p.2.2⟩
def eV(s:Tr V->Hp->K->gm)(ih:dY)(T:Tr V)(H:Hp)(n:K):Option R:=Yp (s T H n)
def eC(op:A):dY->Tr V->Hp->K->Option R:=A.casesOn (motive:=λ_=>dY->Tr V->Hp->K->Option R) op (λx0=>eV (sMv x0)) (λx0 x1 x2=>eV (U9 x0 x1 x2)) (λx0 x1=>eV (Va x0 x1)) (λx0 x1 x2=>eV (Ev.simple (.BD x0 x1 x2))) (λx0=>eV (Ev.simple (.I3 x0))) (λx0 x1 x2=>eV (Ev.simple (.zG x0 x1 x2))) (λx0 x1=>eV (Ev.simple (.box x0 x1))) (λx0 x1=>eV (Ev.simple (.bld x0 x1))) (λx0 x1 x2 x3=>eV (Ev.simple (.bsl x0 x1 x2 x3))) (λx0 x1 x2=>eV (sLd x0 x1 x2)) (λx0 x1 x2=>eV (sSt x0 x1 x2)) (λx0=>eV (Vb x0)) (λx0 x1 x2 x3=>eV (Vd x0 x1 x2 x3)) (λx0 x1=>eV (sUn x0 x1)) (λx0 x1=>eV (sCv x0 x1)) (λx0 x1=>eV (Ve x0 x1)) (λx0 x1 x2=>eV (Vf x0 x1 x2)) (eV (Ev.simple .mmap)) (λx0 x1 x2 x3 x4 x5=>eV (Ev.simple (.msl x0 x1 x2 x3 x4 x5))) (λx0 x1 x2 x3 x4=>eV (Ev.simple (.sli x0 x1 x2 x3 x4))) (λx0 x1=>eV (Vh x0 x1)) (λx0 x1 x2 x3=>eV (Vi x0 x1 x2 x3)) (λx0 x1 x2 x3=>eV (Vk x0 x1 x2 x3)) (λx0 x1 x2=>eV (Vl x0 x1 x2)) (λx0 x1 x2 x3 x4=>eV (Ev.simple (.lkp x0 x1 x2 x3 x4))) (λx0 x1 x2 x3=>eV (Ev.simple (.I4 x0 x1 x2 x3))) (λx0 x1=>eV (Ev.simple (.DC x0 x1))) (λx0 x1=>eV (Ev.simple (.DD x0 x1))) (λx0=>eV (Ev.simple (.JP x0))) (λx0 x1 x2 x3=>eV (Ev.simple (.tas x0 x1 x2 x3))) (λx0 x1=>eV (Vj x0 x1)) (λx0 x1 x2 x3 x4 x5 x6=>eV (Ev.simple (.app x0 x1 x2 x3 x4 x5 x6))) (λx0 x1 x2=>eV (Ev.simple (.A8 x0 x1 x2))) (λx0 x1=>eV (gf x0 x1)) (λx0 x1=>eV (Ev.simple (.cap x0 x1))) (λx0 x1 x2=>eV (Ev.simple (.del x0 x1 x2))) (λx0 x1=>eV (Ev.simple (.mm x0 x1))) (λx0 x1=>eV (Ev.simple (.I5 x0 x1))) (λx0 x1=>aeU x0 x1) (λx0=>aeV x0) (eV (Ev.simple .bad))
theorem aeW(op:A)(h1:∀f l,op≠.cg f l)(h2:∀x,op≠.wA x):eC op=eV (simple op):=by cases op<;>first | rfl | exact absurd rfl (h1 _ _) | exact absurd rfl (h2 _)
theorem aeX(ih:dY)(op:A)(T:Tr V)(H:Hp)(n:K)(h1:∀f l,op≠.cg f l)(h2:∀x,op≠.wA x):Ev.eC ih op T H n=Yp (Ev.simple op T H n):=by
 cases op<;>first | exact absurd rfl (h1 _ _) | exact absurd rfl (h2 _) | skip
 all_goals
  unfold Ev.eC;simp only;generalize Ev.simple _ T H n=x;cases x<;>rfl
theorem Vo(ih:dY)(op:A)(T:Tr V)(H:Hp)(n:K):eC op ih T H n=Ev.eC ih op T H n:=by
 by_cases h1:∃f l,op=.cg f l
 ·obtain⟨f,l,rfl⟩:=h1;show aY (aq f T) (λf=>aY (fD l T) λl=>ih (.call f l) H n)=_;rw[iT,Ma];simp only[Ev.eC];cases Ev.aq T f<;>cases Ev.fD T l<;>rfl
 ·by_cases h2:∃x,op=.wA x
  ·obtain⟨x,rfl⟩:=h2;rfl
  ·rw[aeW op (λf l e=>h1 ⟨f,l,e⟩) (λx e=>h2 ⟨x,e⟩),aeX ih op T H n (λf l e=>h1 ⟨f,l,e⟩) (λx e=>h2 ⟨x,e⟩)];show Yp (simple op T H n)=_;rw[aeT]
def eg(d:Option K)(v:V)(T:Tr V):Tr V:=Option.casesOn d T (λk=>put (some v) k T)
theorem Im(d:Option K)(v:V)(T:Tr V):eg d v T=Ev.eg d (some v) T:=by
 cases d with
 | none=>rfl
 | some k=>exact put_eq _ _ _
def Vp(w:Bool)(v:V):Option Bool:=V.casesOn (motive_1:=λ_=>Option Bool) v (λx=>some (cond w x (!x))) (λ_ _=>none) (λ_ _=>none) none (λ_ _=>none) none (λ_ _ _ _=>none) (λ_ _ _ _=>none) none (λ_=>none) none (λ_ _ _=>none) (λ_=>none) none (λ_ _=>none) (λ_=>none) (λl=>List.casesOn l (some false) (λ_ _=>none)) none
def want(g:Option (K×Bool))(T:Tr V):Option Bool:=Option.casesOn g (some true) (λp=>aY (get p.1 T) (Vp p.2))
theorem Vq(g:Option (K×Bool))(T:Tr V):want g T=Ev.want g T:=by
 cases g with
 | none=>rfl
 | some p=>
  obtain⟨k,w⟩:=p;show aY (get k T) (Vp w)=_;rw[get_eq];simp only[Ev.want];cases T.get k with
  | none=>rfl
  | some v=>
   cases v<;>try rfl
   rename_i l;cases l<;>rfl
def Yq(r:Option R)(T:Tr V)(d:Option K)(rest:Tr V->Hp->K->Option R):Option R:=
 Option.casesOn r none (λr=>R.casesOn r λex _ v H n=>Ex.casesOn ex (rest (eg d v T) H n) (λ_=>none) none (λu=>some ⟨.panic u,T,.q,H,n⟩))
def aeY(o:AO)(ih:dY)(rest:Tr V->Hp->K->Option R)(T:Tr V)(H:Hp)(n:K):Option R:=
 AO.casesOn o λdst op guard _=>Option.casesOn (want guard T) none λb=>cond b (Yq (eC op ih T H n) T dst rest) (rest (eg dst (.u []) T) H n)
def fZ(l:List AO)(ih:dY):Tr V->Hp->K->Option R:=
 List.rec (motive:=λ_=>Tr V->Hp->K->Option R) (λT H n=>some ⟨.normal,T,.q,H,n⟩) (λo _ rest=>aeY o ih rest) l
theorem aeZ(ih:dY)(l:List AO)(T:Tr V)(H:Hp)(n:K):fZ l ih T H n=Ev.fZ ih l T H n:=by
 induction l generalizing T H n with
 | nil=>rfl
 | cons o l kR=>
  obtain⟨dst,op,guard,Δ⟩:=o;show Option.casesOn (motive:=λ_=>Option R) (want guard T) none (λb=>cond b (Yq (eC op ih T H n) T dst (fZ l ih)) (fZ l ih (eg dst (.u []) T) H n))=_;rw[Vq,Vo];simp only[Ev.fZ];cases Ev.want guard T with
  | none=>rfl
  | some b=>
   cases b with
   | false=>show fZ l ih (eg dst (.u []) T) H n=_;rw[kR,Im]
   | true=>
    show Yq (Ev.eC ih op T H n) T dst (fZ l ih)=_;cases Ev.eC ih op T H n with
    | none=>rfl
    | some r=>
     obtain⟨ex,T',v,H',n'⟩:=r;cases ex with
     | normal=>show fZ l ih (eg dst v T) H' n'=_;rw[kR,Im]
     | _=>rfl
def oper(op:A)(ih:dY)(T:Tr V)(H:Hp)(n:K):gm:=
 aY (eC op ih T H n) λr=>R.casesOn r λex _ v H n=>Ex.casesOn ex (some (v,H,n)) (λ_=>none) none (λ_=>none)
theorem Aa(ih:dY)(op:A)(T:Tr V)(H:Hp)(n:K):oper op ih T H n=Ev.oper ih op T H n:=by
 unfold oper Ev.oper;rw[Vo];cases Ev.eC ih op T H n with
 | none=>rfl
 | some r=>obtain⟨ex,T',v,H',n'⟩:=r;cases ex<;>rfl
def dT(Δ:Nat)(m:Made)(H:Hp):Hp:=
 List.rec (motive:=λ_=>Hp->Hp) (λH=>H) (λp _ ih H=>cond (Nat.testBit Δ p.2) (ih H) (ih (put none p.1 H))) m H
theorem ae0(Δ:Nat)(m:Made)(H:Hp):dT Δ m H=Ev.dT H Δ m:=by
 induction m generalizing H with
 | nil=>rfl
 | cons p m ih=>
  obtain⟨k,i⟩:=p;show cond (Nat.testBit Δ i) (dT Δ m H) (dT Δ m (put none k H))=_;rw[ih,ih,put_eq];rfl
def back(H:Hp)(Δ:Nat)(m:Made)(H':Hp):Hp:=
 List.rec (motive:=λ_=>Hp->Hp) (λH'=>H') (λp _ ih H'=>cond (Nat.testBit Δ p.2) (ih H') (ih (put (get p.1 H) p.1 H'))) m H'
theorem back_eq(H:Hp)(Δ:Nat)(m:Made)(H':Hp):back H Δ m H'=Ev.back H H' Δ m:=by
 induction m generalizing H' with
 | nil=>rfl
 | cons p m ih=>
  obtain⟨k,i⟩:=p;show cond (Nat.testBit Δ i) (back H Δ m H') (back H Δ m (put (get k H) k H'))=_;rw[ih,ih,put_eq,get_eq];rfl
def eY(l:List AO)(ih:dY):Nat->Tr V->Hp->K->Made->List Rd->List Bg->Option R:=
 List.rec (motive:=λ_=>Nat->Tr V->Hp->K->Made->List Rd->List Bg->Option R)
  (λ_ T H n m rs bs=>cond (wE m rs bs) (some ⟨.normal,T,.q,H,n⟩) none)
  (λo _ rest i T H n m rs bs=>AO.casesOn o λdst op guard Δ=>Option.casesOn (want guard T) none λb=>cond b
   (aY (oper op ih T (dT Δ m H) n) λp=>Prod.casesOn p λv p=>Prod.casesOn p λH' n'=>
    match cls op with
    | .pure=>rest (Nat.succ i) (eg dst v T) H n m rs bs
    | .read=>cond (bB n v) (rest (Nat.succ i) (eg dst v T) H n m (⟨i,op,Δ,T,v⟩::rs) bs) none
    | .make=>rest (Nat.succ i) (eg dst v T) (back H Δ m H') n' ((n,i)::m) rs bs
    | .kq=>rest (Nat.succ i) (eg dst v T) (back H Δ m H') n' m rs (⟨i,Δ,H,back H Δ m H'⟩::bs))
   (rest (Nat.succ i) (eg dst (.u []) T) H n m rs bs)) l
theorem ae1(ih:dY)(l:List AO)(i:Nat)(T:Tr V)(H:Hp)(n:K)(m:Made)(rs:List Rd)(bs:List Bg):eY l ih i T H n m rs bs=Ev.eY ih l i T H n m rs bs:=by
 induction l generalizing i T H n m rs bs with
 | nil=>rfl
 | cons o l kR=>
  obtain⟨dst,op,guard,Δ⟩:=o;simp only[Ev.eY];rw[←Vq,←ae0,←Aa];show Option.casesOn (motive:=λ_=>Option R) (want guard T) none (λb=>cond b
   (aY (oper op ih T (dT Δ m H) n) λp=>Prod.casesOn p λv p=>Prod.casesOn p λH' n'=>
    match cls op with
    | .pure=>eY l ih (Nat.succ i) (eg dst v T) H n m rs bs
    | .read=>cond (bB n v) (eY l ih (Nat.succ i) (eg dst v T) H n m (⟨i,op,Δ,T,v⟩::rs) bs) none
    | .make=>eY l ih (Nat.succ i) (eg dst v T) (back H Δ m H') n' ((n,i)::m) rs bs
    | .kq=>eY l ih (Nat.succ i) (eg dst v T) (back H Δ m H') n' m rs (⟨i,Δ,H,back H Δ m H'⟩::bs))
   (eY l ih (Nat.succ i) (eg dst (.u []) T) H n m rs bs))=_
  cases want guard T with
  | none=>rfl
  | some b=>
   cases b with
   | false=>show eY l ih _ (eg dst (.u []) T) H n m rs bs=_;rw[kR,Im]
   | true=>
    simp only[cond_true];cases oper op ih T (dT Δ m H) n with
    | none=>rfl
    | some p=>
     obtain⟨v,H',n'⟩:=p;show(match cls op with
      | .pure=>eY l ih (Nat.succ i) (eg dst v T) H n m rs bs
      | .read=>cond (bB n v) (eY l ih (Nat.succ i) (eg dst v T) H n m (⟨i,op,Δ,T,v⟩::rs) bs) none
      | .make=>eY l ih (Nat.succ i) (eg dst v T) (back H Δ m H') n' ((n,i)::m) rs bs
      | .kq=>eY l ih (Nat.succ i) (eg dst v T) (back H Δ m H') n' m rs (⟨i,Δ,H,back H Δ m H'⟩::bs))=_
     simp only[Im,back_eq];cases cls op<;>simp only[kR]
def ae2(a b:AC)(ih:dY)(T:Tr V)(H:Hp)(n:K):Option R:=
 aY (ih (.code a T) H n) λr=>R.casesOn r λex T v H n=>Ex.casesOn ex (ih (.code b T) H n) (λid=>some ⟨.exit id,T,v,H,n⟩) (some ⟨.ret,T,v,H,n⟩) (λu=>some ⟨.panic u,T,v,H,n⟩)
def Mi(c:ax)(a b:AC)(ih:dY)(T:Tr V)(H:Hp)(n:K):Option R:=
 aY (aq c T) λv=>V.casesOn (motive_1:=λ_=>Option R) v (λx=>cond x (ih (.code a T) H n) (ih (.code b T) H n)) (λ_ _=>none) (λ_ _=>none) none (λ_ _=>none) none (λ_ _ _ _=>none) (λ_ _ _ _=>none) none (λ_=>none) none (λ_ _ _=>none) (λ_=>none) none (λ_ _=>none) (λ_=>none) (λ_=>none) none
def ae3(id:Nat)(c:AC)(ih:dY)(T:Tr V)(H:Hp)(n:K):Option R:=
 aY (ih (.code c T) H n) λr=>R.casesOn r λex T v H n=>Ex.casesOn ex (some ⟨.normal,T,v,H,n⟩) (λCY=>cond (Nat.beq id CY) (some ⟨.normal,T,v,H,n⟩) (some ⟨.exit CY,T,v,H,n⟩)) (some ⟨.ret,T,v,H,n⟩) (λu=>some ⟨.panic u,T,v,H,n⟩)
def ae4(c:AC)(ih:dY)(T:Tr V)(H:Hp)(n:K):Option R:=
 aY (ih (.code c T) H n) λr=>R.casesOn r λex T v H n=>Ex.casesOn ex (ih (.code (.loop c) T) H n) (λid=>some ⟨.exit id,T,v,H,n⟩) (some ⟨.ret,T,v,H,n⟩) (λu=>some ⟨.panic u,T,v,H,n⟩)
def ae5(l:List AO)(ih:dY)(T:Tr V)(H:Hp)(n:K):Option R:=fZ l ih T H n
def ae6(l:List AO)(ih:dY)(T:Tr V)(H:Hp)(n:K):Option R:=eY l ih 0 T H n [] [] []
def Mj(ex:Ex)(ih:dY)(T:Tr V)(H:Hp)(n:K):Option R:=some ⟨ex,T,.q,H,n⟩
def ae7(c:AC)(ih:dY)(T:Tr V)(H:Hp)(n:K):Option R:=ih (.code c T) H n
def Ml(c:AC)(ih:dY)(T:Tr V)(H:Hp)(n:K):Option R:=Ev.bD (λ_=>none) ih (.code c T) H n
def code(c:AC):dY->Tr V->Hp->K->Option R:=AC.casesOn (motive:=λ_=>dY->Tr V->Hp->K->Option R) c (Mj .normal) (λx0=>ae5 x0) (λx0=>ae6 x0) (λx0 x1=>ae2 x0 x1) (λx0 x1 x2=>Mi x0 x1 x2) (λx0 x1=>ae3 x0 x1) (λx0=>ae4 x0) (λx0 x1 x2 x3=>Ml (.lT x0 x1 x2 x3)) (λx0=>Mj (.exit x0)) (λx0=>ae7 x0) (λx0 x1 x2 x3 x4=>Ml (.ph x0 x1 x2 x3 x4)) (Mj .ret) (Ml .bad)
theorem ae8(C:Nat->Option bN)(c:AC)(ih:dY)(T:Tr V)(H:Hp)(n:K):code c ih T H n=Ev.bD C ih (.code c T) H n:=by
 cases c<;>try rfl
 case reg l=>exact aeZ ih l T H n
 case regd l=>exact ae1 ih l 0 T H n [] [] []
 case seq a b=>
  show aY (ih (.code a T) H n) _=_;simp only[Ev.bD];cases ih (.code a T) H n with
  | none=>rfl
  | some r=>obtain⟨ex,T',v,H',n'⟩:=r;cases ex<;>rfl
 case cond x a b=>
  show Mi x a b ih T H n=_;unfold Mi;rw[iT];simp only[Ev.bD];cases Ev.aq T x with
  | none=>rfl
  | some v=>
   cases v<;>try rfl
   rename_i q;cases q<;>rfl
 case block id c=>
  show aY (ih (.code c T) H n) _=_;simp only[Ev.bD];cases ih (.code c T) H n with
  | none=>rfl
  | some r=>
   obtain⟨ex,T',v,H',n'⟩:=r;cases ex<;>rfl
 case loop c=>
  show aY (ih (.code c T) H n) _=_;simp only[Ev.bD];cases ih (.code c T) H n with
  | none=>rfl
  | some r=>obtain⟨ex,T',v,H',n'⟩:=r;cases ex<;>rfl
def binds(ks:List K):List V->Tr V->Option (Tr V):=
 List.rec (motive:=λ_=>List V->Tr V->Option (Tr V)) (λvs T=>List.casesOn vs (some T) (λ_ _=>none)) (λk _ ih vs T=>List.casesOn vs (some T) (λv vs=>ih vs (put (some v) k T))) ks
theorem ae9(ks:List K)(vs:List V)(T:Tr V):binds ks vs T=Ev.binds ks vs T:=by
 induction ks generalizing vs T with
 | nil=>cases vs<;>rfl
 | cons k ks ih=>
  cases vs with
  | nil=>rfl
  | cons v vs=>show binds ks vs (put (some v) k T)=_;rw[ih,put_eq];rfl
def afa(af:AF)(l:List V)(ih:dY)(H:Hp)(n:K):Option R:=
 AF.casesOn af λjD res body=>aY (binds jD l .e) λT=>aY (ih (.code body T) H n) λr=>R.casesOn r λex T v H n=>
  Ex.casesOn ex (aY (Ev.rp res T H) λv=>some ⟨.normal,.e,v,H,n⟩) (λ_=>none) (aY (Ev.rp res T H) λv=>some ⟨.normal,.e,v,H,n⟩) (λu=>some ⟨.panic u,.e,.q,H,n⟩)
def Mm(a l c:List V):List V:=a++(l++c)
def afb(C:Nat->Option bN)(ih:dY)(g:Nat)(a c l:List V)(H:Hp)(n:K):Option R:=
 aY (C g) λfn=>bN.casesOn fn (λaf=>afa af (Mm a l c) ih H n) (λ_=>Ev.bD C ih (.call (.f g a c) l) H n) (λ_=>Ev.bD C ih (.call (.f g a c) l) H n)
def call(C:Nat->Option bN)(ih:dY)(f:V)(l:List V)(H:Hp)(n:K):Option R:=
 match f with
 | .f g a c=>afb C ih g a c l H n
 | f=>Ev.bD C ih (.call f l) H n
theorem afc(C:Nat->Option bN)(ih:dY)(f:V)(l:List V)(H:Hp)(n:K):call C ih f l H n=Ev.bD C ih (.call f l) H n:=by
 cases f<;>try rfl
 rename_i g a c;show aY (C g) _=_;cases hg:C g with
 | none=>simp only[aY,Ev.bD,hg]
 | some fn=>
  cases fn with
  | pm p=>rfl
  | zI af=>rfl
  | go af=>
   obtain⟨jD,res,body⟩:=af;show aY (binds jD (Mm a l c) .e) _=_;rw[ae9];simp only[Ev.bD,hg,Mm];cases Ev.binds jD (a++(l++c)) .e with
   | none=>rfl
   | some T=>
    show aY (ih (.code body T) H n) _=_;simp only;cases ih (.code body T) H n with
    | none=>rfl
    | some r=>
     obtain⟨ex,T',v,H',n'⟩:=r;cases ex with
     | exit id=>rfl
     | panic u=>rfl
     | normal=>show aY (Ev.rp res T' H') _=_;simp only;cases Ev.rp res T' H'<;>rfl
     | ret=>show aY (Ev.rp res T' H') _=_;simp only;cases Ev.rp res T' H'<;>rfl
def bD(C:Nat->Option bN)(ih:dY)(j:F5):Hp->K->Option R:=F5.casesOn j (λc T=>code c ih T) (λf l=>call C ih f l)
theorem afd(C:Nat->Option bN)(ih:dY):bD C ih=Ev.bD C ih:=by
 funext j H n;cases j with
 | code c T=>exact ae8 C c ih T H n
 | call f l=>exact afc C ih f l H n
def ev(C:Nat->Option bN)(f:Nat):dY:=Nat.rec (motive:=λ_=>dY) (λ_ _ _=>none) (λ_ ih=>bD C ih) f
theorem gq(C:Nat->Option bN)(f:Nat):ev C f=Ev.ev C f:=by
 induction f with
 | zero=>rfl
 | succ f ih=>show bD C (ev C f)=_;rw[ih,afd];rfl
end
end Go.Ev.F
namespace Go.Ev
open Go
section
section ops
variable {P:Program}{ty:Ty}{C:Nat->Option bN}{ih:dY}{η:Env}{H:Hp}{n:K}{w:World}{fr:Frame}
theorem aj6(hC:Good P ty C)(eO:lY P ty ih){g:Nat}{l:List V}{af:AF}(hg:C g=some (.go af)){T0:Tr V}{v0:V}{H':Hp}{n':K}(hr:bD C ih (.call (.f g [] []) l) H n=some ⟨.normal,T0,v0,H',n'⟩)
 {args:List Value}(jI:bc η l args)(hG:ch η ty.g)(hH:bk (WW ty) η H n w)(cs:List Frame):
 ∃η' y w2 fr,Trans (WW ty) η H n w η' H' n' w2/\al η' v0 y/\Steps P (lone (Frame.enter P g args.toArray .normal) cs w) (lone fr cs w2)/\fr.fn=g/\fr.leaving P w2 (.returned y):=by
 obtain⟨fn,nZ,rE,my⟩:=hC.fn g af hg;simp only[bD,hg]at hr;split at hr
 case h_2=>cases hr
 rename_i T zX;unfold zM at my;split at my
 case h_2=>cases my
 rename_i body rs oD C3;cases jv:within fn.ntmps body with
 | false=>rw[jv]at my;cases my
 | true=>
  rw[jv]at my;simp only[cond_true]at my;injection my with my;subst my;simp only at hr zX;have iM:bc η ([]++(l++[])) args:=by simpa using jI
  generalize jc:args=xs at iM;let av:Array Value:=xs.toArray;let tm:Array Value:=av++Array.replicate (fn.ntmps - av.size) undef;have C4:fn.ntmps<=tm.size:=by simp only[tm,zD,Array.size_replicate];omega
  have hT:aW η T tm:=by rw[xL]at zX;refine KL (tmps:=tm) _ xs 0 _ .e T iM (λt v h=>by rw[Tr.gZ]at h;cases h) (λj x hj=>?_) zX;have ω:=(oj.1 hj).1;rw[iI];simp only[tm];rw[Array.getElem?_append_left (by simpa[av]using ω)];simpa[av]using hj
  have KM:∀(N M:Nat),N<=M->∀c,within N c=true->within M c=true:=by
   intro N M hNM;have hd:∀l,iK N l=true->iK M l=true:=by
    intro l
    induction l with
    | nil=>intro _;rfl
    | cons o l ih=>
     intro h;simp only[iK,bh]at h ⊢;refine⟨?_,ih h.2⟩;have h1:=h.1;split at h1
     ·rename_i d hd;rw[fJ,bA]at h1 ⊢;omega
     ·rfl
   have hb:∀l,ou N l=true->ou M l=true:=by
    intro l
    induction l with
    | nil=>intro _;rfl
    | cons d l ih=>
     intro h;simp only[ou,bh]at h ⊢;refine⟨?_,ih h.2⟩;have h1:=h.1;rw[fJ,bA]at h1 ⊢;omega
   intro c
   induction c with
   | region id ops dr=>exact hd _
   | seq a b jw qW=>intro h;simp only[within,bh]at h ⊢;exact⟨jw h.1,qW h.2⟩
   | cond x a b jw qW=>intro h;simp only[within,bh]at h ⊢;exact⟨jw h.1,qW h.2⟩
   | block id a jw=>exact jw
   | loop a jw=>exact jw
   | scope a jw=>exact jw
   | rangeFunc f ps a b jw qW=>intro h;simp only[within,bh]at h ⊢;exact⟨⟨hb _ h.1.1,jw h.1.2⟩,qW h.2⟩
   | _=>intro _;rfl
  let ee:Frame:={ fn:=g,tmps:=tm,todo:=[.code body],defers:=[],mode:=.run,kind:=.normal};have rF:Frame.enter P g av .normal=put ee ee.tmps ee.defers (.code body::[]):=by simp[Frame.enter,nZ,oD,put,ee,tm]
  have run:∀r1,ih (.code (dC ty body) T) H n=some r1->∃(η':Env) (t':Array Value) (w':World) (bs:List Nat) (k1:List Item),Trans (WW ty) η H n w η' r1.H r1.n w'/\aW η' r1.T t'/\bs.Nodup/\(∀b∈bs,w.heap.size<=b/\w'.heap[b]?=some (.deferred (some [])))/\jn P η' (lone (put ee ee.tmps ee.defers (.code body::[])) cs w) ee cs k1 r1.ex t' (bs.map (λb=>{ target:=.collected b,args:=#[]})) w'/\k1=[]:=by
   intro r1 h1;obtain⟨η',t',d',w',g1,g2,g3,⟨bs,Gc,C5,Ab⟩,g5⟩:=eO _ _ _ _ h1 η w ee cs [] body ⟨rfl,KM _ _ C4 _ jv⟩ hT hG hH rfl (by intro l h;cases h);have Gc:d'=bs.map (λb=>{ target:=.collected b,args:=#[]}):=by simpa[ee]using Gc
   subst Gc;exact⟨η',t',w',bs,[],g1,g3,C5,λb hb=>⟨(Ab b hb).1,(Ab b hb).2.1⟩,g5,rfl⟩
  split at hr
  ·cases hr
  ·cases hr
  ·rename_i ex T1 v1 H1 n1 KO KP h1;split at hr
   case h_2=>cases hr
   rename_i v hv;injection hr with hr;injection hr with eG fE Bc hr4 hr5;subst Bc;subst hr4;subst hr5;obtain⟨η',t',w',bs,_,g1,g3,C5,Ab,g5,rfl⟩:=run _ h1;have leave:∃todo,Steps P (lone (put ee ee.tmps ee.defers (.code body::[])) cs w) (lone { put ee t' (bs.map (λb=>{ target:=.collected b,args:=#[]})) todo with mode:=.returning} cs w'):=by
    cases ex with
    | normal=>exact⟨_,Steps.trans g5 (.one (returning rfl rfl))⟩
    | ret=>obtain⟨k1,g5⟩:=g5;exact⟨_,Steps.trans g5 (.one (Ho rfl rfl))⟩
    | exit id=>exact(KO id rfl).elim
    | panic u=>exact(KP u rfl).elim
   obtain⟨todo,s1⟩:=leave;obtain⟨w2,s2,t2⟩:=Hq (P:=P) (cs:=cs) (fr:={ put ee t' [] todo with mode:=.returning}) bs w' (by intro h;cases h) g1 Ab C5;obtain⟨y,F8,Ac⟩:=KK hC.aI g3 t2.rep C3 hv;refine⟨η',y,w2,{ put ee t' [] todo with mode:=.returning},t2,Ac,?_,rfl,⟨rfl,rfl,rfl,fn,nZ,F8⟩⟩;show Steps P (lone (Frame.enter P g av .normal) cs w) _;rw[rF];exact Steps.trans s1 s2
  ·cases hr
end ops
theorem aj7{P:Program}{ty:Ty}{C:Nat->Option bN}(hC:Good P ty C)(hP:L4 P ty C){g:Nat}{l:List V}{af:AF}(hg:C g=some (.go af)){H:Hp}{n:K}{Q:V->X.Hf->K->Prop}(hw:X.τ C (.f g [] []) l H.get n Q)
 {η:Env}{w:World}{args:List Value}(jI:bc η l args)(hG:ch η ty.g)(hH:bk (WW ty) η H n w):
 Calls P g args.toArray w λe w'=>∃y v η' H' n',e=.returned y/\Q v H'.get n'/\al η' v y/\Trans (WW ty) η H n w η' H' n' w':=by
 intro cs;obtain⟨v,H',n',⟨f0,hr⟩,hq⟩:=hw H rfl;have h1:=hr (f0+1) (by omega);obtain⟨η',y,w2,fr,t,hv,st,hf,hl⟩:=aj6 hC (U6 hC hP f0).1 hg (h1:bD C (ev C f0) _ _ _=_) jI hG hH cs;exact⟨.returned y,w2,fr,⟨y,v,η',H',n',rfl,hq,hv,t⟩,st,hf,hl⟩
end
end Go.Ev
