/- A part of the proof. -/
import Derived.Maps.RangeRun
import Derived.Lib.Bytealg
import Derived.Lib.Builder
import Derived.Test.YtpdbepbhlalldaaGreatDoorE
import Derived.Test.YtpdbepbhlalldaaGreatDoorA
set_option linter.all false
namespace Go.Ev
open Go
def ad3{a b:V×V×Nat}(h:GL a b=true):a=b:=by obtain⟨x,y,z⟩:=a;obtain⟨c,d,e⟩:=b;simp only[GL,aK]at h;rw[sM h.1.1,sM h.1.2,bX h.2]
def QU:∀{a b:List (V×V×Nat)},FM a b=true->a=b
 | [],[],_=>rfl
 | [],_::_,h=>by simp only[FM]at h;cases h
 | _::_,[],h=>by simp only[FM]at h;cases h
 | a::l,b::l',h=>by simp only[FM,aK]at h;rw[ad3 h.1,QU h.2]
def Eu{a b:O}(h:sb a b=true):a=b:=by
 cases a<;>cases b<;>simp only[sb,aK]at h<;>(try (cases h;done))
 ·rw[uD h.1.1,bX h.1.2,bX h.2]
 ·rw[uD h]
 ·rw[sM h.1.1,sM h.1.2,bX h.2]
 ·rw[QU h.1,bX h.2]
 ·rw[K.beq_eq h.1,bX h.2]
 ·rw[K.beq_eq h.1.1,bX h.1.2,bX h.2]
 ·rw[bX h.1.1,bX h.1.2,bX h.2]
def wC{α:Type}{eq:α->α->Bool}(he:∀a b,eq a b=true->a=b):∀{T T':Tr α},eP eq T T'=true->∀k a,T.get k=some a->T'.get k=some a:=by
 intro T
 induction T with
 | e=>intro T' _ k a h;rw[Tr.gf]at h;cases h
 | n v l r d f=>
  intro T' h k a c;cases T' with
  | e=>
   simp only[eP,aK]at h;cases k with
   | h=>simp only[Tr.get]at c;subst c;have:=h.1.1;cases this
   | o k=>simp only[Tr.get]at c;have:=d h.1.2 k a c;rw[Tr.gf]at this;cases this
   | i k=>simp only[Tr.get]at c;have:=f h.2 k a c;rw[Tr.gf]at this;cases this
  | n v' l' r'=>
   simp only[eP,aK]at h;cases k with
   | h=>
    simp only[Tr.get]at c ⊢;subst c;have:=h.1.1;cases v' with
    | none=>cases this
    | some b=>rw[he _ _ this]
   | o k=>simp only[Tr.get]at c ⊢;exact d h.1.2 k a c
   | i k=>simp only[Tr.get]at c ⊢;exact f h.2 k a c
def ad4:∀(ws:List K) (T:Tr V) (k:K) (v:V),(erase T ws).get k=some v->T.get k=some v:=by
 intro ws
 induction ws with
 | nil=>intro T k v h;exact h
 | cons a ws ih=>
  intro T k v h;have:=ih _ k v h;rw[Tr.eL]at this;split at this
  ·cases this
  ·exact this
def wD(ih:db)(d:Option K)(l:List AO)(c:AC)(b m:K)(cD:Nat)(T:Tr V)(H:Hp)(n:K)(e:V×V×Nat):Option R:=
 match eX ih l (dh d (some (.u [.b true,e.1,e.2.1])) T) (H.put (some (.me m cD e.2.2)) b) n with
 | some ⟨.normal,T,_,H,n⟩=>ih (.code c T) H n
 | _=>none
def Bj(ih:db)(d:Option K)(l:List AO)(c:AC)(T:Tr V)(H:Hp)(n:K):Option R:=
 match eX ih l (dh d (some (.u [.b false])) T) H n with
 | some ⟨.normal,T,_,H,n⟩=>(match ih (.code c T) H n with
  | some ⟨.normal,_,_,_,_⟩=>none
  | r=>r)
 | _=>none
def QV(ih:db)(d:Option K)(x:au)(l:List AO)(c:AC)(b m:K)(since cD:Nat)(T:Tr V)(H:Hp)(n:K)(e:V×V×Nat):Option R:=
 match wD ih d l c b m cD T (H.put none b) n e with
 | some ⟨.normal,T,_,H,n⟩=>(match H.get b,H.get m with
  | some (.me _ _ _),some (.mp [(_,_,t)] cD)=>bif Nat.beq since cD&&Nat.beq t e.2.2&&pS T x b then Bj ih d l c T (H.put none b) n else none
  | _,_=>none)
 | r=>r
def ad5{C:Nat->Option aI}{ih:db}{d:Option K}{x:au}{l:List AO}{c:AC}{ws:List K}{T:Tr V}{H:Hp}{n:K}{r:R}(h:bh C ih (.code (.nH d x l c ws) T) H n=some r):
 ∃b m since es cD,az T x=some (.p b 0)/\H.get b=some (.mi m since)/\H.get m=some (.mp es cD)/\since=cD/\uf cD 0 es=true/\((∃e,es=[e]/\QV ih d x l c b m since cD T H n e=some r)\/
  (pS (erase T ws) x b=true/\Ad (wD ih d l c b m cD (erase T ws) (H.put none b) n) (erase T ws) (H.put none b) es=true/\Bj ih d l c (erase T ws) (H.put none b) n=some r)):=by
 simp only[bh]at h;split at h
 case h_2=>cases h
 rename_i b hb;split at h
 case h_2=>cases h
 rename_i m since hm;split at h
 case h_2=>cases h
 rename_i es cD he;cases a:Nat.beq since cD&&uf cD 0 es with
 | false=>rw[a]at h;cases h
 | true=>
  rw[a]at h;simp only[cond_true]at h;simp only[aK]at a;refine⟨b,m,since,es,cD,hb,hm,he,bX a.1,a.2,?_⟩;split at h
  ·rename_i e;exact .inl ⟨e,rfl,h⟩
  ·right;simp only[gy]at h;split at h
   ·rename_i h1;simp only[aK]at h1;exact⟨h1.1,h1.2,h⟩
   ·cases h
def ad6{go:V×V×Nat->Option R}{T:Tr V}{H:Hp}:∀{es:List (V×V×Nat)},Ad go T H es=true->∀e∈es,∃T' v H' n',go e=some ⟨.normal,T',v,H',n'⟩/\eP cI T T'=true/\eP sb H H'=true:=by
 intro es
 induction es with
 | nil=>intro _ e h;cases h
 | cons a es ih=>
  intro h e he;simp only[Ad,aK]at h;rcases eO.1 he with rfl | he
  ·have h1:=h.1;split at h1
   ·rename_i T' v H' n' b;simp only[aK]at h1;exact⟨T',v,H',n',b,h1⟩
   ·cases h1
  ·exact ih h.2 e he
def ad7{ty:Ty}{c:Code}{d:Option K}{x:au}{l:List AO}{b:AC}{ws:List K}(h:re ty (cJ ty c) c=.nH d x l b ws):
 ∃(rid:Nat) (a:Option Tmp) (e:Operand) (rt:TypeId) (pos:String) (after:Array Edge) (rest:List Oper) (c2:Code),c=.seq (.region rid ⟨⟨a,.next e false,rt,pos,after,none⟩::rest⟩ false) c2/\d=a.map bL/\br ty e=some x/\b=cJ ty c2/\l=dA ty ⟨⟨a,.next e false,rt,pos,after,none⟩::rest⟩ rest []:=by
 unfold re at h;split at h
 case h_2=>cases h
 rename_i rid a e rt pos after rest c2;split at h
 case h_2=>cases h
 rename_i c1 l' c' o g i;injection h with h1 h2 j k p;subst h1;subst h2;subst j;subst k;simp only[cJ,cond_false]at g;injection g with f m;injection f with f;simp only[dA]at f;injection f with q n;exact⟨rid,a,e,rt,pos,after,rest,c2,rfl,rfl,i,m.symm,n.symm⟩
end Go.Ev
namespace Go.Ev
open Go
open Go.ChangeMaps (setBlock)
section
section
variable {P:Program}{ty:Ty}{C:Nat->Option aI}{ih:db}{η η':Env}{T:Tr V}{H H' Hx:Hp}{n n':K}{w w' w0:World}{tmps:Array Value}{ds:List Deferred}{fr:Frame}{cs:List Frame}{k:List Item}
 {rid:Nat}{o0:Oper}{rest:List Oper}{c2:Code}{ops:Array Oper}
def QW(hm:fr.mode=.run)(f:o0.guard=none)(g:∀c,o0.op≠.defer c){v:Value}(i:(execOp (an tmps) o0).run P w=.ok (.value v) w'):
 Steps P (lone (put fr tmps ds (.code (.seq (.region rid ⟨o0::rest⟩ false) c2)::k)) cs w) (lone (put fr (iM o0.dst v tmps) ds (.inRegion ⟨o0::rest⟩ (List.range' 1 rest.length)::.code c2::k)) cs w'):=by
 refine Steps.head (yl hm) (Steps.head (AK hm) ?_);have e:List.range (⟨o0::rest⟩:Array Oper).size=0::List.range' 1 rest.length:=by rw[tW];show List.range' 0 (rest.length+1)=_;rw[OQ]
 rw[e];have a:(⟨o0::rest⟩:Array Oper)[0]?=some o0:=rfl;have j:Region.wanted o0 (yielded ⟨o0::rest⟩ (put fr tmps ds (.inRegion ⟨o0::rest⟩ (0::List.range' 1 rest.length)::.code c2::k)).tmps)=true:=by unfold Region.wanted;rw[f]
 have b:=AE (P:=P) (cs:=cs) (w:=w) (fr:=put fr tmps ds (.inRegion ⟨o0::rest⟩ (0::List.range' 1 rest.length)::.code c2::k)) hm rfl a j g;rw[eval_put]at b;have d:=DW b (λ_ _ _ _ h=>by cases h) (v:=v) (w':=w') ⟨.value v,w',i,rfl,rfl⟩;rw[DV,a]at d;exact d
def QX(j:Good P ty C)(c:j9 P ty ih)(hm:fr.mode=.run)(l:gC fr.tmps.size (o0::rest)=true)(m:within fr.tmps.size c2=true){Tx T1:Tr V}{v1:V}{H1:Hp}{n1:K}{r:R}
 (o:eX ih (dA ty ⟨o0::rest⟩ rest []) Tx Hx n=some ⟨.normal,T1,v1,H1,n1⟩)(p:ih (.code (cJ ty c2) T1) H1 n1=some r)(q:aM η Tx tmps)(s:tmps.size=fr.tmps.size)(d:bD η ty.g)(t:aV (WW ty) η Hx n w)(hl:jC fr w):
 ∃η' a e w',Trans (WW ty) η Hx n w η' r.H r.n w'/\a.size=fr.tmps.size/\aM η' r.T a/\Marks w.heap.size η' r.H w' e ds/\gX P η' (lone (put fr tmps ds (.inRegion ⟨o0::rest⟩ (List.range' 1 rest.length)::.code c2::k)) cs w) fr cs k r.ex a e w':=by
 obtain⟨η1,f,u,g1,h,v,x⟩:=Hy (fr:=fr) (cs:=cs) (k:=.code c2::k) (ds:=ds) (ops:=⟨o0::rest⟩) j c hm l rest 1 rfl η Tx Hx n w tmps _ o q s d t;obtain⟨y,z,A,B,D,E,F,G,I⟩:=c _ _ _ _ p η1 u (put fr f ds []) cs k c2 ⟨rfl,by show within f.size c2=true;rw[h];exact m⟩ v (d.mono g1.ext) g1.rep hm (hl.trans g1);refine⟨y,z,A,B,g1.trans D,E.trans h,F,?_,.of_steps x I⟩;obtain⟨bs,h1,h2,i⟩:=G;exact⟨bs,h1,h2,λb hb=>⟨dU g1.kept.size (i b hb).1,(i b hb).2⟩⟩
def QY(ht:Trans (WW ty) η H n w η' H' n' w')(hf:∀k,n.num<=k.num->η k=none):bT η' n=η:=by
 funext k;unfold bT;by_cases h:k.num<n.num
 ·rw[ao h];exact ht.bu k h
 ·rw[Θ h,hf k (by omega)]
def ad8{H0:Hp}(ht:Trans (WW ty) η H n w η' H' n' w')(hf:∀k,n.num<=k.num->η k=none)(hb:∀k o,H0.get k=some o->lQ n o/\k.num<n.num)(hs:∀k o,H0.get k=some o->H'.get k=some o):aV (WW ty) η H0 n w':=by
 have e:=QY ht hf;refine⟨λq o a=>?_,λq b o o' L L' c a hm d f g=>?_,hf⟩
 ·obtain⟨L,h1,h2,h⟩:=ht.rep.obj q o (hs q o a);refine⟨L,by rw[←e];exact oG h1 (hb q o a).2,h2,?_⟩;rw[←e];exact h.bT (hb q o a).1
 ·exact ht.rep.sep q b o o' L L' c (hs q o a) hm (hs b o' d) (ht.ext _ _ f) (ht.ext _ _ g)
def ad9{T:Tr V}{t:Array Value}(ht:Trans (WW ty) η H n w η' H' n' w')(hf:∀k,n.num<=k.num->η k=none)(h:aM η' T t)(hb:∀t v,T.get (bL t)=some v->bk n v=true):aM η T t:=by have e:=QY ht hf;rw[←e];exact h.bT hb
structure uE(ty:Ty)(η:Env)(H H0:Hp)(n:K)(T:Tr V)(w0:World)(fr:Frame)(Lb Lm:Loc)(since:Nat)(w:World)(tmps:Array Value)(ds:List Deferred)(seen:Array Nat)(c0:Nat):Prop where
 rep:aV (WW ty) η H0 n w
 it:w.heap[Lb.blk]?=some (.mapIter (some Lm.blk) since seen c0)
 c0:since<=c0
 kept:Kept (lz η H true) w0 w
 size:tmps.size=fr.tmps.size
 iH:aM η T tmps
 marks:Marks w0.heap.size η H0 w ds fr.defers
structure qm(P:Program)(ty:Ty)(η:Env)(H H0:Hp)(kb m:K)(Lb Lm:Loc)(es:List (V×V×Nat))(cD:Nat):Prop where
 sub:∀k o,H0.get k=some o->H.get k=some o
 get:∃o,H.get kb=some o/\o.mut=true
 none:H0.get kb=none
 map:H0.get m=some (.mp es cD)
 lb:η kb=some Lb
 lm:η m=some Lm
 off:Lb.off=0
 apart:∀k o L,H0.get k=some o->η k=some L->L.blk≠Lb.blk
 stamps:uf cD 0 es=true
def QZ{cD:Nat}:∀{lo:Nat} {es:List (V×V×Nat)},uf cD lo es=true->∀e∈es,e.2.2<cD:=by
 intro lo es
 induction es generalizing lo with
 | nil=>intro _ e h;cases h
 | cons a es ih=>
  obtain⟨x,y,t⟩:=a;intro h e he;simp only[uf,aK]at h;rcases eO.1 he with rfl | he
  ·have:=h.1.2;simpa[eM]using this
  ·exact ih h.2 e he
def dJ.mem:∀{es:List (V×V×Nat)} {l:List MapEntry},dJ η es l->∀e∈l,∃k v,(k,v,e.born)∈es/\aq η k e.key/\aq η v e.val
 | [],[],_,e,h=>by cases h
 | (a,b,t)::es,x::l,⟨h1,h2,c,d⟩,e,h=>by
  rcases eO.1 h with rfl | h
  ·exact⟨a,b,by rw[c];simp,h1,h2⟩
  ·obtain⟨k,v,g1,f⟩:=dJ.mem d e h;exact⟨k,v,List.mem_cons_of_mem _ g1,f⟩
def dJ.IC:∀{es:List (V×V×Nat)} {l:List MapEntry},dJ η es l->l.map (·.born)=es.map (·.2.2)
 | [],[],_=>rfl
 | (a,b,t)::es,x::l,⟨h1,h2,c,d⟩=>by simp only[gB,c,dJ.IC d]
def Q0(a:Array MapEntry)(seen:Array Nat):(leftOf a seen).size=(a.toList.map (·.born)).countP (λt=>!seen.contains t):=by unfold leftOf;rw[←xN,Array.toList_filter,←List.countP_eq_length_filter,List.countP_map];rfl
def uE.me{H0:Hp}{kb m:K}{Lb Lm:Loc}{es:List (V×V×Nat)}{cD since c0 t:Nat}{seen:Array Nat}(X:qm P ty η H H0 kb m Lb Lm es cD)(I:uE ty η H H0 n T w0 fr Lb Lm since w tmps ds seen c0){c:World}(f:c=w\/c=w.drew):
 aV (WW ty) η (H0.put (some (.me m cD t)) kb) n (setBlock c Lb.blk (.mapIter (some Lm.blk) since (seen.push t) cD))/\Kept (lz η H true) w0 (setBlock c Lb.blk (.mapIter (some Lm.blk) since (seen.push t) cD))/\(setBlock c Lb.blk (.mapIter (some Lm.blk) since (seen.push t) cD)).heap[Lb.blk]?=some (.mapIter (some Lm.blk) since (seen.push t) cD)/\Marks w0.heap.size η (H0.put (some (.me m cD t)) kb) (setBlock c Lb.blk (.mapIter (some Lm.blk) since (seen.push t) cD)) ds fr.defers/\(setBlock c Lb.blk (.mapIter (some Lm.blk) since (seen.push t) cD)).heap.size=w.heap.size:=by
 have z:c.heap=w.heap:=by rcases f with rfl | rfl<;>rfl
 have h1:c.os=w.os:=by rcases f with rfl | rfl<;>rfl
 have h2:c.tape=w.tape:=by rcases f with rfl | rfl<;>rfl
 have A:c.output=w.output:=by rcases f with rfl | rfl<;>rfl
 have s:Lb.blk<w.heap.size:=(mB.1 I.it).1;have heap:(setBlock c Lb.blk (.mapIter (some Lm.blk) since (seen.push t) cD)).heap=w.heap.setIfInBounds Lb.blk (.mapIter (some Lm.blk) since (seen.push t) cD):=by show c.heap.setIfInBounds _ _=_;rw[z]
 have same:∀b,b≠Lb.blk->(setBlock c Lb.blk (.mapIter (some Lm.blk) since (seen.push t) cD)).heap[b]?=w.heap[b]?:=λb hb=>by rw[heap,fx,Θ (λe=>hb e.symm)]
 have at':(setBlock c Lb.blk (.mapIter (some Lm.blk) since (seen.push t) cD)).heap[Lb.blk]?=some (.mapIter (some Lm.blk) since (seen.push t) cD):=by rw[heap,fx,ao rfl,ao s]
 have sz:(setBlock c Lb.blk (.mapIter (some Lm.blk) since (seen.push t) cD)).heap.size=w.heap.size:=by rw[heap];simp
 refine⟨⟨λq o a=>?_,λq u o o' L L' B a g i v d=>?_,I.rep.free⟩,?_,at',?_,sz⟩
 ·rw[Tr.eL]at a;by_cases e:q=kb
  ·rw[ao e]at a;injection a with a;subst a;subst e;exact⟨Lb,X.lb,by rw[sz];exact s,X.off,Lm,since,seen.push t,X.lm,at',by simp⟩
  ·rw[Θ e]at a;obtain⟨L,g1,j,l⟩:=I.rep.obj q o a;refine⟨L,g1,by rw[sz];exact j,?_⟩;rw[same _ (X.apart q o L a g1)];exact l
 ·rw[Tr.eL]at a i;by_cases e:q=kb
  ·rw[ao e]at a;injection a with a;subst a;cases g
  ·rw[Θ e]at a;by_cases x:u=kb
   ·rw[x,X.lb]at d;injection d with d;subst d;exact X.apart q o L a v
   ·rw[Θ x]at i;exact I.rep.sep q u o o' L L' B a g i v d
 ·obtain⟨ob,D,g⟩:=X.get;refine⟨h1.trans I.kept.os,h2.trans I.kept.tape,A.trans I.kept.output,by rw[sz];exact I.kept.size,λb hb y=>?_,λb r E=>?_⟩
  ·rw[same b (λe=>y ⟨kb,ob,Lb,D,λ_=>g,X.lb,e.symm⟩)];exact I.kept.block b hb y
  ·obtain⟨r',h⟩:=I.kept.loops b r E;refine⟨r',?_⟩;rw[same b (λe=>by rw[e,I.it]at h;cases h)];exact h
 ·obtain⟨bs,g1,j,l⟩:=I.marks;refine⟨bs,g1,j,λb hb=>?_⟩;obtain⟨F,p,G⟩:=l b hb;refine⟨F,?_,?_⟩
  ·rw[same b (λe=>by rw[e,I.it]at p;cases p)];exact p
  ·rintro⟨q,o,L,b1,b2,b3,b4⟩;rw[Tr.eL]at b1;by_cases e:q=kb
   ·rw[ao e]at b1;injection b1 with b1;subst b1;cases b2 rfl
   ·rw[Θ e]at b1;exact G ⟨q,o,L,b1,b2,b3,b4⟩
def Q2{b:Operand}{x:au}{kb:K}{Lb:Loc}(c:br ty b=some x)(hi:pS T x kb=true)(d:aM η T tmps)(f:bD η ty.g)(hb:η kb=some Lb)(i:Lb.off=0):an tmps b=.pointer (some ⟨Lb.blk,0,none⟩):=by
 unfold pS at hi;split at hi
 case h_2=>cases hi
 rename_i b' j;have e:=K.beq_eq hi;subst e;have h:=bQ d f c j;generalize an tmps b=y at h;cases h with
 | p _ _ L a=>rw[hb]at a;injection a with a;subst a;rw[i]
def ID(R:Good P ty C)(S:j9 P ty ih)(hm:fr.mode=.run){j:Option Tmp}{A:Operand}{rt:TypeId}{pos:String}{after:Array Edge}(r:o0=⟨j,.next A false,rt,pos,after,none⟩)
 (E:gC fr.tmps.size (o0::rest)=true)(U:within fr.tmps.size c2=true){x:au}(W:br ty A=some x){H0:Hp}{kb m:K}{Lb Lm:Loc}{es:List (V×V×Nat)}{cD c0:Nat}{seen:Array Nat}
 (X:qm P ty η H H0 kb m Lb Lm es cD)(I:uE ty η H H0 n T w0 fr Lb Lm cD w tmps ds seen c0)(F:bD η ty.g)(hl:jC fr w0)(Y:pS T x kb=true)
 (Z:∀e∈es,∃a,wD ih (j.map bL) (dA ty ⟨o0::rest⟩ rest []) (cJ ty c2) kb m cD T H0 n e=some a):
 ((es.map (·.2.2)).countP (λt=>!seen.contains t)=0/\(execOp (an tmps) o0).run P w=.ok (.value (.tuple #[.bool false])) w)\/
 ∃e a i η' o s w',e∈es/\seen.contains e.2.2=false/\wD ih (j.map bL) (dA ty ⟨o0::rest⟩ rest []) (cJ ty c2) kb m cD T H0 n e=some a/\aV (WW ty) η (H0.put (some (.me m cD e.2.2)) kb) n i/\Kept (lz η H true) w0 i/\i.heap[Lb.blk]?=some (.mapIter (some Lm.blk) cD (seen.push e.2.2) cD)/\Marks w0.heap.size η (H0.put (some (.me m cD e.2.2)) kb) i ds fr.defers/\Trans (WW ty) η (H0.put (some (.me m cD e.2.2)) kb) n i η' a.H a.n w'/\o.size=fr.tmps.size/\aM η' a.T o/\Marks i.heap.size η' a.H w' s ds/\gX P η' (lone (put fr tmps ds (.code (.seq (.region rid ⟨o0::rest⟩ false) c2)::k)) cs w) fr cs k a.ex o s w':=by
 obtain⟨B,qC,D⟩:=we I.rep X.map X.lm;have hold:∀y∈B.toList,y.born<cD:=λy hy=>by obtain⟨_,_,h,_⟩:=D.mem y hy;exact QZ X.stamps _ h
 have xu:=Q2 W Y I.iH F X.lb X.off;have G:∀v p,(Instr.next (.pointer (some ⟨Lb.blk,0,none⟩)) false rt).run P w=.ok v p->(execOp (an tmps) o0).run P w=.ok (.value v) p:=by intro v p h;subst r;show(do pure (.value (←Instr.next (an tmps A) false rt)):Sem Next).run P w=_;rw[xu];show(Sem.bind _ _).run P w=_;rw[Sem.run_bind',h];rfl
 rcases run_next_at w rt Lb.blk Lm.blk cD c0 seen B cD I.it qC hold I.c0 with ⟨h1,h2⟩ | ⟨f,h1,p,h2,h3⟩
 ·left;refine⟨?_,G _ _ h2⟩;rw[Q0,D.IC]at h1;exact h1
 ·right;have J:f∈B.toList/\seen.contains f.born=false:=by
   unfold leftOf at h1;simpa using h1
  obtain⟨L,vv,M,hk,hv⟩:=D.mem f J.1;obtain⟨a,N⟩:=Z _ M;obtain⟨O,Q,q3,q4,q5⟩:=I.me X h2 (t:=f.born);have z:=N;unfold wD at z;split at z
  case h_2=>cases z
  rename_i T1 v1 H1 n1 IF;have dK:∀d,o0.dst=some d->d<tmps.size:=λd mM=>by rw[I.size];exact IA E o0 (by simp) d mM
  have oe:o0.dst=j:=by rw[r]
  have IG:aM η (dh (j.map bL) (some (.u [.b true,L,vv])) T) (iM o0.dst (.tuple #[.bool true,f.key,f.val]) tmps):=by rw[←oe];exact I.iH.iM dK (.u _ _ (.cons _ _ _ _ (.b _) (.cons _ _ _ _ hk (.cons _ _ _ _ hv .nil))))
  have kA:jC fr (setBlock p Lb.blk (.mapIter (some Lm.blk) cD (seen.push f.born) cD)):=λl gH=>let⟨q,hq⟩:=hl l gH;Q.loops l q hq;obtain⟨η',o,s,w',b1,b2,b3,b4,b5⟩:=QX (cs:=cs) (k:=k) (ds:=ds) R S hm E U IF z IG (by rw[AH];exact I.size) F O kA;refine⟨(L,vv,f.born),a,_,η',o,s,w',M,J.2,N,O,Q,q3,q4,b1,b2,b3,b4,.of_steps (QW hm (by rw[r]) (λc h=>by rw[r]at h;cases h) (G _ _ h3)) b5⟩
end
end
section
section
variable {P:Program}{ty:Ty}{C:Nat->Option aI}{ih:db}{η η':Env}{T:Tr V}{H H' Hx H0:Hp}{n n':K}{w w' w0 w2:World}{tmps dd:Array Value}{ds jJ:List Deferred}{fr:Frame}{cs:List Frame}{k:List Item}
 {rid:Nat}{o0:Oper}{rest:List Oper}{c2:Code}{ops:Array Oper}{kb m:K}{Lb Lm:Loc}{es:List (V×V×Nat)}{cD c0 t:Nat}{seen:Array Nat}
def Trans.from(kept:Kept (lz η H true) w0 w)(c:∀mm b,lz η Hx mm b->lz η H mm b)(a:Trans (WW ty) η Hx n w η' H' n' w'):Trans (WW ty) η H n w0 η' H' n' w' where
 ext:=a.ext
 le:=a.le
 rep:=a.rep
 kept:=
  {os:=a.kept.os.trans kept.os
   tape:=a.kept.tape.trans kept.tape
   output:=a.kept.output.trans kept.output
   size:=dU kept.size a.kept.size
   block:=λb hb d=>by rw[a.kept.block b (ep hb kept.size) λe=>d (c _ _ e),kept.block b hb d]
   loops:=λb r hb=>let⟨r',h1⟩:=kept.loops b r hb;a.kept.loops b r' h1}
 jN:=λmm b hb=>by
  rcases a.jN mm b hb with h1 | h1
  ·exact .inl (c _ _ h1)
  ·exact .inr (dU kept.size h1)
 bu:=a.bu
def qm.Q3(X:qm P ty η H H0 kb m Lb Lm es cD)(mm:Bool)(b:Nat)(h:lz η H0 mm b):lz η H mm b:=let⟨q,o,L,h1,h2⟩:=h;⟨q,o,L,X.sub q o h1,h2⟩
def qm.Q4(X:qm P ty η H H0 kb m Lb Lm es cD)(mm:Bool)(b:Nat)(h:lz η (H0.put (some (.me m cD t)) kb) mm b):lz η H mm b:=by
 obtain⟨q,o,L,h1,h2,a,c⟩:=h;rw[Tr.eL]at h1;by_cases e:q=kb
 ·rw[ao e]at h1;injection h1 with h1;subst h1;subst e;obtain⟨ob,g1,d⟩:=X.get;exact⟨q,ob,L,g1,λ_=>d,a,c⟩
 ·rw[Θ e]at h1;exact⟨q,o,L,X.sub q o h1,h2,a,c⟩
def qm.Q5(X:qm P ty η H H0 kb m Lb Lm es cD):¬ lz η (H0.put (some (.me m cD t)) kb) true Lb.blk:=by
 rintro⟨q,o,L,h1,h2,a,b⟩;rw[Tr.eL]at h1;by_cases e:q=kb
 ·rw[ao e]at h1;injection h1 with h1;subst h1;cases h2 rfl
 ·rw[Θ e]at h1;exact X.apart q o L h1 a b
def uE.again(X:qm P ty η H H0 kb m Lb Lm es cD)(I:uE ty η H H0 n T w0 fr Lb Lm cD w tmps ds seen c0)(c:Kept (lz η H true) w0 w2)
 (d:w2.heap[Lb.blk]?=some (.mapIter (some Lm.blk) cD (seen.push t) cD))(f:Marks w0.heap.size η (H0.put (some (.me m cD t)) kb) w2 ds fr.defers)
 (a:Trans (WW ty) η (H0.put (some (.me m cD t)) kb) n w2 η' H' n' w')(g:dd.size=fr.tmps.size){T':Tr V}(i:aM η' T' dd)(mk:Marks w2.heap.size η' H' w' jJ ds)
 (j:eP cI T T'=true)(l:eP sb H0 H'=true):uE ty η H H0 n T w0 fr Lb Lm cD w' dd jJ (seen.push t) cD:=by
 have hs:∀q o,H0.get q=some o->H'.get q=some o:=wC (λ_ _=>Eu) l;have p:∀q o,H0.get q=some o->lQ n o/\q.num<n.num:=λq o e=>⟨let⟨L,_,_,h⟩:=I.rep.obj q o e;h.below I.rep.free,I.rep.vX e⟩;have r:Lb.blk<w2.heap.size:=(mB.1 d).1;refine⟨ad8 a I.rep.free p hs,?_,φ _,?_,g,ad9 a I.rep.free (λq v hv=>i q v (wC (λ_ _=>sM) j _ _ hv)) (λq v hv=>let⟨y,_,h⟩:=I.iH q v hv;h.ke I.rep.free),?_⟩
 ·rw[a.kept.block _ r X.Q5];exact d
 ·have:=Trans.from c (λmm b=>X.Q4 mm b) a;exact this.kept
 ·obtain⟨bs,h1,h2,s⟩:=f.next a mk c.size;refine⟨bs,h1,h2,λb hb=>?_⟩;obtain⟨u,x,z⟩:=s b hb;refine⟨u,x,λ⟨q,o,L,b1,b2,b3,b4⟩=>z ⟨q,o,L,hs q o b1,b2,a.ext _ _ b3,b4⟩⟩
def IH(p:Good P ty C)(q:j9 P ty ih)(hm:fr.mode=.run){f:Option Tmp}{s:Operand}{rt:TypeId}{pos:String}{after:Array Edge}(i:o0=⟨f,.next s false,rt,pos,after,none⟩)
 (j:gC fr.tmps.size (o0::rest)=true)(v:within fr.tmps.size c2=true){r:R}(a:Bj ih (f.map bL) (dA ty ⟨o0::rest⟩ rest []) (cJ ty c2) T H0 n=some r)
 (x:(execOp (an tmps) o0).run P w=.ok (.value (.tuple #[.bool false])) w)(y:aM η T tmps)(l:tmps.size=fr.tmps.size)(z:bD η ty.g)(A:aV (WW ty) η H0 n w)(hl:jC fr w):
 r.ex≠.normal/\∃η' dd jJ w',Trans (WW ty) η H0 n w η' r.H r.n w'/\dd.size=fr.tmps.size/\aM η' r.T dd/\Marks w.heap.size η' r.H w' jJ ds/\gX P η' (lone (put fr tmps ds (.code (.seq (.region rid ⟨o0::rest⟩ false) c2)::k)) cs w) fr cs k r.ex dd jJ w':=by
 unfold Bj at a;split at a
 case h_2=>cases a
 rename_i T1 v1 H1 n1 B;have o:r.ex≠.normal/\ih (.code (cJ ty c2) T1) H1 n1=some r:=by
  split at a
  ·cases a
  ·rename_i D;refine⟨λe=>?_,a⟩;obtain⟨ex,T2,I,H2,J⟩:=r;simp only at e;subst e;exact D _ _ _ _ a
 have E:∀d,o0.dst=some d->d<tmps.size:=λd F=>by rw[l];exact IA j o0 (by simp) d F
 have oe:o0.dst=f:=by rw[i]
 have G:aM η (dh (f.map bL) (some (.u [.b false])) T) (iM o0.dst (.tuple #[.bool false]) tmps):=by rw[←oe];exact y.iM E (.u _ _ (.cons _ _ _ _ (.b _) .nil))
 obtain⟨η',dd,jJ,w',b1,b2,b3,b4,b5⟩:=QX (cs:=cs) (k:=k) (ds:=ds) p q hm j v B o.2 G (by rw[AH];exact l) z A hl;exact⟨o.1,η',dd,jJ,w',b1,b2,b3,b4,.of_steps (QW hm (by rw[i]) (λc h=>by rw[i]at h;cases h) x) b5⟩
def aed(a:Good P ty C)(b:j9 P ty ih)(hm:fr.mode=.run){p:Option Tmp}{B:Operand}{rt:TypeId}{pos:String}{after:Array Edge}(c:o0=⟨p,.next B false,rt,pos,after,none⟩)
 (d:gC fr.tmps.size (o0::rest)=true)(f:within fr.tmps.size c2=true){x:au}(D:br ty B=some x)(X:qm P ty η H H0 kb m Lb Lm es cD)(i:bD η ty.g)(hl:jC fr w0)(E:pS T x kb=true)
 (s:∀e∈es,∃T' v H' n',wD ih (p.map bL) (dA ty ⟨o0::rest⟩ rest []) (cJ ty c2) kb m cD T H0 n e=some ⟨.normal,T',v,H',n'⟩/\eP cI T T'=true/\eP sb H0 H'=true)
 {r:R}(F:Bj ih (p.map bL) (dA ty ⟨o0::rest⟩ rest []) (cJ ty c2) T H0 n=some r):
 ∀(j:Nat) (w:World) (tmps:Array Value) (ds:List Deferred) (seen:Array Nat) (c0:Nat),uE ty η H H0 n T w0 fr Lb Lm cD w tmps ds seen c0->(es.map (·.2.2)).countP (λt=>!seen.contains t)<=j->∃η' dd jJ w',Trans (WW ty) η H n w0 η' r.H r.n w'/\dd.size=fr.tmps.size/\aM η' r.T dd/\Marks w0.heap.size η' r.H w' jJ fr.defers/\gX P η' (lone (put fr tmps ds (.code (.seq (.region rid ⟨o0::rest⟩ false) c2)::.inLoop (.seq (.region rid ⟨o0::rest⟩ false) c2)::k)) cs w) fr cs k r.ex dd jJ w':=by
 intro j
 induction j with
 | zero=>
  intro w tmps ds seen c0 I L;rcases ID (cs:=cs) (rid:=rid) (k:=.inLoop (.seq (.region rid ⟨o0::rest⟩ false) c2)::k) a b hm c d f D X I i hl E (λe he=>let⟨T',v,H',n',h,_⟩:=s e he;⟨_,h⟩) with ⟨h1,h2⟩ | ⟨e,M,w2,η',dd,jJ,w',h1,h2,G⟩
  ·have u:jC fr w:=λl y=>let⟨q,z⟩:=hl l y;I.kept.loops l q z;obtain⟨A,η',dd,jJ,w',b1,b2,b3,b4,b5⟩:=IH (cs:=cs) (rid:=rid) (k:=.inLoop (.seq (.region rid ⟨o0::rest⟩ false) c2)::k) (ds:=ds) a b hm c d f F h2 I.iH I.size i I.rep u;exact⟨η',dd,jJ,w',.from I.kept X.Q3 b1,b2,b3,I.marks.next b1 b4 I.kept.size,.pass (by intro id h;cases h) A b5⟩
  ·exfalso;have h0:(es.map (·.2.2)).countP (λt=>!seen.contains t)=0:=by omega
   rw[List.countP_eq_zero]at h0;have:=h0 e.2.2 (List.mem_map.2 ⟨e,h1,rfl⟩);rw[h2]at this;exact this rfl
 | succ j N=>
  intro w tmps ds seen c0 I L;rcases ID (cs:=cs) (rid:=rid) (k:=.inLoop (.seq (.region rid ⟨o0::rest⟩ false) c2)::k) a b hm c d f D X I i hl E (λe he=>let⟨T',v,H',n',h,_⟩:=s e he;⟨_,h⟩) with ⟨h1,h2⟩ | ⟨e,M,w2,η',dd,jJ,w',h1,h2,G,g1,O,Q,S,U,W,Y,Z,g9⟩
  ·have u:jC fr w:=λl y=>let⟨q,z⟩:=hl l y;I.kept.loops l q z;obtain⟨A,η',dd,jJ,w',b1,b2,b3,b4,b5⟩:=IH (cs:=cs) (rid:=rid) (k:=.inLoop (.seq (.region rid ⟨o0::rest⟩ false) c2)::k) (ds:=ds) a b hm c d f F h2 I.iH I.size i I.rep u;exact⟨η',dd,jJ,w',.from I.kept X.Q3 b1,b2,b3,I.marks.next b1 b4 I.kept.size,.pass (by intro id h;cases h) A b5⟩
  ·obtain⟨T',v,H',n',o,q2,q3⟩:=s e h1;rw[G]at o;injection o with o;subst o;have I':=I.again X O Q S U W Y Z q2 q3;have hc:(es.map (·.2.2)).countP (λt=>!(seen.push e.2.2).contains t)<(es.map (·.2.2)).countP (λt=>!seen.contains t):=by
    refine QT (λx J=>?_) (List.mem_map.2 ⟨e,h1,rfl⟩) (by rw[h2];rfl) (by simp);simp at J ⊢;exact J.1
   obtain⟨η2,t2,d2,w3,b1,b2,b3,b4,b5⟩:=N w' dd jJ (seen.push e.2.2) cD I' (by omega);refine⟨η2,t2,d2,w3,b1,b2,b3,b4,.of_steps (Steps.trans g9 (.one (HA hm))) b5⟩
def aef(Q:Good P ty C)(S:j9 P ty ih)(c:Code)(d:Option K)(x:au)(l:List AO)(b:AC)(ws:List K)(T:Tr V)(H:Hp)(n:K)(r:R)(hk:re ty (cJ ty c) c=.nH d x l b ws)
 (hr:bh (λ_=>none) ih (.code (.nH d x l b ws) T) H n=some r)(η:Env)(w:World)(fr:Frame)(cs:List Frame)(k:List Item)(hw:within fr.tmps.size (.loop c)=true)
 (hT:aM η T fr.tmps)(U:bD η ty.g)(W:aV (WW ty) η H n w)(hm:fr.mode=.run)(hl:jC fr w):
 ∃η' tmps ds w',Trans (WW ty) η H n w η' r.H r.n w'/\tmps.size=fr.tmps.size/\aM η' r.T tmps/\Marks w.heap.size η' r.H w' ds fr.defers/\gX P η' (lone (put fr fr.tmps fr.defers (.code (.loop c)::k)) cs w) fr cs k r.ex tmps ds w':=by
 obtain⟨rid,f,i,rt,pos,after,rest,c2,rfl,rfl,Y,rfl,rfl⟩:=ad7 hk;have s:within fr.tmps.size (.seq (.region rid ⟨⟨f,.next i false,rt,pos,after,none⟩::rest⟩ false) c2)=true:=hw;simp only[within,aK]at s;obtain⟨kb,m,since,es,cD,hx,hb,Z,rfl,bR,aeg⟩:=ad5 hr;obtain⟨Lb,V3,lb2,lb3,Lm,lb4,lb5⟩:=W.obj kb _ hb;have aG:m≠kb:=λe=>by rw[e,hb]at Z;cases Z
 have X:qm P ty η H (H.put none kb) kb m Lb Lm es since:=by
  have hs:∀q o,(H.put none kb).get q=some o->H.get q=some o:=λq o a=>by
   rw[Tr.eL]at a;split at a
   ·cases a
   ·exact a
  refine⟨hs,⟨_,hb,rfl⟩,Tr.DC _ _ _,by rw[Tr.DD _ _ aG];exact Z,V3,lb4,lb3,λq o L a hL=>?_,bR⟩;have hqk:kb≠q:=λe=>by rw[←e,Tr.DC]at a;cases a
  exact λe=>W.sep kb q _ o Lb L hqk hb rfl (hs q o a) V3 hL e.symm
 have start:∀T0:Tr V,(∀q v,T0.get q=some v->T.get q=some v)->uE ty η H (H.put none kb) n T0 w fr Lb Lm since w fr.tmps fr.defers #[] since:=λT0 h0=>
  ⟨W.less X.sub,lb5,φ _,.refl _ _,rfl,λq v hv=>hT q v (h0 _ _ hv),.refl _ _ _ _ _⟩
 have B:Steps P (lone (put fr fr.tmps fr.defers (.code (.loop (.seq (.region rid ⟨⟨f,.next i false,rt,pos,after,none⟩::rest⟩ false) c2))::k)) cs w)
  (lone (put fr fr.tmps fr.defers (.code (.seq (.region rid ⟨⟨f,.next i false,rt,pos,after,none⟩::rest⟩ false) c2)::.inLoop (.seq (.region rid ⟨⟨f,.next i false,rt,pos,after,none⟩::rest⟩ false) c2)::k)) cs w):=.one (DY hm)
 rcases aeg with ⟨e,rfl,h⟩ | ⟨h1,h2,z⟩
 ·
  have I:=start T (λ_ _ h=>h);have F1:pS T x kb=true:=by unfold pS;rw[hx];exact K.beq_refl _
  unfold QV at h;cases E:wD ih (f.map bL) (dA ty ⟨⟨f,.next i false,rt,pos,after,none⟩::rest⟩ rest []) (cJ ty c2) kb m since T (H.put none kb) n e with
  | none=>rw[E]at h;cases h
  | some rr=>
   rw[E]at h;rcases ID (cs:=cs) (rid:=rid) (k:=.inLoop (.seq (.region rid ⟨⟨f,.next i false,rt,pos,after,none⟩::rest⟩ false) c2)::k) Q S hm rfl s.1 s.2 Y X I U hl F1 (λj L6=>by
    have:j=e:=by simpa using L6
    subst this;exact⟨rr,E⟩) with ⟨h1,h2⟩ | ⟨j,rr',w2,η',dd,jJ,w',h1,h2,z,g1,g2,g3,g4,p,F,D,g8,G⟩
   ·exfalso;simp at h1
   ·have he:j=e:=by simpa using h1
    subst he;rw[E]at z;injection z with z;subst z;have arp:=g2;have A:=Trans.from g2 (λmm b=>X.Q4 mm b) p;have J:=g4.next p g8 g2.size;obtain⟨ex,T1,v1,H1,n1⟩:=rr;cases ex with
    | exit id=>
     injection h with h;subst h;exact⟨η',dd,jJ,w',A,F,D,J,.of_steps B (.pass (by intro id h;cases h) (by intro h;cases h) G)⟩
    | ret=>
     injection h with h;subst h;exact⟨η',dd,jJ,w',A,F,D,J,.of_steps B (.pass (by intro id h;cases h) (by intro h;cases h) G)⟩
    | panic u=>
     injection h with h;subst h;exact⟨η',dd,jJ,w',A,F,D,J,.of_steps B (.pass (by intro id h;cases h) (by intro h;cases h) G)⟩
    | normal=>
     simp only at h;split at h
     case h_2=>cases h
     rename_i _ _ _ k' v' t' aej e1 e2;cases M:Nat.beq since aej&&Nat.beq t' j.2.2&&pS T1 x kb with
     | false=>rw[M]at h;cases h
     | true=>
      rw[M]at h;simp only[cond_true]at h;simp only[aK]at M;obtain⟨⟨vh,N⟩,sO⟩:=M;have vh:=bX vh;have N:=bX N;subst vh;have τ:Lb.blk<w2.heap.size:=(mB.1 g3).1;have it':w'.heap[Lb.blk]?=some (.mapIter (some Lm.blk) since ((#[]:Array Nat).push j.2.2) since):=by rw[p.kept.block _ τ X.Q5];exact g3
      obtain⟨O,m1,m2⟩:=we p.rep e2 (p.ext _ _ lb4);have aek:j.2.2<since:=QZ bR j (by simp);have hold:∀y∈O.toList,y.born<since:=λy hy=>by obtain⟨_,_,hh,_⟩:=m2.mem y hy;simp only[iZ,Prod.mk.injEq]at hh;rw[hh.2.2,N];exact aek
      have hG':=U.mono p.ext;have xu:=Q2 Y sO D hG' (p.ext _ _ V3) lb3;have aem:(leftOf O ((#[]:Array Nat).push j.2.2)).size=0:=by rw[Q0,m2.IC];simp[N]
      have iC:(execOp (an dd) ⟨f,.next i false,rt,pos,after,none⟩).run P w'=.ok (.value (.tuple #[.bool false])) w':=by
       rcases run_next_at w' rt Lb.blk Lm.blk since since _ O since it' m1 hold (φ _) with ⟨_,h2⟩ | ⟨e2,h1,_⟩
       ·show(do pure (.value (←Instr.next (an dd i) false rt)):Sem Next).run P w'=_;rw[xu];show(Sem.bind _ _).run P w'=_;rw[Sem.run_bind',h2];rfl
       ·exfalso;have:leftOf O ((#[]:Array Nat).push j.2.2)=#[]:=Array.eq_empty_of_size_eq_zero aem;rw[this]at h1;cases h1
      have lC:jC fr w':=λl gH=>let⟨q,a⟩:=hl l gH;A.kept.loops l q a;have tl:=Trans.less p.rep kb;obtain⟨mK,η2,t2,d2,w3,b1,b2,b3,b4,b5⟩:=IH (cs:=cs) (rid:=rid) (k:=.inLoop (.seq (.region rid ⟨⟨f,.next i false,rt,pos,after,none⟩::rest⟩ false) c2)::k) (ds:=jJ) Q S hm rfl s.1 s.2 h iC D F hG' tl.rep lC;exact⟨η2,t2,d2,w3,(A.trans tl).trans b1,b2,b3,(J.trans tl).next b1 b4 A.kept.size,.of_steps (Steps.trans B (Steps.trans G (.one (HA hm)))) (.pass (by intro id h;cases h) mK b5)⟩
 ·have I:=start (erase T ws) (λq v h=>ad4 ws T q v h);obtain⟨η2,t2,d2,w3,b1,b2,b3,b4,b5⟩:=aed (cs:=cs) (rid:=rid) (k:=k) Q S hm rfl s.1 s.2 Y X U hl h1 (ad6 h2) z _ w fr.tmps fr.defers #[] since I (φ _);exact⟨η2,t2,d2,w3,b1,b2,b3,b4,.of_steps B b5⟩
end
end
end Go.Ev
namespace Go.Ev
open Go
section
section ops
variable {P:Program}{ty:Ty}{C:Nat->Option aI}{W:Nat->Code->AC->Prop}{ih:db}{η η':Env}{T:Tr V}{H H':Hp}{n n':K}{w w':World}{v:V}{tmps:Array Value}{ds:List Deferred}{fr:Frame}{cs:List Frame}{k:List Item}
def II{N M:Nat}(j:N<=M):∀c,within N c=true->within M c=true:=by
 have i:∀l,gC N l=true->gC M l=true:=by
  intro l
  induction l with
  | nil=>intro _;rfl
  | cons o l ih=>
   intro h;simp only[gC,aK]at h ⊢;refine⟨?_,ih h.2⟩;have h1:=h.1;split at h1
   ·rename_i d i;rw[eM,aW]at h1 ⊢;omega
   ·rfl
 have hb:∀l,mH N l=true->mH M l=true:=by
  intro l
  induction l with
  | nil=>intro _;rfl
  | cons d l ih=>
   intro h;simp only[mH,aK]at h ⊢;refine⟨?_,ih h.2⟩;have h1:=h.1;rw[eM,aW]at h1 ⊢;omega
 intro c
 induction c with
 | region id ops m=>exact i _
 | seq a b e g=>intro h;simp only[within,aK]at h ⊢;exact⟨e h.1,g h.2⟩
 | cond x a b e g=>intro h;simp only[within,aK]at h ⊢;exact⟨e h.1,g h.2⟩
 | block id a e=>exact e
 | loop a e=>exact e
 | scope a e=>exact e
 | rangeFunc f ps a b e g=>intro h;simp only[within,aK]at h ⊢;exact⟨⟨hb _ h.1.1,e h.1.2⟩,g h.2⟩
 | _=>intro _;rfl
def aen{ds0:List Deferred}:∀(bs:List Nat) (w':World),fr.mode≠.run->Trans W η H n w η' H' n' w'->(∀b∈bs,w.heap.size<=b/\w'.heap[b]?=some (.deferred (some [])))->bs.Nodup->∃a,Steps P (lone { fr with defers:=bs.map (λb=>{ target:=.collected b,args:=#[]})++ds0} cs w') (lone { fr with defers:=ds0} cs a)/\Trans W η H n w η' H' n' a:=by
 intro bs
 induction bs with
 | nil=>intro w' hm ht _ _;exact⟨w',.refl _ _,ht⟩
 | cons b bs ih=>
  intro w' hm ht hb c;obtain⟨h1,h2⟩:=hb b (by simp);have f:=ht.deferred (d':=none) h2 h1;obtain⟨a,g,h⟩:=ih _ hm f (λq d=>by
   obtain⟨g1,i⟩:=hb q (by simp[d]);refine⟨g1,?_⟩;have j:b≠q:=λe=>by rw[e]at c;exact(List.nodup_cons.1 c).1 d
   show(w'.heap.setIfInBounds b (.deferred none))[q]?=_;rw[fx,Θ j];exact i) (List.nodup_cons.1 c).2
  exact⟨a,Steps.head (OT (bs:=bs) hm h2) g,h⟩
def aeo{ops:Array Oper}{i:Nat}{rest:List Nat}{o:Oper}{c:Call}{d:Deferred}(hm:fr.mode=.run)(b:fr.roundOf=none)(a:ops[i]?=some o)(e:o.op=.defer c)(f:o.guard=none)
 (g:(resolve (an tmps) c o.type).run P w=.ok d w):
 step P (lone (put fr tmps ds (.inRegion ops (i::rest)::k)) cs w)=.next (lone (put fr (iM o.dst undef tmps) (d::ds) (.inRegion ops rest::k)) cs w):=by
 obtain⟨fn,l,todo,defers,mode,kind,roundOf⟩:=fr;simp only at hm b;subst hm;subst b;have h:Region.wanted o (yielded ops tmps)=true:=by unfold Region.wanted;rw[f]
 have j:Frame.eval { fn,tmps,todo:=.inRegion ops (i::rest)::k,defers:=ds,mode:=.run,kind,roundOf:=none}=an tmps:=by rw[eval_eq]
 have hex:(execOp (an tmps) o).run P w=.ok (.defer d) w:=by obtain⟨dst,op,rt,pos,after,m⟩:=o;subst e;show(do pure (.defer (←resolve (an tmps) c rt)):Sem Next).run P w=_;show(Sem.bind _ _).run P w=_;rw[Sem.run_bind',g];rfl
 refine gA ?_;simp only[put,stepG,stepG.exec,a,ou,Option.getD_some,h,if_true];have:stepG.oper P true { fn,tmps,todo:=.inRegion ops (i::rest)::k,defers:=ds,mode:=.run,kind,roundOf:=none} cs none w=
  stepG.apply P true { fn,tmps,todo:=.inRegion ops (i::rest)::k,defers:=ds,mode:=.run,kind,roundOf:=none} cs none (execOp (an tmps) o) w:=by
  simp only[stepG.oper,Frame.oper?,a,j]
 rw[this];simp only[stepG.apply,Sem.runT_eq,hex,GStep.bare_after];simp only[Frame.finish,a,xQ];rfl
def found(caller:Frame)(x:Value)(a:Frame):Prop:=
 (caller.mode=.returning/\x=.nilIface/\a=caller)\/
 (caller.mode=.panicking [{ v:=x,recovered:=false}]/\a={ caller with mode:=.panicking [{ v:=x,recovered:=true}]})
def aep{ops:Array Oper}{i:Nat}{rest:List Nat}{o:Oper}{a:Array Operand}{t:Array TypeId}{caller c:Frame}{x:Value}(hm:fr.mode=.run)(d:fr.kind=.deferred)(e:fr.roundOf=none)(b:ops[i]?=some o)(f:o.op=.call ⟨.builtin .recover,a,t⟩)(g:o.guard=none)
 (hf:found caller x c):
 step P (lone (put fr tmps ds (.inRegion ops (i::rest)::k)) (caller::cs) w)=.next (lone (put fr (iM o.dst x tmps) ds (.inRegion ops rest::k)) (c::cs) w):=by
 obtain⟨fn,l,todo,defers,mode,kind,roundOf⟩:=fr;simp only at hm e d;subst hm;subst e;subst d;have h:Region.wanted o (yielded ops tmps)=true:=by unfold Region.wanted;rw[g]
 have j:Frame.eval { fn,tmps,todo:=.inRegion ops (i::rest)::k,defers:=ds,mode:=.run,kind:=.deferred,roundOf:=none}=an tmps:=by rw[eval_eq]
 have hex:(execOp (an tmps) o).run P w=.ok .recover w:=by obtain⟨dst,op,rt,pos,after,m⟩:=o;subst f;rfl
 refine gA ?_;simp only[put,stepG,stepG.exec,b,ou,Option.getD_some,h,if_true];have:stepG.oper P true { fn,tmps,todo:=.inRegion ops (i::rest)::k,defers:=ds,mode:=.run,kind:=.deferred,roundOf:=none} (caller::cs) none w=
  stepG.apply P true { fn,tmps,todo:=.inRegion ops (i::rest)::k,defers:=ds,mode:=.run,kind:=.deferred,roundOf:=none} (caller::cs) none (execOp (an tmps) o) w:=by
  simp only[stepG.oper,Frame.oper?,b,j]
 rw[this];simp only[stepG.apply,Sem.runT_eq,hex,GStep.bare_after];rcases hf with ⟨h1,rfl,rfl⟩ | ⟨h1,rfl⟩
 ·simp only[tryRecover,h1];simp only[Frame.finish,b,xQ];rfl
 ·simp only[tryRecover,h1];simp only[Frame.finish,b,xQ];rfl
def aer{g:Nat}{cap:Array Value}{args:Array Value}{ds0:List Deferred}{a:Array Value}(hm:fr.mode≠.run)(b:fr.defers={ target:=.fn (.func g) cap,args}::ds0)(c:(invoke (.fn (.func g) cap) args).run P w=.ok (.enter g a) w):
 step P (lone fr cs w)=.next (lone (Frame.enter P g a .deferred) ({ fr with defers:=ds0}::cs) w):=by
 obtain⟨fn,d,todo,defers,mode,kind,roundOf⟩:=fr;simp only at hm b;subst b;refine gA ?_;cases mode with
 | run=>exact absurd rfl hm
 | _=>simp[stepG,unwind,callDeferred,Sem.runT_eq,c]
def aes{caller:Frame}{x:Value}{cf:Func}{y:Value}(hf:P.funcs[fr.fn]?=some cf)(hm:fr.mode=.returning)(b:fr.defers=[])(c:fr.kind=.deferred)(a:(results cf fr.tmps).run P w=.ok y w)
 (d:caller.mode=.returning\/caller.mode=.panicking [{ v:=x,recovered:=true}]):
 step P (lone fr (caller::cs) w)=.next (lone { caller with mode:=.returning} cs w):=by
 obtain⟨fn,f,todo,defers,mode,kind,roundOf⟩:=fr;simp only at hm b c hf a;subst b;subst c;subst hm;refine gA ?_;rcases d with h | h
 ·have e:({ caller with mode:=.returning}:Frame)=caller:=by rw[←h]
  simp[stepG,unwind,hf,a,doReturn,h,e]
 ·simp[stepG,unwind,hf,a,doReturn,h]
end ops
end
section
section ops
variable {P:Program}{ty:Ty}{C:Nat->Option aI}{W:Nat->Code->AC->Prop}{ih:db}{η η':Env}{T:Tr V}{H H':Hp}{n n':K}{w w':World}{v:V}{tmps:Array Value}{ds:List Deferred}{fr:Frame}{cs:List Frame}{k:List Item}
def aet{fn:Func}{b:Nat->Option Func}{af:xS}(h:uq ty fn b=some af):
 ∃(e f i:Nat) (pre:Array Oper) (s:Tmp) (g:FuncId) (fQ:Array Operand) (j l m:TypeId) (o p r:String) (t u x:Array Edge) (y z:Array TypeId) (A:Array Operand) (rest a:Code) (q:Tmp) (cf:Func) (rs:List AR) (c:List au),fn.body=some (.seq (.region e pre false) (.seq (.region f ⟨[⟨some s,.makeFunc (.func g) ⟨[]⟩ fQ,j,o,t,none⟩,⟨none,.defer ⟨.value (.tmp s),⟨[]⟩,y⟩,l,p,u,none⟩]⟩ false) rest))/\sc ty fn.results.toList=some rs/\nJ ty fQ.toList=some c/\b g=some cf/\cf.body=some (.seq (.region i ⟨[⟨some q,.call ⟨.builtin .recover,A,z⟩,m,r,x,none⟩]⟩ false) a)/\gC fn.ntmps pre.toList=true/\s<fn.ntmps/\within fn.ntmps rest=true/\q<cf.ntmps/\within cf.ntmps a=true/\cf.results.size=0/\af={ iH:=(List.range (fn.params.size+fn.nfree)).map bL,res:=rs,pre:=dA ty pre pre.toList [],GD:=bL s,g:=g,fQ:=c,body:=cJ ty rest,GF:=(List.range (cf.params.size+cf.nfree)).map bL,GG:=bL q,GH:=cJ ty a}:=by
 unfold uq at h;split at h
 case h_2=>cases h
 rename_i B D;split at h
 case h_2=>cases h
 rename_i E F;split at h
 case h_2=>cases h
 rename_i G;simp only[gy]at h;split at h
 case isFalse=>cases h
 rename_i d;simp only[aK,eM,aW]at d;obtain⟨c1,c2,c3,c4,c5,c6,c7⟩:=d;injection h with h;have c1:=bX c1;subst c1;exact⟨_,_,_,_,_,_,_,_,_,_,_,_,_,_,_,_,_,_,_,_,_,_,_,_,_,B,D,E,F,G,c2,c3,c4,c5,c6,bX c7,h.symm⟩
def Q7{g:Nat}{fn:Func}{body:Code}(c:P.funcs[g]?=some fn)(hb:fn.body=some body)(a:Array Value)(b:CallKind):
 Frame.enter P g a b={ fn:=g,tmps:=a++Array.replicate (fn.ntmps - a.size) undef,todo:=[.code body],defers:=[],mode:=.run,kind:=b}:=by
 simp[Frame.enter,c,hb]
def Q8{vs:List V}{xs:List Value}{m:Nat}(b:aN η vs xs)(a:binds ((List.range m).map bL) vs .e=some T)(N:Nat):aM η T (xs.toArray++Array.replicate N undef):=by rw[tW]at a;refine HD _ xs 0 _ .e T b (λt v h=>by rw[Tr.gf]at h;cases h) (λj x hj=>?_) a;have c:=(mC.1 hj).1;rw[eW];rw[Array.getElem?_append_left (by simpa using c)];simpa using hj
def Q9{g:Nat}{fn:Func}{body:Code}(b:P.funcs[g]?=some fn)(hb:fn.body=some body)(c:(fn.name == "runtime.NumGoroutine")=false)(a:Array Value):(callFunc g a).run P w=.ok (.enter g a) w:=by
 have d:¬ fn.name = "runtime.NumGoroutine":=by simpa using c
 simp[callFunc,program,bind,Sem.bind,Sem.run,b,d,hb,pure]
def aev(hC:Good P ty C)(dQ:j9 P ty ih){g:Nat}{a c l:List V}{af:xS}(hg:C g=some (.vQ af)){r:R}(i:bh C ih (.call (.f g a c) l) H n=some r):j8 P ty (.call (.f g a c) l) H n r:=by
 intro η w j cs fv args rR iO hG hH;obtain⟨fn,cf,ml,pr,uW,ku,aew⟩:=hC.vQ g af hg;obtain⟨i1,i2,i3,pre,s,g',fQ,I,N,t3,J,O,p3,L,Q,e3,S,IJ,a3,rest,M,q,cf',rs,Aj,mQ,zi,aex,gg,FY,k2,k3,k4,k5,k6,k7,rfl⟩:=aet uW;simp only at ku gg;rw[ku]at gg;injection gg with gg;subst gg;simp only[bh,hg]at i;split at i
 case h_2=>cases i
 rename_i T0 wg;split at i
 case h_2=>cases i
 rename_i T1 v1 H1 n1 h0;split at i
 case h_2=>cases i
 rename_i cv hcv;split at i
 case h_1=>cases i
 case h_3=>cases i
 rename_i ex T2 v2 H2 n2 gN h1;split at i
 case h_2=>cases i
 rename_i Tc hTc;split at i
 case h_1=>cases i
 case h_2=>cases i
 case h_4=>cases i
 rename_i ex3 T3 v3 H3 n3 aey aez h3;split at i
 case h_2=>cases i
 rename_i v hv;injection i with i;subst i;refine⟨λ_=>?_,λu h=>by cases h⟩;cases rR with
 | f _ _ _ a' c' ha qc=>
 have gE:aN η (a++(l++c)) (a'++(args++c')):=ha.append (iO.append qc);generalize fa:a'++(args++c')=xs at gE;let D:Array Value:=xs.toArray;let tm:Array Value:=D++Array.replicate (fn.ntmps - D.size) undef;have wm:fn.ntmps<=tm.size:=by simp only[tm,vN,Array.size_replicate];omega
 have hT:aM η T0 tm:=Q8 gE wg _;let m:Frame:={ fn:=g,tmps:=tm,todo:=[],defers:=[],mode:=.run,kind:=.normal};have nN:(do let d←Deferred.ofValue (.func (.func g) ⟨a'⟩ ⟨c'⟩) args.toArray;invoke d.target d.args:Sem Next).run P w=.ok (.enter g D) w:=by
  have VS:(⟨a'⟩:Array Value)++args.toArray++(⟨c'⟩:Array Value)=D:=by apply iY;simp[D,←fa]
  have:(do let d←Deferred.ofValue (.func (.func g) ⟨a'⟩ ⟨c'⟩) args.toArray;invoke d.target d.args:Sem Next)=callFunc g ((⟨a'⟩:Array Value)++args.toArray++(⟨c'⟩:Array Value)):=rfl;rw[this,VS];exact Q9 ml mQ pr D
 obtain⟨η1,p,t,g1,g2,g3,g4⟩:=Hy (fr:=m) (cs:=j::cs) (k:=[.code (.seq (.region i2 ⟨[⟨some s,.makeFunc (.func g') ⟨[]⟩ fQ,I,J,L,none⟩,⟨none,.defer ⟨.value (.tmp s),⟨[]⟩,S⟩,N,O,Q,none⟩]⟩ false) rest)]) (ds:=[]) hC dQ rfl
  (show gC tm.size pre.toList=true from II wm (.region 0 pre false) k2) pre.toList 0 rfl η T0 H n w tm _ h0 hT rfl hG hH
 have s0:Steps P (lone (Frame.enter P g D .normal) (j::cs) w) (lone (put m p [] [.code (.seq (.region i2 ⟨[⟨some s,.makeFunc (.func g') ⟨[]⟩ fQ,I,J,L,none⟩,⟨none,.defer ⟨.value (.tmp s),⟨[]⟩,S⟩,N,O,Q,none⟩]⟩ false) rest)]) (j::cs) t):=by
  rw[Q7 ml mQ];have e:({ fn:=g,tmps:=D++Array.replicate (fn.ntmps - D.size) undef,todo:=[.code (.seq (.region i1 pre false) (.seq (.region i2 ⟨[⟨some s,.makeFunc (.func g') ⟨[]⟩ fQ,I,J,L,none⟩,⟨none,.defer ⟨.value (.tmp s),⟨[]⟩,S⟩,N,O,Q,none⟩]⟩ false) rest))],defers:=[],mode:=.run,kind:=.normal}:Frame)=
   put m tm [] (.code (.seq (.region i1 pre false) (.seq (.region i2 ⟨[⟨some s,.makeFunc (.func g') ⟨[]⟩ fQ,I,J,L,none⟩,⟨none,.defer ⟨.value (.tmp s),⟨[]⟩,S⟩,N,O,Q,none⟩]⟩ false) rest))::[]):=rfl
  rw[e];refine Steps.head (yl rfl) (Steps.head (AK rfl) ?_);have dK:pre.toList.length=pre.size:=by simp
  rw[dK,←tW]at g4;exact g4
 have V4:=hG.mono g1.ext;have Ra:=yc g3 V4 aex hcv;have jg:s<p.size:=by rw[g2];exact ep k3 wm
 have e0:∀f:Operand->Value,(⟨[]⟩:Array Operand).map f=⟨[]⟩:=λf=>by apply iY;simp
 let X:Value:=.func (.func g') ⟨[]⟩ ⟨fQ.toList.map (an p)⟩;have aeA:aq η1 (.f g' [] cv) X:=.f _ _ _ _ _ .nil Ra;let z:Array Value:=p.setIfInBounds s X;have IG:aM η1 (T1.put (some (.f g' [] cv)) (bL s)) z:=g3.set jg aeA;let d:Deferred:={ target:=.fn (.func g') ⟨fQ.toList.map (an p)⟩,args:=⟨[]⟩};have s1:Steps P (lone (put m p [] [.code (.seq (.region i2 ⟨[⟨some s,.makeFunc (.func g') ⟨[]⟩ fQ,I,J,L,none⟩,⟨none,.defer ⟨.value (.tmp s),⟨[]⟩,S⟩,N,O,Q,none⟩]⟩ false) rest)]) (j::cs) t)
  (lone (put m z [d] [.code rest]) (j::cs) t):=by
  refine Steps.head (yl rfl) (Steps.head (AK rfl) ?_);show Steps P (lone (put m p [] (.inRegion _ [0,1]::[.code rest])) (j::cs) t) _;have bR:=AE (P:=P) (cs:=j::cs) (w:=t) (fr:=put m p [] (.inRegion ⟨[⟨some s,.makeFunc (.func g') ⟨[]⟩ fQ,I,J,L,none⟩,⟨none,.defer ⟨.value (.tmp s),⟨[]⟩,S⟩,N,O,Q,none⟩]⟩ [0,1]::[.code rest])) U U
   (o:=⟨some s,.makeFunc (.func g') ⟨[]⟩ fQ,I,J,L,none⟩) U U (λc h=>by cases h)
  rw[eval_put]at bR;have mj:(execOp (an p) ⟨some s,.makeFunc (.func g') ⟨[]⟩ fQ,I,J,L,none⟩).run P t=.ok (.value X) t:=by
   have:fQ.map (an p)=⟨fQ.toList.map (an p)⟩:=by apply iY;simp
   show(Sem.pure (Next.value (.func (.func g') ((⟨[]⟩:Array Operand).map (an p)) (fQ.map (an p))))).run P t=_;rw[this,e0];rfl
  have h1:=DW bR (λ_ _ _ _ h=>by cases h) (v:=X) (w':=t) ⟨.value X,t,mj,rfl,rfl⟩;rw[DV]at h1;refine Steps.trans h1 (Steps.head (aeo (d:=d) U U (o:=⟨none,.defer ⟨.value (.tmp s),⟨[]⟩,S⟩,N,O,Q,none⟩) U U U ?_) (.one (DX rfl)));have xu:an z (.tmp s)=X:=by show z.getD s undef=X;simp[z,tT,jg]
  show(Deferred.ofValue (an z (.tmp s)) ((⟨[]⟩:Array Operand).map (an z))).run P t=_;rw[xu,e0];rfl
 have aeB:z.size=tm.size:=by simp only[z,Array.size_setIfInBounds];exact g2
 obtain⟨η2,E,d3,w2,q1,q2,q3,⟨bs,m1,m2,m3⟩,Y⟩:=dQ _ _ _ _ h1 η1 t (put m z [d] []) (j::cs) [] rest ⟨rfl,by show within z.size rest=true;rw[aeB];exact II wm rest k4⟩ IG V4 g1.rep U (by intro l h;cases h);have m1:d3=bs.map (λb=>{ target:=.collected b,args:=#[]})++[d]:=m1;subst m1;have leave:∃(todo:List Item) (F:FrameMode) (x:Value) (B:Frame),F≠.run/\aq η2 ex.GM x/\found { put m E [] todo with mode:=F} x B/\(B.mode=.returning\/B.mode=.panicking [{ v:=x,recovered:=true}])/\({ B with mode:=.returning}:Frame)={ put m E [] todo with mode:=.returning}/\Steps P (lone (put m z [d] [.code rest]) (j::cs) t) (lone { put m E (bs.map (λb=>{ target:=.collected b,args:=#[]})++[d]) todo with mode:=F} (j::cs) w2):=by
  cases ex with
  | normal=>exact⟨[],.returning,.nilIface,_,(by intro h;cases h),.ni,.inl ⟨rfl,rfl,rfl⟩,.inl U,rfl,Steps.trans Y (.one (returning rfl rfl))⟩
  | ret=>obtain⟨k1,Y⟩:=Y;exact⟨.code .ret::k1,.returning,.nilIface,_,(by intro h;cases h),.ni,.inl ⟨rfl,rfl,rfl⟩,.inl U,rfl,Steps.trans Y (.one (DZ rfl rfl))⟩
  | exit id=>exact(gN id rfl).elim
  | panic u=>obtain⟨k1,x,q6,Y⟩:=Y;exact⟨k1,.panicking [{ v:=x,recovered:=false}],x,_,(by intro h;cases h),q6,.inr ⟨rfl,rfl⟩,.inr U,rfl,Y⟩
 obtain⟨todo,F,x,B,hmd,hx,aeD,qn,IK,s2⟩:=leave;obtain⟨w3,s3,t3'⟩:=aen (P:=P) (cs:=j::cs) (ds0:=[d]) (fr:={ put m E [] todo with mode:=F}) bs w2 hmd q1 (λb hb=>⟨(m3 b hb).1,(m3 b hb).2.1⟩) m2;let cx:List Value:=fQ.toList.map (an p);have aeF:(⟨[]⟩:Array Value)++(⟨fQ.toList.map (an p)⟩:Array Value)=cx.toArray:=by apply iY;simp[cx]
 have s4:Steps P (lone { put m E [d] todo with mode:=F} (j::cs) w3) (lone (Frame.enter P g' cx.toArray .deferred) ({ put m E [] todo with mode:=F}::j::cs) w3):=
  .one (aer (fr:={ put m E [d] todo with mode:=F}) (ds0:=[]) hmd rfl (by
   show(callFunc g' ((⟨[]⟩:Array Value)++(⟨fQ.toList.map (an p)⟩:Array Value))).run P w3=_;rw[aeF];exact Q9 ku FY aew _))
 let A:Array Value:=cx.toArray++Array.replicate (cf.ntmps - cx.toArray.size) undef;have Rb:cf.ntmps<=A.size:=by simp only[A,vN,Array.size_replicate];omega
 have hcT:aM η2 Tc A:=Q8 (Ra.mono q1.ext) hTc _;let G:Frame:={ fn:=g',tmps:=A,todo:=[],defers:=[],mode:=.run,kind:=.deferred};have aeG:q<A.size:=ep k5 Rb;have s5:Steps P (lone (Frame.enter P g' cx.toArray .deferred) ({ put m E [] todo with mode:=F}::j::cs) w3) (lone (put G (A.setIfInBounds q x) [] [.code M]) (B::j::cs) w3):=by
  rw[Q7 ku FY];have e:({ fn:=g',tmps:=cx.toArray++Array.replicate (cf.ntmps - cx.toArray.size) undef,todo:=[.code (.seq (.region i3 ⟨[⟨some q,.call ⟨.builtin .recover,a3,IJ⟩,t3,p3,e3,none⟩]⟩ false) M)],defers:=[],mode:=.run,kind:=.deferred}:Frame)=
   put G A [] (.code (.seq (.region i3 ⟨[⟨some q,.call ⟨.builtin .recover,a3,IJ⟩,t3,p3,e3,none⟩]⟩ false) M)::[]):=rfl
  rw[e];refine Steps.head (yl rfl) (Steps.head (AK rfl) ?_);show Steps P (lone (put G A [] (.inRegion _ [0]::[.code M])) _ w3) _;exact Steps.head (aep rfl rfl rfl (o:=⟨some q,.call ⟨.builtin .recover,a3,IJ⟩,t3,p3,e3,none⟩) U U U aeD) (.one (DX rfl))
 have aeH:aM η2 (Tc.put (some ex.GM) (bL q)) (A.setIfInBounds q x):=hcT.set aeG hx;have hG2:=V4.mono q1.ext;obtain⟨η3,Z,d4,w4,r1,r2,r3,⟨lD,V5,m2',m3'⟩,r5⟩:=dQ _ _ _ _ h3 η2 w3 (put G (A.setIfInBounds q x) [] []) (B::j::cs) [] M ⟨rfl,by show within (A.setIfInBounds q x).size M=true;rw[Array.size_setIfInBounds];exact II Rb M k6⟩ aeH hG2 t3'.rep U (by intro l h;cases h);have V5:d4=lD.map (λb=>{ target:=.collected b,args:=#[]}):=by simpa[G,put]using V5
 subst V5;have aeJ:∃Ey,Steps P (lone (put G (A.setIfInBounds q x) [] [.code M]) (B::j::cs) w3) (lone { put G Z (lD.map (λb=>{ target:=.collected b,args:=#[]})) Ey with mode:=.returning} (B::j::cs) w4):=by
  cases ex3 with
  | normal=>exact⟨[],Steps.trans r5 (.one (returning rfl rfl))⟩
  | ret=>obtain⟨k1,r5⟩:=r5;exact⟨_,Steps.trans r5 (.one (DZ rfl rfl))⟩
  | exit id=>exact(aey id rfl).elim
  | panic u=>exact(aez u rfl).elim
 obtain⟨Ey,s6⟩:=aeJ;obtain⟨w5,s7,t5⟩:=D2 (P:=P) (cs:=B::j::cs) (fr:={ put G Z [] Ey with mode:=.returning}) lD w4 (by intro h;cases h) r1 (λb hb=>⟨(m3' b hb).1,(m3' b hb).2.1⟩) m2'
 have aeK:(results cf Z).run P w5=.ok (.tuple #[]) w5:=by
  have:cf.results=#[]:=Array.eq_empty_of_size_eq_zero k7;have e:results cf Z=(do let vs←cf.results.mapM (AM Z);pure (if h:vs.size=1 then vs[0] else .tuple vs)):=rfl
  rw[e,this,Array.mapM_eq_mapM_toList];rfl
 have s8:Steps P (lone { put G Z [] Ey with mode:=.returning} (B::j::cs) w5) (lone { put m E [] todo with mode:=.returning} (j::cs) w5):=by rw[←IK];exact .one (aes (x:=x) (cf:=cf) ku rfl rfl rfl aeK qn)
 have Rc:=((g1.trans t3').trans t5);obtain⟨y,Cy,HI⟩:=HC hC.aE (q3.mono t5.ext) Rc.rep zi hv;refine⟨η3,y,w5,Rc,HI,.enter g D,w,nN,?_⟩;exact Steps.trans s0 (Steps.trans s1 (Steps.trans s2 (Steps.trans s3 (Steps.trans s4 (Steps.trans s5 (Steps.trans s6 (Steps.trans s7 (Steps.trans s8 (.one (step_leave_returned (fr:={ put m E [] todo with mode:=.returning}) ⟨rfl,rfl,rfl,fn,ml,Cy⟩))))))))))
end ops
end
def IL(P:Program)(ty:Ty)(C:Nat->Option aI):Prop:=
 ∀g p,C g=some (.pm p)->∀(a c l:List V) (H:Hp) (n:K) (v:V) (H':Hp) (n':K),pm p (a++(l++c)) H n=some (v,H',n')->j8 P ty (.call (.f g a c) l) H n ⟨.normal,.e,v,H',n'⟩
def Re{P:Program}{ty:Ty}{C:Nat->Option aI}(e:Good P ty C)(hp:IL P ty C):∀f,j9 P ty (ev C f)/\sK (ev C f):=by
 intro f
 induction f with
 | zero=>exact⟨λj H n r h=>(by cases h),λj H n r h=>(by cases h)⟩
 | succ f ih=>
  obtain⟨i,s⟩:=ih;refine⟨λj H n r h=>?_,adz s⟩;have h:bh C (ev C f) j H n=some r:=h;cases j with
  | code a T=>
   refine ZU e i ?_ h;refine⟨λid ops T H n r t m η w fr cs k=>ad0 e i s id ops T H n r t m η w fr cs k,λg ps bY body g' T H n r hf m η w fr cs k=>?_,λc d x l b ws T H n r u m η w fr cs k=>aef e i c d x l b ws T H n r u m η w fr cs k⟩;exact aai e i hf (by exact m) η w fr cs k
  | call z l=>
   cases z with
   | f g a c=>
    cases o:C g with
    | none=>simp only[bh,o]at h;cases h
    | some af=>
     cases af with
     | go af=>exact Z0 e i o h
     | vQ af=>exact aev e i o h
     | pm p=>
      simp only[bh,o]at h;split at h
      ·rename_i v H1 n1 h1;injection h with h;subst h;exact hp g p o a c l H n v H1 n1 h1
      ·cases h
   | y q=>exact Z7 e i h
   | _=>cases h
def TE.Ok(P:Program)(ty:Ty)(g:Nat)(e:TE):Prop:=j8 P ty (.call (.f g [] []) e.args) e.bM e.n ⟨.normal,.e,e.v,e.add,e.n'⟩
def Bl(P:Program)(ty:Ty)(C:Nat->Option aI):Prop:=
 ∀g p,C g=some (.pm p)->match p with
  | .rZ=>∃fn,P.funcs[g]?=some fn/\(fn.name == "runtime.NumGoroutine")=false/\fn.body.isNone=true/\Extern.findNext fn=none/\Extern.find fn=some Extern.BytealgIndexByte.indexByte
  | .same=>∃fn,P.funcs[g]?=some fn/\(fn.name == "runtime.NumGoroutine")=false/\fn.body.isNone=true/\Extern.findNext fn=none/\Extern.find fn=some Extern.AbiNoEscape.same
  | .iV es=>∀e∈es,e.Ok P ty g
  | .zY bM v=>∀H n,(∀k o,bM.get k=some o->H.get k=some o)->j8 P ty (.call (.f g [] []) []) H n ⟨.normal,.e,v,H,n⟩
def j8.weaken{P:Program}{ty:Ty}{f:V}{l:List V}{H H2:Hp}{n:K}{v:V}{H' H3:Hp}{n':K}(h:j8 P ty (.call f l) H n ⟨.normal,.e,v,H',n'⟩)(hs:∀k o,H.get k=some o->H2.get k=some o)(a:∀k o,H3.get k=some o->H'.get k=some o):
 j8 P ty (.call f l) H2 n ⟨.normal,.e,v,H3,n'⟩:=by
 intro η w cf cs d args i j p r;refine⟨λ_=>?_,λu h=>by cases h⟩;obtain⟨η',v',w',t,hv,s⟩:=(h η w cf cs d args i j p (r.less hs)).1 rfl;refine⟨η',v',w',⟨t.ext,t.le,t.rep.less a,?_,λm b hb=>?_,t.bu⟩,hv,s⟩
 ·refine⟨t.kept.os,t.kept.tape,t.kept.output,t.kept.size,λb hb x=>t.kept.block b hb λ⟨q,o,L,h1,h2⟩=>x ⟨q,o,L,hs q o h1,h2⟩,t.kept.loops⟩
 ·obtain⟨q,o,L,h1,h2⟩:=hb;rcases t.jN m b ⟨q,o,L,a q o h1,h2⟩ with ⟨c,o',L',g1,y⟩ | g
  ·exact .inl ⟨c,o',L',hs c o' g1,y⟩
  ·exact .inr g
def aeM(c:UInt8):∀(l n i:Nat),GN (xX c.toNat l n i)=(if Lib.indexByte (bz l n) c == -1 then .i .i64 (-1) else .i .i64 (Lib.indexByte (bz l n) c+i)):=by
 intro l
 induction l with
 | zero=>intro n i;rfl
 | succ l ih=>
  intro n i;simp only[xX,bz,Lib.indexByte,gy];have hb:(Nat.beq (Nat.mod n 256) c.toNat=true)↔((UInt8.ofNat (n % 256)==c)=true):=by
   rw[Nat.beq_eq,beq_iff_eq];constructor
   ·intro h;apply UInt8.toNat.inj;show(n % 256) % 256=_;have h:n % 256=c.toNat:=h;rw[h];have:=c.toNat_lt;omega
   ·intro h;have:=congrArg UInt8.toNat h;have h2:(UInt8.ofNat (n % 256)).toNat=(n % 256) % 256:=rfl;rw[h2]at this;show n % 256=_;omega
  by_cases h:(UInt8.ofNat (n % 256)==c)=true
  ·rw[ao (hb.2 h),ao h];simp[GN]
  ·rw[Θ (λe=>h (hb.1 e)),Θ h,ih];have a:=Lib.indexByte_ge (bz l (n / 256)) c;show(if Lib.indexByte (bz l (n / 256)) c == -1 then V.i .i64 (-1) else V.i .i64 (Lib.indexByte (bz l (n / 256)) c+((i+1:Nat):Int)))=_
   by_cases h1:(Lib.indexByte (bz l (n / 256)) c == -1)=true
   ·rw[ao h1,ao h1];rfl
   ·rw[Θ h1,Θ h1];have b:Lib.indexByte (bz l (n / 256)) c ≠ -1:=by simpa using h1
    have h2:¬ ((Lib.indexByte (bz l (n / 256)) c+1 == -1)=true):=by rw[beq_iff_eq];omega
    rw[Θ h2];congr 1;omega
def Rf{P:Program}{ty:Ty}{C:Nat->Option aI}(S:Bl P ty C):IL P ty C:=by
 intro g p hp a c l H n v H' n' h;have F:=S g p hp;intro η w cf cs fv args T U Q J;refine⟨λ_=>?_,λu h=>by cases h⟩;cases T with
 | f _ _ _ a' c' V W=>
 have j:aN η (a++(l++c)) (a'++(args++c')):=V.append (U.append W);generalize a++(l++c)=vs at j h;have G:(⟨a'⟩:Array Value)++args.toArray++(⟨c'⟩:Array Value)=(a'++(args++c')).toArray:=by apply iY;simp
 generalize a'++(args++c')=xs at j G;have L:(do let d←Deferred.ofValue (.func (.func g) ⟨a'⟩ ⟨c'⟩) args.toArray;invoke d.target d.args:Sem Next)=callFunc g ((⟨a'⟩:Array Value)++args.toArray++(⟨c'⟩:Array Value)):=rfl;have fin:∀(e:Array Value->Sem Value) (fn:Func),P.funcs[g]?=some fn->(fn.name == "runtime.NumGoroutine")=false->fn.body.isNone=true->Extern.findNext fn=none->Extern.find fn=some e->∀y,(e xs.toArray).run P w=.ok y w->aq η v y->H'=H->n'=n->∃η' v' w',Trans (WW ty) η H n w η' H' n' w'/\aq η' v v'/\yj P (do let d←Deferred.ofValue (.func (.func g) ⟨a'⟩ ⟨c'⟩) args.toArray;invoke d.target d.args) cf cs w v' w':=by rintro e fn m q x A B y X hv rfl rfl;refine⟨η,y,w,.refl J,hv,.value y,w,?_,rfl,rfl⟩;rw[L,G,run_callFunc_extern m q x A B,X];rfl
 cases p with
 | iV es=>
  obtain⟨e,he,hf,Y⟩:=Qx h;injection Y with h1 h2;injection h2 with h2 M;subst h1;subst h2;subst M;simp only[TE.fits,aK]at hf;obtain⟨⟨⟨f1,f2⟩,f3⟩,f4⟩:=hf;have f1:=K.beq_eq f1;have f2:=uD f2;subst f2;have hj:j8 P ty (.call (.f g [] []) e.args) e.bM e.n ⟨.normal,.e,e.v,e.add,e.n'⟩:=F e he;rw[f1]at hj;have Z:=hj.weaken (H2:=H) (H3:=e.add) (λk o N=>wC (λ_ _=>Eu) f4 k o N) (λ_ _ h=>h);obtain⟨η',v',w',t,hv,D⟩:=(Z η w cf cs (.func (.func g) ⟨[]⟩ ⟨[]⟩) xs (.f _ _ _ _ _ .nil .nil) j Q J).1 rfl;refine⟨η',v',w',t,hv,?_⟩;have E:(do let d←Deferred.ofValue (.func (.func g) ⟨[]⟩ ⟨[]⟩) xs.toArray;invoke d.target d.args:Sem Next)=callFunc g ((⟨[]⟩:Array Value)++xs.toArray++(⟨[]⟩:Array Value)):=rfl;have O:((⟨[]⟩:Array Value)++xs.toArray++(⟨[]⟩:Array Value))=xs.toArray:=by apply iY;simp
  rw[E,O]at D;rw[L,G];exact D
 | zY bM u=>
  simp only[pm]at h;split at h
  case h_2=>cases h
  cases ht:eP sb bM H with
  | false=>rw[ht]at h;cases h
  | true=>
  rw[ht]at h;obtain⟨rfl,rfl,rfl⟩:=dB h;obtain⟨η',v',w',t,hv,D⟩:=(F _ _ (λk o N=>wC (λ_ _=>Eu) ht k o N) η w cf cs (.func (.func g) ⟨[]⟩ ⟨[]⟩) xs (.f _ _ _ _ _ .nil .nil) j Q J).1 rfl;refine⟨η',v',w',t,hv,?_⟩;have E:(do let d←Deferred.ofValue (.func (.func g) ⟨[]⟩ ⟨[]⟩) xs.toArray;invoke d.target d.args:Sem Next)=callFunc g ((⟨[]⟩:Array Value)++xs.toArray++(⟨[]⟩:Array Value)):=rfl;have O:((⟨[]⟩:Array Value)++xs.toArray++(⟨[]⟩:Array Value))=xs.toArray:=by apply iY;simp
  rw[E,O]at D;rw[L,G];exact D
 | rZ=>
  obtain⟨fn,m,q,x,A,B⟩:=F;simp only[pm,Ae]at h;split at h
  case h_2=>cases h
  rename_i sl sm b;cases I:Nat.blt b 256 with
  | false=>rw[I]at h;cases h
  | true=>
  rw[I]at h;simp only[cond_true]at h;have rG:b<256:=by rw[eM]at I;simpa using I
  obtain⟨rfl,rfl,rfl⟩:=dB h;cases j with
  | cons _ y _ r h1 h2=>
  cases h2 with
  | cons _ z _ r h2 M=>
  cases M;cases h1 with
  | s _ _ τ=>
  cases h2;have R:=aeM (UInt8.ofNat b) sl sm 0;have dY:(UInt8.ofNat b).toNat=b:=by simp;omega
  rw[dY]at R;have nN:=Lib.run_indexByteString (P:=P) (strOf sl sm) (Int.ofNat b) w;refine fin _ fn m q x A B _ nN ?_ rfl rfl;rw[R];have e1:(strOf sl sm).data.toList=bz sl sm:=by simp[strOf]
  have E:(Int.ofNat b).toNat.toUInt8=UInt8.ofNat b:=rfl;rw[e1,E];split
  ·rename_i h;rw[beq_iff_eq]at h;rw[h];exact .i _ _
  ·simp only[Int.natCast_zero,Int.add_zero];exact .i _ _
 | same=>
  obtain⟨fn,m,q,x,A,B⟩:=F;simp only[pm,GO]at h;split at h
  case h_2=>cases h
  obtain⟨rfl,rfl,rfl⟩:=dB h;cases j with
  | cons _ y _ r h1 h2=>
  cases h2;exact fin _ fn m q x A B y rfl h1 rfl rfl
def TE.check(C:Nat->Option aI)(fuel:Nat)(g:Nat)(e:TE)(r:Option R):Bool:=
 match r with
 | some ⟨.normal,_,v,H',n'⟩=>cI v e.v&&K.beq n' e.n'&&eP sb e.add H'
 | _=>false
def TE.ok{P:Program}{ty:Ty}{C:Nat->Option aI}(a:Good P ty C)(b:Bl P ty C){fuel g:Nat}{e:TE}(h:e.check C fuel g (ev C fuel (.call (.f g [] []) e.args) e.bM e.n)=true):e.Ok P ty g:=by
 unfold TE.check at h;split at h
 case h_2=>cases h
 rename_i T v H' n' c;simp only[aK]at h;have h1:=sM h.1.1;have h2:=K.beq_eq h.1.2;subst h1;subst h2;have hj:=(Re a (Rf b) fuel).1 _ _ _ _ c;refine j8.weaken (H:=e.bM) (H':=H') (λη w cf cs d args i j l m=>⟨λ_=>?_,λu h=>by cases h⟩) (λ_ _ h=>h) (λk o p=>wC (λ_ _=>Eu) h.2 k o p);exact(hj η w cf cs d args i j l m).1 rfl
def rH(P:Program)(t:Nat):TD:=
 match P.underlying t with
 | some .bool=>.bool
 | some (.int k)=>.int k
 | some .string=>.str
 | some (.pointer e)=>.ptr e
 | some (.slice e)=>.slice e
 | some (.array n e)=>.arr n e
 | some (.map k e)=>.map k e
 | some (.struct fs)=>.iI (fs.toList.map λf=>(f.type,f.offset)) (fs.toList.all (λf=>f.name != "_")&&(!(P.stoodInHeld t)&&!(P.eqGuardType P.depth t)))
 | some (.func _ _ _)=>.func
 | some (.interface _)=>.iface
 | some .unsafePointer=>.xZ
 | _=>.other
def Rg(P:Program)(t:Nat)(i:TI)(z:Value):Bool:=
 Nat.beq i.zero.length i.size&&(aD i.zero&&((match z with | .agg _=>i.desc.agg | .tuple _=>false | _=>!i.desc.agg)&&
  (match i.desc with | .iI fs _=>fs.all (λf=>(P.info? f.1).isSome) | .other=>(P.underlying t).isSome | _=>true)))
def IP(P:Program)(t:Nat):Option TI:=
 match P.info? t with
 | some i=>match i.zero with
  | some z=>match uh z.cells.toList with
   | some zs=>bif Rg P t { desc:=rH P t,size:=i.size,bytes:=i.bytes,zero:=zs} z then some { desc:=rH P t,size:=i.size,bytes:=i.bytes,zero:=zs} else none
   | none=>none
  | none=>none
 | none=>none
def laid(l:List (Nat×aI)):Tr aI:=
 match l with
 | []=>.e
 | p::l=>(laid l).put (some p.2) (bL p.1)
def aeN{P:Program}{t:Nat}(h:∀fs pl,rH P t=.iI fs pl->fs.all (λf=>(P.info? f.1).isSome)=true):GV P t (rH P t):=by
 unfold rH at h ⊢;cases hu:P.underlying t with
 | none=>trivial
 | some d=>
  rw[hu]at h;cases d<;>try (exact hu)
  case struct l=>
   simp only at h ⊢;refine⟨l,hu,rfl,λf hf=>?_,λhp=>?_⟩
   ·have:=h _ _ rfl;rw[mE]at this;have:=this (f.type,f.offset) (List.mem_map.2 ⟨f,hf,rfl⟩);exact zW.1 this
   ·simp only[aK,ov,mE,bne_iff_ne]at hp;exact⟨λf hf=>hp.1 f (by simpa using hf),hp.2.1,hp.2.2⟩
  case func a b c=>exact⟨a,b,c,hu⟩
  case interface ms=>exact⟨ms,hu⟩
  all_goals trivial
def aeO{P:Program}{t:Nat}{i:TI}(h:IP P t=some i):sg P t i:=by
 unfold IP at h;split at h
 case h_2=>cases h
 rename_i ti l;split at h
 case h_2=>cases h
 rename_i z m;split at h
 case h_2=>cases h
 rename_i zs o;simp only[gy]at h;split at h
 case isFalse=>cases h
 rename_i k;injection h with h;subst h;simp only[Rg,aK]at k;obtain⟨h1,h2,b,c⟩:=k;refine⟨aeN λfs pl he=>?_,⟨ti,z,l,rfl,rfl,m,o,λf=>?_,λf=>?_,bX h1,h2⟩,λa=>?_⟩
 ·rw[he]at c;exact c
 ·have g:(rH P t).agg=true:=f;cases z<;>simp only[g,Bool.not_true]at b<;>first | exact⟨_,rfl⟩ | cases b
 ·have g:(rH P t).agg=false:=f;cases z<;>simp only[g]at b<;>first | rfl | cases b
 ·have a:rH P t=.other:=a;rw[a]at c;obtain⟨d,j⟩:=zW.1 c;refine⟨d,j,λfs e=>?_,λn p e=>?_⟩
  ·subst e;unfold rH at a;rw[j]at a;cases a
  ·subst e;unfold rH at a;rw[j]at a;cases a
def Each(Q:Nat->aI->Prop):List (Nat×aI)->Prop
 | []=>True
 | p::l=>Q p.1 p.2/\Each Q l
def IU{Q:Nat->aI->Prop}:∀{l:List (Nat×aI)},Each Q l->∀{g:Nat} {a:aI},(laid l).get (bL g)=some a->Q g a:=by
 intro l
 induction l with
 | nil=>intro _ g a h;simp only[laid,Tr.gf]at h;cases h
 | cons p l ih=>
  intro b g a h;simp only[laid,Tr.eL]at h;split at h
  ·rename_i e;have:=DB e;subst this;injection h with h;subst h;exact b.1
  ·exact ih b.2 h
def fi(P:Program)(ty:Ty)(g:Nat)(a:aI):Prop:=
 match a with
 | .go af=>∃fn,P.funcs[g]?=some fn/\(fn.name == "runtime.NumGoroutine")=false/\rh ty fn=some af
 | .vQ af=>∃fn cf,P.funcs[g]?=some fn/\(fn.name == "runtime.NumGoroutine")=false/\uq ty fn (λi=>P.funcs[i]?)=some af/\P.funcs[af.g]?=some cf/\(cf.name == "runtime.NumGoroutine")=false
 | .pm p=>match p with
  | .rZ=>∃fn,P.funcs[g]?=some fn/\(fn.name == "runtime.NumGoroutine")=false/\fn.body.isNone=true/\Extern.findNext fn=none/\Extern.find fn=some Extern.BytealgIndexByte.indexByte
  | .same=>∃fn,P.funcs[g]?=some fn/\(fn.name == "runtime.NumGoroutine")=false/\fn.body.isNone=true/\Extern.findNext fn=none/\Extern.find fn=some Extern.AbiNoEscape.same
  | .iV es=>∀e∈es,e.Ok P ty g
  | .zY bM v=>∀H n,(∀k o,bM.get k=some o->H.get k=some o)->j8 P ty (.call (.f g [] []) []) H n ⟨.normal,.e,v,H,n⟩
def IV{P:Program}{ty:Ty}{l:List (Nat×aI)}(aE:cU P ty)(hm:P.follows .mixedOrders=true)(hl:Each (fi P ty) l):Good P ty (λg=>(laid l).get (bL g)):=
 ⟨aE,λg af h=>IU hl h,hm,λg af h=>IU hl h⟩
def IW{P:Program}{ty:Ty}{l:List (Nat×aI)}(hl:Each (fi P ty) l):Bl P ty (λg=>(laid l).get (bL g)):=by intro g p h;have:=IU hl h;cases p<;>exact this
section
section
variable {P:Program}{ty:Ty}
def okB(P:Program)(ty:Ty)(g:Nat):Bool:=match P.funcs[g]? with
 | some fn=>!(fn.name == "runtime.NumGoroutine")&&(rh ty fn).isSome
 | none=>false
def sP(P:Program)(ty:Ty)(g:Nat):aI:=.go (match P.funcs[g]? with
 | some fn=>(rh ty fn).getD ⟨[],[],.bad⟩
 | none=>⟨[],[],.bad⟩)
def Ez{g:Nat}(h:okB P ty g=true):fi P ty g (sP P ty g):=by
 unfold okB at h;unfold sP;cases hf:P.funcs[g]? with
 | none=>rw[hf]at h;cases h
 | some fn=>
  rw[hf]at h;simp only[aK,ov]at h;obtain⟨a,b⟩:=zW.1 h.2;exact⟨fn,hf,h.1,by simp only[b];rfl⟩
def EA:∀{l:List Nat},l.all (okB P ty)=true->Each (fi P ty) (l.map λg=>(g,sP P ty g))
 | [],_=>trivial
 | g::l,h=>by rw[List.all_cons,aK]at h;exact⟨Ez h.1,EA h.2⟩
def uF(P:Program)(ty:Ty)(g:Nat):Option AF:=match P.funcs[g]? with
 | some fn=>bif fn.name == "runtime.NumGoroutine" then none else rh ty fn
 | none=>none
def IX{g:Nat}{a:AF}(h:uF P ty g=some a):fi P ty g (.go a):=by
 unfold uF at h;cases hf:P.funcs[g]? with
 | none=>rw[hf]at h;cases h
 | some fn=>
  rw[hf]at h;simp only at h;cases b:fn.name == "runtime.NumGoroutine" with
  | true=>rw[b]at h;cases h
  | false=>rw[b]at h;exact⟨fn,hf,b,h⟩
def EB:∀{gs:List Nat} {xs:List AF},gs.map (uF P ty)=xs.map some->Each (fi P ty) (List.zipWith (λg a=>(g,aI.go a)) gs xs)
 | [],_,_=>trivial
 | _::_,[],_=>trivial
 | g::gs,a::xs,h=>by rw[gB,gB]at h;injection h with h1 h2;exact⟨IX h1,EB h2⟩
end
end
def yw(n:K):Hp->Bool
 | .e=>true
 | .n v l r=>(match v with | none=>true | some (.r l)=>fC n l | some _=>false)&&(yw n l&&yw n r)
def EC{n:K}:∀{H:Hp},yw n H=true->∀{k:K} {o:O},H.get k=some o->∃l,o=.r l/\fC n l=true:=by
 intro H
 induction H with
 | e=>intro _ k o h;rw[Tr.gf]at h;cases h
 | n v l r a b=>
  intro hp k o h;simp only[yw,aK]at hp;cases k with
  | h=>
   simp only[Tr.get]at h;subst h;have:=hp.1;cases o with
   | r l=>exact⟨l,rfl,this⟩
   | _=>cases this
  | o k=>exact a hp.2.1 h
  | i k=>exact b hp.2.2 h
def aeP{P:Program}{ty:Ty}{g:Nat}{bM:Hp}{n0:K}{v:V}{H':Hp}{n':K}(hp:yw n0 bM=true)(j:∀k o,bM.get k=some o->k.num<n0.num)(J:ty.g<n0.num)(hv:∀η η' x,aq η v x->aq η' v x)
 (h:j8 P ty (.call (.f g [] []) []) bM n0 ⟨.normal,.e,v,H',n'⟩)(H:Hp)(n:K)(hs:∀k o,bM.get k=some o->H.get k=some o):j8 P ty (.call (.f g [] []) []) H n ⟨.normal,.e,v,H,n⟩:=by
 intro η w cf cs M args p r s c;refine⟨λ_=>?_,λu h=>by cases h⟩;cases p with
 | f _ _ _ a' c' z A=>
 have B:aq (bT η n0) (.f g [] []) (.func (.func g) ⟨a'⟩ ⟨c'⟩):=by cases z;cases A;exact .f _ _ _ _ _ .nil .nil
 have C:aN (bT η n0) [] args:=by cases r;exact .nil
 have D:bD (bT η n0) ty.g:=λq E=>let⟨L,h1,h2⟩:=s q E;⟨L,oG h1 (by rw[vV];omega),h2⟩;have F:aV (WW ty) (bT η n0) bM n0 w:=by
  refine⟨λk o a=>?_,λk k' o o' L L' N a hm _ _ _=>?_,QQ η n0⟩
  ·obtain⟨L,h1,h2,d⟩:=c.obj k o (hs k o a);obtain⟨l,rfl,hl⟩:=EC hp a;exact⟨L,oG h1 (j k _ a),h2,d.bT hl⟩
  ·obtain⟨l,rfl,_⟩:=EC hp a;cases hm
 obtain⟨η1,y,i,t,G,I⟩:=(h (bT η n0) w cf cs _ args B C D F).1 rfl;have same:∀b,b<w.heap.size->i.heap[b]?=w.heap[b]?:=λb hb=>t.kept.block b hb λ⟨q,o,L,h1,h2,_,_⟩=>by obtain⟨l,rfl,_⟩:=EC hp h1;cases h2 rfl
 refine⟨η,y,i,⟨.refl _,φ _,⟨λk o a=>?_,c.sep,c.free⟩,⟨t.kept.os,t.kept.tape,t.kept.output,t.kept.size,λb hb _=>same b hb,t.kept.loops⟩,λm b hb=>.inl hb,λ_ _=>rfl⟩,hv _ _ _ G,I⟩;obtain⟨L,h1,h2,d⟩:=c.obj k o a;exact⟨L,h1,ep h2 t.kept.size,by rw[same _ h2];exact d⟩
end Go.Ev
namespace Go.Ev.F
open Go Go.Ev
noncomputable section
def get{α:Type}(k:K):Tr α->Option α:=
 K.rec (motive:=λ_=>Tr α->Option α) (λt=>Tr.casesOn t none (λv _ _=>v)) (λ_ ih t=>Tr.casesOn t none (λ_ l _=>ih l)) (λ_ ih t=>Tr.casesOn t none (λ_ _ r=>ih r)) k
def get_eq{α:Type}(k:K)(t:Tr α):get k t=t.get k:=by
 induction k generalizing t with
 | h=>cases t<;>rfl
 | o p ih=>cases t with
  | e=>rfl
  | n v l r=>exact ih l
 | i p ih=>cases t with
  | e=>rfl
  | n v l r=>exact ih r
def put{α:Type}(v:Option α)(k:K):Tr α->Tr α:=
 K.rec (motive:=λ_=>Tr α->Tr α) (λt=>Tr.casesOn t (.n v .e .e) (λ_ l r=>.n v l r)) (λ_ ih t=>Tr.casesOn t (.n none (ih .e) .e) (λw l r=>.n w (ih l) r))
  (λ_ ih t=>Tr.casesOn t (.n none .e (ih .e)) (λw l r=>.n w l (ih r))) k
def put_eq{α:Type}(v:Option α)(k:K)(t:Tr α):put v k t=t.put v k:=by
 induction k generalizing t with
 | h=>cases t<;>rfl
 | o p ih=>cases t with
  | e=>show Tr.n none (put v p .e) .e=_;rw[ih];cases p<;>rfl
  | n w l r=>show Tr.n w (put v p l) r=_;rw[ih];rfl
 | i p ih=>cases t with
  | e=>show Tr.n none .e (put v p .e)=_;rw[ih];cases p<;>rfl
  | n w l r=>show Tr.n w l (put v p r)=_;rw[ih];rfl
def az(x:au):Tr V->Option V:=au.casesOn x (λk=>get k) (λv _=>some v)
def gI(x:au)(T:Tr V):az x T=Ev.az T x:=by
 cases x with
 | t k=>exact get_eq k T
 | c v=>rfl
def aO{α β:Type}(x:Option α)(f:α->Option β):Option β:=Option.casesOn x none f
def eE(l:List au):Tr V->Option (List V):=
 List.rec (motive:=λ_=>Tr V->Option (List V)) (λ_=>some []) (λx _ ih T=>aO (az x T) λv=>aO (ih T) λvs=>some (v::vs)) l
def IY(l:List au)(T:Tr V):eE l T=Ev.eE T l:=by
 induction l with
 | nil=>rfl
 | cons x l ih=>
  show aO (az x T) (λv=>aO (eE l T) λvs=>some (v::vs))=_;rw[gI,ih];simp only[Ev.eE];cases Ev.az T x<;>cases Ev.eE T l<;>rfl
def nth{α:Type}(l:List α):Nat->Option α:=
 List.rec (motive:=λ_=>Nat->Option α) (λ_=>none) (λa _ ih n=>Nat.casesOn n (some a) ih) l
def nK{α:Type}(l:List α)(n:Nat):nth l n=Ev.nth l n:=by
 induction l generalizing n with
 | nil=>rfl
 | cons a l ih=>cases n with
  | zero=>rfl
  | succ n=>exact ih n
def takeN{α:Type}(n:Nat):List α->Option (List α):=
 Nat.rec (motive:=λ_=>List α->Option (List α)) (λ_=>some []) (λ_ ih l=>List.casesOn l none (λa l=>aO (ih l) λl'=>some (a::l'))) n
def DE{α:Type}(n:Nat)(l:List α):takeN n l=Ev.takeN n l:=by
 induction n generalizing l with
 | zero=>rfl
 | succ n ih=>cases l with
  | nil=>rfl
  | cons a l=>
   show aO (takeN n l) (λl'=>some (a::l'))=_;rw[ih];simp only[Ev.takeN];cases Ev.takeN n l<;>rfl
def lM{α:Type}(n:Nat):List α->Option (List α):=
 Nat.rec (motive:=λ_=>List α->Option (List α)) (λl=>some l) (λ_ ih l=>List.casesOn l none (λ_ l=>ih l)) n
def GP{α:Type}(n:Nat)(l:List α):lM n l=Ev.lM n l:=by
 induction n generalizing l with
 | zero=>cases l<;>rfl
 | succ n ih=>cases l with
  | nil=>rfl
  | cons a l=>exact ih l
def ch{α:Type}(l:List α)(o n:Nat):Option (List α):=aO (lM o l) λl'=>takeN n l'
def mJ{α:Type}(l:List α)(o n:Nat):ch l o n=Ev.ch l o n:=by
 unfold ch Ev.ch;rw[GP];cases Ev.lM o l with
 | none=>rfl
 | some l'=>exact DE n l'
def over{α:Type}(vs:List α):List α->Option (List α):=
 List.rec (motive:=λ_=>List α->Option (List α)) (λl=>some l) (λv _ ih l=>List.casesOn l none (λ_ l=>aO (ih l) λl'=>some (v::l'))) vs
def aeS{α:Type}(vs l:List α):over vs l=Ev.over vs l:=by
 induction vs generalizing l with
 | nil=>cases l<;>rfl
 | cons v vs ih=>cases l with
  | nil=>rfl
  | cons a l=>
   show aO (over vs l) (λl'=>some (v::l'))=_;rw[ih];simp only[Ev.over];cases Ev.over vs l<;>rfl
def cL{α:Type}(vs:List α)(o:Nat):List α->Option (List α):=
 Nat.rec (motive:=λ_=>List α->Option (List α)) (over vs) (λ_ ih l=>List.casesOn l none (λa l=>aO (ih l) λl'=>some (a::l'))) o
def aeT{α:Type}(vs:List α)(o:Nat)(l:List α):cL vs o l=Ev.cL vs l o:=by
 induction o generalizing l with
 | zero=>exact(aeS vs l).trans (by cases l<;>rfl)
 | succ o ih=>cases l with
  | nil=>rfl
  | cons a l=>
   show aO (cL vs o l) (λl'=>some (a::l'))=_;rw[ih];simp only[Ev.cL];cases Ev.cL vs l o<;>rfl
def aD(l:List V):Bool:=List.rec (motive:=λ_=>Bool) true (λv _ ih=>cond (V.one v) ih false) l
def aeU(l:List V):aD l=Ev.aD l:=by
 induction l with
 | nil=>rfl
 | cons v l ih=>
  show cond (V.one v) (aD l) false=(V.one v&&Ev.aD l);rw[ih];cases V.one v<;>rfl
def row(o:O):Option (List V):=O.casesOn o (λl _ _=>some l) (λl=>some l) (λx y _=>some [x,y]) (λ_ _=>none) (λ_ _=>none) (λ_ _ _=>none) (λ_ _ _=>none) (λ_ _ _ _ _ _=>none)
def aeV(o:O):row o=o.row:=by cases o<;>rfl
def IZ(v:V):Option (K×Nat):=V.casesOn (motive_1:=λ_=>Option (K×Nat)) v (λ_=>none) (λ_ _=>none) (λ_ _=>none) none (λb o=>some (b,o)) none (λ_ _ _ _=>none) (λ_ _ _ _=>none) none (λ_=>none) none (λ_ _ _=>none) (λ_=>none) none (λ_ _=>none) (λ_=>none) (λ_=>none) none
def I3(agg:Bool)(sz:Nat)(H:Hp)(q:K×Nat):Option V:=
 aO (get q.1 H) λo=>aO (row o) λl=>cond agg (aO (ch l q.2 sz) λl'=>some (.a l')) (nth l q.2)
def rO(agg:Bool)(sz:Nat)(H:Hp)(v:V):Option V:=aO (IZ v) (I3 agg sz H)
def aeW(agg:Bool)(sz:Nat)(H:Hp)(v:V):rO agg sz H v=Ev.rO H agg sz v:=by
 cases v<;>try rfl
 rename_i b o;show I3 agg sz H (b,o)=_;unfold I3;simp only[Ev.rO,rowAt,get_eq];cases H.get b with
 | none=>rfl
 | some ob=>
  show aO (row ob) (λl=>cond agg (aO (ch l o sz) λl'=>some (.a l')) (nth l o))=(match ob.row with
   | some l=>bif agg then (match Ev.ch l o sz with | some l'=>some (.a l') | none=>none) else Ev.nth l o
   | none=>none)
  rw[aeV];cases ob.row with
  | none=>rfl
  | some l=>
   show cond agg (aO (ch l o sz) λl'=>some (.a l')) (nth l o)=cond agg (match Ev.ch l o sz with | some l'=>some (.a l') | none=>none) (Ev.nth l o)
   rw[mJ,nK];cases agg with
   | false=>rfl
   | true=>simp only[cond_true];cases Ev.ch l o sz<;>rfl
def V6(H:Hp)(b:K)(o:Nat)(vs:List V)(l:List V)(e fz:Nat):Option Hp:=
 cond (Nat.ble fz o) (cond (aD vs) (aO (cL vs o l) λl'=>some (put (some (.c l' e fz)) b H)) none) none
def fB(H:Hp)(b:K)(o:Nat)(vs:List V):Option Hp:=
 aO (get b H) λob=>O.casesOn ob (λl e fz=>V6 H b o vs l e fz) (λ_=>none) (λ_ _ _=>Ev.fB H b o vs) (λ_ _=>none) (λ_ _=>none) (λ_ _ _=>none) (λ_ _ _=>none) (λ_ _ _ _ _ _=>none)
def aeX(H:Hp)(b:K)(o:Nat)(vs:List V):fB H b o vs=Ev.fB H b o vs:=by
 unfold fB;rw[get_eq];cases hb:H.get b with
 | none=>simp only[aO,Ev.fB,hb]
 | some ob=>
  cases ob with
  | c l e fz=>
   show V6 H b o vs l e fz=_;unfold V6;simp only[Ev.fB,hb,aeU,aeT];cases Nat.ble fz o with
   | false=>rfl
   | true=>
    cases Ev.aD vs with
    | false=>rfl
    | true=>
     simp only[cond_true,hK];cases Ev.cL vs l o with
     | none=>rfl
     | some l'=>show some (put _ b H)=_;rw[put_eq]
  | b x y e=>rfl
  | _=>simp only[aO,Ev.fB,hb]
def I4(sz:Nat)(x:V)(H:Hp)(q:K×Nat):Option Hp:=cond (Nat.beq x.cells.length sz) (fB H q.1 q.2 x.cells) none
def yZ(sz:Nat)(a x:V)(H:Hp):Option Hp:=aO (IZ a) (I4 sz x H)
def aeY(sz:Nat)(a x:V)(H:Hp):yZ sz a x H=Ev.yZ H sz a x:=by
 cases a<;>try rfl
 rename_i b o;show I4 sz x H (b,o)=_;unfold I4;rw[aeX];rfl
def mk(o:O)(v:K->V)(H:Hp)(n:K):fo:=some (v n,put (some o) n H,n.succ)
def mk_eq(o:O)(v:K->V)(H:Hp)(n:K):mk o v H n=js H n o (v n):=by unfold mk js;rw[put_eq]
def cW(H:Hp)(n:K)(x:Option V):fo:=Option.casesOn x none (λv=>some (v,H,n))
def jO(H:Hp)(n:K)(x:Option V):cW H n x=Ev.cW H n x:=by cases x<;>rfl
def oy(n:K)(x:Option Hp):fo:=Option.casesOn x none (λH=>some (.u [],H,n))
def aeZ(n:K)(x:Option Hp):oy n x=Ev.oy n x:=by cases x<;>rfl
def sMv(x:au)(T:Tr V)(H:Hp)(n:K):fo:=cW H n (az x T)
def ae0(c a b:au)(T:Tr V)(H:Hp)(n:K):fo:=aO (az c T) λv=>V.casesOn (motive_1:=λ_=>fo) v (λx=>cW H n (cond x (az a T) (az b T))) (λ_ _=>none) (λ_ _=>none) none (λ_ _=>none) none (λ_ _ _ _=>none) (λ_ _ _ _=>none) none (λ_=>none) none (λ_ _ _=>none) (λ_=>none) none (λ_ _=>none) (λ_=>none) (λ_=>none) none
def ae1(e:Nat)(zs:List V)(T:Tr V)(H:Hp)(n:K):fo:=mk (.c zs e 0) (λn=>.p n 0) H n
def sLd(agg:Bool)(sz:Nat)(a:au)(T:Tr V)(H:Hp)(n:K):fo:=aO (az a T) λv=>cW H n (rO agg sz H v)
def sSt(sz:Nat)(a x:au)(T:Tr V)(H:Hp)(n:K):fo:=aO (az a T) λa=>aO (az x T) λx=>oy n (yZ sz a x H)
def nck(v:V):Option V:=V.casesOn (motive_1:=λ_=>Option V) v (λ_=>none) (λ_ _=>none) (λ_ _=>none) none (λb o=>some (.p b o)) none (λ_ _ _ _=>none) (λ_ _ _ _=>none) none (λ_=>none) none (λg a c=>some (.f g a c)) (λl=>some (.y l)) none (λ_ _=>none) (λ_=>none) (λ_=>none) none
def ae2(x:au)(T:Tr V)(H:Hp)(n:K):fo:=aO (az x T) λv=>cW H n (nck v)
def yx(f:Int->Int->Bool)(_:IntKind)(x y:Int):Option V:=some (.b (f x y))
def I5(f:Int->Int->Int)(k:IntKind)(x y:Int):Option V:=some (.i k (wr k (f x y)))
def Rh(op:BinOp):IntKind->Int->Int->Option V:=
 match op with
 | .add=>I5 Int.add
 | .sub=>I5 Int.sub
 | .mul=>I5 Int.mul
 | .eql=>yx pG
 | .neq=>yx (λx y=>!(pG x y))
 | .lss=>yx tG
 | .leq=>yx zZ
 | .gtr=>yx (λx y=>tG y x)
 | .geq=>yx (λx y=>zZ y x)
 | op=>Ev.mG op
def ae3(op:BinOp)(k:IntKind)(x y:Int):Rh op k x y=Ev.mG op k x y:=by cases op<;>rfl
def ae4(op:BinOp):Bool:=match op with | .shl=>true | .shr=>true | _=>false
def I6(op:BinOp)(k:IntKind)(a:Int)(k':IntKind)(b:Int):Option V:=
 cond (ae4 op) (Ev.GI op k a b) (cond (Nat.beq (kn k) (kn k')) (Rh op k a b) none)
def cV(op:BinOp)(q:dE)(x y:V):Option V:=Ev.j5 op q x y
def bin(op:BinOp)(q:dE)(x y:V):Option V:=
 V.casesOn (motive_1:=λ_=>Option V) x (λ_=>(cV op q x y)) (λk a=>V.casesOn (motive_1:=λ_=>Option V) y (λ_=>(cV op q x y)) (λk' b=>I6 op k a k' b) (λ_ _=>(cV op q x y)) (cV op q x y) (λ_ _=>(cV op q x y)) (cV op q x y) (λ_ _ _ _=>(cV op q x y)) (λ_ _ _ _=>(cV op q x y)) (cV op q x y) (λ_=>(cV op q x y)) (cV op q x y) (λ_ _ _=>(cV op q x y)) (λ_=>(cV op q x y)) (cV op q x y) (λ_ _=>(cV op q x y)) (λ_=>(cV op q x y)) (λ_=>(cV op q x y)) (cV op q x y)) (λl n=>V.casesOn (motive_1:=λ_=>Option V) y (λ_=>(cV op q x y)) (λ_ _=>(cV op q x y)) (λl' n'=>Ev.Du op l n l' n') (cV op q x y) (λ_ _=>(cV op q x y)) (cV op q x y) (λ_ _ _ _=>(cV op q x y)) (λ_ _ _ _=>(cV op q x y)) (cV op q x y) (λ_=>(cV op q x y)) (cV op q x y) (λ_ _ _=>(cV op q x y)) (λ_=>(cV op q x y)) (cV op q x y) (λ_ _=>(cV op q x y)) (λ_=>(cV op q x y)) (λ_=>(cV op q x y)) (cV op q x y)) (cV op q x y) (λ_ _=>(cV op q x y)) (cV op q x y) (λ_ _ _ _=>(cV op q x y)) (λ_ _ _ _=>(cV op q x y)) (cV op q x y) (λ_=>(cV op q x y)) (cV op q x y) (λ_ _ _=>(cV op q x y)) (λ_=>(cV op q x y)) (cV op q x y) (λ_ _=>(cV op q x y)) (λ_=>(cV op q x y)) (λ_=>(cV op q x y)) (cV op q x y)
def ae5(op:BinOp)(q:dE)(x y:V):bin op q x y=Ev.j5 op q x y:=by
 cases x<;>try rfl
 ·cases y<;>try rfl
  rename_i k a k' b;show I6 op k a k' b=_;unfold I6;rw[ae3];cases op<;>rfl
 ·cases y<;>try rfl
  cases op<;>rfl
def ae6(op:BinOp)(k:dE)(x y:au)(T:Tr V)(H:Hp)(n:K):fo:=aO (az x T) λx=>aO (az y T) λy=>cW H n (bin op k x y)
def sUn(op:UnOp)(x:au)(T:Tr V)(H:Hp)(n:K):fo:=aO (az x T) λx=>cW H n (Ev.GJ op x)
def ae7(t:Nat)(x:au)(T:Tr V)(H:Hp)(n:K):fo:=aO (az x T) λv=>some (.jM t v,H,n)
def ae8(f:Nat)(a c:List au)(T:Tr V)(H:Hp)(n:K):fo:=aO (eE a T) λa=>aO (eE c T) λc=>some (.f f a c,H,n)
def Ri(off:Nat)(H:Hp)(n:K)(q:K×Nat):fo:=some (.p q.1 (Nat.add q.2 off),H,n)
def ae9(off:Nat)(x:au)(T:Tr V)(H:Hp)(n:K):fo:=aO (az x T) λv=>aO (IZ v) (Ri off H n)
def asA(v:V):Option (List V):=V.casesOn (motive_1:=λ_=>Option (List V)) v (λ_=>none) (λ_ _=>none) (λ_ _=>none) none (λ_ _=>none) none (λ_ _ _ _=>none) (λ_ _ _ _=>none) none (λ_=>none) none (λ_ _ _=>none) (λ_=>none) none (λ_ _=>none) (λl=>some l) (λ_=>none) none
def asU(v:V):Option (List V):=V.casesOn (motive_1:=λ_=>Option (List V)) v (λ_=>none) (λ_ _=>none) (λ_ _=>none) none (λ_ _=>none) none (λ_ _ _ _=>none) (λ_ _ _ _=>none) none (λ_=>none) none (λ_ _ _=>none) (λ_=>none) none (λ_ _=>none) (λ_=>none) (λl=>some l) none
def afc(agg:Bool)(off sz:Nat)(x:au)(T:Tr V)(H:Hp)(n:K):fo:=
 aO (az x T) λv=>aO (asA v) λl=>cond agg (aO (ch l off sz) λl'=>some (.a l',H,n)) (cW H n (nth l off))
def afd(x:au)(i:Nat)(T:Tr V)(H:Hp)(n:K):fo:=aO (az x T) λv=>aO (asU v) λl=>cW H n (nth l i)
def afe(v:V):Option (K×Nat×Nat):=V.casesOn (motive_1:=λ_=>Option (K×Nat×Nat)) v (λ_=>none) (λ_ _=>none) (λ_ _=>none) none (λ_ _=>none) none (λb o l _=>some (b,o,l)) (λb o l _=>some (b,o,l)) none (λ_=>none) none (λ_ _ _=>none) (λ_=>none) none (λ_ _=>none) (λ_=>none) (λ_=>none) none
def Mb(v:V):Option Nat:=V.casesOn (motive_1:=λ_=>Option Nat) v (λ_=>none) (λ_ n=>Int.casesOn n (λn=>some n) (λ_=>none)) (λ_ _=>none) none (λ_ _=>none) none (λ_ _ _ _=>none) (λ_ _ _ _=>none) none (λ_=>none) none (λ_ _ _=>none) (λ_=>none) none (λ_ _=>none) (λ_=>none) (λ_=>none) none
def aff(z i:Nat)(H:Hp)(n:K)(q:K×Nat×Nat):fo:=cond (Nat.blt i q.2.2) (some (.p q.1 (Nat.add q.2.1 (Nat.mul i z)),H,n)) none
def afg(m z i:Nat)(H:Hp)(n:K)(q:K×Nat):fo:=cond (Nat.blt i m) (some (.p q.1 (Nat.add q.2 (Nat.mul i z)),H,n)) none
def I7(arr:Option Nat)(z i:Nat)(v:V)(H:Hp)(n:K):fo:=
 Option.casesOn arr (aO (afe v) (aff z i H n)) (λm=>aO (IZ v) (afg m z i H n))
def afh(arr:Option Nat)(z:Nat)(x i:au)(T:Tr V)(H:Hp)(n:K):fo:=aO (az x T) λv=>aO (az i T) λi=>aO (Mb i) λi=>I7 arr z i v H n
def I8(i:Nat)(v:V):Option V:=V.casesOn (motive_1:=λ_=>Option V) v (λ_=>none) (λ_ _=>none) (λl m=>cond (Nat.blt i l) (some (.i .u8 (Int.ofNat (FK m i)))) none) none (λ_ _=>none) none (λ_ _ _ _=>none) (λ_ _ _ _=>none) none (λ_=>none) none (λ_ _ _=>none) (λ_=>none) none (λ_ _=>none) (λ_=>none) (λ_=>none) none
def afi(arr:Option (Nat×Nat×Bool))(x i:au)(T:Tr V)(H:Hp)(n:K):fo:=
 Option.casesOn arr (aO (az x T) λv=>aO (az i T) λi=>aO (Mb i) λi=>cW H n (I8 i v)) (λ_=>Ev.simple (.idx arr x i) T H n)
def Rj(v:V):Option V:=V.casesOn (motive_1:=λ_=>Option V) v (λ_=>none) (λ_ _=>none) (λ_ _=>none) none (λ_ _=>none) (some (.i .i64 0)) (λ_ _ l _=>some (.i .i64 (Int.ofNat l))) (λ_ _ l _=>some (.i .i64 (Int.ofNat l))) none (λ_=>none) none (λ_ _ _=>none) (λ_=>none) none (λ_ _=>none) (λ_=>none) (λ_=>none) none
def Rk(v:V):Option V:=V.casesOn (motive_1:=λ_=>Option V) v (λ_=>none) (λ_ _=>none) (λl _=>some (.i .i64 (Int.ofNat l))) none (λ_ _=>none) none (λ_ _ _ _=>none) (λ_ _ _ _=>none) none (λ_=>none) none (λ_ _ _=>none) (λ_=>none) none (λ_ _=>none) (λ_=>none) (λ_=>none) none
def fe(k:Nat)(x:au)(T:Tr V)(H:Hp)(n:K):fo:=
 Nat.casesOn k (aO (az x T) λv=>cW H n (Rk v)) (λk1=>Nat.casesOn k1 (aO (az x T) λv=>cW H n (Rj v)) (λ_=>Ev.simple (.len k x) T H n))
def toInt(k:IntKind)(v:V):Option V:=V.casesOn (motive_1:=λ_=>Option V) v (λ_=>none) (λ_ m=>some (.i k (wr k m))) (λ_ _=>none) none (λ_ _=>none) none (λ_ _ _ _=>none) (λ_ _ _ _=>none) none (λ_=>none) none (λ_ _ _=>none) (λ_=>none) none (λ_ _=>none) (λ_=>none) (λ_=>none) none
def sCv(k:LA)(x:au)(T:Tr V)(H:Hp)(n:K):fo:=
 match k with
 | .toInt k=>aO (az x T) λv=>cW H n (toInt k v)
 | k=>Ev.simple (.cv k x) T H n
def simple:A->Tr V->Hp->K->fo
 | .mv a=>sMv a
 | .pick a b c=>ae0 a b c
 | .new a b=>ae1 a b
 | .ld a b c=>sLd a b c
 | .st a b c=>sSt a b c
 | .nck a=>ae2 a
 | .bin a b c d=>ae6 a b c d
 | .un a b=>sUn a b
 | .cv a b=>sCv a b
 | .mif a b=>ae7 a b
 | .mfn a b c=>ae8 a b c
 | .fad a b=>ae9 a b
 | .fld a b c d=>afc a b c d
 | .iad a b c d=>afh a b c d
 | .idx a b c=>afi a b c
 | .ext a b=>afd a b
 | .len a b=>fe a b
 | o=>Ev.simple o
def afj(op:A)(T:Tr V)(H:Hp)(n:K):simple op T H n=Ev.simple op T H n:=by
 cases op<;>try rfl
 case mv x=>show cW H n (az x T)=_;rw[jO,gI];rfl
 case pick c a b=>
  show aO (az c T) _=_;rw[gI];simp only[Ev.simple];cases Ev.az T c with
  | none=>rfl
  | some v=>
   cases v<;>try rfl
   rename_i x;show cW H n (cond x (az a T) (az b T))=_;rw[jO,gI,gI];cases x<;>rfl
 case new e zs=>exact mk_eq (.c zs e 0) (λn=>.p n 0) H n
 case ld agg sz a=>
  show aO (az a T) (λv=>cW H n (rO agg sz H v))=_;rw[gI];simp only[Ev.simple];cases Ev.az T a with
  | none=>rfl
  | some v=>show cW H n (rO agg sz H v)=_;rw[jO,aeW]
 case st sz a x=>
  show aO (az a T) (λa=>aO (az x T) λx=>oy n (yZ sz a x H))=_;rw[gI,gI];simp only[Ev.simple];cases Ev.az T a with
  | none=>rfl
  | some v=>cases Ev.az T x with
   | none=>rfl
   | some u=>show oy n (yZ sz v u H)=_;rw[aeZ,aeY]
 case nck x=>
  show aO (az x T) (λv=>cW H n (nck v))=_;rw[gI];simp only[Ev.simple];cases Ev.az T x with
  | none=>rfl
  | some v=>cases v<;>rfl
 case bin o k x y=>
  show aO (az x T) (λx=>aO (az y T) λy=>cW H n (bin o k x y))=_;rw[gI,gI];simp only[Ev.simple];cases Ev.az T x with
  | none=>rfl
  | some v=>cases Ev.az T y with
   | none=>rfl
   | some u=>show cW H n (bin o k v u)=_;rw[jO,ae5]
 case un o x=>
  show aO (az x T) (λx=>cW H n (Ev.GJ o x))=_;rw[gI];simp only[Ev.simple];cases Ev.az T x with
  | none=>rfl
  | some v=>exact jO _ _ _
 case cv k x=>
  cases k<;>try rfl
  rename_i k;show aO (az x T) (λv=>cW H n (toInt k v))=_;rw[gI];simp only[Ev.simple];cases Ev.az T x with
  | none=>rfl
  | some v=>cases v<;>rfl
 case mif t x=>
  show aO (az x T) (λv=>(some (V.jM t v,H,n):fo))=_;rw[gI];simp only[Ev.simple];cases Ev.az T x<;>rfl
 case mfn f a c=>
  show aO (eE a T) (λa=>aO (eE c T) λc=>(some (V.f f a c,H,n):fo))=_;rw[IY,IY];simp only[Ev.simple];cases Ev.eE T a with
  | none=>rfl
  | some v=>cases Ev.eE T c<;>rfl
 case fad off x=>
  show aO (az x T) (λv=>aO (IZ v) (Ri off H n))=_;rw[gI];simp only[Ev.simple];cases Ev.az T x with
  | none=>rfl
  | some v=>cases v<;>rfl
 case fld agg off sz x=>
  show aO (az x T) (λv=>aO (asA v) λl=>cond agg (aO (ch l off sz) λl'=>some (.a l',H,n)) (cW H n (nth l off)))=_;rw[gI];simp only[Ev.simple];cases Ev.az T x with
  | none=>rfl
  | some v=>
   cases v<;>try rfl
   rename_i l;show cond agg (aO (ch l off sz) λl'=>some (.a l',H,n)) (cW H n (nth l off))=_;rw[mJ,nK,jO];cases agg with
   | false=>rfl
   | true=>simp only[cond_true];cases Ev.ch l off sz<;>rfl
 case iad arr z x i=>
  show aO (az x T) (λv=>aO (az i T) λi=>aO (Mb i) λi=>I7 arr z i v H n)=_;rw[gI,gI];simp only[Ev.simple];cases Ev.az T x with
  | none=>cases Ev.az T i<;>rfl
  | some v=>
   cases Ev.az T i with
   | none=>rfl
   | some u=>
    cases u<;>try rfl
    rename_i k m;cases m with
    | negSucc=>rfl
    | ofNat m=>
     show I7 arr z m v H n=_;cases arr with
     | none=>cases v<;>rfl
     | some q=>cases v<;>rfl
 case idx arr x i=>
  cases arr with
  | some q=>rfl
  | none=>
   show aO (az x T) (λv=>aO (az i T) λi=>aO (Mb i) λi=>cW H n (I8 i v))=_;rw[gI,gI];simp only[Ev.simple];cases Ev.az T x with
   | none=>cases Ev.az T i<;>rfl
   | some v=>
    cases Ev.az T i with
    | none=>rfl
    | some u=>
     cases u<;>try rfl
     rename_i k m;cases m with
     | negSucc=>rfl
     | ofNat m=>
      show cW H n (I8 m v)=_;cases v<;>try rfl
      rename_i l q;show cW H n (cond (Nat.blt m l) (some (.i .u8 (Int.ofNat (FK q m)))) none)=_;simp only;cases Nat.blt m l<;>rfl
 case ext x i=>
  show aO (az x T) (λv=>aO (asU v) λl=>cW H n (nth l i))=_;rw[gI];simp only[Ev.simple];cases Ev.az T x with
  | none=>rfl
  | some v=>
   cases v<;>try rfl
   rename_i l;show cW H n (nth l i)=_;rw[jO,nK]
 case len k x=>
  rcases k with _ | _ | k
  ·show aO (az x T) (λv=>cW H n (Rk v))=_;rw[gI];simp only[Ev.simple];cases Ev.az T x with
   | none=>rfl
   | some v=>cases v<;>rfl
  ·show aO (az x T) (λv=>cW H n (Rj v))=_;rw[gI];simp only[Ev.simple];cases Ev.az T x with
   | none=>rfl
   | some v=>cases v<;>rfl
  ·rfl
end
noncomputable section
def afk(f:au)(l:List au)(ih:db)(T:Tr V)(H:Hp)(n:K):Option R:=aO (az f T) λf=>aO (eE l T) λl=>ih (.call f l) H n
def afl(x:au)(ih:db)(T:Tr V)(H:Hp)(n:K):Option R:=Ev.dI ih (.rY x) T H n
def V7(x:fo):Option R:=aO x λp=>some ⟨.normal,.e,p.1,p.2.1,p.2.2⟩
def Rl(s:Tr V->Hp->K->fo)(ih:db)(T:Tr V)(H:Hp)(n:K):Option R:=V7 (s T H n)
def dI:A->db->Tr V->Hp->K->Option R
 | .lj f l=>afk f l
 | .rY x=>afl x
 | o=>Rl (simple o)
def afm(op:A)(h1:∀f l,op≠.lj f l)(h2:∀x,op≠.rY x):dI op=Rl (simple op):=by cases op<;>first | rfl | exact absurd rfl (h1 _ _) | exact absurd rfl (h2 _)
def afn(ih:db)(op:A)(T:Tr V)(H:Hp)(n:K)(h1:∀f l,op≠.lj f l)(h2:∀x,op≠.rY x):Ev.dI ih op T H n=V7 (Ev.simple op T H n):=by
 cases op<;>first | exact absurd rfl (h1 _ _) | exact absurd rfl (h2 _) | skip
 all_goals
  unfold Ev.dI;simp only;generalize Ev.simple _ T H n=x;cases x<;>rfl
def Rm(ih:db)(op:A)(T:Tr V)(H:Hp)(n:K):dI op ih T H n=Ev.dI ih op T H n:=by
 by_cases h1:∃f l,op=.lj f l
 ·obtain⟨f,l,rfl⟩:=h1;show aO (az f T) (λf=>aO (eE l T) λl=>ih (.call f l) H n)=_;rw[gI,IY];simp only[Ev.dI];cases Ev.az T f<;>cases Ev.eE T l<;>rfl
 ·by_cases h2:∃x,op=.rY x
  ·obtain⟨x,rfl⟩:=h2;rfl
  ·rw[afm op (λf l e=>h1 ⟨f,l,e⟩) (λx e=>h2 ⟨x,e⟩),afn ih op T H n (λf l e=>h1 ⟨f,l,e⟩) (λx e=>h2 ⟨x,e⟩)];show V7 (simple op T H n)=_;rw[afj]
def dh(d:Option K)(v:V)(T:Tr V):Tr V:=Option.casesOn d T (λk=>put (some v) k T)
def ED(d:Option K)(v:V)(T:Tr V):dh d v T=Ev.dh d (some v) T:=by
 cases d with
 | none=>rfl
 | some k=>exact put_eq _ _ _
def Ro(w:Bool)(v:V):Option Bool:=V.casesOn (motive_1:=λ_=>Option Bool) v (λx=>some (cond w x (!x))) (λ_ _=>none) (λ_ _=>none) none (λ_ _=>none) none (λ_ _ _ _=>none) (λ_ _ _ _=>none) none (λ_=>none) none (λ_ _ _=>none) (λ_=>none) none (λ_ _=>none) (λ_=>none) (λl=>List.casesOn l (some false) (λ_ _=>none)) none
def want(g:Option (K×Bool))(T:Tr V):Option Bool:=Option.casesOn g (some true) (λp=>aO (get p.1 T) (Ro p.2))
def Rp(g:Option (K×Bool))(T:Tr V):want g T=Ev.want g T:=by
 cases g with
 | none=>rfl
 | some p=>
  obtain⟨k,w⟩:=p;show aO (get k T) (Ro w)=_;rw[get_eq];simp only[Ev.want];cases T.get k with
  | none=>rfl
  | some v=>
   cases v<;>try rfl
   rename_i l;cases l<;>rfl
def V8(r:Option R)(T:Tr V)(d:Option K)(rest:Tr V->Hp->K->Option R):Option R:=
 Option.casesOn r none (λr=>R.casesOn r λex _ v H n=>Ex.casesOn ex (rest (dh d v T) H n) (λ_=>none) none (λu=>some ⟨.panic u,T,.q,H,n⟩))
def afo(o:AO)(ih:db)(rest:Tr V->Hp->K->Option R)(T:Tr V)(H:Hp)(n:K):Option R:=
 AO.casesOn o λdst op guard _=>Option.casesOn (want guard T) none λb=>cond b (V8 (dI op ih T H n) T dst rest) (rest (dh dst (.u []) T) H n)
def eX(l:List AO)(ih:db):Tr V->Hp->K->Option R:=
 List.rec (motive:=λ_=>Tr V->Hp->K->Option R) (λT H n=>some ⟨.normal,T,.q,H,n⟩) (λo _ rest=>afo o ih rest) l
def afp(ih:db)(l:List AO)(T:Tr V)(H:Hp)(n:K):eX l ih T H n=Ev.eX ih l T H n:=by
 induction l generalizing T H n with
 | nil=>rfl
 | cons o l a=>
  obtain⟨dst,op,guard,Ξ⟩:=o;show Option.casesOn (motive:=λ_=>Option R) (want guard T) none (λb=>cond b (V8 (dI op ih T H n) T dst (eX l ih)) (eX l ih (dh dst (.u []) T) H n))=_;rw[Rp,Rm];simp only[Ev.eX];cases Ev.want guard T with
  | none=>rfl
  | some b=>
   cases b with
   | false=>show eX l ih (dh dst (.u []) T) H n=_;rw[a,ED]
   | true=>
    show V8 (Ev.dI ih op T H n) T dst (eX l ih)=_;cases Ev.dI ih op T H n with
    | none=>rfl
    | some r=>
     obtain⟨ex,T',v,H',n'⟩:=r;cases ex with
     | normal=>show eX l ih (dh dst v T) H' n'=_;rw[a,ED]
     | _=>rfl
def oper(op:A)(ih:db)(T:Tr V)(H:Hp)(n:K):fo:=
 aO (dI op ih T H n) λr=>R.casesOn r λex _ v H n=>Ex.casesOn ex (some (v,H,n)) (λ_=>none) none (λ_=>none)
def wj(ih:db)(op:A)(T:Tr V)(H:Hp)(n:K):oper op ih T H n=Ev.oper ih op T H n:=by
 unfold oper Ev.oper;rw[Rm];cases Ev.dI ih op T H n with
 | none=>rfl
 | some r=>obtain⟨ex,T',v,H',n'⟩:=r;cases ex<;>rfl
def cY(Ξ:Nat)(m:Made)(H:Hp):Hp:=
 List.rec (motive:=λ_=>Hp->Hp) (λH=>H) (λp _ ih H=>cond (Nat.testBit Ξ p.2) (ih H) (ih (put none p.1 H))) m H
def afq(Ξ:Nat)(m:Made)(H:Hp):cY Ξ m H=Ev.cY H Ξ m:=by
 induction m generalizing H with
 | nil=>rfl
 | cons p m ih=>
  obtain⟨k,i⟩:=p;show cond (Nat.testBit Ξ i) (cY Ξ m H) (cY Ξ m (put none k H))=_;rw[ih,ih,put_eq];rfl
def back(H:Hp)(Ξ:Nat)(m:Made)(H':Hp):Hp:=
 List.rec (motive:=λ_=>Hp->Hp) (λH'=>H') (λp _ ih H'=>cond (Nat.testBit Ξ p.2) (ih H') (ih (put (get p.1 H) p.1 H'))) m H'
def back_eq(H:Hp)(Ξ:Nat)(m:Made)(H':Hp):back H Ξ m H'=Ev.back H H' Ξ m:=by
 induction m generalizing H' with
 | nil=>rfl
 | cons p m ih=>
  obtain⟨k,i⟩:=p;show cond (Nat.testBit Ξ i) (back H Ξ m H') (back H Ξ m (put (get k H) k H'))=_;rw[ih,ih,put_eq,get_eq];rfl
def dV(l:List AO)(ih:db):Nat->Tr V->Hp->K->Made->List Rd->List Bg->Option R:=
 List.rec (motive:=λ_=>Nat->Tr V->Hp->K->Made->List Rd->List Bg->Option R)
  (λ_ T H n m rs bs=>cond (sa m rs bs) (some ⟨.normal,T,.q,H,n⟩) none)
  (λo _ rest i T H n m rs bs=>AO.casesOn o λdst op guard Ξ=>Option.casesOn (want guard T) none λb=>cond b
   (aO (oper op ih T (cY Ξ m H) n) λp=>Prod.casesOn p λv p=>Prod.casesOn p λH' n'=>
    match cls op with
    | .pure=>rest (Nat.succ i) (dh dst v T) H n m rs bs
    | .read=>cond (bk n v) (rest (Nat.succ i) (dh dst v T) H n m (⟨i,op,Ξ,T,v⟩::rs) bs) none
    | .make=>rest (Nat.succ i) (dh dst v T) (back H Ξ m H') n' ((n,i)::m) rs bs
    | .jt=>rest (Nat.succ i) (dh dst v T) (back H Ξ m H') n' m rs (⟨i,Ξ,H,back H Ξ m H'⟩::bs))
   (rest (Nat.succ i) (dh dst (.u []) T) H n m rs bs)) l
def afr(ih:db)(l:List AO)(i:Nat)(T:Tr V)(H:Hp)(n:K)(m:Made)(rs:List Rd)(bs:List Bg):dV l ih i T H n m rs bs=Ev.dV ih l i T H n m rs bs:=by
 induction l generalizing i T H n m rs bs with
 | nil=>rfl
 | cons o l a=>
  obtain⟨dst,op,guard,Ξ⟩:=o;simp only[Ev.dV];rw[←Rp,←afq,←wj];show Option.casesOn (motive:=λ_=>Option R) (want guard T) none (λb=>cond b
   (aO (oper op ih T (cY Ξ m H) n) λp=>Prod.casesOn p λv p=>Prod.casesOn p λH' n'=>
    match cls op with
    | .pure=>dV l ih (Nat.succ i) (dh dst v T) H n m rs bs
    | .read=>cond (bk n v) (dV l ih (Nat.succ i) (dh dst v T) H n m (⟨i,op,Ξ,T,v⟩::rs) bs) none
    | .make=>dV l ih (Nat.succ i) (dh dst v T) (back H Ξ m H') n' ((n,i)::m) rs bs
    | .jt=>dV l ih (Nat.succ i) (dh dst v T) (back H Ξ m H') n' m rs (⟨i,Ξ,H,back H Ξ m H'⟩::bs))
   (dV l ih (Nat.succ i) (dh dst (.u []) T) H n m rs bs))=_
  cases want guard T with
  | none=>rfl
  | some b=>
   cases b with
   | false=>show dV l ih _ (dh dst (.u []) T) H n m rs bs=_;rw[a,ED]
   | true=>
    simp only[cond_true];cases oper op ih T (cY Ξ m H) n with
    | none=>rfl
    | some p=>
     obtain⟨v,H',n'⟩:=p;show(match cls op with
      | .pure=>dV l ih (Nat.succ i) (dh dst v T) H n m rs bs
      | .read=>cond (bk n v) (dV l ih (Nat.succ i) (dh dst v T) H n m (⟨i,op,Ξ,T,v⟩::rs) bs) none
      | .make=>dV l ih (Nat.succ i) (dh dst v T) (back H Ξ m H') n' ((n,i)::m) rs bs
      | .jt=>dV l ih (Nat.succ i) (dh dst v T) (back H Ξ m H') n' m rs (⟨i,Ξ,H,back H Ξ m H'⟩::bs))=_
     simp only[ED,back_eq];cases cls op<;>simp only[a]
def afs(a b:AC)(ih:db)(T:Tr V)(H:Hp)(n:K):Option R:=
 aO (ih (.code a T) H n) λr=>R.casesOn r λex T v H n=>Ex.casesOn ex (ih (.code b T) H n) (λid=>some ⟨.exit id,T,v,H,n⟩) (some ⟨.ret,T,v,H,n⟩) (λu=>some ⟨.panic u,T,v,H,n⟩)
def I9(c:au)(a b:AC)(ih:db)(T:Tr V)(H:Hp)(n:K):Option R:=
 aO (az c T) λv=>V.casesOn (motive_1:=λ_=>Option R) v (λx=>cond x (ih (.code a T) H n) (ih (.code b T) H n)) (λ_ _=>none) (λ_ _=>none) none (λ_ _=>none) none (λ_ _ _ _=>none) (λ_ _ _ _=>none) none (λ_=>none) none (λ_ _ _=>none) (λ_=>none) none (λ_ _=>none) (λ_=>none) (λ_=>none) none
def aft(id:Nat)(c:AC)(ih:db)(T:Tr V)(H:Hp)(n:K):Option R:=
 aO (ih (.code c T) H n) λr=>R.casesOn r λex T v H n=>Ex.casesOn ex (some ⟨.normal,T,v,H,n⟩) (λa=>cond (Nat.beq id a) (some ⟨.normal,T,v,H,n⟩) (some ⟨.exit a,T,v,H,n⟩)) (some ⟨.ret,T,v,H,n⟩) (λu=>some ⟨.panic u,T,v,H,n⟩)
def afu(c:AC)(ih:db)(T:Tr V)(H:Hp)(n:K):Option R:=
 aO (ih (.code c T) H n) λr=>R.casesOn r λex T v H n=>Ex.casesOn ex (ih (.code (.loop c) T) H n) (λid=>some ⟨.exit id,T,v,H,n⟩) (some ⟨.ret,T,v,H,n⟩) (λu=>some ⟨.panic u,T,v,H,n⟩)
def afv(l:List AO)(ih:db)(T:Tr V)(H:Hp)(n:K):Option R:=eX l ih T H n
def afw(l:List AO)(ih:db)(T:Tr V)(H:Hp)(n:K):Option R:=dV l ih 0 T H n [] [] []
def Ja(ex:Ex)(ih:db)(T:Tr V)(H:Hp)(n:K):Option R:=some ⟨ex,T,.q,H,n⟩
def afx(c:AC)(ih:db)(T:Tr V)(H:Hp)(n:K):Option R:=ih (.code c T) H n
def Jb(c:AC)(ih:db)(T:Tr V)(H:Hp)(n:K):Option R:=Ev.bh (λ_=>none) ih (.code c T) H n
def code(c:AC):db->Tr V->Hp->K->Option R:=AC.casesOn (motive:=λ_=>db->Tr V->Hp->K->Option R) c (Ja .normal) (λa=>afv a) (λa=>afw a) (λa x1=>afs a x1) (λa x1 x2=>I9 a x1 x2) (λa x1=>aft a x1) (λa=>afu a) (λa x1 x2 x3=>Jb (.ox a x1 x2 x3)) (λa=>Ja (.exit a)) (λa=>afx a) (λa x1 x2 x3 x4=>Jb (.nH a x1 x2 x3 x4)) (Ja .ret) (Jb .bad)
def afy(C:Nat->Option aI)(c:AC)(ih:db)(T:Tr V)(H:Hp)(n:K):code c ih T H n=Ev.bh C ih (.code c T) H n:=by
 cases c<;>try rfl
 case reg l=>exact afp ih l T H n
 case regd l=>exact afr ih l 0 T H n [] [] []
 case seq a b=>
  show aO (ih (.code a T) H n) _=_;simp only[Ev.bh];cases ih (.code a T) H n with
  | none=>rfl
  | some r=>obtain⟨ex,T',v,H',n'⟩:=r;cases ex<;>rfl
 case cond x a b=>
  show I9 x a b ih T H n=_;unfold I9;rw[gI];simp only[Ev.bh];cases Ev.az T x with
  | none=>rfl
  | some v=>
   cases v<;>try rfl
   rename_i q;cases q<;>rfl
 case block id c=>
  show aO (ih (.code c T) H n) _=_;simp only[Ev.bh];cases ih (.code c T) H n with
  | none=>rfl
  | some r=>
   obtain⟨ex,T',v,H',n'⟩:=r;cases ex<;>rfl
 case loop c=>
  show aO (ih (.code c T) H n) _=_;simp only[Ev.bh];cases ih (.code c T) H n with
  | none=>rfl
  | some r=>obtain⟨ex,T',v,H',n'⟩:=r;cases ex<;>rfl
def binds(ks:List K):List V->Tr V->Option (Tr V):=
 List.rec (motive:=λ_=>List V->Tr V->Option (Tr V)) (λvs T=>List.casesOn vs (some T) (λ_ _=>none)) (λk _ ih vs T=>List.casesOn vs (some T) (λv vs=>ih vs (put (some v) k T))) ks
def afz(ks:List K)(vs:List V)(T:Tr V):binds ks vs T=Ev.binds ks vs T:=by
 induction ks generalizing vs T with
 | nil=>cases vs<;>rfl
 | cons k ks ih=>
  cases vs with
  | nil=>rfl
  | cons v vs=>show binds ks vs (put (some v) k T)=_;rw[ih,put_eq];rfl
def afA(af:AF)(l:List V)(ih:db)(H:Hp)(n:K):Option R:=
 AF.casesOn af λiH res body=>aO (binds iH l .e) λT=>aO (ih (.code body T) H n) λr=>R.casesOn r λex T v H n=>
  Ex.casesOn ex (aO (Ev.pe res T H) λv=>some ⟨.normal,.e,v,H,n⟩) (λ_=>none) (aO (Ev.pe res T H) λv=>some ⟨.normal,.e,v,H,n⟩) (λu=>some ⟨.panic u,.e,.q,H,n⟩)
def Jc(a l c:List V):List V:=a++(l++c)
def afB(C:Nat->Option aI)(ih:db)(g:Nat)(a c l:List V)(H:Hp)(n:K):Option R:=
 aO (C g) λfn=>aI.casesOn fn (λaf=>afA af (Jc a l c) ih H n) (λ_=>Ev.bh C ih (.call (.f g a c) l) H n) (λ_=>Ev.bh C ih (.call (.f g a c) l) H n)
def call(C:Nat->Option aI)(ih:db)(f:V)(l:List V)(H:Hp)(n:K):Option R:=
 match f with
 | .f g a c=>afB C ih g a c l H n
 | f=>Ev.bh C ih (.call f l) H n
def afC(C:Nat->Option aI)(ih:db)(f:V)(l:List V)(H:Hp)(n:K):call C ih f l H n=Ev.bh C ih (.call f l) H n:=by
 cases f<;>try rfl
 rename_i g a c;show aO (C g) _=_;cases b:C g with
 | none=>simp only[aO,Ev.bh,b]
 | some fn=>
  cases fn with
  | pm p=>rfl
  | vQ af=>rfl
  | go af=>
   obtain⟨iH,res,body⟩:=af;show aO (binds iH (Jc a l c) .e) _=_;rw[afz];simp only[Ev.bh,b,Jc];cases Ev.binds iH (a++(l++c)) .e with
   | none=>rfl
   | some T=>
    show aO (ih (.code body T) H n) _=_;simp only;cases ih (.code body T) H n with
    | none=>rfl
    | some r=>
     obtain⟨ex,T',v,H',n'⟩:=r;cases ex with
     | exit id=>rfl
     | panic u=>rfl
     | normal=>show aO (Ev.pe res T' H') _=_;simp only;cases Ev.pe res T' H'<;>rfl
     | ret=>show aO (Ev.pe res T' H') _=_;simp only;cases Ev.pe res T' H'<;>rfl
def bh(C:Nat->Option aI)(ih:db)(j:Cv):Hp->K->Option R:=Cv.casesOn j (λc T=>code c ih T) (λf l=>call C ih f l)
def afD(C:Nat->Option aI)(ih:db):bh C ih=Ev.bh C ih:=by
 funext j H n;cases j with
 | code c T=>exact afy C c ih T H n
 | call f l=>exact afC C ih f l H n
def ev(C:Nat->Option aI)(f:Nat):db:=Nat.rec (motive:=λ_=>db) (λ_ _ _=>none) (λ_ ih=>bh C ih) f
def fj(C:Nat->Option aI)(f:Nat):ev C f=Ev.ev C f:=by
 induction f with
 | zero=>rfl
 | succ f ih=>show bh C (ev C f)=_;rw[ih,afD];rfl
end
end Go.Ev.F
namespace Go.Ev
open Go
section
section ops
variable {P:Program}{ty:Ty}{C:Nat->Option aI}{ih:db}{η:Env}{H:Hp}{n:K}{w:World}{fr:Frame}
def alj(I:Good P ty C)(S:j9 P ty ih){g:Nat}{l:List V}{af:AF}(J:C g=some (.go af)){T0:Tr V}{v0:V}{H':Hp}{n':K}(k:bh C ih (.call (.f g [] []) l) H n=some ⟨.normal,T0,v0,H',n'⟩)
 {args:List Value}(U:aN η l args)(W:bD η ty.g)(X:aV (WW ty) η H n w)(cs:List Frame):
 ∃η' y s fr,Trans (WW ty) η H n w η' H' n' s/\aq η' v0 y/\Steps P (lone (Frame.enter P g args.toArray .normal) cs w) (lone fr cs s)/\fr.fn=g/\fr.leaving P s (.returned y):=by
 obtain⟨fn,L,pr,p⟩:=I.fn g af J;simp only[bh,J]at k;split at k
 case h_2=>cases k
 rename_i T B;unfold rh at p;split at p
 case h_2=>cases p
 rename_i body rs Y Z;cases D:within fn.ntmps body with
 | false=>rw[D]at p;cases p
 | true=>
  rw[D]at p;simp only[cond_true]at p;injection p with p;subst p;simp only at k B;have O:aN η ([]++(l++[])) args:=by simpa using U
  generalize fa:args=xs at O;let q:Array Value:=xs.toArray;let tm:Array Value:=q++Array.replicate (fn.ntmps - q.size) undef;have wm:fn.ntmps<=tm.size:=by simp only[tm,vN,Array.size_replicate];omega
  have hT:aM η T tm:=by rw[tW]at B;refine HD (tmps:=tm) _ xs 0 _ .e T O (λt v h=>by rw[Tr.gf]at h;cases h) (λj x hj=>?_) B;have τ:=(mC.1 hj).1;rw[eW];simp only[tm];rw[Array.getElem?_append_left (by simpa[q]using τ)];simpa[q]using hj
  have HE:∀(N M:Nat),N<=M->∀c,within N c=true->within M c=true:=by
   intro N M Z1;have Q:∀l,gC N l=true->gC M l=true:=by
    intro l
    induction l with
    | nil=>intro _;rfl
    | cons o l ih=>
     intro h;simp only[gC,aK]at h ⊢;refine⟨?_,ih h.2⟩;have h1:=h.1;split at h1
     ·rename_i d Q;rw[eM,aW]at h1 ⊢;omega
     ·rfl
   have hb:∀l,mH N l=true->mH M l=true:=by
    intro l
    induction l with
    | nil=>intro _;rfl
    | cons d l ih=>
     intro h;simp only[mH,aK]at h ⊢;refine⟨?_,ih h.2⟩;have h1:=h.1;rw[eM,aW]at h1 ⊢;omega
   intro c
   induction c with
   | region id ops dr=>exact Q _
   | seq a b m z=>intro h;simp only[within,aK]at h ⊢;exact⟨m h.1,z h.2⟩
   | cond x a b m z=>intro h;simp only[within,aK]at h ⊢;exact⟨m h.1,z h.2⟩
   | block id a m=>exact m
   | loop a m=>exact m
   | scope a m=>exact m
   | rangeFunc f ps a b m z=>intro h;simp only[within,aK]at h ⊢;exact⟨⟨hb _ h.1.1,m h.1.2⟩,z h.2⟩
   | _=>intro _;rfl
  let i:Frame:={ fn:=g,tmps:=tm,todo:=[.code body],defers:=[],mode:=.run,kind:=.normal};have pv:Frame.enter P g q .normal=put i i.tmps i.defers (.code body::[]):=by simp[Frame.enter,L,Y,put,i,tm]
  have run:∀r1,ih (.code (cJ ty body) T) H n=some r1->∃(η':Env) (t':Array Value) (w':World) (bs:List Nat) (k1:List Item),Trans (WW ty) η H n w η' r1.H r1.n w'/\aM η' r1.T t'/\bs.Nodup/\(∀b∈bs,w.heap.size<=b/\w'.heap[b]?=some (.deferred (some [])))/\gX P η' (lone (put i i.tmps i.defers (.code body::[])) cs w) i cs k1 r1.ex t' (bs.map (λb=>{ target:=.collected b,args:=#[]})) w'/\k1=[]:=by
   intro r1 h1;obtain⟨η',t',d',w',g1,g2,E,⟨bs,F,G,A⟩,r⟩:=S _ _ _ _ h1 η w i cs [] body ⟨rfl,HE _ _ wm _ D⟩ hT W X rfl (by intro l h;cases h);have F:d'=bs.map (λb=>{ target:=.collected b,args:=#[]}):=by simpa[i]using F
   subst F;exact⟨η',t',w',bs,[],g1,E,G,λb hb=>⟨(A b hb).1,(A b hb).2.1⟩,r,rfl⟩
  split at k
  ·cases k
  ·cases k
  ·rename_i ex T1 v1 H1 n1 HG HH h1;split at k
   case h_2=>cases k
   rename_i v hv;injection k with k;injection k with dX fb xp ML hr5;subst xp;subst ML;subst hr5;obtain⟨η',t',w',bs,_,g1,E,G,A,r,rfl⟩:=run _ h1;have leave:∃todo,Steps P (lone (put i i.tmps i.defers (.code body::[])) cs w) (lone { put i t' (bs.map (λb=>{ target:=.collected b,args:=#[]})) todo with mode:=.returning} cs w'):=by
    cases ex with
    | normal=>exact⟨_,Steps.trans r (.one (returning rfl rfl))⟩
    | ret=>obtain⟨k1,r⟩:=r;exact⟨_,Steps.trans r (.one (DZ rfl rfl))⟩
    | exit id=>exact(HG id rfl).elim
    | panic u=>exact(HH u rfl).elim
   obtain⟨todo,s1⟩:=leave;obtain⟨s,s2,R⟩:=D2 (P:=P) (cs:=cs) (fr:={ put i t' [] todo with mode:=.returning}) bs w' (by intro h;cases h) g1 A G;obtain⟨y,Cy,HI⟩:=HC I.aE E R.rep Z hv;refine⟨η',y,s,{ put i t' [] todo with mode:=.returning},R,HI,?_,rfl,⟨rfl,rfl,rfl,fn,L,Cy⟩⟩;show Steps P (lone (Frame.enter P g q .normal) cs w) _;rw[pv];exact Steps.trans s1 s2
  ·cases k
end ops
def alk{P:Program}{ty:Ty}{C:Nat->Option aI}(a:Good P ty C)(hP:IL P ty C){g:Nat}{l:List V}{af:AF}(b:C g=some (.go af)){H:Hp}{n:K}{Q:V->X.Hf->K->Prop}(c:X.ν C (.f g [] []) l H.get n Q)
 {η:Env}{w:World}{args:List Value}(d:aN η l args)(h:bD η ty.g)(i:aV (WW ty) η H n w):
 Calls P g args.toArray w λe w'=>∃y v η' H' n',e=.returned y/\Q v H'.get n'/\aq η' v y/\Trans (WW ty) η H n w η' H' n' w':=by
 intro cs;obtain⟨v,H',n',⟨f0,j⟩,k⟩:=c H rfl;have h1:=j (f0+1) (by omega);obtain⟨η',y,m,fr,t,hv,st,hf,hl⟩:=alj a (Re a hP f0).1 b (h1:bh C (ev C f0) _ _ _=_) d h i cs;exact⟨.returned y,m,fr,⟨y,v,η',H',n',rfl,k,hv,t⟩,st,hf,hl⟩
end
end Go.Ev
