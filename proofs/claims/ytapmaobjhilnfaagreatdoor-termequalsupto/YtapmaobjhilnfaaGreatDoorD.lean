/- A part of the proof. -/
import Derived.Test.YtapmaobjhilnfaaGreatDoorA
import Derived.Test.YtapmaobjhilnfaaGreatDoorC
import Derived.Test.YtapmaobjhilnfaaGreatDoorB
set_option linter.all false
namespace Go.Ev.X
open Go Go.Ev
section
structure PR where
 i:Nat
 Δ:Nat
 val:Hf->Prop
structure PB where
 i:Nat
 Δ:Nat
 h:Hf
 h':Hf
def MR:List Rd->List PR->Prop
 | [],[]=>True
 | r::rs,p::P=>(r.i=p.i/\r.Δ=p.Δ/\∀H:Hp,p.val H.get->∃v H' n',simple r.op r.T H .h=some (v,H',n')/\cT v r.v=true)/\MR rs P
 | _,_=>False
def MB:List Bg->List PB->Prop
 | [],[]=>True
 | b::bs,p::B=>(b.i=p.i/\b.Δ=p.Δ/\b.H.get=p.h/\b.H'.get=p.h')/\MB bs B
 | _,_=>False
def ji(h:Hf)(Δ:Nat):Made->Hf
 | []=>h
 | (k,i)::l=>bif Nat.testBit Δ i then ji h Δ l else ji (hp h k none) Δ l
def oF(h h':Hf)(Δ:Nat):Made->Hf
 | []=>h'
 | (k,i)::l=>bif Nat.testBit Δ i then oF h h' Δ l else oF h (hp h' k (h k)) Δ l
theorem BY(Δ:Nat):∀(m:Made) (H:Hp),(dT H Δ m).get=ji H.get Δ m:=by
 intro m
 induction m with
 | nil=>intro H;rfl
 | cons p m ih=>
  intro H;obtain⟨k,i⟩:=p;simp only[dT,ji];cases Nat.testBit Δ i with
  | true=>exact ih H
  | false=>simp only[cond_false];rw[ih,jS]
theorem KU(Δ:Nat)(H:Hp):∀(m:Made) (H':Hp),(back H H' Δ m).get=oF H.get H'.get Δ m:=by
 intro m
 induction m with
 | nil=>intro H';rfl
 | cons p m ih=>
  intro H';obtain⟨k,i⟩:=p;simp only[back,oF];cases Nat.testBit Δ i with
  | true=>exact ih H'
  | false=>simp only[cond_false];rw[ih,jS]
def jW(m:Made)(p:PR)(b:PB):Prop:=
 bif Nat.testBit p.Δ b.i||Nat.testBit b.Δ p.i then True else p.val (ji b.h p.Δ m)/\p.val (ji b.h' p.Δ m)
def gP(m:Made)(p:PR):List PB->Prop
 | []=>True
 | b::B=>jW m p b/\gP m p B
def AG(m:Made):List PR->List PB->Prop
 | [],_=>True
 | p::P,B=>gP m p B/\AG m P B
theorem acs{m:Made}:∀{rs:List Rd} {P:List PR} {bs:List Bg} {B:List PB},MR rs P->MB bs B->AG m P B->wE m rs bs=true:=by
 intro rs
 induction rs with
 | nil=>intro P bs B _ _ _;rfl
 | cons r rs ih=>
  intro P bs B hr hb hg;cases P with
  | nil=>exact hr.elim
  | cons p P=>
   obtain⟨⟨h1,h2,h3⟩,h4⟩:=hr;have:=ih h4 hb hg.2;simp only[wE,List.all_cons,bh]at this ⊢;refine⟨?_,this⟩;have key:∀{bs:List Bg} {B:List PB},MB bs B->gP m p B->(bs.all λb=>BI m r b)=true:=by
    intro bs
    induction bs with
    | nil=>intro B _ _;rfl
    | cons b bs qW=>
     intro B hb hg;cases B with
     | nil=>exact hb.elim
     | cons q B=>
      obtain⟨⟨g1,g2,g3,g4⟩,g5⟩:=hb;simp only[List.all_cons,bh];refine⟨?_,qW g5 hg.2⟩;have ha:=hg.1;unfold jW at ha;unfold BI;rw[h1,h2,g1,g2];cases hx:(Nat.testBit p.Δ q.i||Nat.testBit q.Δ p.i) with
      | true=>simp
      | false=>
       rw[hx]at ha;simp only[cond_false]at ha;have rd:∀H:Hp,p.val (dT H p.Δ m).get->DJ r H m=true:=by intro H hv;obtain⟨v,H',n',e1,e2⟩:=h3 _ hv;unfold DJ;rw[h2,e1];exact e2
       rw[rd b.H (by rw[BY,g3];exact ha.1),rd b.H' (by rw[BY,g4];exact ha.2)];simp
   exact key hb hg.1
section
variable (C:Nat->Option bN)
def WD(l:List AO)(i:Nat)(E:Env)(h:Hf)(n:K)(m:Made)(P:List PR)(B:List PB)(Q:Env->Hf->K->Prop):Prop:=
 ∀T H rs bs,Le E T->H.get=h->MR rs P->MB bs B->∃T' H' n' E',(∃f0,∀f,f0<=f->eY (ev C f) l i T H n m rs bs=some ⟨.normal,T',.q,H',n'⟩)/\Le E' T'/\Q E' H'.get n'
end
section
variable {C:Nat->Option bN}{E:Env}{h:Hf}{n:K}{Q:Ex->Env->Hf->K->Prop}{q:Env->Hf->K->Prop}{m:Made}{P:List PR}{B:List PB}{i:Nat}{l:List AO}{d:Option K}{op:A}{Δ:Nat}
theorem uG(hw:WD C l 0 E h n [] [] [] (λE h n=>Q .normal E h n)):WC C (.regd l) E h n Q:=by intro T H hT hH;obtain⟨T',H',n',E',⟨f0,h1⟩,h2,h3⟩:=hw T H [] [] hT hH trivial trivial;exact⟨⟨.normal,T',.q,H',n'⟩,E',fS.step ⟨f0,λf hf=>h1 f hf⟩,h2,h3⟩
theorem dh{b:AC}(hw:WD C l 0 E h n [] [] [] (λE h n=>WC C b E h n Q)):WC C (.seq (.regd l) b) E h n Q:=ξ (uG hw)
theorem cG(hg:AG m P B)(hq:q E h n):WD C [] i E h n m P B q:=λT H rs bs hT hH hr hb=>by subst hH;exact⟨T,H,n,E,⟨0,λf _=>by simp only[eY,acs hr hb hg,cond_true]⟩,hT,hq⟩
theorem hX(hc:cls op=.pure)(hs:SO C op E (ji h Δ m) n (λv _ _=>WD C l (i+1) (je d v E) h n m P B q)):WD C (⟨d,op,none,Δ⟩::l) i E h n m P B q:=by intro T H rs bs hT hH hr hb;obtain⟨v,H',n',⟨f0,h1⟩,h2⟩:=hs T (dT H Δ m) hT (by rw[BY,hH]);obtain⟨T',qe,nU,E',⟨f1,h3⟩,h4,h5⟩:=h2 _ H rs bs (hT.je d v) hH hr hb;refine⟨T',qe,nU,E',⟨max f0 f1,λf hf=>?_⟩,h4,h5⟩;simp only[eY,want,h1 f (by omega),hc];exact h3 f (by omega)
theorem Q0(hc:cls op=.make)(hs:SO C op E (ji h Δ m) n (λv h' n'=>WD C l (i+1) (je d v E) (oF h h' Δ m) n' ((n,i)::m) P B q)):WD C (⟨d,op,none,Δ⟩::l) i E h n m P B q:=by intro T H rs bs hT hH hr hb;obtain⟨v,H',n',⟨f0,h1⟩,h2⟩:=hs T (dT H Δ m) hT (by rw[BY,hH]);obtain⟨T',qe,nU,E',⟨f1,h3⟩,h4,h5⟩:=h2 _ (back H H' Δ m) rs bs (hT.je d v) (by rw[KU,hH]) hr hb;refine⟨T',qe,nU,E',⟨max f0 f1,λf hf=>?_⟩,h4,h5⟩;simp only[eY,want,h1 f (by omega),hc];exact h3 f (by omega)
theorem KV(hc:cls op=.kq)(hs:SO C op E (ji h Δ m) n (λv h' n'=>WD C l (i+1) (je d v E) (oF h h' Δ m) n' m P (⟨i,Δ,h,oF h h' Δ m⟩::B) q)):WD C (⟨d,op,none,Δ⟩::l) i E h n m P B q:=by intro T H rs bs hT hH hr hb;obtain⟨v,H',n',⟨f0,h1⟩,h2⟩:=hs T (dT H Δ m) hT (by rw[BY,hH]);obtain⟨T',qe,nU,E',⟨f1,h3⟩,h4,h5⟩:=h2 _ (back H H' Δ m) rs (⟨i,Δ,H,back H H' Δ m⟩::bs) (hT.je d v) (by rw[KU,hH]) hr ⟨⟨rfl,rfl,hH,by rw[KU,hH]⟩,hb⟩;refine⟨T',qe,nU,E',⟨max f0 f1,λf hf=>?_⟩,h4,h5⟩;simp only[eY,want,h1 f (by omega),hc];exact h3 f (by omega)
theorem aD{agg:Bool}{sz:Nat}{a:ax}{p v:V}(ha:ge E a=some p)(hv:aX (ji h Δ m) agg sz p=some v)(hb:bB n v=true)(lM:cT v v=true)
 (hk:WD C l (i+1) (je d v E) h n m (⟨i,Δ,λg=>aX g agg sz p=some v⟩::P) B q):WD C (⟨d,.ld agg sz a,none,Δ⟩::l) i E h n m P B q:=by
 intro T H rs bs hT hH hr Ej;obtain⟨T',qe,nU,E',⟨f1,h3⟩,h4,h5⟩:=hk _ H (⟨i,.ld agg sz a,Δ,T,v⟩::rs) bs (hT.je d v) hH ⟨⟨rfl,rfl,λH' nW=>⟨v,H',.h,by have nW:aX H'.get agg sz p=some v:=nW;simp only[simple,hT.ge ha,Hb rfl,nW,dX],lM⟩⟩,hr⟩ Ej;refine⟨T',qe,nU,E',⟨f1,λf hf=>?_⟩,h4,h5⟩;have e:oper (ev C f) (.ld agg sz a) T (dT H Δ m) n=some (v,dT H Δ m,n):=by
  have:wc (dT H Δ m) agg sz p=some v:=by rw[Hb (by rw[BY,hH])];exact hv
  simp only[oper,eC,simple,hT.ge ha,this,dX]
 simp only[eY,want,e,cls,hb,cond_true];exact h3 f hf
theorem Eo{z len:Nat}{x:ax}{v:V}{cs:List V}{h0:Hf}{n0:K}(hx:ge E x=some v)(a:φ h0 n0 z v len cs)
 (hk:WD C l (i+1) (je d (.i .i64 (len:Nat)) E) h n m (⟨i,Δ,λ_=>True⟩::P) B q):WD C (⟨d,.len 1 x,none,Δ⟩::l) i E h n m P B q:=by
 intro T H rs bs hT hH hr Ej;have e0:∀(H:Hp) (n:K),simple (.len 1 x) T H n=some (.i .i64 (len:Nat),H,n):=by
  intro H n;have e:=hT.ge hx;obtain⟨h1,h2⟩:=a;cases h2 with
  | inl h=>rw[h.1]at e;simp only[simple,e,h.2];rfl
  | inr h=>
   obtain⟨⟨b,o,c,h3,h4⟩,_⟩:=h;cases h3 with
   | inl e'=>rw[e'.1]at e;simp only[simple,e];rfl
   | inr e'=>rw[e']at e;simp only[simple,e];rfl
 have lM:cT (.i .i64 (len:Nat)) (.i .i64 (len:Nat))=true:=by simp only[cT,hJ];simp
 obtain⟨T',qe,nU,E',⟨f1,h3⟩,h4,h5⟩:=hk _ H (⟨i,.len 1 x,Δ,T,.i .i64 (len:Nat)⟩::rs) bs (hT.je d _) hH ⟨⟨rfl,rfl,λH' nW=>⟨_,H',.h,e0 H' .h,lM⟩⟩,hr⟩ Ej;refine⟨T',qe,nU,E',⟨f1,λf hf=>?_⟩,h4,h5⟩;have e:oper (ev C f) (.len 1 x) T (dT H Δ m) n=some (.i .i64 (len:Nat),dT H Δ m,n):=by simp only[oper,eC,e0]
 simp only[eY,want,e,cls,bB,cond_true];exact h3 f hf
theorem acu{x:ax}{bs:List UInt8}(hx:ge E x=some (st bs))
 (hk:WD C l (i+1) (je d (.i .i64 (bs.length:Nat)) E) h n m (⟨i,Δ,λ_=>True⟩::P) B q):WD C (⟨d,.len 0 x,none,Δ⟩::l) i E h n m P B q:=by
 intro T H rs nq hT hH hr Ej;have e0:∀(H:Hp) (n:K),simple (.len 0 x) T H n=some (.i .i64 (bs.length:Nat),H,n):=by intro H n;simp only[simple,hT.ge hx];rfl
 have lM:cT (.i .i64 (bs.length:Nat)) (.i .i64 (bs.length:Nat))=true:=by simp only[cT,hJ];simp
 obtain⟨T',qe,nU,E',⟨f1,h3⟩,h4,h5⟩:=hk _ H (⟨i,.len 0 x,Δ,T,.i .i64 (bs.length:Nat)⟩::rs) nq (hT.je d _) hH ⟨⟨rfl,rfl,λH' nW=>⟨_,H',.h,e0 H' .h,lM⟩⟩,hr⟩ Ej;refine⟨T',qe,nU,E',⟨f1,λf hf=>?_⟩,h4,h5⟩;have e:oper (ev C f) (.len 0 x) T (dT H Δ m) n=some (.i .i64 (bs.length:Nat),dT H Δ m,n):=by simp only[oper,eC,e0]
 simp only[eY,want,e,cls,bB,cond_true];exact h3 f hf
theorem bV{g:K}{w x:Bool}(hg:lk E g=some (.b x))(hx:x=w)(hs:WD C (⟨d,op,none,Δ⟩::l) i E h n m P B q):WD C (⟨d,op,some (g,w),Δ⟩::l) i E h n m P B q:=by intro T H rs bs hT hH hr hb;obtain⟨T',H',n',E',⟨f0,h1⟩,h2,h3⟩:=hs T H rs bs hT hH hr hb;refine⟨T',H',n',E',⟨f0,λf hf=>?_⟩,h2,h3⟩;have:=h1 f hf;simp only[eY,want,hT _ _ hg]at this ⊢;subst hx;cases x<;>exact this
theorem cW{g:K}{w x:Bool}(hg:lk E g=some (.b x))(hx:x=!w)(hs:WD C l (i+1) (je d (.u []) E) h n m P B q):WD C (⟨d,op,some (g,w),Δ⟩::l) i E h n m P B q:=by intro T H rs bs hT hH hr hb;obtain⟨T',H',n',E',⟨f0,h1⟩,h2,h3⟩:=hs _ H rs bs (hT.je d _) hH hr hb;refine⟨T',H',n',E',⟨f0,λf hf=>?_⟩,h2,h3⟩;have:=h1 f hf;subst hx;simp only[eY,want,hT _ _ hg];cases w<;>exact this
theorem uH{g:K}{w:Bool}(hg:lk E g=some (.u []))(hs:WD C l (i+1) (je d (.u []) E) h n m P B q):WD C (⟨d,op,some (g,w),Δ⟩::l) i E h n m P B q:=by intro T H rs bs hT hH hr hb;obtain⟨T',H',n',E',⟨f0,h1⟩,h2,h3⟩:=hs _ H rs bs (hT.je d _) hH hr hb;refine⟨T',H',n',E',⟨f0,λf hf=>?_⟩,h2,h3⟩;have:=h1 f hf;simp only[eY,want,hT _ _ hg];exact this
theorem fK(k:IntKind)(x:Int):cT (.i k x) (.i k x)=true:=by simp only[cT,hJ,jG];simp
theorem fA(l m:Nat):cT (.s l m) (.s l m)=true:=by simp[cT,dD]
theorem φ.da{z:Nat}{v:V}{len:Nat}{cs:List V}(a:φ h n z v len cs):cT v v=true:=by
 obtain⟨h1,h2⟩:=a;cases h2 with
 | inl h=>rw[h.1];rfl
 | inr h=>obtain⟨⟨b,o,c,h3,h4⟩,_⟩:=h;cases h3 with | inl e=>rw[e.1];simp[cT,dD,K.beq_refl] | inr e=>rw[e];simp[cT,dD,K.beq_refl]
theorem Q2{b n:K}(h:b.num<n.num):K.cmp false b n=true:=rG.2 h
theorem φ.below{z:Nat}{v:V}{len:Nat}{cs:List V}(a:φ h n z v len cs){n':K}(hn:n.num<=n'.num):bB n' v=true:=by
 obtain⟨h1,h2⟩:=a;cases h2 with
 | inl h=>rw[h.1];rfl
 | inr h=>
  obtain⟨⟨b,o,c,h3,h4⟩,_⟩:=h;have:=Q2 (fk h4 hn);cases h3 with | inl e=>rw[e.1];exact this | inr e=>rw[e];exact this
theorem jX{a:V}{l:List V}(h1:cT a a=true)(h2:kG l l=true):kG (a::l) (a::l)=true:=by simp[kG,h1,h2]
end
end
section
abbrev S:=List UInt8
structure Nd where
 op:Int
 sort:S
 name:S
 vars:List (S×S)
 kids:List Int
def cR(x:Nd)(vv kv:V):List V:=[.i .i64 x.op,st x.sort,st x.name,vv,kv]
def lh:List (S×S)->List V
 | []=>[]
 | (a,b)::l=>st a::st b::lh l
def ij(k:IntKind):List Int->List V
 | []=>[]
 | a::l=>.i k a::ij k l
theorem Ep(k:IntKind)(l:List Int):(ij k l).length=l.length:=by induction l<;>simp_all [ij]
theorem Q3(l:List (S×S)):(lh l).length=l.length*2:=by
 induction l with
 | nil=>rfl
 | cons a l ih=>simp[lh,ih];omega
theorem KW(k:IntKind):∀{l:List Int} {i:Nat} (h:i<l.length),nth (ij k l) i=some (.i k l[i]):=by
 intro l
 induction l with
 | nil=>intro i h;simp at h
 | cons a l ih=>intro i h;cases i with
  | zero=>rfl
  | succ i=>exact ih (by simpa using h)
theorem acv:∀{l:List (S×S)} {i:Nat} (h:i<l.length),nth (lh l) (i*2)=some (st l[i].1):=by
 intro l
 induction l with
 | nil=>intro i h;simp at h
 | cons a l ih=>intro i h;cases i with
  | zero=>rfl
  | succ i=>
   have:(i+1)*2=i*2+1+1:=by omega
   rw[this];exact ih (by simpa using h)
theorem acw:∀{l:List (S×S)} {i:Nat} (h:i<l.length),nth (lh l) (i*2+1)=some (st l[i].2):=by
 intro l
 induction l with
 | nil=>intro i h;simp at h
 | cons a l ih=>intro i h;cases i with
  | zero=>rfl
  | succ i=>
   have:(i+1)*2+1=(i*2+1)+1+1:=by omega
   rw[this];exact ih (by simpa using h)
theorem acx:∀{l:List (S×S)} {i:Nat} (h:i<l.length),((lh l).drop (i*2)).take 2=[st l[i].1,st l[i].2]:=by
 intro l
 induction l with
 | nil=>intro i h;simp at h
 | cons a l ih=>intro i h;cases i with
  | zero=>rfl
  | succ i=>
   have:(i+1)*2=i*2+1+1:=by omega
   rw[this];exact ih (by simpa using h)
theorem Q4(l:List (S×S))(i j:Nat):((lh l).drop (i*2)).take (j*2)=lh ((l.drop i).take j):=by
 induction i generalizing l with
 | zero=>
  simp only[Nat.zero_mul,jr]
  induction j generalizing l with
  | zero=>simp[lh]
  | succ j ih=>
   cases l with
   | nil=>simp[lh]
   | cons a l=>
    have:(j+1)*2=j*2+1+1:=by omega
    rw[this];simp only[lh,sD,ih]
 | succ i ih=>
  cases l with
  | nil=>simp[lh]
  | cons a l=>
   have:(i+1)*2=i*2+1+1:=by omega
   rw[this];simp only[lh,DB,ih]
theorem acy(k:IntKind)(l:List Int)(i j:Nat):((ij k l).drop i).take j=ij k ((l.drop i).take j):=by
 have h:∀l:List Int,ij k l=l.map (.i k ·):=by intro l;induction l<;>simp_all [ij]
 rw[h,h,←List.map_drop,←List.map_take]
theorem Q5(a b:List (S×S)):lh (a++b)=lh a++lh b:=by induction a<;>simp_all [lh]
theorem Q6{α:Type}:∀(a b:List α),a.length=b.length->over a b=some a:=by
 intro a
 induction a with
 | nil=>intro b h;cases b with | nil=>rfl | cons x b=>simp at h
 | cons x a ih=>intro b h;cases b with
  | nil=>simp at h
  | cons y b=>simp only[over,ih b (by simpa using h)]
def eL(h:Hf)(n:K)(k:IntKind)(v:V)(l:List Int):Prop:=φ h n 1 v l.length (ij k l)
def ep(h:Hf)(n:K)(v:V)(l:List (S×S)):Prop:=φ h n 2 v l.length (lh l)
structure oG(h:Hf)(n:K)(b:K)(o:Nat)(x:Nd)(vv kv:V):Prop where
 lt:b.num<n.num
 all:aX h true 5 (.p b o)=some (.a (cR x vv kv))
 vars:ep h n vv x.vars
 kids:eL h n .i64 kv x.kids
def eZ:List Nd->List (V×V)->List V
 | x::l,p::m=>cR x p.1 p.2++eZ l m
 | _,_=>[]
theorem Hw:∀{l:List Nd} {m:List (V×V)},m.length=l.length->(eZ l m).length=l.length*5:=by
 intro l
 induction l with
 | nil=>intro m h;cases m<;>simp[eZ]
 | cons x l ih=>intro m h;cases m with
  | nil=>simp at h
  | cons p m=>simp only[eZ,oi,ih (by simpa using h),fH];simp[cR];omega
theorem Er:∀{l:List Nd} {m:List (V×V)} (hm:m.length=l.length) {i:Nat} (h:i<l.length),((eZ l m).drop (i*5)).take 5=cR l[i] (m[i]'(by omega)).1 (m[i]'(by omega)).2:=by
 intro l
 induction l with
 | nil=>intro m hm i h;simp at h
 | cons x l ih=>intro m hm i h;cases m with
  | nil=>simp at hm
  | cons p m=>
   cases i with
   | zero=>simp[eZ,cR]
   | succ i=>
    have:(i+1)*5=5+i*5:=by omega
    rw[this,←List.drop_drop];have h5:(eZ (x::l) (p::m)).drop 5=eZ l m:=by simp[eZ,cR]
    rw[h5];exact ih (by simpa using hm) (by simpa using h)
theorem Hy:∀{l:List Nd} {m:List (V×V)} (hm:m.length=l.length) (l':List Nd) (m':List (V×V)),eZ (l++l') (m++m')=eZ l m++eZ l' m':=by
 intro l
 induction l with
 | nil=>intro m hm l' m';cases m with | nil=>rfl | cons p m=>simp at hm
 | cons x l ih=>intro m hm l' m';cases m with
  | nil=>simp at hm
  | cons p m=>simp only[xK,eZ,ih (by simpa using hm) l' m',Bz]
def dA(h:Hf)(n:K)(v:V)(ts:List Nd):Prop:=
 ∃m:List (V×V),∃hm:m.length=ts.length,φ h n 5 v ts.length (eZ ts m)/\∀i (hi:i<ts.length),ep h n (m[i]'(by omega)).1 ts[i].vars/\eL h n .i64 (m[i]'(by omega)).2 ts[i].kids
section
variable {h h':Hf}{n n':K}
theorem eL.ext{k:IntKind}{v:V}{l:List Int}(a:eL h n k v l)(e:Ext h n h' n'):eL h' n' k v l:=φ.ext a e
theorem ep.ext{v:V}{l:List (S×S)}(a:ep h n v l)(e:Ext h n h' n'):ep h' n' v l:=φ.ext a e
theorem oG.ext{b:K}{o:Nat}{x:Nd}{vv kv:V}(a:oG h n b o x vv kv)(e:Ext h n h' n'):oG h' n' b o x vv kv:=
 ⟨fk a.lt e.1,by rw[e.ld a.lt];exact a.all,a.vars.ext e,a.kids.ext e⟩
theorem dA.ext{v:V}{ts:List Nd}(a:dA h n v ts)(e:Ext h n h' n'):dA h' n' v ts:=by obtain⟨m,hm,h1,h2⟩:=a;exact⟨m,hm,h1.ext e,λi hi=>⟨(h2 i hi).1.ext e,(h2 i hi).2.ext e⟩⟩
theorem dA.sl{v:V}{ts:List Nd}(a:dA h n v ts):∃cs,φ h n 5 v ts.length cs:=by obtain⟨m,hm,h1,_⟩:=a;exact⟨_,h1⟩
theorem dA.node{v:V}{ts:List Nd}(a:dA h n v ts){i:Nat}(hi:i<ts.length):∃vv kv,oG h n v.blk (v.off+i*5) ts[i] vv kv:=by obtain⟨m,hm,h1,h2⟩:=a;refine⟨_,_,h1.zQ (by omega),?_,(h2 i hi).1,(h2 i hi).2⟩;rw[h1.nF (by omega) (by omega),Er hm hi]
theorem yl{b:K}{o sz Oo:Nat}{l:List V}(ha:aX h true sz (.p b o)=some (.a l)){j:Nat}{w:V}(hw:nth l j=some w):aX h false Oo (.p b (o+j))=some w:=by
 simp only[aX]at ha ⊢;split at ha
 ·rename_i row hr;simp only[hr,cond_false];simp only[cond_true]at ha;split at ha
  ·rename_i l' hl;cases ha;have hj:j<l.length:=by rw[pr]at hw;exact(oj.1 hw).1
   obtain⟨e,hle⟩:=ow hl;have:l.length=sz:=by rw[e];simp;omega
   rw[Qd hl (by omega)];exact hw
  ·cases ha
 ·cases ha
theorem oG.op{b:K}{o:Nat}{x:Nd}{vv kv:V}(a:oG h n b o x vv kv)(sz:Nat):aX h false sz (.p b (o+0))=some (.i .i64 x.op):=yl a.all U
theorem oG.sort{b:K}{o:Nat}{x:Nd}{vv kv:V}(a:oG h n b o x vv kv)(sz:Nat):aX h false sz (.p b (o+1))=some (st x.sort):=yl a.all U
theorem oG.name{b:K}{o:Nat}{x:Nd}{vv kv:V}(a:oG h n b o x vv kv)(sz:Nat):aX h false sz (.p b (o+2))=some (st x.name):=yl a.all U
theorem oG.vs{b:K}{o:Nat}{x:Nd}{vv kv:V}(a:oG h n b o x vv kv)(sz:Nat):aX h false sz (.p b (o+3))=some vv:=yl a.all U
theorem oG.ks{b:K}{o:Nat}{x:Nd}{vv kv:V}(a:oG h n b o x vv kv)(sz:Nat):aX h false sz (.p b (o+4))=some kv:=yl a.all U
theorem eL.get{k:IntKind}{v:V}{l:List Int}(a:eL h n k v l){i:Nat}(hi:i<l.length)(sz:Nat):aX h false sz (.p v.blk (v.off+i*1))=some (.i k l[i]):=
 φ.get a (by rw[lQ];exact KW k hi) sz
theorem ep.nF{v:V}{l:List (S×S)}(a:ep h n v l){i:Nat}(hi:i<l.length):aX h true 2 (.p v.blk (v.off+i*2))=some (.a [st l[i].1,st l[i].2]):=by rw[φ.nF a (by omega) (by omega),acx hi]
theorem ep.name{v:V}{l:List (S×S)}(a:ep h n v l){i:Nat}(hi:i<l.length)(sz:Nat):aX h false sz (.p v.blk (v.off+i*2+0))=some (st l[i].1):=yl (a.nF hi) U
theorem ep.sort{v:V}{l:List (S×S)}(a:ep h n v l){i:Nat}(hi:i<l.length)(sz:Nat):aX h false sz (.p v.blk (v.off+i*2+1))=some (st l[i].2):=yl (a.nF hi) U
end
end
abbrev k0:K:=.h
abbrev k1:K:=.o .h
abbrev k2:K:=.i .h
abbrev k3:K:=.o (.o .h)
abbrev k4:K:=.i k1
abbrev k5:K:=.o k2
abbrev k6:K:=.i k2
abbrev k7:K:=.o k3
abbrev k8:K:=.i k3
abbrev k9:K:=.o k4
abbrev aA:K:=.i k4
abbrev aE:K:=.o k5
abbrev aF:K:=.i k5
abbrev aG:K:=.o k6
abbrev aP:K:=.i k6
abbrev aT:K:=.o k7
abbrev aU:K:=.i k7
abbrev aM:K:=.o k8
abbrev aV:K:=.i k8
abbrev bf:K:=.o k9
abbrev bu:K:=.i k9
abbrev bn:K:=.o aA
abbrev bH:K:=.i aA
abbrev bC:K:=.o aE
abbrev bz:K:=.i aE
abbrev bJ:K:=.o aF
abbrev bO:K:=.i aF
abbrev bP:K:=.o aG
abbrev bZ:K:=.i aG
abbrev bW:K:=.o aP
abbrev bT:K:=.i aP
abbrev bF:K:=.o aT
abbrev cC:K:=.i aT
abbrev cE:K:=.o aU
abbrev cr:K:=.i aU
abbrev cM:K:=.o aM
abbrev cJ:K:=.i aM
abbrev cK:K:=.o aV
abbrev cu:K:=.i aV
abbrev dn:K:=.o bf
abbrev cN:K:=.i bf
abbrev dt:K:=.o bu
abbrev dB:K:=.i bu
abbrev cY:K:=.o bn
abbrev eJ:K:=.i bn
abbrev eX:K:=.o bH
abbrev ff:K:=.i bH
abbrev eQ:K:=.o bC
abbrev eS:K:=.i bC
abbrev fU:K:=.o bz
abbrev fi:K:=.i bz
abbrev gh:K:=.o bJ
abbrev fo:K:=.i bJ
abbrev fN:K:=.o bO
abbrev gV:K:=.i bO
abbrev jo:K:=.o bP
abbrev jz:K:=.i bP
abbrev hY:K:=.o bZ
abbrev jY:K:=.i bZ
abbrev jZ:K:=.o bW
abbrev j0:K:=.i bW
abbrev iN:K:=.o bT
abbrev j3:K:=.i bT
abbrev j4:K:=.o bF
abbrev j5:K:=.i bF
abbrev j6:K:=.o cC
abbrev kT:K:=.i cC
abbrev jq:K:=.o cE
abbrev hZ:K:=.i cE
abbrev mL:K:=.o cr
abbrev oa:K:=.i cr
abbrev oc:K:=.o cM
abbrev mM:K:=.i cM
abbrev ql:K:=.o cJ
abbrev pR:K:=.i cJ
abbrev qm:K:=.o cK
abbrev pS:K:=.i cK
abbrev qn:K:=.o cu
abbrev oe:K:=.i cu
abbrev qo:K:=.o dn
abbrev pT:K:=.i dn
abbrev sg:K:=.o cN
abbrev sh:K:=.i cN
abbrev si:K:=.o dt
abbrev kU:K:=.i dt
abbrev kB:K:=.o dB
abbrev sj:K:=.i dB
abbrev sk:K:=.o cY
abbrev sn:K:=.i cY
abbrev so:K:=.o eJ
abbrev qp:K:=.i eJ
abbrev qX:K:=.o eX
abbrev mz:K:=.i eX
abbrev tT:K:=.o ff
abbrev tU:K:=.i ff
abbrev tV:K:=.o eQ
abbrev tW:K:=.i eQ
abbrev tX:K:=.o eS
abbrev tY:K:=.i eS
abbrev tZ:K:=.o fU
abbrev rH:K:=.i fU
abbrev rI:K:=.o fi
abbrev py:K:=.i fi
abbrev uI:K:=.o gh
abbrev uJ:K:=.i gh
abbrev uK:K:=.o fo
abbrev uL:K:=.i fo
abbrev uM:K:=.o fN
abbrev uN:K:=.i fN
abbrev uO:K:=.o gV
abbrev uP:K:=.i gV
abbrev uQ:K:=.o jo
abbrev j7:K:=.i jo
abbrev uR:K:=.o jz
abbrev uS:K:=.i jz
abbrev uT:K:=.o hY
abbrev uU:K:=.i hY
abbrev uV:K:=.o jY
abbrev uW:K:=.i jY
abbrev uX:K:=.o jZ
abbrev uY:K:=.i jZ
abbrev nH:K:=.o j0
abbrev pz:K:=.i j0
abbrev uZ:K:=.o iN
abbrev u7:K:=.i iN
abbrev u9:K:=.o j3
abbrev vc:K:=.i j3
abbrev vh:K:=.o j4
abbrev qs:K:=.i j4
abbrev vj:K:=.o j5
abbrev vu:K:=.i j5
abbrev vw:K:=.o j6
abbrev nI:K:=.i j6
abbrev vz:K:=.o kT
abbrev vC:K:=.i kT
abbrev vD:K:=.o jq
abbrev vE:K:=.i jq
abbrev vF:K:=.o hZ
abbrev vG:K:=.i hZ
abbrev vH:K:=.o mL
abbrev vI:K:=.i mL
abbrev ym:K:=.o oa
abbrev yn:K:=.i oa
abbrev BZ:K:=.o oc
abbrev B0:K:=.i oc
abbrev B1:K:=.o mM
abbrev B2:K:=.i mM
abbrev B3:K:=.o ql
abbrev B4:K:=.i ql
abbrev B5:K:=.o pR
abbrev B6:K:=.i pR
abbrev B7:K:=.o qm
abbrev B8:K:=.i qm
abbrev B9:K:=.o pS
abbrev Ca:K:=.i pS
abbrev Cb:K:=.o qn
abbrev Cc:K:=.i qn
abbrev Ce:K:=.o oe
abbrev Cf:K:=.i oe
abbrev Cg:K:=.o qo
abbrev Et:K:=.i qo
abbrev Hz:K:=.o pT
abbrev HA:K:=.i pT
abbrev Ch:K:=.o sg
abbrev HB:K:=.i sg
abbrev HC:K:=.o sh
abbrev HD:K:=.i sh
abbrev HE:K:=.o si
abbrev HF:K:=.i si
abbrev HG:K:=.o kU
abbrev HH:K:=.i kU
abbrev HI:K:=.o kB
abbrev HJ:K:=.i kB
abbrev Q7:K:=.o sj
abbrev Q8:K:=.i sj
abbrev KX:K:=.o sk
abbrev HK:K:=.i sk
abbrev Q9:K:=.o sn
abbrev Ra:K:=.i sn
abbrev Rb:K:=.o so
abbrev Rc:K:=.i so
abbrev Re:K:=.o qp
abbrev Rf:K:=.i qp
abbrev Rg:K:=.o qX
abbrev Rh:K:=.i qX
abbrev Ri:K:=.o mz
abbrev Rj:K:=.i mz
section
def de(b:K)(h h':Hf):Prop:=∀k:K,k.num≠b.num->h' k=h k
theorem Ext.aj{h h1 h2:Hf}{n n1 b:K}(a:Ext h n h1 n1)(e:de b h1 h2)(hb:n.num<=b.num):Ext h n h2 n1:=
 ⟨a.1,λk hk=>by rw[e k (by omega),a.2 k hk]⟩
theorem lj(h:Hf)(b:K)(o:Option O):de b h (hp h b o):=λk hk=>ox _ _ (sU hk)
theorem de.row{h h':Hf}{b k:K}(e:de b h h')(hk:k.num≠b.num):jg h' k=jg h k:=by unfold jg;rw[e k hk]
theorem φ.aj{h h':Hf}{n b:K}{z:Nat}{v:V}{len:Nat}{cs:List V}(a:φ h n z v len cs)(e:de b h h')(hb:v=.ns\/v.blk.num≠b.num):φ h' n z v len cs:=by
 obtain⟨h1,h2⟩:=a;refine⟨h1,h2.imp id λ⟨⟨c,o,d,h3,h4⟩,row,h5,h6⟩=>⟨⟨c,o,d,h3,h4⟩,row,?_,h6⟩⟩;cases hb with
 | inl hb=>cases h3 with
  | inl h3=>rw[hb]at h3;cases h3.1
  | inr h3=>rw[hb]at h3;cases h3
 | inr hb=>rw[e.row hb];exact h5
theorem φ.vJ{h:Hf}{n:K}{z:Nat}{v:V}{len:Nat}{cs:List V}(a:φ h n z v len cs):v=.ns\/v.blk.num<n.num:=by
 obtain⟨h1,h2⟩:=a;cases h2 with
 | inl h=>exact Or.inl h.1
 | inr h=>obtain⟨⟨b,o,c,h3,h4⟩,_⟩:=h;right;cases h3 with | inl e=>rw[e.1];exact h4 | inr e=>rw[e];exact h4
theorem dL{h:Hf}{b:K}{l:List V}{e fz:Nat}(a:h b=some (.c l e fz)){o:Nat}{v:V}(hv:nth l o=some v)(sz:Nat):aX h false sz (.p b o)=some v:=by simp only[aX,jg,a,O.row,cond_false];exact hv
theorem bQ{h:Hf}{b:K}{l l':List V}{e fz:Nat}(a:h b=some (.c l e fz)){o sz:Nat}(hv:db l o sz=some l'):aX h true sz (.p b o)=some (.a l'):=by simp only[aX,jg,a,O.row,cond_true,hv]
theorem Rk{l:List V}{o:Nat}{v:V}{l':List V}(h1:v.cells=[v])(h2:v.one=true)(hp:eK [v] l o=some l'):nh l 0 o 1 v=some l':=by unfold nh;rw[h1];simp only[bE,h2];exact hp
theorem iO{E:Env}{h:Hf}{k:K}{agg:Bool}{sz:Nat}{p v:V}(h1:lk E k=some p)(h2:aX h agg sz p=some v):lW [.cell k agg sz] E h=some v:=by simp only[lW,rA,uD,h1,h2]
theorem Eu{E:Env}{h:Hf}{k k':K}{agg Rl:Bool}{sz Oo:Nat}{p v p' v':V}(h1:lk E k=some p)(h2:aX h agg sz p=some v)(h3:lk E k'=some p')(h4:aX h Rl Oo p'=some v'):
 lW [.cell k agg sz,.cell k' Rl Oo] E h=some (.u [v,v']):=by
 simp only[lW,rA,uD,h1,h2,h3,h4]
section
variable {C:Nat->Option bN}{E:Env}{h:Hf}{n:K}{q:Env->Hf->K->Prop}{m:Made}{P:List PR}{B:List PB}{i:Nat}{l:List AO}{Δ:Nat}{k:V->Hf->K->Prop}
theorem Rm{e:Nat}{zs:List V}(hk:∀h' n',n'.num=n.num+1->h' n=some (.c zs e 0)->Ext h n h' n'->k (.p n 0) h' n'):SO C (.new e zs) E h n k:=
 aan (hk _ _ (K.fQ n) (fR _ _ _) ((Ext.refl h n).new _))
theorem acz{e:Nat}{x:ax}{v:V}{cs:List V}(hx:ge E x=some v)(hc:v.cells=cs)(ho:bE cs=true)(hk:∀h' n',n'.num=n.num+1->h' n=some (.c cs e 0)->Ext h n h' n'->k (.p n 0) h' n'):SO C (.box e x) E h n k:=
 aao hx hc ho (hk _ _ (K.fQ n) (fR _ _ _) ((Ext.refl h n).new _))
theorem Ro{e len:Nat}{zs l:List V}{ps:List (Nat×Nat×ax)}(hl:jh E zs ps=some l)(hk:∀h' n',n'.num=n.num+1->h' n=some (.c l e 0)->Ext h n h' n'->k (.sl n 0 len len) h' n'):SO C (.bsl e zs len ps) E h n k:=
 aap hl (hk _ _ (K.fQ n) (fR _ _ _) ((Ext.refl h n).new _))
theorem acA{e esz bytes m:Nat}{z:List V}{x y:ax}{i j:IntKind}(hx:ge E x=some (.i i (m:Nat)))(hy:ge E y=some (.i j (m:Nat)))(hb:m*bytes<=140737488355328)(fM:m<=9223372036854775807)
 (hk:∀h' n',n'.num=n.num+1->h' n=some (.c (iw z m) e 0)->Ext h n h' n'->k (.sl n 0 m m) h' n'):SO C (.msl e esz bytes z x y) E h n k:=
 aaq hx hy hb fM (hk _ _ (K.fQ n) (fR _ _ _) ((Ext.refl h n).new _))
theorem Rp{sz:Nat}{a x:ax}{b:K}{o e fz:Nat}{l l':List V}{v:V}(ha:ge E a=some (.p b o))(hx:ge E x=some v)(hb:h b=some (.c l e fz))(hl:nh l fz o sz v=some l')
 (hk:∀h',h' b=some (.c l' e fz)->de b h h'->k (.u []) h' n):SO C (.st sz a x) E h n k:=
 aas ha hx hb hl (hk _ (fR _ _ _) (lj _ _ _))
theorem acB{e z bytes m:Nat}{zl new:List V}{s x:ax}{v:V}(hs:ge E s=some .ns)(hx:ge E x=some v)(a:φ h n z v m new)(h1:m*bytes<=1000000000)(h2:bytes<=100000)(h3:m<=1000000000)
 (hk:∀v' h' n',ig h' e z v' m new->Ext h n h' n'->(v'=.ns\/n.num<=v'.blk.num/\v'.blk.num<n'.num)->k v' h' n'):SO C (.app e z bytes zl false s x) E h n k:=
 aax hs hx a h1 h2 h3
  (λh0=>hk .ns h n (by
   have:=a.1;rw[h0]at this ⊢;have:new=[]:=by simpa using this
   rw[this];exact ig.ns h e z) (Ext.refl h n) (Or.inl U))
  (λh0=>hk _ _ _ ⟨a.1,Or.inr ⟨h0,n,rfl,fR _ _ _⟩⟩ ((Ext.refl h n).new _) (Or.inr ⟨χ _,by rw[K.fQ];exact Nat.lt_succ_self _⟩))
theorem Rq{e z bytes m len:Nat}{zl new cs:List V}{s x:ax}{o v:V}(hs:ge E s=some o)(ho:ig h e z o len cs)(hx:ge E x=some v)(a:φ h n z v m new)(h1:(len+m)*bytes<=1000000000)(h2:bytes<=100000)(h3:len+m<=1000000000)
 (hm:0<m)(gK:bE new=true)(hn:o=.ns\/o.blk.num<n.num)
 (hk:∀v' h' n',ig h' e z v' (len+m) (cs++new)->v'.blk=n->n'.num=n.num+1->(∀b:K,b.num<n.num->(o=.ns\/b.num≠o.blk.num)->h' b=h b)->k v' h' n'):SO C (.app e z bytes zl false s x) E h n k:=
 aay hs ho hx a h1 h2 h3 hm gK (λh' g1 g2=>hk _ h' _ ⟨by rw[oi,ho.1,a.1,iJ],Or.inr ⟨by omega,n,rfl,g2⟩⟩ rfl (K.fQ n) (λb hb aR=>g1 b hb (aR.imp id λe=>sU e))) hn
theorem cU{d:K}{x y:ax}{qk:ey}{ik:IntKind}{a b:Int}(hx:ge E x=some (.i ik a))(hy:ge E y=some (.i ik b))(hr:oy ik (a+b))(hk:WO C l ((d,.i ik (a+b))::E) h n q):WO C (⟨some d,.bin .add qk x y,none,Δ⟩::l) E h n q:=df (PM hx hy hr hk)
theorem yo{d:K}{x y:ax}{qk:ey}{ik:IntKind}{a b:Int}(hx:ge E x=some (.i ik a))(hy:ge E y=some (.i ik b))(hr:oy ik (a+b))(hk:WD C l (i+1) ((d,.i ik (a+b))::E) h n m P B q):WD C (⟨some d,.bin .add qk x y,none,Δ⟩::l) i E h n m P B q:=hX U (PM hx hy hr hk)
theorem iz{d:K}{x y:ax}{qk:ey}{ik:IntKind}{a b:Int}(hx:ge E x=some (.i ik a))(hy:ge E y=some (.i ik b))(hr:oy ik (a - b))(hk:WO C l ((d,.i ik (a - b))::E) h n q):WO C (⟨some d,.bin .sub qk x y,none,Δ⟩::l) E h n q:=df (PN hx hy hr hk)
theorem Ci{d:K}{x y:ax}{qk:ey}{ik:IntKind}{a b:Int}(hx:ge E x=some (.i ik a))(hy:ge E y=some (.i ik b))(hr:oy ik (a - b))(hk:WD C l (i+1) ((d,.i ik (a - b))::E) h n m P B q):WD C (⟨some d,.bin .sub qk x y,none,Δ⟩::l) i E h n m P B q:=hX U (PN hx hy hr hk)
theorem acC{d:K}{x y:ax}{qk:ey}{ik:IntKind}{a b:Int}(hx:ge E x=some (.i ik a))(hy:ge E y=some (.i ik b))(hr:oy ik (a*b))(hk:WO C l ((d,.i ik (a*b))::E) h n q):WO C (⟨some d,.bin .mul qk x y,none,Δ⟩::l) E h n q:=df (PO hx hy hr hk)
theorem acD{d:K}{x y:ax}{qk:ey}{ik:IntKind}{a b:Int}(hx:ge E x=some (.i ik a))(hy:ge E y=some (.i ik b))(hr:oy ik (a*b))(hk:WD C l (i+1) ((d,.i ik (a*b))::E) h n m P B q):WD C (⟨some d,.bin .mul qk x y,none,Δ⟩::l) i E h n m P B q:=hX U (PO hx hy hr hk)
theorem bm{d:K}{x y:ax}{qk:ey}{ik:IntKind}{a b:Int}(hx:ge E x=some (.i ik a))(hy:ge E y=some (.i ik b))(hk:WO C l ((d,.b (decide (a=b)))::E) h n q):WO C (⟨some d,.bin .eql qk x y,none,Δ⟩::l) E h n q:=df (PT hx hy hk)
theorem Aj{d:K}{x y:ax}{qk:ey}{ik:IntKind}{a b:Int}(hx:ge E x=some (.i ik a))(hy:ge E y=some (.i ik b))(hk:WD C l (i+1) ((d,.b (decide (a=b)))::E) h n m P B q):WD C (⟨some d,.bin .eql qk x y,none,Δ⟩::l) i E h n m P B q:=hX U (PT hx hy hk)
theorem dE{d:K}{x y:ax}{qk:ey}{ik:IntKind}{a b:Int}(hx:ge E x=some (.i ik a))(hy:ge E y=some (.i ik b))(hk:WO C l ((d,.b (!decide (a=b)))::E) h n q):WO C (⟨some d,.bin .neq qk x y,none,Δ⟩::l) E h n q:=df (PU hx hy hk)
theorem Ew{d:K}{x y:ax}{qk:ey}{ik:IntKind}{a b:Int}(hx:ge E x=some (.i ik a))(hy:ge E y=some (.i ik b))(hk:WD C l (i+1) ((d,.b (!decide (a=b)))::E) h n m P B q):WD C (⟨some d,.bin .neq qk x y,none,Δ⟩::l) i E h n m P B q:=hX U (PU hx hy hk)
theorem aO{d:K}{x y:ax}{qk:ey}{ik:IntKind}{a b:Int}(hx:ge E x=some (.i ik a))(hy:ge E y=some (.i ik b))(hk:WO C l ((d,.b (decide (a<b)))::E) h n q):WO C (⟨some d,.bin .lss qk x y,none,Δ⟩::l) E h n q:=df (PV hx hy hk)
theorem KY{d:K}{x y:ax}{qk:ey}{ik:IntKind}{a b:Int}(hx:ge E x=some (.i ik a))(hy:ge E y=some (.i ik b))(hk:WD C l (i+1) ((d,.b (decide (a<b)))::E) h n m P B q):WD C (⟨some d,.bin .lss qk x y,none,Δ⟩::l) i E h n m P B q:=hX U (PV hx hy hk)
theorem pA{d:K}{x y:ax}{qk:ey}{ik:IntKind}{a b:Int}(hx:ge E x=some (.i ik a))(hy:ge E y=some (.i ik b))(hk:WO C l ((d,.b (decide (a<=b)))::E) h n q):WO C (⟨some d,.bin .leq qk x y,none,Δ⟩::l) E h n q:=df (aaf hx hy hk)
theorem cS{d:K}{x y:ax}{qk:ey}{ik:IntKind}{a b:Int}(hx:ge E x=some (.i ik a))(hy:ge E y=some (.i ik b))(hk:WO C l ((d,.b (decide (b<a)))::E) h n q):WO C (⟨some d,.bin .gtr qk x y,none,Δ⟩::l) E h n q:=df (PW hx hy hk)
theorem wQ{d:K}{x y:ax}{qk:ey}{ik:IntKind}{a b:Int}(hx:ge E x=some (.i ik a))(hy:ge E y=some (.i ik b))(hk:WD C l (i+1) ((d,.b (decide (b<a)))::E) h n m P B q):WD C (⟨some d,.bin .gtr qk x y,none,Δ⟩::l) i E h n m P B q:=hX U (PW hx hy hk)
theorem fL{d:K}{x y:ax}{qk:ey}{ik:IntKind}{a b:Int}(hx:ge E x=some (.i ik a))(hy:ge E y=some (.i ik b))(hk:WO C l ((d,.b (decide (b<=a)))::E) h n q):WO C (⟨some d,.bin .geq qk x y,none,Δ⟩::l) E h n q:=df (PX hx hy hk)
theorem Ey{d:K}{x y:ax}{qk:ey}{ik:IntKind}{a b:Int}(hx:ge E x=some (.i ik a))(hy:ge E y=some (.i ik b))(hk:WD C l (i+1) ((d,.b (decide (b<=a)))::E) h n m P B q):WD C (⟨some d,.bin .geq qk x y,none,Δ⟩::l) i E h n m P B q:=hX U (PX hx hy hk)
theorem Ez{d:K}{x y:ax}{qk:ey}{ik:IntKind}{a b:Nat}(hx:ge E x=some (.i ik a))(hy:ge E y=some (.i ik b))(hb:0<b)(hr:oy ik ((a / b:Nat):Int))(hk:WO C l ((d,.i ik ((a / b:Nat):Int))::E) h n q):WO C (⟨some d,.bin .quo qk x y,none,Δ⟩::l) E h n q:=df (PQ hx hy hb hr hk)
theorem Rr{d:K}{x y:ax}{qk:ey}{ik:IntKind}{a b:Nat}(hx:ge E x=some (.i ik a))(hy:ge E y=some (.i ik b))(hb:0<b)(hr:oy ik ((a / b:Nat):Int))(hk:WD C l (i+1) ((d,.i ik ((a / b:Nat):Int))::E) h n m P B q):WD C (⟨some d,.bin .quo qk x y,none,Δ⟩::l) i E h n m P B q:=hX U (PQ hx hy hb hr hk)
theorem HL{d:K}{x y:ax}{qk:ey}{ik:IntKind}{a b:Nat}(hx:ge E x=some (.i ik a))(hy:ge E y=some (.i ik b))(hb:0<b)(hk:WO C l ((d,.i ik ((a % b:Nat):Int))::E) h n q):WO C (⟨some d,.bin .rem qk x y,none,Δ⟩::l) E h n q:=df (PS hx hy hb hk)
theorem acE{d:K}{x y:ax}{qk:ey}{ik:IntKind}{a b:Nat}(hx:ge E x=some (.i ik a))(hy:ge E y=some (.i ik b))(hb:0<b)(hk:WD C l (i+1) ((d,.i ik ((a % b:Nat):Int))::E) h n m P B q):WD C (⟨some d,.bin .rem qk x y,none,Δ⟩::l) i E h n m P B q:=hX U (PS hx hy hb hk)
theorem en{d:K}{x y:ax}{qk:ey}{a b:S}(hx:ge E x=some (st a))(hy:ge E y=some (st b))(hk:WO C l ((d,.b (decide (a=b)))::E) h n q):WO C (⟨some d,.bin .eql qk x y,none,Δ⟩::l) E h n q:=df (P3 hx hy hk)
theorem Ak{d:K}{x y:ax}{qk:ey}{a b:S}(hx:ge E x=some (st a))(hy:ge E y=some (st b))(hk:WD C l (i+1) ((d,.b (decide (a=b)))::E) h n m P B q):WD C (⟨some d,.bin .eql qk x y,none,Δ⟩::l) i E h n m P B q:=hX U (P3 hx hy hk)
theorem iP{d:K}{x y:ax}{qk:ey}{a b:S}(hx:ge E x=some (st a))(hy:ge E y=some (st b))(hk:WO C l ((d,.b (!decide (a=b)))::E) h n q):WO C (⟨some d,.bin .neq qk x y,none,Δ⟩::l) E h n q:=df (P4 hx hy hk)
theorem Rs{d:K}{x y:ax}{qk:ey}{a b:S}(hx:ge E x=some (st a))(hy:ge E y=some (st b))(hk:WD C l (i+1) ((d,.b (!decide (a=b)))::E) h n m P B q):WD C (⟨some d,.bin .neq qk x y,none,Δ⟩::l) i E h n m P B q:=hX U (P4 hx hy hk)
theorem HM{d:K}{x y:ax}{a b:Bool}(hx:ge E x=some (.b a))(hy:ge E y=some (.b b))(hk:WO C l ((d,.b (a==b))::E) h n q):WO C (⟨some d,.bin .eql (.one .bool) x y,none,Δ⟩::l) E h n q:=df (aag hx hy hk)
theorem KZ{d:K}{x y:ax}{a b:Bool}(hx:ge E x=some (.b a))(hy:ge E y=some (.b b))(hk:WO C l ((d,.b (!(a==b)))::E) h n q):WO C (⟨some d,.bin .neq (.one .bool) x y,none,Δ⟩::l) E h n q:=df (P2 hx hy hk)
theorem acF{d:K}{x y:ax}{a b:Bool}(hx:ge E x=some (.b a))(hy:ge E y=some (.b b))(hk:WD C l (i+1) ((d,.b (!(a==b)))::E) h n m P B q):WD C (⟨some d,.bin .neq (.one .bool) x y,none,Δ⟩::l) i E h n m P B q:=hX U (P2 hx hy hk)
theorem K0{d:K}{op:BinOp}{x y:ax}{qk:ey}{a b v:V}(hx:ge E x=some a)(hy:ge E y=some b)(hv:pk op qk a b=some v)(hk:WO C l ((d,v)::E) h n q):WO C (⟨some d,.bin op qk x y,none,Δ⟩::l) E h n q:=df (mI hx hy hv hk)
theorem Ru{d:K}{op:BinOp}{x y:ax}{qk:ey}{a b v:V}(hx:ge E x=some a)(hy:ge E y=some b)(hv:pk op qk a b=some v)(hk:WD C l (i+1) ((d,v)::E) h n m P B q):WD C (⟨some d,.bin op qk x y,none,Δ⟩::l) i E h n m P B q:=hX U (mI hx hy hv hk)
theorem γ{d:K}{x:ax}{v:V}(hx:ge E x=some v)(hk:WO C l ((d,v)::E) h n q):WO C (⟨some d,.mv x,none,Δ⟩::l) E h n q:=df (PJ hx hk)
theorem ao{d:K}{x:ax}{v:V}(hx:ge E x=some v)(hk:WD C l (i+1) ((d,v)::E) h n m P B q):WD C (⟨some d,.mv x,none,Δ⟩::l) i E h n m P B q:=hX U (PJ hx hk)
theorem aS{d:K}{c x y:ax}{b:Bool}{v:V}(hc:ge E c=some (.b b))(hb:b=true)(hx:ge E x=some v)(hk:WO C l ((d,v)::E) h n q):WO C (⟨some d,.pick c x y,none,Δ⟩::l) E h n q:=df (PK hc hb hx hk)
theorem yp{d:K}{c x y:ax}{b:Bool}{v:V}(hc:ge E c=some (.b b))(hb:b=true)(hx:ge E x=some v)(hk:WD C l (i+1) ((d,v)::E) h n m P B q):WD C (⟨some d,.pick c x y,none,Δ⟩::l) i E h n m P B q:=hX U (PK hc hb hx hk)
theorem aK{d:K}{c x y:ax}{b:Bool}{v:V}(hc:ge E c=some (.b b))(hb:b=false)(hx:ge E y=some v)(hk:WO C l ((d,v)::E) h n q):WO C (⟨some d,.pick c x y,none,Δ⟩::l) E h n q:=df (PL hc hb hx hk)
theorem vK{d:K}{c x y:ax}{b:Bool}{v:V}(hc:ge E c=some (.b b))(hb:b=false)(hx:ge E y=some v)(hk:WD C l (i+1) ((d,v)::E) h n m P B q):WD C (⟨some d,.pick c x y,none,Δ⟩::l) i E h n m P B q:=hX U (PL hc hb hx hk)
theorem pB{d:K}{x:ax}{j ik:IntKind}{a:Int}(hx:ge E x=some (.i ik a))(hr:oy j a)(hk:WO C l ((d,.i j a)::E) h n q):WO C (⟨some d,.cv (.toInt j) x,none,Δ⟩::l) E h n q:=df (PY hx hr hk)
theorem vL{d:K}{x:ax}{j ik:IntKind}{a:Int}(hx:ge E x=some (.i ik a))(hr:oy j a)(hk:WD C l (i+1) ((d,.i j a)::E) h n m P B q):WD C (⟨some d,.cv (.toInt j) x,none,Δ⟩::l) i E h n m P B q:=hX U (PY hx hr hk)
theorem di{d:K}{x:ax}{b:Bool}(hx:ge E x=some (.b b))(hk:WO C l ((d,.b (!b))::E) h n q):WO C (⟨some d,.un .not x,none,Δ⟩::l) E h n q:=df (PZ hx hk)
theorem rJ{d:K}{x:ax}{b:Bool}(hx:ge E x=some (.b b))(hk:WD C l (i+1) ((d,.b (!b))::E) h n m P B q):WD C (⟨some d,.un .not x,none,Δ⟩::l) i E h n m P B q:=hX U (PZ hx hk)
theorem lZ{d:K}{x y:ax}{ik:IntKind}{s:S}{j:Nat}(hx:ge E x=some (st s))(hy:ge E y=some (.i ik (j:Nat)))(hj:j<s.length)(hk:WO C l ((d,.i .u8 (s[j].toNat:Nat))::E) h n q):WO C (⟨some d,.idx none x y,none,Δ⟩::l) E h n q:=df (P5 hx hy hj hk)
theorem K1{d:K}{x y:ax}{ik:IntKind}{s:S}{j:Nat}(hx:ge E x=some (st s))(hy:ge E y=some (.i ik (j:Nat)))(hj:j<s.length)(hk:WD C l (i+1) ((d,.i .u8 (s[j].toNat:Nat))::E) h n m P B q):WD C (⟨some d,.idx none x y,none,Δ⟩::l) i E h n m P B q:=hX U (P5 hx hy hj hk)
theorem Al{d:K}{x:ax}{lo hi:Option ax}{s:S}{a b:Nat}(hx:ge E x=some (st s))(gg:bd E 0 lo=some a)(nX:bd E s.length hi=some b)(h1:a<=b)(h2:b<=s.length)(hk:WO C l ((d,st ((s.drop a).take (b - a)))::E) h n q):WO C (⟨some d,.sli .str x lo hi none,none,Δ⟩::l) E h n q:=df (P6 hx gg nX h1 h2 hk)
theorem EA{d:K}{x:ax}{lo hi:Option ax}{s:S}{a b:Nat}(hx:ge E x=some (st s))(gg:bd E 0 lo=some a)(nX:bd E s.length hi=some b)(h1:a<=b)(h2:b<=s.length)(hk:WD C l (i+1) ((d,st ((s.drop a).take (b - a)))::E) h n m P B q):WD C (⟨some d,.sli .str x lo hi none,none,Δ⟩::l) i E h n m P B q:=hX U (P6 hx gg nX h1 h2 hk)
theorem dG{d:K}{x:ax}{j:Nat}{vs:List V}{v:V}(hx:ge E x=some (.u vs))(hv:nth vs j=some v)(hk:WO C l ((d,v)::E) h n q):WO C (⟨some d,.ext x j,none,Δ⟩::l) E h n q:=df (P7 hx hv hk)
theorem HN{d:K}{x:ax}{j:Nat}{vs:List V}{v:V}(hx:ge E x=some (.u vs))(hv:nth vs j=some v)(hk:WD C l (i+1) ((d,v)::E) h n m P B q):WD C (⟨some d,.ext x j,none,Δ⟩::l) i E h n m P B q:=hX U (P7 hx hv hk)
theorem yq{d:K}{x:ax}{o sz:Nat}{vs:List V}{v:V}(hx:ge E x=some (.a vs))(hv:nth vs o=some v)(hk:WO C l ((d,v)::E) h n q):WO C (⟨some d,.fld false o sz x,none,Δ⟩::l) E h n q:=df (aai hx hv hk)
theorem mc{d:K}{zs vs:List V}{ps:List (Nat×Nat×ax)}(hl:jh E zs ps=some vs)(hk:WO C l ((d,.a vs)::E) h n q):WO C (⟨some d,.bld zs ps,none,Δ⟩::l) E h n q:=df (P8 hl hk)
theorem wR{d:K}{zs vs:List V}{ps:List (Nat×Nat×ax)}(hl:jh E zs ps=some vs)(hk:WD C l (i+1) ((d,.a vs)::E) h n m P B q):WD C (⟨some d,.bld zs ps,none,Δ⟩::l) i E h n m P B q:=hX U (P8 hl hk)
theorem Am{d:K}{f:Nat}{x y:List ax}{vs ws:List V}(hx:wK E x=some vs)(hy:wK E y=some ws)(hk:WO C l ((d,.f f vs ws)::E) h n q):WO C (⟨some d,.mfn f x y,none,Δ⟩::l) E h n q:=df (aaj hx hy hk)
theorem acG{d:K}{x:ax}{b:K}{o:Nat}(hx:ge E x=some (.p b o))(hk:WO C l ((d,.p b o)::E) h n q):WO C (⟨some d,.nck x,none,Δ⟩::l) E h n q:=df (aak hx hk)
theorem K2{d:K}{x y:ax}{ik:IntKind}{a b:Int}(hx:ge E x=some (.i ik a))(hy:ge E y=some (.i ik b))(hk:WO C l ((d,.i ik (max a b))::E) h n q):WO C (⟨some d,.mm true [x,y],none,Δ⟩::l) E h n q:=df (P9 hx hy hk)
theorem acH{d:K}{x y:ax}{ik:IntKind}{a b:Int}(hx:ge E x=some (.i ik a))(hy:ge E y=some (.i ik b))(hk:WD C l (i+1) ((d,.i ik (max a b))::E) h n m P B q):WD C (⟨some d,.mm true [x,y],none,Δ⟩::l) i E h n m P B q:=hX U (P9 hx hy hk)
theorem ρ{d:K}{off:Nat}{x:ax}{b:K}{o:Nat}(hx:ge E x=some (.p b o))(hk:WO C l ((d,.p b (o+off))::E) h n q):WO C (⟨some d,.fad off x,none,Δ⟩::l) E h n q:=df (Qb hx hk)
theorem bX{d:K}{off:Nat}{x:ax}{b:K}{o:Nat}(hx:ge E x=some (.p b o))(hk:WD C l (i+1) ((d,.p b (o+off))::E) h n m P B q):WD C (⟨some d,.fad off x,none,Δ⟩::l) i E h n m P B q:=hX U (Qb hx hk)
theorem cH{d:K}{x:ax}{s:S}(hx:ge E x=some (st s))(hk:WO C l ((d,.i .i64 (s.length:Nat))::E) h n q):WO C (⟨some d,.len 0 x,none,Δ⟩::l) E h n q:=df (aah hx hk)
theorem bj{d:K}{z:Nat}{x y:ax}{v:V}{len j:Nat}{ik:IntKind}{cs:List V}{h0:Hf}{n0:K}(hx:ge E x=some v)(hy:ge E y=some (.i ik (j:Nat)))(a:φ h0 n0 z v len cs)(hj:j<len)(hk:WO C l ((d,.p v.blk (v.off+j*z))::E) h n q):WO C (⟨some d,.iad none z x y,none,Δ⟩::l) E h n q:=df (Qe hx hy a hj hk)
theorem cX{d:K}{z:Nat}{x y:ax}{v:V}{len j:Nat}{ik:IntKind}{cs:List V}{h0:Hf}{n0:K}(hx:ge E x=some v)(hy:ge E y=some (.i ik (j:Nat)))(a:φ h0 n0 z v len cs)(hj:j<len)(hk:WD C l (i+1) ((d,.p v.blk (v.off+j*z))::E) h n m P B q):WD C (⟨some d,.iad none z x y,none,Δ⟩::l) i E h n m P B q:=hX U (Qe hx hy a hj hk)
theorem az{d:K}{z:Nat}{x:ax}{v:V}{len:Nat}{cs:List V}{h0:Hf}{n0:K}(hx:ge E x=some v)(a:φ h0 n0 z v len cs)(hk:WO C l ((d,.i .i64 (len:Nat))::E) h n q):WO C (⟨some d,.len 1 x,none,Δ⟩::l) E h n q:=df (aat hx a hk)
theorem ν{d:K}{agg:Bool}{sz:Nat}{x:ax}{p v:V}(hx:ge E x=some p)(hv:aX h agg sz p=some v)(hk:WO C l ((d,v)::E) h n q):WO C (⟨some d,.ld agg sz x,none,Δ⟩::l) E h n q:=df (aar hx hv hk)
theorem du{d:K}{e:Nat}{zs:List V}(hk:∀h' n',n'.num=n.num+1->h' n=some (.c zs e 0)->Ext h n h' n'->WO C l ((d,.p n 0)::E) h' n' q):WO C (⟨some d,.new e zs,none,Δ⟩::l) E h n q:=df (Rm hk)
theorem sZ{d:K}{e:Nat}{zs:List V}(hk:∀h' n',n'.num=n.num+1->h' n=some (.c zs e 0)->Ext (ji h Δ m) n h' n'->WD C l (i+1) ((d,.p n 0)::E) (oF h h' Δ m) n' ((n,i)::m) P B q):WD C (⟨some d,.new e zs,none,Δ⟩::l) i E h n m P B q:=Q0 U (Rm hk)
theorem et{d:K}{e:Nat}{x:ax}{v:V}{cs:List V}(hx:ge E x=some v)(hc:v.cells=cs)(ho:bE cs=true)(hk:∀h' n',n'.num=n.num+1->h' n=some (.c cs e 0)->Ext h n h' n'->WO C l ((d,.p n 0)::E) h' n' q):WO C (⟨some d,.box e x,none,Δ⟩::l) E h n q:=df (acz hx hc ho hk)
theorem lu{d:K}{e len:Nat}{zs vs:List V}{ps:List (Nat×Nat×ax)}(hl:jh E zs ps=some vs)(hk:∀h' n',n'.num=n.num+1->h' n=some (.c vs e 0)->Ext h n h' n'->WO C l ((d,.sl n 0 len len)::E) h' n' q):WO C (⟨some d,.bsl e zs len ps,none,Δ⟩::l) E h n q:=df (Ro hl hk)
theorem rK{d:K}{e len:Nat}{zs vs:List V}{ps:List (Nat×Nat×ax)}(hl:jh E zs ps=some vs)(hk:∀h' n',n'.num=n.num+1->h' n=some (.c vs e 0)->Ext (ji h Δ m) n h' n'->WD C l (i+1) ((d,.sl n 0 len len)::E) (oF h h' Δ m) n' ((n,i)::m) P B q):WD C (⟨some d,.bsl e zs len ps,none,Δ⟩::l) i E h n m P B q:=Q0 U (Ro hl hk)
theorem wS{d:K}{e esz bytes c:Nat}{z:List V}{x y:ax}{ik jk:IntKind}(hx:ge E x=some (.i ik (c:Nat)))(hy:ge E y=some (.i jk (c:Nat)))(hb:c*bytes<=140737488355328)(fM:c<=9223372036854775807)(hk:∀h' n',n'.num=n.num+1->h' n=some (.c (iw z c) e 0)->Ext h n h' n'->WO C l ((d,.sl n 0 c c)::E) h' n' q):WO C (⟨some d,.msl e esz bytes z x y,none,Δ⟩::l) E h n q:=df (acA hx hy hb fM hk)
theorem bL{sz:Nat}{a x:ax}{b:K}{o e fz:Nat}{vs ws:List V}{v:V}(ha:ge E a=some (.p b o))(hx:ge E x=some v)(hb:h b=some (.c vs e fz))(hl:nh vs fz o sz v=some ws)(hk:∀h',h' b=some (.c ws e fz)->de b h h'->WO C l (E) h' n q):WO C (⟨none,.st sz a x,none,Δ⟩::l) E h n q:=df (Rp ha hx hb hl hk)
theorem fV{sz:Nat}{a x:ax}{b:K}{o e fz:Nat}{vs ws:List V}{v:V}(ha:ge E a=some (.p b o))(hx:ge E x=some v)(hb:(ji h Δ m) b=some (.c vs e fz))(hl:nh vs fz o sz v=some ws)(hk:∀h',h' b=some (.c ws e fz)->de b (ji h Δ m) h'->WD C l (i+1) (E) (oF h h' Δ m) n m P (⟨i,Δ,h,oF h h' Δ m⟩::B) q):WD C (⟨none,.st sz a x,none,Δ⟩::l) i E h n m P B q:=KV U (Rp ha hx hb hl hk)
theorem HO{d:K}{e z bytes c:Nat}{zl new:List V}{s x:ax}{v:V}(hs:ge E s=some .ns)(hx:ge E x=some v)(a:φ h n z v c new)(h1:c*bytes<=1000000000)(h2:bytes<=100000)(h3:c<=1000000000)(hk:∀v' h' n',ig h' e z v' c new->Ext h n h' n'->(v'=.ns\/n.num<=v'.blk.num/\v'.blk.num<n'.num)->WO C l ((d,v')::E) h' n' q):WO C (⟨some d,.app e z bytes zl false s x,none,Δ⟩::l) E h n q:=df (acB hs hx a h1 h2 h3 hk)
theorem yr{d:K}{e z bytes c len:Nat}{zl new cs:List V}{s x:ax}{o v:V}(hs:ge E s=some o)(ho:ig h e z o len cs)(hx:ge E x=some v)(a:φ h n z v c new)(h1:(len+c)*bytes<=1000000000)(h2:bytes<=100000)(h3:len+c<=1000000000)(hm:0<c)(gK:bE new=true)(hn:o=.ns\/o.blk.num<n.num)(hk:∀v' h' n',ig h' e z v' (len+c) (cs++new)->v'.blk=n->n'.num=n.num+1->(∀b:K,b.num<n.num->(o=.ns\/b.num≠o.blk.num)->h' b=h b)->WO C l ((d,v')::E) h' n' q):WO C (⟨some d,.app e z bytes zl false s x,none,Δ⟩::l) E h n q:=df (Rq hs ho hx a h1 h2 h3 hm gK hn hk)
theorem K3{d:K}{z:Nat}{x:ax}{lo hi:Option ax}{v:V}{len a b:Nat}{cs:List V}(hx:ge E x=some v){n0:K}(s:φ h n0 z v len cs)(gg:bd E 0 lo=some a)(nX:bd E len hi=some b)(h1:a<=b)(h2:b<=len)
 (hk:∀v',φ h n0 z v' (b - a) ((cs.drop (a*z)).take ((b - a)*z))->v'.len=b - a/\v'.blk=v.blk/\(v=.ns->v'=.ns)->WO C l ((d,v')::E) h n q):WO C (⟨some d,.sli (.sl z) x lo hi none,none,Δ⟩::l) E h n q:=df (Qf hx s gg nX h1 h2 hk)
theorem Rv{d:K}{z:Nat}{x:ax}{lo hi:Option ax}{v:V}{len a b:Nat}{cs:List V}(hx:ge E x=some v){n0:K}(s:φ (ji h Δ m) n0 z v len cs)(gg:bd E 0 lo=some a)(nX:bd E len hi=some b)(h1:a<=b)(h2:b<=len)
 (hk:∀v',φ (ji h Δ m) n0 z v' (b - a) ((cs.drop (a*z)).take ((b - a)*z))->v'.len=b - a/\v'.blk=v.blk/\(v=.ns->v'=.ns)->WD C l (i+1) ((d,v')::E) h n m P B q):WD C (⟨some d,.sli (.sl z) x lo hi none,none,Δ⟩::l) i E h n m P B q:=hX U (Qf hx s gg nX h1 h2 hk)
theorem acI{d:K}{z:Nat}{x hi mx:ax}{v:V}{len:Nat}{cs:List V}{i1 i2:IntKind}(hx:ge E x=some v){n0:K}(a:φ h n0 z v len cs)(nX:ge E hi=some (.i i1 (len:Nat)))(xq:ge E mx=some (.i i2 (len:Nat)))
 (hk:∀v',φ h n0 z v' len cs->(v'.len=len/\v'.blk=v.blk/\(v=.ns->v'=.ns))->WO C l ((d,v')::E) h n q):WO C (⟨some d,.sli (.sl z) x none (some hi) (some mx),none,Δ⟩::l) E h n q:=df (aaw hx a nX xq hk)
theorem ak{d:K}{f:ax}{xs:List ax}{fv:V}{vs:List V}(hf:ge E f=some fv)(hl:wK E xs=some vs)(hc:τ C fv vs h n (λv h' n'=>WO C l ((d,v)::E) h' n' q)):WO C (⟨some d,.cg f xs,none,Δ⟩::l) E h n q:=df (Qa hf hl hc)
theorem cj{d:K}{f:ax}{xs:List ax}{fv:V}{vs:List V}(hf:ge E f=some fv)(hl:wK E xs=some vs)(hc:τ C fv vs (ji h Δ m) n (λv h' n'=>WD C l (i+1) ((d,v)::E) (oF h h' Δ m) n' m P (⟨i,Δ,h,oF h h' Δ m⟩::B) q)):WD C (⟨some d,.cg f xs,none,Δ⟩::l) i E h n m P B q:=KV U (Qa hf hl hc)
end
end
section
section
variable {C:Nat->Option bN}{E:Env}{h:Hf}{n:K}
theorem τ.y{k:K}{vs:List V}{T:Tr V}{E1:Env}{ps:List K}{as body:AC}{Q:V->Hf->K->Prop}(hk:h k=some (.lp true .normal T ps as body))(hT:Le E T)(hb:lV ps vs E=some E1)(hl:ps.length=vs.length)
 (hw:WC C as E1 h n (λex E2 h2 n2=>ex=.normal/\h2 k=h k/\WC C body E2 (hp h2 k (some (.lp false .normal T ps as body))) n2 (λex E3 h3 n3=>
  h3 k=some (.lp false .normal T ps as body)/\ex.rq=false/\Q (.b ex.js) (hp h3 k (some (.lp ex.js ex T ps as body))) n3))):τ C (.y k) vs h n Q:=by
 intro H hH;obtain⟨T1,h1,h2⟩:=PG hT hb;obtain⟨r,E2,⟨f0,h3⟩,h4,h5,h6,h7⟩:=hw T1 H h2 hH;obtain⟨ex,T2,v2,H2,n2⟩:=r;simp only at h5 h6 h7;subst h5;obtain⟨r,E3,⟨f1,h8⟩,h9,kC,mN,jO⟩:=h7 T2 (H2.put (some (.lp false .normal T ps as body)) k) h4 (jS _ _ _);obtain⟨ex,T3,v3,H3,n3⟩:=r;simp only at kC mN jO;have e1:H.get k=some (.lp true .normal T ps as body):=by rw[hH];exact hk
 have e2:H2.get k=some (.lp true .normal T ps as body):=by rw[h6];exact hk
 have e3:Nat.beq ps.length vs.length=true:=by rw[hl,dD];simp
 refine⟨.b ex.js,H3.put (some (.lp ex.js ex T ps as body)) k,n3,fS.step ⟨max f0 f1,λf hf=>?_⟩,by rw[jS];exact jO⟩;have g1:=h3 f (by omega);have g2:=h8 f (by omega);simp only[bD,e1,h1,e3,cond_true,g1,e2,g2,kC,mN,cond_false]
def Iter(C:Nat->Option bN)(fv:V)(F:Hf->K->Prop)(ys:List (List V)):Prop:=
 ∀(y:V) (I:Nat->Hf->K->Prop) (D:Hf->K->Prop) (h:Hf) (n:K),(∀i h n h' n',I i h n->Ext h n h' n'->I i h' n')->(∀i h n,I i h n->F h n)->(∀i (hi:i<ys.length) h n,I i h n->τ C y ys[i] h n (λv h' n'=>(v=.b true/\I (i+1) h' n')\/(v=.b false/\D h' n')))->I 0 h n->τ C fv [y] h n (λv h' n'=>I ys.length h' n'\/D h' n')
def rnd(k:K)(o:Option O)(I:Hf->K->Prop)(D:Ex->Hf->K->Prop):Ex->Env->Hf->K->Prop
 | .normal,_,h,n=>k.num<n.num/\h k=o/\I h n
 | .ret,_,h,n=>k.num<n.num/\h k=o/\D .ret h n
 | .exit i,_,h,n=>k.num<n.num/\h k=o/\D (.exit i) h n
 | .panic _,_,_,_=>False
theorem An{f:ax}{fv:V}{ps:List K}{as body:AC}{Q:Ex->Env->Hf->K->Prop}{F:Hf->K->Prop}{ys:List (List V)}(hf:ge E f=some fv)(it:Iter C fv F ys)
 (I:Nat->Hf->K->Prop)(D:Ex->Hf->K->Prop)
 (hE:∀i h1 n1 h' n',I i h1 n1->Ext h1 n1 h' n'->I i h' n')
 (hB:∀i h1 n1 h',I i h1 n1->de n h1 h'->I i h' n1)
 (hF:∀i h n,I i h n->F h n)
 (hl:∀i (hi:i<ys.length),ps.length=ys[i].length)
 (h0:∀h',de n h h'->I 0 h' n.succ)
 (hw:∀i (hi:i<ys.length) h1 n1 E1,n.num<n1.num->I i h1 n1->lV ps ys[i] E=some E1->WC C as E1 h1 n1 (λex E2 h2 n2=>ex=.normal/\h2 n=h1 n/\∀qt,de n h2 qt->WC C body E2 qt n2 (rnd n (qt n) (I (i+1)) D)))
 (hQ:∀h' n',n.num<n'.num->I ys.length h' n'->Q .normal E h' n')
 (hD:∀ex h' n' h2,n.num<n'.num->D ex h' n'->de n h' h2->Q ex E h2 n'):WC C (.lT f ps as body) E h n Q:=by
 intro T H hT hH;let J:Nat->Hf->K->Prop:=λi h' n'=>n.num<n'.num/\I i h' n'/\h' n=some (.lp true .normal T ps as body);let G:Hf->K->Prop:=λh' n'=>n.num<n'.num/\∃ex,(ex.rq=false/\ex.js=false)/\h' n=some (.lp false ex T ps as body)/\∃h2,de n h2 h'/\D ex h2 n';have key:=it (.y n) J G (hp h n (some (.lp true .normal T ps as body))) n.succ
  (λi h n h' n' hj he=>⟨fk hj.1 he.1,hE _ _ _ _ _ hj.2.1 he,by rw[he.2 _ hj.1];exact hj.2.2⟩)
  (λi h n hj=>hF i h n hj.2.1)
  (λi hi h1 n1 hj=>by
   have K4:∃E1,lV ps ys[i] E=some E1:=by
    have:∀(ps:List K) (vs:List V) (E:Env),ps.length=vs.length->∃E1,lV ps vs E=some E1:=by
     intro ps
     induction ps with
     | nil=>intro vs E hl;cases vs with | nil=>exact⟨E,rfl⟩ | cons v vs=>simp at hl
     | cons k ps ih=>intro vs E hl;cases vs with | nil=>simp at hl | cons v vs=>exact ih vs _ (by simpa using hl)
    exact this _ _ _ (hl i hi)
   obtain⟨E1,jb⟩:=K4;refine τ.y hj.2.2 hT jb (hl i hi) ?_;refine Hc (hw i hi h1 n1 E1 hj.1 hj.2.1 jb) ?_;intro ex E2 h2 n2 hx;refine⟨hx.1,hx.2.1,?_⟩;refine Hc (hx.2.2 _ (lj h2 n _)) ?_;intro ex E3 h3 n3 hr;rw[fR]at hr;cases ex with
   | normal=>exact⟨hr.2.1,rfl,Or.inl ⟨rfl,hr.1,hB _ _ _ _ hr.2.2 (lj _ _ _),fR _ _ _⟩⟩
   | ret=>exact⟨hr.2.1,rfl,Or.inr ⟨rfl,hr.1,.ret,⟨rfl,rfl⟩,fR _ _ _,h3,lj _ _ _,hr.2.2⟩⟩
   | exit id=>exact⟨hr.2.1,rfl,Or.inr ⟨rfl,hr.1,.exit id,⟨rfl,rfl⟩,fR _ _ _,h3,lj _ _ _,hr.2.2⟩⟩
   | panic v=>exact hr.elim)
  ⟨by rw[K.fQ];omega,h0 _ (lj _ _ _),fR _ _ _⟩
 obtain⟨v,H',n',⟨f0,h1⟩,h2⟩:=key (H.put (some (.lp true .normal T ps as body)) n) (by rw[jS,hH]);cases h2 with
 | inl h2=>
  obtain⟨g1,g2,g3⟩:=h2;refine⟨⟨.normal,T,.q,H'.put none n,n'⟩,E,fS.step ⟨f0,λf C0=>?_⟩,hT,?_⟩
  ·simp only[bD,hT.ge hf,h1 f C0,g3,Ex.rq,cond_false]
  ·simp only[jS];exact hQ _ _ g1 (hB _ _ _ _ g2 (lj _ _ _))
 | inr h2=>
  obtain⟨g1,ex,⟨g2,g3⟩,g4,h2,g5,g6⟩:=h2;refine⟨⟨ex,T,.q,H'.put none n,n'⟩,E,fS.step ⟨f0,λf C0=>?_⟩,hT,?_⟩
  ·simp only[bD,hT.ge hf,h1 f C0,g4,g2,g3,Bool.or_self,cond_false]
  ·simp only[jS];exact hD _ _ _ _ g1 g6 (λk hk=>by rw[ox _ _ (sU hk),g5 k hk])
end
end
section
variable {C:Nat->Option bN}{E:Env}{h:Hf}{n:K}
def Rw(C:Nat->Option bN)(fv:V)(b:K)(c0:Option O)(ys:List (List V)):Prop:=
 ∀(y:V) (I:Nat->Hf->K->Prop) (D:Hf->K->Prop) (h:Hf) (n:K),(∀i h n h' n',I i h n->Ext h n h' n'->I i h' n')->(∀i h n h',I i h n->de b h h'->I i h' n)->b.num<n.num->h b=c0->(∀i (hi:i<ys.length) h n,b.num<n.num->I i h n->τ C y ys[i] h n (λv h' n'=>n.num<=n'.num/\h' b=h b/\((v=.b true/\I (i+1) h' n')\/(v=.b false/\D h' n'))))->I 0 h n->τ C fv [y] h n (λv h' n'=>I ys.length h' n'\/D h' n')
def acK(k b:K)(n0:K)(o ob:Option O)(I:Hf->K->Prop)(D:Ex->Hf->K->Prop):Ex->Env->Hf->K->Prop
 | .normal,_,h,n=>n0.num<=n.num/\h k=o/\h b=ob/\I h n
 | .ret,_,h,n=>n0.num<=n.num/\h k=o/\h b=ob/\D .ret h n
 | .exit i,_,h,n=>n0.num<=n.num/\h k=o/\h b=ob/\D (.exit i) h n
 | .panic _,_,_,_=>False
theorem acL{f:ax}{fv:V}{ps:List K}{as body:AC}{Q:Ex->Env->Hf->K->Prop}{b:K}{c0:Option O}{ys:List (List V)}(hf:ge E f=some fv)(it:Rw C fv b c0 ys)(jU:b.num<n.num)(pU:h b=c0)
 (I:Nat->Hf->K->Prop)(D:Ex->Hf->K->Prop)
 (hE:∀i h1 n1 h' n',I i h1 n1->Ext h1 n1 h' n'->I i h' n')
 (hB:∀i h1 n1 h',I i h1 n1->de n h1 h'->I i h' n1)
 (hBb:∀i h1 n1 h',I i h1 n1->de b h1 h'->I i h' n1)
 (hl:∀i (hi:i<ys.length),ps.length=ys[i].length)
 (h0:∀h',de n h h'->I 0 h' n.succ)
 (hw:∀i (hi:i<ys.length) h1 n1 E1,n.num<n1.num->I i h1 n1->lV ps ys[i] E=some E1->WC C as E1 h1 n1 (λex E2 h2 n2=>ex=.normal/\n1.num<=n2.num/\h2 n=h1 n/\h2 b=h1 b/\∀qt,de n h2 qt->WC C body E2 qt n2 (acK n b n2 (qt n) (qt b) (I (i+1)) D)))
 (hQ:∀h' n',n.num<n'.num->I ys.length h' n'->Q .normal E h' n')
 (hD:∀ex h' n' h2,n.num<n'.num->D ex h' n'->de n h' h2->Q ex E h2 n'):WC C (.lT f ps as body) E h n Q:=by
 intro T H hT hH;let J:Nat->Hf->K->Prop:=λi h' n'=>n.num<n'.num/\I i h' n'/\h' n=some (.lp true .normal T ps as body);let G:Hf->K->Prop:=λh' n'=>n.num<n'.num/\∃ex,(ex.rq=false/\ex.js=false)/\h' n=some (.lp false ex T ps as body)/\∃h2,de n h2 h'/\D ex h2 n';have key:=it (.y n) J G (hp h n (some (.lp true .normal T ps as body))) n.succ
  (λi h n h' n' hj he=>⟨fk hj.1 he.1,hE _ _ _ _ _ hj.2.1 he,by rw[he.2 _ hj.1];exact hj.2.2⟩)
  (λi h1 n1 h' hj he=>⟨hj.1,hBb _ _ _ _ hj.2.1 he,by rw[he _ (by omega)];exact hj.2.2⟩)
  (by rw[K.fQ];omega)
  (by rw[ox _ _ (sU (by omega))];exact pU)
  (λi hi h1 n1 qU hj=>by
   have K4:∃E1,lV ps ys[i] E=some E1:=by
    have:∀(ps:List K) (vs:List V) (E:Env),ps.length=vs.length->∃E1,lV ps vs E=some E1:=by
     intro ps
     induction ps with
     | nil=>intro vs E hl;cases vs with | nil=>exact⟨E,rfl⟩ | cons v vs=>simp at hl
     | cons k ps ih=>intro vs E hl;cases vs with | nil=>simp at hl | cons v vs=>exact ih vs _ (by simpa using hl)
    exact this _ _ _ (hl i hi)
   obtain⟨E1,jb⟩:=K4;refine τ.y hj.2.2 hT jb (hl i hi) ?_;refine Hc (hw i hi h1 n1 E1 hj.1 hj.2.1 jb) ?_;intro ex E2 h2 n2 hx;refine⟨hx.1,hx.2.2.1,?_⟩;have acM:=hx.2.1;have qS:=hj.1;refine Hc (hx.2.2.2.2 _ (lj h2 n _)) ?_;intro ex E3 h3 n3 hr;have ebn:∀(o:Option O),hp h2 n o b=h2 b:=λo=>ox _ _ (sU (by omega));have K5:∀(o:Option O),hp h3 n o b=h3 b:=λo=>ox _ _ (sU (by omega));rw[fR,ebn]at hr;cases ex with
   | normal=>exact⟨hr.2.1,rfl,by have:=hr.1;omega,by rw[K5,hr.2.2.1,hx.2.2.2.1],Or.inl ⟨rfl,by have:=hr.1;omega,hB _ _ _ _ hr.2.2.2 (lj _ _ _),fR _ _ _⟩⟩
   | ret=>exact⟨hr.2.1,rfl,by have:=hr.1;omega,by rw[K5,hr.2.2.1,hx.2.2.2.1],Or.inr ⟨rfl,by have:=hr.1;omega,.ret,⟨rfl,rfl⟩,fR _ _ _,h3,lj _ _ _,hr.2.2.2⟩⟩
   | exit id=>exact⟨hr.2.1,rfl,by have:=hr.1;omega,by rw[K5,hr.2.2.1,hx.2.2.2.1],Or.inr ⟨rfl,by have:=hr.1;omega,.exit id,⟨rfl,rfl⟩,fR _ _ _,h3,lj _ _ _,hr.2.2.2⟩⟩
   | panic v=>exact hr.elim)
  ⟨by rw[K.fQ];omega,h0 _ (lj _ _ _),fR _ _ _⟩
 obtain⟨v,H',n',⟨f0,h1⟩,h2⟩:=key (H.put (some (.lp true .normal T ps as body)) n) (by rw[jS,hH]);cases h2 with
 | inl h2=>
  obtain⟨g1,g2,g3⟩:=h2;refine⟨⟨.normal,T,.q,H'.put none n,n'⟩,E,fS.step ⟨f0,λf C0=>?_⟩,hT,?_⟩
  ·simp only[bD,hT.ge hf,h1 f C0,g3,Ex.rq,cond_false]
  ·simp only[jS];exact hQ _ _ g1 (hB _ _ _ _ g2 (lj _ _ _))
 | inr h2=>
  obtain⟨g1,ex,⟨g2,g3⟩,g4,h2,g5,g6⟩:=h2;refine⟨⟨ex,T,.q,H'.put none n,n'⟩,E,fS.step ⟨f0,λf C0=>?_⟩,hT,?_⟩
  ·simp only[bD,hT.ge hf,h1 f C0,g4,g2,g3,Bool.or_self,cond_false]
  ·simp only[jS];exact hD _ _ _ _ g1 g6 (λk hk=>by rw[ox _ _ (sU hk),g5 k hk])
end
section
def nC(k:IntKind):List Nat->List V
 | []=>[]
 | a::l=>.i k (a:Nat)::nC k l
def uC:S->List V
 | []=>[]
 | a::l=>.i .u8 (a.toNat:Nat)::uC l
section
variable {k:IntKind}
theorem K6(l:List Nat):(nC k l).length=l.length:=by induction l<;>simp_all [nC]
theorem Rx(l:List Nat):nC k l=ij k (l.map λ(a:Nat)=>(a:Int)):=by induction l<;>simp_all [nC,ij]
theorem acN:∀{l:List Nat} {i:Nat} (h:i<l.length),nth (nC k l) i=some (.i k (l[i]:Nat)):=by
 intro l
 induction l with
 | nil=>intro i h;simp at h
 | cons a l ih=>intro i h;cases i with
  | zero=>rfl
  | succ i=>simp only[nC,nth,zy];exact ih (by simpa using h)
theorem Ry:∀{l:S} {i:Nat} (h:i<l.length),nth (uC l) i=some (.i .u8 (l[i].toNat:Nat)):=by
 intro l
 induction l with
 | nil=>intro i h;simp at h
 | cons a l ih=>intro i h;cases i with
  | zero=>rfl
  | succ i=>simp only[uC,nth,zy];exact ih (by simpa using h)
theorem K7(a b:List Nat):nC k (a++b)=nC k a++nC k b:=by induction a<;>simp_all [nC]
theorem Rz(a b:S):uC (a++b)=uC a++uC b:=by induction a<;>simp_all [uC]
theorem acO(l:List Nat)(i:Nat):(nC k l).take i=nC k (l.take i):=by
 induction l generalizing i with
 | nil=>simp[nC]
 | cons a l ih=>cases i<;>simp_all [nC]
theorem acP(l:List Nat)(i:Nat):(nC k l).drop i=nC k (l.drop i):=by
 induction l generalizing i with
 | nil=>simp[nC]
 | cons a l ih=>cases i<;>simp_all [nC]
theorem acQ(l:List Nat):bE (nC k l)=true:=by induction l<;>simp_all [nC,bE,V.one]
theorem acR(x:Nat):∀(l:List Nat) (i:Nat),(nC k l).set i (.i k (x:Nat))=nC k (l.set i x):=by
 intro l
 induction l with
 | nil=>intro i;rfl
 | cons a l ih=>intro i;cases i with
  | zero=>rfl
  | succ i=>simp only[nC,Bv,ih]
theorem Ao(m:Nat):iw [.i k 0] m=nC k (List.replicate m 0):=by
 induction m with
 | zero=>rfl
 | succ m ih=>simp only[iw,ih,DA,nC,xK,List.nil_append];rfl
end
def aQ(h:Hf)(n:K)(k:IntKind)(v:V)(l:List Nat):Prop:=φ h n 1 v l.length (nC k l)
section
variable {h h':Hf}{n n':K}{k:IntKind}{v:V}{l:List Nat}
theorem aQ.ext(a:aQ h n k v l)(e:Ext h n h' n'):aQ h' n' k v l:=φ.ext a e
theorem aQ.get(a:aQ h n k v l){i:Nat}(hi:i<l.length)(sz:Nat):aX h false sz (.p v.blk (v.off+i*1))=some (.i k (l[i]:Nat)):=by rw[lQ];exact φ.get a (acN hi) sz
theorem aQ.nil:aQ h n k .ns []:=φ.ns h n 1
theorem aQ.aj{b:K}(a:aQ h n k v l)(e:de b h h')(hb:v=.ns\/v.blk.num≠b.num):aQ h' n k v l:=φ.aj a e hb
end
theorem φ.at_{h0 h:Hf}{n0 n:K}{z:Nat}{v:V}{len:Nat}{cs:List V}(a:φ h0 n0 z v len cs)(e:Ext h0 n0 h n):φ h n0 z v len cs:=by
 obtain⟨h1,h2⟩:=a;refine⟨h1,h2.imp id λ⟨⟨b,o,c,h3,h4⟩,row,h5,h6⟩=>⟨⟨b,o,c,h3,h4⟩,row,?_,h6⟩⟩;have:v.blk=b:=by cases h3 with | inl e=>rw[e.1];rfl | inr e=>rw[e];rfl
 rw[e.row (by rw[this];exact h4)];exact h5
theorem φ.up{h:Hf}{n0 n:K}{z:Nat}{v:V}{len:Nat}{cs:List V}(a:φ h n0 z v len cs)(e:n0.num<=n.num):φ h n z v len cs:=a.ext ⟨e,λ_ _=>rfl⟩
theorem φ.EB{h h':Hf}{n0 b:K}{z:Nat}{v:V}{len:Nat}{cs:List V}(a:φ h n0 z v len cs)(e:de b h h')(hb:n0.num<=b.num):φ h' n0 z v len cs:=a.at_ (n:=n0) ((Ext.refl h n0).aj e hb)
theorem aQ.at_{h0 h:Hf}{n0 n:K}{k:IntKind}{v:V}{l:List Nat}(a:aQ h0 n0 k v l)(e:Ext h0 n0 h n):aQ h n0 k v l:=φ.at_ a e
theorem aQ.up{h:Hf}{n0 n:K}{k:IntKind}{v:V}{l:List Nat}(a:aQ h n0 k v l)(e:n0.num<=n.num):aQ h n k v l:=φ.up a e
theorem aQ.EB{h h':Hf}{n0 b:K}{k:IntKind}{v:V}{l:List Nat}(a:aQ h n0 k v l)(e:de b h h')(hb:n0.num<=b.num):aQ h' n0 k v l:=φ.EB a e hb
theorem aQ.sub{h:Hf}{n0:K}{k:IntKind}{v:V}{l:List Nat}{i j:Nat}(a:φ h n0 1 v (j - i) (((nC k l).drop (i*1)).take ((j - i)*1)))(hj:j<=l.length):aQ h n0 k v ((l.drop i).take (j - i)):=by
 rw[lQ,lQ,acP,acO]at a;unfold aQ;have:((l.drop i).take (j - i)).length=j - i:=by simp;omega
 rw[this];exact a
theorem jx{v w:V}(hv:v.one=true)(hw:w.one=true):bE [v,w]=true:=by simp only[bE,hv,hw];rfl
theorem RA{α:Type}(v:α):∀{l:List α} {i:Nat},i<l.length->eK [v] l i=some (l.set i v):=by
 intro l
 induction l with
 | nil=>intro i h;simp at h
 | cons a l ih=>
  intro i h;cases i with
  | zero=>simp[eK,over]
  | succ i=>simp only[eK,ih (by simpa using h),Bv]
theorem yt{k:IntKind}{x:Nat}{l:List Nat}{i:Nat}(hi:i<l.length)(o:Nat)(ho:o=i):nh (nC k l) 0 o 1 (.i k (x:Nat))=some (nC k (l.set i x)):=by
 subst ho;have:nh (nC k l) 0 o 1 (.i k (x:Nat))=eK [.i k (x:Nat)] (nC k l) o:=by simp[nh,V.cells,bE,V.one,jB]
 rw[this,RA _ (by rw[K6];exact hi),acR]
section
variable {C:Nat->Option bN}{E:Env}{h:Hf}{n:K}{q:Env->Hf->K->Prop}{l:List AO}{Δ:Nat}{k:V->Hf->K->Prop}
theorem acS{e z bytes m len:Nat}{zl new cs:List V}{s x:ax}{b:K}{v:V}(hs:ge E s=some (.sl b 0 len len))(ho:φ h n z (.sl b 0 len len) len cs)(hx:ge E x=some v)(a:φ h n z v m new)(h1:(len+m)*bytes<=1000000000)(h2:bytes<=100000)(h3:len+m<=1000000000)
 (hk:∀v' h' n',φ h' n' z v' (len+m) (cs++new)->Ext h n h' n'->n'.num<=n.num+1->(v'.blk=b\/v'.blk=n)->k v' h' n'):SO C (.app e z bytes zl false s x) E h n k:=
 uE (λ_ _ _ _=>rfl) λT H hT hH=>by
  have we:(!(Nat.ble (Nat.mul (Nat.add (V.len (.sl b 0 len len)) m) bytes) 1000000000&&Nat.ble bytes 100000&&Nat.ble (Nat.add (V.len (.sl b 0 len len)) m) 1000000000))=false:=room (l:=len) (m:=m) (bytes:=bytes) h1 h2 h3;by_cases hm:m=0
  ·subst hm;have K8:new=[]:=by have:=a.1;simpa using this
   subst K8;have hb:Nat.ble (Nat.add len 0) len=true:=jB (χ _);have fM:Nat.beq 0 0=true:=rfl;refine⟨.sl b 0 len len,H,n,?_,?_⟩
   ·simp only[simple,hT.ge hs,hT.ge hx,a.elems hH,cond_false,wC,we,hb,fM,cond_true]
   ·rw[hH];exact hk _ _ _ (by rw[List.append_nil,kF];exact ho) (Ext.refl h n) (by omega) (Or.inl U)
  ·have hb:Nat.ble (Nat.add len m) len=false:=by rw[jF];simp<;>omega
   refine⟨.su n 0 (len+m) z,H.put (some (.c (cs++new) e 0)) n,n.succ,?_,?_⟩
   ·simp only[simple,hT.ge hs,hT.ge hx,a.elems hH,cond_false,wC,we,hb,ho.elems hH,kp];rfl
   ·rw[jS,hH];have hl:(cs++new).length=(len+m)*z:=by rw[oi,ho.1,a.1,iJ]
    refine hk _ _ _ ⟨hl,Or.inr ⟨⟨n,0,0,Or.inr U,by rw[K.fQ];omega⟩,cs++new,?_,rB hl⟩⟩ ((Ext.refl h n).new _) (by rw[K.fQ];omega) (Or.inr U);show jg _ n=_;rw[aam];rfl
theorem RB{d:K}{e z bytes m len:Nat}{zl new cs:List V}{s x:ax}{b:K}{v:V}(hs:ge E s=some (.sl b 0 len len))(ho:φ h n z (.sl b 0 len len) len cs)(hx:ge E x=some v)(a:φ h n z v m new)(h1:(len+m)*bytes<=1000000000)(h2:bytes<=100000)(h3:len+m<=1000000000)
 (hk:∀v' h' n',φ h' n' z v' (len+m) (cs++new)->Ext h n h' n'->n'.num<=n.num+1->(v'.blk=b\/v'.blk=n)->WO C l ((d,v')::E) h' n' q):WO C (⟨some d,.app e z bytes zl false s x,none,Δ⟩::l) E h n q:=df (acS hs ho hx a h1 h2 h3 hk)
theorem acT:∀bs:S,ofBytes (uC bs)=some (bp bs):=by
 intro bs
 induction bs with
 | nil=>rfl
 | cons b l ih=>
  have hb:Nat.blt b.toNat 256=true:=by rw[fJ];simpa using b.toNat_lt
  show ofBytes (.i .u8 (.ofNat b.toNat)::uC l)=_;simp only[ofBytes,ih,hb,cond_true];rfl
theorem acU{x:ax}{v:V}{bs:S}(hx:ge E x=some v)(a:φ h n 1 v bs.length (uC bs))(hk:k (X.st bs) h n):SO C (.cv .zE x) E h n k:=
 gE (λ_ _ _ _=>rfl) (λT H hT hH=>by
  have e:=a.elems hH;have D4:∀l m,v≠.s l m:=by
   intro l m hv;subst hv;obtain⟨_,h2⟩:=a;cases h2 with
   | inl h=>cases h.1
   | inr h=>obtain⟨⟨b,o,c,h3,_⟩,_⟩:=h;cases h3 with | inl e=>cases e.1 | inr e=>cases e
  simp only[simple,hT.ge hx,qR,e,acT]) hk
theorem acV{d:K}{x:ax}{v:V}{bs:S}(hx:ge E x=some v)(a:φ h n 1 v bs.length (uC bs))(hk:WO C l ((d,X.st bs)::E) h n q):WO C (⟨some d,.cv .zE x,none,Δ⟩::l) E h n q:=df (acU hx a hk)
theorem acW{t:S}(ht:0<t.length):(t[0].toNat<128->rune t.length (bp t)=(t[0].toNat,1))/\(128<=t[0].toNat->128<=(rune t.length (bp t)).1/\(rune t.length (bp t)).1<=1114111/\((rune t.length (bp t)).1<55296\/57344<=(rune t.length (bp t)).1)/\1<=(rune t.length (bp t)).2/\(rune t.length (bp t)).2<=t.length/\∀j (hj:j<t.length),j<(rune t.length (bp t)).2->128<=t[j].toNat):=by
 have e0:Nat.mod (bp t) 256=t[0].toNat:=by have:=DY t ht;rw[←this];show _=Nat.mod (Nat.div (bp t) (256 ^ 0)) 256;rw[Nat.pow_zero];show _=Nat.mod (bp t / 1) 256;rw[Nat.div_one]
 have e1:∀h:1<t.length,Nat.mod (Nat.div (bp t) 256) 256=t[1].toNat:=λh=>DY t h;have e2:∀h:2<t.length,Nat.mod (Nat.div (bp t) 65536) 256=t[2].toNat:=λh=>DY t h;have e3:∀h:3<t.length,Nat.mod (Nat.div (bp t) 16777216) 256=t[3].toNat:=λh=>DY t h;have hb:=t[0].toNat_lt;unfold rune;simp only[e0];constructor
 ·intro h;simp only[fJ,h,decide_true,cond_true]
 ·intro h;have hn:Nat.blt t[0].toNat 128=false:=by rw[fJ];simp<;>omega
  have one:∀j (hj:j<t.length),j<1->128<=t[j].toNat:=λj hj h1=>by
   have:j=0:=by omega
   subst this;exact h
  have bad:128<=((65533,1):Nat×Nat).1/\((65533,1):Nat×Nat).1<=1114111/\(((65533,1):Nat×Nat).1<55296\/57344<=((65533,1):Nat×Nat).1)/\1<=((65533,1):Nat×Nat).2/\((65533,1):Nat×Nat).2<=t.length/\∀j (hj:j<t.length),j<((65533,1):Nat×Nat).2->128<=t[j].toNat:=⟨by omega,by omega,by omega,by omega,ht,one⟩;simp only[hn,cond_false];generalize qU:Nat.mod (Nat.div (bp t) 256) 256=b1 at*;generalize fM:Nat.mod (Nat.div (bp t) 65536) 256=b2 at*;generalize y8:Nat.mod (Nat.div (bp t) 16777216) 256=b3 at*;generalize Ky:t[0].toNat=b0 at*;simp only[iD,bh,qa,dD,fJ,jF,bA];have acX:∀x:Nat,Nat.div x 64=x / 64:=λ_=>rfl;simp only[acX];split
  ·rename_i h2;obtain⟨_,h3,h4⟩:=h2;split
   ·rename_i h5;refine⟨h5,by omega,by omega,by omega,h3,λj hj h6=>?_⟩;have:j=0\/j=1:=by omega
    rcases this with rfl | rfl
    ·omega
    ·rw[←e1 h3];omega
   ·exact bad
  ·split
   ·rename_i h2;obtain⟨⟨_,h3,h4⟩,h5,h6⟩:=h2;split
    ·rename_i h7;refine⟨by omega,by omega,by omega,by omega,h5,λj hj h8=>?_⟩;have:j=0\/j=1\/j=2:=by omega
     rcases this with rfl | rfl | rfl
     ·omega
     ·rw[←e1 h3];omega
     ·rw[←e2 h5];omega
    ·exact bad
   ·split
    ·rename_i h2;obtain⟨⟨⟨_,h3,h4⟩,h5,h6⟩,h7,h8⟩:=h2;split
     ·rename_i h9;refine⟨by omega,by omega,by omega,by omega,h7,λj hj kC=>?_⟩;have:j=0\/j=1\/j=2\/j=3:=by omega
      rcases this with rfl | rfl | rfl | rfl
      ·omega
      ·rw[←e1 h3];omega
      ·rw[←e2 h5];omega
      ·rw[←e3 h7];omega
     ·exact bad
    ·exact bad
theorem HP{d:K}{x:ax}{s:S}(hx:ge E x=some (X.st s))(hk:∀h' n',n'.num=n.num+1->h' n=some (.it s.length (bp s) 0)->Ext h n h' n'->WO C l ((d,.p n 0)::E) h' n' q):WO C (⟨some d,.DC false x,none,Δ⟩::l) E h n q:=
 df (D2 (λ_ _ _ _=>rfl) (λT H hT hH=>by simp only[simple,hT.ge hx]) (hk _ _ (K.fQ n) (fR _ _ _) ((Ext.refl h n).new _)))
theorem Cj{d:K}{x:ax}{b:K}{s:S}{pos:Nat}(hx:ge E x=some (.p b 0))(hb:h b=some (.it s.length (bp s) pos))(hp:s.length<=pos)(hk:WO C l ((d,.u [.b false])::E) h n q):WO C (⟨some d,.DD true x,none,Δ⟩::l) E h n q:=
 df (gE (λ_ _ _ _=>rfl) (λT H hT hH=>by
  have ku:H.get b=some (.it s.length (bp s) pos):=by rw[hH];exact hb
  have:Nat.blt pos s.length=false:=by rw[fJ];simp<;>omega
  simp only[simple,hT.ge hx,ku,this,cond_false]) hk)
structure Rn(s:S)(pos r w:Nat):Prop where
 lt:pos<s.length
 lo:s[pos].toNat<128->r=s[pos].toNat/\w=1
 hi:128<=s[pos].toNat->128<=r/\r<=1114111/\(r<55296\/57344<=r)
 one:1<=w
 le:pos+w<=s.length
 all:128<=s[pos].toNat->∀j (hj:j<s.length),pos<=j->j<pos+w->128<=s[j].toNat
theorem HQ{d:K}{x:ax}{b:K}{s:S}{pos:Nat}(hx:ge E x=some (.p b 0))(hb:h b=some (.it s.length (bp s) pos))(hp:pos<s.length)
 (hk:∀r w h',Rn s pos r w->h' b=some (.it s.length (bp s) (pos+w))->de b h h'->WO C l ((d,.u [.b true,.i .i64 (pos:Nat),.i .i32 (r:Nat)])::E) h' n q):WO C (⟨some d,.DD true x,none,Δ⟩::l) E h n q:=
 df (uE (λ_ _ _ _=>rfl) (λT H hT hH=>by
  have ku:H.get b=some (.it s.length (bp s) pos):=by rw[hH];exact hb
  have ω:Nat.blt pos s.length=true:=by rw[fJ];simpa using hp
  have ht:0<(s.drop pos).length:=by simp;omega
  have EC:=acW ht;have hz:(s.drop pos)[0]=s[pos]:=by simp
  have hle:(s.drop pos).length=s.length - pos:=by simp
  have er:rune (Nat.sub s.length pos) (Nat.div (bp s) (Nat.pow 256 pos))=rune (s.drop pos).length (bp (s.drop pos)):=by rw[hle];show rune (s.length - pos) (bp s / 256 ^ pos)=_;rw[Kk]
  refine⟨_,_,_,by simp only[simple,hT.ge hx,ku,ω,cond_true];rfl,?_⟩;rw[jS,hH,er];rw[hz]at EC;refine hk _ _ _ ⟨hp,λh=>?_,λh=>?_,?_,?_,λh j hj h1 h2=>?_⟩ (fR _ _ _) (lj _ _ _)
  ·rw[EC.1 h];exact⟨rfl,rfl⟩
  ·have:=EC.2 h;exact⟨this.1,this.2.1,this.2.2.1⟩
  ·by_cases h:s[pos].toNat<128
   ·rw[EC.1 h];exact χ _
   ·exact(EC.2 (by omega)).2.2.2.1
  ·by_cases h:s[pos].toNat<128
   ·rw[EC.1 h];exact hp
   ·have:=(EC.2 (by omega)).2.2.2.2.1;omega
  ·have:=(EC.2 h).2.2.2.2.2 (j - pos) (by omega) (by omega);have e:(s.drop pos)[j - pos]'(by omega)=s[j]:=by
    rw[List.getElem_drop];congr 1;omega
   rw[e]at this;exact this))
theorem lz{d:K}{x y:ax}{qk:ey}{ik:IntKind}{a b c:Int}(hx:ge E x=some (.i ik a))(hy:ge E y=some (.i ik b))(he:a+b=c)(hr:oy ik c)(hk:WO C l ((d,.i ik c)::E) h n q):WO C (⟨some d,.bin .add qk x y,none,Δ⟩::l) E h n q:=by subst he;exact cU hx hy hr hk
theorem ED{m:Made}{P:List PR}{B:List PB}{i:Nat}{d:K}{x y:ax}{qk:ey}{ik:IntKind}{a b c:Int}(hx:ge E x=some (.i ik a))(hy:ge E y=some (.i ik b))(he:a+b=c)(hr:oy ik c)(hk:WD C l (i+1) ((d,.i ik c)::E) h n m P B q):WD C (⟨some d,.bin .add qk x y,none,Δ⟩::l) i E h n m P B q:=by subst he;exact yo hx hy hr hk
theorem mO{d:K}{x y:ax}{qk:ey}{ik:IntKind}{a b c:Int}(hx:ge E x=some (.i ik a))(hy:ge E y=some (.i ik b))(he:a - b=c)(hr:oy ik c)(hk:WO C l ((d,.i ik c)::E) h n q):WO C (⟨some d,.bin .sub qk x y,none,Δ⟩::l) E h n q:=by subst he;exact iz hx hy hr hk
theorem Ck{m:Made}{P:List PR}{B:List PB}{i:Nat}{d:K}{x y:ax}{qk:ey}{ik:IntKind}{a b c:Int}(hx:ge E x=some (.i ik a))(hy:ge E y=some (.i ik b))(he:a - b=c)(hr:oy ik c)(hk:WD C l (i+1) ((d,.i ik c)::E) h n m P B q):WD C (⟨some d,.bin .sub qk x y,none,Δ⟩::l) i E h n m P B q:=by subst he;exact Ci hx hy hr hk
theorem K9{d:K}{x y:ax}{qk:ey}{ik:IntKind}{a b c:Int}(hx:ge E x=some (.i ik a))(hy:ge E y=some (.i ik b))(he:a*b=c)(hr:oy ik c)(hk:WO C l ((d,.i ik c)::E) h n q):WO C (⟨some d,.bin .mul qk x y,none,Δ⟩::l) E h n q:=by subst he;exact acC hx hy hr hk
theorem Ap{m:Made}{P:List PR}{B:List PB}{i:Nat}{d:K}{x y:ax}{qk:ey}{ik:IntKind}{a b c:Int}(hx:ge E x=some (.i ik a))(hy:ge E y=some (.i ik b))(he:a*b=c)(hr:oy ik c)(hk:WD C l (i+1) ((d,.i ik c)::E) h n m P B q):WD C (⟨some d,.bin .mul qk x y,none,Δ⟩::l) i E h n m P B q:=by subst he;exact acD hx hy hr hk
end
end
section
section
variable {C:Nat->Option bN}{E:Env}{h:Hf}{n:K}{q:Env->Hf->K->Prop}{l:List AO}{Δ:Nat}{k:V->Hf->K->Prop}
theorem acY{m z i o:Nat}{x y:ax}{b:K}{j:IntKind}(hx:ge E x=some (.p b o))(hy:ge E y=some (.i j (i:Nat)))(hi:i<m)(hk:k (.p b (o+i*z)) h n):SO C (.iad (some m) z x y) E h n k:=
 gE (λ_ _ _ _=>rfl) (λT H hT hH=>by
  have e2:aq T y=some (.i j (Int.ofNat i)):=hT.ge hy;have e3:Nat.blt i m=true:=by rw[fJ];simpa using hi
  simp only[simple,hT.ge hx,e2,e3,cond_true];rfl) hk
theorem wT{d:K}{m z i o:Nat}{x y:ax}{b:K}{j:IntKind}(hx:ge E x=some (.p b o))(hy:ge E y=some (.i j (i:Nat)))(hi:i<m)(hk:WO C l ((d,.p b (o+i*z))::E) h n q):WO C (⟨some d,.iad (some m) z x y,none,Δ⟩::l) E h n q:=df (acY hx hy hi hk)
theorem acZ{d x:ax}{b:K}{len e:Nat}{dR cs:List V}{v:V}(hd:ge E d=some (.sl b 0 len len))(hb:h b=some (.c dR e 0))(A9:dR.length=len)(hx:ge E x=some v)(a:φ h n 1 v len cs)(gK:bE cs=true)
 (hk:∀h',h' b=some (.c cs e 0)->de b h h'->k (.i .i64 (len:Nat)) h' n):SO C (.A8 1 d x) E h n k:=
 uE (λ_ _ _ _=>rfl) λT H hT hH=>by
  have hbH:H.get b=some (.c dR e 0):=by rw[hH];exact hb
  have ju:cs.length=len:=by have:=a.1;omega
  have e1:elems H 1 (.sl b 0 len len)=some (len,dR):=by
   have:db dR 0 (Nat.mul len 1)=some dR:=by show db dR 0 (len*1)=_;rw[lQ];exact rB A9
   simp only[elems,rowAt,hbH,O.row,this]
  have e2:=a.elems hH;have D4:∀l m,V.sl b 0 len len≠.s l m:=λl m h=>by cases h
  have yg:(bif Nat.ble len len then len else len)=len:=by cases Nat.ble len len<;>rfl
  by_cases h0:len=0
  ·subst h0;have hc0:cs=[]:=by simpa using ju
   have wi:dR=[]:=by simpa using A9
   subst hc0;subst wi;refine⟨.i .i64 0,H,n,?_,by rw[hH];exact hk h hb (λ_ _=>rfl)⟩;have gW:Nat.beq (bif Nat.ble 0 0 then 0 else 0) 0=true:=by rw[yg];rfl
   simp only[simple,hT.ge hd,hT.ge hx,e1,e2,gW,cond_true]
  ·refine⟨.i .i64 (len:Nat),H.put (some (.c cs e 0)) b,n,?_,by rw[jS,hH];exact hk _ (fR _ _ _) (lj _ _ _)⟩;have gW:Nat.beq len 0=false:=by rw[dD];simp[h0]
   have ht:takeN (Nat.mul len 1) cs=some cs:=by
    have:Nat.mul len 1=cs.length:=by show len*1=_;omega
    rw[this];have key:∀l:List V,takeN l.length l=some l:=by
     intro l;induction l with
     | nil=>rfl
     | cons a l ih=>simp only[fH,takeN,ih]
    exact key cs
   have dJ:iu H b 0 cs=some (H.put (some (.c cs e 0)) b):=by
    have hp:eK cs dR 0=some cs:=by simp only[eK];exact Q6 _ _ (by omega)
    simp only[iu,hbH,Nat.ble,gK,om,cond_true,hp]
   simp only[simple,hT.ge hd,hT.ge hx,e1,e2,yg,gW,cond_false,ht,dJ];rfl
theorem ac1{d:K}{dx x:ax}{b:K}{len e:Nat}{dR cs:List V}{v:V}(hd:ge E dx=some (.sl b 0 len len))(hb:h b=some (.c dR e 0))(A9:dR.length=len)(hx:ge E x=some v)(a:φ h n 1 v len cs)(gK:bE cs=true)
 (hk:∀h',h' b=some (.c cs e 0)->de b h h'->WO C l ((d,.i .i64 (len:Nat))::E) h' n q):WO C (⟨some d,.A8 1 dx x,none,Δ⟩::l) E h n q:=df (acZ hd hb A9 hx a gK hk)
end
end
end Go.Ev.X
section
set_option maxRecDepth 100000
namespace Go.Ev.X
open Go Go.Ev
abbrev θ(l:List AO)(c:AC):AC:=.seq (.reg l) c
abbrev δ(a:K)(b:K):AO:=⟨some a,.mv (.t b),none,0⟩
abbrev ab(a:K)(b:Nat)(c:K):AO:=⟨some a,.ld false b (.t c),none,0⟩
abbrev ah(a:K)(b:Nat)(c:K):AO:=⟨some a,.fad b (.t c),none,0⟩
abbrev aB(a:K)(b:IntKind)(c:Int):AO:=⟨some a,.mv (.c (.i b c)),none,0⟩
abbrev bR(a:K)(b:K)(c:IntKind)(d:Int):AO:=⟨some a,.bin .add (.one .bool) (.t b) (.c (.i c d)),none,0⟩
abbrev aH(a:K)(b:Nat)(c:K):AO:=⟨some a,.len b (.t c),none,0⟩
abbrev cP(a:K)(b:K)(c:IntKind)(d:Int):AO:=⟨some a,.bin .eql (.one .int) (.t b) (.c (.i c d)),none,0⟩
abbrev cn(a:K)(b:Nat)(c:K):AO:=⟨some a,.cg (.c (.f b [] [])) [(.t c)],none,0⟩
abbrev cO(a:K)(b:K)(c:K):AO:=⟨some a,.bin .lss (.one .bool) (.t b) (.t c),none,0⟩
abbrev cD(a:K)(b:Nat)(c:K)(d:K):AO:=⟨some a,.iad none b (.t c) (.t d),none,0⟩
abbrev dU(a:K)(b:Nat)(c:K)(d:K):AO:=⟨some a,.cg (.c (.f b [] [])) [(.t c),(.t d)],none,0⟩
abbrev bS(a:K):AO:=⟨some a,.mv (.c (.b false)),none,0⟩
abbrev cm(a:K)(b:Nat)(c:K):AO:=⟨some a,.ld true b (.t c),none,0⟩
abbrev dV(a:K)(b:K)(c:K):AO:=⟨some a,.pick (.t b) (.c (.b true)) (.t c),none,0⟩
abbrev ct(a:Nat)(b:K)(c:K):AO:=⟨none,.st a (.t b) (.t c),none,0⟩
abbrev cQ(a:K)(b:K)(c:K):AO:=⟨some a,.mv (.t b),some (c,true),0⟩
abbrev fg(a:K)(b:K)(c:IntKind)(d:Int):AO:=⟨some a,.bin .sub (.one .bool) (.t b) (.c (.i c d)),none,0⟩
abbrev dM(a:K)(b:K)(c:K):AO:=⟨some a,.mv (.t b),some (c,false),0⟩
abbrev eo(a:K)(b:Nat)(c:K)(d:K):AO:=⟨some a,.fad b (.t c),some (d,false),0⟩
abbrev fc(a:K)(b:Nat)(c:K)(d:K):AO:=⟨some a,.ld false b (.t c),some (d,false),0⟩
abbrev fF(a:K)(b:K)(c:K):AO:=⟨some a,.pick (.t b) (.t c) (.c (.b false)),none,0⟩
abbrev dN(a:K)(b:Nat)(c:K):AO:=⟨some a,.box b (.t c),none,0⟩
abbrev jy(a:K)(b:K)(c:IntKind)(d:Int):AO:=⟨some a,.bin .geq (.one .bool) (.t b) (.c (.i c d)),none,0⟩
abbrev fe(a:K)(b:K)(c:Nat):AO:=⟨some a,.ext (.t b) c,none,0⟩
abbrev iQ(a:K)(b:Nat)(c:K)(d:K):AO:=⟨some a,.fad b (.t c),some (d,true),0⟩
abbrev lC(a:K)(b:K)(c:K):AO:=⟨some a,.bin .add (.one .bool) (.t b) (.t c),none,0⟩
abbrev mP(a:K)(b:K)(c:IntKind)(d:Int):AO:=⟨some a,.bin .gtr (.one .bool) (.t b) (.c (.i c d)),none,0⟩
abbrev mQ(a:K)(b:K)(c:IntKind)(d:Int):AO:=⟨some a,.bin .neq (.one .int) (.t b) (.c (.i c d)),none,0⟩
abbrev j8(a:K)(b:Nat)(c:K)(d:K):AO:=⟨some a,.ld false b (.t c),some (d,true),0⟩
abbrev j9(a:K)(b:Nat)(c:K)(d:K):AO:=⟨some a,.len b (.t c),some (d,false),0⟩
abbrev oH(a:K)(b:K)(c:IntKind)(d:Int):AO:=⟨some a,.bin .lss (.one .bool) (.t b) (.c (.i c d)),none,0⟩
abbrev pC(a:K)(b:Nat)(c:K)(d:IntKind)(e:Int):AO:=⟨some a,.cg (.c (.f b [] [])) [(.t c),(.c (.i d e))],none,0⟩
abbrev pD(a:K)(b:Nat)(c:K)(d:K):AO:=⟨some a,.cg (.c (.f b [] [])) [(.t c)],some (d,false),0⟩
abbrev pE(a:K)(b:K)(c:Nat)(d:Nat):AO:=⟨some a,.bin .eql (.one .str) (.t b) (.c (.s c d)),none,0⟩
abbrev lD(a:K)(b:IntKind)(c:K):AO:=⟨some a,.cv (.toInt b) (.t c),none,0⟩
abbrev jJ(a:K)(b:K):AO:=⟨some a,.un .not (.t b),none,0⟩
abbrev iS(a:K):AO:=⟨some a,.mv (.c .ns),none,0⟩
abbrev qu(a:K)(b:Nat)(c:IntKind)(d:Int)(e:Nat)(f:Nat)(g:Nat)(h:Nat):AO:=⟨some a,.new b [.i c d,.s e f,.s g h,.ns,.ns],none,0⟩
abbrev vM(a:K)(b:K)(c:IntKind)(d:Int)(e:K):AO:=⟨some a,.bin .gtr (.one .bool) (.t b) (.c (.i c d)),some (e,false),0⟩
abbrev oI(a:K)(b:K)(c:K):AO:=⟨some a,.idx none (.t b) (.t c),none,0⟩
abbrev nJ(a:K)(b:Nat):AO:=⟨some a,.new b [.b false,.ns],none,0⟩
abbrev kJ(a:K)(b:Nat):AO:=⟨some a,.new b [.ns],none,0⟩
abbrev vN(a:K)(b:Nat)(c:Nat)(d:Nat)(e:IntKind)(f:Int)(g:K)(h:K):AO:=⟨some a,.app b c d [.i e f] false (.t g) (.t h),none,0⟩
abbrev tc(a:K)(b:Nat)(c:IntKind)(d:Int)(e:Nat)(f:Nat)(g:Nat)(h:K):AO:=⟨some a,.bsl b [.i c d] e [(f,g,(.t h))],none,0⟩
abbrev qv(a:K)(b:Nat)(c:K)(d:K):AO:=⟨some a,.iad none b (.t c) (.t d),none,3⟩
abbrev tf(a:K)(b:K)(c:K):AO:=⟨some a,.bin .neq (.one .int) (.t b) (.t c),none,0⟩
abbrev nK(a:K):AO:=⟨some a,.mv (.c (.b true)),none,0⟩
abbrev qw(a:K)(b:Nat)(c:K)(d:K):AO:=⟨some a,.len b (.t c),some (d,true),0⟩
abbrev yu(a:K)(b:K)(c:K)(d:K):AO:=⟨some a,.pick (.t b) (.t c) (.c (.b false)),some (d,false),0⟩
abbrev yw(a:K)(b:K)(c:K)(d:K):AO:=⟨some a,.bin .neq (.one .int) (.t b) (.t c),some (d,false),0⟩
abbrev oJ(a:K)(b:Nat)(c:Nat):AO:=⟨some a,.mv (.c (.s b c)),none,0⟩
abbrev wU(a:K)(b:Nat)(c:K)(d:K)(e:K):AO:=⟨some a,.iad none b (.t c) (.t d),some (e,false),0⟩
abbrev Aq(a:K)(b:K)(c:IntKind)(d:Int)(e:K):AO:=⟨some a,.bin .eql (.one .int) (.t b) (.c (.i c d)),some (e,true),0⟩
abbrev wV(a:K)(b:Nat)(c:Nat)(d:Nat)(e:IntKind)(f:Int)(g:K)(h:K):AO:=⟨some a,.msl b c d [.i e f] (.t g) (.t h),none,0⟩
abbrev wW(a:K)(b:Nat)(c:Nat)(d:K):AO:=⟨some a,.bld [.b false,.ns] [(b,c,(.t d))],none,0⟩
abbrev rL(a:K)(b:Nat)(c:K):AO:=⟨some a,.ld false b (.t c),none,1⟩
abbrev Ar(a:K)(b:K)(c:IntKind)(d:Int):AO:=⟨some a,.bin .quo (.one .bool) (.t b) (.c (.i c d)),none,0⟩
abbrev yx(a:K)(b:K)(c:K):AO:=⟨some a,.bin .sub (.one .bool) (.t b) (.t c),none,0⟩
abbrev Cm(a:K)(b:K)(c:IntKind)(d:Int)(e:K):AO:=⟨some a,.bin .eql (.one .int) (.t b) (.c (.i c d)),some (e,false),0⟩
abbrev As(a:K)(b:Nat)(c:K)(d:K):AO:=⟨some a,.cg (.c (.f b [] [])) [(.t c),(.t d)],none,3⟩
abbrev Cn(a:K)(b:K)(c:K)(d:K):AO:=⟨some a,.bin .eql (.one .str) (.t b) (.t c),some (d,true),0⟩
abbrev yz(a:K)(b:K)(c:K):AO:=⟨some a,.un .not (.t b),some (c,false),0⟩
abbrev Co(a:K)(b:K)(c:Nat)(d:Nat):AO:=⟨some a,.bin .neq (.one .str) (.t b) (.c (.s c d)),none,0⟩
abbrev yA(a:Nat)(b:K):AO:=⟨none,.st a (.t b) (.c (.b false)),none,0⟩
abbrev Au(a:K)(b:Nat)(c:K)(d:K):AO:=⟨some a,.iad none b (.t c) (.t d),none,48⟩
abbrev EE(a:K)(b:K)(c:IntKind)(d:Int):AO:=⟨some a,.bin .rem (.one .bool) (.t b) (.c (.i c d)),none,0⟩
abbrev EF(a:K)(b:Nat)(c:K)(d:K):AO:=⟨some a,.cg (.c (.f b [] [])) [(.t c)],some (d,true),0⟩
abbrev Cp(a:K)(b:K)(c:IntKind)(d:Int):AO:=⟨some a,.idx none (.t b) (.c (.i c d)),none,0⟩
abbrev HR(a:K)(b:K)(c:Nat)(d:Nat)(e:K):AO:=⟨some a,.bin .eql (.one .str) (.t b) (.c (.s c d)),some (e,false),0⟩
abbrev EG(a:K)(b:K)(c:K):AO:=⟨some a,.sli .str (.t b) (some (.t c)) none none,none,0⟩
abbrev yB(a:K)(b:Nat)(c:IntKind)(d:Int):AO:=⟨some a,.new b [.i c d],none,0⟩
abbrev HS(a:K)(b:K)(c:IntKind)(d:Int)(e:K):AO:=⟨some a,.bin .leq (.one .bool) (.t b) (.c (.i c d)),some (e,true),0⟩
abbrev HT(a:K)(b:K)(c:IntKind)(d:Int)(e:K):AO:=⟨some a,.bin .sub (.one .bool) (.t b) (.c (.i c d)),some (e,true),0⟩
abbrev Av(a:K)(b:Nat)(c:Nat)(d:K):AO:=⟨some a,.fld false b c (.t d),none,0⟩
abbrev HU(a:K)(b:K)(c:IntKind)(d:Int):AO:=⟨some a,.bin .mul (.one .bool) (.t b) (.c (.i c d)),none,0⟩
abbrev EH(a:K)(b:K)(c:K):AO:=⟨some a,.bin .eql (.one .int) (.t b) (.t c),none,0⟩
abbrev Aw(a:K)(b:Nat)(c:K):AO:=⟨some a,.ld false b (.t c),none,7⟩
abbrev Ax(a:Nat)(b:K)(c:K):AO:=⟨none,.st a (.t b) (.t c),none,511⟩
abbrev Ay(a:K)(b:Nat)(c:K):AO:=⟨some a,.mfn b [] [(.t c)],none,0⟩
abbrev HV(a:K)(b:K)(c:K)(d:K):AO:=⟨some a,.bin .lss (.one .bool) (.t b) (.t c),some (d,true),0⟩
abbrev EI(a:K)(b:Nat)(c:K):AO:=⟨some a,.cg (.c (.f b [] [])) [(.t c)],none,255⟩
abbrev HW(a:K)(b:K)(c:K)(d:K):AO:=⟨some a,.bin .neq (.one .str) (.t b) (.t c),some (d,false),0⟩
abbrev Az(a:Nat)(b:K)(c:K):AO:=⟨none,.st a (.t b) (.t c),none,7⟩
abbrev EJ(a:K)(b:Nat)(c:Nat)(d:K):AO:=⟨some a,.bld [.ns] [(b,c,(.t d))],none,0⟩
abbrev La(a:K)(b:K)(c:IntKind)(d:Int)(e:K):AO:=⟨some a,.bin .lss (.one .bool) (.t b) (.c (.i c d)),some (e,true),0⟩
abbrev EL(a:Nat)(b:K)(c:IntKind)(d:Int):AO:=⟨none,.st a (.t b) (.c (.i c d)),none,0⟩
abbrev HX(a:K)(b:K)(c:K)(d:K):AO:=⟨some a,.cg (.t b) [(.t c),(.t d)],none,0⟩
abbrev Lc(a:K)(b:K)(c:K)(d:K):AO:=⟨some a,.bin .eql (.one .int) (.t b) (.t c),some (d,true),0⟩
abbrev EM(a:K)(b:Nat)(c:K):AO:=⟨some a,.ld false b (.t c),none,2⟩
abbrev EN(a:K)(b:Nat)(c:K):AO:=⟨some a,.ld false b (.t c),none,16⟩
abbrev EO(a:Nat)(b:K)(c:K):AO:=⟨none,.st a (.t b) (.t c),none,255⟩
abbrev EP(a:K)(b:Nat)(c:K):AO:=⟨some a,.ld false b (.t c),none,4⟩
abbrev Ld(a:K)(b:Nat)(c:K)(d:K):AO:=⟨some a,.cg (.c (.f b [] [])) [(.t c),(.t d)],none,31⟩
abbrev Lf(a:K)(b:Nat)(c:K)(d:K):AO:=⟨some a,.cg (.c (.f b [] [])) [(.t c),(.t d)],none,60⟩
abbrev Lg(a:K)(b:K)(c:K):AO:=⟨some a,.bin .neq (.one .int) (.t b) (.t c),none,1023⟩
abbrev HY(a:Nat)(b:K):AO:=⟨none,.st a (.t b) (.c (.b true)),none,0⟩
abbrev Lh(a:K)(b:K)(c:K):AO:=⟨some a,.bin .mul (.one .bool) (.t b) (.t c),none,0⟩
abbrev Li(a:K)(b:K)(c:K):AO:=⟨some a,.bin .neq (.one .bool) (.t b) (.t c),none,0⟩
abbrev Lj(a:K)(b:K)(c:K):AO:=⟨some a,.bin .leq (.one .bool) (.t b) (.t c),none,0⟩
abbrev HZ(a:K)(b:K)(c:K):AO:=⟨some a,.cg (.t b) [(.t c)],none,0⟩
abbrev Lk(a:K)(b:K)(c:K):AO:=⟨some a,.bin .neq (.one .str) (.t b) (.t c),none,0⟩
abbrev ER(a:K):AO:=⟨some a,.mv (.c (.nf)),none,0⟩
abbrev H4(a:K)(b:Nat)(c:K):AO:=⟨some a,.ld false b (.t c),none,112⟩
abbrev Ll(a:K)(b:K)(c:K):AO:=⟨some a,.bin .eql (.one .str) (.t b) (.t c),none,0⟩
abbrev ES(a:K)(b:K):AO:=⟨some a,.mv (.t b),none,7⟩
abbrev H5(a:K)(b:K):AO:=⟨some a,.DC false (.t b),none,0⟩
abbrev H6(a:K)(b:K):AO:=⟨some a,.DD true (.t b),none,0⟩
def f3:AF:=⟨[k0,k1],[.t k4],(θ [bS k4] (.seq (θ [⟨some k9,.cg (.c (.f 4 [] [])) [],none,0⟩,jJ aA k9,δ aE aA,dM aF k0 aE,pD aG 5 aF aE,yz aP aG aE,dV aT aE aP,δ aU aT,dM aM k1 aU,pD aV 5 aM aU,yz bf aV aU,dV bu aU bf] (.cond (.t bu) (θ [⟨some bn,.cg (.c (.f 4 [] [])) [],none,0⟩,δ k4 bn] .ret) .skip)) (θ [δ bC k0,cn bz 7 bC,δ bJ k1,cn bO 7 bJ,dU bP 6 bz bO,δ bH bP,fe bZ bH 0,fe bW bH 1,δ k5 bZ,δ k6 bW] (θ [δ bF k0,δ cC k1,dU cE 8 bF cC,δ bT cE,fe cr bT 0,fe cM bT 1,δ k7 cr,δ k8 cM] (θ [δ cJ k0,cn cK 7 cJ,δ cu k1,cn dn 7 cu,dU cN 9 cK dn,δ dt k0,δ dB k1,dU cY 10 dt dB,⟨some eJ,.bin .eql (.one .bool) (.t cN) (.t cY),none,0⟩,δ eX eJ,cQ ff k5 eX,cQ eQ k7 eX,⟨some eS,.bin .eql (.one .bool) (.t ff) (.t eQ),some (eX,true),0⟩,fF fU eX eS,δ fi fU,cQ gh k6 fi,cQ fo k8 fi,Lc fN gh fo fi,fF gV fi fN,δ k4 gV] .ret)))))⟩
def RC:AC:=θ [bS k2] .ret
def RD:AC:=.reg [δ aU k3,bR aM aU .i64 1,δ k3 aM]
def RE:AC:=.seq (θ [δ aF k3,δ aG k0,aH aP 1 aG,cO aT aF aP] (.cond (.t aT) .skip (.exit 0))) (.seq (.block 1 (θ [δ aV k0,δ bf k3,cD bu 5 aV bf,ah bn 2 bu,ab bH 1 bn,aH bC 0 bH,mP bz bC .i64 200,δ bJ bz,dM bO k0 bJ,dM bP k3 bJ,wU bZ 5 bO bP bJ,eo bW 1 bZ bJ,fc bT 1 bW bJ,j9 bF 0 bT bJ,vM cC bF .i64 200 bJ,dV cE bJ cC,δ cr cE,dM cM k0 cr,dM cJ k3 cr,wU cK 5 cM cJ cr,eo cu 2 cK cr,fc dn 1 cu cr,pD cN 23 dn cr,yz dt cN cr,dV dB cr dt,δ cY dB,dM eJ k0 cY,dM eX k3 cY,wU ff 5 eJ eX cY,eo eQ 1 ff cY,fc eS 1 eQ cY,pD fU 23 eS cY,yz fi fU cY,dV gh cY fi,δ fo gh,dM fN k0 fo,dM gV k3 fo,wU jo 5 fN gV fo,eo jz 4 jo fo,fc hY 1 jz fo,j9 jY 1 hY fo,vM jZ jY .i64 12 fo,dV j0 fo jZ,δ iN j0,dM j3 k0 iN,dM j4 k3 iN,wU j5 5 j3 j4 iN,eo j6 3 j5 iN,fc kT 1 j6 iN,pD jq 24 kT iN,yz hZ jq iN,dV mL iN hZ] (.cond (.t mL) RC .skip))) RD)
def RF:AC:=.loop RE
def Ln:AC:=θ [nK k2] .ret
def RG:AC:=.seq (θ [aB k3 .i64 0] (.block 0 RF)) Ln
def f5:AF:=⟨[k0],[.t k2],(θ [bS k2] (.seq (θ [δ k4 k0,aH k5 1 k4,mP k6 k5 .i64 120,δ k7 k6,cQ k8 k0 k7,qw k9 1 k8 k7,⟨some aA,.bin .neq (.one .int) (.t k9) (.c (.i .i64 2001)),some (k7,true),0⟩,fF aE k7 aA] (.cond (.t aE) (θ [bS k2] .ret) .skip)) RG))⟩
def RH:AC:=.loop (.seq (θ [δ k5 k4,bR k6 k5 .i64 4,δ k7 k0,aH k8 0 k7,Lj k9 k6 k8] (.cond (.t k9) .skip (.exit 0))) (.seq (.block 1 (θ [δ aF k0,δ aG k4,δ aP k4,bR aT aP .i64 4,⟨some aU,.sli .str (.t aF) (some (.t aG)) (some (.t aT)) none,none,0⟩,pE aM aU 4 1013997901] (.cond (.t aM) (.reg [δ aV k3,bR bf aV .i64 1,δ k3 bf]) .skip))) (.reg [δ aA k4,bR aE aA .i64 1,δ k4 aE])))
def RI:AC:=θ [δ bu k3,⟨some bn,.bin .leq (.one .bool) (.t bu) (.c (.i .i64 4)),none,0⟩,δ k2 bn] .ret
def f23:AF:=⟨[k0],[.t k2],(θ [bS k2] (θ [aB k3 .i64 0] (.seq (θ [aB k4 .i64 0] (.block 0 RH)) RI)))⟩
def RJ:AC:=θ [bS k2] .ret
def RK:AC:=.reg [δ k8 k3,bR k9 k8 .i64 1,δ k3 k9]
def RL:AC:=.seq (θ [δ k4 k3,δ k5 k0,aH k6 1 k5,cO k7 k4 k6] (.cond (.t k7) .skip (.exit 0))) (.seq (.block 1 (θ [δ aA k0,δ aE k3,cD aF 2 aA aE,ah aG 0 aF,ab aP 1 aG,aH aT 0 aP,mP aU aT .i64 200,δ aM aU,dM aV k0 aM,dM bf k3 aM,wU bu 2 aV bf aM,eo bn 1 bu aM,fc bH 1 bn aM,j9 bC 0 bH aM,vM bz bC .i64 200 aM,dV bJ aM bz,δ bO bJ,dM bP k0 bO,dM bZ k3 bO,wU bW 2 bP bZ bO,eo bT 1 bW bO,fc bF 1 bT bO,pD cC 23 bF bO,yz cE cC bO,dV cr bO cE] (.cond (.t cr) RJ .skip))) RK)
def RM:AC:=.loop RL
def Lo:AC:=θ [δ cM k0,aH cJ 1 cM,⟨some cK,.bin .leq (.one .bool) (.t cJ) (.c (.i .i64 8)),none,0⟩,δ k2 cK] .ret
def f24:AF:=⟨[k0],[.t k2],(θ [bS k2] (.seq (θ [aB k3 .i64 0] (.block 0 RM)) Lo))⟩
def RN:AC:=.loop (.seq (θ [δ k6 k4,δ k7 k0,aH k8 1 k7,cO k9 k6 k8] (.cond (.t k9) .skip (.exit 0))) (.seq (.block 1 (θ [δ aF k0,δ aG k4,cD aP 5 aF aG,cm aT 5 aP,qu k5 69 .i64 0 0 0 0 0,ct 5 k5 aT] (.seq (.regd [ah aU 3 k5,rL aM 1 aU,⟨some aV,.cg (.c (.f 28 [] [])) [(.t aM)],none,3⟩,ah bf 4 k5,⟨some bu,.ld false 1 (.t bf),none,8⟩,⟨some bn,.cg (.c (.f 29 [] [])) [(.t bu)],none,31⟩,⟨some bH,.fad 3 (.t k5),none,31⟩,⟨none,.st 1 (.t bH) (.t aV),none,127⟩,⟨some bC,.fad 4 (.t k5),none,255⟩,Ax 1 bC bn]) (.reg [δ bz k3,cm bJ 5 k5,⟨some bO,.bsl 69 [.i .i64 0,.s 0 0,.s 0 0,.ns,.ns] 1 [(0,5,(.t bJ))],none,0⟩,⟨some bP,.app 69 5 88 [.i .i64 0,.s 0 0,.s 0 0,.ns,.ns] false (.t bz) (.t bO),none,0⟩,δ k3 bP])))) (.reg [δ aA k4,bR aE aA .i64 1,δ k4 aE])))
def f7:AF:=⟨[k0],[.t k2],(θ [iS k2] (θ [iS k3] (.seq (θ [aB k4 .i64 0] (.block 0 RN)) (θ [δ bZ k3,δ k2 bZ] .ret))))⟩
def f28:AF:=⟨[k0],[.t k2],(θ [iS k2] (θ [δ k3 k0,⟨some k4,.app 40 2 32 [.s 0 0,.s 0 0] false (.c .ns) (.t k3),none,0⟩,δ k2 k4] .ret))⟩
def f29:AF:=⟨[k0],[.t k2],(θ [iS k2] (θ [δ k3 k0,⟨some k4,.app 3 1 8 [.i .i64 0] false (.c .ns) (.t k3),none,0⟩,δ k2 k4] .ret))⟩
def f6:AF:=⟨[k0,k1],[.t k4,.t k5],(θ [bS k4,aB k5 .i64 0] (.seq (θ [δ k7 k0,cn k8 26 k7,δ k9 k1,cn aA 26 k9,⟨some aE,.bsl 26 [.i .i64 0,.i .i64 0] 2 [(0,1,(.t k8)),(1,1,(.t aA))],none,0⟩,cn aF 25 aE,δ k6 aF] (θ [δ aG k6,mQ aP aG .i64 0] (.cond (.t aP) (θ [δ aT k6,bS k4,δ k5 aT] .ret) .skip))) (θ [δ aU k0,δ aM k1,δ aV k0,aH bf 1 aV,fg bu bf .i64 1,δ bn k1,aH bH 1 bn,fg bC bH .i64 1,⟨some bz,.cg (.c (.f 27 [] [])) [(.t aU),(.t aM),(.t bu),(.t bC),(.c .ns)],none,0⟩,δ k4 bz,aB k5 .i64 0] .ret)))⟩
def RP:AC:=θ [δ bu k3,ct 1 k2 bu] .ret
def RQ:AC:=θ [EL 1 k2 .i64 11] .ret
def RR:AC:=θ [EL 1 k2 .i64 2] .ret
def H7:AC:=.seq (θ [ab iN 1 k1,cm j3 6 k4,dU j4 68 iN j3,jJ j5 j4] (.cond (.t j5) (θ [EL 1 k2 .i64 9] .ret) .skip)) (.seq (.regd [ab j6 1 k1,cm kT 6 k4,As jq 69 j6 kT,cm hZ 6 k4,⟨some mL,.cg (.c (.f 70 [] [])) [(.t hZ)],none,15⟩,cm oa 6 k4,⟨some oc,.cg (.c (.f 71 [] [])) [(.t oa)],none,63⟩,cm mM 6 k4,EI ql 72 mM,⟨some pR,.bsl 26 [.i .i64 0,.i .i64 0,.i .i64 0,.i .i64 0] 4 [(0,1,(.t jq)),(1,1,(.t mL)),(2,1,(.t oc)),(3,1,(.t ql))],none,511⟩,⟨some qm,.cg (.c (.f 25 [] [])) [(.t pR)],none,1023⟩,⟨some k6,.mv (.t qm),none,2047⟩]) (θ [δ pS k6,mQ qn pS .i64 0] (.cond (.t qn) (θ [δ oe k6,ct 1 k2 oe] .ret) .skip)))
def RS:AC:=θ [ah cr 0 k4,ah cM 0 cr,ab cJ 1 cM,⟨some cK,.iad (some 20) 4 (.c (.p k0 0)) (.t cJ),none,0⟩,ah cu 1 cK,ab dn 1 cu,δ k5 dn] (.seq (θ [δ cN k5,jy dt cN .i64 0,δ dB dt,iQ cY 0 k4 dB,iQ eJ 4 cY dB,j8 eX 1 eJ dB,qw ff 1 eX dB,cQ eQ k5 dB,⟨some eS,.bin .neq (.one .int) (.t ff) (.t eQ),some (dB,true),0⟩,fF fU dB eS,δ fi fU,dM gh k5 fi,Cm fo gh .i64 (-2) fi,dM fN fo fi,iQ gV 0 k4 fN,iQ jo 4 gV fN,j8 jz 1 jo fN,qw hY 1 jz fN,Aq jY hY .i64 0 fN,yu jZ fN jY fi,dV j0 fi jZ] (.cond (.t j0) RR .skip)) H7)
def RT:AC:=.seq (θ [ah bz 0 k4,ah bJ 0 bz,ab bO 1 bJ,oH bP bO .i64 0,δ bZ bP,eo bW 0 k4 bZ,eo bT 0 bW bZ,fc bF 1 bT bZ,⟨some cC,.bin .geq (.one .bool) (.t bF) (.c (.i .i64 20)),some (bZ,false),0⟩,dV cE bZ cC] (.cond (.t cE) RQ .skip)) RS
def RU:AC:=.seq (θ [ab bn 1 k1,cn bH 53 bn] (.block 0 (.lT (.t bH) [bC] (.reg [⟨some k4,.new 113 [.i .i64 0,.s 0 0,.s 0 0,.ns,.ns,.i .i64 0],none,0⟩,ct 6 k4 bC]) (.block 1 RT)))) (θ [ab qo 1 k1,aH pT 1 qo,fg sg pT .i64 1,δ k7 sg] (.seq (.regd [ab sh 1 k1,δ si k7,As kU 73 sh si,⟨some kB,.bin .neq (.one .int) (.t kU) (.c (.i .i64 0)),none,7⟩,⟨some sj,.cg (.c (.f 38 [] [])) [(.t kB),(.c (.i .i64 9))],none,15⟩,ab sk 1 k1,δ sn k7,⟨some so,.iad none 5 (.t sk) (.t sn),none,96⟩,⟨some qp,.fad 0 (.t so),none,224⟩,⟨some qX,.ld false 1 (.t qp),none,480⟩,⟨some mz,.bin .eql (.one .int) (.t qX) (.c (.i .i64 19)),none,992⟩,⟨some tT,.cg (.c (.f 38 [] [])) [(.t mz),(.c (.i .i64 11))],none,2047⟩,ab tU 1 k1,⟨some tV,.cg (.c (.f 74 [] [])) [(.t tU)],none,8191⟩,⟨some tW,.bin .gtr (.one .bool) (.t tV) (.c (.i .i64 60)),none,16383⟩,⟨some tX,.cg (.c (.f 38 [] [])) [(.t tW),(.c (.i .i64 24))],none,32767⟩,⟨some tY,.bsl 26 [.i .i64 0,.i .i64 0,.i .i64 0] 3 [(0,1,(.t sj)),(1,1,(.t tT)),(2,1,(.t tX))],none,65535⟩,⟨some tZ,.cg (.c (.f 25 [] [])) [(.t tY)],none,131071⟩,⟨none,.st 1 (.t k2) (.t tZ),none,262143⟩]) .ret))
def f26:AF:=⟨[k0],[.cell k2 false 1],(θ [dN k1 23 k0,yB k2 26 .i64 0] (.seq (.seq (.regd [ab k8 1 k1,⟨some k9,.len 1 (.t k8),none,1⟩,⟨some aA,.bin .eql (.one .int) (.t k9) (.c (.i .i64 0)),none,3⟩,⟨some aE,.cg (.c (.f 38 [] [])) [(.t aA),(.c (.i .i64 10))],none,7⟩,ab aF 1 k1,⟨some aG,.len 1 (.t aF),none,16⟩,⟨some aP,.bin .gtr (.one .bool) (.t aG) (.c (.i .i64 2000)),none,48⟩,⟨some aT,.cg (.c (.f 38 [] [])) [(.t aP),(.c (.i .i64 5))],none,127⟩,⟨some aU,.bsl 26 [.i .i64 0,.i .i64 0] 2 [(0,1,(.t aE)),(1,1,(.t aT))],none,255⟩,⟨some aM,.cg (.c (.f 25 [] [])) [(.t aU)],none,511⟩,⟨some k3,.mv (.t aM),none,1023⟩]) (θ [δ aV k3,mQ bf aV .i64 0] (.cond (.t bf) RP .skip))) RU))⟩
def f38:AF:=⟨[k0,k1],[.t k4],(θ [aB k4 .i64 0] (.seq (θ [δ k5 k0] (.cond (.t k5) (θ [δ k6 k1,δ k4 k6] .ret) .skip)) (θ [aB k4 .i64 0] .ret)))⟩
def RV:AC:=.loop (θ [cO k8 k7 k6] (.seq (.cond (.t k8) .skip (.exit 0)) (.seq (.block 1 (θ [cD k9 1 k5 k7,ab aA 1 k9,δ k4 aA] (θ [δ aE k4,mQ aF aE .i64 0] (.cond (.t aF) (θ [δ aG k4,δ k2 aG] .ret) .skip)))) (.reg [bR aP k7 .i64 1,δ k7 aP]))))
def RW:AC:=θ [aB k2 .i64 0] .ret
def f25:AF:=⟨[k0],[.t k2],(θ [aB k2 .i64 0] (.seq (θ [δ k5 k0,aH k6 1 k5,aB k7 .i64 0] (.block 0 RV)) RW))⟩
def f53:AF:=⟨[k0],[.t k2],(θ [dN k1 23 k0,ER k2] (θ [Ay k3 131 k1,δ k2 k3] .ret))⟩
def RX:AC:=.loop (θ [cO k8 k7 k6] (.seq (.cond (.t k8) .skip (.exit 0)) (.seq (.block 1 (θ [δ k9 k7,cD aA 5 k5 k7,cm aE 5 aA,qu k4 69 .i64 0 0 0 0 0,δ k3 k9,ct 5 k4 aE] (θ [δ aF k0,cm aG 5 k4,δ aP k3,⟨some aT,.bld [.i .i64 0,.s 0 0,.s 0 0,.ns,.ns,.i .i64 0] [(0,5,(.t aG)),(5,1,(.t aP))],none,0⟩,HZ aU aF aT,jJ aM aU] (.cond (.t aM) .ret .skip)))) (.reg [bR aV k7 .i64 1,δ k7 aV]))))
def f131:AF:=⟨[k0,k1],[],(θ [ab k5 1 k1,aH k6 1 k5,aB k7 .i64 0] (.block 0 RX))⟩
def f68:AF:=⟨[k0,k1],[.cell k4 false 1],(θ [dN k2 23 k0,dN k3 113 k1,⟨some k4,.new 4 [.b false],none,0⟩] (θ [ah k8 5 k3,ab k9 1 k8,yB k5 3 .i64 0,ct 1 k5 k9] (.seq (θ [ah aA 0 k3,ah aE 4 aA,ab aF 1 aE,cn aG 149 aF] (.block 0 (.lT (.t aG) [aP,aT] (.reg [δ k7 aT]) (.block 1 (.seq (θ [δ aU k7,oH aM aU .i64 0,δ aV aM,dM bf k7 aV,fc bu 1 k5 aV,⟨some bn,.bin .sub (.one .bool) (.t bu) (.c (.i .i64 1)),some (aV,false),0⟩,yw bH bf bn aV,dV bC aV bH] (.cond (.t bC) (θ [yA 1 k4] .ret) .skip)) (.reg [ab bz 1 k2,δ bJ k7,dU bO 73 bz bJ,ct 1 k5 bO])))))) (θ [HY 1 k4] .ret))))⟩
def f149:AF:=⟨[k0],[.t k2],(θ [dN k1 67 k0,ER k2] (θ [Ay k3 212 k1,δ k2 k3] .ret))⟩
def RY:AC:=.loop (.seq (θ [δ k7 k3,jy k8 k7 .i64 0] (.cond (.t k8) .skip (.exit 0))) (.seq (.block 1 (θ [δ aE k0,δ aF k3,ab aG 1 k1,δ aP k3,cD aT 1 aG aP,ab aU 1 aT,HX aM aE aF aU,jJ aV aM] (.cond (.t aV) .ret .skip))) (.reg [δ k9 k3,fg aA k9 .i64 1,δ k3 aA])))
def f212:AF:=⟨[k0,k1],[],(θ [ab k4 1 k1,aH k5 1 k4,fg k6 k5 .i64 1,δ k3 k6] (.block 0 RY))⟩
def RZ:AC:=.loop (.seq (θ [δ k5 k0,δ k6 k1,cD k7 5 k5 k6,ah k8 4 k7,ab k9 1 k8,aH aA 1 k9,mP aE aA .i64 0] (.cond (.t aE) .skip (.exit 0))) (.block 1 (.reg [δ aF k0,δ aG k1,cD aP 5 aF aG,ah aT 4 aP,ab aU 1 aT,⟨some aM,.iad none 1 (.t aU) (.c (.i .i64 0)),none,0⟩,ab aV 1 aM,δ k1 aV])))
def R0:AC:=θ [δ bf k1,δ k4 bf] .ret
def f73:AF:=⟨[k0,k1],[.t k4],(θ [aB k4 .i64 0] (.seq (.block 0 RZ) R0))⟩
def R1:AC:=.loop (θ [cO aG aF aE] (.seq (.cond (.t aG) .skip (.exit 0)) (.seq (.block 1 (θ [δ aP aF,cD aT 1 aA aF,ab aU 1 aT,δ k5 aP,δ k6 aU] (θ [δ aM k0,δ aV k6,cD bf 5 aM aV,ah bu 0 bf,ab bn 1 bu,cP bH bn .i64 19,δ k7 bH] (θ [ah bC 0 k3,ah bz 0 bC,ab bJ 1 bz,cn bO 104 bJ,δ bP bO,cQ bZ k7 bP,cQ bW k5 bP,iQ bT 0 k3 bP,iQ bF 4 bT bP,j8 cC 1 bF bP,qw cE 1 cC bP,HT cr cE .i64 1 bP,Lc cM bW cr bP,⟨some cJ,.bin .eql (.one .bool) (.t bZ) (.t cM),some (bP,true),0⟩,fF cK bP cJ,δ cu cK,eo dn 0 k3 cu,eo cN 0 dn cu,fc dt 1 cN cu,pD dB 104 dt cu,yz cY dB cu,dM eJ cY cu,cQ eX k7 eJ,yu ff eJ eX cu,dV eQ cu ff] (.cond (.t eQ) (θ [aB k4 .i64 11] .ret) .skip))))) (.reg [bR eS aF .i64 1,δ aF eS]))))
def R2:AC:=θ [aB k4 .i64 0] .ret
def f69:AF:=⟨[k0,k1],[.t k4],(θ [dN k3 113 k1,aB k4 .i64 0] (.seq (θ [ah k8 0 k3,ah k9 4 k8,ab aA 1 k9,aH aE 1 aA,aB aF .i64 0] (.block 0 R1)) R2))⟩
def f104:AF:=⟨[k0],[.t k2],(θ [bS k2] (θ [δ k3 k0,cP k4 k3 .i64 17,δ k5 k4,dM k6 k0 k5,Cm k7 k6 .i64 18 k5,dV k8 k5 k7,δ k2 k8] .ret))⟩
def f70:AF:=⟨[k0],[.t k2],(θ [dN k1 113 k0,aB k2 .i64 0] (.seq (θ [ah k3 0 k1,ah k4 0 k3,ab k5 1 k4] (.block 0 (θ [cP k7 k5 .i64 2,δ k6 k7] (.cond (.t k6) (θ [ah k8 0 k1,ah k9 2 k8,ab aA 1 k9,cn aE 150 aA,mQ aF aE .i64 0,δ aG aF,iQ aP 0 k1 aG,iQ aT 2 aP aG,j8 aU 1 aT aG,EF aM 151 aU aG,⟨some aV,.bin .neq (.one .int) (.t aM) (.c (.i .i64 0)),some (aG,true),0⟩,fF bf aG aV,pC bu 38 bf .i64 6,δ k2 bu] .ret) (θ [cP bH k5 .i64 3,δ bn bH] (.cond (.t bn) (θ [ah bC 0 k1,ah bz 2 bC,ab bJ 1 bz,cn bO 42 bJ,jJ bP bO,pC bZ 38 bP .i64 6,δ k2 bZ] .ret) (θ [cP bT k5 .i64 4,δ bW bT] (.cond (.t bW) (θ [ah bF 0 k1,ah cC 2 bF,ab cE 1 cC,pE cr cE 0 0,pC cM 38 cr .i64 6,δ k2 cM] .ret) .skip)))))))) (θ [ah cJ 0 k1,ah cK 2 cJ,ab cu 1 cK,Co dn cu 0 0,pC cN 38 dn .i64 6,δ k2 cN] .ret)))⟩
def f150:AF:=⟨[k0],[.t k2],(θ [aB k2 .i64 0] (θ [δ k6 k0,⟨some k7,.cg (.c (.f 213 [] [])) [(.t k6),(.c (.s 1 45))],none,0⟩,δ k5 k7,fe k8 k5 0,fe k9 k5 1,δ k3 k8,δ k4 k9] (.seq (θ [δ aA k3,cn aE 214 aA,jJ aF aE,δ aG aF,dM aP k3 aG,⟨some aT,.idx none (.t aP) (.c (.i .i64 0)),some (aG,false),0⟩,Cm aU aT .u8 48 aG,dM aM aU aG,cQ aV k4 aM,cQ bf aV aM,dM bu k3 bf,j9 bn 0 bu bf,vM bH bn .i64 1 bf,⟨some bC,.pick (.t bf) (.c (.b true)) (.t bH),some (aM,true),0⟩,yu bz aM bC aG,dV bJ aG bz] (.cond (.t bJ) (θ [aB k2 .i64 1] .ret) .skip)) (θ [δ bO k3,aH bP 0 bO,mP bZ bP .i64 120,pC bW 215 bZ .i64 4,δ k2 bW] .ret))))⟩
def f213:AF:=⟨[k0,k1],[.t k4,.t k5],(θ [oJ k4 0 0,bS k5] (θ [δ k6 k0,δ k7 k1,dU k8 261 k6 k7,fe k9 k8 0,fe aA k8 1,δ k4 k9,δ k5 aA] .ret))⟩
def f261:AF:=⟨[k0,k1],[.t k4,.t k5],(θ [oJ k4 0 0,bS k5] (.seq (θ [δ k6 k0,δ k7 k1,dU k8 292 k6 k7,jJ k9 k8] (.cond (.t k9) (θ [δ aA k0,δ k4 aA,bS k5] .ret) .skip)) (θ [δ aE k0,δ aF k1,aH aG 0 aF,EG aP aE aG,δ k4 aP,nK k5] .ret)))⟩
def f292:AF:=⟨[k0,k1],[.t k4],(θ [bS k4] (θ [δ k5 k0,aH k6 0 k5,δ k7 k1,aH k8 0 k7,⟨some k9,.bin .geq (.one .bool) (.t k6) (.t k8),none,0⟩,δ aA k9,cQ aE k0 aA,cQ aF k1 aA,qw aG 0 aF aA,⟨some aP,.sli .str (.t aE) none (some (.t aG)) none,some (aA,true),0⟩,cQ aT k1 aA,Cn aU aP aT aA,fF aM aA aU,δ k4 aM] .ret))⟩
def R3:AC:=.loop (θ [H6 k7 k6,fe k8 k7 0] (.seq (.cond (.t k8) .skip (.exit 0)) (.block 1 (θ [fe k9 k7 2,δ k4 k9] (θ [δ aA k4,oH aE aA .i32 48,δ aF aE,dM aG k4 aF,vM aP aG .i32 57 aF,dV aT aF aP] (.cond (.t aT) (θ [bS k2] .ret) .skip))))))
def f214:AF:=⟨[k0],[.t k2],(θ [bS k2] (.seq (θ [δ k5 k0,H5 k6 k5] (.block 0 R3)) (θ [δ aU k0,Co aM aU 0 0,δ k2 aM] .ret)))⟩
def f215:AF:=⟨[k0,k1],[.t k4],(θ [aB k4 .i64 0] (.seq (θ [δ k5 k0] (.cond (.t k5) (θ [δ k6 k1,δ k4 k6] .ret) .skip)) (θ [aB k4 .i64 0] .ret)))⟩
def f151:AF:=⟨[k0],[.t k2],(θ [aB k2 .i64 0] (θ [δ k9 k0,⟨some aA,.cg (.c (.f 191 [] [])) [(.t k9),(.c (.s 1 47))],none,0⟩,δ k8 aA,fe aE k8 0,fe aF k8 1,fe aG k8 2,δ k3 aE,δ k4 aF,δ k5 aG] (.seq (θ [δ aP k5,jJ aT aP,δ aU aT,dM aM k4 aU,⟨some aV,.cg (.c (.f 216 [] [])) [(.t aM),(.c (.s 1 47))],some (aU,false),0⟩,dV bf aU aV] (.cond (.t bf) (θ [aB k2 .i64 1] .ret) .skip)) (.seq (θ [δ bu k3,cn bn 150 bu,δ bH k4,cn bC 150 bH,⟨some bz,.bsl 26 [.i .i64 0,.i .i64 0] 2 [(0,1,(.t bn)),(1,1,(.t bC))],none,0⟩,cn bJ 217 bz,δ k6 bJ] (θ [δ bO k6,mQ bP bO .i64 0] (.cond (.t bP) (θ [δ bZ k6,δ k2 bZ] .ret) .skip))) (θ [δ bW k3,cn bT 218 bW,δ bF k4,cn cC 218 bF,⟨some cE,.bld [.ns,.b false,.ns,.b false] [(0,2,(.t bT)),(2,2,(.t cC))],none,0⟩,⟨some k7,.new 276 [.ns,.b false,.ns,.b false],none,0⟩,ct 4 k7 cE] (θ [ah cr 2 k7,ah cM 1 cr,ab cJ 1 cM,δ cK cJ,eo cu 2 k7 cK,eo dn 0 cu cK,⟨some cN,.ld true 1 (.t dn),some (cK,false),0⟩,pD dt 219 cN cK,dV dB cK dt,δ cY dB,eo eJ 0 k7 cY,eo eX 0 eJ cY,⟨some ff,.ld true 1 (.t eX),some (cY,false),0⟩,eo eQ 2 k7 cY,eo eS 0 eQ cY,⟨some fU,.ld true 1 (.t eS),some (cY,false),0⟩,⟨some fi,.cg (.c (.f 220 [] [])) [(.t ff),(.t fU)],some (cY,false),0⟩,pD gh 221 fi cY,yz fo gh cY,dV fN cY fo,pC gV 215 fN .i64 1,δ k2 gV] .ret))))))⟩
def f191:AF:=⟨[k0,k1],[.t k4,.t k5,.t k6],(θ [oJ k4 0 0,oJ k5 0 0,bS k6] (θ [δ k7 k0,δ k8 k1,dU k9 246 k7 k8,fe aA k9 0,fe aE k9 1,fe aF k9 2,δ k4 aA,δ k5 aE,δ k6 aF] .ret))⟩
def f246:AF:=⟨[k0,k1],[.t k4,.t k5,.t k6],(θ [oJ k4 0 0,oJ k5 0 0,bS k6] (.seq (θ [δ k8 k0,δ k9 k1,dU aA 279 k8 k9,δ k7 aA] (θ [δ aE k7,jy aF aE .i64 0] (.cond (.t aF) (.seq (.regd [δ aG k0,δ aP k7,⟨some aT,.sli .str (.t aG) none (some (.t aP)) none,none,3⟩,δ aU k0,δ aM k7,δ aV k1,⟨some bf,.len 0 (.t aV),none,32⟩,⟨some bu,.bin .add (.one .bool) (.t aM) (.t bf),none,112⟩,⟨some bn,.sli .str (.t aU) (some (.t bu)) none none,none,248⟩,ES k4 aT,⟨some k5,.mv (.t bn),none,1023⟩,⟨some k6,.mv (.c (.b true)),none,2047⟩]) .ret) .skip))) (θ [δ bH k0,δ k4 bH,oJ k5 0 0,bS k6] .ret)))⟩
def f279:AF:=⟨[k0,k1],[.t k4],(θ [aB k4 .i64 0] (θ [δ aP k1,aH aT 0 aP,δ k5 aT] (.seq (.block 0 (θ [δ aM k5,cP aV aM .i64 0,δ bf aV,dM bu k1 bf,dM bn k0 bf,⟨some bH,.bin .eql (.one .str) (.t bu) (.t bn),some (bf,false),0⟩,dV bC bf bH,δ aU bC] (.cond (.t aU) (θ [aB k4 .i64 0] .ret) (θ [δ bJ k5,cP bO bJ .i64 1,δ bz bO] (.cond (.t bz) (θ [δ bP k0,δ bZ k1,Cp bW bZ .i64 0,dU bT 169 bP bW,δ k4 bT] .ret) (θ [δ cC k5,δ cE k0,aH cr 0 cE,⟨some cM,.bin .geq (.one .bool) (.t cC) (.t cr),none,0⟩,δ bF cM] (.cond (.t bF) (θ [aB k4 .i64 (-1)] .ret) (θ [δ cK k5,⟨some cu,.ld false 1 (.c (.p k3 0)),none,0⟩,Lj dn cK cu,δ cN dn,cQ dt k0 cN,qw dB 0 dt cN,HS cY dB .i64 64 cN,fF eJ cN cY,δ cJ eJ] (.cond (.t cJ) (θ [δ eX k0,δ ff k1,dU eQ 276 eX ff,δ k4 eQ] .ret) .skip))))))))) (θ [δ eS k1,Cp fU eS .i64 0,δ k6 fU] (θ [δ fi k1,Cp gh fi .i64 1,δ k7 gh] (θ [aB k8 .i64 0] (θ [δ fo k0,aH fN 0 fo,δ gV k5,yx jo fN gV,bR jz jo .i64 1,δ k9 jz] (θ [aB aA .i64 0] (.seq (.block 1 (.loop (.seq (θ [δ hY k8,δ jY k9,cO jZ hY jY] (.cond (.t jZ) .skip (.exit 1))) (.block 2 (.seq (θ [δ j0 k0,δ iN k8,oI j3 j0 iN,δ j4 k6,tf j5 j3 j4] (.cond (.t j5) (θ [δ j6 k0,δ kT k8,bR jq kT .i64 1,δ hZ k9,⟨some mL,.sli .str (.t j6) (some (.t jq)) (some (.t hZ)) none,none,0⟩,δ oa k6,dU oc 169 mL oa,δ aE oc] (.seq (θ [δ mM aE,oH ql mM .i64 0] (.cond (.t ql) (θ [aB k4 .i64 (-1)] .ret) .skip)) (.reg [δ pR k8,δ qm aE,bR pS qm .i64 1,lC qn pR pS,δ k8 qn]))) .skip)) (.seq (θ [δ oe k0,δ qo k8,bR pT qo .i64 1,oI sg oe pT,δ sh k7,EH si sg sh,δ kU si,cQ kB k0 kU,cQ sj k8 kU,cQ sk k8 kU,cQ sn k5 kU,⟨some so,.bin .add (.one .bool) (.t sk) (.t sn),some (kU,true),0⟩,⟨some qp,.sli .str (.t kB) (some (.t sj)) (some (.t so)) none,some (kU,true),0⟩,cQ qX k1 kU,Cn mz qp qX kU,fF tT kU mz] (.cond (.t tT) (θ [δ tU k8,δ k4 tU] .ret) .skip)) (θ [δ tV k8,bR tW tV .i64 1,δ k8 tW] (θ [δ tX aA,bR tY tX .i64 1,δ aA tY] (θ [δ tZ k5,⟨some rH,.ld false 1 (.c (.p k3 0)),none,0⟩,Lj rI tZ rH,δ py rI,cQ uI aA py,cQ uJ k8 py,EF uK 275 uJ py,⟨some uL,.bin .gtr (.one .bool) (.t uI) (.t uK),some (py,true),0⟩,fF uM py uL] (.cond (.t uM) (θ [δ uN k0,δ uO k8,EG uP uN uO,δ uQ k1,dU j7 276 uP uQ,δ aF j7] (.seq (θ [δ uR aF,jy uS uR .i64 0] (.cond (.t uS) (θ [δ uT aF,δ uU k8,lC uV uT uU,δ k4 uV] .ret) .skip)) (θ [aB k4 .i64 (-1)] .ret))) (θ [δ uW k5,⟨some uX,.ld false 1 (.c (.p k3 0)),none,0⟩,⟨some uY,.bin .gtr (.one .bool) (.t uW) (.t uX),none,0⟩,δ nH uY,cQ pz aA nH,cQ uZ k8 nH,⟨some u7,.bin .shr (.one .bool) (.t uZ) (.c (.i .u64 4)),some (nH,true),0⟩,⟨some u9,.bin .add (.one .bool) (.c (.i .i64 4)) (.t u7),some (nH,true),0⟩,⟨some vc,.bin .geq (.one .bool) (.t pz) (.t u9),some (nH,true),0⟩,fF vh nH vc,δ qs vh,cQ vj k8 qs,cQ vu k9 qs,HV vw vj vu qs,fF nI qs vw] (.cond (.t nI) (θ [δ vz k0,δ vC k8,EG vD vz vC,δ vE k1,dU vF 306 vD vE,δ aG vF] (.seq (θ [δ vG aG,oH vH vG .i64 0] (.cond (.t vH) (θ [aB k4 .i64 (-1)] .ret) .skip)) (θ [δ vI k8,δ ym aG,lC yn vI ym,δ k4 yn] .ret))) .skip)))))))))))) (θ [aB k4 .i64 (-1)] .ret))))))))))⟩
def f169:AF:=⟨[k0,k1],[.t k4],(θ [aB k4 .i64 0] (θ [δ k5 k0,δ k6 k1,dU k7 232 k5 k6,δ k4 k7] .ret))⟩
def f275:AF:=⟨[k0],[.t k2],(θ [aB k2 .i64 0] (θ [δ k3 k0,bR k4 k3 .i64 16,Ar k5 k4 .i64 8,δ k2 k5] .ret))⟩
def f306:AF:=⟨[k0,k1],[.t k4],(θ [aB k4 .i64 0] (θ [δ aF k1,cn aG 322 aF,δ aE aG,fe aP aE 0,fe aT aE 1,δ k5 aP,δ k6 aT] (θ [δ aU k1,aH aM 0 aU,δ k7 aM] (θ [aB k8 .u32 0] (.seq (θ [aB k9 .i64 0] (.block 0 (.loop (.seq (θ [δ aV k9,δ bf k7,cO bu aV bf] (.cond (.t bu) .skip (.exit 0))) (.seq (.block 1 (.reg [δ bC k8,HU bz bC .u32 16777619,δ bJ k0,δ bO k9,oI bP bJ bO,lD bZ .u32 bP,lC bW bz bZ,δ k8 bW])) (.reg [δ bn k9,bR bH bn .i64 1,δ k9 bH])))))) (.seq (θ [δ bT k8,δ bF k5,EH cC bT bF,δ cE cC,cQ cr k0 cE,cQ cM k7 cE,⟨some cJ,.sli .str (.t cr) none (some (.t cM)) none,some (cE,true),0⟩,cQ cK k1 cE,Cn cu cJ cK cE,fF dn cE cu] (.cond (.t dn) (θ [aB k4 .i64 0] .ret) .skip)) (.seq (θ [δ cN k7,δ aA cN] (.block 2 (.loop (.seq (θ [δ dt aA,δ dB k0,aH cY 0 dB,cO eJ dt cY] (.cond (.t eJ) .skip (.exit 2))) (.block 3 (θ [δ eX k8,HU ff eX .u32 16777619,δ k8 ff] (θ [δ eQ k8,δ eS k0,δ fU aA,oI fi eS fU,lD gh .u32 fi,lC fo eQ gh,δ k8 fo] (θ [δ fN k8,δ gV k6,δ jo k0,δ jz aA,δ hY k7,yx jY jz hY,oI jZ jo jY,lD j0 .u32 jZ,Lh iN gV j0,yx j3 fN iN,δ k8 j3] (θ [δ j4 aA,bR j5 j4 .i64 1,δ aA j5] (θ [δ j6 k8,δ kT k5,EH jq j6 kT,δ hZ jq,cQ mL k0 hZ,cQ oa aA hZ,cQ oc k7 hZ,⟨some mM,.bin .sub (.one .bool) (.t oa) (.t oc),some (hZ,true),0⟩,cQ ql aA hZ,⟨some pR,.sli .str (.t mL) (some (.t mM)) (some (.t ql)) none,some (hZ,true),0⟩,cQ qm k1 hZ,Cn pS pR qm hZ,fF qn hZ pS] (.cond (.t qn) (θ [δ oe aA,δ qo k7,yx pT oe qo,δ k4 pT] .ret) .skip))))))))))) (θ [aB k4 .i64 (-1)] .ret))))))))⟩
def f322:AF:=⟨[k0],[.t k2,.t k3],(θ [aB k2 .u32 0,aB k3 .u32 0] (θ [aB k4 .u32 0] (.seq (θ [aB k5 .i64 0] (.block 0 (.loop (.seq (θ [δ k9 k5,δ aA k0,aH aE 0 aA,cO aF k9 aE] (.cond (.t aF) .skip (.exit 0))) (.seq (.block 1 (.reg [δ aT k4,HU aU aT .u32 16777619,δ aM k0,δ aV k5,oI bf aM aV,lD bu .u32 bf,lC bn aU bu,δ k4 bn])) (.reg [δ aG k5,bR aP aG .i64 1,δ k5 aP])))))) (θ [aB k6 .u32 1,aB k7 .u32 16777619] (.seq (θ [δ bH k0,aH bC 0 bH,δ k8 bC] (.block 2 (.loop (.seq (θ [δ bz k8,mP bJ bz .i64 0] (.cond (.t bJ) .skip (.exit 2))) (.seq (.block 3 (.seq (θ [δ bZ k8,⟨some bW,.bin .and (.one .bool) (.t bZ) (.c (.i .i64 1)),none,0⟩,mQ bT bW .i64 0] (.cond (.t bT) (.reg [δ bF k6,δ cC k7,Lh cE bF cC,δ k6 cE]) .skip)) (.reg [δ cr k7,δ cM k7,Lh cJ cr cM,δ k7 cJ]))) (.reg [δ bO k8,⟨some bP,.bin .shr (.one .bool) (.t bO) (.c (.i .u64 1)),none,0⟩,δ k8 bP])))))) (θ [δ cK k4,δ cu k6,δ k2 cK,δ k3 cu] .ret))))))⟩
def f216:AF:=⟨[k0,k1],[.t k4],(θ [bS k4] (θ [δ k5 k0,δ k6 k1,dU k7 262 k5 k6,jy k8 k7 .i64 0,δ k4 k8] .ret))⟩
def f262:AF:=⟨[k0,k1],[.t k4],(θ [aB k4 .i64 0] (θ [δ k5 k0,δ k6 k1,dU k7 279 k5 k6,δ k4 k7] .ret))⟩
def f217:AF:=⟨[k0],[.t k2],(θ [aB k2 .i64 0] (.seq (θ [δ k5 k0,aH k6 1 k5,aB k7 .i64 0] (.block 0 (.loop (θ [cO k8 k7 k6] (.seq (.cond (.t k8) .skip (.exit 0)) (.seq (.block 1 (θ [cD k9 1 k5 k7,ab aA 1 k9,δ k4 aA] (θ [δ aE k4,mQ aF aE .i64 0] (.cond (.t aF) (θ [δ aG k4,δ k2 aG] .ret) .skip)))) (.reg [bR aP k7 .i64 1,δ k7 aP]))))))) (θ [aB k2 .i64 0] .ret)))⟩
def R4:AC:=.loop (θ [H6 bu bf,fe bn bu 0] (.seq (.cond (.t bn) .skip (.exit 2)) (.block 3 (θ [fe bH bu 2,δ k9 bH] (.reg [δ bC k7,⟨some bz,.bin .mul (.one .bool) (.c (.i .u32 10)) (.t bC),none,0⟩,δ bJ k9,fg bO bJ .i32 48,lD bP .u32 bO,lC bZ bz bP,δ k7 bZ])))))
def f218:AF:=⟨[k0],[.cell k2 true 2],(θ [⟨some k2,.new 273 [.ns,.b false],none,0⟩] (θ [δ aE k0,⟨some aF,.cg (.c (.f 213 [] [])) [(.t aE),(.c (.s 1 45))],none,0⟩,δ aA aF,fe aG aA 0,fe aP aA 1,δ k3 aG,δ k4 aP] (θ [kJ k5 269] (.seq (θ [δ aT k3,cn aU 263 aT] (.block 0 (.lT (.t aU) [aM] (.reg [δ k6 aM]) (.block 1 (θ [aB k7 .u32 0] (.seq (θ [δ aV k6,H5 bf aV] (.block 2 R4)) (.reg [ab bW 1 k5,δ bT k7,tc bF 316 .u32 0 1 0 1 bT,vN cC 316 1 4 .u32 0 bW bF,ct 1 k5 cC]))))))) (θ [ab cE 1 k5,cn cr 265 cE,EJ cM 0 1 cr,δ cJ k4,dU cK 264 cM cJ,ct 2 k2 cK] .ret)))))⟩
def f263:AF:=⟨[k0],[.t k2],(θ [dN k1 9 k0,ER k2] (θ [Ay k3 293 k1,δ k2 k3] .ret))⟩
def R5:AC:=.loop (.seq (θ [ab k4 1 k1,aH k5 0 k4,mP k6 k5 .i64 0] (.cond (.t k6) .skip (.exit 0))) (.block 1 (θ [ab k7 1 k1,aH k8 0 k7,fg k9 k8 .i64 9,⟨some aA,.mm true [(.c (.i .i64 0)),(.t k9)],none,0⟩,δ k3 aA] (.seq (θ [δ aE k0,ab aF 1 k1,δ aG k3,EG aP aF aG,HZ aT aE aP,jJ aU aT] (.cond (.t aU) .ret .skip)) (.reg [ab aM 1 k1,δ aV k3,⟨some bf,.sli .str (.t aM) none (some (.t aV)) none,none,0⟩,ct 1 k1 bf])))))
def f293:AF:=⟨[k0,k1],[],(.block 0 R5)⟩
def R6:AC:=.loop (.seq (θ [δ k6 k4,δ k7 k0,HZ k8 k6 k7] (.cond (.t k8) .skip (.exit 0))) (.block 1 (.reg [δ k9 k0,δ aA k0,aH aE 1 aA,fg aF aE .i64 1,⟨some aG,.sli (.sl 1) (.t k9) none (some (.t aF)) none,none,0⟩,δ k0 aG])))
def f265:AF:=⟨[k0],[.t k2],(θ [iS k2] (θ [yB k3 316 .u32 0] (θ [Ay k5 294 k3,δ k4 k5] (.seq (.block 0 R6) (θ [δ aP k0,cn aT 295 aP,δ k2 aT] .ret)))))⟩
def f294:AF:=⟨[k0,k1],[.t k3],(θ [bS k3] (.seq (.regd [δ k4 k0,⟨some k5,.len 1 (.t k4),none,1⟩,⟨some k6,.bin .gtr (.one .bool) (.t k5) (.c (.i .i64 0)),none,3⟩,ES k7 k6,⟨some k8,.mv (.t k0),some (k7,true),15⟩,⟨some k9,.mv (.t k0),some (k7,true),15⟩,⟨some aA,.len 1 (.t k9),some (k7,true),47⟩,⟨some aE,.bin .sub (.one .bool) (.t aA) (.c (.i .i64 1)),some (k7,true),111⟩,⟨some aF,.iad none 1 (.t k8) (.t aE),some (k7,true),255⟩,⟨some aG,.ld false 1 (.t aF),some (k7,true),511⟩,⟨some aP,.ld false 1 (.t k1),some (k7,true),15⟩,⟨some aT,.bin .eql (.one .int) (.t aG) (.t aP),some (k7,true),2047⟩,⟨some aU,.pick (.t k7) (.t aT) (.c (.b false)),none,4095⟩,⟨some k3,.mv (.t aU),none,8191⟩]) .ret))⟩
def f295:AF:=⟨[k0],[.t k2],(θ [iS k2] (θ [δ k3 k0,δ k4 k0,aH k5 1 k4,δ k6 k0,aH k7 1 k6,⟨some k8,.sli (.sl 1) (.t k3) none (some (.t k5)) (some (.t k7)),none,0⟩,δ k2 k8] .ret))⟩
def f264:AF:=⟨[k0,k1],[.cell k4 true 2],(θ [dN k2 271 k0,⟨some k4,.new 273 [.ns,.b false],none,0⟩] (.seq (.regd [cm k5 1 k2,δ k6 k1,⟨some k7,.mv (.t k6),none,2⟩,⟨some k8,.ld true 1 (.t k2),some (k7,true),6⟩,⟨some k9,.cg (.c (.f 219 [] [])) [(.t k8)],some (k7,true),14⟩,⟨some aA,.un .not (.t k9),some (k7,true),30⟩,⟨some aE,.pick (.t k7) (.t aA) (.c (.b false)),none,62⟩,⟨some aF,.bld [.ns,.b false] [(0,1,(.t k5)),(1,1,(.t aE))],none,127⟩,EO 2 k4 aF]) .ret))⟩
def f219:AF:=⟨[k0],[.t k2],(θ [dN k1 271 k0,bS k2] (θ [ah k3 0 k1,ab k4 1 k3,aH k5 1 k4,cP k6 k5 .i64 0,δ k2 k6] .ret))⟩
def R7:AC:=.loop (.seq (θ [cm k7 1 k3,cn k8 219 k7,jJ k9 k8] (.cond (.t k9) .skip (.exit 0))) (.block 1 (θ [cm aE 1 k2,cm aF 1 k3,dU aG 266 aE aF,δ aA aG,fe aP aA 0,fe aT aA 1,kJ k5 271,kJ k6 271,ct 1 k5 aP,ct 1 k6 aT] (.regd [cm aU 1 k3,cm aM 1 k6,⟨none,.st 1 (.t k2) (.t aU),none,1⟩,Az 1 k3 aM]))))
def f220:AF:=⟨[k0,k1],[.cell k4 true 1],(θ [dN k2 271 k0,dN k3 271 k1,kJ k4 271] (.seq (.block 0 R7) (θ [cm aV 1 k2,ct 1 k4 aV] .ret)))⟩
def R8:AC:=.block 3 (θ [δ u9 aM,fg vc u9 .u64 1,δ aM vc] (θ [δ vh aV,ab qs 1 aA,lC vj vh qs,δ aV vj] (θ [δ vu aV,jy vw vu .u64 1000000000] (.cond (.t vw) (.exit 2) .skip))))
def R9:AC:=.seq (.seq (.regd [δ uP aM,⟨some uQ,.bin .geq (.one .bool) (.t uP) (.c (.i .u64 1000000000)),none,1⟩,⟨some j7,.mv (.t uQ),none,3⟩,⟨some uR,.mv (.t aM),some (j7,false),7⟩,⟨some uS,.ld false 1 (.t aE),some (j7,false),7⟩,⟨some uT,.bin .mul (.one .bool) (.t uR) (.t uS),some (j7,false),31⟩,⟨some uU,.mv (.t aV),some (j7,false),7⟩,⟨some uV,.bin .mul (.one .bool) (.t uU) (.c (.i .u64 1000000000)),some (j7,false),71⟩,⟨some uW,.ld true 1 (.t aG),some (j7,false),7⟩,⟨some uX,.ld false 1 (.t k9),some (j7,false),7⟩,⟨some uY,.bin .sub (.one .bool) (.t uX) (.c (.i .i64 2)),some (j7,false),519⟩,⟨some nH,.cg (.c (.f 298 [] [])) [(.t uW),(.t uY)],some (j7,false),1799⟩,⟨some pz,.bin .add (.one .bool) (.t uV) (.t nH),some (j7,false),4039⟩,⟨some uZ,.bin .gtr (.one .bool) (.t uT) (.t pz),some (j7,false),8191⟩,⟨some u7,.pick (.t j7) (.c (.b true)) (.t uZ),none,16383⟩]) (.cond (.t u7) .skip (.exit 2))) R8
def Lp:AC:=.loop R9
def Sa:AC:=θ [cm B4 1 aG,cm B5 1 bf,dU B6 287 B4 B5,ct 1 aG B6] (θ [δ B7 aP,ab B8 1 aF,aH B9 1 B8,cO Ca B7 B9] (.cond (.t Ca) (.reg [ab Cb 1 aF,δ Cc aP,δ Ce aM,lD Cf .u32 Ce,cD Cg 1 Cb Cc,ct 1 Cg Cf]) .skip))
def Sb:AC:=.block 1 (.scope (θ [δ sn aT,tc so 316 .u32 0 1 0 1 sn,ah qp 0 aG,ab qX 1 qp,vN mz 316 1 4 .u32 0 so qX,cn tT 265 mz,EJ tU 0 1 tT,ct 1 aG tU] (.seq (.regd [cm tV 1 aG,ab tW 1 k9,As tX 298 tV tW,⟨some tY,.bin .mul (.one .bool) (.t tX) (.c (.i .u64 1000000000)),none,7⟩,cm tZ 1 aG,ab rH 1 k9,⟨some rI,.bin .sub (.one .bool) (.t rH) (.c (.i .i64 1)),none,32⟩,⟨some py,.cg (.c (.f 298 [] [])) [(.t tZ),(.t rI)],none,119⟩,⟨some uI,.bin .add (.one .bool) (.t tY) (.t py),none,255⟩,⟨some aU,.mv (.t uI),none,511⟩]) (.seq (.regd [δ uJ aU,ab uK 1 aA,⟨some uL,.bin .quo (.one .bool) (.t uJ) (.t uK),none,3⟩,δ uM aU,ab uN 1 aA,⟨some uO,.bin .rem (.one .bool) (.t uM) (.t uN),none,24⟩,ES aM uL,⟨some aV,.mv (.t uO),none,127⟩]) (.seq .skip (.seq (.block 2 Lp) (.seq (.regd [cm nI 1 k8,δ vz aM,⟨some vC,.cv (.toInt .u32) (.t vz),none,2⟩,⟨some vD,.bsl 316 [.i .u32 0] 1 [(0,1,(.t vC))],none,6⟩,⟨some vE,.cg (.c (.f 265 [] [])) [(.t vD)],none,14⟩,⟨some vF,.bld [.ns] [(0,1,(.t vE))],none,30⟩,⟨some vG,.cg (.c (.f 288 [] [])) [(.t nI),(.t vF)],none,63⟩,kJ bf 271,EO 1 bf vG]) (.seq (θ [cm vH 1 bf,cm vI 1 aG,dU ym 286 vH vI,mP yn ym .i64 0] (.cond (.t yn) (θ [δ BZ aM,fg B0 BZ .u64 1,δ aM B0] (.reg [cm B1 1 bf,cm B2 1 k8,dU B3 287 B1 B2,ct 1 bf B3])) .skip)) Sa))))))))
def Sc:AC:=.seq (.regd [cm Hz 1 aG,ah HA 0 k6,EM Ch 1 HA,⟨some HB,.iad none 1 (.t Ch) (.c (.i .i64 0)),none,6⟩,⟨some HC,.ld false 1 (.t HB),none,14⟩,Ld HD 296 Hz HC,⟨some Et,.mv (.t HD),none,63⟩,⟨some HE,.ext (.t Et) 0,none,127⟩,⟨some HF,.ext (.t Et) 1,none,127⟩,kJ bu 271,kJ bn 271,⟨none,.st 1 (.t bu) (.t HE),none,1791⟩,⟨none,.st 1 (.t bn) (.t HF),none,4095⟩]) (.seq (.regd [ab HG 1 aF,⟨some HH,.cg (.c (.f 265 [] [])) [(.t HG)],none,1⟩,⟨some HI,.bld [.ns] [(0,1,(.t HH))],none,3⟩,cm HJ 1 bu,Az 1 k4 HI,⟨none,.st 1 (.t k5) (.t HJ),none,31⟩]) .ret)
def Sd:AC:=θ [ah qn 0 k2,ab oe 1 qn,aH qo 1 oe,bR pT qo .i64 1,wV sg 316 1 4 .u32 0 pT pT,kJ aF 269,ct 1 aF sg] (θ [⟨some sh,.bld [.ns] [],none,0⟩,kJ aG 271,ct 1 aG sh] (.seq (θ [ah si 0 k7,ab kU 1 si,cn kB 297 kU] (.block 0 (.lT (.t kB) [sj,sk] (θ [δ aP sj] (.reg [δ aT sk])) Sb))) Sc))
def Se:AC:=θ [ah cN 0 k3,ab dt 1 cN,ah dB 0 k3,ab cY 1 dB,aH eJ 1 cY,fg eX eJ .i64 1,cD ff 1 dt eX,ab eQ 1 ff,lD eS .u64 eQ,bR fU eS .u64 1,⟨some fi,.bin .quo (.one .bool) (.c (.i .u64 1000000000)) (.t fU),none,0⟩,lD gh .u32 fi,tc fo 316 .u32 0 1 0 1 gh,EJ fN 0 1 fo,kJ k6 271,ct 1 k6 fN] (.seq (.regd [cm gV 1 k2,cm jo 1 k6,As jz 288 gV jo,cm hY 1 k3,cm jY 1 k6,Ld jZ 288 hY jY,kJ k7 271,kJ k8 271,EO 1 k7 jz,Ax 1 k8 jZ]) (θ [ah j0 0 k8,ab iN 1 j0,aH j3 1 iN,yB k9 3 .i64 0,ct 1 k9 j3] (.seq (.regd [ah j4 0 k8,rL j5 1 j4,ab j6 1 k9,⟨some kT,.bin .sub (.one .bool) (.t j6) (.c (.i .i64 1)),none,4⟩,⟨some jq,.iad none 1 (.t j5) (.t kT),none,15⟩,⟨some hZ,.ld false 1 (.t jq),none,31⟩,⟨some mL,.cv (.toInt .u64) (.t hZ),none,63⟩,ah oa 0 k8,⟨some oc,.ld false 1 (.t oa),none,128⟩,ab mM 1 k9,⟨some ql,.bin .sub (.one .bool) (.t mM) (.c (.i .i64 2)),none,512⟩,⟨some pR,.iad none 1 (.t oc) (.t ql),none,1920⟩,⟨some qm,.ld false 1 (.t pR),none,3968⟩,⟨some pS,.cv (.toInt .u64) (.t qm),none,8064⟩,yB aA 326 .u64 0,yB aE 326 .u64 0,⟨none,.st 1 (.t aA) (.t mL),none,49279⟩,⟨none,.st 1 (.t aE) (.t pS),none,131071⟩]) Sd)))
def f266:AF:=⟨[k0,k1],[.cell k4 true 1,.cell k5 true 1],(θ [dN k2 271 k0,dN k3 271 k1,kJ k4 271,kJ k5 271] (.seq (θ [cm bH 1 k2,cm bC 1 k3,dU bz 286 bH bC,oH bJ bz .i64 0] (.cond (.t bJ) (.seq (.regd [⟨some bO,.bld [.ns] [],none,0⟩,cm bP 1 k2,⟨none,.st 1 (.t k4) (.t bO),none,1⟩,Az 1 k5 bP]) .ret) .skip)) (.seq (θ [ah bZ 0 k3,ab bW 1 bZ,aH bT 1 bW,cP bF bT .i64 1] (.cond (.t bF) (.seq (.regd [cm cC 1 k2,ah cE 0 k3,EM cr 1 cE,⟨some cM,.iad none 1 (.t cr) (.c (.i .i64 0)),none,6⟩,⟨some cJ,.ld false 1 (.t cM),none,14⟩,Ld cK 296 cC cJ,⟨some cu,.ext (.t cK) 0,none,63⟩,⟨some dn,.ext (.t cK) 1,none,63⟩,EO 1 k4 cu,Ax 1 k5 dn]) .ret) .skip)) Se)))⟩
def f286:AF:=⟨[k0,k1],[.cell k4 false 1],(θ [dN k2 271 k0,dN k3 271 k1,yB k4 3 .i64 0] (.seq (θ [ah k7 0 k2,ab k8 1 k7,aH k9 1 k8,ah aA 0 k3,ab aE 1 aA,aH aF 1 aE,tf aG k9 aF] (.cond (.t aG) (θ [ah aP 0 k2,ab aT 1 aP,aH aU 1 aT,ah aM 0 k3,ab aV 1 aM,aH bf 1 aV,dU bu 314 aU bf,ct 1 k4 bu] .ret) .skip)) (.seq (θ [ah bn 0 k2,ab bH 1 bn,cn bC 297 bH] (.block 0 (.lT (.t bC) [bz,bJ] (θ [δ k5 bz] (.reg [δ k6 bJ])) (.block 1 (θ [δ bO k6,ah bP 0 k3,ab bZ 1 bP,δ bW k5,cD bT 1 bZ bW,ab bF 1 bT,tf cC bO bF] (.cond (.t cC) (θ [δ cE k6,lD cr .i64 cE,ah cM 0 k3,ab cJ 1 cM,δ cK k5,cD cu 1 cJ cK,ab dn 1 cu,lD cN .i64 dn,dU dt 314 cr cN,ct 1 k4 dt] .ret) .skip)))))) (θ [EL 1 k4 .i64 0] .ret))))⟩
def f314:AF:=⟨[k0,k1],[.t k4],(θ [aB k4 .i64 0] (.seq (θ [δ k5 k0,δ k6 k1,cO k7 k5 k6] (.cond (.t k7) (θ [aB k4 .i64 (-1)] .ret) .skip)) (.seq (θ [δ k8 k0,δ k9 k1,⟨some aA,.bin .gtr (.one .bool) (.t k8) (.t k9),none,0⟩] (.cond (.t aA) (θ [aB k4 .i64 1] .ret) .skip)) (θ [aB k4 .i64 0] .ret))))⟩
def f297:AF:=⟨[k0],[.t k2],(θ [dN k1 269 k0,ER k2] (θ [Ay k3 316 k1,δ k2 k3] .ret))⟩
def f316:AF:=⟨[k0,k1],[],(θ [ab k4 1 k1,aH k5 1 k4,fg k6 k5 .i64 1,δ k3 k6] (.block 0 (.loop (.seq (θ [δ k7 k3,jy k8 k7 .i64 0] (.cond (.t k8) .skip (.exit 0))) (.seq (.block 1 (θ [δ aE k0,δ aF k3,ab aG 1 k1,δ aP k3,cD aT 1 aG aP,ab aU 1 aT,HX aM aE aF aU,jJ aV aM] (.cond (.t aV) .ret .skip))) (.reg [δ k9 k3,fg aA k9 .i64 1,δ k3 aA]))))))⟩
def f296:AF:=⟨[k0,k1],[.cell k4 true 1,.cell k5 true 1],(θ [dN k2 271 k0,dN k3 316 k1,kJ k4 271,kJ k5 271] (θ [ah aE 0 k2,ab aF 1 aE,aH aG 1 aF,wV aP 316 1 4 .u32 0 aG aG,kJ k6 269,ct 1 k6 aP] (θ [yB k7 326 .u64 0,EL 1 k7 .u64 0] (.seq (θ [ah aT 0 k2,ab aU 1 aT,cn aM 297 aU] (.block 0 (.lT (.t aM) [aV,bf] (θ [δ k8 aV] (.reg [δ k9 bf])) (.block 1 (θ [ab bu 1 k7,HU bn bu .u64 1000000000,δ bH k9,lD bC .u64 bH,lC bz bn bC,δ aA bz] (.seq (.regd [ab bJ 1 k6,δ bO k8,δ bP aA,ab bZ 1 k3,⟨some bW,.cv (.toInt .u64) (.t bZ),none,8⟩,⟨some bT,.bin .quo (.one .bool) (.t bP) (.t bW),none,28⟩,⟨some bF,.cv (.toInt .u32) (.t bT),none,60⟩,⟨some cC,.iad none 1 (.t bJ) (.t bO),none,127⟩,EO 1 cC bF]) (.reg [δ cE aA,ab cr 1 k3,lD cM .u64 cr,⟨some cJ,.bin .rem (.one .bool) (.t cE) (.t cM),none,0⟩,ct 1 k7 cJ]))))))) (.seq (.regd [ab cK 1 k6,⟨some cu,.cg (.c (.f 265 [] [])) [(.t cK)],none,1⟩,⟨some dn,.bld [.ns] [(0,1,(.t cu))],none,3⟩,ab cN 1 k7,⟨some dt,.cv (.toInt .u32) (.t cN),none,8⟩,⟨some dB,.bsl 316 [.i .u32 0] 1 [(0,1,(.t dt))],none,24⟩,⟨some cY,.cg (.c (.f 265 [] [])) [(.t dB)],none,59⟩,⟨some eJ,.bld [.ns] [(0,1,(.t cY))],none,123⟩,⟨none,.st 1 (.t k4) (.t dn),none,127⟩,Ax 1 k5 eJ]) .ret)))))⟩
def Sf:AC:=θ [δ cr cC,δ k9 cr] (.seq (.regd [δ cM k5,δ cJ k6,δ cK k9,⟨some cu,.bin .add (.one .bool) (.t cJ) (.t cK),none,6⟩,⟨some dn,.iad none 1 (.t cM) (.t cu),none,15⟩,⟨some cN,.ld false 1 (.t dn),none,31⟩,⟨some dt,.cv (.toInt .u64) (.t cN),none,63⟩,δ dB k7,⟨some cY,.cv (.toInt .u64) (.t dB),none,128⟩,cm eJ 1 k3,δ eX k9,⟨some ff,.cg (.c (.f 298 [] [])) [(.t eJ),(.t eX)],none,1536⟩,⟨some eQ,.bin .mul (.one .bool) (.t cY) (.t ff),none,3968⟩,⟨some eS,.bin .add (.one .bool) (.t dt) (.t eQ),none,8191⟩,δ fU k8,⟨some fi,.bin .add (.one .bool) (.t eS) (.t fU),none,32767⟩,⟨some aA,.mv (.t fi),none,65535⟩]) (θ [δ gh k5,δ fo k6,δ fN k9,lC gV fo fN,δ jo aA,EE jz jo .u64 1000000000,lD hY .u32 jz,cD jY 1 gh gV,ct 1 jY hY] (.reg [δ jZ aA,Ar j0 jZ .u64 1000000000,δ k8 j0])))
def Sg:AC:=.loop (θ [cO cE cC bF] (.seq (.cond (.t cE) .skip (.exit 2)) (.seq (.block 3 Sf) (.reg [bR iN cC .i64 1,δ cC iN]))))
def Sj:AC:=.loop (θ [cO bz bC bH] (.seq (.cond (.t bz) .skip (.exit 0)) (.seq (.block 1 (θ [δ bJ bC,cD bO 1 bn bC,ab bP 1 bO,δ k6 bJ,δ k7 bP] (θ [aB k8 .u64 0] (θ [ah bZ 0 k3,ab bW 1 bZ,aH bT 1 bW,bR bF bT .i64 1,aB cC .i64 0] (.block 2 Sg))))) (.reg [bR j3 bC .i64 1,δ bC j3]))))
def f288:AF:=⟨[k0,k1],[.cell k4 true 1],(θ [dN k2 271 k0,dN k3 271 k1,kJ k4 271] (θ [ah aE 0 k2,ab aF 1 aE,aH aG 1 aF,ah aP 0 k3,ab aT 1 aP,aH aU 1 aT,lC aM aG aU,bR aV aM .i64 1,wV bf 316 1 4 .u32 0 aV aV,δ k5 bf] (.seq (θ [ah bu 0 k2,ab bn 1 bu,aH bH 1 bn,aB bC .i64 0] (.block 0 Sj)) (θ [δ j4 k5,cn j5 265 j4,EJ j6 0 1 j5,ct 1 k4 j6] .ret))))⟩
def f298:AF:=⟨[k0,k1],[.t k4],(θ [dN k2 271 k0,aB k4 .u64 0] (.seq (θ [δ k5 k1,ah k6 0 k2,ab k7 1 k6,aH k8 1 k7,cO k9 k5 k8] (.cond (.t k9) (θ [ah aA 0 k2,ab aE 1 aA,δ aF k1,cD aG 1 aE aF,ab aP 1 aG,lD aT .u64 aP,δ k4 aT] .ret) .skip)) (θ [aB k4 .u64 0] .ret)))⟩
def Sk:AC:=.reg [δ cu k5,δ dn k7,δ cN k8,lD dt .u32 cN,cD dB 1 cu dn,ct 1 dB dt]
def Sl:AC:=.reg [bR cY bf .i64 1,δ bf cY]
def Sn:AC:=θ [cO bu bf aV] (.seq (.cond (.t bu) .skip (.exit 0)) (.seq (.block 1 (θ [δ bn bf,δ k7 bn] (.seq (.regd [δ bH k5,δ bC k7,qv bz 1 bH bC,Aw bJ 1 bz,⟨some bO,.cv (.toInt .i64) (.t bJ),none,15⟩,cm bP 1 k3,δ bZ k7,⟨some bW,.cg (.c (.f 298 [] [])) [(.t bP),(.t bZ)],none,96⟩,⟨some bT,.cv (.toInt .i64) (.t bW),none,224⟩,⟨some bF,.bin .sub (.one .bool) (.t bO) (.t bT),none,511⟩,δ cC k6,⟨some cE,.bin .sub (.one .bool) (.t bF) (.t cC),none,2047⟩,⟨some k8,.mv (.t cE),none,4095⟩]) (θ [aB k6 .i64 0] (.seq (θ [δ cr k8,oH cM cr .i64 0] (.cond (.t cM) (.reg [δ cJ k8,bR cK cJ .i64 1000000000,δ k8 cK,aB k6 .i64 1]) .skip)) Sk))))) Sl))
def So:AC:=.loop Sn
def f287:AF:=⟨[k0,k1],[.cell k4 true 1],(θ [dN k2 271 k0,dN k3 271 k1,kJ k4 271] (θ [ah k9 0 k2,ab aA 1 k9,aH aE 1 aA,wV aF 316 1 4 .u32 0 aE aE,δ k5 aF] (θ [δ aG k5,ah aP 0 k2,ab aT 1 aP,⟨some aU,.A8 1 (.t aG) (.t aT),none,0⟩] (θ [aB k6 .i64 0] (.seq (θ [δ aM k5,aH aV 1 aM,aB bf .i64 0] (.block 0 So)) (θ [δ eJ k5,cn eX 265 eJ,EJ ff 0 1 eX,ct 1 k4 ff] .ret))))))⟩
def f221:AF:=⟨[k0],[.t k2],(θ [dN k1 271 k0,bS k2] (θ [ah k3 0 k1,ab k4 1 k3,aH k5 1 k4,cP k6 k5 .i64 1,δ k7 k6,iQ k8 0 k1 k7,j8 k9 1 k8 k7,⟨some aA,.iad none 1 (.t k9) (.c (.i .i64 0)),some (k7,true),0⟩,j8 aE 1 aA k7,Aq aF aE .u32 1 k7,fF aG k7 aF,δ k2 aG] .ret))⟩
def f42:AF:=⟨[k0],[.t k2],(θ [bS k2] (θ [δ k3 k0,Co k4 k3 0 0,δ k5 k4,cQ k6 k0 k5,qw k7 0 k6 k5,HS k8 k7 .i64 200 k5,fF k9 k5 k8,δ aA k9,cQ aE k0 aA,⟨some aF,.cg (.c (.f 100 [] [])) [(.t aE),(.c (.s 6 137967924939296))],some (aA,true),0⟩,⟨some aG,.un .not (.t aF),some (aA,true),0⟩,fF aP aA aG,δ k2 aP] .ret))⟩
def f100:AF:=⟨[k0,k1],[.t k4],(θ [bS k4] (θ [δ k5 k0,δ k6 k1,dU k7 176 k5 k6,jy k8 k7 .i64 0,δ k4 k8] .ret))⟩
def Sp:AC:=.loop (.seq (θ [δ cE k8,δ cr k0,aH cM 0 cr,cO cJ cE cM] (.cond (.t cJ) .skip (.exit 0))) (.seq (.block 1 (θ [δ dn k0,δ cN k8,oI dt dn cN,dU dB 243 k6 dt] (.cond (.t dB) (θ [δ cY k8,δ k4 cY] .ret) .skip))) (.reg [δ cK k8,bR cu cK .i64 1,δ k8 cu])))
def Sq:AC:=.loop (θ [H6 ff eX,fe eQ ff 0] (.seq (.cond (.t eQ) .skip (.exit 2)) (.block 3 (θ [fe eS ff 1,fe fU ff 2,δ k9 eS,δ aA fU] (θ [δ fi k1,δ gh aA,dU fo 240 fi gh,jy fN fo .i64 0] (.cond (.t fN) (θ [δ gV k9,δ k4 gV] .ret) .skip))))))
def f176:AF:=⟨[k0,k1],[.t k4],(θ [aB k4 .i64 0] (.seq (θ [δ aE k1,pE aF aE 0 0] (.cond (.t aF) (θ [aB k4 .i64 (-1)] .ret) .skip)) (.seq (θ [δ aG k1,aH aP 0 aG,cP aT aP .i64 1] (.cond (.t aT) (θ [δ aU k1,Cp aM aU .i64 0,lD aV .i32 aM,δ k5 aV] (.seq (θ [δ bf k5,jy bu bf .i32 128] (.cond (.t bu) (.reg [aB k5 .i32 65533]) .skip)) (θ [δ bn k0,δ bH k5,dU bC 240 bn bH,δ k4 bC] .ret))) .skip)) (.seq (θ [δ bz k0,aH bJ 0 bz,cn bO 241 bJ] (.cond (.t bO) (θ [δ bZ k1,cn bW 242 bZ,δ bP bW,fe bT bP 0,fe bF bP 1,⟨some k6,.new 296 [.b false,.b false,.b false,.b false,.b false,.b false,.b false,.b false,.b false,.b false,.b false,.b false,.b false,.b false,.b false,.b false,.b false,.b false,.b false,.b false,.b false,.b false,.b false,.b false,.b false,.b false,.b false,.b false,.b false,.b false,.b false,.b false,.b false,.b false,.b false,.b false,.b false,.b false,.b false,.b false,.b false,.b false,.b false,.b false,.b false,.b false,.b false,.b false,.b false,.b false,.b false,.b false,.b false,.b false,.b false,.b false,.b false,.b false,.b false,.b false,.b false,.b false,.b false,.b false,.b false,.b false,.b false,.b false,.b false,.b false,.b false,.b false,.b false,.b false,.b false,.b false,.b false,.b false,.b false,.b false,.b false,.b false,.b false,.b false,.b false,.b false,.b false,.b false,.b false,.b false,.b false,.b false,.b false,.b false,.b false,.b false,.b false,.b false,.b false,.b false,.b false,.b false,.b false,.b false,.b false,.b false,.b false,.b false,.b false,.b false,.b false,.b false,.b false,.b false,.b false,.b false,.b false,.b false,.b false,.b false,.b false,.b false,.b false,.b false,.b false,.b false,.b false,.b false,.b false,.b false,.b false,.b false,.b false,.b false,.b false,.b false,.b false,.b false,.b false,.b false,.b false,.b false,.b false,.b false,.b false,.b false,.b false,.b false,.b false,.b false,.b false,.b false,.b false,.b false,.b false,.b false,.b false,.b false,.b false,.b false,.b false,.b false,.b false,.b false,.b false,.b false,.b false,.b false,.b false,.b false,.b false,.b false,.b false,.b false,.b false,.b false,.b false,.b false,.b false,.b false,.b false,.b false,.b false,.b false,.b false,.b false,.b false,.b false,.b false,.b false,.b false,.b false,.b false,.b false,.b false,.b false,.b false,.b false,.b false,.b false,.b false,.b false,.b false,.b false,.b false,.b false,.b false,.b false,.b false,.b false,.b false,.b false,.b false,.b false,.b false,.b false,.b false,.b false,.b false,.b false,.b false,.b false,.b false,.b false,.b false,.b false,.b false,.b false,.b false,.b false,.b false,.b false,.b false,.b false,.b false,.b false,.b false,.b false,.b false,.b false,.b false,.b false,.b false,.b false,.b false,.b false,.b false,.b false,.b false,.b false,.b false,.b false,.b false,.b false,.b false,.b false],none,0⟩,ct 256 k6 bT,δ k7 bF] (θ [δ cC k7] (.cond (.t cC) (.seq (θ [aB k8 .i64 0] (.block 0 Sp)) (θ [aB k4 .i64 (-1)] .ret)) .skip))) .skip)) (.seq (θ [δ eJ k0,H5 eX eJ] (.block 2 Sq)) (θ [aB k4 .i64 (-1)] .ret))))))⟩
def Sr:AC:=.loop (θ [H6 HK KX,fe Q9 HK 0] (.seq (.cond (.t Q9) .skip (.exit 9)) (.block 10 (θ [fe Ra HK 1,fe Rb HK 2,δ k5 Ra,δ k6 Rb] (θ [δ Rc k6,cP Re Rc .i32 65533] (.cond (.t Re) (θ [δ Rf k5,δ k4 Rf] .ret) .skip))))))
def f240:AF:=⟨[k0,k1],[.t k4],(θ [aB k4 .i64 0] (.block 0 (θ [δ Hz k1,⟨some HA,.bin .leq (.one .bool) (.c (.i .i32 0)) (.t Hz),none,0⟩,δ Ch HA,cQ HB k1 Ch,La HC HB .i32 128 Ch,fF HD Ch HC,δ Et HD] (.cond (.t Et) (θ [δ HE k0,δ HF k1,lD HG .u8 HF,dU HH 96 HE HG,δ k4 HH] .ret) (θ [δ HJ k1,cP Q7 HJ .i32 65533,δ HI Q7] (.cond (.t HI) (.seq (θ [δ Q8 k0,H5 KX Q8] (.block 9 Sr)) (θ [aB k4 .i64 (-1)] .ret)) (θ [δ Rh k1,cn Ri 274 Rh,jJ Rj Ri,δ Rg Rj] (.cond (.t Rg) (θ [aB k4 .i64 (-1)] .ret) (.scope (θ [δ aM k1,⟨some aV,.cv .zF (.t aM),none,0⟩,δ k7 aV] (θ [δ bf k7,aH bu 0 bf,fg bn bu .i64 1,δ k8 bn] (θ [δ bH k8,δ k9 bH] (θ [aB aA .i64 0] (.seq (.block 1 (.loop (.seq (θ [δ bC k9,δ bz k0,aH bJ 0 bz,cO bO bC bJ] (.cond (.t bO) .skip (.exit 1))) (.block 2 (.scope (.seq (.seq (.regd [δ bP k0,δ bZ k9,⟨some bW,.idx none (.t bP) (.t bZ),none,3⟩,δ bT k7,δ bF k8,⟨some cC,.idx none (.t bT) (.t bF),none,24⟩,⟨some cE,.bin .neq (.one .int) (.t bW) (.t cC),none,63⟩]) (.cond (.t cE) (.seq (.regd [δ cr k0,δ cM k9,⟨some cJ,.bin .add (.one .bool) (.t cM) (.c (.i .i64 1)),none,2⟩,⟨some cK,.sli .str (.t cr) (some (.t cJ)) none none,none,7⟩,δ cu k7,δ dn k8,⟨some cN,.idx none (.t cu) (.t dn),none,48⟩,⟨some dt,.cg (.c (.f 96 [] [])) [(.t cK),(.t cN)],none,127⟩,⟨some aE,.mv (.t dt),none,255⟩]) (.seq (θ [δ dB aE,oH cY dB .i64 0] (.cond (.t cY) (θ [aB k4 .i64 (-1)] .ret) .skip)) (.reg [δ eJ k9,δ eX aE,bR ff eX .i64 1,lC eQ eJ ff,δ k9 eQ]))) .skip)) (.seq (θ [aB aF .i64 1] (.block 3 (.loop (.seq (θ [δ eS aF,δ fU k7,aH fi 0 fU,cO gh eS fi] (.cond (.t gh) .skip (.exit 3))) (.seq (.block 4 (.seq (.regd [δ gV k0,δ jo k9,δ jz aF,⟨some hY,.bin .sub (.one .bool) (.t jo) (.t jz),none,6⟩,⟨some jY,.idx none (.t gV) (.t hY),none,15⟩,δ jZ k7,δ j0 k8,δ iN aF,⟨some j3,.bin .sub (.one .bool) (.t j0) (.t iN),none,192⟩,⟨some j4,.idx none (.t jZ) (.t j3),none,480⟩,Lg j5 jY j4]) (.cond (.t j5) .bad .skip))) (.reg [δ fo aF,bR fN fo .i64 1,δ aF fN])))))) (.seq (θ [δ j6 k9,δ kT k8,yx jq j6 kT,δ k4 jq] .ret) (.seq .skip (θ [δ hZ aA,bR mL hZ .i64 1,δ aA mL] (θ [δ oa k9,bR oc oa .i64 1,δ k9 oc] (θ [nK mM,cQ ql aA mM,cQ pR k9 mM,EF qm 275 pR mM,⟨some pS,.bin .gtr (.one .bool) (.t ql) (.t qm),some (mM,true),0⟩,fF qn mM pS,δ oe qn,cQ qo k9 oe,cQ pT k0 oe,qw sg 0 pT oe,HV sh qo sg oe,fF si oe sh,δ kU si,⟨some kB,.mv (.c (.b false)),some (kU,false),0⟩,cQ sj aA kB,cQ sk k9 kB,⟨some sn,.bin .shr (.one .bool) (.t sk) (.c (.i .u64 4)),some (kB,true),0⟩,⟨some so,.bin .add (.one .bool) (.c (.i .i64 4)) (.t sn),some (kB,true),0⟩,⟨some qp,.bin .geq (.one .bool) (.t sj) (.t so),some (kB,true),0⟩,yu qX kB qp kU,dM mz qX kU,cQ tT k9 mz,cQ tU k0 mz,qw tV 0 tU mz,HV tW tT tV mz,yu tX mz tW kU,dV tY kU tX] (.cond (.t tY) .bad .skip))))))))))))) (.seq (θ [aB k4 .i64 (-1)] .ret) (.seq .skip (.seq (.cond (.c (.b true)) (θ [δ tZ k0,δ rH k9,δ rI k8,yx py rH rI,EG uI tZ py,δ uJ k1,⟨some uK,.cv .zF (.t uJ),none,0⟩,dU uL 276 uI uK,δ aG uL] (θ [δ uM aG,jy uN uM .i64 0] (.cond (.t uN) (θ [δ uO k9,δ uP aG,lC uQ uO uP,δ j7 k8,yx uR uQ j7,δ k4 uR] .ret) .skip))) (.scope (θ [δ uS k7,δ uT k8,oI uU uS uT,δ aP uU] (θ [δ uV k7,δ uW k8,fg uX uW .i64 1,oI uY uV uX,δ aT uY] (.seq .skip (.block 5 (.loop (.seq (θ [δ nH k9,δ pz k0,aH uZ 0 pz,cO u7 nH uZ] (.cond (.t u7) .skip (.exit 5))) (.seq (.block 6 (θ [δ vh k0,δ qs k9,oI vj vh qs,δ vu aP,EH vw vj vu,δ nI vw,cQ vz k0 nI,cQ vC k9 nI,HT vD vC .i64 1 nI,⟨some vE,.idx none (.t vz) (.t vD),some (nI,true),0⟩,cQ vF aT nI,Lc vG vE vF nI,fF vH nI vG] (.cond (.t vH) (.seq (θ [aB aU .i64 2] (.block 7 (.loop (.seq (θ [δ vI aU,δ ym k7,aH yn 0 ym,cO BZ vI yn] (.cond (.t BZ) .skip (.exit 7))) (.seq (.block 8 (.seq (.regd [δ B2 k0,δ B3 k9,δ B4 aU,⟨some B5,.bin .sub (.one .bool) (.t B3) (.t B4),none,6⟩,⟨some B6,.idx none (.t B2) (.t B5),none,15⟩,δ B7 k7,δ B8 k8,δ B9 aU,⟨some Ca,.bin .sub (.one .bool) (.t B8) (.t B9),none,192⟩,⟨some Cb,.idx none (.t B7) (.t Ca),none,480⟩,Lg Cc B6 Cb]) (.cond (.t Cc) (.exit 6) .skip))) (.reg [δ B0 aU,bR B1 B0 .i64 1,δ aU B1])))))) (θ [δ Ce k9,δ Cf k8,yx Cg Ce Cf,δ k4 Cg] .ret)) .skip))) (.reg [δ u9 k9,bR vc u9 .i64 1,δ k9 vc])))))))))) (θ [aB k4 .i64 (-1)] .ret))))))))))))))))))⟩
def f96:AF:=⟨[k0,k1],[.t k4],(θ [aB k4 .i64 0] (θ [δ k5 k0,δ k6 k1,dU k7 169 k5 k6,δ k4 k7] .ret))⟩
def f274:AF:=⟨[k0],[.t k2],(θ [bS k2] (.seq (.block 0 (θ [δ k4 k0,⟨some k5,.bin .leq (.one .bool) (.c (.i .i32 0)) (.t k4),none,0⟩,δ k6 k5,cQ k7 k0 k6,La k8 k7 .i32 55296 k6,fF k9 k6 k8,δ k3 k9] (.cond (.t k3) (θ [nK k2] .ret) (θ [δ aE k0,⟨some aF,.bin .lss (.one .bool) (.c (.i .i32 57343)) (.t aE),none,0⟩,δ aG aF,cQ aP k0 aG,HS aT aP .i32 1114111 aG,fF aU aG aT,δ aA aU] (.cond (.t aA) (θ [nK k2] .ret) .skip))))) (θ [bS k2] .ret)))⟩
def f241:AF:=⟨[k0],[.t k2],(θ [bS k2] (θ [δ k3 k0,mP k4 k3 .i64 8,δ k2 k4] .ret))⟩
def Ss:AC:=.loop (.seq (θ [δ k6 k4,δ k7 k0,aH k8 0 k7,cO k9 k6 k8] (.cond (.t k9) .skip (.exit 0))) (.seq (.block 1 (θ [δ aF k0,δ aG k4,oI aP aF aG,δ k5 aP] (.seq (θ [δ aT k5,jy aU aT .u8 128] (.cond (.t aU) (θ [cm aM 256 k2,ct 256 k2 aM,bS k3] .ret) .skip)) (.reg [δ aV k5,⟨some bf,.iad (some 256) 1 (.t k2) (.t aV),none,0⟩,HY 1 bf])))) (.reg [δ aA k4,bR aE aA .i64 1,δ k4 aE])))
def f242:AF:=⟨[k0],[.cell k2 true 256,.t k3],(θ [⟨some k2,.new 296 [.b false,.b false,.b false,.b false,.b false,.b false,.b false,.b false,.b false,.b false,.b false,.b false,.b false,.b false,.b false,.b false,.b false,.b false,.b false,.b false,.b false,.b false,.b false,.b false,.b false,.b false,.b false,.b false,.b false,.b false,.b false,.b false,.b false,.b false,.b false,.b false,.b false,.b false,.b false,.b false,.b false,.b false,.b false,.b false,.b false,.b false,.b false,.b false,.b false,.b false,.b false,.b false,.b false,.b false,.b false,.b false,.b false,.b false,.b false,.b false,.b false,.b false,.b false,.b false,.b false,.b false,.b false,.b false,.b false,.b false,.b false,.b false,.b false,.b false,.b false,.b false,.b false,.b false,.b false,.b false,.b false,.b false,.b false,.b false,.b false,.b false,.b false,.b false,.b false,.b false,.b false,.b false,.b false,.b false,.b false,.b false,.b false,.b false,.b false,.b false,.b false,.b false,.b false,.b false,.b false,.b false,.b false,.b false,.b false,.b false,.b false,.b false,.b false,.b false,.b false,.b false,.b false,.b false,.b false,.b false,.b false,.b false,.b false,.b false,.b false,.b false,.b false,.b false,.b false,.b false,.b false,.b false,.b false,.b false,.b false,.b false,.b false,.b false,.b false,.b false,.b false,.b false,.b false,.b false,.b false,.b false,.b false,.b false,.b false,.b false,.b false,.b false,.b false,.b false,.b false,.b false,.b false,.b false,.b false,.b false,.b false,.b false,.b false,.b false,.b false,.b false,.b false,.b false,.b false,.b false,.b false,.b false,.b false,.b false,.b false,.b false,.b false,.b false,.b false,.b false,.b false,.b false,.b false,.b false,.b false,.b false,.b false,.b false,.b false,.b false,.b false,.b false,.b false,.b false,.b false,.b false,.b false,.b false,.b false,.b false,.b false,.b false,.b false,.b false,.b false,.b false,.b false,.b false,.b false,.b false,.b false,.b false,.b false,.b false,.b false,.b false,.b false,.b false,.b false,.b false,.b false,.b false,.b false,.b false,.b false,.b false,.b false,.b false,.b false,.b false,.b false,.b false,.b false,.b false,.b false,.b false,.b false,.b false,.b false,.b false,.b false,.b false,.b false,.b false,.b false,.b false,.b false,.b false,.b false,.b false,.b false,.b false,.b false,.b false,.b false,.b false],none,0⟩,bS k3] (.seq (θ [aB k4 .i64 0] (.block 0 Ss)) (θ [cm bu 256 k2,ct 256 k2 bu,nK k3] .ret)))⟩
def f243:AF:=⟨[k0,k1],[.t k4],(θ [bS k4] (θ [δ k5 k0,δ k6 k1,⟨some k7,.nck (.t k5),none,0⟩,⟨some k8,.iad (some 256) 1 (.t k7) (.t k6),none,0⟩,ab k9 1 k8,δ k4 k9] .ret))⟩
def Su:AC:=θ [aB k2 .i64 5] .ret
def Sv:AC:=.loop (θ [cO cY dB dt] (.seq (.cond (.t cY) .skip (.exit 0)) (.seq (.block 1 (θ [δ eJ dB,cD eX 2 cN dB,cm ff 2 eX,⟨some k4,.new 40 [.s 0 0,.s 0 0],none,0⟩,δ k3 eJ,ct 2 k4 ff] (.seq (.regd [ah eQ 0 k4,rL eS 1 eQ,⟨some fU,.cg (.c (.f 42 [] [])) [(.t eS)],none,3⟩,⟨some fi,.un .not (.t fU),none,7⟩,⟨some gh,.cg (.c (.f 38 [] [])) [(.t fi),(.c (.i .i64 6))],none,15⟩,ah fo 0 k1,⟨some fN,.fad 3 (.t fo),none,32⟩,⟨some gV,.ld false 1 (.t fN),none,96⟩,δ jo k3,⟨some jz,.sli (.sl 2) (.t gV) none (some (.t jo)) none,none,480⟩,ah hY 0 k4,⟨some jY,.ld false 1 (.t hY),none,1024⟩,⟨some jZ,.cg (.c (.f 95 [] [])) [(.t jz),(.t jY)],none,4095⟩,⟨some j0,.cg (.c (.f 38 [] [])) [(.t jZ),(.c (.i .i64 7))],none,8191⟩,⟨some iN,.bsl 26 [.i .i64 0,.i .i64 0] 2 [(0,1,(.t gh)),(1,1,(.t j0))],none,16383⟩,⟨some j3,.cg (.c (.f 25 [] [])) [(.t iN)],none,32767⟩,⟨some k5,.mv (.t j3),none,65535⟩]) (θ [δ j4 k5,mQ j5 j4 .i64 0] (.cond (.t j5) (θ [δ j6 k5,δ k2 j6] .ret) .skip))))) (.reg [bR kT dB .i64 1,δ dB kT]))))
def Sw:AC:=θ [aB k2 .i64 0] .ret
def Lq:AC:=.seq (θ [ah cu 0 k1,ah dn 3 cu,ab cN 1 dn,aH dt 1 cN,aB dB .i64 0] (.block 0 Sv)) Sw
def f71:AF:=⟨[k0],[.t k2],(θ [dN k1 113 k0,aB k2 .i64 0] (.seq (θ [ah k6 0 k1,ah k7 0 k6,ab k8 1 k7,cn k9 104 k8,jJ aA k9,δ aE aA,iQ aF 0 k1 aE,iQ aG 3 aF aE,j8 aP 1 aG aE,qw aT 1 aP aE,⟨some aU,.bin .gtr (.one .bool) (.t aT) (.c (.i .i64 0)),some (aE,true),0⟩,fF aM aE aU,δ aV aM,eo bf 0 k1 aV,eo bu 0 bf aV,fc bn 1 bu aV,pD bH 104 bn aV,dM bC bH aV,iQ bz 0 k1 bC,iQ bJ 3 bz bC,j8 bO 1 bJ bC,qw bP 1 bO bC,La bZ bP .i64 1 bC,cQ bW bZ bC,eo bT 0 k1 bW,eo bF 3 bT bW,fc cC 1 bF bW,j9 cE 1 cC bW,vM cr cE .i64 12 bW,⟨some cM,.pick (.t bW) (.c (.b true)) (.t cr),some (bC,true),0⟩,yu cJ bC cM aV,dV cK aV cJ] (.cond (.t cK) Su .skip)) Lq))⟩
def f95:AF:=⟨[k0,k1],[.t k4],(θ [dN k3 9 k1,bS k4] (θ [δ k5 k0,Ay k6 168 k3,dU k7 144 k5 k6,δ k4 k7] .ret))⟩
def f168:AF:=⟨[k0,k1],[.t k3],(θ [dN k2 40 k0,bS k3] (θ [ah k4 0 k2,ab k5 1 k4,ab k6 1 k1,Ll k7 k5 k6,δ k3 k7] .ret))⟩
def f144:AF:=⟨[k0,k1],[.t k4],(θ [bS k4] (θ [δ k5 k0,δ k6 k1,dU k7 208 k5 k6,jy k8 k7 .i64 0,δ k4 k8] .ret))⟩
def Sx:AC:=.loop (θ [cO k9 k8 k7] (.seq (.cond (.t k9) .skip (.exit 0)) (.seq (.block 1 (θ [δ aA k8,δ k5 aA] (θ [δ aE k1,δ aF k0,δ aG k5,cD aP 2 aF aG,cm aT 2 aP,HZ aU aE aT] (.cond (.t aU) (θ [δ aM k5,δ k4 aM] .ret) .skip)))) (.reg [bR aV k8 .i64 1,δ k8 aV]))))
def Sy:AC:=θ [aB k4 .i64 (-1)] .ret
def f208:AF:=⟨[k0,k1],[.t k4],(θ [aB k4 .i64 0] (.seq (θ [δ k6 k0,aH k7 1 k6,aB k8 .i64 0] (.block 0 Sx)) Sy))⟩
def Sz:AC:=θ [δ gV k3,pC jo 38 gV .i64 13,δ k2 jo] .ret
def f72:AF:=⟨[k0],[.t k2],(θ [dN k1 113 k0,aB k2 .i64 0] (θ [bS k3] (.seq (θ [ah k5 0 k1,ah k6 0 k5,ab k7 1 k6,⟨some k8,.iad (some 20) 4 (.c (.p k0 0)) (.t k7),none,0⟩,ah k9 2 k8,ab aA 1 k9,δ k4 aA] (θ [δ aE k4] (.block 0 (θ [pE aV aE 1 110,δ aM aV] (.cond (.t aM) (.regd [ah bf 0 k1,⟨some bu,.fad 1 (.t bf),none,1⟩,⟨some bn,.ld false 1 (.t bu),none,3⟩,⟨some bH,.cg (.c (.f 152 [] [])) [(.t bn)],none,7⟩,⟨some bC,.un .not (.t bH),none,15⟩,⟨some bz,.mv (.t bC),none,31⟩,⟨some bJ,.fad 0 (.t k1),some (bz,false),63⟩,⟨some bO,.fad 0 (.t bJ),some (bz,false),127⟩,⟨some bP,.ld false 1 (.t bO),some (bz,false),255⟩,⟨some bZ,.bin .eql (.one .int) (.t bP) (.c (.i .i64 2)),some (bz,false),511⟩,⟨some bW,.mv (.t bZ),some (bz,false),1023⟩,⟨some bT,.fad 0 (.t k1),some (bW,true),2047⟩,⟨some bF,.fad 2 (.t bT),some (bW,true),4095⟩,⟨some cC,.ld false 1 (.t bF),some (bW,true),8191⟩,⟨some cE,.cg (.c (.f 150 [] [])) [(.t cC)],some (bW,true),16383⟩,⟨some cr,.bin .eql (.one .int) (.t cE) (.c (.i .i64 0)),some (bW,true),32767⟩,⟨some cM,.fad 0 (.t k1),some (bW,true),2047⟩,⟨some cJ,.fad 1 (.t cM),some (bW,true),67583⟩,⟨some cK,.ld false 1 (.t cJ),some (bW,true),198655⟩,⟨some cu,.bin .eql (.one .str) (.t cK) (.c (.s 3 7630409)),some (bW,true),460799⟩,⟨some dn,.bin .neq (.one .bool) (.t cr) (.t cu),some (bW,true),1048575⟩,⟨some cN,.pick (.t bW) (.t dn) (.c (.b false)),some (bz,false),2097151⟩,⟨some dt,.pick (.t bz) (.c (.b true)) (.t cN),none,4194303⟩,⟨some k3,.mv (.t dt),none,8388607⟩]) (θ [pE cY aE 1 115,δ dB cY] (.cond (.t dB) (.reg [ah eJ 0 k1,ah eX 1 eJ,ab ff 1 eX,pE eQ ff 0 0,δ k3 eQ]) (θ [pE fU aE 1 45,δ eS fU] (.cond (.t eS) (.reg [ah fi 0 k1,ah gh 1 fi,ab fo 1 gh,Co fN fo 0 0,δ k3 fN]) (.reg [ah aF 0 k1,ah aG 1 aF,ab aP 1 aG,δ aT k4,Lk aU aP aT,δ k3 aU])))))))))) Sz)))⟩
def f152:AF:=⟨[k0],[.t k2],(θ [bS k2] (θ [δ k3 k0,pE k4 k3 3 7630409,δ k5 k4,dM k6 k0 k5,HR k7 k6 4 1818322258 k5,dV k8 k5 k7,δ k2 k8] .ret))⟩
def SA:AC:=.loop (θ [cO aV aM aU] (.seq (.cond (.t aV) .skip (.exit 2)) (.seq (.block 3 (θ [cD bf 1 aT aM,ab bu 1 bf,δ k6 bu] (.regd [ab bn 1 k3,ah bH 5 k4,EM bC 1 bH,ab bz 1 k3,ah bJ 5 k4,EN bO 1 bJ,⟨some bP,.iad none 1 (.t bz) (.t bO),none,56⟩,⟨some bZ,.ld false 1 (.t bP),none,120⟩,ab bW 1 k3,δ bT k6,⟨some bF,.iad none 1 (.t bW) (.t bT),none,768⟩,⟨some cC,.ld false 1 (.t bF),none,1792⟩,⟨some cE,.mm true [(.t bZ),(.t cC)],none,4088⟩,⟨some cr,.iad none 1 (.t bn) (.t bC),none,8191⟩,⟨none,.st 1 (.t cr) (.t cE),none,16383⟩]))) (.reg [bR cM aM .i64 1,δ aM cM]))))
def SB:AC:=.reg [ab cJ 1 k3,ah cK 5 k4,ab cu 1 cK,cD dn 1 cJ cu,ab cN 1 dn,bR dt cN .i64 1,cD dB 1 cJ cu,ct 1 dB dt]
def f74:AF:=⟨[k0],[.t k2],(θ [aB k2 .i64 0] (θ [δ k7 k0,aH k8 1 k7,wV k9 3 1 8 .i64 0 k8 k8,kJ k3 67,ct 1 k3 k9] (.seq (θ [δ aA k0,cn aE 53 aA] (.block 0 (.lT (.t aE) [aF] (.reg [⟨some k4,.new 113 [.i .i64 0,.s 0 0,.s 0 0,.ns,.ns,.i .i64 0],none,0⟩,ct 6 k4 aF]) (.block 1 (.seq (θ [ah aG 0 k4,ah aP 4 aG,ab aT 1 aP,aH aU 1 aT,aB aM .i64 0] (.block 2 SA)) SB))))) (θ [ab cY 1 k3,ab eJ 1 k3,aH eX 1 eJ,fg ff eX .i64 1,cD eQ 1 cY ff,ab eS 1 eQ,δ k2 eS] .ret))))⟩
def SC:AC:=θ [yA 1 aA] .ret
def SD:AC:=.cond (.t pR) (θ [cm qm 2 aP,ah pS 2 aE,ab qn 1 pS,ah oe 2 aF,ab qo 1 oe,⟨some pT,.bld [.s 0 0,.s 0 0] [(0,1,(.t qn)),(1,1,(.t qo))],none,0⟩,⟨some sg,.bin .eql (.agg [(0,.str),(1,.str)]) (.t qm) (.t pT),none,0⟩,ct 1 aA sg] .ret) .skip
def SE:AC:=θ [δ jZ k4,cn j0 75 jZ] (.block 0 (.lT (.t j0) [iN,j3] (.reg [⟨some aP,.new 141 [.s 0 0,.s 0 0],none,0⟩,ct 2 aP j3]) (.block 1 (θ [⟨some j4,.iad (some 2) 1 (.t aP) (.c (.i .i64 0)),none,0⟩,ab j5 1 j4,ah j6 2 aE,ab kT 1 j6,Ll jq j5 kT,δ hZ jq,⟨some mL,.iad (some 2) 1 (.t aP) (.c (.i .i64 1)),some (hZ,false),0⟩,fc oa 1 mL hZ,eo oc 2 aF hZ,fc mM 1 oc hZ,⟨some ql,.bin .eql (.one .str) (.t oa) (.t mM),some (hZ,false),0⟩,dV pR hZ ql] SD))))
def SF:AC:=.loop (θ [cO tT mz qX] (.seq (.cond (.t tT) .skip (.exit 2)) (.seq (.block 3 (θ [δ tU mz,cD tV 2 qp mz,cm tW 2 tV,⟨some aU,.new 40 [.s 0 0,.s 0 0],none,0⟩,δ aT tU,ct 2 aU tW] (.seq (.seq (.regd [ah tX 1 aU,rL tY 1 tX,ah tZ 3 aF,EP rH 1 tZ,δ rI aT,⟨some py,.iad none 2 (.t rH) (.t rI),none,28⟩,⟨some uI,.fad 1 (.t py),none,60⟩,⟨some uJ,.ld false 1 (.t uI),none,124⟩,⟨some uK,.bin .neq (.one .str) (.t tY) (.t uJ),none,255⟩]) (.cond (.t uK) (θ [yA 1 aA] .ret) .skip)) (.regd [δ uL k4,ah uM 0 aU,EM uN 1 uM,ah uO 3 aF,⟨some uP,.ld false 1 (.t uO),none,8⟩,δ uQ aT,⟨some j7,.iad none 2 (.t uP) (.t uQ),none,56⟩,⟨some uR,.fad 0 (.t j7),none,120⟩,⟨some uS,.ld false 1 (.t uR),none,248⟩,⟨some uT,.bld [.s 0 0,.s 0 0] [(0,1,(.t uN)),(1,1,(.t uS))],none,510⟩,⟨some uU,.bsl 141 [.s 0 0,.s 0 0] 1 [(0,2,(.t uT))],none,1022⟩,⟨some uV,.app 141 2 32 [.s 0 0,.s 0 0] false (.t uL) (.t uU),none,2047⟩,⟨some k4,.mv (.t uV),none,4095⟩])))) (.reg [bR uW mz .i64 1,δ mz uW]))))
def SG:AC:=.loop (θ [cO uZ pz nH] (.seq (.cond (.t uZ) .skip (.exit 4)) (.seq (.block 5 (θ [δ u7 pz,δ aM u7] (.seq (.regd [δ u9 k0,δ vc k1,ah vh 4 aE,EP qs 1 vh,δ vj aM,⟨some vu,.iad none 1 (.t qs) (.t vj),none,28⟩,⟨some vw,.ld false 1 (.t vu),none,60⟩,ah nI 4 aF,⟨some vz,.ld false 1 (.t nI),none,128⟩,δ vC aM,⟨some vD,.iad none 1 (.t vz) (.t vC),none,896⟩,⟨some vE,.ld false 1 (.t vD),none,1920⟩,δ vF k4,⟨some vG,.cg (.c (.f 27 [] [])) [(.t u9),(.t vc),(.t vw),(.t vE),(.t vF)],none,8191⟩,⟨some vH,.un .not (.t vG),none,16383⟩]) (.cond (.t vH) (θ [yA 1 aA] .ret) .skip)))) (.reg [bR vI pz .i64 1,δ pz vI]))))
def SH:AC:=θ [HY 1 aA] .ret
def SI:AC:=.seq (θ [ah sh 2 aE,ab si 1 sh,ah kU 2 aF,ab kB 1 kU,Lk sj si kB] (.cond (.t sj) (θ [yA 1 aA] .ret) .skip)) (θ [δ sk k4,cn sn 76 sk,δ k4 sn] (.seq (θ [ah so 3 aE,ab qp 1 so,aH qX 1 qp,aB mz .i64 0] (.block 2 SF)) (.seq (θ [ah uX 4 aE,ab uY 1 uX,aH nH 1 uY,aB pz .i64 0] (.block 4 SG)) SH)))
def SJ:AC:=.seq (θ [ah jz 0 aE,ab hY 1 jz,cP jY hY .i64 3] (.cond (.t jY) SE .skip)) SI
def f27:AF:=⟨[k0,k1,k2,k3,k4],[.cell aA false 1],(θ [⟨some aA,.new 4 [.b false],none,0⟩] (.seq (.regd [δ aV k0,δ bf k2,qv bu 5 aV bf,⟨some bn,.ld true 5 (.t bu),none,7⟩,δ bH k1,δ bC k3,Au bz 5 bH bC,⟨some bJ,.ld true 5 (.t bz),none,112⟩,qu aE 69 .i64 0 0 0 0 0,qu aF 69 .i64 0 0 0 0 0,⟨none,.st 5 (.t aE) (.t bn),none,783⟩,⟨none,.st 5 (.t aF) (.t bJ),none,2047⟩]) (.seq (θ [ah bO 0 aE,ab bP 1 bO,ah bZ 0 aF,ab bW 1 bZ,tf bT bP bW,δ bF bT,eo cC 1 aE bF,fc cE 1 cC bF,eo cr 1 aF bF,fc cM 1 cr bF,HW cJ cE cM bF,dV cK bF cJ,δ cu cK,eo dn 4 aE cu,fc cN 1 dn cu,j9 dt 1 cN cu,eo dB 4 aF cu,fc cY 1 dB cu,j9 eJ 1 cY cu,yw eX dt eJ cu,dV ff cu eX,δ eQ ff,eo eS 3 aE eQ,fc fU 1 eS eQ,j9 fi 1 fU eQ,eo gh 3 aF eQ,fc fo 1 gh eQ,j9 fN 1 fo eQ,yw gV fi fN eQ,dV jo eQ gV] (.cond (.t jo) SC .skip)) SJ)))⟩
def f75:AF:=⟨[k0],[.t k2],(θ [dN k1 136 k0,ER k2] (θ [Ay k3 153 k1,δ k2 k3] .ret))⟩
def SK:AC:=.loop (.seq (θ [δ k7 k3,jy k8 k7 .i64 0] (.cond (.t k8) .skip (.exit 0))) (.seq (.block 1 (θ [δ aE k0,δ aF k3,ab aG 1 k1,δ aP k3,cD aT 2 aG aP,cm aU 2 aT,HX aM aE aF aU,jJ aV aM] (.cond (.t aV) .ret .skip))) (.reg [δ k9 k3,fg aA k9 .i64 1,δ k3 aA])))
def f153:AF:=⟨[k0,k1],[],(θ [ab k4 1 k1,aH k5 1 k4,fg k6 k5 .i64 1,δ k3 k6] (.block 0 SK))⟩
def SL:AC:=.seq (θ [δ k3 k0,⟨some k4,.bin .eql (.one .slice) (.t k3) (.c .ns),none,0⟩] (.cond (.t k4) (θ [iS k2] .ret) .skip)) (θ [⟨some k5,.bsl 141 [] 0 [],none,0⟩,δ k6 k0,⟨some k7,.app 141 2 32 [.s 0 0,.s 0 0] false (.t k5) (.t k6),none,0⟩,δ k2 k7] .ret)
def f76:AF:=⟨[k0],[.t k2],(θ [iS k2] SL)⟩
def f8:AF:=⟨[k0,k1],[.t k4,.t k5],(θ [bS k4,aB k5 .i64 0] (.seq (θ [δ k7 k0,cn k8 31 k7,δ k9 k1,cn aA 31 k9,⟨some aE,.bsl 3 [.i .i64 0,.i .i64 0] 2 [(0,1,(.t k8)),(1,1,(.t aA))],none,0⟩,cn aF 30 aE,δ k6 aF] (θ [δ aG k6,mQ aP aG .i64 0] (.cond (.t aP) (θ [δ aT k6,bS k4,δ k5 aT] .ret) .skip))) (θ [δ aU k0,δ aM k1,⟨some aV,.cg (.c (.f 32 [] [])) [(.t aU),(.t aM),(.c .ns)],none,0⟩,δ k4 aV,aB k5 .i64 0] .ret)))⟩
def SM:AC:=θ [δ bH k3,δ k2 bH] .ret
def SN:AC:=θ [δ jz k7,mQ hY jz .i64 0] (.cond (.t hY) (θ [δ jY k7,δ k2 jY] .ret) .skip)
def SP:AC:=.seq (.regd [δ jZ k0,cm j0 5 k6,As iN 81 jZ j0,⟨some j3,.un .not (.t iN),none,7⟩,⟨some j4,.cg (.c (.f 77 [] [])) [(.t j3),(.c (.i .i64 11))],none,15⟩,cm j5 5 k6,⟨some j6,.cg (.c (.f 82 [] [])) [(.t j5)],none,63⟩,cm kT 5 k6,EI jq 83 kT,cm hZ 5 k6,⟨some mL,.cg (.c (.f 84 [] [])) [(.t hZ)],none,1023⟩,⟨some oa,.bsl 3 [.i .i64 0,.i .i64 0,.i .i64 0,.i .i64 0] 4 [(0,1,(.t j4)),(1,1,(.t j6)),(2,1,(.t jq)),(3,1,(.t mL))],none,2047⟩,⟨some oc,.cg (.c (.f 30 [] [])) [(.t oa)],none,4095⟩,⟨some k8,.mv (.t oc),none,8191⟩]) (θ [δ mM k8,mQ ql mM .i64 0] (.cond (.t ql) (θ [δ pR k8,δ k2 pR] .ret) .skip))
def SQ:AC:=θ [δ bF k0,δ cC k5,cD cE 5 bF cC,cm cr 5 cE,qu k6 69 .i64 0 0 0 0 0,ct 5 k6 cr] (.seq (.seq (.regd [ah cM 0 k6,rL cJ 1 cM,⟨some cK,.bin .lss (.one .bool) (.t cJ) (.c (.i .i64 0)),none,3⟩,ES cu cK,⟨some dn,.fad 0 (.t k6),some (cu,false),15⟩,⟨some cN,.ld false 1 (.t dn),some (cu,false),31⟩,⟨some dt,.bin .geq (.one .bool) (.t cN) (.c (.i .i64 20)),some (cu,false),63⟩,⟨some dB,.pick (.t cu) (.c (.b true)) (.t dt),none,127⟩,⟨some cY,.cg (.c (.f 77 [] [])) [(.t dB),(.c (.i .i64 11))],none,255⟩,cm eJ 5 k6,⟨some eX,.cg (.c (.f 79 [] [])) [(.t eJ)],none,1023⟩,⟨some ff,.un .not (.t eX),none,2047⟩,⟨some eQ,.cg (.c (.f 77 [] [])) [(.t ff),(.c (.i .i64 2))],none,4095⟩,δ eS k0,δ fU k4,δ fi k5,⟨some gh,.cg (.c (.f 80 [] [])) [(.t eS),(.t fU),(.t fi)],none,65535⟩,⟨some fo,.un .not (.t gh),none,131071⟩,⟨some fN,.cg (.c (.f 77 [] [])) [(.t fo),(.c (.i .i64 9))],none,262143⟩,⟨some gV,.bsl 3 [.i .i64 0,.i .i64 0,.i .i64 0] 3 [(0,1,(.t cY)),(1,1,(.t eQ)),(2,1,(.t fN))],none,524287⟩,⟨some jo,.cg (.c (.f 30 [] [])) [(.t gV)],none,1048575⟩,⟨some k7,.mv (.t jo),none,2097151⟩]) SN) SP)
def SR:AC:=.loop (.seq (θ [δ bJ k5,δ bO k0,aH bP 1 bO,cO bZ bJ bP] (.cond (.t bZ) .skip (.exit 0))) (.seq (.block 1 SQ) (.reg [δ bW k5,bR bT bW .i64 1,δ k5 bT])))
def SS:AC:=θ [δ bC k0,cn bz 78 bC,δ k4 bz] (.seq (θ [aB k5 .i64 0] (.block 0 SR)) (θ [δ qm k0,aH pS 1 qm,fg qn pS .i64 1,δ k9 qn] (.seq (.regd [δ oe k4,δ qo k9,qv pT 1 oe qo,Aw sg 1 pT,⟨some sh,.bin .neq (.one .int) (.t sg) (.c (.i .i64 0)),none,15⟩,⟨some si,.cg (.c (.f 77 [] [])) [(.t sh),(.c (.i .i64 9))],none,31⟩,δ kU k0,δ kB k9,⟨some sj,.iad none 5 (.t kU) (.t kB),none,192⟩,⟨some sk,.fad 0 (.t sj),none,448⟩,⟨some sn,.ld false 1 (.t sk),none,960⟩,⟨some so,.bin .eql (.one .int) (.t sn) (.c (.i .i64 19)),none,1984⟩,⟨some qp,.cg (.c (.f 77 [] [])) [(.t so),(.c (.i .i64 11))],none,4095⟩,δ qX k0,⟨some mz,.cg (.c (.f 85 [] [])) [(.t qX)],none,16383⟩,δ tT k9,⟨some tU,.iad none 1 (.t mz) (.t tT),none,65535⟩,⟨some tV,.ld false 1 (.t tU),none,131071⟩,⟨some tW,.bin .gtr (.one .bool) (.t tV) (.c (.i .i64 60)),none,262143⟩,⟨some tX,.cg (.c (.f 77 [] [])) [(.t tW),(.c (.i .i64 24))],none,524287⟩,⟨some tY,.bsl 3 [.i .i64 0,.i .i64 0,.i .i64 0] 3 [(0,1,(.t si)),(1,1,(.t qp)),(2,1,(.t tX))],none,1048575⟩,⟨some tZ,.cg (.c (.f 30 [] [])) [(.t tY)],none,2097151⟩,⟨some k2,.mv (.t tZ),none,4194303⟩]) .ret)))
def f31:AF:=⟨[k0],[.t k2],(θ [aB k2 .i64 0] (.seq (θ [δ aA k0,aH aE 1 aA,cP aF aE .i64 0,pC aG 77 aF .i64 10,δ aP k0,aH aT 1 aP,mP aU aT .i64 2000,pC aM 77 aU .i64 5,⟨some aV,.bsl 3 [.i .i64 0,.i .i64 0] 2 [(0,1,(.t aG)),(1,1,(.t aM))],none,0⟩,cn bf 30 aV,δ k3 bf] (θ [δ bu k3,mQ bn bu .i64 0] (.cond (.t bn) SM .skip))) SS))⟩
def f77:AF:=⟨[k0,k1],[.t k4],(θ [aB k4 .i64 0] (.seq (θ [δ k5 k0] (.cond (.t k5) (θ [δ k6 k1,δ k4 k6] .ret) .skip)) (θ [aB k4 .i64 0] .ret)))⟩
def SU:AC:=.loop (.seq (θ [δ k4 k3,δ k5 k0,aH k6 1 k5,cO k7 k4 k6] (.cond (.t k7) .skip (.exit 0))) (.seq (.block 1 (θ [δ aA k0,δ aE k3,cD aF 1 aA aE,ab aG 1 aF,mQ aP aG .i64 0] (.cond (.t aP) (θ [δ aT k0,δ aU k3,cD aM 1 aT aU,ab aV 1 aM,δ k2 aV] .ret) .skip))) (.reg [δ k8 k3,bR k9 k8 .i64 1,δ k3 k9])))
def SV:AC:=θ [aB k2 .i64 0] .ret
def f30:AF:=⟨[k0],[.t k2],(θ [aB k2 .i64 0] (.seq (θ [aB k3 .i64 0] (.block 0 SU)) SV))⟩
def SW:AC:=.reg [δ aF k4,bR aG aF .i64 1,δ k4 aG]
def SX:AC:=.seq (θ [δ k8 k4,δ k9 k0,aH aA 1 k9,cO aE k8 aA] (.cond (.t aE) .skip (.exit 0))) (.seq (.block 1 (θ [δ aP k3,δ aT k4,δ aU k4,cD aM 1 aP aT,ct 1 aM aU] (θ [δ aV k0,δ bf k4,cD bu 5 aV bf,ah bn 4 bu,ab bH 1 bn,aH bC 1 bH,mP bz bC .i64 0,δ bJ bz,cQ bO k0 bJ,cQ bP k3 bJ,cQ bZ k4 bJ,⟨some bW,.cg (.c (.f 80 [] [])) [(.t bO),(.t bP),(.t bZ)],some (bJ,true),0⟩,fF bT bJ bW] (.cond (.t bT) (.reg [δ bF k3,δ cC k4,δ cE k3,δ cr k0,δ cM k4,cD cJ 5 cr cM,ah cK 4 cJ,ab cu 1 cK,⟨some dn,.iad none 1 (.t cu) (.c (.i .i64 0)),none,0⟩,ab cN 1 dn,cD dt 1 cE cN,ab dB 1 dt,cD cY 1 bF cC,ct 1 cY dB]) .skip)))) SW)
def SY:AC:=.loop SX
def f78:AF:=⟨[k0],[.t k2],(θ [iS k2] (θ [δ k5 k0,aH k6 1 k5,wV k7 3 1 8 .i64 0 k6 k6,δ k3 k7] (.seq (θ [aB k4 .i64 0] (.block 0 SY)) (θ [δ eJ k3,δ k2 eJ] .ret))))⟩
def SZ:AC:=.loop (.seq (θ [δ aM k8,jy aV aM .i64 0] (.cond (.t aV) .skip (.exit 0))) (.seq (.block 1 (.seq (θ [δ bn k0,δ bH k2,cD bC 5 bn bH,ah bz 4 bC,ab bJ 1 bz,δ bO k8,cD bP 1 bJ bO,ab bZ 1 bP,oH bW bZ .i64 0,δ bT bW,dM bF k0 bT,dM cC k2 bT,wU cE 5 bF cC bT,eo cr 4 cE bT,fc cM 1 cr bT,dM cJ k8 bT,wU cK 1 cM cJ bT,fc cu 1 cK bT,dM dn k7 bT,⟨some cN,.bin .sub (.one .bool) (.t dn) (.c (.i .i64 1)),some (bT,false),0⟩,yw dt cu cN bT,dV dB bT dt] (.cond (.t dB) (θ [bS k6] .ret) .skip)) (.reg [δ cY k1,δ eJ k0,δ eX k2,cD ff 5 eJ eX,ah eQ 4 ff,ab eS 1 eQ,δ fU k8,cD fi 1 eS fU,ab gh 1 fi,cD fo 1 cY gh,ab fN 1 fo,δ k7 fN]))) (.reg [δ bf k8,fg bu bf .i64 1,δ k8 bu])))
def S0:AC:=θ [nK k6] .ret
def f80:AF:=⟨[k0,k1,k2],[.t k6],(θ [bS k6] (θ [δ k9 k2,δ k7 k9] (.seq (θ [δ aA k0,δ aE k2,cD aF 5 aA aE,ah aG 4 aF,ab aP 1 aG,aH aT 1 aP,fg aU aT .i64 1,δ k8 aU] (.block 0 SZ)) S0)))⟩
def S1:AC:=.cond (.t bT) (θ [ah cr 4 k1,ab cM 1 cr,aH cJ 1 cM,jy cK cJ .i64 1,δ k2 cK] .ret) .skip
def S2:AC:=.cond (.t aP) (θ [nK k2] .ret) (θ [cP bf k4 .i64 5,δ aV bf] (.cond (.t aV) (θ [ah bu 4 k1,ab bn 1 bu,aH bH 1 bn,cP bC bH .i64 1,δ k2 bC] .ret) (θ [cP bJ k4 .i64 10,δ bz bJ] (.cond (.t bz) (θ [ah bO 4 k1,ab bP 1 bO,aH bZ 1 bP,cP bW bZ .i64 3,δ k2 bW] .ret) (.seq (θ [cP bF k4 .i64 17,δ bT bF] (.cond (.t bT) .skip (θ [cP cC k4 .i64 18,δ bT cC] (.cond (.t bT) .skip (.reg [cP cE k4 .i64 19,δ bT cE]))))) S1)))))
def S3:AC:=.cond (.t k5) (θ [ah aA 4 k1,ab aE 1 aA,aH aF 1 aE,cP aG aF .i64 0,δ k2 aG] .ret) (.seq (θ [cP aT k4 .i64 4,δ aP aT] (.cond (.t aP) .skip (θ [cP aU k4 .i64 6,δ aP aU] (.cond (.t aP) .skip (.reg [cP aM k4 .i64 7,δ aP aM]))))) S2)
def ET:AC:=θ [ah cu 4 k1,ab dn 1 cu,aH cN 1 dn,cP dt cN .i64 2,δ k2 dt] .ret
def f79:AF:=⟨[k0],[.t k2],(θ [dN k1 69 k0,bS k2] (.seq (θ [ah k3 0 k1,ab k4 1 k3] (.block 0 (.seq (θ [cP k6 k4 .i64 0,δ k5 k6] (.cond (.t k5) .skip (θ [cP k7 k4 .i64 1,δ k5 k7] (.cond (.t k5) .skip (θ [cP k8 k4 .i64 2,δ k5 k8] (.cond (.t k5) .skip (.reg [cP k9 k4 .i64 3,δ k5 k9]))))))) S3))) ET))⟩
def S4:AC:=θ [δ bJ k0,ah bO 4 k3,ab bP 1 bO,δ bZ k5,cD bW 1 bP bZ,ab bT 1 bW,cD bF 5 bJ bT,ah cC 0 bF,ab cE 1 cC,cP cr cE .i64 19,δ cM k6,Li cJ cr cM] (.cond (.t cJ) (θ [bS k4] .ret) .skip)
def S5:AC:=.reg [δ aF k5,bR aG aF .i64 1,δ k5 aG]
def S6:AC:=.seq (θ [δ k7 k5,ah k8 4 k3,ab k9 1 k8,aH aA 1 k9,cO aE k7 aA] (.cond (.t aE) .skip (.exit 0))) (.seq (.block 1 (θ [ah aP 0 k3,ab aT 1 aP,cn aU 154 aT,δ aM aU,cQ aV k5 aM,iQ bf 4 k3 aM,j8 bu 1 bf aM,qw bn 1 bu aM,HT bH bn .i64 1 aM,HV bC aV bH aM,fF bz aM bC,δ k6 bz] S4)) S5)
def S7:AC:=.loop S6
def Lr:AC:=θ [nK k4] .ret
def f81:AF:=⟨[k0,k1],[.t k4],(θ [dN k3 69 k1,bS k4] (.seq (θ [aB k5 .i64 0] (.block 0 S7)) Lr))⟩
def f154:AF:=⟨[k0],[.t k2],(θ [bS k2] (θ [δ k3 k0,cP k4 k3 .i64 17,δ k5 k4,dM k6 k0 k5,Cm k7 k6 .i64 18 k5,dV k8 k5 k7,δ k2 k8] .ret))⟩
def S8:AC:=θ [δ bz k3,jJ bJ bz,pC bO 77 bJ .i64 6,δ k2 bO] .ret
def f82:AF:=⟨[k0],[.t k2],(θ [dN k1 69 k0,aB k2 .i64 0] (θ [ah k4 2 k1,ab k5 1 k4,pE k6 k5 0 0,δ k3 k6] (.seq (θ [ah k7 0 k1,ab k8 1 k7] (.block 0 (θ [cP aA k8 .i64 2,δ k9 aA] (.cond (.t k9) (.reg [ah aE 2 k1,ab aF 1 aE,cn aG 155 aF,δ k3 aG]) (θ [cP aT k8 .i64 3,δ aP aT] (.cond (.t aP) (.reg [ah aU 2 k1,ab aM 1 aU,cn aV 156 aM,δ k3 aV]) (θ [cP bu k8 .i64 4,δ bf bu] (.cond (.t bf) (.reg [ah bn 2 k1,ab bH 1 bn,Co bC bH 0 0,δ k3 bC]) .skip)))))))) S8)))⟩
def f155:AF:=⟨[k0],[.t k2],(θ [bS k2] (θ [δ k3 k0,cn k4 158 k3,cP k5 k4 .i64 0,δ k6 k5,dM k7 k0 k6,pD k8 159 k7 k6,Cm k9 k8 .i64 0 k6,dV aA k6 k9,δ k2 aA] .ret))⟩
def f158:AF:=⟨[k0],[.t k2],(θ [aB k2 .i64 0] (.seq (θ [δ k4 k0,cn k5 223 k4,jJ k6 k5] (.cond (.t k6) (θ [aB k2 .i64 1] .ret) .skip)) (θ [δ k7 k0,aH k8 0 k7,δ k3 k8] (.seq (θ [δ k9 k0,Cp aA k9 .i64 0,cP aE aA .u8 45] (.cond (.t aE) (.reg [δ aF k3,fg aG aF .i64 1,δ k3 aG]) .skip)) (θ [δ aP k3,mP aT aP .i64 120,pC aU 77 aT .i64 4,δ k2 aU] .ret)))))⟩
def S9:AC:=θ [bS k2] .ret
def Ta:AC:=.loop (.seq (θ [δ cE k4,δ cr k3,aH cM 0 cr,cO cJ cE cM] (.cond (.t cJ) .skip (.exit 0))) (.seq (.block 1 (θ [δ dn k3,δ cN k4,oI dt dn cN,cn dB 267 dt,jJ cY dB] (.cond (.t cY) (θ [bS k2] .ret) .skip))) (.reg [δ cK k4,bR cu cK .i64 1,δ k4 cu])))
def Td:AC:=θ [nK k2] .ret
def Lt:AC:=.seq (θ [aB k4 .i64 0] (.block 0 Ta)) Td
def Te:AC:=.seq (θ [δ aU k3,aH aM 0 aU,cP aV aM .i64 0,δ bf aV,dM bu k0 bf,HR bn bu 2 12333 bf,dV bH bf bn,δ bC bH,dM bz k3 bC,j9 bJ 0 bz bC,vM bO bJ .i64 1 bC,dM bP bO bC,cQ bZ k3 bP,⟨some bW,.idx none (.t bZ) (.c (.i .i64 0)),some (bP,true),0⟩,Aq bT bW .u8 48 bP,yu bF bP bT bC,dV cC bC bF] (.cond (.t cC) S9 .skip)) Lt
def f223:AF:=⟨[k0],[.t k2],(θ [bS k2] (θ [δ k5 k0,δ k3 k5] (.seq (θ [δ k6 k0,aH k7 0 k6,mP k8 k7 .i64 0,δ k9 k8,cQ aA k0 k9,⟨some aE,.idx none (.t aA) (.c (.i .i64 0)),some (k9,true),0⟩,Aq aF aE .u8 45 k9,fF aG k9 aF] (.cond (.t aG) (.reg [δ aP k0,⟨some aT,.sli .str (.t aP) (some (.c (.i .i64 1))) none none,none,0⟩,δ k3 aT]) .skip)) Te)))⟩
def f267:AF:=⟨[k0],[.t k2],(θ [bS k2] (θ [δ k3 k0,jy k4 k3 .u8 48,δ k5 k4,cQ k6 k0 k5,HS k7 k6 .u8 57 k5,fF k8 k5 k7,δ k2 k8] .ret))⟩
def f159:AF:=⟨[k0],[.t k2],(θ [aB k2 .i64 0] (θ [δ k8 k0,cn k9 224 k8,δ k7 k9,fe aA k7 0,fe aE k7 1,fe aF k7 2,δ k3 aA,δ k4 aE,δ k5 aF] (.seq (θ [δ aG k5,jJ aP aG] (.cond (.t aP) (θ [aB k2 .i64 1] .ret) .skip)) (.seq (θ [δ aT k3,cn aU 158 aT,δ aM k4,cn aV 158 aM,⟨some bf,.bsl 3 [.i .i64 0,.i .i64 0] 2 [(0,1,(.t aU)),(1,1,(.t aV))],none,0⟩,cn bu 30 bf,δ k6 bu] (θ [δ bn k6,mQ bH bn .i64 0] (.cond (.t bH) (θ [δ bC k6,δ k2 bC] .ret) .skip))) (θ [δ bz k4,pE bJ bz 1 48,δ bO bJ,dM bP k4 bO,⟨some bZ,.idx none (.t bP) (.c (.i .i64 0)),some (bO,false),0⟩,Cm bW bZ .u8 45 bO,dV bT bO bW,δ bF bT,dM cC k3 bF,pD cE 227 cC bF,dM cr k4 bF,pD cM 227 cr bF,⟨some cJ,.cg (.c (.f 226 [] [])) [(.t cE),(.t cM)],some (bF,false),0⟩,pD cK 225 cJ bF,⟨some cu,.bin .neq (.one .str) (.t cK) (.c (.s 1 49)),some (bF,false),0⟩,dV dn bF cu,pC cN 77 dn .i64 1,δ k2 cN] .ret)))))⟩
def Tf:AC:=.loop (.seq (θ [δ k7 k6,δ k8 k0,aH k9 0 k8,cO aA k7 k9] (.cond (.t aA) .skip (.exit 0))) (.seq (.block 1 (θ [δ aG k0,δ aP k6,oI aT aG aP,cP aU aT .u8 47] (.cond (.t aU) (.seq (θ [δ aM k5,jy aV aM .i64 0] (.cond (.t aV) (θ [oJ k2 0 0,oJ k3 0 0,bS k4] .ret) .skip)) (.reg [δ bf k6,δ k5 bf])) .skip))) (.reg [δ aE k6,bR aF aE .i64 1,δ k6 aF])))
def Tg:AC:=.seq (θ [δ bu k5,oH bn bu .i64 0] (.cond (.t bn) (θ [oJ k2 0 0,oJ k3 0 0,bS k4] .ret) .skip)) (.seq (.regd [δ bH k0,δ bC k5,⟨some bz,.sli .str (.t bH) none (some (.t bC)) none,none,3⟩,δ bJ k0,δ bO k5,⟨some bP,.bin .add (.one .bool) (.t bO) (.c (.i .i64 1)),none,16⟩,⟨some bZ,.sli .str (.t bJ) (some (.t bP)) none none,none,56⟩,ES k2 bz,⟨some k3,.mv (.t bZ),none,255⟩,⟨some k4,.mv (.c (.b true)),none,511⟩]) .ret)
def f224:AF:=⟨[k0],[.t k2,.t k3,.t k4],(θ [oJ k2 0 0,oJ k3 0 0,bS k4] (θ [aB k5 .i64 (-1)] (.seq (θ [aB k6 .i64 0] (.block 0 Tf)) Tg)))⟩
def Th:AC:=.loop (.seq (θ [δ bH k6,δ bC k4,cO bz bH bC] (.cond (.t bz) .skip (.exit 2))) (.seq (.block 3 (.reg [δ bP k5,⟨some bZ,.bin .mul (.one .bool) (.c (.i .i64 10)) (.t bP),none,0⟩,δ bW k0,δ bT k6,oI bF bW bT,fg cC bF .u8 48,lD cE .i64 cC,lC cr bZ cE,δ k5 cr])) (.reg [δ bJ k6,bR bO bJ .i64 1,δ k6 bO])))
def Ti:AC:=.loop (.seq (θ [δ aT k4,mP aU aT .i64 0] (.cond (.t aU) .skip (.exit 0))) (.seq (.block 1 (θ [aB k5 .i64 0] (.seq (θ [δ bf k4,fg bu bf .i64 4,⟨some bn,.mm true [(.c (.i .i64 0)),(.t bu)],none,0⟩,δ k6 bn] (.block 2 Th)) (.reg [ah cM 1 k3,ab cJ 1 cM,δ cK k5,tc cu 3 .i64 0 1 0 1 cK,vN dn 3 1 8 .i64 0 cJ cu,ah cN 1 k3,ct 1 cN dn])))) (.reg [δ aM k4,fg aV aM .i64 4,δ k4 aV])))
def Tj:AC:=.seq (θ [δ aG k0,aH aP 0 aG,δ k4 aP] (.block 0 Ti)) (θ [cm dt 2 k3,cn dB 269 dt,ct 2 k2 dB] .ret)
def f227:AF:=⟨[k0],[.cell k2 true 2],(θ [nJ k2 281] (θ [nJ k3 281] (.seq (θ [δ k7 k0,Cp k8 k7 .i64 0,cP k9 k8 .u8 45] (.cond (.t k9) (θ [ah aA 0 k3,HY 1 aA] (.reg [δ aE k0,⟨some aF,.sli .str (.t aE) (some (.c (.i .i64 1))) none none,none,0⟩,δ k0 aF])) .skip)) Tj)))⟩
def Tk:AC:=.loop (.seq (θ [δ k7 k3,mP k8 k7 .i64 0,δ k9 k8,iQ aA 1 k1 k9,j8 aE 1 aA k9,cQ aF k3 k9,HT aG aF .i64 1 k9,⟨some aP,.iad none 1 (.t aE) (.t aG),some (k9,true),0⟩,j8 aT 1 aP k9,Aq aU aT .i64 0 k9,fF aM k9 aU] (.cond (.t aM) .skip (.exit 0))) (.block 1 (.reg [δ aV k3,fg bf aV .i64 1,δ k3 bf])))
def Tl:AC:=θ [cm bZ 2 k1,ct 2 k2 bZ] .ret
def f269:AF:=⟨[k0],[.cell k2 true 2],(θ [dN k1 281 k0,nJ k2 281] (θ [ah k4 1 k1,ab k5 1 k4,aH k6 1 k5,δ k3 k6] (.seq (.block 0 Tk) (θ [ah bu 1 k1,ab bn 1 bu,δ bH k3,⟨some bC,.sli (.sl 1) (.t bn) none (some (.t bH)) none,none,0⟩,ah bz 1 k1,ct 1 bz bC] (.seq (θ [δ bJ k3,cP bO bJ .i64 0] (.cond (.t bO) (.reg [ah bP 0 k1,yA 1 bP]) .skip)) Tl)))))⟩
def Tm:AC:=.loop (.seq (θ [ah k9 1 k3,ab aA 1 k9,aH aE 1 aA,mP aF aE .i64 0] (.cond (.t aF) .skip (.exit 0))) (.block 1 (θ [cm aP 2 k2,cm aT 2 k3,dU aU 268 aP aT,δ aG aU,fe aM aG 0,fe aV aG 1,nJ k5 281,nJ k6 281,ct 2 k5 aM,ct 2 k6 aV] (.regd [cm bf 2 k3,cm bu 2 k6,⟨none,.st 2 (.t k2) (.t bf),none,1⟩,Az 2 k3 bu]))))
def f226:AF:=⟨[k0,k1],[.cell k4 true 2],(θ [dN k2 281 k0,dN k3 281 k1,nJ k4 281] (θ [ah k7 0 k2,yA 1 k7,ah k8 0 k3,yA 1 k8] (.seq (.block 0 Tm) (θ [cm bn 2 k2,ct 2 k4 bn] .ret))))⟩
def f268:AF:=⟨[k0,k1],[.cell k4 true 2,.cell k5 true 2],(θ [dN k2 281 k0,dN k3 281 k1,nJ k4 281,nJ k5 281] (θ [ah aE 1 k2,ab aF 1 aE,ah aG 1 k3,ab aP 1 aG,dU aT 299 aF aP,δ aA aT,fe aU aA 0,fe aM aA 1,δ k6 aU,δ k7 aM] (θ [ah aV 0 k2,ab bf 1 aV,ah bu 0 k3,ab bn 1 bu,Li bH bf bn,δ bC k6,⟨some bz,.bld [.b false,.ns] [(0,1,(.t bH)),(1,1,(.t bC))],none,0⟩,cn bJ 269 bz,δ bO k7,wW bP 1 1 bO,nJ k8 281,nJ k9 281,ct 2 k8 bJ,ct 2 k9 bP] (.seq (θ [ah bZ 0 k2,ab bW 1 bZ,δ bT bW,cQ bF k7 bT,qw cC 1 bF bT,⟨some cE,.bin .gtr (.one .bool) (.t cC) (.c (.i .i64 0)),some (bT,true),0⟩,fF cr bT cE] (.cond (.t cr) (θ [ah cM 1 k3,ab cJ 1 cM,δ cK k7,dU cu 300 cJ cK,wW dn 1 1 cu,ct 2 k9 dn] (θ [ah cN 0 k3,ab dt 1 cN] (.cond (.t dt) (.regd [cm dB 2 k8,⟨some cY,.cg (.c (.f 302 [] [])) [(.c (.i .i64 1))],none,0⟩,As eJ 301 dB cY,Az 2 k8 eJ]) (.regd [cm eX 2 k8,⟨some ff,.cg (.c (.f 302 [] [])) [(.c (.i .i64 1))],none,0⟩,As eQ 303 eX ff,Az 2 k8 eQ])))) .skip)) (.seq (.regd [cm eS 2 k8,cm fU 2 k9,⟨some fi,.cg (.c (.f 269 [] [])) [(.t fU)],none,2⟩,Az 2 k4 eS,⟨none,.st 2 (.t k5) (.t fi),none,15⟩]) .ret)))))⟩
def Lu:AC:=.loop (.seq (θ [δ cJ k9,δ cK aA,cO cu cJ cK] (.cond (.t cu) .skip (.exit 2))) (.block 3 (θ [δ dn k9,δ cN aA,lC dt dn cN,bR dB dt .i64 1,Ar cY dB .i64 2,δ aE cY] (θ [δ eJ k1,δ eX aE,dU ff 318 eJ eX,wW eQ 1 1 ff,cn eS 269 eQ,Av fU 1 1 eS,δ fi k7,dU gh 317 fU fi,⟨some fo,.bin .leq (.one .bool) (.t gh) (.c (.i .i64 0)),none,0⟩] (.cond (.t fo) (.reg [δ fN aE,δ k9 fN]) (.reg [δ gV aE,fg jo gV .i64 1,δ aA jo]))))))
def Tn:AC:=θ [δ jz k6,δ hY k8,δ jY k9,cD jZ 1 jz hY,ct 1 jZ jY] (θ [δ j0 k9,mP iN j0 .i64 0] (.cond (.t iN) (.reg [δ j3 k7,δ j4 k1,δ j5 k9,dU j6 318 j4 j5,dU kT 300 j3 j6,δ k7 kT]) .skip))
def Lv:AC:=.reg [δ bu k8,fg bn bu .i64 1,δ k8 bn]
def Lw:AC:=.seq (θ [δ aV k8,jy bf aV .i64 0] (.cond (.t bf) .skip (.exit 0))) (.seq (.block 1 (θ [δ bH k0,δ bC k8,cD bz 1 bH bC,ab bJ 1 bz,tc bO 3 .i64 0 1 0 1 bJ,δ bP k7,vN bZ 3 1 8 .i64 0 bO bP,wW bW 1 1 bZ,cn bT 269 bW,Av bF 1 1 bT,δ k7 bF] (θ [aB k9 .i64 0,aB aA .i64 9999] (.seq (θ [δ cC k7,δ cE k1,dU cr 317 cC cE,oH cM cr .i64 0] (.cond (.t cM) (.reg [aB aA .i64 0]) .skip)) (.seq (.block 2 Lu) Tn))))) Lv)
def To:AC:=.loop Lw
def f299:AF:=⟨[k0,k1],[.t k4,.t k5],(θ [iS k4,iS k5] (θ [δ aF k0,aH aG 1 aF,wV aP 3 1 8 .i64 0 aG aG,δ k6 aP] (θ [iS k7] (.seq (θ [δ aT k0,aH aU 1 aT,fg aM aU .i64 1,δ k8 aM] (.block 0 To)) (θ [δ jq k6,wW hZ 1 1 jq,cn mL 269 hZ,Av oa 1 1 mL,δ oc k7,δ k4 oa,δ k5 oc] .ret)))))⟩
def Tp:AC:=.loop (.seq (θ [δ bf k5,jy bu bf .i64 0] (.cond (.t bu) .skip (.exit 0))) (.seq (.block 1 (.seq (.seq (.regd [δ bC k0,δ bz k5,qv bJ 1 bC bz,Aw bO 1 bJ,δ bP k1,δ bZ k5,Au bW 1 bP bZ,H4 bT 1 bW,⟨some bF,.bin .lss (.one .bool) (.t bO) (.t bT),none,255⟩]) (.cond (.t bF) (θ [aB k4 .i64 (-1)] .ret) .skip)) (.seq (.regd [δ cC k0,δ cE k5,qv cr 1 cC cE,Aw cM 1 cr,δ cJ k1,δ cK k5,Au cu 1 cJ cK,H4 dn 1 cu,⟨some cN,.bin .gtr (.one .bool) (.t cM) (.t dn),none,255⟩]) (.cond (.t cN) (θ [aB k4 .i64 1] .ret) .skip)))) (.reg [δ bn k5,fg bH bn .i64 1,δ k5 bH])))
def Tq:AC:=θ [aB k4 .i64 0] .ret
def f317:AF:=⟨[k0,k1],[.t k4],(θ [aB k4 .i64 0] (.seq (θ [δ k6 k0,aH k7 1 k6,δ k8 k1,aH k9 1 k8,tf aA k7 k9] (.cond (.t aA) (.seq (θ [δ aE k0,aH aF 1 aE,δ aG k1,aH aP 1 aG,cO aT aF aP] (.cond (.t aT) (θ [aB k4 .i64 (-1)] .ret) .skip)) (θ [aB k4 .i64 1] .ret)) .skip)) (.seq (θ [δ aU k0,aH aM 1 aU,fg aV aM .i64 1,δ k5 aV] (.block 0 Tp)) Tq)))⟩
def f318:AF:=⟨[k0,k1],[.t k4],(θ [iS k4] (θ [δ k5 k0,wW k6 1 1 k5,δ k7 k1,tc k8 3 .i64 0 1 0 1 k7,wW k9 1 1 k8,dU aA 329 k6 k9,Av aE 1 1 aA,δ k4 aE] .ret))⟩
def Ts:AC:=.seq (.regd [δ cK k5,δ cu k6,δ dn k8,⟨some cN,.bin .add (.one .bool) (.t cu) (.t dn),none,6⟩,⟨some dt,.iad none 1 (.t cK) (.t cN),none,15⟩,⟨some dB,.ld false 1 (.t dt),none,31⟩,ah cY 1 k2,⟨some eJ,.ld false 1 (.t cY),none,64⟩,δ eX k6,⟨some ff,.iad none 1 (.t eJ) (.t eX),none,448⟩,⟨some eQ,.ld false 1 (.t ff),none,960⟩,ah eS 1 k3,⟨some fU,.ld false 1 (.t eS),none,2048⟩,δ fi k8,⟨some gh,.cg (.c (.f 319 [] [])) [(.t fU),(.t fi)],none,14336⟩,⟨some fo,.bin .mul (.one .bool) (.t eQ) (.t gh),none,32704⟩,⟨some fN,.bin .add (.one .bool) (.t dB) (.t fo),none,65535⟩,δ gV k7,⟨some jo,.bin .add (.one .bool) (.t fN) (.t gV),none,262143⟩,⟨some k9,.mv (.t jo),none,524287⟩]) (θ [δ jz k5,δ hY k6,δ jY k8,lC jZ hY jY,δ j0 k9,EE iN j0 .i64 10000,cD j3 1 jz jZ,ct 1 j3 iN] (.reg [δ j4 k9,Ar j5 j4 .i64 10000,δ k7 j5]))
def Tt:AC:=.loop (.seq (θ [δ bO k8,ah bP 1 k3,ab bZ 1 bP,aH bW 1 bZ,cO bT bO bW,δ bF bT,dM cC k7 bF,vM cE cC .i64 0 bF,dV cr bF cE] (.cond (.t cr) .skip (.exit 2))) (.seq (.block 3 Ts) (.reg [δ cM k8,bR cJ cM .i64 1,δ k8 cJ])))
def Tu:AC:=.loop (.seq (θ [δ bf k6,ah bu 1 k2,ab bn 1 bu,aH bH 1 bn,cO bC bf bH] (.cond (.t bC) .skip (.exit 0))) (.seq (.block 1 (θ [aB k7 .i64 0] (θ [aB k8 .i64 0] (.block 2 Tt)))) (.reg [δ bz k6,bR bJ bz .i64 1,δ k6 bJ])))
def f329:AF:=⟨[k0,k1],[.cell k4 true 2],(θ [dN k2 281 k0,dN k3 281 k1,nJ k4 281] (θ [ah aA 1 k2,ab aE 1 aA,aH aF 1 aE,ah aG 1 k3,ab aP 1 aG,aH aT 1 aP,lC aU aF aT,bR aM aU .i64 1,wV aV 3 1 8 .i64 0 aM aM,δ k5 aV] (.seq (θ [aB k6 .i64 0] (.block 0 Tu)) (θ [ah j6 0 k2,ab kT 1 j6,ah jq 0 k3,ab hZ 1 jq,Li mL kT hZ,δ oa k5,⟨some oc,.bld [.b false,.ns] [(0,1,(.t mL)),(1,1,(.t oa))],none,0⟩,cn mM 269 oc,ct 2 k4 mM] .ret))))⟩
def f319:AF:=⟨[k0,k1],[.t k4],(θ [aB k4 .i64 0] (.seq (θ [δ k5 k1,δ k6 k0,aH k7 1 k6,cO k8 k5 k7] (.cond (.t k8) (θ [δ k9 k0,δ aA k1,cD aE 1 k9 aA,ab aF 1 aE,δ k4 aF] .ret) .skip)) (θ [aB k4 .i64 0] .ret)))⟩
def Tv:AC:=.reg [δ bW k5,δ bT k8,tc bF 3 .i64 0 1 0 1 bT,vN cC 3 1 8 .i64 0 bW bF,δ k5 cC]
def Tw:AC:=.reg [δ aG k7,bR aP aG .i64 1,δ k7 aP]
def Tz:AC:=.seq (θ [δ k9 k7,δ aA k0,aH aE 1 aA,cO aF k9 aE] (.cond (.t aF) .skip (.exit 0))) (.seq (.block 1 (.seq (.regd [δ aT k0,δ aU k7,qv aM 1 aT aU,Aw aV 1 aM,δ bf k1,δ bu k7,⟨some bn,.cg (.c (.f 319 [] [])) [(.t bf),(.t bu)],none,48⟩,⟨some bH,.bin .sub (.one .bool) (.t aV) (.t bn),none,127⟩,δ bC k6,⟨some bz,.bin .sub (.one .bool) (.t bH) (.t bC),none,511⟩,⟨some k8,.mv (.t bz),none,1023⟩]) (θ [aB k6 .i64 0] (.seq (θ [δ bJ k8,oH bO bJ .i64 0] (.cond (.t bO) (θ [δ bP k8,bR bZ bP .i64 10000,δ k8 bZ] (.reg [aB k6 .i64 1])) .skip)) Tv)))) Tw)
def TA:AC:=.loop Tz
def f300:AF:=⟨[k0,k1],[.t k4],(θ [iS k4] (θ [iS k5] (θ [aB k6 .i64 0] (.seq (θ [aB k7 .i64 0] (.block 0 TA)) (θ [δ cE k5,wW cr 1 1 cE,cn cM 269 cr,Av cJ 1 1 cM,δ k4 cJ] .ret)))))⟩
def f302:AF:=⟨[k0],[.cell k2 true 2],(θ [nJ k2 281] (θ [δ k5 k0,oH k6 k5 .i64 0,wW k7 0 1 k6,nJ k3 281,ct 2 k3 k7] (.seq (.block 0 (.loop (.seq (θ [δ k8 k0,mQ k9 k8 .i64 0] (.cond (.t k9) .skip (.exit 0))) (.block 1 (θ [δ aA k0,EE aE aA .i64 10000,δ k4 aE] (.seq (θ [δ aF k4,oH aG aF .i64 0] (.cond (.t aG) (.reg [δ aP k4,⟨some aT,.un .neg (.t aP),none,0⟩,δ k4 aT]) .skip)) (θ [ah aU 1 k3,ab aM 1 aU,δ aV k4,tc bf 3 .i64 0 1 0 1 aV,vN bu 3 1 8 .i64 0 aM bf,ah bn 1 k3,ct 1 bn bu] (.reg [δ bH k0,Ar bC bH .i64 10000,δ k0 bC])))))))) (θ [cm bz 2 k3,ct 2 k2 bz] .ret))))⟩
def f301:AF:=⟨[k0,k1],[.cell k4 true 2],(θ [dN k2 281 k0,dN k3 281 k1,nJ k4 281] (.seq (θ [ah k5 0 k2,ab k6 1 k5,ah k7 0 k3,ab k8 1 k7,⟨some k9,.bin .eql (.one .bool) (.t k6) (.t k8),none,0⟩] (.cond (.t k9) (.seq (.regd [ah aA 0 k2,rL aE 1 aA,ah aF 1 k2,EP aG 1 aF,ah aP 1 k3,EN aT 1 aP,Lf aU 320 aG aT,⟨some aM,.bld [.b false,.ns] [(0,1,(.t aE)),(1,1,(.t aU))],none,127⟩,EI aV 269 aM,Ax 2 k4 aV]) .ret) .skip)) (.seq (θ [ah bf 1 k2,ab bu 1 bf,ah bn 1 k3,ab bH 1 bn,dU bC 317 bu bH,jy bz bC .i64 0] (.cond (.t bz) (.seq (.regd [ah bJ 0 k2,rL bO 1 bJ,ah bP 1 k2,EP bZ 1 bP,ah bW 1 k3,EN bT 1 bW,Lf bF 300 bZ bT,⟨some cC,.bld [.b false,.ns] [(0,1,(.t bO)),(1,1,(.t bF))],none,127⟩,EI cE 269 cC,Ax 2 k4 cE]) .ret) .skip)) (.seq (.regd [ah cr 0 k3,rL cM 1 cr,ah cJ 1 k3,EP cK 1 cJ,ah cu 1 k2,EN dn 1 cu,Lf cN 300 cK dn,⟨some dt,.bld [.b false,.ns] [(0,1,(.t cM)),(1,1,(.t cN))],none,127⟩,EI dB 269 dt,Ax 2 k4 dB]) .ret))))⟩
def f320:AF:=⟨[k0,k1],[.t k4],(θ [iS k4] (θ [iS k5] (θ [aB k6 .i64 0] (.seq (θ [aB k7 .i64 0] (.block 0 (.loop (.seq (θ [δ k9 k7,δ aA k0,aH aE 1 aA,cO aF k9 aE,δ aG aF,dM aP k7 aG,dM aT k1 aG,j9 aU 1 aT aG,⟨some aM,.bin .lss (.one .bool) (.t aP) (.t aU),some (aG,false),0⟩,dV aV aG aM,δ bf aV,dM bu k6 bf,vM bn bu .i64 0 bf,dV bH bf bn] (.cond (.t bH) .skip (.exit 0))) (.seq (.block 1 (θ [δ bJ k0,δ bO k7,dU bP 319 bJ bO,δ bZ k1,δ bW k7,dU bT 319 bZ bW,lC bF bP bT,δ cC k6,lC cE bF cC,δ k8 cE] (θ [δ cr k5,δ cM k8,EE cJ cM .i64 10000,tc cK 3 .i64 0 1 0 1 cJ,vN cu 3 1 8 .i64 0 cr cK,δ k5 cu] (.reg [δ dn k8,Ar cN dn .i64 10000,δ k6 cN])))) (.reg [δ bC k7,bR bz bC .i64 1,δ k7 bz])))))) (θ [δ dt k5,δ k4 dt] .ret)))))⟩
def f303:AF:=⟨[k0,k1],[.cell k4 true 2],(θ [dN k2 281 k0,dN k3 281 k1,nJ k4 281] (.seq (.regd [cm k5 2 k2,cm k6 2 k3,⟨some k7,.cg (.c (.f 321 [] [])) [(.t k6)],none,2⟩,⟨some k8,.cg (.c (.f 301 [] [])) [(.t k5),(.t k7)],none,7⟩,⟨none,.st 2 (.t k4) (.t k8),none,15⟩]) .ret))⟩
def f321:AF:=⟨[k0],[.cell k2 true 2],(θ [dN k1 281 k0,nJ k2 281] (θ [ah k3 0 k1,ab k4 1 k3,jJ k5 k4,ah k6 1 k1,ab k7 1 k6,⟨some k8,.bld [.b false,.ns] [(0,1,(.t k5)),(1,1,(.t k7))],none,0⟩,cn k9 269 k8,ct 2 k2 k9] .ret))⟩
def TB:AC:=.loop (.seq (θ [δ bO k6,oH bP bO .i64 4] (.cond (.t bP) .skip (.exit 2))) (.seq (.block 3 (θ [δ bT k3,δ bF k5,EE cC bF .i64 10,⟨some cE,.bin .add (.one .bool) (.c (.i .i64 48)) (.t cC),none,0⟩,lD cr .u8 cE,tc cM 5 .u8 0 1 0 1 cr,vN cJ 5 1 1 .u8 0 bT cM,δ k3 cJ] (.reg [δ cK k5,Ar cu cK .i64 10,δ k5 cu]))) (.reg [δ bZ k6,bR bW bZ .i64 1,δ k6 bW])))
def TC:AC:=.loop (.seq (θ [δ aP k4,ah aT 1 k1,ab aU 1 aT,aH aM 1 aU,cO aV aP aM] (.cond (.t aV) .skip (.exit 0))) (.seq (.block 1 (θ [ah bn 1 k1,ab bH 1 bn,δ bC k4,cD bz 1 bH bC,ab bJ 1 bz,δ k5 bJ] (θ [aB k6 .i64 0] (.block 2 TB)))) (.reg [δ bf k4,bR bu bf .i64 1,δ k4 bu])))
def TF:AC:=.loop (.seq (θ [δ dt k3,δ dB k7,fg cY dB .i64 1,cD eJ 1 dt cY,ab eX 1 eJ,cP ff eX .u8 48] (.cond (.t ff) .skip (.exit 4))) (.block 5 (.reg [δ eQ k7,fg eS eQ .i64 1,δ k7 eS])))
def TH:AC:=.loop (.seq (θ [δ jz k9,jy hY jz .i64 0] (.cond (.t hY) .skip (.exit 6))) (.seq (.block 7 (.reg [δ j0 k8,δ iN k3,δ j3 k9,cD j4 1 iN j3,ab j5 1 j4,tc j6 5 .u8 0 1 0 1 j5,vN kT 5 1 1 .u8 0 j0 j6,δ k8 kT])) (.reg [δ jY k9,fg jZ jY .i64 1,δ k9 jZ])))
def f225:AF:=⟨[k0],[.t k2],(θ [dN k1 281 k0,oJ k2 0 0] (.seq (θ [ah aA 1 k1,ab aE 1 aA,aH aF 1 aE,cP aG aF .i64 0] (.cond (.t aG) (θ [oJ k2 1 48] .ret) .skip)) (θ [iS k3] (.seq (θ [aB k4 .i64 0] (.block 0 TC)) (θ [δ dn k3,aH cN 1 dn,δ k7 cN] (.seq (.block 4 TF) (θ [iS k8] (.seq (θ [ah fU 0 k1,ab fi 1 fU] (.cond (.t fi) (.reg [δ gh k8,⟨some fo,.bsl 5 [.i .u8 0] 1 [(0,1,(.c (.i .u8 45)))],none,0⟩,vN fN 5 1 1 .u8 0 gh fo,δ k8 fN]) .skip)) (.seq (θ [δ gV k7,fg jo gV .i64 1,δ k9 jo] (.block 6 TH)) (θ [δ jq k8,⟨some hZ,.cv .zE (.t jq),none,0⟩,δ k2 hZ] .ret))))))))))⟩
def f156:AF:=⟨[k0],[.t k2],(θ [bS k2] (θ [δ k3 k0,cn k4 222 k3,δ k2 k4] .ret))⟩
def Lx:AC:=.cond (.t bn) (θ [bS k2] .ret) .skip
def Ly:AC:=.reg [δ aU k3,bR aM aU .i64 1,δ k3 aM]
def Lz:AC:=.seq (θ [δ aF k3,δ aG k0,aH aP 0 aG,cO aT aF aP] (.cond (.t aT) .skip (.exit 0))) (.seq (.block 1 (θ [δ aV k0,δ bf k3,oI bu aV bf] (.block 2 (.seq (θ [cP bH bu .u8 32,δ bn bH] (.cond (.t bn) .skip (θ [cP bC bu .u8 10,δ bn bC] (.cond (.t bn) .skip (θ [cP bz bu .u8 40,δ bn bz] (.cond (.t bn) .skip (θ [cP bJ bu .u8 41,δ bn bJ] (.cond (.t bn) .skip (θ [cP bO bu .u8 123,δ bn bO] (.cond (.t bn) .skip (.reg [cP bP bu .u8 125,δ bn bP]))))))))))) Lx)))) Ly)
def TJ:AC:=.loop Lz
def H8:AC:=θ [nK k2] .ret
def f222:AF:=⟨[k0],[.t k2],(θ [bS k2] (.seq (θ [δ k4 k0,aH k5 0 k4,cP k6 k5 .i64 0,δ k7 k6,dM k8 k0 k7,j9 k9 0 k8 k7,vM aA k9 .i64 200 k7,dV aE k7 aA] (.cond (.t aE) (θ [bS k2] .ret) .skip)) (.seq (θ [aB k3 .i64 0] (.block 0 TJ)) H8)))⟩
def TK:AC:=θ [aB k2 .i64 5] .ret
def TL:AC:=.loop (.seq (θ [δ bH k5,ah bC 3 k1,ab bz 1 bC,aH bJ 1 bz,cO bO bH bJ] (.cond (.t bO) .skip (.exit 0))) (.seq (.block 1 (.seq (θ [ah bW 3 k1,ab bT 1 bW,δ bF k5,cD cC 2 bT bF,ah cE 0 cC,ab cr 1 cE,cn cM 156 cr,jJ cJ cM,pC cK 77 cJ .i64 6,δ k6 cK] (θ [δ cu k6,mQ dn cu .i64 0] (.cond (.t dn) (θ [δ cN k6,δ k2 cN] .ret) .skip))) (.seq (.regd [ah dt 3 k1,rL dB 1 dt,δ cY k5,⟨some eJ,.sli (.sl 2) (.t dB) none (some (.t cY)) none,none,7⟩,ah eX 3 k1,EN ff 1 eX,δ eQ k5,⟨some eS,.iad none 2 (.t ff) (.t eQ),none,112⟩,⟨some fU,.fad 0 (.t eS),none,240⟩,⟨some fi,.ld false 1 (.t fU),none,496⟩,⟨some gh,.cg (.c (.f 157 [] [])) [(.t eJ),(.t fi)],none,1023⟩,⟨some fo,.bin .geq (.one .bool) (.t gh) (.c (.i .i64 0)),none,2047⟩]) (.cond (.t fo) (θ [aB k2 .i64 7] .ret) .skip)))) (.reg [δ bP k5,bR bZ bP .i64 1,δ k5 bZ])))
def TM:AC:=θ [aB k2 .i64 0] .ret
def LA:AC:=.seq (θ [aB k5 .i64 0] (.block 0 TL)) TM
def f83:AF:=⟨[k0],[.t k2],(θ [dN k1 69 k0,aB k2 .i64 0] (θ [aB k3 .i64 0,aB k4 .i64 0] (.seq (θ [ah k7 0 k1,ab k8 1 k7,cn k9 154 k8] (.cond (.t k9) (.reg [aB k3 .i64 1,aB k4 .i64 12]) .skip)) (.seq (θ [ah aA 3 k1,ab aE 1 aA,aH aF 1 aE,δ aG k3,cO aP aF aG,δ aT aP,eo aU 3 k1 aT,fc aM 1 aU aT,j9 aV 1 aM aT,dM bf k4 aT,⟨some bu,.bin .gtr (.one .bool) (.t aV) (.t bf),some (aT,false),0⟩,dV bn aT bu] (.cond (.t bn) TK .skip)) LA))))⟩
def TN:AC:=.loop (.seq (θ [δ k6 k5,δ k7 k0,aH k8 1 k7,cO k9 k6 k8] (.cond (.t k9) .skip (.exit 0))) (.seq (.block 1 (θ [δ aF k0,δ aG k5,cD aP 2 aF aG,ah aT 0 aP,ab aU 1 aT,δ aM k1,Ll aV aU aM] (.cond (.t aV) (θ [δ bf k5,δ k4 bf] .ret) .skip))) (.reg [δ aA k5,bR aE aA .i64 1,δ k5 aE])))
def TP:AC:=θ [aB k4 .i64 (-1)] .ret
def f157:AF:=⟨[k0,k1],[.t k4],(θ [aB k4 .i64 0] (.seq (θ [aB k5 .i64 0] (.block 0 TN)) TP))⟩
def TQ:AC:=.cond (.t cY) (.reg [ah eQ 1 k1,ab eS 1 eQ,Co fU eS 0 0,δ k3 fU]) (θ [cP gh k8 .i64 19,δ fi gh] (.cond (.t fi) (.reg [ah fo 1 k1,ab fN 1 fo,pE gV fN 0 0,δ k3 gV]) .skip))
def TR:AC:=.cond (.t bF) (.reg [ah cM 1 k1,ab cJ 1 cM,pE cK cJ 3 7630409,δ cu cK,eo dn 1 k1 cu,fc cN 1 dn cu,HR dt cN 4 1818322258 cu,dV dB cu dt,δ k3 dB]) (.seq (θ [cP eJ k8 .i64 3,δ cY eJ] (.cond (.t cY) .skip (θ [cP eX k8 .i64 4,δ cY eX] (.cond (.t cY) .skip (.reg [cP ff k8 .i64 10,δ cY ff]))))) TQ)
def H9:AC:=θ [δ jo k3,jJ jz jo,pC hY 77 jz .i64 13,δ k2 hY] .ret
def f84:AF:=⟨[k0],[.t k2],(θ [dN k1 69 k0,aB k2 .i64 0] (θ [ah k4 1 k1,ab k5 1 k4,pE k6 k5 4 1819242306,δ k3 k6] (.seq (θ [ah k7 0 k1,ab k8 1 k7] (.block 0 (θ [cP aA k8 .i64 2,δ k9 aA] (.cond (.t k9) (.reg [ah aE 1 k1,ab aF 1 aE,pE aG aF 3 7630409,δ aP aG,iQ aT 2 k1 aP,j8 aU 1 aT aP,EF aM 158 aU aP,Aq aV aM .i64 0 aP,fF bf aP aV,δ bu bf,eo bn 1 k1 bu,fc bH 1 bn bu,HR bC bH 4 1818322258 bu,dM bz bC bu,iQ bJ 2 k1 bz,j8 bO 1 bJ bz,EF bP 159 bO bz,Aq bZ bP .i64 0 bz,yu bW bz bZ bu,dV bT bu bW,δ k3 bT]) (.seq (θ [cP cC k8 .i64 12,δ bF cC] (.cond (.t bF) .skip (θ [cP cE k8 .i64 13,δ bF cE] (.cond (.t bF) .skip (.reg [cP cr k8 .i64 14,δ bF cr]))))) TR))))) H9)))⟩
def TS:AC:=.loop (.seq (θ [δ aU k6,δ aM k0,δ aV k4,cD bf 5 aM aV,ah bu 4 bf,ab bn 1 bu,aH bH 1 bn,cO bC aU bH] (.cond (.t bC) .skip (.exit 2))) (.seq (.block 3 (.reg [δ bO k5,δ bP k3,δ bZ k0,δ bW k4,cD bT 5 bZ bW,ah bF 4 bT,ab cC 1 bF,δ cE k6,cD cr 1 cC cE,ab cM 1 cr,cD cJ 1 bP cM,ab cK 1 cJ,⟨some cu,.mm true [(.t bO),(.t cK)],none,0⟩,δ k5 cu])) (.reg [δ bz k6,bR bJ bz .i64 1,δ k6 bJ])))
def TT:AC:=.loop (.seq (θ [δ aA k4,δ aE k0,aH aF 1 aE,cO aG aA aF] (.cond (.t aG) .skip (.exit 0))) (.seq (.block 1 (θ [aB k5 .i64 0] (.seq (θ [aB k6 .i64 0] (.block 2 TS)) (.reg [δ dn k3,δ cN k4,δ dt k5,bR dB dt .i64 1,cD cY 1 dn cN,ct 1 cY dB])))) (.reg [δ aP k4,bR aT aP .i64 1,δ k4 aT])))
def f85:AF:=⟨[k0],[.t k2],(θ [iS k2] (θ [δ k7 k0,aH k8 1 k7,wV k9 3 1 8 .i64 0 k8 k8,δ k3 k9] (.seq (θ [aB k4 .i64 0] (.block 0 TT)) (θ [δ eJ k3,δ k2 eJ] .ret))))⟩
def TU:AC:=θ [bS k6] .ret
def TV:AC:=.cond (.t pS) (.seq (.regd [δ qn k2,δ oe k9,qv qo 2 qn oe,⟨some pT,.fad 0 (.t qo),none,7⟩,⟨some sg,.ld false 1 (.t pT),none,15⟩,ah sh 2 k7,⟨some si,.ld false 1 (.t sh),none,32⟩,⟨some kU,.bin .eql (.one .str) (.t sg) (.t si),none,127⟩,⟨some kB,.mv (.t kU),none,255⟩,⟨some sj,.mv (.t k2),some (kB,true),511⟩,⟨some sk,.mv (.t k9),some (kB,true),511⟩,⟨some sn,.iad none 2 (.t sj) (.t sk),some (kB,true),2047⟩,⟨some so,.fad 1 (.t sn),some (kB,true),4095⟩,⟨some qp,.ld false 1 (.t so),some (kB,true),8191⟩,⟨some qX,.fad 2 (.t k8),some (kB,true),511⟩,⟨some mz,.ld false 1 (.t qX),some (kB,true),16895⟩,⟨some tT,.bin .eql (.one .str) (.t qp) (.t mz),some (kB,true),65535⟩,⟨some tU,.pick (.t kB) (.t tT) (.c (.b false)),none,131071⟩,⟨some k6,.mv (.t tU),none,262143⟩]) .ret) .skip
def TW:AC:=.reg [δ hY k9,fg jY hY .i64 1,δ k9 jY]
def TX:AC:=.seq (θ [δ jo k9,jy jz jo .i64 0] (.cond (.t jz) .skip (.exit 0))) (.seq (.block 1 (.seq (.regd [δ jZ k2,δ j0 k9,qv iN 2 jZ j0,⟨some j3,.fad 0 (.t iN),none,7⟩,⟨some j4,.ld false 1 (.t j3),none,15⟩,ah j5 2 k7,⟨some j6,.ld false 1 (.t j5),none,32⟩,⟨some kT,.bin .eql (.one .str) (.t j4) (.t j6),none,127⟩,⟨some jq,.mv (.t kT),none,255⟩,⟨some hZ,.mv (.t k2),some (jq,false),511⟩,⟨some mL,.mv (.t k9),some (jq,false),511⟩,⟨some oa,.iad none 2 (.t hZ) (.t mL),some (jq,false),2047⟩,⟨some oc,.fad 1 (.t oa),some (jq,false),4095⟩,⟨some mM,.ld false 1 (.t oc),some (jq,false),8191⟩,⟨some ql,.fad 2 (.t k8),some (jq,false),511⟩,⟨some pR,.ld false 1 (.t ql),some (jq,false),16895⟩,⟨some qm,.bin .eql (.one .str) (.t mM) (.t pR),some (jq,false),65535⟩,⟨some pS,.pick (.t jq) (.c (.b true)) (.t qm),none,131071⟩]) TV)) TW)
def TY:AC:=.loop TX
def TZ:AC:=.loop (.seq (θ [δ uI aE,ah uJ 3 k7,ab uK 1 uJ,aH uL 1 uK,cO uM uI uL] (.cond (.t uM) .skip (.exit 2))) (.seq (.block 3 (.seq (.seq (.regd [ah uP 3 k7,rL uQ 1 uP,δ j7 aE,⟨some uR,.iad none 2 (.t uQ) (.t j7),none,7⟩,⟨some uS,.fad 1 (.t uR),none,15⟩,⟨some uT,.ld false 1 (.t uS),none,31⟩,ah uU 3 k8,⟨some uV,.ld false 1 (.t uU),none,64⟩,δ uW aE,⟨some uX,.iad none 2 (.t uV) (.t uW),none,448⟩,⟨some uY,.fad 1 (.t uX),none,960⟩,⟨some nH,.ld false 1 (.t uY),none,1984⟩,⟨some pz,.bin .neq (.one .str) (.t uT) (.t nH),none,4095⟩]) (.cond (.t pz) (θ [bS k6] .ret) .skip)) (.regd [δ uZ aA,ah u7 3 k7,EM u9 1 u7,δ vc aE,⟨some vh,.iad none 2 (.t u9) (.t vc),none,14⟩,⟨some qs,.fad 0 (.t vh),none,30⟩,⟨some vj,.ld false 1 (.t qs),none,62⟩,ah vu 3 k8,⟨some vw,.ld false 1 (.t vu),none,128⟩,δ nI aE,⟨some vz,.iad none 2 (.t vw) (.t nI),none,896⟩,⟨some vC,.fad 0 (.t vz),none,1920⟩,⟨some vD,.ld false 1 (.t vC),none,3968⟩,⟨some vE,.bld [.s 0 0,.s 0 0] [(0,1,(.t vj)),(1,1,(.t vD))],none,8190⟩,⟨some vF,.bsl 151 [.s 0 0,.s 0 0] 1 [(0,2,(.t vE))],none,16382⟩,⟨some vG,.app 151 2 32 [.s 0 0,.s 0 0] false (.t uZ) (.t vF),none,32767⟩,⟨some aA,.mv (.t vG),none,65535⟩]))) (.reg [δ uN aE,bR uO uN .i64 1,δ aE uO])))
def T4:AC:=.loop (.seq (θ [δ BZ aP,δ B0 aF,aH B1 1 B0,cO B2 BZ B1] (.cond (.t B2) .skip (.exit 4))) (.seq (.block 5 (.seq (.regd [δ B5 aF,δ B6 aP,qv B7 1 B5 B6,Aw B8 1 B7,δ B9 aG,δ Ca aP,Au Cb 1 B9 Ca,H4 Cc 1 Cb,δ Ce aA,⟨some Cf,.cg (.c (.f 32 [] [])) [(.t B8),(.t Cc),(.t Ce)],none,511⟩,⟨some Cg,.un .not (.t Cf),none,1023⟩]) (.cond (.t Cg) (θ [bS k6] .ret) .skip))) (.reg [δ B3 aP,bR B4 B3 .i64 1,δ aP B4])))
def T5:AC:=θ [nK k6] .ret
def T6:AC:=.seq (θ [ah tV 2 k7,ab tW 1 tV,ah tX 2 k8,ab tY 1 tX,Lk tZ tW tY] (.cond (.t tZ) (θ [bS k6] .ret) .skip)) (θ [⟨some rH,.bsl 151 [] 0 [],none,0⟩,δ rI k2,⟨some py,.app 151 2 32 [.s 0 0,.s 0 0] false (.t rH) (.t rI),none,0⟩,δ aA py] (.seq (θ [aB aE .i64 0] (.block 2 TZ)) (θ [δ vH k0,cn vI 87 vH,δ ym k1,cn yn 87 ym,δ aF vI,δ aG yn] (.seq (θ [aB aP .i64 0] (.block 4 T4)) T5))))
def T7:AC:=.seq (θ [ah fU 0 k7,ab fi 1 fU,cP gh fi .i64 3] (.cond (.t gh) (θ [δ fo k2,aH fN 1 fo,fg gV fN .i64 1,δ k9 gV] (.block 0 TY)) .skip)) T6
def f32:AF:=⟨[k0,k1,k2],[.t k6],(θ [bS k6] (θ [δ aT k0,cn aU 86 aT,δ aM k1,cn aV 86 aM,qu k7 69 .i64 0 0 0 0 0,qu k8 69 .i64 0 0 0 0 0,ct 5 k7 aU,ct 5 k8 aV] (.seq (θ [ah bf 0 k7,ab bu 1 bf,ah bn 0 k8,ab bH 1 bn,tf bC bu bH,δ bz bC,eo bJ 1 k7 bz,fc bO 1 bJ bz,eo bP 1 k8 bz,fc bZ 1 bP bz,HW bW bO bZ bz,dV bT bz bW,δ bF bT,eo cC 4 k7 bF,fc cE 1 cC bF,j9 cr 1 cE bF,eo cM 4 k8 bF,fc cJ 1 cM bF,j9 cK 1 cJ bF,yw cu cr cK bF,dV dn bF cu,δ cN dn,eo dt 3 k7 cN,fc dB 1 dt cN,j9 cY 1 dB cN,eo eJ 3 k8 cN,fc eX 1 eJ cN,j9 ff 1 eX cN,yw eQ cY ff cN,dV eS cN eQ] (.cond (.t eS) TU .skip)) T7)))⟩
def f86:AF:=⟨[k0],[.cell k2 true 5],(θ [qu k2 69 .i64 0 0 0 0 0] (θ [δ k3 k0,δ k4 k0,aH k5 1 k4,fg k6 k5 .i64 1,cD k7 5 k3 k6,cm k8 5 k7,ct 5 k2 k8] .ret))⟩
def T8:AC:=.loop (.seq (θ [δ k5 k4,δ k6 k0,cn k7 86 k6,Av k8 4 1 k7,aH k9 1 k8,cO aA k5 k9] (.cond (.t aA) .skip (.exit 0))) (.seq (.block 1 (.reg [δ aG k3,δ aP k0,δ aT k0,cn aU 86 aT,Av aM 4 1 aU,δ aV k4,cD bf 1 aM aV,ab bu 1 bf,dU bn 160 aP bu,⟨some bH,.bsl 23 [.ns] 1 [(0,1,(.t bn))],none,0⟩,⟨some bC,.app 23 1 24 [.ns] false (.t aG) (.t bH),none,0⟩,δ k3 bC])) (.reg [δ aE k4,bR aF aE .i64 1,δ k4 aF])))
def f87:AF:=⟨[k0],[.t k2],(θ [iS k2] (θ [iS k3] (.seq (θ [aB k4 .i64 0] (.block 0 T8)) (θ [δ bz k3,δ k2 bz] .ret))))⟩
def T9:AC:=.loop (.seq (θ [δ bO k8,δ bP k6,δ bZ k7,cD bW 5 bP bZ,ah bT 4 bW,ab bF 1 bT,aH cC 1 bF,cO cE bO cC] (.cond (.t cE) .skip (.exit 2))) (.seq (.block 3 (.regd [δ cJ k6,δ cK k7,qv cu 5 cJ cK,⟨some dn,.fad 4 (.t cu),none,7⟩,⟨some cN,.ld false 1 (.t dn),none,15⟩,δ dt k8,δ dB k6,δ cY k7,⟨some eJ,.iad none 5 (.t dB) (.t cY),none,192⟩,⟨some eX,.fad 4 (.t eJ),none,448⟩,⟨some ff,.ld false 1 (.t eX),none,960⟩,δ eQ k8,⟨some eS,.iad none 1 (.t ff) (.t eQ),none,4032⟩,⟨some fU,.ld false 1 (.t eS),none,8128⟩,δ fi k5,⟨some gh,.bin .sub (.one .bool) (.t fU) (.t fi),none,32704⟩,⟨some fo,.iad none 1 (.t cN) (.t dt),none,65535⟩,⟨none,.st 1 (.t fo) (.t gh),none,131071⟩])) (.reg [δ cr k8,bR cM cr .i64 1,δ k8 cM])))
def Ua:AC:=.loop (.seq (θ [δ bu k7,δ bn k6,aH bH 1 bn,cO bC bu bH] (.cond (.t bC) .skip (.exit 0))) (.seq (.block 1 (θ [aB k8 .i64 0] (.block 2 T9))) (.reg [δ bz k7,bR bJ bz .i64 1,δ k7 bJ])))
def f160:AF:=⟨[k0,k1],[.t k4],(θ [iS k4] (θ [δ k9 k0,cn aA 78 k9,δ aE k1,cD aF 1 aA aE,ab aG 1 aF,δ k5 aG] (θ [δ aP k0,δ aT k5,δ aU k1,bR aM aU .i64 1,⟨some aV,.sli (.sl 5) (.t aP) (some (.t aT)) (some (.t aM)) none,none,0⟩,cn bf 228 aV,δ k6 bf] (.seq (θ [aB k7 .i64 0] (.block 0 Ua)) (θ [δ fN k6,δ k4 fN] .ret)))))⟩
def Ub:AC:=.loop (.seq (θ [δ k6 k4,δ k7 k0,aH k8 1 k7,cO k9 k6 k8] (.cond (.t k9) .skip (.exit 0))) (.seq (.block 1 (θ [δ aF k0,δ aG k4,cD aP 5 aF aG,cm aT 5 aP,qu k5 69 .i64 0 0 0 0 0,ct 5 k5 aT] (θ [ah aU 3 k5,ab aM 1 aU,⟨some aV,.app 40 2 32 [.s 0 0,.s 0 0] false (.c .ns) (.t aM),none,0⟩,ah bf 3 k5,ct 1 bf aV] (θ [ah bu 4 k5,ab bn 1 bu,⟨some bH,.app 3 1 8 [.i .i64 0] false (.c .ns) (.t bn),none,0⟩,ah bC 4 k5,ct 1 bC bH] (.reg [δ bz k3,cm bJ 5 k5,⟨some bO,.bsl 69 [.i .i64 0,.s 0 0,.s 0 0,.ns,.ns] 1 [(0,5,(.t bJ))],none,0⟩,⟨some bP,.app 69 5 88 [.i .i64 0,.s 0 0,.s 0 0,.ns,.ns] false (.t bz) (.t bO),none,0⟩,δ k3 bP]))))) (.reg [δ aA k4,bR aE aA .i64 1,δ k4 aE])))
def f228:AF:=⟨[k0],[.t k2],(θ [iS k2] (θ [iS k3] (.seq (θ [aB k4 .i64 0] (.block 0 Ub)) (θ [δ bZ k3,δ k2 bZ] .ret))))⟩
def f9:AF:=⟨[k0,k1],[.t k4],(θ [bS k4] (θ [δ k5 k0,δ k6 k1,⟨some k7,.cg (.c (.f 33 [] [])) [(.t k5),(.t k6),(.c (.f 34 [] []))],none,0⟩,δ k4 k7] .ret))⟩
def Uc:AC:=.loop (θ [cO aV aM aU] (.seq (.cond (.t aV) .skip (.exit 0)) (.seq (.block 1 (θ [δ bf aM,cD bu 5 aT aM,cm bn 5 bu,qu k8 69 .i64 0 0 0 0 0,δ k7 bf,ct 5 k8 bn] (θ [δ bH k1,δ bC k7,cD bz 5 bH bC,cm bJ 5 bz,qu k9 69 .i64 0 0 0 0 0,ct 5 k9 bJ] (θ [δ bO k2,cm bP 5 k8,cm bZ 5 k9,HX bW bO bP bZ,jJ bT bW] (.cond (.t bT) (θ [bS k6] .ret) .skip))))) (.reg [bR bF aM .i64 1,δ aM bF]))))
def Ud:AC:=θ [nK k6] .ret
def f33:AF:=⟨[k0,k1,k2],[.t k6],(θ [bS k6] (.seq (θ [δ aA k0,aH aE 1 aA,δ aF k1,aH aG 1 aF,tf aP aE aG] (.cond (.t aP) (θ [bS k6] .ret) .skip)) (.seq (θ [δ aT k0,aH aU 1 aT,aB aM .i64 0] (.block 0 Uc)) Ud)))⟩
def f34:AF:=⟨[k0,k1],[.t k4],(θ [dN k2 69 k0,dN k3 69 k1,bS k4] (θ [ah k5 0 k2,ab k6 1 k5,ah k7 0 k3,ab k8 1 k7,EH k9 k6 k8,δ aA k9,iQ aE 1 k2 aA,j8 aF 1 aE aA,iQ aG 1 k3 aA,j8 aP 1 aG aA,Cn aT aF aP aA,fF aU aA aT,δ aM aU,iQ aV 2 k2 aM,j8 bf 1 aV aM,iQ bu 2 k3 aM,j8 bn 1 bu aM,Cn bH bf bn aM,fF bC aM bH,δ bz bC,iQ bJ 3 k2 bz,j8 bO 1 bJ bz,iQ bP 3 k3 bz,j8 bZ 1 bP bz,⟨some bW,.cg (.c (.f 88 [] [])) [(.t bO),(.t bZ)],some (bz,true),0⟩,fF bT bz bW,δ bF bT,iQ cC 4 k2 bF,j8 cE 1 cC bF,iQ cr 4 k3 bF,j8 cM 1 cr bF,⟨some cJ,.cg (.c (.f 89 [] [])) [(.t cE),(.t cM)],some (bF,true),0⟩,fF cK bF cJ,δ k4 cK] .ret))⟩
def Ue:AC:=.loop (θ [cO aP aG aF] (.seq (.cond (.t aP) .skip (.exit 0)) (.seq (.block 1 (θ [δ aT aG,δ k5 aT] (.seq (.regd [δ aU k0,δ aM k5,qv aV 2 aU aM,⟨some bf,.ld true 2 (.t aV),none,7⟩,δ bu k1,δ bn k5,Au bH 2 bu bn,⟨some bC,.ld true 2 (.t bH),none,112⟩,⟨some bz,.bin .neq (.agg [(0,.str),(1,.str)]) (.t bf) (.t bC),none,255⟩]) (.cond (.t bz) (θ [bS k4] .ret) .skip)))) (.reg [bR bJ aG .i64 1,δ aG bJ]))))
def Uf:AC:=θ [nK k4] .ret
def f88:AF:=⟨[k0,k1],[.t k4],(θ [bS k4] (.seq (θ [δ k6 k0,aH k7 1 k6,δ k8 k1,aH k9 1 k8,tf aA k7 k9] (.cond (.t aA) (θ [bS k4] .ret) .skip)) (.seq (θ [δ aE k0,aH aF 1 aE,aB aG .i64 0] (.block 0 Ue)) Uf)))⟩
def Ug:AC:=.loop (θ [cO aP aG aF] (.seq (.cond (.t aP) .skip (.exit 0)) (.seq (.block 1 (θ [δ aT aG,δ k5 aT] (.seq (.regd [δ aU k0,δ aM k5,qv aV 1 aU aM,Aw bf 1 aV,δ bu k1,δ bn k5,Au bH 1 bu bn,H4 bC 1 bH,⟨some bz,.bin .neq (.one .int) (.t bf) (.t bC),none,255⟩]) (.cond (.t bz) (θ [bS k4] .ret) .skip)))) (.reg [bR bJ aG .i64 1,δ aG bJ]))))
def Uh:AC:=θ [nK k4] .ret
def f89:AF:=⟨[k0,k1],[.t k4],(θ [bS k4] (.seq (θ [δ k6 k0,aH k7 1 k6,δ k8 k1,aH k9 1 k8,tf aA k7 k9] (.cond (.t aA) (θ [bS k4] .ret) .skip)) (.seq (θ [δ aE k0,aH aF 1 aE,aB aG .i64 0] (.block 0 Ug)) Uh)))⟩
def Ui:AC:=θ [bS k4] .ret
def Uj:AC:=.loop (.seq (θ [δ kT k8,ah jq 4 k6,ab hZ 1 jq,aH mL 1 hZ,cO oa kT mL] (.cond (.t oa) .skip (.exit 2))) (.seq (.block 3 (.seq (.regd [ah ql 4 k6,rL pR 1 ql,δ qm k8,⟨some pS,.iad none 1 (.t pR) (.t qm),none,7⟩,⟨some qn,.ld false 1 (.t pS),none,15⟩,ah oe 4 k7,⟨some qo,.ld false 1 (.t oe),none,32⟩,δ pT k8,⟨some sg,.iad none 1 (.t qo) (.t pT),none,224⟩,⟨some sh,.ld false 1 (.t sg),none,480⟩,Lg si qn sh]) (.cond (.t si) (θ [bS k4] .ret) .skip))) (.reg [δ oc k8,bR mM oc .i64 1,δ k8 mM])))
def Uk:AC:=.loop (.seq (θ [δ kU k9,ah kB 3 k6,ab sj 1 kB,aH sk 1 sj,cO sn kU sk] (.cond (.t sn) .skip (.exit 4))) (.seq (.block 5 (.seq (.regd [ah qX 3 k6,rL mz 1 qX,δ tT k9,⟨some tU,.iad none 2 (.t mz) (.t tT),none,7⟩,⟨some tV,.ld true 2 (.t tU),none,15⟩,ah tW 3 k7,⟨some tX,.ld false 1 (.t tW),none,32⟩,δ tY k9,⟨some tZ,.iad none 2 (.t tX) (.t tY),none,224⟩,⟨some rH,.ld true 2 (.t tZ),none,480⟩,⟨some rI,.bin .neq (.agg [(0,.str),(1,.str)]) (.t tV) (.t rH),none,1023⟩]) (.cond (.t rI) (θ [bS k4] .ret) .skip))) (.reg [δ so k9,bR qp so .i64 1,δ k9 qp])))
def Ul:AC:=.seq (θ [aB k8 .i64 0] (.block 2 Uj)) (θ [aB k9 .i64 0] (.block 4 Uk))
def Um:AC:=.reg [δ bf k5,bR bu bf .i64 1,δ k5 bu]
def Un:AC:=.seq (θ [δ aT k5,δ aU k0,aH aM 1 aU,cO aV aT aM] (.cond (.t aV) .skip (.exit 0))) (.seq (.block 1 (.seq (.regd [δ bn k0,δ bH k5,qv bC 5 bn bH,⟨some bz,.ld true 5 (.t bC),none,7⟩,δ bJ k1,δ bO k5,Au bP 5 bJ bO,⟨some bZ,.ld true 5 (.t bP),none,112⟩,qu k6 69 .i64 0 0 0 0 0,qu k7 69 .i64 0 0 0 0 0,⟨none,.st 5 (.t k6) (.t bz),none,783⟩,⟨none,.st 5 (.t k7) (.t bZ),none,2047⟩]) (.seq (θ [ah bW 0 k6,ab bT 1 bW,ah bF 0 k7,ab cC 1 bF,tf cE bT cC,δ cr cE,eo cM 1 k6 cr,fc cJ 1 cM cr,eo cK 1 k7 cr,fc cu 1 cK cr,HW dn cJ cu cr,dV cN cr dn,δ dt cN,eo dB 2 k6 dt,fc cY 1 dB dt,eo eJ 2 k7 dt,fc eX 1 eJ dt,HW ff cY eX dt,dV eQ dt ff,δ eS eQ,eo fU 4 k6 eS,fc fi 1 fU eS,j9 gh 1 fi eS,eo fo 4 k7 eS,fc fN 1 fo eS,j9 gV 1 fN eS,yw jo gh gV eS,dV jz eS jo,δ hY jz,eo jY 3 k6 hY,fc jZ 1 jY hY,j9 j0 1 jZ hY,eo iN 3 k7 hY,fc j3 1 iN hY,j9 j4 1 j3 hY,yw j5 j0 j4 hY,dV j6 hY j5] (.cond (.t j6) Ui .skip)) Ul))) Um)
def Uo:AC:=.loop Un
def LB:AC:=θ [nK k4] .ret
def f10:AF:=⟨[k0,k1],[.t k4],(θ [bS k4] (.seq (θ [δ aA k0,aH aE 1 aA,δ aF k1,aH aG 1 aF,tf aP aE aG] (.cond (.t aP) (θ [bS k4] .ret) .skip)) (.seq (θ [aB k5 .i64 0] (.block 0 Uo)) LB)))⟩
structure Cd(C:Nat->Option bN):Prop where
 f3:C 3=some (.go f3)
 f5:C 5=some (.go f5)
 f23:C 23=some (.go f23)
 f24:C 24=some (.go f24)
 f7:C 7=some (.go f7)
 f28:C 28=some (.go f28)
 f29:C 29=some (.go f29)
 f6:C 6=some (.go f6)
 f26:C 26=some (.go f26)
 f38:C 38=some (.go f38)
 f25:C 25=some (.go f25)
 f53:C 53=some (.go f53)
 f131:C 131=some (.go f131)
 f68:C 68=some (.go f68)
 f149:C 149=some (.go f149)
 f212:C 212=some (.go f212)
 f73:C 73=some (.go f73)
 f69:C 69=some (.go f69)
 f104:C 104=some (.go f104)
 f70:C 70=some (.go f70)
 f150:C 150=some (.go f150)
 f213:C 213=some (.go f213)
 f261:C 261=some (.go f261)
 f292:C 292=some (.go f292)
 f214:C 214=some (.go f214)
 f215:C 215=some (.go f215)
 f151:C 151=some (.go f151)
 f191:C 191=some (.go f191)
 f246:C 246=some (.go f246)
 f279:C 279=some (.go f279)
 f169:C 169=some (.go f169)
 f275:C 275=some (.go f275)
 f306:C 306=some (.go f306)
 f322:C 322=some (.go f322)
 f216:C 216=some (.go f216)
 f262:C 262=some (.go f262)
 f217:C 217=some (.go f217)
 f218:C 218=some (.go f218)
 f263:C 263=some (.go f263)
 f293:C 293=some (.go f293)
 f265:C 265=some (.go f265)
 f294:C 294=some (.go f294)
 f295:C 295=some (.go f295)
 f264:C 264=some (.go f264)
 f219:C 219=some (.go f219)
 f220:C 220=some (.go f220)
 f266:C 266=some (.go f266)
 f286:C 286=some (.go f286)
 f314:C 314=some (.go f314)
 f297:C 297=some (.go f297)
 f316:C 316=some (.go f316)
 f296:C 296=some (.go f296)
 f288:C 288=some (.go f288)
 f298:C 298=some (.go f298)
 f287:C 287=some (.go f287)
 f221:C 221=some (.go f221)
 f42:C 42=some (.go f42)
 f100:C 100=some (.go f100)
 f176:C 176=some (.go f176)
 f240:C 240=some (.go f240)
 f96:C 96=some (.go f96)
 f274:C 274=some (.go f274)
 f241:C 241=some (.go f241)
 f242:C 242=some (.go f242)
 f243:C 243=some (.go f243)
 f71:C 71=some (.go f71)
 f95:C 95=some (.go f95)
 f168:C 168=some (.go f168)
 f144:C 144=some (.go f144)
 f208:C 208=some (.go f208)
 f72:C 72=some (.go f72)
 f152:C 152=some (.go f152)
 f74:C 74=some (.go f74)
 f27:C 27=some (.go f27)
 f75:C 75=some (.go f75)
 f153:C 153=some (.go f153)
 f76:C 76=some (.go f76)
 f8:C 8=some (.go f8)
 f31:C 31=some (.go f31)
 f77:C 77=some (.go f77)
 f30:C 30=some (.go f30)
 f78:C 78=some (.go f78)
 f80:C 80=some (.go f80)
 f79:C 79=some (.go f79)
 f81:C 81=some (.go f81)
 f154:C 154=some (.go f154)
 f82:C 82=some (.go f82)
 f155:C 155=some (.go f155)
 f158:C 158=some (.go f158)
 f223:C 223=some (.go f223)
 f267:C 267=some (.go f267)
 f159:C 159=some (.go f159)
 f224:C 224=some (.go f224)
 f227:C 227=some (.go f227)
 f269:C 269=some (.go f269)
 f226:C 226=some (.go f226)
 f268:C 268=some (.go f268)
 f299:C 299=some (.go f299)
 f317:C 317=some (.go f317)
 f318:C 318=some (.go f318)
 f329:C 329=some (.go f329)
 f319:C 319=some (.go f319)
 f300:C 300=some (.go f300)
 f302:C 302=some (.go f302)
 f301:C 301=some (.go f301)
 f320:C 320=some (.go f320)
 f303:C 303=some (.go f303)
 f321:C 321=some (.go f321)
 f225:C 225=some (.go f225)
 f156:C 156=some (.go f156)
 f222:C 222=some (.go f222)
 f83:C 83=some (.go f83)
 f157:C 157=some (.go f157)
 f84:C 84=some (.go f84)
 f85:C 85=some (.go f85)
 f32:C 32=some (.go f32)
 f86:C 86=some (.go f86)
 f87:C 87=some (.go f87)
 f160:C 160=some (.go f160)
 f228:C 228=some (.go f228)
 f9:C 9=some (.go f9)
 f33:C 33=some (.go f33)
 f34:C 34=some (.go f34)
 f88:C 88=some (.go f88)
 f89:C 89=some (.go f89)
 f10:C 10=some (.go f10)
 f232:C 232=some (.pm .wB)
end Go.Ev.X
end
namespace Go.Ev.X
open Go Go.Ev
section
theorem ac2:∀{l m:Nat},m<256 ^ l->bp (bU l m)=m:=by
 intro l
 induction l with
 | zero=>intro m h;simp at h;subst h;rfl
 | succ l ih=>
  intro m h;have h2:m / 256<256 ^ l:=by rw[gI]at h;omega
  show(UInt8.ofNat (m % 256)).toNat+256*bp (bU l (m / 256))=m;rw[ih h2];have:(UInt8.ofNat (m % 256)).toNat=m % 256:=by simp
  omega
theorem ac3{m:Nat}(Bi:sH m=true)(h:128<=m):∀c∈bU (pn m) (sI m),128<=c.toNat:=by
 simp only[sH,fJ,jF,qa,bh,bA]at Bi;have u:∀{a:Nat},128<=a % 256->128<=(UInt8.ofNat a).toNat:=λ{a} h=>by simpa using h
 unfold pn sI;simp only[fJ];have h1:¬ m<128:=by omega
 simp only[h1,decide_false,cond_false];by_cases h2:m<2048
 ·obtain⟨e1,e2⟩:=dg (192+m / 64) (128+m % 64) (by omega);simp only[h2,decide_true,cond_true,bU,e1,e2];intro c hc;simp only[fX,xN,or_false]at hc;rcases hc with rfl | rfl<;>exact u (by omega)
 ·simp only[h2,decide_false,cond_false];by_cases h3:m<65536
  ·obtain⟨e1,e2⟩:=dg (224+m / 4096) (128+m / 64 % 64+256*(128+m % 64)) (by omega);obtain⟨e3,e4⟩:=dg (128+m / 64 % 64) (128+m % 64) (by omega);simp only[h3,decide_true,cond_true,bU,e1,e2,e3,e4];intro c hc;simp only[fX,xN,or_false]at hc;rcases hc with rfl | rfl | rfl<;>exact u (by omega)
  ·obtain⟨e1,e2⟩:=dg (240+m / 262144) (128+m / 4096 % 64+256*(128+m / 64 % 64+256*(128+m % 64))) (by omega);obtain⟨e3,e4⟩:=dg (128+m / 4096 % 64) (128+m / 64 % 64+256*(128+m % 64)) (by omega);obtain⟨e5,e6⟩:=dg (128+m / 64 % 64) (128+m % 64) (by omega);simp only[h3,decide_false,cond_false,bU,e1,e2,e3,e4,e5,e6];intro c hc;simp only[fX,xN,or_false]at hc;rcases hc with rfl | rfl | rfl | rfl<;>exact u (by omega)
theorem ac4(m:Nat):1<=pn m/\pn m<=4:=by unfold pn;simp only[iD];split<;>(try split)<;>(try split)<;>omega
section
variable {C:Nat->Option bN}{E:Env}{h:Hf}{n:K}{q:Env->Hf->K->Prop}{l:List AO}{Δ:Nat}{k:V->Hf->K->Prop}
theorem ac5{x:ax}{ik:IntKind}{m:Nat}(hx:ge E x=some (.i ik (m:Nat)))(Bi:sH m=true)(hk:∀bs:S,1<=bs.length->bs.length<=4->(128<=m->∀c∈bs,128<=c.toNat)->k (X.st bs) h n):SO C (.cv .zF x) E h n k:=by
 have hl:=ac4 m;refine gE (v:=X.st (bU (pn m) (sI m))) (λ_ _ _ _=>rfl) (λT H hT hH=>?_) (hk _ (by rw[rz];omega) (by rw[rz];omega) (ac3 Bi));have e:qR H n .zF (.i ik (.ofNat m))=some (.s (pn m) (sI m),H,n):=by simp only[qR,Bi,cond_true]
 have e2:X.st (bU (pn m) (sI m))=.s (pn m) (sI m):=by unfold X.st;rw[rz,ac2 (Kq Bi).2]
 rw[e2];simp only[simple,hT.ge hx];exact e
theorem ac6{d:K}{x:ax}{ik:IntKind}{m:Nat}(hx:ge E x=some (.i ik (m:Nat)))(Bi:sH m=true)(hk:∀bs:S,1<=bs.length->bs.length<=4->(128<=m->∀c∈bs,128<=c.toNat)->WO C l ((d,X.st bs)::E) h n q):WO C (⟨some d,.cv .zF x,none,Δ⟩::l) E h n q:=df (ac5 hx Bi hk)
end
def ze(c:Nat):S->Nat->Option Nat
 | [],_=>none
 | x::l,i=>if x.toNat=c then some i else ze c l (i+1)
def bI(c:Nat)(s:S):Int:=match ze c s 0 with | some i=>(i:Nat) | none=>-1
theorem ac7(c:Nat):∀(s:S) (i:Nat),BJ c s.length (bp s) i=ze c s i:=by
 intro s
 induction s with
 | nil=>intro i;rfl
 | cons x l ih=>
  intro i;have hx:=x.toNat_lt;have e1:Nat.mod (bp (x::l)) 256=x.toNat:=by show(x.toNat+256*bp l) % 256=_;omega
  have e2:Nat.div (bp (x::l)) 256=bp l:=by show(x.toNat+256*bp l) / 256=_;omega
  show(bif Nat.beq (Nat.mod (bp (x::l)) 256) c then some i else BJ c l.length (Nat.div (bp (x::l)) 256) (i+1))=_
  rw[e1,e2,ih,dD,ze];by_cases h:x.toNat=c<;>simp[h]
theorem LC{c:Nat}:∀{s:S} {i j:Nat},ze c s i=some j->i<=j/\∃h:j - i<s.length,s[j - i].toNat=c/\∀k (hk:k<s.length),k<j - i->s[k].toNat≠c:=by
 intro s
 induction s with
 | nil=>intro i j h;cases h
 | cons x l ih=>
  intro i j h;rw[ze]at h;split at h
  ·rename_i hx;injection h with h;subst h;refine⟨χ _,by simp,?_,λk hk h=>by omega⟩;simpa using hx
  ·rename_i hx;obtain⟨h1,h2,h3,h4⟩:=ih h;have e:j - i=(j - (i+1))+1:=by omega
   refine⟨by omega,by rw[e];simp only[fH];omega,?_,λk hk h=>?_⟩
   ·simp only[e,zy];exact h3
   ·cases k with
    | zero=>simpa using hx
    | succ k=>simp only[zy];exact h4 k (by simpa using hk) (by omega)
theorem ac8{c:Nat}:∀{s:S} {i:Nat},ze c s i=none->∀x∈s,x.toNat≠c:=by
 intro s
 induction s with
 | nil=>intro i h x hx;cases hx
 | cons y l ih=>
  intro i h x hx;rw[ze]at h;split at h
  ·cases h
  ·rename_i hy;rcases fX.1 hx with rfl | hx
   ·exact hy
   ·exact ih h x hx
theorem LD{c:Nat}{s:S}:0<=bI c s↔∃x∈s,x.toNat=c:=by
 unfold bI;cases h:ze c s 0 with
 | none=>simp only;refine⟨λh=>by omega,λ⟨x,hx,e⟩=>absurd e (ac8 h x hx)⟩
 | some j=>
  obtain⟨_,h2,h3,_⟩:=LC h;exact⟨λ_=>⟨_,fW h2,h3⟩,λ_=>by simp only;omega⟩
theorem ac9{c:Nat}{s:S}(h:0<=bI c s):∃j:Nat,bI c s=(j:Nat)/\∃hj:j<s.length,s[j].toNat=c/\∀k (hk:k<s.length),k<j->s[k].toNat≠c:=by
 unfold bI at h ⊢;cases hb:ze c s 0 with
 | none=>rw[hb]at h;simp only at h;omega
 | some j=>obtain⟨_,h2⟩:=LC hb;exact⟨j,rfl,h2⟩
theorem ada{c:Nat}{s:S}(h:¬ ∃x∈s,x.toNat=c):bI c s = -1:=by
 unfold bI;cases hb:ze c s 0 with
 | none=>rfl
 | some j=>obtain⟨_,h2,h3,_⟩:=LC hb;exact absurd ⟨_,fW h2,h3⟩ h
end
end Go.Ev.X
