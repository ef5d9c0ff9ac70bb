/- A part of the proof. -/
import Derived.Test.YtjflaalpkjchoaaGreatDoorProg
import Derived.Test.YtjflaalpkjchoaaGreatDoorA
import Derived.Test.YtjflaalpkjchoaaGreatDoorC
import Derived.Test.YtjflaalpkjchoaaGreatDoorB
set_option linter.all false
namespace Go.Ev.X
open Go Go.Ev
section
structure PR where
 i:Nat
 Δ:Nat
 val:Hf->Prop
structure PB where
 i:Nat
 Δ:Nat
 h:Hf
 h':Hf
def MR:List Rd->List PR->Prop
 | [],[]=>True
 | r::rs,p::P=>(r.i=p.i/\r.Δ=p.Δ/\∀H:Hp,p.val H.get->∃v H' n',simple r.op r.T H .h=some (v,H',n')/\dK v r.v=true)/\MR rs P
 | _,_=>False
def MB:List Bg->List PB->Prop
 | [],[]=>True
 | b::bs,p::B=>(b.i=p.i/\b.Δ=p.Δ/\b.H.get=p.h/\b.H'.get=p.h')/\MB bs B
 | _,_=>False
def gv(h:Hf)(Δ:Nat):Made->Hf
 | []=>h
 | (k,i)::l=>bif Nat.testBit Δ i then gv h Δ l else gv (hp h k none) Δ l
def ke(h h':Hf)(Δ:Nat):Made->Hf
 | []=>h'
 | (k,i)::l=>bif Nat.testBit Δ i then ke h h' Δ l else ke h (hp h' k (h k)) Δ l
def zQ(Δ:Nat):∀(m:Made) (H:Hp),(db H Δ m).get=gv H.get Δ m:=by
 intro m
 induction m with
 | nil=>intro H;rfl
 | cons p m ih=>
  intro H;obtain⟨k,i⟩:=p;simp only[db,gv];cases Nat.testBit Δ i with
  | true=>exact ih H
  | false=>simp only[cond_false];rw[ih,fE]
def IL(Δ:Nat)(H:Hp):∀(m:Made) (H':Hp),(back H H' Δ m).get=ke H.get H'.get Δ m:=by
 intro m
 induction m with
 | nil=>intro H';rfl
 | cons p m ih=>
  intro H';obtain⟨k,i⟩:=p;simp only[back,ke];cases Nat.testBit Δ i with
  | true=>exact ih H'
  | false=>simp only[cond_false];rw[ih,fE]
def pS(m:Made)(p:PR)(b:PB):Prop:=
 bif Nat.testBit p.Δ b.i||Nat.testBit b.Δ p.i then True else p.val (gv b.h p.Δ m)/\p.val (gv b.h' p.Δ m)
def nE(m:Made)(p:PR):List PB->Prop
 | []=>True
 | b::B=>pS m p b/\nE m p B
def AG(m:Made):List PR->List PB->Prop
 | [],_=>True
 | p::P,B=>nE m p B/\AG m P B
def acU{m:Made}:∀{rs:List Rd} {P:List PR} {bs:List Bg} {B:List PB},MR rs P->MB bs B->AG m P B->tV m rs bs=true:=by
 intro rs
 induction rs with
 | nil=>intro P bs B _ _ _;rfl
 | cons r rs ih=>
  intro P bs B e hb a;cases P with
  | nil=>exact e.elim
  | cons p P=>
   obtain⟨⟨h1,h2,f⟩,g⟩:=e;have:=ih g hb a.2;simp only[tV,List.all_cons,aD]at this ⊢;refine⟨?_,this⟩;have key:∀{bs:List Bg} {B:List PB},MB bs B->nE m p B->(bs.all λb=>zB m r b)=true:=by
    intro bs
    induction bs with
    | nil=>intro B _ _;rfl
    | cons b bs j=>
     intro B hb a;cases B with
     | nil=>exact hb.elim
     | cons q B=>
      obtain⟨⟨g1,k,o,s⟩,t⟩:=hb;simp only[List.all_cons,aD];refine⟨?_,j t a.2⟩;have c:=a.1;unfold pS at c;unfold zB;rw[h1,h2,g1,k];cases u:(Nat.testBit p.Δ q.i||Nat.testBit q.Δ p.i) with
      | true=>simp
      | false=>
       rw[u]at c;simp only[cond_false]at c;have rd:∀H:Hp,p.val (db H p.Δ m).get->BF r H m=true:=by intro H hv;obtain⟨v,H',n',w,x⟩:=f _ hv;unfold BF;rw[h2,w];exact x
       rw[rd b.H (by rw[zQ,o];exact c.1),rd b.H' (by rw[zQ,s];exact c.2)];simp
   exact key hb a.1
section
variable (C:Nat->Option aE)
def WD(l:List AO)(i:Nat)(E:Env)(h:Hf)(n:K)(m:Made)(P:List PR)(B:List PB)(Q:Env->Hf->K->Prop):Prop:=
 ∀T H rs bs,Le E T->H.get=h->MR rs P->MB bs B->∃T' H' n' E',(∃f0,∀f,f0<=f->eo (ev C f) l i T H n m rs bs=some ⟨.normal,T',.q,H',n'⟩)/\Le E' T'/\Q E' H'.get n'
end
section
variable {C:Nat->Option aE}{E:Env}{h:Hf}{n:K}{Q:Ex->Env->Hf->K->Prop}{q:Env->Hf->K->Prop}{m:Made}{P:List PR}{B:List PB}{i:Nat}{l:List AO}{d:Option K}{op:A}{Δ:Nat}
def rB(a:WD C l 0 E h n [] [] [] (λE h n=>Q .normal E h n)):WC C (.regd l) E h n Q:=by intro T H b c;obtain⟨T',H',n',E',⟨f0,h1⟩,h2,e⟩:=a T H [] [] b c trivial trivial;exact⟨⟨.normal,T',.q,H',n'⟩,E',eS.step ⟨f0,λf hf=>h1 f hf⟩,h2,e⟩
def eT{b:AC}(a:WD C l 0 E h n [] [] [] (λE h n=>WC C b E h n Q)):WC C (.seq (.regd l) b) E h n Q:=φ (rB a)
def df(a:AG m P B)(b:q E h n):WD C [] i E h n m P B q:=λT H rs bs c e g hb=>by subst e;exact⟨T,H,n,E,⟨0,λf _=>by simp only[eo,acU g hb a,cond_true]⟩,c,b⟩
def gX(c:cls op=.pure)(hs:SO C op E (gv h Δ m) n (λv _ _=>WD C l (i+1) (gR d v E) h n m P B q)):WD C (⟨d,op,none,Δ⟩::l) i E h n m P B q:=by intro T H rs bs a b e hb;obtain⟨v,H',n',⟨f0,h1⟩,h2⟩:=hs T (db H Δ m) a (by rw[zQ,b]);obtain⟨T',pd,g,E',⟨f1,j⟩,k,o⟩:=h2 _ H rs bs (a.gR d v) b e hb;refine⟨T',pd,g,E',⟨max f0 f1,λf hf=>?_⟩,k,o⟩;simp only[eo,want,h1 f (by omega),c];exact j f (by omega)
def QH(c:cls op=.make)(hs:SO C op E (gv h Δ m) n (λv h' n'=>WD C l (i+1) (gR d v E) (ke h h' Δ m) n' ((n,i)::m) P B q)):WD C (⟨d,op,none,Δ⟩::l) i E h n m P B q:=by intro T H rs bs a b e hb;obtain⟨v,H',n',⟨f0,h1⟩,h2⟩:=hs T (db H Δ m) a (by rw[zQ,b]);obtain⟨T',pd,g,E',⟨f1,j⟩,k,o⟩:=h2 _ (back H H' Δ m) rs bs (a.gR d v) (by rw[IL,b]) e hb;refine⟨T',pd,g,E',⟨max f0 f1,λf hf=>?_⟩,k,o⟩;simp only[eo,want,h1 f (by omega),c];exact j f (by omega)
def Ce(c:cls op=.jP)(hs:SO C op E (gv h Δ m) n (λv h' n'=>WD C l (i+1) (gR d v E) (ke h h' Δ m) n' m P (⟨i,Δ,h,ke h h' Δ m⟩::B) q)):WD C (⟨d,op,none,Δ⟩::l) i E h n m P B q:=by intro T H rs bs b a e hb;obtain⟨v,H',n',⟨f0,h1⟩,h2⟩:=hs T (db H Δ m) b (by rw[zQ,a]);obtain⟨T',pd,g,E',⟨f1,j⟩,k,o⟩:=h2 _ (back H H' Δ m) rs (⟨i,Δ,H,back H H' Δ m⟩::bs) (b.gR d v) (by rw[IL,a]) e ⟨⟨rfl,rfl,a,by rw[IL,a]⟩,hb⟩;refine⟨T',pd,g,E',⟨max f0 f1,λf hf=>?_⟩,k,o⟩;simp only[eo,want,h1 f (by omega),c];exact j f (by omega)
def aO{agg:Bool}{sz:Nat}{a:ao}{p v:V}(j:ge E a=some p)(hv:bc (gv h Δ m) agg sz p=some v)(hb:bz n v=true)(o:dK v v=true)
 (r:WD C l (i+1) (gR d v E) h n m (⟨i,Δ,λg=>bc g agg sz p=some v⟩::P) B q):WD C (⟨d,.ld agg sz a,none,Δ⟩::l) i E h n m P B q:=by
 intro T H rs bs b k s t;obtain⟨T',pd,u,E',⟨f1,w⟩,x,y⟩:=r _ H (⟨i,.ld agg sz a,Δ,T,v⟩::rs) bs (b.gR d v) k ⟨⟨rfl,rfl,λH' c=>⟨v,H',.h,by have c:bc H'.get agg sz p=some v:=c;simp only[simple,b.ge j,EP rfl,c,cU],o⟩⟩,s⟩ t;refine⟨T',pd,u,E',⟨f1,λf hf=>?_⟩,x,y⟩;have e:oper (ev C f) (.ld agg sz a) T (db H Δ m) n=some (v,db H Δ m,n):=by
  have:tD (db H Δ m) agg sz p=some v:=by rw[EP (by rw[zQ,k])];exact hv
  simp only[oper,dG,simple,b.ge j,this,cU]
 simp only[eo,want,e,cls,hb,cond_true];exact w f hf
def Cf{z len:Nat}{x:ao}{v:V}{cs:List V}{h0:Hf}{n0:K}(s:ge E x=some v)(a:κ h0 n0 z v len cs)
 (t:WD C l (i+1) (gR d (.i .i64 (len:Nat)) E) h n m (⟨i,Δ,λ_=>True⟩::P) B q):WD C (⟨d,.len 1 x,none,Δ⟩::l) i E h n m P B q:=by
 intro T H rs bs k u w y;have p:∀(H:Hp) (n:K),simple (.len 1 x) T H n=some (.i .i64 (len:Nat),H,n):=by
  intro H n;have e:=k.ge s;obtain⟨h1,h2⟩:=a;cases h2 with
  | inl h=>rw[h.1]at e;simp only[simple,e,h.2];rfl
  | inr h=>
   obtain⟨⟨b,o,c,g,r⟩,_⟩:=h;cases g with
   | inl j=>rw[j.1]at e;simp only[simple,e];rfl
   | inr j=>rw[j]at e;simp only[simple,e];rfl
 have D:dK (.i .i64 (len:Nat)) (.i .i64 (len:Nat))=true:=by simp only[dK,qn];simp
 obtain⟨T',pd,F,E',⟨f1,g⟩,r,G⟩:=t _ H (⟨i,.len 1 x,Δ,T,.i .i64 (len:Nat)⟩::rs) bs (k.gR d _) u ⟨⟨rfl,rfl,λH' I=>⟨_,H',.h,p H' .h,D⟩⟩,w⟩ y;refine⟨T',pd,F,E',⟨f1,λf hf=>?_⟩,r,G⟩;have e:oper (ev C f) (.len 1 x) T (db H Δ m) n=some (.i .i64 (len:Nat),db H Δ m,n):=by simp only[oper,dG,p]
 simp only[eo,want,e,cls,bz,cond_true];exact g f hf
def acV{x:ao}{bs:List UInt8}(c:ge E x=some (st bs))
 (g:WD C l (i+1) (gR d (.i .i64 (bs.length:Nat)) E) h n m (⟨i,Δ,λ_=>True⟩::P) B q):WD C (⟨d,.len 0 x,none,Δ⟩::l) i E h n m P B q:=by
 intro T H rs j a k o p;have b:∀(H:Hp) (n:K),simple (.len 0 x) T H n=some (.i .i64 (bs.length:Nat),H,n):=by intro H n;simp only[simple,a.ge c];rfl
 have r:dK (.i .i64 (bs.length:Nat)) (.i .i64 (bs.length:Nat))=true:=by simp only[dK,qn];simp
 obtain⟨T',pd,s,E',⟨f1,t⟩,u,v⟩:=g _ H (⟨i,.len 0 x,Δ,T,.i .i64 (bs.length:Nat)⟩::rs) j (a.gR d _) k ⟨⟨rfl,rfl,λH' w=>⟨_,H',.h,b H' .h,r⟩⟩,o⟩ p;refine⟨T',pd,s,E',⟨f1,λf hf=>?_⟩,u,v⟩;have e:oper (ev C f) (.len 0 x) T (db H Δ m) n=some (.i .i64 (bs.length:Nat),db H Δ m,n):=by simp only[oper,dG,b]
 simp only[eo,want,e,cls,bz,cond_true];exact t f hf
def cG{g:K}{w x:Bool}(c:lk E g=some (.b x))(e:x=w)(hs:WD C (⟨d,op,none,Δ⟩::l) i E h n m P B q):WD C (⟨d,op,some (g,w),Δ⟩::l) i E h n m P B q:=by intro T H rs bs a j k hb;obtain⟨T',H',n',E',⟨f0,h1⟩,h2,o⟩:=hs T H rs bs a j k hb;refine⟨T',H',n',E',⟨f0,λf hf=>?_⟩,h2,o⟩;have:=h1 f hf;simp only[eo,want,a _ _ c]at this ⊢;subst e;cases x<;>exact this
def eK{g:K}{w x:Bool}(c:lk E g=some (.b x))(e:x=!w)(hs:WD C l (i+1) (gR d (.u []) E) h n m P B q):WD C (⟨d,op,some (g,w),Δ⟩::l) i E h n m P B q:=by intro T H rs bs a j k hb;obtain⟨T',H',n',E',⟨f0,h1⟩,h2,o⟩:=hs _ H rs bs (a.gR d _) j k hb;refine⟨T',H',n',E',⟨f0,λf hf=>?_⟩,h2,o⟩;have:=h1 f hf;subst e;simp only[eo,want,a _ _ c];cases w<;>exact this
def sY{g:K}{w:Bool}(b:lk E g=some (.u []))(hs:WD C l (i+1) (gR d (.u []) E) h n m P B q):WD C (⟨d,op,some (g,w),Δ⟩::l) i E h n m P B q:=by intro T H rs bs a c e hb;obtain⟨T',H',n',E',⟨f0,h1⟩,h2,j⟩:=hs _ H rs bs (a.gR d _) c e hb;refine⟨T',H',n',E',⟨f0,λf hf=>?_⟩,h2,j⟩;have:=h1 f hf;simp only[eo,want,a _ _ b];exact this
def gJ(k:IntKind)(x:Int):dK (.i k x) (.i k x)=true:=by simp only[dK,qn,xE];simp
def acW(x:Bool):dK (.b x) (.b x)=true:=by simp[dK]
def iR(l m:Nat):dK (.s l m) (.s l m)=true:=by simp[dK,dP]
def κ.dL{z:Nat}{v:V}{len:Nat}{cs:List V}(a:κ h n z v len cs):dK v v=true:=by
 obtain⟨h1,h2⟩:=a;cases h2 with
 | inl h=>rw[h.1];rfl
 | inr h=>obtain⟨⟨b,o,c,f,g⟩,_⟩:=h;cases f with | inl e=>rw[e.1];simp[dK,dP,K.beq_refl] | inr e=>rw[e];simp[dK,dP,K.beq_refl]
def QJ{b n:K}(h:b.num<n.num):K.cmp false b n=true:=qw.2 h
def κ.below{z:Nat}{v:V}{len:Nat}{cs:List V}(a:κ h n z v len cs){n':K}(f:n.num<=n'.num):bz n' v=true:=by
 obtain⟨h1,h2⟩:=a;cases h2 with
 | inl h=>rw[h.1];rfl
 | inr h=>
  obtain⟨⟨b,o,c,g,j⟩,_⟩:=h;have:=QJ (eE j f);cases g with | inl e=>rw[e.1];exact this | inr e=>rw[e];exact this
def rC{a:V}{l:List V}(h1:dK a a=true)(h2:lf l l=true):lf (a::l) (a::l)=true:=by simp[lf,h1,h2]
end
end
section
abbrev S:=List UInt8
structure Nd where
 op:Int
 sort:S
 name:S
 vars:List (S×S)
 kids:List Int
def cB(x:Nd)(vv kv:V):List V:=[.i .i64 x.op,st x.sort,st x.name,vv,kv]
def fU:List (S×S)->List V
 | []=>[]
 | (a,b)::l=>st a::st b::fU l
def dX(k:IntKind):List Int->List V
 | []=>[]
 | a::l=>.i k a::dX k l
def Cg(k:IntKind)(l:List Int):(dX k l).length=l.length:=by induction l<;>simp_all [dX]
def IM(l:List (S×S)):(fU l).length=l.length*2:=by
 induction l with
 | nil=>rfl
 | cons a l ih=>simp[fU,ih];omega
def Fh(k:IntKind):∀{l:List Int} {i:Nat} (h:i<l.length),nth (dX k l) i=some (.i k l[i]):=by
 intro l
 induction l with
 | nil=>intro i h;simp at h
 | cons a l ih=>intro i h;cases i with
  | zero=>rfl
  | succ i=>exact ih (by simpa using h)
def acX:∀{l:List (S×S)} {i:Nat} (h:i<l.length),nth (fU l) (i*2)=some (st l[i].1):=by
 intro l
 induction l with
 | nil=>intro i h;simp at h
 | cons a l ih=>intro i h;cases i with
  | zero=>rfl
  | succ i=>
   have:(i+1)*2=i*2+1+1:=by omega
   rw[this];exact ih (by simpa using h)
def acY:∀{l:List (S×S)} {i:Nat} (h:i<l.length),nth (fU l) (i*2+1)=some (st l[i].2):=by
 intro l
 induction l with
 | nil=>intro i h;simp at h
 | cons a l ih=>intro i h;cases i with
  | zero=>rfl
  | succ i=>
   have:(i+1)*2+1=(i*2+1)+1+1:=by omega
   rw[this];exact ih (by simpa using h)
def acZ:∀{l:List (S×S)} {i:Nat} (h:i<l.length),((fU l).drop (i*2)).take 2=[st l[i].1,st l[i].2]:=by
 intro l
 induction l with
 | nil=>intro i h;simp at h
 | cons a l ih=>intro i h;cases i with
  | zero=>rfl
  | succ i=>
   have:(i+1)*2=i*2+1+1:=by omega
   rw[this];exact ih (by simpa using h)
def QK(l:List (S×S))(i j:Nat):((fU l).drop (i*2)).take (j*2)=fU ((l.drop i).take j):=by
 induction i generalizing l with
 | zero=>
  simp only[Nat.zero_mul,ig]
  induction j generalizing l with
  | zero=>simp[fU]
  | succ j ih=>
   cases l with
   | nil=>simp[fU]
   | cons a l=>
    have:(j+1)*2=j*2+1+1:=by omega
    rw[this];simp only[fU,j7,ih]
 | succ i ih=>
  cases l with
  | nil=>simp[fU]
  | cons a l=>
   have:(i+1)*2=i*2+1+1:=by omega
   rw[this];simp only[fU,zu,ih]
def ac0(k:IntKind)(l:List Int)(i j:Nat):((dX k l).drop i).take j=dX k ((l.drop i).take j):=by
 have h:∀l:List Int,dX k l=l.map (.i k ·):=by intro l;induction l<;>simp_all [dX]
 rw[h,h,←List.map_drop,←List.map_take]
def ac1(k:IntKind)(a b:List Int):dX k (a++b)=dX k a++dX k b:=by induction a<;>simp_all [dX]
def QL(a b:List (S×S)):fU (a++b)=fU a++fU b:=by induction a<;>simp_all [fU]
def QM{α:Type}:∀(a b:List α),a.length=b.length->over a b=some a:=by
 intro a
 induction a with
 | nil=>intro b h;cases b with | nil=>rfl | cons x b=>simp at h
 | cons x a ih=>intro b h;cases b with
  | nil=>simp at h
  | cons y b=>simp only[over,ih b (by simpa using h)]
def fh(h:Hf)(n:K)(k:IntKind)(v:V)(l:List Int):Prop:=κ h n 1 v l.length (dX k l)
def dV(h:Hf)(n:K)(v:V)(l:List (S×S)):Prop:=κ h n 2 v l.length (fU l)
structure oE(h:Hf)(n:K)(b:K)(o:Nat)(x:Nd)(vv kv:V):Prop where
 lt:b.num<n.num
 all:bc h true 5 (.p b o)=some (.a (cB x vv kv))
 vars:dV h n vv x.vars
 kids:fh h n .i64 kv x.kids
def bJ:List Nd->List (V×V)->List V
 | x::l,p::m=>cB x p.1 p.2++bJ l m
 | _,_=>[]
def pj:∀{l:List Nd} {m:List (V×V)},m.length=l.length->(bJ l m).length=l.length*5:=by
 intro l
 induction l with
 | nil=>intro m h;cases m<;>simp[bJ]
 | cons x l ih=>intro m h;cases m with
  | nil=>simp at h
  | cons p m=>simp only[bJ,jz,ih (by simpa using h),eh];simp[cB];omega
def we:∀{l:List Nd} {m:List (V×V)} (hm:m.length=l.length) {i:Nat} (h:i<l.length),((bJ l m).drop (i*5)).take 5=cB l[i] (m[i]'(by omega)).1 (m[i]'(by omega)).2:=by
 intro l
 induction l with
 | nil=>intro m hm i h;simp at h
 | cons x l ih=>intro m hm i h;cases m with
  | nil=>simp at hm
  | cons p m=>
   cases i with
   | zero=>simp[bJ,cB]
   | succ i=>
    have:(i+1)*5=5+i*5:=by omega
    rw[this,←List.drop_drop];have a:(bJ (x::l) (p::m)).drop 5=bJ l m:=by simp[bJ,cB]
    rw[a];exact ih (by simpa using hm) (by simpa using h)
def zR:∀{l:List Nd} {m:List (V×V)} (hm:m.length=l.length) (l':List Nd) (a:List (V×V)),bJ (l++l') (m++a)=bJ l m++bJ l' a:=by
 intro l
 induction l with
 | nil=>intro m hm l' a;cases m with | nil=>rfl | cons p m=>simp at hm
 | cons x l ih=>intro m hm l' a;cases m with
  | nil=>simp at hm
  | cons p m=>simp only[j8,bJ,ih (by simpa using hm) l' a,ku]
def bK(h:Hf)(n:K)(v:V)(ts:List Nd):Prop:=
 ∃m:List (V×V),∃hm:m.length=ts.length,κ h n 5 v ts.length (bJ ts m)/\∀i (hi:i<ts.length),dV h n (m[i]'(by omega)).1 ts[i].vars/\fh h n .i64 (m[i]'(by omega)).2 ts[i].kids
section
variable {h h':Hf}{n n':K}
def fh.ext{k:IntKind}{v:V}{l:List Int}(a:fh h n k v l)(e:Ext h n h' n'):fh h' n' k v l:=κ.ext a e
def dV.ext{v:V}{l:List (S×S)}(a:dV h n v l)(e:Ext h n h' n'):dV h' n' v l:=κ.ext a e
def oE.ext{b:K}{o:Nat}{x:Nd}{vv kv:V}(a:oE h n b o x vv kv)(e:Ext h n h' n'):oE h' n' b o x vv kv:=
 ⟨eE a.lt e.1,by rw[e.ld a.lt];exact a.all,a.vars.ext e,a.kids.ext e⟩
def bK.ext{v:V}{ts:List Nd}(a:bK h n v ts)(e:Ext h n h' n'):bK h' n' v ts:=by obtain⟨m,hm,h1,h2⟩:=a;exact⟨m,hm,h1.ext e,λi hi=>⟨(h2 i hi).1.ext e,(h2 i hi).2.ext e⟩⟩
def bK.sl{v:V}{ts:List Nd}(a:bK h n v ts):∃cs,κ h n 5 v ts.length cs:=by obtain⟨m,hm,h1,_⟩:=a;exact⟨_,h1⟩
def bK.node{v:V}{ts:List Nd}(a:bK h n v ts){i:Nat}(hi:i<ts.length):∃vv kv,oE h n v.blk (v.off+i*5) ts[i] vv kv:=by obtain⟨m,hm,h1,h2⟩:=a;refine⟨_,_,h1.xF (by omega),?_,(h2 i hi).1,(h2 i hi).2⟩;rw[h1.jG (by omega) (by omega),we hm hi]
def oF{b:K}{o sz f:Nat}{l:List V}(c:bc h true sz (.p b o)=some (.a l)){j:Nat}{w:V}(d:nth l j=some w):bc h false f (.p b (o+j))=some w:=by
 simp only[bc]at c ⊢;split at c
 ·rename_i row g;simp only[g,cond_false];simp only[cond_true]at c;split at c
  ·rename_i l' hl;cases c;have hj:j<l.length:=by rw[oB]at d;exact(cZ.1 d).1
   obtain⟨e,hle⟩:=nj hl;have:l.length=sz:=by rw[e];simp;omega
   rw[PQ hl (by omega)];exact d
  ·cases c
 ·cases c
def oE.op{b:K}{o:Nat}{x:Nd}{vv kv:V}(a:oE h n b o x vv kv)(sz:Nat):bc h false sz (.p b (o+0))=some (.i .i64 x.op):=oF a.all U
def oE.sort{b:K}{o:Nat}{x:Nd}{vv kv:V}(a:oE h n b o x vv kv)(sz:Nat):bc h false sz (.p b (o+1))=some (st x.sort):=oF a.all U
def oE.name{b:K}{o:Nat}{x:Nd}{vv kv:V}(a:oE h n b o x vv kv)(sz:Nat):bc h false sz (.p b (o+2))=some (st x.name):=oF a.all U
def oE.vs{b:K}{o:Nat}{x:Nd}{vv kv:V}(a:oE h n b o x vv kv)(sz:Nat):bc h false sz (.p b (o+3))=some vv:=oF a.all U
def oE.ks{b:K}{o:Nat}{x:Nd}{vv kv:V}(a:oE h n b o x vv kv)(sz:Nat):bc h false sz (.p b (o+4))=some kv:=oF a.all U
def fh.get{k:IntKind}{v:V}{l:List Int}(a:fh h n k v l){i:Nat}(hi:i<l.length)(sz:Nat):bc h false sz (.p v.blk (v.off+i*1))=some (.i k l[i]):=
 κ.get a (by rw[kp];exact Fh k hi) sz
def dV.jG{v:V}{l:List (S×S)}(a:dV h n v l){i:Nat}(hi:i<l.length):bc h true 2 (.p v.blk (v.off+i*2))=some (.a [st l[i].1,st l[i].2]):=by rw[κ.jG a (by omega) (by omega),acZ hi]
def dV.name{v:V}{l:List (S×S)}(a:dV h n v l){i:Nat}(hi:i<l.length)(sz:Nat):bc h false sz (.p v.blk (v.off+i*2+0))=some (st l[i].1):=oF (a.jG hi) U
def dV.sort{v:V}{l:List (S×S)}(a:dV h n v l){i:Nat}(hi:i<l.length)(sz:Nat):bc h false sz (.p v.blk (v.off+i*2+1))=some (st l[i].2):=oF (a.jG hi) U
end
end
abbrev k0:K:=.h
abbrev k1:K:=.o .h
abbrev k2:K:=.i .h
abbrev k3:K:=.o (.o .h)
abbrev k4:K:=.i k1
abbrev k5:K:=.o k2
abbrev k6:K:=.i k2
abbrev k7:K:=.o k3
abbrev k8:K:=.i k3
abbrev k9:K:=.o k4
abbrev oK:K:=.i k4
abbrev sx:K:=.o k5
abbrev lW:K:=.i k5
abbrev pT:K:=.o k6
abbrev vC:K:=.i k6
abbrev Nj:K:=.o k7
abbrev Nm:K:=.i k7
abbrev yS:K:=.o k8
abbrev vD:K:=.i k8
abbrev sy:K:=.o k9
abbrev G4:K:=.i k9
abbrev G5:K:=.o oK
abbrev Ya:K:=.i oK
abbrev Yb:K:=.o sx
abbrev Nn:K:=.i sx
abbrev Yc:K:=.o lW
abbrev Np:K:=.i pT
abbrev Yd:K:=.o vC
abbrev k31:K:=.o Nj
abbrev IP:K:=.i Nj
abbrev Ye:K:=.o Nm
abbrev Nq:K:=.i Nm
abbrev k40:K:=.i sy
abbrev k41:K:=.o G4
abbrev k42:K:=.i G4
abbrev Yf:K:=.o Ya
abbrev Nr:K:=.o Yc
abbrev Ns:K:=.i Yc
abbrev Nt:K:=.o (.i lW)
abbrev IQ:K:=.i Np
abbrev IU:K:=.o Yd
abbrev IV:K:=.i Yd
abbrev k68:K:=.i Ye
abbrev k69:K:=.o Nq
abbrev k70:K:=.i Nq
abbrev Yg:K:=.i (.i yS)
abbrev IW:K:=.o (.o sy)
abbrev IX:K:=.i (.o sy)
abbrev IY:K:=.o k40
abbrev Yh:K:=.o (.i G5)
abbrev Nu:K:=.i (.i G5)
abbrev Nw:K:=.o Yf
abbrev k92:K:=.i Yf
abbrev k99:K:=.o (.o Nn)
abbrev ac4:K:=.i (.o Nn)
abbrev ac5:K:=.o (.i Nn)
abbrev QN:K:=.i (.o (.o pT))
abbrev ac6:K:=.o (.i (.o pT))
abbrev ac7:K:=.i (.i (.o pT))
abbrev ac8:K:=.o (.o Np)
abbrev ac9:K:=.i (.o Np)
abbrev ada:K:=.o IQ
abbrev adb:K:=.i IQ
abbrev ade:K:=.o IU
abbrev adf:K:=.i IU
abbrev QO:K:=.o IV
abbrev QP:K:=.i IV
abbrev adg:K:=.o (.o (.i vC))
abbrev IZ:K:=.i (.o (.i yS))
abbrev I3:K:=.o Yg
abbrev I4:K:=.i Yg
abbrev adh:K:=.o (.o (.i vD))
abbrev adi:K:=.i (.o (.i vD))
abbrev adj:K:=.o (.i (.i vD))
abbrev QQ:K:=.i (.i k42)
abbrev I5:K:=.o (.o (.o G5))
section
def bA(b:K)(h h':Hf):Prop:=∀k:K,k.num≠b.num->h' k=h k
def Ext.Ξ{h h1 h2:Hf}{n n1 b:K}(a:Ext h n h1 n1)(e:bA b h1 h2)(hb:n.num<=b.num):Ext h n h2 n1:=
 ⟨a.1,λk c=>by rw[e k (by omega),a.2 k c]⟩
def jr(h:Hf)(b:K)(o:Option O):bA b h (hp h b o):=λk a=>mu _ _ (qo a)
def bA.row{h h':Hf}{b k:K}(e:bA b h h')(a:k.num≠b.num):iP h' k=iP h k:=by unfold iP;rw[e k a]
def κ.Ξ{h h':Hf}{n b:K}{z:Nat}{v:V}{len:Nat}{cs:List V}(a:κ h n z v len cs)(e:bA b h h')(hb:v=.ns\/v.blk.num≠b.num):κ h' n z v len cs:=by
 obtain⟨h1,h2⟩:=a;refine⟨h1,h2.imp id λ⟨⟨c,o,d,f,g⟩,row,j,p⟩=>⟨⟨c,o,d,f,g⟩,row,?_,p⟩⟩;cases hb with
 | inl hb=>cases f with
  | inl f=>rw[hb]at f;cases f.1
  | inr f=>rw[hb]at f;cases f
 | inr hb=>rw[e.row hb];exact j
def κ.dT{h:Hf}{n:K}{z:Nat}{v:V}{len:Nat}{cs:List V}(a:κ h n z v len cs):v=.ns\/v.blk.num<n.num:=by
 obtain⟨h1,h2⟩:=a;cases h2 with
 | inl h=>exact Or.inl h.1
 | inr h=>obtain⟨⟨b,o,c,f,d⟩,_⟩:=h;right;cases f with | inl e=>rw[e.1];exact d | inr e=>rw[e];exact d
def cH{h:Hf}{b:K}{l:List V}{e fz:Nat}(a:h b=some (.c l e fz)){o:Nat}{v:V}(hv:nth l o=some v)(sz:Nat):bc h false sz (.p b o)=some v:=by simp only[bc,iP,a,O.row,cond_false];exact hv
def bP{h:Hf}{b:K}{l l':List V}{e fz:Nat}(a:h b=some (.c l e fz)){o sz:Nat}(hv:cw l o sz=some l'):bc h true sz (.p b o)=some (.a l'):=by simp only[bc,iP,a,O.row,cond_true,hv]
def mB{l:List V}{o:Nat}{v:V}{l':List V}(h1:v.cells=[v])(h2:v.one=true)(hp:cJ [v] l o=some l'):lT l 0 o 1 v=some l':=by unfold lT;rw[h1];simp only[aB,h2];exact hp
def jI{E:Env}{h:Hf}{k:K}{agg:Bool}{sz:Nat}{p v:V}(h1:lk E k=some p)(h2:bc h agg sz p=some v):kA [.cell k agg sz] E h=some v:=by simp only[kA,qm,sW,h1,h2]
def Fi{E:Env}{h:Hf}{k k':K}{agg a:Bool}{sz b:Nat}{p v c v':V}(h1:lk E k=some p)(h2:bc h agg sz p=some v)(d:lk E k'=some c)(e:bc h a b c=some v'):
 kA [.cell k agg sz,.cell k' a b] E h=some (.u [v,v']):=by
 simp only[kA,qm,sW,h1,h2,d,e]
section
variable {C:Nat->Option aE}{E:Env}{h:Hf}{n:K}{q:Env->Hf->K->Prop}{m:Made}{P:List PR}{B:List PB}{i:Nat}{l:List AO}{Δ:Nat}{k:V->Hf->K->Prop}
def QT{e:Nat}{zs:List V}(a:∀h' n',n'.num=n.num+1->h' n=some (.c zs e 0)->Ext h n h' n'->k (.p n 0) h' n'):SO C (.new e zs) E h n k:=
 aaP (a _ _ (K.eI n) (eJ _ _ _) ((Ext.refl h n).new _))
def adk{e:Nat}{x:ao}{v:V}{cs:List V}(a:ge E x=some v)(b:v.cells=cs)(d:aB cs=true)(f:∀h' n',n'.num=n.num+1->h' n=some (.c cs e 0)->Ext h n h' n'->k (.p n 0) h' n'):SO C (.box e x) E h n k:=
 aaQ a b d (f _ _ (K.eI n) (eJ _ _ _) ((Ext.refl h n).new _))
def QU{e len:Nat}{zs l:List V}{ps:List (Nat×Nat×ao)}(hl:iQ E zs ps=some l)(a:∀h' n',n'.num=n.num+1->h' n=some (.c l e 0)->Ext h n h' n'->k (.sl n 0 len len) h' n'):SO C (.bsl e zs len ps) E h n k:=
 aaR hl (a _ _ (K.eI n) (eJ _ _ _) ((Ext.refl h n).new _))
def adl{e esz bytes m:Nat}{z:List V}{x y:ao}{i j:IntKind}(a:ge E x=some (.i i (m:Nat)))(b:ge E y=some (.i j (m:Nat)))(hb:m*bytes<=140737488355328)(d:m<=9223372036854775807)
 (f:∀h' n',n'.num=n.num+1->h' n=some (.c (dS z m) e 0)->Ext h n h' n'->k (.sl n 0 m m) h' n'):SO C (.msl e esz bytes z x y) E h n k:=
 aaS a b hb d (f _ _ (K.eI n) (eJ _ _ _) ((Ext.refl h n).new _))
def QV{sz:Nat}{a x:ao}{b:K}{o e fz:Nat}{l l':List V}{v:V}(d:ge E a=some (.p b o))(f:ge E x=some v)(hb:h b=some (.c l e fz))(hl:lT l fz o sz v=some l')
 (g:∀h',h' b=some (.c l' e fz)->bA b h h'->k (.u []) h' n):SO C (.st sz a x) E h n k:=
 aaU d f hb hl (g _ (eJ _ _ _) (jr _ _ _))
def adm{e z bytes m:Nat}{c new:List V}{s x:ao}{v:V}(hs:ge E s=some .ns)(d:ge E x=some v)(a:κ h n z v m new)(h1:m*bytes<=1000000000)(h2:bytes<=100000)(f:m<=1000000000)
 (b:∀v' h' n',dB h' e z v' m new->Ext h n h' n'->(v'=.ns\/n.num<=v'.blk.num/\v'.blk.num<n'.num)->k v' h' n'):SO C (.app e z bytes c false s x) E h n k:=
 aaZ hs d a h1 h2 f
  (λh0=>b .ns h n (by
   have:=a.1;rw[h0]at this ⊢;have:new=[]:=by simpa using this
   rw[this];exact dB.ns h e z) (Ext.refl h n) (Or.inl U))
  (λh0=>b _ _ _ ⟨a.1,Or.inr ⟨h0,n,rfl,eJ _ _ _⟩⟩ ((Ext.refl h n).new _) (Or.inr ⟨ξ _,by rw[K.eI];exact Nat.lt_succ_self _⟩))
def I6{e z bytes m len:Nat}{d new cs:List V}{s x:ao}{o v:V}(hs:ge E s=some o)(c:dB h e z o len cs)(f:ge E x=some v)(a:κ h n z v m new)(h1:(len+m)*bytes<=1000000000)(h2:bytes<=100000)(g:len+m<=1000000000)
 (hm:0<m)(j:aB new=true)(p:o=.ns\/o.blk.num<n.num)
 (r:∀v' h' n',dB h' e z v' (len+m) (cs++new)->v'.blk=n->n'.num=n.num+1->(∀b:K,b.num<n.num->(o=.ns\/b.num≠o.blk.num)->h' b=h b)->k v' h' n'):SO C (.app e z bytes d false s x) E h n k:=
 aa0 hs c f a h1 h2 g hm j (λh' g1 t=>r _ h' _ ⟨by rw[jz,c.1,a.1,ie],Or.inr ⟨by omega,n,rfl,t⟩⟩ rfl (K.eI n) (λb hb u=>g1 b hb (u.imp id λe=>qo e))) p
def cj{d:K}{x y:ao}{c:dR}{ik:IntKind}{a b:Int}(e:ge E x=some (.i ik a))(f:ge E y=some (.i ik b))(g:mJ ik (a+b))(j:WO C l ((d,.i ik (a+b))::E) h n q):WO C (⟨some d,.bin .add c x y,none,Δ⟩::l) E h n q:=bW (Pn e f g j)
def zS{d:K}{x y:ao}{c:dR}{ik:IntKind}{a b:Int}(e:ge E x=some (.i ik a))(f:ge E y=some (.i ik b))(g:mJ ik (a+b))(j:WD C l (i+1) ((d,.i ik (a+b))::E) h n m P B q):WD C (⟨some d,.bin .add c x y,none,Δ⟩::l) i E h n m P B q:=gX U (Pn e f g j)
def pn{d:K}{x y:ao}{c:dR}{ik:IntKind}{a b:Int}(e:ge E x=some (.i ik a))(f:ge E y=some (.i ik b))(g:mJ ik (a - b))(j:WO C l ((d,.i ik (a - b))::E) h n q):WO C (⟨some d,.bin .sub c x y,none,Δ⟩::l) E h n q:=bW (Po e f g j)
def I7{d:K}{x y:ao}{c:dR}{ik:IntKind}{a b:Int}(e:ge E x=some (.i ik a))(f:ge E y=some (.i ik b))(g:mJ ik (a - b))(j:WD C l (i+1) ((d,.i ik (a - b))::E) h n m P B q):WD C (⟨some d,.bin .sub c x y,none,Δ⟩::l) i E h n m P B q:=gX U (Po e f g j)
def adn{d:K}{x y:ao}{c:dR}{ik:IntKind}{a b:Int}(e:ge E x=some (.i ik a))(f:ge E y=some (.i ik b))(g:mJ ik (a*b))(j:WO C l ((d,.i ik (a*b))::E) h n q):WO C (⟨some d,.bin .mul c x y,none,Δ⟩::l) E h n q:=bW (Pp e f g j)
def ado{d:K}{x y:ao}{c:dR}{ik:IntKind}{a b:Int}(e:ge E x=some (.i ik a))(f:ge E y=some (.i ik b))(g:mJ ik (a*b))(j:WD C l (i+1) ((d,.i ik (a*b))::E) h n m P B q):WD C (⟨some d,.bin .mul c x y,none,Δ⟩::l) i E h n m P B q:=gX U (Pp e f g j)
def dD{d:K}{x y:ao}{c:dR}{ik:IntKind}{a b:Int}(e:ge E x=some (.i ik a))(f:ge E y=some (.i ik b))(g:WO C l ((d,.b (decide (a=b)))::E) h n q):WO C (⟨some d,.bin .eql c x y,none,Δ⟩::l) E h n q:=bW (Pu e f g)
def zT{d:K}{x y:ao}{c:dR}{ik:IntKind}{a b:Int}(e:ge E x=some (.i ik a))(f:ge E y=some (.i ik b))(g:WD C l (i+1) ((d,.b (decide (a=b)))::E) h n m P B q):WD C (⟨some d,.bin .eql c x y,none,Δ⟩::l) i E h n m P B q:=gX U (Pu e f g)
def fJ{d:K}{x y:ao}{c:dR}{ik:IntKind}{a b:Int}(e:ge E x=some (.i ik a))(f:ge E y=some (.i ik b))(g:WO C l ((d,.b (!decide (a=b)))::E) h n q):WO C (⟨some d,.bin .neq c x y,none,Δ⟩::l) E h n q:=bW (Pv e f g)
def QW{d:K}{x y:ao}{c:dR}{ik:IntKind}{a b:Int}(e:ge E x=some (.i ik a))(f:ge E y=some (.i ik b))(g:WD C l (i+1) ((d,.b (!decide (a=b)))::E) h n m P B q):WD C (⟨some d,.bin .neq c x y,none,Δ⟩::l) i E h n m P B q:=gX U (Pv e f g)
def aH{d:K}{x y:ao}{c:dR}{ik:IntKind}{a b:Int}(e:ge E x=some (.i ik a))(f:ge E y=some (.i ik b))(g:WO C l ((d,.b (decide (a<b)))::E) h n q):WO C (⟨some d,.bin .lss c x y,none,Δ⟩::l) E h n q:=bW (aaG e f g)
def po{d:K}{x y:ao}{c:dR}{ik:IntKind}{a b:Int}(e:ge E x=some (.i ik a))(f:ge E y=some (.i ik b))(g:WO C l ((d,.b (decide (a<=b)))::E) h n q):WO C (⟨some d,.bin .leq c x y,none,Δ⟩::l) E h n q:=bW (aaH e f g)
def dH{d:K}{x y:ao}{c:dR}{ik:IntKind}{a b:Int}(e:ge E x=some (.i ik a))(f:ge E y=some (.i ik b))(g:WO C l ((d,.b (decide (b<a)))::E) h n q):WO C (⟨some d,.bin .gtr c x y,none,Δ⟩::l) E h n q:=bW (Pw e f g)
def zU{d:K}{x y:ao}{c:dR}{ik:IntKind}{a b:Int}(e:ge E x=some (.i ik a))(f:ge E y=some (.i ik b))(g:WD C l (i+1) ((d,.b (decide (b<a)))::E) h n m P B q):WD C (⟨some d,.bin .gtr c x y,none,Δ⟩::l) i E h n m P B q:=gX U (Pw e f g)
def iC{d:K}{x y:ao}{c:dR}{ik:IntKind}{a b:Int}(e:ge E x=some (.i ik a))(f:ge E y=some (.i ik b))(g:WO C l ((d,.b (decide (b<=a)))::E) h n q):WO C (⟨some d,.bin .geq c x y,none,Δ⟩::l) E h n q:=bW (Px e f g)
def I8{d:K}{x y:ao}{c:dR}{ik:IntKind}{a b:Int}(e:ge E x=some (.i ik a))(f:ge E y=some (.i ik b))(g:WD C l (i+1) ((d,.b (decide (b<=a)))::E) h n m P B q):WD C (⟨some d,.bin .geq c x y,none,Δ⟩::l) i E h n m P B q:=gX U (Px e f g)
def QX{d:K}{x y:ao}{c:dR}{ik:IntKind}{a b:Nat}(e:ge E x=some (.i ik a))(f:ge E y=some (.i ik b))(hb:0<b)(g:mJ ik ((a / b:Nat):Int))(j:WO C l ((d,.i ik ((a / b:Nat):Int))::E) h n q):WO C (⟨some d,.bin .quo c x y,none,Δ⟩::l) E h n q:=bW (Pq e f hb g j)
def QY{d:K}{x y:ao}{c:dR}{ik:IntKind}{a b:Nat}(e:ge E x=some (.i ik a))(f:ge E y=some (.i ik b))(hb:0<b)(g:mJ ik ((a / b:Nat):Int))(j:WD C l (i+1) ((d,.i ik ((a / b:Nat):Int))::E) h n m P B q):WD C (⟨some d,.bin .quo c x y,none,Δ⟩::l) i E h n m P B q:=gX U (Pq e f hb g j)
def QZ{d:K}{x y:ao}{c:dR}{ik:IntKind}{a b:Nat}(e:ge E x=some (.i ik a))(f:ge E y=some (.i ik b))(hb:0<b)(g:WO C l ((d,.i ik ((a % b:Nat):Int))::E) h n q):WO C (⟨some d,.bin .rem c x y,none,Δ⟩::l) E h n q:=bW (Pt e f hb g)
def adp{d:K}{x y:ao}{c:dR}{ik:IntKind}{a b:Nat}(e:ge E x=some (.i ik a))(f:ge E y=some (.i ik b))(hb:0<b)(g:WD C l (i+1) ((d,.i ik ((a % b:Nat):Int))::E) h n m P B q):WD C (⟨some d,.bin .rem c x y,none,Δ⟩::l) i E h n m P B q:=gX U (Pt e f hb g)
def iS{d:K}{x y:ao}{c:dR}{a b:S}(e:ge E x=some (st a))(f:ge E y=some (st b))(g:WO C l ((d,.b (decide (a=b)))::E) h n q):WO C (⟨some d,.bin .eql c x y,none,Δ⟩::l) E h n q:=bW (PD e f g)
def adq{d:K}{x y:ao}{c:dR}{a b:S}(e:ge E x=some (st a))(f:ge E y=some (st b))(g:WD C l (i+1) ((d,.b (decide (a=b)))::E) h n m P B q):WD C (⟨some d,.bin .eql c x y,none,Δ⟩::l) i E h n m P B q:=gX U (PD e f g)
def qy{d:K}{x y:ao}{c:dR}{a b:S}(e:ge E x=some (st a))(f:ge E y=some (st b))(g:WO C l ((d,.b (!decide (a=b)))::E) h n q):WO C (⟨some d,.bin .neq c x y,none,Δ⟩::l) E h n q:=bW (PE e f g)
def adr{d:K}{x y:ao}{c:dR}{a b:S}(e:ge E x=some (st a))(f:ge E y=some (st b))(g:WD C l (i+1) ((d,.b (!decide (a=b)))::E) h n m P B q):WD C (⟨some d,.bin .neq c x y,none,Δ⟩::l) i E h n m P B q:=gX U (PE e f g)
def Q0{d:K}{x y:ao}{c:dR}{a b:S}(e:ge E x=some (st a))(f:ge E y=some (st b))(hl:a.length+b.length<=9223372036854775807)(g:WO C l ((d,st (a++b))::E) h n q):WO C (⟨some d,.bin .add c x y,none,Δ⟩::l) E h n q:=bW (aaK e f hl g)
def Q2{d:K}{x y:ao}{a b:Bool}(c:ge E x=some (.b a))(e:ge E y=some (.b b))(f:WO C l ((d,.b (a==b))::E) h n q):WO C (⟨some d,.bin .eql (.one .bool) x y,none,Δ⟩::l) E h n q:=bW (aaI c e f)
def ads{d:K}{x y:ao}{a b:Bool}(c:ge E x=some (.b a))(e:ge E y=some (.b b))(f:WD C l (i+1) ((d,.b (!(a==b)))::E) h n m P B q):WD C (⟨some d,.bin .neq (.one .bool) x y,none,Δ⟩::l) i E h n m P B q:=gX U (aaJ c e f)
def lE{d:K}{op:BinOp}{x y:ao}{c:dR}{a b v:V}(e:ge E x=some a)(f:ge E y=some b)(hv:mq op c a b=some v)(g:WO C l ((d,v)::E) h n q):WO C (⟨some d,.bin op c x y,none,Δ⟩::l) E h n q:=bW (lB e f hv g)
def γ{d:K}{x:ao}{v:V}(a:ge E x=some v)(b:WO C l ((d,v)::E) h n q):WO C (⟨some d,.mv x,none,Δ⟩::l) E h n q:=bW (Ph a b)
def aI{d:K}{x:ao}{v:V}(a:ge E x=some v)(b:WD C l (i+1) ((d,v)::E) h n m P B q):WD C (⟨some d,.mv x,none,Δ⟩::l) i E h n m P B q:=gX U (Ph a b)
def bh{d:K}{c x y:ao}{b:Bool}{v:V}(a:ge E c=some (.b b))(hb:b=true)(e:ge E x=some v)(f:WO C l ((d,v)::E) h n q):WO C (⟨some d,.pick c x y,none,Δ⟩::l) E h n q:=bW (Pj a hb e f)
def Ch{d:K}{c x y:ao}{b:Bool}{v:V}(a:ge E c=some (.b b))(hb:b=true)(e:ge E x=some v)(f:WD C l (i+1) ((d,v)::E) h n m P B q):WD C (⟨some d,.pick c x y,none,Δ⟩::l) i E h n m P B q:=gX U (Pj a hb e f)
def aW{d:K}{c x y:ao}{b:Bool}{v:V}(a:ge E c=some (.b b))(hb:b=false)(e:ge E y=some v)(f:WO C l ((d,v)::E) h n q):WO C (⟨some d,.pick c x y,none,Δ⟩::l) E h n q:=bW (Pk a hb e f)
def xW{d:K}{c x y:ao}{b:Bool}{v:V}(a:ge E c=some (.b b))(hb:b=false)(e:ge E y=some v)(f:WD C l (i+1) ((d,v)::E) h n m P B q):WD C (⟨some d,.pick c x y,none,Δ⟩::l) i E h n m P B q:=gX U (Pk a hb e f)
def nF{d:K}{x:ao}{j ik:IntKind}{a:Int}(b:ge E x=some (.i ik a))(c:mJ j a)(e:WO C l ((d,.i j a)::E) h n q):WO C (⟨some d,.cv (.toInt j) x,none,Δ⟩::l) E h n q:=bW (Py b c e)
def sZ{d:K}{x:ao}{j ik:IntKind}{a:Int}(b:ge E x=some (.i ik a))(c:mJ j a)(e:WD C l (i+1) ((d,.i j a)::E) h n m P B q):WD C (⟨some d,.cv (.toInt j) x,none,Δ⟩::l) i E h n m P B q:=gX U (Py b c e)
def cz{d:K}{x:ao}{b:Bool}(a:ge E x=some (.b b))(c:WO C l ((d,.b (!b))::E) h n q):WO C (⟨some d,.un .not x,none,Δ⟩::l) E h n q:=bW (Pz a c)
def xX{d:K}{x:ao}{b:Bool}(a:ge E x=some (.b b))(c:WD C l (i+1) ((d,.b (!b))::E) h n m P B q):WD C (⟨some d,.un .not x,none,Δ⟩::l) i E h n m P B q:=gX U (Pz a c)
def zV{d:K}{x y:ao}{ik:IntKind}{s:S}{j:Nat}(a:ge E x=some (st s))(b:ge E y=some (.i ik (j:Nat)))(hj:j<s.length)(c:WO C l ((d,.i .u8 (s[j].toNat:Nat))::E) h n q):WO C (⟨some d,.idx none x y,none,Δ⟩::l) E h n q:=bW (PF a b hj c)
def I9{d:K}{x y:ao}{ik:IntKind}{s:S}{j:Nat}(a:ge E x=some (st s))(b:ge E y=some (.i ik (j:Nat)))(hj:j<s.length)(c:WD C l (i+1) ((d,.i .u8 (s[j].toNat:Nat))::E) h n m P B q):WD C (⟨some d,.idx none x y,none,Δ⟩::l) i E h n m P B q:=gX U (PF a b hj c)
def Ci{d:K}{x:ao}{lo hi:Option ao}{s:S}{a b:Nat}(c:ge E x=some (st s))(e:bd E 0 lo=some a)(f:bd E s.length hi=some b)(h1:a<=b)(h2:b<=s.length)(g:WO C l ((d,st ((s.drop a).take (b - a)))::E) h n q):WO C (⟨some d,.sli .str x lo hi none,none,Δ⟩::l) E h n q:=bW (PG c e f h1 h2 g)
def Ja{d:K}{x:ao}{lo hi:Option ao}{s:S}{a b:Nat}(c:ge E x=some (st s))(e:bd E 0 lo=some a)(f:bd E s.length hi=some b)(h1:a<=b)(h2:b<=s.length)(g:WD C l (i+1) ((d,st ((s.drop a).take (b - a)))::E) h n m P B q):WD C (⟨some d,.sli .str x lo hi none,none,Δ⟩::l) i E h n m P B q:=gX U (PG c e f h1 h2 g)
def bU{d:K}{x:ao}{j:Nat}{vs:List V}{v:V}(a:ge E x=some (.u vs))(hv:nth vs j=some v)(b:WO C l ((d,v)::E) h n q):WO C (⟨some d,.ext x j,none,Δ⟩::l) E h n q:=bW (PH a hv b)
def zW{d:K}{x:ao}{j:Nat}{vs:List V}{v:V}(a:ge E x=some (.u vs))(hv:nth vs j=some v)(b:WD C l (i+1) ((d,v)::E) h n m P B q):WD C (⟨some d,.ext x j,none,Δ⟩::l) i E h n m P B q:=gX U (PH a hv b)
def adt{d:K}{x:ao}{o sz:Nat}{vs:List V}{v:V}(b:ge E x=some (.a vs))(hv:nth vs o=some v)(c:WO C l ((d,v)::E) h n q):WO C (⟨some d,.fld false o sz x,none,Δ⟩::l) E h n q:=bW (aaM b hv c)
def px{d:K}{zs vs:List V}{ps:List (Nat×Nat×ao)}(hl:iQ E zs ps=some vs)(b:WO C l ((d,.a vs)::E) h n q):WO C (⟨some d,.bld zs ps,none,Δ⟩::l) E h n q:=bW (PI hl b)
def tc{d:K}{zs vs:List V}{ps:List (Nat×Nat×ao)}(hl:iQ E zs ps=some vs)(b:WD C l (i+1) ((d,.a vs)::E) h n m P B q):WD C (⟨some d,.bld zs ps,none,Δ⟩::l) i E h n m P B q:=gX U (PI hl b)
def rD{d:K}{f:Nat}{x y:List ao}{vs ws:List V}(a:sc E x=some vs)(b:sc E y=some ws)(c:WO C l ((d,.f f vs ws)::E) h n q):WO C (⟨some d,.mfn f x y,none,Δ⟩::l) E h n q:=bW (PJ a b c)
def adu{d:K}{f:Nat}{x y:List ao}{vs ws:List V}(a:sc E x=some vs)(b:sc E y=some ws)(c:WD C l (i+1) ((d,.f f vs ws)::E) h n m P B q):WD C (⟨some d,.mfn f x y,none,Δ⟩::l) i E h n m P B q:=gX U (PJ a b c)
def Fj{d:K}{x:ao}{b:K}{o:Nat}(a:ge E x=some (.p b o))(c:WO C l ((d,.p b o)::E) h n q):WO C (⟨some d,.nck x,none,Δ⟩::l) E h n q:=bW (aaN a c)
def adv{d:K}{x y:ao}{ik:IntKind}{a b:Int}(c:ge E x=some (.i ik a))(e:ge E y=some (.i ik b))(f:WO C l ((d,.i ik (max a b))::E) h n q):WO C (⟨some d,.mm true [x,y],none,Δ⟩::l) E h n q:=bW (PL c e f)
def adw{d:K}{x y:ao}{ik:IntKind}{a b:Int}(c:ge E x=some (.i ik a))(e:ge E y=some (.i ik b))(f:WD C l (i+1) ((d,.i ik (max a b))::E) h n m P B q):WD C (⟨some d,.mm true [x,y],none,Δ⟩::l) i E h n m P B q:=gX U (PL c e f)
def χ{d:K}{off:Nat}{x:ao}{b:K}{o:Nat}(a:ge E x=some (.p b o))(c:WO C l ((d,.p b (o+off))::E) h n q):WO C (⟨some d,.fad off x,none,Δ⟩::l) E h n q:=bW (PN a c)
def cI{d:K}{off:Nat}{x:ao}{b:K}{o:Nat}(a:ge E x=some (.p b o))(c:WD C l (i+1) ((d,.p b (o+off))::E) h n m P B q):WD C (⟨some d,.fad off x,none,Δ⟩::l) i E h n m P B q:=gX U (PN a c)
def du{d:K}{x:ao}{s:S}(a:ge E x=some (st s))(b:WO C l ((d,.i .i64 (s.length:Nat))::E) h n q):WO C (⟨some d,.len 0 x,none,Δ⟩::l) E h n q:=bW (aaL a b)
def aV{d:K}{z:Nat}{x y:ao}{v:V}{len j:Nat}{ik:IntKind}{cs:List V}{h0:Hf}{n0:K}(b:ge E x=some v)(c:ge E y=some (.i ik (j:Nat)))(a:κ h0 n0 z v len cs)(hj:j<len)(e:WO C l ((d,.p v.blk (v.off+j*z))::E) h n q):WO C (⟨some d,.iad none z x y,none,Δ⟩::l) E h n q:=bW (PS b c a hj e)
def js{d:K}{z:Nat}{x y:ao}{v:V}{len j:Nat}{ik:IntKind}{cs:List V}{h0:Hf}{n0:K}(b:ge E x=some v)(c:ge E y=some (.i ik (j:Nat)))(a:κ h0 n0 z v len cs)(hj:j<len)(e:WD C l (i+1) ((d,.p v.blk (v.off+j*z))::E) h n m P B q):WD C (⟨some d,.iad none z x y,none,Δ⟩::l) i E h n m P B q:=gX U (PS b c a hj e)
def aJ{d:K}{z:Nat}{x:ao}{v:V}{len:Nat}{cs:List V}{h0:Hf}{n0:K}(b:ge E x=some v)(a:κ h0 n0 z v len cs)(c:WO C l ((d,.i .i64 (len:Nat))::E) h n q):WO C (⟨some d,.len 1 x,none,Δ⟩::l) E h n q:=bW (aaV b a c)
def ν{d:K}{agg:Bool}{sz:Nat}{x:ao}{p v:V}(a:ge E x=some p)(hv:bc h agg sz p=some v)(b:WO C l ((d,v)::E) h n q):WO C (⟨some d,.ld agg sz x,none,Δ⟩::l) E h n q:=bW (aaT a hv b)
def bN{d:K}{e:Nat}{zs:List V}(a:∀h' n',n'.num=n.num+1->h' n=some (.c zs e 0)->Ext h n h' n'->WO C l ((d,.p n 0)::E) h' n' q):WO C (⟨some d,.new e zs,none,Δ⟩::l) E h n q:=bW (QT a)
def tf{d:K}{e:Nat}{zs:List V}(a:∀h' n',n'.num=n.num+1->h' n=some (.c zs e 0)->Ext (gv h Δ m) n h' n'->WD C l (i+1) ((d,.p n 0)::E) (ke h h' Δ m) n' ((n,i)::m) P B q):WD C (⟨some d,.new e zs,none,Δ⟩::l) i E h n m P B q:=QH U (QT a)
def eL{d:K}{e:Nat}{x:ao}{v:V}{cs:List V}(a:ge E x=some v)(b:v.cells=cs)(f:aB cs=true)(g:∀h' n',n'.num=n.num+1->h' n=some (.c cs e 0)->Ext h n h' n'->WO C l ((d,.p n 0)::E) h' n' q):WO C (⟨some d,.box e x,none,Δ⟩::l) E h n q:=bW (adk a b f g)
def jJ{d:K}{e len:Nat}{zs vs:List V}{ps:List (Nat×Nat×ao)}(hl:iQ E zs ps=some vs)(a:∀h' n',n'.num=n.num+1->h' n=some (.c vs e 0)->Ext h n h' n'->WO C l ((d,.sl n 0 len len)::E) h' n' q):WO C (⟨some d,.bsl e zs len ps,none,Δ⟩::l) E h n q:=bW (QU hl a)
def th{d:K}{e len:Nat}{zs vs:List V}{ps:List (Nat×Nat×ao)}(hl:iQ E zs ps=some vs)(a:∀h' n',n'.num=n.num+1->h' n=some (.c vs e 0)->Ext (gv h Δ m) n h' n'->WD C l (i+1) ((d,.sl n 0 len len)::E) (ke h h' Δ m) n' ((n,i)::m) P B q):WD C (⟨some d,.bsl e zs len ps,none,Δ⟩::l) i E h n m P B q:=QH U (QU hl a)
def xY{d:K}{e esz bytes c:Nat}{z:List V}{x y:ao}{ik a:IntKind}(b:ge E x=some (.i ik (c:Nat)))(f:ge E y=some (.i a (c:Nat)))(hb:c*bytes<=140737488355328)(g:c<=9223372036854775807)(j:∀h' n',n'.num=n.num+1->h' n=some (.c (dS z c) e 0)->Ext h n h' n'->WO C l ((d,.sl n 0 c c)::E) h' n' q):WO C (⟨some d,.msl e esz bytes z x y,none,Δ⟩::l) E h n q:=bW (adl b f hb g j)
def aR{sz:Nat}{a x:ao}{b:K}{o e fz:Nat}{vs ws:List V}{v:V}(d:ge E a=some (.p b o))(f:ge E x=some v)(hb:h b=some (.c vs e fz))(hl:lT vs fz o sz v=some ws)(g:∀h',h' b=some (.c ws e fz)->bA b h h'->WO C l E h' n q):WO C (⟨none,.st sz a x,none,Δ⟩::l) E h n q:=bW (QV d f hb hl g)
def fK{sz:Nat}{a x:ao}{b:K}{o e fz:Nat}{vs ws:List V}{v:V}(d:ge E a=some (.p b o))(f:ge E x=some v)(hb:(gv h Δ m) b=some (.c vs e fz))(hl:lT vs fz o sz v=some ws)(g:∀h',h' b=some (.c ws e fz)->bA b (gv h Δ m) h'->WD C l (i+1) E (ke h h' Δ m) n m P (⟨i,Δ,h,ke h h' Δ m⟩::B) q):WD C (⟨none,.st sz a x,none,Δ⟩::l) i E h n m P B q:=Ce U (QV d f hb hl g)
def Q3{d:K}{e z bytes c:Nat}{b new:List V}{s x:ao}{v:V}(hs:ge E s=some .ns)(f:ge E x=some v)(a:κ h n z v c new)(h1:c*bytes<=1000000000)(h2:bytes<=100000)(g:c<=1000000000)(j:∀v' h' n',dB h' e z v' c new->Ext h n h' n'->(v'=.ns\/n.num<=v'.blk.num/\v'.blk.num<n'.num)->WO C l ((d,v')::E) h' n' q):WO C (⟨some d,.app e z bytes b false s x,none,Δ⟩::l) E h n q:=bW (adm hs f a h1 h2 g j)
def uq{d:K}{e z bytes c len:Nat}{f new cs:List V}{s x:ao}{o v:V}(hs:ge E s=some o)(g:dB h e z o len cs)(j:ge E x=some v)(a:κ h n z v c new)(h1:(len+c)*bytes<=1000000000)(h2:bytes<=100000)(p:len+c<=1000000000)(hm:0<c)(r:aB new=true)(t:o=.ns\/o.blk.num<n.num)(u:∀v' h' n',dB h' e z v' (len+c) (cs++new)->v'.blk=n->n'.num=n.num+1->(∀b:K,b.num<n.num->(o=.ns\/b.num≠o.blk.num)->h' b=h b)->WO C l ((d,v')::E) h' n' q):WO C (⟨some d,.app e z bytes f false s x,none,Δ⟩::l) E h n q:=bW (I6 hs g j a h1 h2 p hm r t u)
def adx{d:K}{e z bytes c len:Nat}{f new cs:List V}{s x:ao}{o v:V}(hs:ge E s=some o)(g:dB (gv h Δ m) e z o len cs)(j:ge E x=some v)(a:κ (gv h Δ m) n z v c new)(h1:(len+c)*bytes<=1000000000)(h2:bytes<=100000)(p:len+c<=1000000000)(hm:0<c)(r:aB new=true)(t:o=.ns\/o.blk.num<n.num)(u:∀v' h' n',dB h' e z v' (len+c) (cs++new)->v'.blk=n->n'.num=n.num+1->(∀b:K,b.num<n.num->(o=.ns\/b.num≠o.blk.num)->h' b=gv h Δ m b)->WD C l (i+1) ((d,v')::E) (ke h h' Δ m) n' m P (⟨i,Δ,h,ke h h' Δ m⟩::B) q):WD C (⟨some d,.app e z bytes f false s x,none,Δ⟩::l) i E h n m P B q:=Ce U (I6 hs g j a h1 h2 p hm r t u)
def Fk{d:K}{z:Nat}{x:ao}{lo hi:Option ao}{v:V}{len a b:Nat}{cs:List V}(c:ge E x=some v){n0:K}(s:κ h n0 z v len cs)(e:bd E 0 lo=some a)(f:bd E len hi=some b)(h1:a<=b)(h2:b<=len)
 (g:∀v',κ h n0 z v' (b - a) ((cs.drop (a*z)).take ((b - a)*z))->v'.len=b - a/\v'.blk=v.blk/\(v=.ns->v'=.ns)->WO C l ((d,v')::E) h n q):WO C (⟨some d,.sli (.sl z) x lo hi none,none,Δ⟩::l) E h n q:=bW (PT c s e f h1 h2 g)
def Jb{d:K}{z:Nat}{x:ao}{lo hi:Option ao}{v:V}{len a b:Nat}{cs:List V}(c:ge E x=some v){n0:K}(s:κ (gv h Δ m) n0 z v len cs)(e:bd E 0 lo=some a)(f:bd E len hi=some b)(h1:a<=b)(h2:b<=len)
 (g:∀v',κ (gv h Δ m) n0 z v' (b - a) ((cs.drop (a*z)).take ((b - a)*z))->v'.len=b - a/\v'.blk=v.blk/\(v=.ns->v'=.ns)->WD C l (i+1) ((d,v')::E) h n m P B q):WD C (⟨some d,.sli (.sl z) x lo hi none,none,Δ⟩::l) i E h n m P B q:=gX U (PT c s e f h1 h2 g)
def ady{d:K}{z:Nat}{x hi mx:ao}{v:V}{len:Nat}{cs:List V}{b c:IntKind}(e:ge E x=some v){n0:K}(a:κ h n0 z v len cs)(f:ge E hi=some (.i b (len:Nat)))(g:ge E mx=some (.i c (len:Nat)))
 (j:∀v',κ h n0 z v' len cs->(v'.len=len/\v'.blk=v.blk/\(v=.ns->v'=.ns))->WO C l ((d,v')::E) h n q):WO C (⟨some d,.sli (.sl z) x none (some hi) (some mx),none,Δ⟩::l) E h n q:=bW (aaY e a f g j)
def ah{d:K}{f:ao}{xs:List ao}{a:V}{vs:List V}(hf:ge E f=some a)(hl:sc E xs=some vs)(b:μ C a vs h n (λv h' n'=>WO C l ((d,v)::E) h' n' q)):WO C (⟨some d,.lO f xs,none,Δ⟩::l) E h n q:=bW (PM hf hl b)
def ch{d:K}{f:ao}{xs:List ao}{a:V}{vs:List V}(hf:ge E f=some a)(hl:sc E xs=some vs)(b:μ C a vs (gv h Δ m) n (λv h' n'=>WD C l (i+1) ((d,v)::E) (ke h h' Δ m) n' m P (⟨i,Δ,h,ke h h' Δ m⟩::B) q)):WD C (⟨some d,.lO f xs,none,Δ⟩::l) i E h n m P B q:=Ce U (PM hf hl b)
end
end
section
section
variable {C:Nat->Option aE}{E:Env}{h:Hf}{n:K}
def μ.y{k:K}{vs:List V}{T:Tr V}{E1:Env}{ps:List K}{bZ body:AC}{Q:V->Hf->K->Prop}(d:h k=some (.lp true .normal T ps bZ body))(q:Le E T)(hb:jF ps vs E=some E1)(hl:ps.length=vs.length)
 (s:WC C bZ E1 h n (λex E2 h2 e=>ex=.normal/\h2 k=h k/\WC C body E2 (hp h2 k (some (.lp false .normal T ps bZ body))) e (λex E3 a c=>
  a k=some (.lp false .normal T ps bZ body)/\ex.qj=false/\Q (.b ex.iY) (hp a k (some (.lp ex.iY ex T ps bZ body))) c))):μ C (.y k) vs h n Q:=by
 intro H g;obtain⟨T1,h1,h2⟩:=Pd q hb;obtain⟨r,E2,⟨f0,a⟩,t,i,j,l⟩:=s T1 H h2 g;obtain⟨ex,T2,A,H2,e⟩:=r;simp only at i j l;subst i;obtain⟨r,E3,⟨f1,u⟩,B,m,o,p⟩:=l T2 (H2.put (some (.lp false .normal T ps bZ body)) k) t (fE _ _ _);obtain⟨ex,T3,D,H3,c⟩:=r;simp only at m o p;have v:H.get k=some (.lp true .normal T ps bZ body):=by rw[g];exact d
 have w:H2.get k=some (.lp true .normal T ps bZ body):=by rw[j];exact d
 have x:Nat.beq ps.length vs.length=true:=by rw[hl,dP];simp
 refine⟨.b ex.iY,H3.put (some (.lp ex.iY ex T ps bZ body)) k,c,eS.step ⟨max f0 f1,λf hf=>?_⟩,by rw[fE];exact p⟩;have g1:=a f (by omega);have z:=u f (by omega);simp only[aS,v,h1,x,cond_true,g1,w,z,m,o,cond_false]
def Iter(C:Nat->Option aE)(a:V)(F:Hf->K->Prop)(ys:List (List V)):Prop:=
 ∀(y:V) (I:Nat->Hf->K->Prop) (D:Hf->K->Prop) (h:Hf) (n:K),(∀i h n h' n',I i h n->Ext h n h' n'->I i h' n')->(∀i h n,I i h n->F h n)->(∀i (hi:i<ys.length) h n,I i h n->μ C y ys[i] h n (λv h' n'=>(v=.b true/\I (i+1) h' n')\/(v=.b false/\D h' n')))->I 0 h n->μ C a [y] h n (λv h' n'=>I ys.length h' n'\/D h' n')
def Nx(k:K)(o:Option O)(I:Hf->K->Prop)(D:Ex->Hf->K->Prop):Ex->Env->Hf->K->Prop
 | .normal,_,h,n=>k.num<n.num/\h k=o/\I h n
 | .ret,_,h,n=>k.num<n.num/\h k=o/\D .ret h n
 | .exit i,_,h,n=>k.num<n.num/\h k=o/\D (.exit i) h n
 | .panic _,_,_,_=>False
def tj{f:ao}{l:V}{ps:List K}{bZ body:AC}{Q:Ex->Env->Hf->K->Prop}{F:Hf->K->Prop}{ys:List (List V)}(hf:ge E f=some l)(it:Iter C l F ys)
 (I:Nat->Hf->K->Prop)(D:Ex->Hf->K->Prop)
 (s:∀i h1 n1 h' n',I i h1 n1->Ext h1 n1 h' n'->I i h' n')
 (hB:∀i h1 n1 h',I i h1 n1->bA n h1 h'->I i h' n1)
 (t:∀i h n,I i h n->F h n)
 (hl:∀i (hi:i<ys.length),ps.length=ys[i].length)
 (h0:∀h',bA n h h'->I 0 h' n.succ)
 (u:∀i (hi:i<ys.length) h1 n1 E1,n.num<n1.num->I i h1 n1->jF ps ys[i] E=some E1->WC C bZ E1 h1 n1 (λex E2 h2 m=>ex=.normal/\h2 n=h1 n/\∀c,bA n h2 c->WC C body E2 c m (Nx n (c n) (I (i+1)) D)))
 (w:∀h' n',n.num<n'.num->I ys.length h' n'->Q .normal E h' n')
 (x:∀ex h' n' h2,n.num<n'.num->D ex h' n'->bA n h' h2->Q ex E h2 n'):WC C (.oX f ps bZ body) E h n Q:=by
 intro T H b z;let J:Nat->Hf->K->Prop:=λi h' n'=>n.num<n'.num/\I i h' n'/\h' n=some (.lp true .normal T ps bZ body);let G:Hf->K->Prop:=λh' n'=>n.num<n'.num/\∃ex,(ex.qj=false/\ex.iY=false)/\h' n=some (.lp false ex T ps bZ body)/\∃h2,bA n h2 h'/\D ex h2 n';have key:=it (.y n) J G (hp h n (some (.lp true .normal T ps bZ body))) n.succ
  (λi h n h' n' hj he=>⟨eE hj.1 he.1,s _ _ _ _ _ hj.2.1 he,by rw[he.2 _ hj.1];exact hj.2.2⟩)
  (λi h n hj=>t i h n hj.2.1)
  (λi hi h1 n1 hj=>by
   have A:∃E1,jF ps ys[i] E=some E1:=by
    have:∀(ps:List K) (vs:List V) (E:Env),ps.length=vs.length->∃E1,jF ps vs E=some E1:=by
     intro ps
     induction ps with
     | nil=>intro vs E hl;cases vs with | nil=>exact⟨E,rfl⟩ | cons v vs=>simp at hl
     | cons k ps ih=>intro vs E hl;cases vs with | nil=>simp at hl | cons v vs=>exact ih vs _ (by simpa using hl)
    exact this _ _ _ (hl i hi)
   obtain⟨E1,o⟩:=A;refine μ.y hj.2.2 b o (hl i hi) ?_;refine ER (u i hi h1 n1 E1 hj.1 hj.2.1 o) ?_;intro ex E2 h2 m d;refine⟨d.1,d.2.1,?_⟩;refine ER (d.2.2 _ (jr h2 n _)) ?_;intro ex E3 p N a;rw[eJ]at a;cases ex with
   | normal=>exact⟨a.2.1,rfl,Or.inl ⟨rfl,a.1,hB _ _ _ _ a.2.2 (jr _ _ _),eJ _ _ _⟩⟩
   | ret=>exact⟨a.2.1,rfl,Or.inr ⟨rfl,a.1,.ret,⟨rfl,rfl⟩,eJ _ _ _,p,jr _ _ _,a.2.2⟩⟩
   | exit id=>exact⟨a.2.1,rfl,Or.inr ⟨rfl,a.1,.exit id,⟨rfl,rfl⟩,eJ _ _ _,p,jr _ _ _,a.2.2⟩⟩
   | panic v=>exact a.elim)
  ⟨by rw[K.eI];omega,h0 _ (jr _ _ _),eJ _ _ _⟩
 obtain⟨v,H',n',⟨f0,h1⟩,h2⟩:=key (H.put (some (.lp true .normal T ps bZ body)) n) (by rw[fE,z]);cases h2 with
 | inl h2=>
  obtain⟨g1,e,g⟩:=h2;refine⟨⟨.normal,T,.q,H'.put none n,n'⟩,E,eS.step ⟨f0,λf j=>?_⟩,b,?_⟩
  ·simp only[aS,b.ge hf,h1 f j,g,Ex.qj,cond_false]
  ·simp only[fE];exact w _ _ g1 (hB _ _ _ _ e (jr _ _ _))
 | inr h2=>
  obtain⟨g1,ex,⟨e,g⟩,B,h2,L,M⟩:=h2;refine⟨⟨ex,T,.q,H'.put none n,n'⟩,E,eS.step ⟨f0,λf j=>?_⟩,b,?_⟩
  ·simp only[aS,b.ge hf,h1 f j,B,e,g,Bool.or_self,cond_false]
  ·simp only[fE];exact x _ _ _ _ g1 M (λk r=>by rw[mu _ _ (qo r),L k r])
end
end
section
variable {C:Nat->Option aE}{E:Env}{h:Hf}{n:K}
def Q4(C:Nat->Option aE)(a:V)(b:K)(c0:Option O)(ys:List (List V)):Prop:=
 ∀(y:V) (I:Nat->Hf->K->Prop) (D:Hf->K->Prop) (h:Hf) (n:K),(∀i h n h' n',I i h n->Ext h n h' n'->I i h' n')->(∀i h n h',I i h n->bA b h h'->I i h' n)->b.num<n.num->h b=c0->(∀i (hi:i<ys.length) h n,b.num<n.num->I i h n->μ C y ys[i] h n (λv h' n'=>n.num<=n'.num/\h' b=h b/\((v=.b true/\I (i+1) h' n')\/(v=.b false/\D h' n'))))->I 0 h n->μ C a [y] h n (λv h' n'=>I ys.length h' n'\/D h' n')
def adz(k b:K)(n0:K)(o ob:Option O)(I:Hf->K->Prop)(D:Ex->Hf->K->Prop):Ex->Env->Hf->K->Prop
 | .normal,_,h,n=>n0.num<=n.num/\h k=o/\h b=ob/\I h n
 | .ret,_,h,n=>n0.num<=n.num/\h k=o/\h b=ob/\D .ret h n
 | .exit i,_,h,n=>n0.num<=n.num/\h k=o/\h b=ob/\D (.exit i) h n
 | .panic _,_,_,_=>False
def adA{f:ao}{s:V}{ps:List K}{bZ body:AC}{Q:Ex->Env->Hf->K->Prop}{b:K}{c0:Option O}{ys:List (List V)}(hf:ge E f=some s)(it:Q4 C s b c0 ys)(U:b.num<n.num)(w:h b=c0)
 (I:Nat->Hf->K->Prop)(D:Ex->Hf->K->Prop)
 (x:∀i h1 n1 h' n',I i h1 n1->Ext h1 n1 h' n'->I i h' n')
 (hB:∀i h1 n1 h',I i h1 n1->bA n h1 h'->I i h' n1)
 (z:∀i h1 n1 h',I i h1 n1->bA b h1 h'->I i h' n1)
 (hl:∀i (hi:i<ys.length),ps.length=ys[i].length)
 (h0:∀h',bA n h h'->I 0 h' n.succ)
 (A:∀i (hi:i<ys.length) h1 n1 E1,n.num<n1.num->I i h1 n1->jF ps ys[i] E=some E1->WC C bZ E1 h1 n1 (λex E2 h2 e=>ex=.normal/\n1.num<=e.num/\h2 n=h1 n/\h2 b=h1 b/\∀g,bA n h2 g->WC C body E2 g e (adz n b e (g n) (g b) (I (i+1)) D)))
 (B:∀h' n',n.num<n'.num->I ys.length h' n'->Q .normal E h' n')
 (F:∀ex h' n' h2,n.num<n'.num->D ex h' n'->bA n h' h2->Q ex E h2 n'):WC C (.oX f ps bZ body) E h n Q:=by
 intro T H d L;let J:Nat->Hf->K->Prop:=λi h' n'=>n.num<n'.num/\I i h' n'/\h' n=some (.lp true .normal T ps bZ body);let G:Hf->K->Prop:=λh' n'=>n.num<n'.num/\∃ex,(ex.qj=false/\ex.iY=false)/\h' n=some (.lp false ex T ps bZ body)/\∃h2,bA n h2 h'/\D ex h2 n';have key:=it (.y n) J G (hp h n (some (.lp true .normal T ps bZ body))) n.succ
  (λi h n h' n' hj he=>⟨eE hj.1 he.1,x _ _ _ _ _ hj.2.1 he,by rw[he.2 _ hj.1];exact hj.2.2⟩)
  (λi h1 n1 h' hj he=>⟨hj.1,z _ _ _ _ hj.2.1 he,by rw[he _ (by omega)];exact hj.2.2⟩)
  (by rw[K.eI];omega)
  (by rw[mu _ _ (qo (by omega))];exact w)
  (λi hi h1 n1 W hj=>by
   have M:∃E1,jF ps ys[i] E=some E1:=by
    have:∀(ps:List K) (vs:List V) (E:Env),ps.length=vs.length->∃E1,jF ps vs E=some E1:=by
     intro ps
     induction ps with
     | nil=>intro vs E hl;cases vs with | nil=>exact⟨E,rfl⟩ | cons v vs=>simp at hl
     | cons k ps ih=>intro vs E hl;cases vs with | nil=>simp at hl | cons v vs=>exact ih vs _ (by simpa using hl)
    exact this _ _ _ (hl i hi)
   obtain⟨E1,t⟩:=M;refine μ.y hj.2.2 d t (hl i hi) ?_;refine ER (A i hi h1 n1 E1 hj.1 hj.2.1 t) ?_;intro ex E2 h2 e c;refine⟨c.1,c.2.2.1,?_⟩;have X:=c.2.1;have Y:=hj.1;refine ER (c.2.2.2.2 _ (jr h2 n _)) ?_;intro ex E3 j Z a;have N:∀(o:Option O),hp h2 n o b=h2 b:=λo=>mu _ _ (qo (by omega));have l:∀(o:Option O),hp j n o b=j b:=λo=>mu _ _ (qo (by omega));rw[eJ,N]at a;cases ex with
   | normal=>exact⟨a.2.1,rfl,by have:=a.1;omega,by rw[l,a.2.2.1,c.2.2.2.1],Or.inl ⟨rfl,by have:=a.1;omega,hB _ _ _ _ a.2.2.2 (jr _ _ _),eJ _ _ _⟩⟩
   | ret=>exact⟨a.2.1,rfl,by have:=a.1;omega,by rw[l,a.2.2.1,c.2.2.2.1],Or.inr ⟨rfl,by have:=a.1;omega,.ret,⟨rfl,rfl⟩,eJ _ _ _,j,jr _ _ _,a.2.2.2⟩⟩
   | exit id=>exact⟨a.2.1,rfl,by have:=a.1;omega,by rw[l,a.2.2.1,c.2.2.2.1],Or.inr ⟨rfl,by have:=a.1;omega,.exit id,⟨rfl,rfl⟩,eJ _ _ _,j,jr _ _ _,a.2.2.2⟩⟩
   | panic v=>exact a.elim)
  ⟨by rw[K.eI];omega,h0 _ (jr _ _ _),eJ _ _ _⟩
 obtain⟨v,H',n',⟨f0,h1⟩,h2⟩:=key (H.put (some (.lp true .normal T ps bZ body)) n) (by rw[fE,L]);cases h2 with
 | inl h2=>
  obtain⟨g1,m,p⟩:=h2;refine⟨⟨.normal,T,.q,H'.put none n,n'⟩,E,eS.step ⟨f0,λf r=>?_⟩,d,?_⟩
  ·simp only[aS,d.ge hf,h1 f r,p,Ex.qj,cond_false]
  ·simp only[fE];exact B _ _ g1 (hB _ _ _ _ m (jr _ _ _))
 | inr h2=>
  obtain⟨g1,ex,⟨m,p⟩,P,h2,R,S⟩:=h2;refine⟨⟨ex,T,.q,H'.put none n,n'⟩,E,eS.step ⟨f0,λf r=>?_⟩,d,?_⟩
  ·simp only[aS,d.ge hf,h1 f r,P,m,p,Bool.or_self,cond_false]
  ·simp only[fE];exact F _ _ _ _ g1 S (λk u=>by rw[mu _ _ (qo u),R k u])
end
section
def nC(k:IntKind):List Nat->List V
 | []=>[]
 | a::l=>.i k (a:Nat)::nC k l
section
variable {k:IntKind}
def Je(l:List Nat):(nC k l).length=l.length:=by induction l<;>simp_all [nC]
def Q6(l:List Nat):nC k l=dX k (l.map λ(a:Nat)=>(a:Int)):=by induction l<;>simp_all [nC,dX]
def adB:∀{l:List Nat} {i:Nat} (h:i<l.length),nth (nC k l) i=some (.i k (l[i]:Nat)):=by
 intro l
 induction l with
 | nil=>intro i h;simp at h
 | cons a l ih=>intro i h;cases i with
  | zero=>rfl
  | succ i=>simp only[nC,nth,oV];exact ih (by simpa using h)
def adC(a b:List Nat):nC k (a++b)=nC k a++nC k b:=by induction a<;>simp_all [nC]
def adD(l:List Nat)(i:Nat):(nC k l).take i=nC k (l.take i):=by
 induction l generalizing i with
 | nil=>simp[nC]
 | cons a l ih=>cases i<;>simp_all [nC]
def adE(l:List Nat)(i:Nat):(nC k l).drop i=nC k (l.drop i):=by
 induction l generalizing i with
 | nil=>simp[nC]
 | cons a l ih=>cases i<;>simp_all [nC]
def adF(l:List Nat):aB (nC k l)=true:=by induction l<;>simp_all [nC,aB,V.one]
def adG(x:Nat):∀(l:List Nat) (i:Nat),(nC k l).set i (.i k (x:Nat))=nC k (l.set i x):=by
 intro l
 induction l with
 | nil=>intro i;rfl
 | cons a l ih=>intro i;cases i with
  | zero=>rfl
  | succ i=>simp only[nC,qe,ih]
def Fl(m:Nat):dS [.i k 0] m=nC k (List.replicate m 0):=by
 induction m with
 | zero=>rfl
 | succ m ih=>simp only[dS,ih,xo,nC,j8,List.nil_append];rfl
end
def bB(h:Hf)(n:K)(k:IntKind)(v:V)(l:List Nat):Prop:=κ h n 1 v l.length (nC k l)
section
variable {h h':Hf}{n n':K}{k:IntKind}{v:V}{l:List Nat}
def bB.ext(a:bB h n k v l)(e:Ext h n h' n'):bB h' n' k v l:=κ.ext a e
def bB.get(a:bB h n k v l){i:Nat}(hi:i<l.length)(sz:Nat):bc h false sz (.p v.blk (v.off+i*1))=some (.i k (l[i]:Nat)):=by rw[kp];exact κ.get a (adB hi) sz
def bB.nil:bB h n k .ns []:=κ.ns h n 1
def bB.Ξ{b:K}(a:bB h n k v l)(e:bA b h h')(hb:v=.ns\/v.blk.num≠b.num):bB h' n k v l:=κ.Ξ a e hb
end
def κ.at_{h0 h:Hf}{n0 n:K}{z:Nat}{v:V}{len:Nat}{cs:List V}(a:κ h0 n0 z v len cs)(e:Ext h0 n0 h n):κ h n0 z v len cs:=by
 obtain⟨h1,h2⟩:=a;refine⟨h1,h2.imp id λ⟨⟨b,o,c,d,f⟩,row,g,i⟩=>⟨⟨b,o,c,d,f⟩,row,?_,i⟩⟩;have:v.blk=b:=by cases d with | inl e=>rw[e.1];rfl | inr e=>rw[e];rfl
 rw[e.row (by rw[this];exact f)];exact g
def κ.up{h:Hf}{n0 n:K}{z:Nat}{v:V}{len:Nat}{cs:List V}(a:κ h n0 z v len cs)(e:n0.num<=n.num):κ h n z v len cs:=a.ext ⟨e,λ_ _=>rfl⟩
def bB.at_{h0 h:Hf}{n0 n:K}{k:IntKind}{v:V}{l:List Nat}(a:bB h0 n0 k v l)(e:Ext h0 n0 h n):bB h n0 k v l:=κ.at_ a e
def bB.up{h:Hf}{n0 n:K}{k:IntKind}{v:V}{l:List Nat}(a:bB h n0 k v l)(e:n0.num<=n.num):bB h n k v l:=κ.up a e
def bB.sub{h:Hf}{n0:K}{k:IntKind}{v:V}{l:List Nat}{i j:Nat}(a:κ h n0 1 v (j - i) (((nC k l).drop (i*1)).take ((j - i)*1)))(hj:j<=l.length):bB h n0 k v ((l.drop i).take (j - i)):=by
 rw[kp,kp,adE,adD]at a;unfold bB;have:((l.drop i).take (j - i)).length=j - i:=by simp;omega
 rw[this];exact a
def Jf{v w:V}(hv:v.one=true)(a:w.one=true):aB [v,w]=true:=by simp only[aB,hv,a];rfl
def Fm{α:Type}(v:α):∀{l:List α} {i:Nat},i<l.length->cJ [v] l i=some (l.set i v):=by
 intro l
 induction l with
 | nil=>intro i h;simp at h
 | cons a l ih=>
  intro i h;cases i with
  | zero=>simp[cJ,over]
  | succ i=>simp only[cJ,ih (by simpa using h),qe]
def Fo{k:IntKind}{x:Nat}{l:List Nat}{i:Nat}(hi:i<l.length)(o:Nat)(a:o=i):lT (nC k l) 0 o 1 (.i k (x:Nat))=some (nC k (l.set i x)):=by
 subst a;have:lT (nC k l) 0 o 1 (.i k (x:Nat))=cJ [.i k (x:Nat)] (nC k l) o:=by simp[lT,V.cells,aB,V.one,gk]
 rw[this,Fm _ (by rw[Je];exact hi),adG]
section
variable {C:Nat->Option aE}{E:Env}{h:Hf}{n:K}{q:Env->Hf->K->Prop}{l:List AO}{Δ:Nat}{k:V->Hf->K->Prop}
def adH{e z bytes m len:Nat}{p new cs:List V}{s x:ao}{b:K}{v:V}(hs:ge E s=some (.sl b 0 len len))(g:κ h n z (.sl b 0 len len) len cs)(i:ge E x=some v)(a:κ h n z v m new)(h1:(len+m)*bytes<=1000000000)(h2:bytes<=100000)(r:len+m<=1000000000)
 (j:∀v' h' n',κ h' n' z v' (len+m) (cs++new)->Ext h n h' n'->n'.num<=n.num+1->(v'.blk=b\/v'.blk=n)->k v' h' n'):SO C (.app e z bytes p false s x) E h n k:=
 mz (λ_ _ _ _=>rfl) λT H f d=>by
  have o:(!(Nat.ble (Nat.mul (Nat.add (V.len (.sl b 0 len len)) m) bytes) 1000000000&&Nat.ble bytes 100000&&Nat.ble (Nat.add (V.len (.sl b 0 len len)) m) 1000000000))=false:=room (l:=len) (m:=m) (bytes:=bytes) h1 h2 r;by_cases hm:m=0
  ·subst hm;have t:new=[]:=by have:=a.1;simpa using this
   subst t;have hb:Nat.ble (Nat.add len 0) len=true:=gk (ξ _);have u:Nat.beq 0 0=true:=rfl;refine⟨.sl b 0 len len,H,n,?_,?_⟩
   ·simp only[simple,f.ge hs,f.ge i,a.elems d,cond_false,tT,o,hb,u,cond_true]
   ·rw[d];exact j _ _ _ (by rw[List.append_nil,j6];exact g) (Ext.refl h n) (by omega) (Or.inl U)
  ·have hb:Nat.ble (Nat.add len m) len=false:=by rw[jn];simp<;>omega
   refine⟨.su n 0 (len+m) z,H.put (some (.c (cs++new) e 0)) n,n.succ,?_,?_⟩
   ·simp only[simple,f.ge hs,f.ge i,a.elems d,cond_false,tT,o,hb,g.elems d,jD];rfl
   ·rw[fE,d];have hl:(cs++new).length=(len+m)*z:=by rw[jz,g.1,a.1,ie]
    refine j _ _ _ ⟨hl,Or.inr ⟨⟨n,0,0,Or.inr U,by rw[K.eI];omega⟩,cs++new,?_,kC hl⟩⟩ ((Ext.refl h n).new _) (by rw[K.eI];omega) (Or.inr U);show iP _ n=_;rw[aaO];rfl
def adI{d:K}{e z bytes m len:Nat}{c new cs:List V}{s x:ao}{b:K}{v:V}(hs:ge E s=some (.sl b 0 len len))(f:κ h n z (.sl b 0 len len) len cs)(g:ge E x=some v)(a:κ h n z v m new)(h1:(len+m)*bytes<=1000000000)(h2:bytes<=100000)(i:len+m<=1000000000)
 (j:∀v' h' n',κ h' n' z v' (len+m) (cs++new)->Ext h n h' n'->n'.num<=n.num+1->(v'.blk=b\/v'.blk=n)->WO C l ((d,v')::E) h' n' q):WO C (⟨some d,.app e z bytes c false s x,none,Δ⟩::l) E h n q:=bW (adH hs f g a h1 h2 i j)
def adJ{t:S}(ht:0<t.length):(t[0].toNat<128->rune t.length (aT t)=(t[0].toNat,1))/\(128<=t[0].toNat->128<=(rune t.length (aT t)).1/\(rune t.length (aT t)).1<=1114111/\((rune t.length (aT t)).1<55296\/57344<=(rune t.length (aT t)).1)/\1<=(rune t.length (aT t)).2/\(rune t.length (aT t)).2<=t.length/\∀j (hj:j<t.length),j<(rune t.length (aT t)).2->128<=t[j].toNat):=by
 have i:Nat.mod (aT t) 256=t[0].toNat:=by have:=BV t ht;rw[←this];show _=Nat.mod (Nat.div (aT t) (256 ^ 0)) 256;rw[Nat.pow_zero];show _=Nat.mod (aT t / 1) 256;rw[Nat.div_one]
 have c:∀h:1<t.length,Nat.mod (Nat.div (aT t) 256) 256=t[1].toNat:=λh=>BV t h;have e:∀h:2<t.length,Nat.mod (Nat.div (aT t) 65536) 256=t[2].toNat:=λh=>BV t h;have m:∀h:3<t.length,Nat.mod (Nat.div (aT t) 16777216) 256=t[3].toNat:=λh=>BV t h;have hb:=t[0].toNat_lt;unfold rune;simp only[i];constructor
 ·intro h;simp only[fF,h,decide_true,cond_true]
 ·intro h;have o:Nat.blt t[0].toNat 128=false:=by rw[fF];simp<;>omega
  have one:∀j (hj:j<t.length),j<1->128<=t[j].toNat:=λj hj h1=>by
   have:j=0:=by omega
   subst this;exact h
  have bad:128<=((65533,1):Nat×Nat).1/\((65533,1):Nat×Nat).1<=1114111/\(((65533,1):Nat×Nat).1<55296\/57344<=((65533,1):Nat×Nat).1)/\1<=((65533,1):Nat×Nat).2/\((65533,1):Nat×Nat).2<=t.length/\∀j (hj:j<t.length),j<((65533,1):Nat×Nat).2->128<=t[j].toNat:=⟨by omega,by omega,by omega,by omega,ht,one⟩;simp only[o,cond_false];generalize s:Nat.mod (Nat.div (aT t) 256) 256=b1 at*;generalize u:Nat.mod (Nat.div (aT t) 65536) 256=b2 at*;generalize w:Nat.mod (Nat.div (aT t) 16777216) 256=b3 at*;generalize y:t[0].toNat=z at*;simp only[gU,aD,mX,dP,fF,jn,cC];have p:∀x:Nat,Nat.div x 64=x / 64:=λ_=>rfl;simp only[p];split
  ·rename_i h2;obtain⟨_,a,f⟩:=h2;split
   ·rename_i b;refine⟨b,by omega,by omega,by omega,a,λj hj g=>?_⟩;have:j=0\/j=1:=by omega
    rcases this with rfl | rfl
    ·omega
    ·rw[←c a];omega
   ·exact bad
  ·split
   ·rename_i h2;obtain⟨⟨_,a,f⟩,b,g⟩:=h2;split
    ·rename_i d;refine⟨by omega,by omega,by omega,by omega,b,λj hj r=>?_⟩;have:j=0\/j=1\/j=2:=by omega
     rcases this with rfl | rfl | rfl
     ·omega
     ·rw[←c a];omega
     ·rw[←e b];omega
    ·exact bad
   ·split
    ·rename_i h2;obtain⟨⟨⟨_,a,f⟩,b,g⟩,d,r⟩:=h2;split
     ·rename_i A;refine⟨by omega,by omega,by omega,by omega,d,λj hj B=>?_⟩;have:j=0\/j=1\/j=2\/j=3:=by omega
      rcases this with rfl | rfl | rfl | rfl
      ·omega
      ·rw[←c a];omega
      ·rw[←e b];omega
      ·rw[←m d];omega
     ·exact bad
    ·exact bad
def Fp{d:K}{x:ao}{s:S}(a:ge E x=some (X.st s))(b:∀h' n',n'.num=n.num+1->h' n=some (.it s.length (aT s) 0)->Ext h n h' n'->WO C l ((d,.p n 0)::E) h' n' q):WO C (⟨some d,.DC false x,none,Δ⟩::l) E h n q:=
 bW (zK (λ_ _ _ _=>rfl) (λT H c e=>by simp only[simple,c.ge a]) (b _ _ (K.eI n) (eJ _ _ _) ((Ext.refl h n).new _)))
def zX{d:K}{x:ao}{b:K}{s:S}{pos:Nat}(a:ge E x=some (.p b 0))(hb:h b=some (.it s.length (aT s) pos))(hp:s.length<=pos)(c:WO C l ((d,.u [.b false])::E) h n q):WO C (⟨some d,.HA true x,none,Δ⟩::l) E h n q:=
 bW (fR (λ_ _ _ _=>rfl) (λT H e f=>by
  have g:H.get b=some (.it s.length (aT s) pos):=by rw[f];exact hb
  have:Nat.blt pos s.length=false:=by rw[fF];simp<;>omega
  simp only[simple,e.ge a,g,this,cond_false]) c)
structure Rn(s:S)(pos r w:Nat):Prop where
 lt:pos<s.length
 lo:s[pos].toNat<128->r=s[pos].toNat/\w=1
 hi:128<=s[pos].toNat->128<=r/\r<=1114111/\(r<55296\/57344<=r)
 one:1<=w
 le:pos+w<=s.length
 all:128<=s[pos].toNat->∀j (hj:j<s.length),pos<=j->j<pos+w->128<=s[j].toNat
def Fq{d:K}{x:ao}{b:K}{s:S}{pos:Nat}(f:ge E x=some (.p b 0))(hb:h b=some (.it s.length (aT s) pos))(hp:pos<s.length)
 (g:∀r w h',Rn s pos r w->h' b=some (.it s.length (aT s) (pos+w))->bA b h h'->WO C l ((d,.u [.b true,.i .i64 (pos:Nat),.i .i32 (r:Nat)])::E) h' n q):WO C (⟨some d,.HA true x,none,Δ⟩::l) E h n q:=
 bW (mz (λ_ _ _ _=>rfl) (λT H m c=>by
  have o:H.get b=some (.it s.length (aT s) pos):=by rw[c];exact hb
  have t:Nat.blt pos s.length=true:=by rw[fF];simpa using hp
  have ht:0<(s.drop pos).length:=by simp;omega
  have a:=adJ ht;have y:(s.drop pos)[0]=s[pos]:=by simp
  have hle:(s.drop pos).length=s.length - pos:=by simp
  have z:rune (Nat.sub s.length pos) (Nat.div (aT s) (Nat.pow 256 pos))=rune (s.drop pos).length (aT (s.drop pos)):=by rw[hle];show rune (s.length - pos) (aT s / 256 ^ pos)=_;rw[H7]
  refine⟨_,_,_,by simp only[simple,m.ge f,o,t,cond_true];rfl,?_⟩;rw[fE,c,z];rw[y]at a;refine g _ _ _ ⟨hp,λh=>?_,λh=>?_,?_,?_,λh j hj h1 h2=>?_⟩ (eJ _ _ _) (jr _ _ _)
  ·rw[a.1 h];exact⟨rfl,rfl⟩
  ·have:=a.2 h;exact⟨this.1,this.2.1,this.2.2.1⟩
  ·by_cases h:s[pos].toNat<128
   ·rw[a.1 h];exact ξ _
   ·exact(a.2 (by omega)).2.2.2.1
  ·by_cases h:s[pos].toNat<128
   ·rw[a.1 h];exact hp
   ·have:=(a.2 (by omega)).2.2.2.2.1;omega
  ·have:=(a.2 h).2.2.2.2.2 (j - pos) (by omega) (by omega);have e:(s.drop pos)[j - pos]'(by omega)=s[j]:=by
    rw[List.getElem_drop];congr 1;omega
   rw[e]at this;exact this))
def nH{d:K}{x y:ao}{e:dR}{ik:IntKind}{a b c:Int}(f:ge E x=some (.i ik a))(g:ge E y=some (.i ik b))(he:a+b=c)(j:mJ ik c)(m:WO C l ((d,.i ik c)::E) h n q):WO C (⟨some d,.bin .add e x y,none,Δ⟩::l) E h n q:=by subst he;exact cj f g j m
def Fs{m:Made}{P:List PR}{B:List PB}{i:Nat}{d:K}{x y:ao}{e:dR}{ik:IntKind}{a b c:Int}(f:ge E x=some (.i ik a))(g:ge E y=some (.i ik b))(he:a+b=c)(j:mJ ik c)(o:WD C l (i+1) ((d,.i ik c)::E) h n m P B q):WD C (⟨some d,.bin .add e x y,none,Δ⟩::l) i E h n m P B q:=by subst he;exact zS f g j o
def py{d:K}{x y:ao}{e:dR}{ik:IntKind}{a b c:Int}(f:ge E x=some (.i ik a))(g:ge E y=some (.i ik b))(he:a - b=c)(j:mJ ik c)(m:WO C l ((d,.i ik c)::E) h n q):WO C (⟨some d,.bin .sub e x y,none,Δ⟩::l) E h n q:=by subst he;exact pn f g j m
def zY{m:Made}{P:List PR}{B:List PB}{i:Nat}{d:K}{x y:ao}{e:dR}{ik:IntKind}{a b c:Int}(f:ge E x=some (.i ik a))(g:ge E y=some (.i ik b))(he:a - b=c)(j:mJ ik c)(o:WD C l (i+1) ((d,.i ik c)::E) h n m P B q):WD C (⟨some d,.bin .sub e x y,none,Δ⟩::l) i E h n m P B q:=by subst he;exact I7 f g j o
def xZ{d:K}{x y:ao}{e:dR}{ik:IntKind}{a b c:Int}(f:ge E x=some (.i ik a))(g:ge E y=some (.i ik b))(he:a*b=c)(j:mJ ik c)(m:WO C l ((d,.i ik c)::E) h n q):WO C (⟨some d,.bin .mul e x y,none,Δ⟩::l) E h n q:=by subst he;exact adn f g j m
def zZ{m:Made}{P:List PR}{B:List PB}{i:Nat}{d:K}{x y:ao}{e:dR}{ik:IntKind}{a b c:Int}(f:ge E x=some (.i ik a))(g:ge E y=some (.i ik b))(he:a*b=c)(j:mJ ik c)(o:WD C l (i+1) ((d,.i ik c)::E) h n m P B q):WD C (⟨some d,.bin .mul e x y,none,Δ⟩::l) i E h n m P B q:=by subst he;exact ado f g j o
end
end
section
section
variable {C:Nat->Option aE}{E:Env}{h:Hf}{n:K}{q:Env->Hf->K->Prop}{l:List AO}{Δ:Nat}{k:V->Hf->K->Prop}
def adL{m z i o:Nat}{x y:ao}{b:K}{j:IntKind}(c:ge E x=some (.p b o))(d:ge E y=some (.i j (i:Nat)))(hi:i<m)(e:k (.p b (o+i*z)) h n):SO C (.iad (some m) z x y) E h n k:=
 fR (λ_ _ _ _=>rfl) (λT H a r=>by
  have f:aq T y=some (.i j (Int.ofNat i)):=a.ge d;have g:Nat.blt i m=true:=by rw[fF];simpa using hi
  simp only[simple,a.ge c,f,g,cond_true];rfl) e
def uu{d:K}{m z i o:Nat}{x y:ao}{b:K}{j:IntKind}(a:ge E x=some (.p b o))(c:ge E y=some (.i j (i:Nat)))(hi:i<m)(e:WO C l ((d,.p b (o+i*z))::E) h n q):WO C (⟨some d,.iad (some m) z x y,none,Δ⟩::l) E h n q:=bW (adL a c hi e)
def adM{d x:ao}{b:K}{z len e:Nat}{bC cs:List V}{v:V}(r:ge E d=some (.sl b 0 len len))(hb:h b=some (.c bC e 0))(j:bC.length=len*z)(t:ge E x=some v)(a:κ h n z v len cs)(D:aB cs=true)
 (u:∀h',h' b=some (.c cs e 0)->bA b h h'->k (.i .i64 (len:Nat)) h' n):SO C (.yI z d x) E h n k:=
 mz (λ_ _ _ _=>rfl) λT H f g=>by
  have w:H.get b=some (.c bC e 0):=by rw[g];exact hb
  have o:cs.length=len*z:=a.1;have y:elems H z (.sl b 0 len len)=some (len,bC):=by have:cw bC 0 (Nat.mul len z)=some bC:=kC j;simp only[elems,rowAt,w,O.row,this]
  have A:=a.elems g;have J:∀l m,V.sl b 0 len len≠.s l m:=λl m h=>by cases h
  have B:(bif Nat.ble len len then len else len)=len:=by cases Nat.ble len len<;>rfl
  by_cases h0:len=0
  ·subst h0;have F:cs=[]:=by simpa using o
   have G:bC=[]:=by simpa using j
   subst F;subst G;refine⟨.i .i64 0,H,n,?_,by rw[g];exact u h hb (λ_ _=>rfl)⟩;have p:Nat.beq (bif Nat.ble 0 0 then 0 else 0) 0=true:=by rw[B];rfl
   simp only[simple,f.ge r,f.ge t,y,A,p,cond_true]
  ·refine⟨.i .i64 (len:Nat),H.put (some (.c cs e 0)) b,n,?_,by rw[fE,g];exact u _ (eJ _ _ _) (jr _ _ _)⟩;have p:Nat.beq len 0=false:=by rw[dP];simp[h0]
   have ht:takeN (Nat.mul len z) cs=some cs:=by
    have:Nat.mul len z=cs.length:=o.symm;rw[this];have key:∀l:List V,takeN l.length l=some l:=by
     intro l;induction l with
     | nil=>rfl
     | cons a l ih=>simp only[eh,takeN,ih]
    exact key cs
   have I:gq H b 0 cs=some (H.put (some (.c cs e 0)) b):=by
    have hp:cJ cs bC 0=some cs:=by simp only[cJ];exact QM _ _ (o.trans j.symm)
    simp only[gq,w,Nat.ble,D,iX,cond_true,hp]
   simp only[simple,f.ge r,f.ge t,y,A,B,p,cond_false,ht,I];rfl
def Q7{d:K}{f x:ao}{b:K}{z len e:Nat}{bC cs:List V}{v:V}(g:ge E f=some (.sl b 0 len len))(hb:h b=some (.c bC e 0))(j:bC.length=len*z)(m:ge E x=some v)(a:κ h n z v len cs)(o:aB cs=true)
 (p:∀h',h' b=some (.c cs e 0)->bA b h h'->WO C l ((d,.i .i64 (len:Nat))::E) h' n q):WO C (⟨some d,.yI z f x,none,Δ⟩::l) E h n q:=bW (adM g hb j m a o p)
end
end
end Go.Ev.X
section
set_option maxRecDepth 1000000
namespace Go.Ev
def AC.l:AC->AC
 | .seq a _=>a
 | .cond _ a _=>a
 | .block _ a=>a
 | .loop a=>a
 | .scope a=>a
 | .oX _ _ a _=>a
 | .jC _ _ _ a _=>a
 | c=>c
def AC.r:AC->AC
 | .seq _ b=>b
 | .cond _ _ b=>b
 | .oX _ _ _ b=>b
 | c=>c
end Go.Ev
namespace Go.Ev.X
open Go Go.Ev Go.Proofs
def Q8:List (Nat×TI)->Nat->Option TI
 | [],_=>none
 | p::l,t=>bif Nat.beq p.1 t then some p.2 else Q8 l t
def jw:List (Nat×TI):=[(107,⟨.map 9 9,1,8,[.nm]⟩),(111,⟨.slice 39,1,24,[.ns]⟩),(166,⟨.slice 28,1,24,[.ns]⟩),(174,⟨.slice 179,1,24,[.ns]⟩),(179,⟨.arr 2 9,2,32,[.s 0 0,.s 0 0]⟩),(184,⟨.slice 23,1,24,[.ns]⟩),(2,⟨.int .i64,1,8,[.i .i64 0]⟩),(21,⟨.int .i32,1,4,[.i .i32 0]⟩),(23,⟨.slice 35,1,24,[.ns]⟩),(24,⟨.slice 39,1,24,[.ns]⟩),(250,⟨.slice 309,1,24,[.ns]⟩),(252,⟨.jU [(250,0)] true,1,24,[.ns]⟩),(254,⟨.jU [(252,0),(4,1)] true,2,32,[.ns,.b false]⟩),(257,⟨.jU [(254,0),(254,2)] true,4,64,[.ns,.b false,.ns,.b false]⟩),(28,⟨.int .i64,1,8,[.i .i64 0]⟩),(3,⟨.int .i64,1,8,[.i .i64 0]⟩),(309,⟨.int .u32,1,4,[.i .u32 0]⟩),(31,⟨.map 9 4,1,8,[.nm]⟩),(316,⟨.arr 256 4,256,256,[.b false,.b false,.b false,.b false,.b false,.b false,.b false,.b false,.b false,.b false,.b false,.b false,.b false,.b false,.b false,.b false,.b false,.b false,.b false,.b false,.b false,.b false,.b false,.b false,.b false,.b false,.b false,.b false,.b false,.b false,.b false,.b false,.b false,.b false,.b false,.b false,.b false,.b false,.b false,.b false,.b false,.b false,.b false,.b false,.b false,.b false,.b false,.b false,.b false,.b false,.b false,.b false,.b false,.b false,.b false,.b false,.b false,.b false,.b false,.b false,.b false,.b false,.b false,.b false,.b false,.b false,.b false,.b false,.b false,.b false,.b false,.b false,.b false,.b false,.b false,.b false,.b false,.b false,.b false,.b false,.b false,.b false,.b false,.b false,.b false,.b false,.b false,.b false,.b false,.b false,.b false,.b false,.b false,.b false,.b false,.b false,.b false,.b false,.b false,.b false,.b false,.b false,.b false,.b false,.b false,.b false,.b false,.b false,.b false,.b false,.b false,.b false,.b false,.b false,.b false,.b false,.b false,.b false,.b false,.b false,.b false,.b false,.b false,.b false,.b false,.b false,.b false,.b false,.b false,.b false,.b false,.b false,.b false,.b false,.b false,.b false,.b false,.b false,.b false,.b false,.b false,.b false,.b false,.b false,.b false,.b false,.b false,.b false,.b false,.b false,.b false,.b false,.b false,.b false,.b false,.b false,.b false,.b false,.b false,.b false,.b false,.b false,.b false,.b false,.b false,.b false,.b false,.b false,.b false,.b false,.b false,.b false,.b false,.b false,.b false,.b false,.b false,.b false,.b false,.b false,.b false,.b false,.b false,.b false,.b false,.b false,.b false,.b false,.b false,.b false,.b false,.b false,.b false,.b false,.b false,.b false,.b false,.b false,.b false,.b false,.b false,.b false,.b false,.b false,.b false,.b false,.b false,.b false,.b false,.b false,.b false,.b false,.b false,.b false,.b false,.b false,.b false,.b false,.b false,.b false,.b false,.b false,.b false,.b false,.b false,.b false,.b false,.b false,.b false,.b false,.b false,.b false,.b false,.b false,.b false,.b false,.b false,.b false,.b false,.b false,.b false,.b false,.b false,.b false,.b false,.b false,.b false,.b false,.b false,.b false,.b false,.b false,.b false,.b false,.b false,.b false]⟩),(32,⟨.slice 37,1,24,[.ns]⟩),(320,⟨.int .u64,1,8,[.i .u64 0]⟩),(33,⟨.slice 3,1,24,[.ns]⟩),(348,⟨.int .u64,1,8,[.i .u64 0]⟩),(35,⟨.jU [(3,0),(9,1),(9,2),(32,3),(33,4)] true,5,88,[.i .i64 0,.s 0 0,.s 0 0,.ns,.ns]⟩),(37,⟨.jU [(9,0),(9,1)] true,2,32,[.s 0 0,.s 0 0]⟩),(39,⟨.jU [(9,0),(23,1)] true,2,40,[.s 0 0,.ns]⟩),(4,⟨.bool,1,1,[.b false]⟩),(5,⟨.int .u8,1,1,[.i .u8 0]⟩),(9,⟨.str,1,16,[.s 0 0]⟩),(95,⟨.jU [(35,0),(3,5)] true,6,96,[.i .i64 0,.s 0 0,.s 0 0,.ns,.ns,.i .i64 0]⟩),(98,⟨.jU [(9,0),(3,1),(9,2),(96,3)] true,4,48,[.s 0 0,.i .i64 0,.s 0 0,.nf]⟩),(99,⟨.arr 20 98,80,960,[.s 0 0,.i .i64 0,.s 0 0,.nf,.s 0 0,.i .i64 0,.s 0 0,.nf,.s 0 0,.i .i64 0,.s 0 0,.nf,.s 0 0,.i .i64 0,.s 0 0,.nf,.s 0 0,.i .i64 0,.s 0 0,.nf,.s 0 0,.i .i64 0,.s 0 0,.nf,.s 0 0,.i .i64 0,.s 0 0,.nf,.s 0 0,.i .i64 0,.s 0 0,.nf,.s 0 0,.i .i64 0,.s 0 0,.nf,.s 0 0,.i .i64 0,.s 0 0,.nf,.s 0 0,.i .i64 0,.s 0 0,.nf,.s 0 0,.i .i64 0,.s 0 0,.nf,.s 0 0,.i .i64 0,.s 0 0,.nf,.s 0 0,.i .i64 0,.s 0 0,.nf,.s 0 0,.i .i64 0,.s 0 0,.nf,.s 0 0,.i .i64 0,.s 0 0,.nf,.s 0 0,.i .i64 0,.s 0 0,.nf,.s 0 0,.i .i64 0,.s 0 0,.nf,.s 0 0,.i .i64 0,.s 0 0,.nf,.s 0 0,.i .i64 0,.s 0 0,.nf]⟩)]
def Yi:Ty:={ i:=Q8 jw,g:=7,b:=229}
def tk(ty:Ty):Code->AC
 | .skip=>.skip
 | .region _ ops draw=>bif draw then .regd (cE ty ops ops.toList (Region.before ops).toList) else .reg (cE ty ops ops.toList [])
 | .seq a b=>.seq (tk ty a) (tk ty b)
 | .cond c a b=>match br ty c with | some c=>.cond c (tk ty a) (tk ty b) | none=>.bad
 | .block id c=>.block id (tk ty c)
 | .loop c=>pe ty (tk ty c) c
 | .rangeFunc f ps a body=>match br ty f with | some f=>.oX f (ps.toList.map bF) (tk ty a) (tk ty body) | none=>.bad
 | .exit id=>.exit id
 | .scope c=>.scope (tk ty c)
 | .label _=>.skip
 | .ret=>.ret
 | _=>.bad
def Jh(ty:Ty)(fn:Func):AF:=⟨(List.range (fn.params.size+fn.nfree)).map bF,(tX ty fn.results.toList).getD [],match fn.body with | some c=>tk ty c | none=>.bad⟩
abbrev lit(f:Func)(p:Σ' a,Jh Yi f=a):AF:=p.1
abbrev gO(C:Nat->Option aE)(g:Nat)(a:AF):Prop:=C g=some (.go a)
def y3:Σ' a,Jh Yi Tryz.f3=a:=by
 refine⟨?a,?h⟩
 rotate_left
 conv=>
  lhs;whnf
  conv=>arg 1;cbv
  conv=>arg 2;cbv
  arg 3;whnf
  conv=>arg 1;cbv
  arg 2;whnf
  conv=>arg 1;cbv
  arg 2;whnf
  conv=>arg 1;cbv
  arg 2;whnf
  conv=>arg 1;cbv
  arg 2;whnf
  conv=>arg 1;cbv
  arg 2;whnf
  conv=>arg 1;cbv
  arg 2;whnf
  conv=>arg 1;cbv
  arg 2;whnf
  conv=>arg 1;cbv
  arg 2;whnf
  conv=>arg 1;cbv
  arg 2;whnf
  conv=>arg 1;cbv
  arg 2;whnf
  conv=>arg 1;cbv
  arg 2;whnf
  conv=>arg 1;cbv
  arg 2;cbv
def f3:AF:=y3.1
def Q9:AC:=f3.body.r.r.r.r.r.l.r.l
def adN:AC:=Q9.l.r.r.l.l.r.r.r.l
def Rc:AC:=f3.body.r.r.r.r.r.r.l.r.l
def Re:AC:=Rc.l.r.r.l.l.r.r.r.l
def adO:AC:=Re.l.r.r.l.l.r.r.r.l
def Rf:AC:=f3.body.r.r.r.r.r.r.r
def Cj:AC:=Rf.r
def Rg:AC:=Cj.r.l.r.l.r.r.l.r.l
def adP:AC:=Rg.l.r.r.l.l.r.r.l
def Rh:AC:=Cj.r.l.r.l.r.r.r.r.r.l
def Ri:AC:=Rh.l
def adQ:AC:=Ri.r.r.r
def Rj:AC:=Cj.r.r
def f6:AF:=lit Tryz.f6 ⟨_,by conv=>lhs;cbv⟩
def Ji:AC:=f6.body.r.r
def Rk:AC:=Ji.l.r.l
def Jj:AC:=Rk.l
def adR:AC:=Jj.r.l.l.r.l
def adS:AC:=Jj.r.r
def Rl:AC:=Ji.r
def f7:AF:=lit Tryz.f7 ⟨_,by conv=>lhs;cbv⟩
def Rm:AC:=f7.body.r.l.r.l
def Jk:AC:=Rm.l
def adT:AC:=Jk.r.r.l.l.r.r.l
def adU:AC:=Jk.r.r.r
def Ro:AC:=f7.body.r.r
def f8:AF:=lit Tryz.f8 ⟨_,by conv=>lhs;cbv⟩
def adV:AC:=f8.body.r.l.r.r.l
def Rp:AC:=f8.body.r.r
def Jl:AC:=Rp.l.r.l.r.l
def adW:AC:=Jl.l.r.l
def Jm:AC:=Jl.r
def adX:AC:=Jm.r.l.r.l
def Jn:AC:=Jm.r.r
def f9:AF:=lit Tryz.f9 ⟨_,by conv=>lhs;cbv⟩
def Rq:AC:=f9.body.r.r.l.r.l
def f10:AF:=lit Tryz.f10 ⟨_,by conv=>lhs;cbv⟩
def Rr:AC:=f10.body.r.r.l.r.l
def Jo:AC:=Rr.l
def Rs:AC:=Jo.r.r.l.l.r.r.r
def Ru:AC:=Rs.r.l
def Jp:AC:=Ru.l
def adY:AC:=Jp.r.r.l.l.r.r
def adZ:AC:=Jp.r.r.r
def ad0:AC:=Jo.r.r.r
def Rv:AC:=f10.body.r.r.r
def f11:AF:=lit Tryz.f11 ⟨_,by conv=>lhs;cbv⟩
def f12:AF:=lit Tryz.f12 ⟨_,by conv=>lhs;cbv⟩
def ad1:AC:=f12.body.r.r.l.r.l
def f13:AF:=lit Tryz.f13 ⟨_,by conv=>lhs;cbv⟩
def ad2:AC:=f13.body.r.r.l.r.l
def ad3:AC:=f13.body.r.r.r
def f28:AF:=lit Tryz.f28 ⟨_,by conv=>lhs;cbv⟩
def f34:AF:=lit Tryz.f34 ⟨_,by conv=>lhs;cbv⟩
def ad4:AC:=f34.body.r.r.l.r.l
def ad5:AC:=f34.body.r.r.r
def f35:AF:=lit Tryz.f35 ⟨_,by conv=>lhs;cbv⟩
def Rw:AC:=f35.body.r.l.r.l
def Jq:AC:=Rw.l
def ad6:AC:=Jq.r.l.l.r.l
def ad7:AC:=Jq.r.r
def Rx:AC:=f35.body.r.r
def f36:AF:=lit Tryz.f36 ⟨_,by conv=>lhs;cbv⟩
def ad8:AC:=f36.body.r.l.r.l
def ad9:AC:=f36.body.r.r
def f37:AF:=lit Tryz.f37 ⟨_,by conv=>lhs;cbv⟩
def f38:AF:=lit Tryz.f38 ⟨_,by conv=>lhs;cbv⟩
def f39:AF:=lit Tryz.f39 ⟨_,by conv=>lhs;cbv⟩
def f40:AF:=lit Tryz.f40 ⟨_,by conv=>lhs;cbv⟩
def aea:AC:=f40.body.r.l.r.l
def aeb:AC:=f40.body.r.r
def f41:AF:=lit Tryz.f41 ⟨_,by conv=>lhs;cbv⟩
def f42:AF:=lit Tryz.f42 ⟨_,by conv=>lhs;cbv⟩
def aec:AC:=f42.body.r.l.r.l
def Ft:AC:=f42.body.r.r
def aed:AC:=Ft.l.r.l
def aee:AC:=Ft.r
def f43:AF:=lit Tryz.f43 ⟨_,by conv=>lhs;cbv⟩
def aef:AC:=f43.body.r.r.r
def f44:AF:=lit Tryz.f44 ⟨_,by conv=>lhs;cbv⟩
def aeg:AC:=f44.body.r.l.l
def aeh:AC:=f44.body.r.r
def f45:AF:=lit Tryz.f45 ⟨_,by conv=>lhs;cbv⟩
def aei:AC:=f45.body.r.r.l.r.l.r.l.l.r.l
def aej:AC:=f45.body.r.r.l.r.l.r.l.r
def f46:AF:=lit Tryz.f46 ⟨_,by conv=>lhs;cbv⟩
def f47:AF:=lit Tryz.f47 ⟨_,by conv=>lhs;cbv⟩
def f48:AF:=lit Tryz.f48 ⟨_,by conv=>lhs;cbv⟩
def aek:AC:=f48.body.r.r.l.r.l
def Jr:AC:=f48.body.r.r.r
def Ry:AC:=Jr.l.r.l
def ael:AC:=Ry.r.l.r.l.r
def Fu:AC:=Jr.r
def aem:AC:=Fu.r.r.l.r.l
def aen:AC:=Fu.r.r.r.l.r.l
def aeo:AC:=Fu.r.r.r.r
def f49:AF:=lit Tryz.f49 ⟨_,by conv=>lhs;cbv⟩
def aep:AC:=f49.body.r.l.r.l
def aer:AC:=f49.body.r.r
def f50:AF:=lit Tryz.f50 ⟨_,by conv=>lhs;cbv⟩
def f51:AF:=lit Tryz.f51 ⟨_,by conv=>lhs;cbv⟩
def f52:AF:=lit Tryz.f52 ⟨_,by conv=>lhs;cbv⟩
def f53:AF:=lit Tryz.f53 ⟨_,by conv=>lhs;cbv⟩
def Rz:AC:=f53.body.r.r.r.r.r.l.r.l
def RA:AC:=Rz.r.r.r.r.r.l
def RB:AC:=RA.l.r.r.l.l.r.l.r.r.r.l.l
def RC:AC:=RB.l
def aes:AC:=RC.l.l.r.l
def RD:AC:=f53.body.r.r.r.r.r.r
def f90:AF:=lit Tryz.f90 ⟨_,by conv=>lhs;cbv⟩
def f98:AF:=lit Tryz.f98 ⟨_,by conv=>lhs;cbv⟩
def f99:AF:=lit Tryz.f99 ⟨_,by conv=>lhs;cbv⟩
def aet:AC:=f99.body.r.l
def f100:AF:=lit Tryz.f100 ⟨_,by conv=>lhs;cbv⟩
def f101:AF:=lit Tryz.f101 ⟨_,by conv=>lhs;cbv⟩
def f102:AF:=lit Tryz.f102 ⟨_,by conv=>lhs;cbv⟩
def f103:AF:=lit Tryz.f103 ⟨_,by conv=>lhs;cbv⟩
def f104:AF:=lit Tryz.f104 ⟨_,by conv=>lhs;cbv⟩
def f105:AF:=lit Tryz.f105 ⟨_,by conv=>lhs;cbv⟩
def f106:AF:=lit Tryz.f106 ⟨_,by conv=>lhs;cbv⟩
def f107:AF:=lit Tryz.f107 ⟨_,by conv=>lhs;cbv⟩
def aeu:AC:=f107.body.r
def f108:AF:=lit Tryz.f108 ⟨_,by conv=>lhs;cbv⟩
def f109:AF:=lit Tryz.f109 ⟨_,by conv=>lhs;cbv⟩
def aev:AC:=f109.body.r.r.l.r.l.r.l.r.l
def f110:AF:=lit Tryz.f110 ⟨_,by conv=>lhs;cbv⟩
def aew:AC:=f110.body.r.l.r.l
def aex:AC:=f110.body.r.r
def f111:AF:=lit Tryz.f111 ⟨_,by conv=>lhs;cbv⟩
def aey:AC:=f111.body.r.r.r.l.r.l
def f112:AF:=lit Tryz.f112 ⟨_,by conv=>lhs;cbv⟩
def f113:AF:=lit Tryz.f113 ⟨_,by conv=>lhs;cbv⟩
def aez:AC:=f113.body.r.r.r.l.r.l
def RE:AC:=f113.body.r.r.r.r
def f114:AF:=lit Tryz.f114 ⟨_,by conv=>lhs;cbv⟩
def aeA:AC:=f114.body.r
def f115:AF:=lit Tryz.f115 ⟨_,by conv=>lhs;cbv⟩
def f116:AF:=lit Tryz.f116 ⟨_,by conv=>lhs;cbv⟩
def aeB:AC:=f116.body.r
def f117:AF:=lit Tryz.f117 ⟨_,by conv=>lhs;cbv⟩
def f118:AF:=lit Tryz.f118 ⟨_,by conv=>lhs;cbv⟩
def f119:AF:=lit Tryz.f119 ⟨_,by conv=>lhs;cbv⟩
def f120:AF:=lit Tryz.f120 ⟨_,by conv=>lhs;cbv⟩
def aeC:AC:=f120.body.r.r.r.l.r.l
def f121:AF:=lit Tryz.f121 ⟨_,by conv=>lhs;cbv⟩
def f122:AF:=lit Tryz.f122 ⟨_,by conv=>lhs;cbv⟩
def f126:AF:=lit Tryz.f126 ⟨_,by conv=>lhs;cbv⟩
def f137:AF:=lit Tryz.f137 ⟨_,by conv=>lhs;cbv⟩
def f152:AF:=lit Tryz.f152 ⟨_,by conv=>lhs;cbv⟩
def f178:AF:=lit Tryz.f178 ⟨_,by conv=>lhs;cbv⟩
def aeD:AC:=f178.body.r.l
def f179:AF:=lit Tryz.f179 ⟨_,by conv=>lhs;cbv⟩
def f180:AF:=lit Tryz.f180 ⟨_,by conv=>lhs;cbv⟩
def aeE:AC:=f180.body.r.l.r.l
def f181:AF:=lit Tryz.f181 ⟨_,by conv=>lhs;cbv⟩
def f182:AF:=lit Tryz.f182 ⟨_,by conv=>lhs;cbv⟩
def f183:AF:=lit Tryz.f183 ⟨_,by conv=>lhs;cbv⟩
def f184:AF:=lit Tryz.f184 ⟨_,by conv=>lhs;cbv⟩
def aeF:AC:=f184.body.r.r.r.l.r.l.r.l.r.l.r.l
def f185:AF:=lit Tryz.f185 ⟨_,by conv=>lhs;cbv⟩
def f186:AF:=lit Tryz.f186 ⟨_,by conv=>lhs;cbv⟩
def aeG:AC:=f186.body.r.l.l
def f187:AF:=lit Tryz.f187 ⟨_,by conv=>lhs;cbv⟩
def f188:AF:=lit Tryz.f188 ⟨_,by conv=>lhs;cbv⟩
def f189:AF:=lit Tryz.f189 ⟨_,by conv=>lhs;cbv⟩
def aeH:AC:=f189.body.r.l
def f190:AF:=lit Tryz.f190 ⟨_,by conv=>lhs;cbv⟩
def aeI:AC:=f190.body.r.r.r.l.r.l.r.r.l.l.r.l
def aeJ:AC:=f190.body.r.r.r.r.l.r.l
def f191:AF:=lit Tryz.f191 ⟨_,by conv=>lhs;cbv⟩
def aeK:AC:=f191.body.r.r.r.r.r.r.l.l
def aeL:AC:=f191.body.r.r.r.r.r.r.r
def f192:AF:=lit Tryz.f192 ⟨_,by conv=>lhs;cbv⟩
def aeM:AC:=f192.body.r
def f193:AF:=lit Tryz.f193 ⟨_,by conv=>lhs;cbv⟩
def aeN:AC:=f193.body.r.r.l.r.l
def aeO:AC:=f193.body.r.r.r
def f194:AF:=lit Tryz.f194 ⟨_,by conv=>lhs;cbv⟩
def f195:AF:=lit Tryz.f195 ⟨_,by conv=>lhs;cbv⟩
def RF:AC:=f195.body.r.r.r.l.r.l
def aeP:AC:=RF.l.r.r.l.l.r.r.l
def f196:AF:=lit Tryz.f196 ⟨_,by conv=>lhs;cbv⟩
def aeQ:AC:=f196.body.r.l.r.l
def aeR:AC:=f196.body.r.r
def f197:AF:=lit Tryz.f197 ⟨_,by conv=>lhs;cbv⟩
def f198:AF:=lit Tryz.f198 ⟨_,by conv=>lhs;cbv⟩
def f199:AF:=lit Tryz.f199 ⟨_,by conv=>lhs;cbv⟩
def aeS:AC:=f199.body.r.l.r.l
def aeT:AC:=f199.body.r.r
def f200:AF:=lit Tryz.f200 ⟨_,by conv=>lhs;cbv⟩
def RH:AC:=f200.body.r.r.l.r.l
def aeU:AC:=RH.l.r.r.l.l.r.l.r.l
def f201:AF:=lit Tryz.f201 ⟨_,by conv=>lhs;cbv⟩
def f205:AF:=lit Tryz.f205 ⟨_,by conv=>lhs;cbv⟩
def aeV:AC:=f205.body.r.l.r.l
def aeW:AC:=f205.body.r.r
def f219:AF:=lit Tryz.f219 ⟨_,by conv=>lhs;cbv⟩
def f246:AF:=lit Tryz.f246 ⟨_,by conv=>lhs;cbv⟩
def f247:AF:=lit Tryz.f247 ⟨_,by conv=>lhs;cbv⟩
def f248:AF:=lit Tryz.f248 ⟨_,by conv=>lhs;cbv⟩
def f249:AF:=lit Tryz.f249 ⟨_,by conv=>lhs;cbv⟩
def f250:AF:=lit Tryz.f250 ⟨_,by conv=>lhs;cbv⟩
def aeX:AC:=f250.body.r.r.r.l.l
def aeY:Σ' a,Jh Yi Tryz.f251=a:=by
 refine⟨?a,?h⟩
 rotate_left
 conv=>
  lhs;whnf
  conv=>arg 1;cbv
  conv=>arg 2;cbv
  arg 3;whnf
  conv=>arg 1;cbv
  arg 2;whnf
  conv=>arg 1;cbv
  arg 2;whnf
  conv=>arg 1;cbv
  arg 2;cbv
def f251:AF:=aeY.1
def RI:AC:=f251.body.r.r.r
def Js:AC:=RI.r.r.r.r
def Jt:AC:=Js.r.r.l.r.l.r
def Ju:AC:=Jt.l.l.r.r.r.r.l.l
def RJ:AC:=Ju.l
def aeZ:AC:=RJ.r
def ae0:AC:=Jt.l.l.r.r.r.r.r.r.r
def ae1:AC:=Js.r.r.r
def f252:AF:=lit Tryz.f252 ⟨_,by conv=>lhs;cbv⟩
def ae2:AC:=f252.body.r.l.r.r.r.l.l.r.l
def f253:AF:=lit Tryz.f253 ⟨_,by conv=>lhs;cbv⟩
def f254:AF:=lit Tryz.f254 ⟨_,by conv=>lhs;cbv⟩
def ae3:AC:=f254.body.r.l.r.l
def f255:AF:=lit Tryz.f255 ⟨_,by conv=>lhs;cbv⟩
def f256:AF:=lit Tryz.f256 ⟨_,by conv=>lhs;cbv⟩
def f257:AF:=lit Tryz.f257 ⟨_,by conv=>lhs;cbv⟩
def f285:AF:=lit Tryz.f285 ⟨_,by conv=>lhs;cbv⟩
def f286:AF:=lit Tryz.f286 ⟨_,by conv=>lhs;cbv⟩
def ae4:AC:=f286.body.l
def f287:AF:=lit Tryz.f287 ⟨_,by conv=>lhs;cbv⟩
def f288:AF:=lit Tryz.f288 ⟨_,by conv=>lhs;cbv⟩
def f289:AF:=lit Tryz.f289 ⟨_,by conv=>lhs;cbv⟩
def f290:AF:=lit Tryz.f290 ⟨_,by conv=>lhs;cbv⟩
def f291:AF:=lit Tryz.f291 ⟨_,by conv=>lhs;cbv⟩
def RK:AC:=f291.body.r.r.l.r.l
def RL:AC:=RK.l.r.r.l.l.r.r.r.l
def ae5:AC:=RL.l.r.r.l.l
def f292:AF:=lit Tryz.f292 ⟨_,by conv=>lhs;cbv⟩
def f293:AF:=lit Tryz.f293 ⟨_,by conv=>lhs;cbv⟩
def f294:AF:=lit Tryz.f294 ⟨_,by conv=>lhs;cbv⟩
def RM:AC:=f294.body.r.r.r.r.l.r.l
def Jv:AC:=RM.l
def ae6:AC:=Jv.r.r.l.l.r.r.r.r
def ae7:AC:=Jv.r.r.r
def f295:AF:=lit Tryz.f295 ⟨_,by conv=>lhs;cbv⟩
def f296:AF:=lit Tryz.f296 ⟨_,by conv=>lhs;cbv⟩
def f298:AF:=lit Tryz.f298 ⟨_,by conv=>lhs;cbv⟩
def f299:AF:=lit Tryz.f299 ⟨_,by conv=>lhs;cbv⟩
def f300:AF:=lit Tryz.f300 ⟨_,by conv=>lhs;cbv⟩
def f313:AF:=lit Tryz.f313 ⟨_,by conv=>lhs;cbv⟩
def f314:AF:=lit Tryz.f314 ⟨_,by conv=>lhs;cbv⟩
def f315:AF:=lit Tryz.f315 ⟨_,by conv=>lhs;cbv⟩
structure Cd(C:Nat->Option aE):Prop where
 f3:gO C 3 f3
 f6:gO C 6 f6
 f7:gO C 7 f7
 f8:gO C 8 f8
 f9:gO C 9 f9
 f10:gO C 10 f10
 f11:gO C 11 f11
 f12:gO C 12 f12
 f13:gO C 13 f13
 f28:gO C 28 f28
 f34:gO C 34 f34
 f35:gO C 35 f35
 f36:gO C 36 f36
 f37:gO C 37 f37
 f38:gO C 38 f38
 f39:gO C 39 f39
 f40:gO C 40 f40
 f41:gO C 41 f41
 f42:gO C 42 f42
 f43:gO C 43 f43
 f44:gO C 44 f44
 f45:gO C 45 f45
 f46:gO C 46 f46
 f47:gO C 47 f47
 f48:gO C 48 f48
 f49:gO C 49 f49
 f50:gO C 50 f50
 f51:gO C 51 f51
 f52:gO C 52 f52
 f53:gO C 53 f53
 f90:gO C 90 f90
 f98:gO C 98 f98
 f99:gO C 99 f99
 f100:gO C 100 f100
 f101:gO C 101 f101
 f102:gO C 102 f102
 f103:gO C 103 f103
 f104:gO C 104 f104
 f105:gO C 105 f105
 f106:gO C 106 f106
 f107:gO C 107 f107
 f108:gO C 108 f108
 f109:gO C 109 f109
 f110:gO C 110 f110
 f111:gO C 111 f111
 f112:gO C 112 f112
 f113:gO C 113 f113
 f114:gO C 114 f114
 f115:gO C 115 f115
 f116:gO C 116 f116
 f117:gO C 117 f117
 f118:gO C 118 f118
 f119:gO C 119 f119
 f120:gO C 120 f120
 f121:gO C 121 f121
 f122:gO C 122 f122
 f126:gO C 126 f126
 f137:gO C 137 f137
 f152:gO C 152 f152
 f178:gO C 178 f178
 f179:gO C 179 f179
 f180:gO C 180 f180
 f181:gO C 181 f181
 f182:gO C 182 f182
 f183:gO C 183 f183
 f184:gO C 184 f184
 f185:gO C 185 f185
 f186:gO C 186 f186
 f187:gO C 187 f187
 f188:gO C 188 f188
 f189:gO C 189 f189
 f190:gO C 190 f190
 f191:gO C 191 f191
 f192:gO C 192 f192
 f193:gO C 193 f193
 f194:gO C 194 f194
 f195:gO C 195 f195
 f196:gO C 196 f196
 f197:gO C 197 f197
 f198:gO C 198 f198
 f199:gO C 199 f199
 f200:gO C 200 f200
 f201:gO C 201 f201
 f205:gO C 205 f205
 f219:gO C 219 f219
 f246:gO C 246 f246
 f247:gO C 247 f247
 f248:gO C 248 f248
 f249:gO C 249 f249
 f250:gO C 250 f250
 f251:gO C 251 f251
 f252:gO C 252 f252
 f253:gO C 253 f253
 f254:gO C 254 f254
 f255:gO C 255 f255
 f256:gO C 256 f256
 f257:gO C 257 f257
 f285:gO C 285 f285
 f286:gO C 286 f286
 f287:gO C 287 f287
 f288:gO C 288 f288
 f289:gO C 289 f289
 f290:gO C 290 f290
 f291:gO C 291 f291
 f292:gO C 292 f292
 f293:gO C 293 f293
 f294:gO C 294 f294
 f295:gO C 295 f295
 f296:gO C 296 f296
 f298:gO C 298 f298
 f299:gO C 299 f299
 f300:gO C 300 f300
 f313:gO C 313 f313
 f314:gO C 314 f314
 f315:gO C 315 f315
 f260:C 260=some (.pm .tS)
end Go.Ev.X
end
namespace Go.Ev.X
open Go Go.Ev
section
def ae8:∀{l m:Nat},m<256 ^ l->aT (bD l m)=m:=by
 intro l
 induction l with
 | zero=>intro m h;simp at h;subst h;rfl
 | succ l ih=>
  intro m h;have h2:m / 256<256 ^ l:=by rw[iM]at h;omega
  show(UInt8.ofNat (m % 256)).toNat+256*aT (bD l (m / 256))=m;rw[ih h2];have:(UInt8.ofNat (m % 256)).toNat=m % 256:=by simp
  omega
def ae9{m:Nat}(j:qU m=true)(h:128<=m):∀c∈bD (oz m) (qV m),128<=c.toNat:=by
 simp only[qU,fF,jn,mX,aD,cC]at j;have u:∀{a:Nat},128<=a % 256->128<=(UInt8.ofNat a).toNat:=λ{a} h=>by simpa using h
 unfold oz qV;simp only[fF];have h1:¬ m<128:=by omega
 simp only[h1,decide_false,cond_false];by_cases h2:m<2048
 ·obtain⟨d,e⟩:=dg (192+m / 64) (128+m % 64) (by omega);simp only[h2,decide_true,cond_true,bD,d,e];intro c b;simp only[cD,tO,or_false]at b;rcases b with rfl | rfl<;>exact u (by omega)
 ·simp only[h2,decide_false,cond_false];by_cases i:m<65536
  ·obtain⟨d,e⟩:=dg (224+m / 4096) (128+m / 64 % 64+256*(128+m % 64)) (by omega);obtain⟨f,g⟩:=dg (128+m / 64 % 64) (128+m % 64) (by omega);simp only[i,decide_true,cond_true,bD,d,e,f,g];intro c b;simp only[cD,tO,or_false]at b;rcases b with rfl | rfl | rfl<;>exact u (by omega)
  ·obtain⟨d,e⟩:=dg (240+m / 262144) (128+m / 4096 % 64+256*(128+m / 64 % 64+256*(128+m % 64))) (by omega);obtain⟨f,g⟩:=dg (128+m / 4096 % 64) (128+m / 64 % 64+256*(128+m % 64)) (by omega);obtain⟨o,p⟩:=dg (128+m / 64 % 64) (128+m % 64) (by omega);simp only[i,decide_false,cond_false,bD,d,e,f,g,o,p];intro c b;simp only[cD,tO,or_false]at b;rcases b with rfl | rfl | rfl | rfl<;>exact u (by omega)
def afa(m:Nat):1<=oz m/\oz m<=4:=by unfold oz;simp only[gU];split<;>(try split)<;>(try split)<;>omega
section
variable {C:Nat->Option aE}{E:Env}{h:Hf}{n:K}{q:Env->Hf->K->Prop}{l:List AO}{Δ:Nat}{k:V->Hf->K->Prop}
def afb{x:ao}{ik:IntKind}{m:Nat}(b:ge E x=some (.i ik (m:Nat)))(a:qU m=true)(d:∀bs:S,1<=bs.length->bs.length<=4->(128<=m->∀c∈bs,128<=c.toNat)->k (X.st bs) h n):SO C (.cv .AL x) E h n k:=by
 have hl:=afa m;refine fR (v:=X.st (bD (oz m) (qV m))) (λ_ _ _ _=>rfl) (λT H f j=>?_) (d _ (by rw[ql];omega) (by rw[ql];omega) (ae9 a));have e:qJ H n .AL (.i ik (.ofNat m))=some (.s (oz m) (qV m),H,n):=by simp only[qJ,a,cond_true]
 have g:X.st (bD (oz m) (qV m))=.s (oz m) (qV m):=by unfold X.st;rw[ql,ae8 (Ie a).2]
 rw[g];simp only[simple,f.ge b];exact e
def afc{d:K}{x:ao}{ik:IntKind}{m:Nat}(a:ge E x=some (.i ik (m:Nat)))(b:qU m=true)(e:∀bs:S,1<=bs.length->bs.length<=4->(128<=m->∀c∈bs,128<=c.toNat)->WO C l ((d,X.st bs)::E) h n q):WO C (⟨some d,.cv .AL x,none,Δ⟩::l) E h n q:=bW (afb a b e)
end
def wQ(c:Nat):S->Nat->Option Nat
 | [],_=>none
 | x::l,i=>if x.toNat=c then some i else wQ c l (i+1)
def bI(c:Nat)(s:S):Int:=match wQ c s 0 with | some i=>(i:Nat) | none=>-1
def afd(c:Nat):∀(s:S) (i:Nat),zC c s.length (aT s) i=wQ c s i:=by
 intro s
 induction s with
 | nil=>intro i;rfl
 | cons x l ih=>
  intro i;have d:=x.toNat_lt;have a:Nat.mod (aT (x::l)) 256=x.toNat:=by show(x.toNat+256*aT l) % 256=_;omega
  have b:Nat.div (aT (x::l)) 256=aT l:=by show(x.toNat+256*aT l) / 256=_;omega
  show(bif Nat.beq (Nat.mod (aT (x::l)) 256) c then some i else zC c l.length (Nat.div (aT (x::l)) 256) (i+1))=_
  rw[a,b,ih,dP,wQ];by_cases h:x.toNat=c<;>simp[h]
def Jw{c:Nat}:∀{s:S} {i j:Nat},wQ c s i=some j->i<=j/\∃h:j - i<s.length,s[j - i].toNat=c/\∀k (a:k<s.length),k<j - i->s[k].toNat≠c:=by
 intro s
 induction s with
 | nil=>intro i j h;cases h
 | cons x l ih=>
  intro i j h;rw[wQ]at h;split at h
  ·rename_i b;injection h with h;subst h;refine⟨ξ _,by simp,?_,λk a h=>by omega⟩;simpa using b
  ·rename_i b;obtain⟨h1,h2,d,f⟩:=ih h;have e:j - i=(j - (i+1))+1:=by omega
   refine⟨by omega,by rw[e];simp only[eh];omega,?_,λk a h=>?_⟩
   ·simp only[e,oV];exact d
   ·cases k with
    | zero=>simpa using b
    | succ k=>simp only[oV];exact f k (by simpa using a) (by omega)
def afe{c:Nat}:∀{s:S} {i:Nat},wQ c s i=none->∀x∈s,x.toNat≠c:=by
 intro s
 induction s with
 | nil=>intro i h x a;cases a
 | cons y l ih=>
  intro i h x a;rw[wQ]at h;split at h
  ·cases h
  ·rename_i b;rcases cD.1 a with rfl | a
   ·exact b
   ·exact ih h x a
def Jx{c:Nat}{s:S}:0<=bI c s↔∃x∈s,x.toNat=c:=by
 unfold bI;cases h:wQ c s 0 with
 | none=>simp only;refine⟨λh=>by omega,λ⟨x,a,e⟩=>absurd e (afe h x a)⟩
 | some j=>
  obtain⟨_,h2,b,_⟩:=Jw h;exact⟨λ_=>⟨_,bL h2,b⟩,λ_=>by simp only;omega⟩
def aff{c:Nat}{s:S}(h:0<=bI c s):∃j:Nat,bI c s=(j:Nat)/\∃hj:j<s.length,s[j].toNat=c/\∀k (a:k<s.length),k<j->s[k].toNat≠c:=by
 unfold bI at h ⊢;cases hb:wQ c s 0 with
 | none=>rw[hb]at h;simp only at h;omega
 | some j=>obtain⟨_,h2⟩:=Jw hb;exact⟨j,rfl,h2⟩
def afg{c:Nat}{s:S}(h:¬ ∃x∈s,x.toNat=c):bI c s = -1:=by
 unfold bI;cases hb:wQ c s 0 with
 | none=>rfl
 | some j=>obtain⟨_,h2,a,_⟩:=Jw hb;exact absurd ⟨_,bL h2,a⟩ h
end
end Go.Ev.X
