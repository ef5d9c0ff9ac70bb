/- A part of the proof. -/
import Derived.Test.YtpdbepbhlalldaaGreatDoorProg
import Derived.Test.YtpdbepbhlalldaaGreatDoorA
import Derived.Test.YtpdbepbhlalldaaGreatDoorC
import Derived.Test.YtpdbepbhlalldaaGreatDoorB
set_option linter.all false
namespace Go.Ev.X
open Go Go.Ev
section
structure PR where
 i:Nat
 Ξ:Nat
 val:Hf->Prop
structure PB where
 i:Nat
 Ξ:Nat
 h:Hf
 h':Hf
def MR:List Rd->List PR->Prop
 | [],[]=>True
 | r::rs,p::P=>(r.i=p.i/\r.Ξ=p.Ξ/\∀H:Hp,p.val H.get->∃v H' n',simple r.op r.T H .h=some (v,H',n')/\cI v r.v=true)/\MR rs P
 | _,_=>False
def MB:List Bg->List PB->Prop
 | [],[]=>True
 | b::bs,p::B=>(b.i=p.i/\b.Ξ=p.Ξ/\b.H.get=p.h/\b.H'.get=p.h')/\MB bs B
 | _,_=>False
def fE(h:Hf)(Ξ:Nat):Made->Hf
 | []=>h
 | (k,i)::l=>bif Nat.testBit Ξ i then fE h Ξ l else fE (hp h k none) Ξ l
def jQ(h h':Hf)(Ξ:Nat):Made->Hf
 | []=>h'
 | (k,i)::l=>bif Nat.testBit Ξ i then jQ h h' Ξ l else jQ h (hp h' k (h k)) Ξ l
def ym(Ξ:Nat):∀(m:Made) (H:Hp),(cY H Ξ m).get=fE H.get Ξ m:=by
 intro m
 induction m with
 | nil=>intro H;rfl
 | cons p m ih=>
  intro H;obtain⟨k,i⟩:=p;simp only[cY,fE];cases Nat.testBit Ξ i with
  | true=>exact ih H
  | false=>simp only[cond_false];rw[ih,hY]
def HN(Ξ:Nat)(H:Hp):∀(m:Made) (H':Hp),(back H H' Ξ m).get=jQ H.get H'.get Ξ m:=by
 intro m
 induction m with
 | nil=>intro H';rfl
 | cons p m ih=>
  intro H';obtain⟨k,i⟩:=p;simp only[back,jQ];cases Nat.testBit Ξ i with
  | true=>exact ih H'
  | false=>simp only[cond_false];rw[ih,hY]
def mn(m:Made)(p:PR)(b:PB):Prop:=
 bif Nat.testBit p.Ξ b.i||Nat.testBit b.Ξ p.i then True else p.val (fE b.h p.Ξ m)/\p.val (fE b.h' p.Ξ m)
def jD(m:Made)(p:PR):List PB->Prop
 | []=>True
 | b::B=>mn m p b/\jD m p B
def AG(m:Made):List PR->List PB->Prop
 | [],_=>True
 | p::P,B=>jD m p B/\AG m P B
def aat{m:Made}:∀{rs:List Rd} {P:List PR} {bs:List Bg} {B:List PB},MR rs P->MB bs B->AG m P B->sa m rs bs=true:=by
 intro rs
 induction rs with
 | nil=>intro P bs B _ _ _;rfl
 | cons r rs ih=>
  intro P bs B e hb a;cases P with
  | nil=>exact e.elim
  | cons p P=>
   obtain⟨⟨h1,h2,f⟩,g⟩:=e;have:=ih g hb a.2;simp only[sa,List.all_cons,aK]at this ⊢;refine⟨?_,this⟩;have key:∀{bs:List Bg} {B:List PB},MB bs B->jD m p B->(bs.all λb=>xW m r b)=true:=by
    intro bs
    induction bs with
    | nil=>intro B _ _;rfl
    | cons b bs j=>
     intro B hb a;cases B with
     | nil=>exact hb.elim
     | cons q B=>
      obtain⟨⟨g1,k,o,s⟩,t⟩:=hb;simp only[List.all_cons,aK];refine⟨?_,j t a.2⟩;have c:=a.1;unfold mn at c;unfold xW;rw[h1,h2,g1,k];cases u:(Nat.testBit p.Ξ q.i||Nat.testBit q.Ξ p.i) with
      | true=>simp
      | false=>
       rw[u]at c;simp only[cond_false]at c;have rd:∀H:Hp,p.val (cY H p.Ξ m).get->Ac r H m=true:=by intro H hv;obtain⟨v,H',n',w,x⟩:=f _ hv;unfold Ac;rw[h2,w];exact x
       rw[rd b.H (by rw[ym,o];exact c.1),rd b.H' (by rw[ym,s];exact c.2)];simp
   exact key hb a.1
section
variable (C:Nat->Option aI)
def WD(l:List AO)(i:Nat)(E:Env)(h:Hf)(n:K)(m:Made)(P:List PR)(B:List PB)(Q:Env->Hf->K->Prop):Prop:=
 ∀T H rs bs,Le E T->H.get=h->MR rs P->MB bs B->∃T' H' n' E',(∃f0,∀f,f0<=f->dV (ev C f) l i T H n m rs bs=some ⟨.normal,T',.q,H',n'⟩)/\Le E' T'/\Q E' H'.get n'
end
section
variable {C:Nat->Option aI}{E:Env}{h:Hf}{n:K}{Q:Ex->Env->Hf->K->Prop}{q:Env->Hf->K->Prop}{m:Made}{P:List PR}{B:List PB}{i:Nat}{l:List AO}{d:Option K}{op:A}{Ξ:Nat}
def nO(a:WD C l 0 E h n [] [] [] (λE h n=>Q .normal E h n)):WC C (.regd l) E h n Q:=by intro T H b c;obtain⟨T',H',n',E',⟨f0,h1⟩,h2,e⟩:=a T H [] [] b c trivial trivial;exact⟨⟨.normal,T',.q,H',n'⟩,E',eR.step ⟨f0,λf hf=>h1 f hf⟩,h2,e⟩
def cX{b:AC}(a:WD C l 0 E h n [] [] [] (λE h n=>WC C b E h n Q)):WC C (.seq (.regd l) b) E h n Q:=θ (nO a)
def bU(a:AG m P B)(b:q E h n):WD C [] i E h n m P B q:=λT H rs bs c e g hb=>by subst e;exact⟨T,H,n,E,⟨0,λf _=>by simp only[dV,aat g hb a,cond_true]⟩,c,b⟩
def fN(c:cls op=.pure)(hs:SO C op E (fE h Ξ m) n (λv _ _=>WD C l (i+1) (gR d v E) h n m P B q)):WD C (⟨d,op,none,Ξ⟩::l) i E h n m P B q:=by intro T H rs bs a b e hb;obtain⟨v,H',n',⟨f0,h1⟩,h2⟩:=hs T (cY H Ξ m) a (by rw[ym,b]);obtain⟨T',oz,g,E',⟨f1,j⟩,k,o⟩:=h2 _ H rs bs (a.gR d v) b e hb;refine⟨T',oz,g,E',⟨max f0 f1,λf hf=>?_⟩,k,o⟩;simp only[dV,want,h1 f (by omega),c];exact j f (by omega)
def O2(c:cls op=.make)(hs:SO C op E (fE h Ξ m) n (λv h' n'=>WD C l (i+1) (gR d v E) (jQ h h' Ξ m) n' ((n,i)::m) P B q)):WD C (⟨d,op,none,Ξ⟩::l) i E h n m P B q:=by intro T H rs bs a b e hb;obtain⟨v,H',n',⟨f0,h1⟩,h2⟩:=hs T (cY H Ξ m) a (by rw[ym,b]);obtain⟨T',oz,g,E',⟨f1,j⟩,k,o⟩:=h2 _ (back H H' Ξ m) rs bs (a.gR d v) (by rw[HN,b]) e hb;refine⟨T',oz,g,E',⟨max f0 f1,λf hf=>?_⟩,k,o⟩;simp only[dV,want,h1 f (by omega),c];exact j f (by omega)
def AX(c:cls op=.jt)(hs:SO C op E (fE h Ξ m) n (λv h' n'=>WD C l (i+1) (gR d v E) (jQ h h' Ξ m) n' m P (⟨i,Ξ,h,jQ h h' Ξ m⟩::B) q)):WD C (⟨d,op,none,Ξ⟩::l) i E h n m P B q:=by intro T H rs bs b a e hb;obtain⟨v,H',n',⟨f0,h1⟩,h2⟩:=hs T (cY H Ξ m) b (by rw[ym,a]);obtain⟨T',oz,g,E',⟨f1,j⟩,k,o⟩:=h2 _ (back H H' Ξ m) rs (⟨i,Ξ,H,back H H' Ξ m⟩::bs) (b.gR d v) (by rw[HN,a]) e ⟨⟨rfl,rfl,a,by rw[HN,a]⟩,hb⟩;refine⟨T',oz,g,E',⟨max f0 f1,λf hf=>?_⟩,k,o⟩;simp only[dV,want,h1 f (by omega),c];exact j f (by omega)
def aC{agg:Bool}{sz:Nat}{a:au}{p v:V}(j:ge E a=some p)(hv:bj (fE h Ξ m) agg sz p=some v)(hb:bk n v=true)(o:cI v v=true)
 (r:WD C l (i+1) (gR d v E) h n m (⟨i,Ξ,λg=>bj g agg sz p=some v⟩::P) B q):WD C (⟨d,.ld agg sz a,none,Ξ⟩::l) i E h n m P B q:=by
 intro T H rs bs b k s t;obtain⟨T',oz,u,E',⟨f1,w⟩,x,y⟩:=r _ H (⟨i,.ld agg sz a,Ξ,T,v⟩::rs) bs (b.gR d v) k ⟨⟨rfl,rfl,λH' c=>⟨v,H',.h,by have c:bj H'.get agg sz p=some v:=c;simp only[simple,b.ge j,DN rfl,c,cW],o⟩⟩,s⟩ t;refine⟨T',oz,u,E',⟨f1,λf hf=>?_⟩,x,y⟩;have e:oper (ev C f) (.ld agg sz a) T (cY H Ξ m) n=some (v,cY H Ξ m,n):=by
  have:rO (cY H Ξ m) agg sz p=some v:=by rw[DN (by rw[ym,k])];exact hv
  simp only[oper,dI,simple,b.ge j,this,cW]
 simp only[dV,want,e,cls,hb,cond_true];exact w f hf
def AY{z len:Nat}{x:au}{v:V}{cs:List V}{h0:Hf}{n0:K}(s:ge E x=some v)(a:κ h0 n0 z v len cs)
 (t:WD C l (i+1) (gR d (.i .i64 (len:Nat)) E) h n m (⟨i,Ξ,λ_=>True⟩::P) B q):WD C (⟨d,.len 1 x,none,Ξ⟩::l) i E h n m P B q:=by
 intro T H rs bs k u w y;have p:∀(H:Hp) (n:K),simple (.len 1 x) T H n=some (.i .i64 (len:Nat),H,n):=by
  intro H n;have e:=k.ge s;obtain⟨h1,h2⟩:=a;cases h2 with
  | inl h=>rw[h.1]at e;simp only[simple,e,h.2];rfl
  | inr h=>
   obtain⟨⟨b,o,c,g,r⟩,_⟩:=h;cases g with
   | inl j=>rw[j.1]at e;simp only[simple,e];rfl
   | inr j=>rw[j]at e;simp only[simple,e];rfl
 have D:cI (.i .i64 (len:Nat)) (.i .i64 (len:Nat))=true:=by simp only[cI,fS];simp
 obtain⟨T',oz,F,E',⟨f1,g⟩,r,G⟩:=t _ H (⟨i,.len 1 x,Ξ,T,.i .i64 (len:Nat)⟩::rs) bs (k.gR d _) u ⟨⟨rfl,rfl,λH' I=>⟨_,H',.h,p H' .h,D⟩⟩,w⟩ y;refine⟨T',oz,F,E',⟨f1,λf hf=>?_⟩,r,G⟩;have e:oper (ev C f) (.len 1 x) T (cY H Ξ m) n=some (.i .i64 (len:Nat),cY H Ξ m,n):=by simp only[oper,dI,p]
 simp only[dV,want,e,cls,bk,cond_true];exact g f hf
def aau{x:au}{bs:List UInt8}(c:ge E x=some (st bs))
 (g:WD C l (i+1) (gR d (.i .i64 (bs.length:Nat)) E) h n m (⟨i,Ξ,λ_=>True⟩::P) B q):WD C (⟨d,.len 0 x,none,Ξ⟩::l) i E h n m P B q:=by
 intro T H rs j a k o p;have b:∀(H:Hp) (n:K),simple (.len 0 x) T H n=some (.i .i64 (bs.length:Nat),H,n):=by intro H n;simp only[simple,a.ge c];rfl
 have r:cI (.i .i64 (bs.length:Nat)) (.i .i64 (bs.length:Nat))=true:=by simp only[cI,fS];simp
 obtain⟨T',oz,s,E',⟨f1,t⟩,u,v⟩:=g _ H (⟨i,.len 0 x,Ξ,T,.i .i64 (bs.length:Nat)⟩::rs) j (a.gR d _) k ⟨⟨rfl,rfl,λH' w=>⟨_,H',.h,b H' .h,r⟩⟩,o⟩ p;refine⟨T',oz,s,E',⟨f1,λf hf=>?_⟩,u,v⟩;have e:oper (ev C f) (.len 0 x) T (cY H Ξ m) n=some (.i .i64 (bs.length:Nat),cY H Ξ m,n):=by simp only[oper,dI,b]
 simp only[dV,want,e,cls,bk,cond_true];exact t f hf
def aR{g:K}{w x:Bool}(c:lk E g=some (.b x))(e:x=w)(hs:WD C (⟨d,op,none,Ξ⟩::l) i E h n m P B q):WD C (⟨d,op,some (g,w),Ξ⟩::l) i E h n m P B q:=by intro T H rs bs a j k hb;obtain⟨T',H',n',E',⟨f0,h1⟩,h2,o⟩:=hs T H rs bs a j k hb;refine⟨T',H',n',E',⟨f0,λf hf=>?_⟩,h2,o⟩;have:=h1 f hf;simp only[dV,want,a _ _ c]at this ⊢;subst e;cases x<;>exact this
def dN{g:K}{w x:Bool}(c:lk E g=some (.b x))(e:x=!w)(hs:WD C l (i+1) (gR d (.u []) E) h n m P B q):WD C (⟨d,op,some (g,w),Ξ⟩::l) i E h n m P B q:=by intro T H rs bs a j k hb;obtain⟨T',H',n',E',⟨f0,h1⟩,h2,o⟩:=hs _ H rs bs (a.gR d _) j k hb;refine⟨T',H',n',E',⟨f0,λf hf=>?_⟩,h2,o⟩;have:=h1 f hf;subst e;simp only[dV,want,a _ _ c];cases w<;>exact this
def ru{g:K}{w:Bool}(b:lk E g=some (.u []))(hs:WD C l (i+1) (gR d (.u []) E) h n m P B q):WD C (⟨d,op,some (g,w),Ξ⟩::l) i E h n m P B q:=by intro T H rs bs a c e hb;obtain⟨T',H',n',E',⟨f0,h1⟩,h2,j⟩:=hs _ H rs bs (a.gR d _) c e hb;refine⟨T',H',n',E',⟨f0,λf hf=>?_⟩,h2,j⟩;have:=h1 f hf;simp only[dV,want,a _ _ b];exact this
def ff(k:IntKind)(x:Int):cI (.i k x) (.i k x)=true:=by simp only[cI,fS,ic];simp
def fg(l m:Nat):cI (.s l m) (.s l m)=true:=by simp[cI,cB]
def κ.cH{z:Nat}{v:V}{len:Nat}{cs:List V}(a:κ h n z v len cs):cI v v=true:=by
 obtain⟨h1,h2⟩:=a;cases h2 with
 | inl h=>rw[h.1];rfl
 | inr h=>obtain⟨⟨b,o,c,f,g⟩,_⟩:=h;cases f with | inl e=>rw[e.1];simp[cI,cB,K.beq_refl] | inr e=>rw[e];simp[cI,cB,K.beq_refl]
def O3{b n:K}(h:b.num<n.num):K.cmp false b n=true:=px.2 h
def κ.below{z:Nat}{v:V}{len:Nat}{cs:List V}(a:κ h n z v len cs){n':K}(f:n.num<=n'.num):bk n' v=true:=by
 obtain⟨h1,h2⟩:=a;cases h2 with
 | inl h=>rw[h.1];rfl
 | inr h=>
  obtain⟨⟨b,o,c,g,j⟩,_⟩:=h;have:=O3 (ep j f);cases g with | inl e=>rw[e.1];exact this | inr e=>rw[e];exact this
def qf{a:V}{l:List V}(h1:cI a a=true)(h2:jA l l=true):jA (a::l) (a::l)=true:=by simp[jA,h1,h2]
end
end
section
abbrev S:=List UInt8
structure Nd where
 op:Int
 sort:S
 name:S
 vars:List (S×S)
 kids:List Int
def bW(x:Nd)(vv kv:V):List V:=[.i .i64 x.op,st x.sort,st x.name,vv,kv]
def fW:List (S×S)->List V
 | []=>[]
 | (a,b)::l=>st a::st b::fW l
def cO(k:IntKind):List Int->List V
 | []=>[]
 | a::l=>.i k a::cO k l
def AZ(k:IntKind)(l:List Int):(cO k l).length=l.length:=by induction l<;>simp_all [cO]
def HO(l:List (S×S)):(fW l).length=l.length*2:=by
 induction l with
 | nil=>rfl
 | cons a l ih=>simp[fW,ih];omega
def D7(k:IntKind):∀{l:List Int} {i:Nat} (h:i<l.length),nth (cO k l) i=some (.i k l[i]):=by
 intro l
 induction l with
 | nil=>intro i h;simp at h
 | cons a l ih=>intro i h;cases i with
  | zero=>rfl
  | succ i=>exact ih (by simpa using h)
def aav:∀{l:List (S×S)} {i:Nat} (h:i<l.length),nth (fW l) (i*2)=some (st l[i].1):=by
 intro l
 induction l with
 | nil=>intro i h;simp at h
 | cons a l ih=>intro i h;cases i with
  | zero=>rfl
  | succ i=>
   have:(i+1)*2=i*2+1+1:=by omega
   rw[this];exact ih (by simpa using h)
def aaw:∀{l:List (S×S)} {i:Nat} (h:i<l.length),nth (fW l) (i*2+1)=some (st l[i].2):=by
 intro l
 induction l with
 | nil=>intro i h;simp at h
 | cons a l ih=>intro i h;cases i with
  | zero=>rfl
  | succ i=>
   have:(i+1)*2+1=(i*2+1)+1+1:=by omega
   rw[this];exact ih (by simpa using h)
def aax:∀{l:List (S×S)} {i:Nat} (h:i<l.length),((fW l).drop (i*2)).take 2=[st l[i].1,st l[i].2]:=by
 intro l
 induction l with
 | nil=>intro i h;simp at h
 | cons a l ih=>intro i h;cases i with
  | zero=>rfl
  | succ i=>
   have:(i+1)*2=i*2+1+1:=by omega
   rw[this];exact ih (by simpa using h)
def O4(l:List (S×S))(i j:Nat):((fW l).drop (i*2)).take (j*2)=fW ((l.drop i).take j):=by
 induction i generalizing l with
 | zero=>
  simp only[Nat.zero_mul,gb]
  induction j generalizing l with
  | zero=>simp[fW]
  | succ j ih=>
   cases l with
   | nil=>simp[fW]
   | cons a l=>
    have:(j+1)*2=j*2+1+1:=by omega
    rw[this];simp only[fW,mD,ih]
 | succ i ih=>
  cases l with
  | nil=>simp[fW]
  | cons a l=>
   have:(i+1)*2=i*2+1+1:=by omega
   rw[this];simp only[fW,xR,ih]
def aay(k:IntKind)(l:List Int)(i j:Nat):((cO k l).drop i).take j=cO k ((l.drop i).take j):=by
 have h:∀l:List Int,cO k l=l.map (.i k ·):=by intro l;induction l<;>simp_all [cO]
 rw[h,h,←List.map_drop,←List.map_take]
def HP(k:IntKind)(a b:List Int):cO k (a++b)=cO k a++cO k b:=by induction a<;>simp_all [cO]
def O5(a b:List (S×S)):fW (a++b)=fW a++fW b:=by induction a<;>simp_all [fW]
def O6{α:Type}:∀(a b:List α),a.length=b.length->over a b=some a:=by
 intro a
 induction a with
 | nil=>intro b h;cases b with | nil=>rfl | cons x b=>simp at h
 | cons x a ih=>intro b h;cases b with
  | nil=>simp at h
  | cons y b=>simp only[over,ih b (by simpa using h)]
def da(h:Hf)(n:K)(k:IntKind)(v:V)(l:List Int):Prop:=κ h n 1 v l.length (cO k l)
def du(h:Hf)(n:K)(v:V)(l:List (S×S)):Prop:=κ h n 2 v l.length (fW l)
structure py(h:Hf)(n:K)(b:K)(o:Nat)(x:Nd)(vv kv:V):Prop where
 lt:b.num<n.num
 all:bj h true 5 (.p b o)=some (.a (bW x vv kv))
 vars:du h n vv x.vars
 kids:da h n .i64 kv x.kids
def ca:List Nd->List (V×V)->List V
 | x::l,p::m=>bW x p.1 p.2++ca l m
 | _,_=>[]
def sD:∀{l:List Nd} {m:List (V×V)},m.length=l.length->(ca l m).length=l.length*5:=by
 intro l
 induction l with
 | nil=>intro m h;cases m<;>simp[ca]
 | cons x l ih=>intro m h;cases m with
  | nil=>simp at h
  | cons p m=>simp only[ca,gp,ih (by simpa using h),dy];simp[bW];omega
def sF:∀{l:List Nd} {m:List (V×V)} (hm:m.length=l.length) {i:Nat} (h:i<l.length),((ca l m).drop (i*5)).take 5=bW l[i] (m[i]'(by omega)).1 (m[i]'(by omega)).2:=by
 intro l
 induction l with
 | nil=>intro m hm i h;simp at h
 | cons x l ih=>intro m hm i h;cases m with
  | nil=>simp at hm
  | cons p m=>
   cases i with
   | zero=>simp[ca,bW]
   | succ i=>
    have:(i+1)*5=5+i*5:=by omega
    rw[this,←List.drop_drop];have a:(ca (x::l) (p::m)).drop 5=ca l m:=by simp[ca,bW]
    rw[a];exact ih (by simpa using hm) (by simpa using h)
def uw:∀{l:List Nd} {m:List (V×V)} (hm:m.length=l.length) (l':List Nd) (a:List (V×V)),ca (l++l') (m++a)=ca l m++ca l' a:=by
 intro l
 induction l with
 | nil=>intro m hm l' a;cases m with | nil=>rfl | cons p m=>simp at hm
 | cons x l ih=>intro m hm l' a;cases m with
  | nil=>simp at hm
  | cons p m=>simp only[pc,ca,ih (by simpa using hm) l' a,pO]
def aZ(h:Hf)(n:K)(v:V)(ts:List Nd):Prop:=
 ∃m:List (V×V),∃hm:m.length=ts.length,κ h n 5 v ts.length (ca ts m)/\∀i (hi:i<ts.length),du h n (m[i]'(by omega)).1 ts[i].vars/\da h n .i64 (m[i]'(by omega)).2 ts[i].kids
section
variable {h h':Hf}{n n':K}
def da.ext{k:IntKind}{v:V}{l:List Int}(a:da h n k v l)(e:Ext h n h' n'):da h' n' k v l:=κ.ext a e
def du.ext{v:V}{l:List (S×S)}(a:du h n v l)(e:Ext h n h' n'):du h' n' v l:=κ.ext a e
def aZ.ext{v:V}{ts:List Nd}(a:aZ h n v ts)(e:Ext h n h' n'):aZ h' n' v ts:=by obtain⟨m,hm,h1,h2⟩:=a;exact⟨m,hm,h1.ext e,λi hi=>⟨(h2 i hi).1.ext e,(h2 i hi).2.ext e⟩⟩
def aZ.sl{v:V}{ts:List Nd}(a:aZ h n v ts):∃cs,κ h n 5 v ts.length cs:=by obtain⟨m,hm,h1,_⟩:=a;exact⟨_,h1⟩
def aZ.node{v:V}{ts:List Nd}(a:aZ h n v ts){i:Nat}(hi:i<ts.length):∃vv kv,py h n v.blk (v.off+i*5) ts[i] vv kv:=by obtain⟨m,hm,h1,h2⟩:=a;refine⟨_,_,h1.pk (by omega),?_,(h2 i hi).1,(h2 i hi).2⟩;rw[h1.jP (by omega) (by omega),sF hm hi]
def ka{b:K}{o sz f:Nat}{l:List V}(c:bj h true sz (.p b o)=some (.a l)){j:Nat}{w:V}(d:nth l j=some w):bj h false f (.p b (o+j))=some w:=by
 simp only[bj]at c ⊢;split at c
 ·rename_i row g;simp only[g,cond_false];simp only[cond_true]at c;split at c
  ·rename_i l' hl;cases c;have hj:j<l.length:=by rw[nK]at d;exact(mC.1 d).1
   obtain⟨e,hle⟩:=mJ hl;have:l.length=sz:=by rw[e];simp;omega
   rw[N9 hl (by omega)];exact d
  ·cases c
 ·cases c
def py.op{b:K}{o:Nat}{x:Nd}{vv kv:V}(a:py h n b o x vv kv)(sz:Nat):bj h false sz (.p b (o+0))=some (.i .i64 x.op):=ka a.all U
def py.sort{b:K}{o:Nat}{x:Nd}{vv kv:V}(a:py h n b o x vv kv)(sz:Nat):bj h false sz (.p b (o+1))=some (st x.sort):=ka a.all U
def py.name{b:K}{o:Nat}{x:Nd}{vv kv:V}(a:py h n b o x vv kv)(sz:Nat):bj h false sz (.p b (o+2))=some (st x.name):=ka a.all U
def py.vs{b:K}{o:Nat}{x:Nd}{vv kv:V}(a:py h n b o x vv kv)(sz:Nat):bj h false sz (.p b (o+3))=some vv:=ka a.all U
def py.ks{b:K}{o:Nat}{x:Nd}{vv kv:V}(a:py h n b o x vv kv)(sz:Nat):bj h false sz (.p b (o+4))=some kv:=ka a.all U
def da.get{k:IntKind}{v:V}{l:List Int}(a:da h n k v l){i:Nat}(hi:i<l.length)(sz:Nat):bj h false sz (.p v.blk (v.off+i*1))=some (.i k l[i]):=
 κ.get a (by rw[jz];exact D7 k hi) sz
def du.jP{v:V}{l:List (S×S)}(a:du h n v l){i:Nat}(hi:i<l.length):bj h true 2 (.p v.blk (v.off+i*2))=some (.a [st l[i].1,st l[i].2]):=by rw[κ.jP a (by omega) (by omega),aax hi]
def du.name{v:V}{l:List (S×S)}(a:du h n v l){i:Nat}(hi:i<l.length)(sz:Nat):bj h false sz (.p v.blk (v.off+i*2+0))=some (st l[i].1):=ka (a.jP hi) U
def du.sort{v:V}{l:List (S×S)}(a:du h n v l){i:Nat}(hi:i<l.length)(sz:Nat):bj h false sz (.p v.blk (v.off+i*2+1))=some (st l[i].2):=ka (a.jP hi) U
end
end
abbrev k0:K:=.h
abbrev k1:K:=.o .h
abbrev k2:K:=.i .h
abbrev k3:K:=.o (.o .h)
abbrev k4:K:=.i k1
abbrev k5:K:=.o k2
abbrev k6:K:=.i k2
abbrev k7:K:=.o k3
abbrev k8:K:=.i k3
abbrev k9:K:=.o k4
abbrev qg:K:=.i k4
abbrev qh:K:=.o k5
abbrev rS:K:=.i k5
abbrev uY:K:=.o k6
abbrev A0:K:=.i k6
abbrev LW:K:=.o k7
abbrev k16:K:=.i k7
abbrev CF:K:=.o k8
abbrev FV:K:=.i k8
abbrev A1:K:=.o k9
abbrev FW:K:=.i k9
abbrev FX:K:=.o qg
abbrev VT:K:=.i qg
abbrev LX:K:=.o qh
abbrev VU:K:=.i qh
abbrev VV:K:=.o rS
abbrev k28:K:=.i uY
abbrev k29:K:=.o A0
abbrev k30:K:=.i A0
abbrev k31:K:=.o LW
abbrev VW:K:=.i LW
abbrev k40:K:=.i A1
abbrev k41:K:=.o FW
abbrev k42:K:=.i FW
abbrev k43:K:=.o FX
abbrev k45:K:=.o VT
abbrev k48:K:=.i LX
abbrev k49:K:=.o VU
abbrev k50:K:=.i VU
abbrev LY:K:=.o VV
abbrev LZ:K:=.i VV
abbrev L3:K:=.o (.i rS)
abbrev aaC:K:=.o (.o k43)
section
def bm(b:K)(h h':Hf):Prop:=∀k:K,k.num≠b.num->h' k=h k
def Ext.ab{h h1 h2:Hf}{n n1 b:K}(a:Ext h n h1 n1)(e:bm b h1 h2)(hb:n.num<=b.num):Ext h n h2 n1:=
 ⟨a.1,λk c=>by rw[e k (by omega),a.2 k c]⟩
def jh(h:Hf)(b:K)(o:Option O):bm b h (hp h b o):=λk a=>mL _ _ (p7 a)
def bm.row{h h':Hf}{b k:K}(e:bm b h h')(a:k.num≠b.num):gS h' k=gS h k:=by unfold gS;rw[e k a]
def κ.ab{h h':Hf}{n b:K}{z:Nat}{v:V}{len:Nat}{cs:List V}(a:κ h n z v len cs)(e:bm b h h')(hb:v=.ns\/v.blk.num≠b.num):κ h' n z v len cs:=by
 obtain⟨h1,h2⟩:=a;refine⟨h1,h2.imp id λ⟨⟨c,o,d,f,g⟩,row,j,p⟩=>⟨⟨c,o,d,f,g⟩,row,?_,p⟩⟩;cases hb with
 | inl hb=>cases f with
  | inl f=>rw[hb]at f;cases f.1
  | inr f=>rw[hb]at f;cases f
 | inr hb=>rw[e.row hb];exact j
def κ.cP{h:Hf}{n:K}{z:Nat}{v:V}{len:Nat}{cs:List V}(a:κ h n z v len cs):v=.ns\/v.blk.num<n.num:=by
 obtain⟨h1,h2⟩:=a;cases h2 with
 | inl h=>exact Or.inl h.1
 | inr h=>obtain⟨⟨b,o,c,f,d⟩,_⟩:=h;right;cases f with | inl e=>rw[e.1];exact d | inr e=>rw[e];exact d
def cE{h:Hf}{b:K}{l:List V}{e fz:Nat}(a:h b=some (.c l e fz)){o:Nat}{v:V}(hv:nth l o=some v)(sz:Nat):bj h false sz (.p b o)=some v:=by simp only[bj,gS,a,O.row,cond_false];exact hv
def bc{h:Hf}{b:K}{l l':List V}{e fz:Nat}(a:h b=some (.c l e fz)){o sz:Nat}(hv:ch l o sz=some l'):bj h true sz (.p b o)=some (.a l'):=by simp only[bj,gS,a,O.row,cond_true,hv]
def mR{l:List V}{o:Nat}{v:V}{l':List V}(h1:v.cells=[v])(h2:v.one=true)(hp:cL [v] l o=some l'):ju l 0 o 1 v=some l':=by unfold ju;rw[h1];simp only[aD,h2];exact hp
def jE{E:Env}{h:Hf}{k:K}{agg:Bool}{sz:Nat}{p v:V}(h1:lk E k=some p)(h2:bj h agg sz p=some v):j6 [.cell k agg sz] E h=some v:=by simp only[j6,ph,rp,h1,h2]
def A2{E:Env}{h:Hf}{k k':K}{agg a:Bool}{sz b:Nat}{p v c v':V}(h1:lk E k=some p)(h2:bj h agg sz p=some v)(d:lk E k'=some c)(e:bj h a b c=some v'):
 j6 [.cell k agg sz,.cell k' a b] E h=some (.u [v,v']):=by
 simp only[j6,ph,rp,h1,h2,d,e]
section
variable {C:Nat->Option aI}{E:Env}{h:Hf}{n:K}{q:Env->Hf->K->Prop}{m:Made}{P:List PR}{B:List PB}{i:Nat}{l:List AO}{Ξ:Nat}{k:V->Hf->K->Prop}
def O8{e:Nat}{zs:List V}(a:∀h' n',n'.num=n.num+1->h' n=some (.c zs e 0)->Ext h n h' n'->k (.p n 0) h' n'):SO C (.new e zs) E h n k:=
 Yt (a _ _ (K.eF n) (eQ _ _ _) ((Ext.refl h n).new _))
def aaD{e:Nat}{x:au}{v:V}{cs:List V}(a:ge E x=some v)(b:v.cells=cs)(d:aD cs=true)(f:∀h' n',n'.num=n.num+1->h' n=some (.c cs e 0)->Ext h n h' n'->k (.p n 0) h' n'):SO C (.box e x) E h n k:=
 Yu a b d (f _ _ (K.eF n) (eQ _ _ _) ((Ext.refl h n).new _))
def O9{e len:Nat}{zs l:List V}{ps:List (Nat×Nat×au)}(hl:gq E zs ps=some l)(a:∀h' n',n'.num=n.num+1->h' n=some (.c l e 0)->Ext h n h' n'->k (.sl n 0 len len) h' n'):SO C (.bsl e zs len ps) E h n k:=
 Yv hl (a _ _ (K.eF n) (eQ _ _ _) ((Ext.refl h n).new _))
def aaE{e esz bytes m:Nat}{z:List V}{x y:au}{i j:IntKind}(a:ge E x=some (.i i (m:Nat)))(b:ge E y=some (.i j (m:Nat)))(hb:m*bytes<=140737488355328)(d:m<=9223372036854775807)
 (f:∀h' n',n'.num=n.num+1->h' n=some (.c (dL z m) e 0)->Ext h n h' n'->k (.sl n 0 m m) h' n'):SO C (.msl e esz bytes z x y) E h n k:=
 Yw a b hb d (f _ _ (K.eF n) (eQ _ _ _) ((Ext.refl h n).new _))
def Pa{sz:Nat}{a x:au}{b:K}{o e fz:Nat}{l l':List V}{v:V}(d:ge E a=some (.p b o))(f:ge E x=some v)(hb:h b=some (.c l e fz))(hl:ju l fz o sz v=some l')
 (g:∀h',h' b=some (.c l' e fz)->bm b h h'->k (.u []) h' n):SO C (.st sz a x) E h n k:=
 Yy d f hb hl (g _ (eQ _ _ _) (jh _ _ _))
def aaF{e z bytes m:Nat}{c new:List V}{s x:au}{v:V}(hs:ge E s=some .ns)(d:ge E x=some v)(a:κ h n z v m new)(h1:m*bytes<=1000000000)(h2:bytes<=100000)(f:m<=1000000000)
 (b:∀v' h' n',ea h' e z v' m new->Ext h n h' n'->(v'=.ns\/n.num<=v'.blk.num/\v'.blk.num<n'.num)->k v' h' n'):SO C (.app e z bytes c false s x) E h n k:=
 YD hs d a h1 h2 f
  (λh0=>b .ns h n (by
   have:=a.1;rw[h0]at this ⊢;have:new=[]:=by simpa using this
   rw[this];exact ea.ns h e z) (Ext.refl h n) (Or.inl U))
  (λh0=>b _ _ _ ⟨a.1,Or.inr ⟨h0,n,rfl,eQ _ _ _⟩⟩ ((Ext.refl h n).new _) (Or.inr ⟨φ _,by rw[K.eF];exact Nat.lt_succ_self _⟩))
def HQ{e z bytes m len:Nat}{d new cs:List V}{s x:au}{o v:V}(hs:ge E s=some o)(c:ea h e z o len cs)(f:ge E x=some v)(a:κ h n z v m new)(h1:(len+m)*bytes<=1000000000)(h2:bytes<=100000)(g:len+m<=1000000000)
 (hm:0<m)(j:aD new=true)(p:o=.ns\/o.blk.num<n.num)
 (r:∀v' h' n',ea h' e z v' (len+m) (cs++new)->v'.blk=n->n'.num=n.num+1->(∀b:K,b.num<n.num->(o=.ns\/b.num≠o.blk.num)->h' b=h b)->k v' h' n'):SO C (.app e z bytes d false s x) E h n k:=
 YE hs c f a h1 h2 g hm j (λh' g1 t=>r _ h' _ ⟨by rw[gp,c.1,a.1,fM],Or.inr ⟨by omega,n,rfl,t⟩⟩ rfl (K.eF n) (λb hb u=>g1 b hb (u.imp id λe=>p7 e))) p
def aX{d:K}{x y:au}{c:dE}{ik:IntKind}{a b:Int}(e:ge E x=some (.i ik a))(f:ge E y=some (.i ik b))(g:mg ik (a+b))(j:WO C l ((d,.i ik (a+b))::E) h n q):WO C (⟨some d,.bin .add c x y,none,Ξ⟩::l) E h n q:=cr (NL e f g j)
def sG{d:K}{x y:au}{c:dE}{ik:IntKind}{a b:Int}(e:ge E x=some (.i ik a))(f:ge E y=some (.i ik b))(g:mg ik (a+b))(j:WD C l (i+1) ((d,.i ik (a+b))::E) h n m P B q):WD C (⟨some d,.bin .add c x y,none,Ξ⟩::l) i E h n m P B q:=fN U (NL e f g j)
def gG{d:K}{x y:au}{c:dE}{ik:IntKind}{a b:Int}(e:ge E x=some (.i ik a))(f:ge E y=some (.i ik b))(g:mg ik (a - b))(j:WO C l ((d,.i ik (a - b))::E) h n q):WO C (⟨some d,.bin .sub c x y,none,Ξ⟩::l) E h n q:=cr (NM e f g j)
def yn{d:K}{x y:au}{c:dE}{ik:IntKind}{a b:Int}(e:ge E x=some (.i ik a))(f:ge E y=some (.i ik b))(g:mg ik (a - b))(j:WD C l (i+1) ((d,.i ik (a - b))::E) h n m P B q):WD C (⟨some d,.bin .sub c x y,none,Ξ⟩::l) i E h n m P B q:=fN U (NM e f g j)
def aaG{d:K}{x y:au}{c:dE}{ik:IntKind}{a b:Int}(e:ge E x=some (.i ik a))(f:ge E y=some (.i ik b))(g:mg ik (a*b))(j:WO C l ((d,.i ik (a*b))::E) h n q):WO C (⟨some d,.bin .mul c x y,none,Ξ⟩::l) E h n q:=cr (NN e f g j)
def aaH{d:K}{x y:au}{c:dE}{ik:IntKind}{a b:Int}(e:ge E x=some (.i ik a))(f:ge E y=some (.i ik b))(g:mg ik (a*b))(j:WD C l (i+1) ((d,.i ik (a*b))::E) h n m P B q):WD C (⟨some d,.bin .mul c x y,none,Ξ⟩::l) i E h n m P B q:=fN U (NN e f g j)
def aS{d:K}{x y:au}{c:dE}{ik:IntKind}{a b:Int}(e:ge E x=some (.i ik a))(f:ge E y=some (.i ik b))(g:WO C l ((d,.b (decide (a=b)))::E) h n q):WO C (⟨some d,.bin .eql c x y,none,Ξ⟩::l) E h n q:=cr (NQ e f g)
def wy{d:K}{x y:au}{c:dE}{ik:IntKind}{a b:Int}(e:ge E x=some (.i ik a))(f:ge E y=some (.i ik b))(g:WD C l (i+1) ((d,.b (decide (a=b)))::E) h n m P B q):WD C (⟨some d,.bin .eql c x y,none,Ξ⟩::l) i E h n m P B q:=fN U (NQ e f g)
def dR{d:K}{x y:au}{c:dE}{ik:IntKind}{a b:Int}(e:ge E x=some (.i ik a))(f:ge E y=some (.i ik b))(g:WO C l ((d,.b (!decide (a=b)))::E) h n q):WO C (⟨some d,.bin .neq c x y,none,Ξ⟩::l) E h n q:=cr (NR e f g)
def A3{d:K}{x y:au}{c:dE}{ik:IntKind}{a b:Int}(e:ge E x=some (.i ik a))(f:ge E y=some (.i ik b))(g:WD C l (i+1) ((d,.b (!decide (a=b)))::E) h n m P B q):WD C (⟨some d,.bin .neq c x y,none,Ξ⟩::l) i E h n m P B q:=fN U (NR e f g)
def ay{d:K}{x y:au}{c:dE}{ik:IntKind}{a b:Int}(e:ge E x=some (.i ik a))(f:ge E y=some (.i ik b))(g:WO C l ((d,.b (decide (a<b)))::E) h n q):WO C (⟨some d,.bin .lss c x y,none,Ξ⟩::l) E h n q:=cr (NS e f g)
def HR{d:K}{x y:au}{c:dE}{ik:IntKind}{a b:Int}(e:ge E x=some (.i ik a))(f:ge E y=some (.i ik b))(g:WD C l (i+1) ((d,.b (decide (a<b)))::E) h n m P B q):WD C (⟨some d,.bin .lss c x y,none,Ξ⟩::l) i E h n m P B q:=fN U (NS e f g)
def mS{d:K}{x y:au}{c:dE}{ik:IntKind}{a b:Int}(e:ge E x=some (.i ik a))(f:ge E y=some (.i ik b))(g:WO C l ((d,.b (decide (a<=b)))::E) h n q):WO C (⟨some d,.bin .leq c x y,none,Ξ⟩::l) E h n q:=cr (Yl e f g)
def bC{d:K}{x y:au}{c:dE}{ik:IntKind}{a b:Int}(e:ge E x=some (.i ik a))(f:ge E y=some (.i ik b))(g:WO C l ((d,.b (decide (b<a)))::E) h n q):WO C (⟨some d,.bin .gtr c x y,none,Ξ⟩::l) E h n q:=cr (NT e f g)
def sH{d:K}{x y:au}{c:dE}{ik:IntKind}{a b:Int}(e:ge E x=some (.i ik a))(f:ge E y=some (.i ik b))(g:WD C l (i+1) ((d,.b (decide (b<a)))::E) h n m P B q):WD C (⟨some d,.bin .gtr c x y,none,Ξ⟩::l) i E h n m P B q:=fN U (NT e f g)
def dj{d:K}{x y:au}{c:dE}{ik:IntKind}{a b:Int}(e:ge E x=some (.i ik a))(f:ge E y=some (.i ik b))(g:WO C l ((d,.b (decide (b<=a)))::E) h n q):WO C (⟨some d,.bin .geq c x y,none,Ξ⟩::l) E h n q:=cr (NU e f g)
def yo{d:K}{x y:au}{c:dE}{ik:IntKind}{a b:Int}(e:ge E x=some (.i ik a))(f:ge E y=some (.i ik b))(g:WD C l (i+1) ((d,.b (decide (b<=a)))::E) h n m P B q):WD C (⟨some d,.bin .geq c x y,none,Ξ⟩::l) i E h n m P B q:=fN U (NU e f g)
def A4{d:K}{x y:au}{c:dE}{ik:IntKind}{a b:Nat}(e:ge E x=some (.i ik a))(f:ge E y=some (.i ik b))(hb:0<b)(g:mg ik ((a / b:Nat):Int))(j:WO C l ((d,.i ik ((a / b:Nat):Int))::E) h n q):WO C (⟨some d,.bin .quo c x y,none,Ξ⟩::l) E h n q:=cr (NO e f hb g j)
def Pb{d:K}{x y:au}{c:dE}{ik:IntKind}{a b:Nat}(e:ge E x=some (.i ik a))(f:ge E y=some (.i ik b))(hb:0<b)(g:mg ik ((a / b:Nat):Int))(j:WD C l (i+1) ((d,.i ik ((a / b:Nat):Int))::E) h n m P B q):WD C (⟨some d,.bin .quo c x y,none,Ξ⟩::l) i E h n m P B q:=fN U (NO e f hb g j)
def D8{d:K}{x y:au}{c:dE}{ik:IntKind}{a b:Nat}(e:ge E x=some (.i ik a))(f:ge E y=some (.i ik b))(hb:0<b)(g:WO C l ((d,.i ik ((a % b:Nat):Int))::E) h n q):WO C (⟨some d,.bin .rem c x y,none,Ξ⟩::l) E h n q:=cr (NP e f hb g)
def aaI{d:K}{x y:au}{c:dE}{ik:IntKind}{a b:Nat}(e:ge E x=some (.i ik a))(f:ge E y=some (.i ik b))(hb:0<b)(g:WD C l (i+1) ((d,.i ik ((a % b:Nat):Int))::E) h n m P B q):WD C (⟨some d,.bin .rem c x y,none,Ξ⟩::l) i E h n m P B q:=fN U (NP e f hb g)
def eC{d:K}{x y:au}{c:dE}{a b:S}(e:ge E x=some (st a))(f:ge E y=some (st b))(g:WO C l ((d,.b (decide (a=b)))::E) h n q):WO C (⟨some d,.bin .eql c x y,none,Ξ⟩::l) E h n q:=cr (NY e f g)
def aaJ{d:K}{x y:au}{c:dE}{a b:S}(e:ge E x=some (st a))(f:ge E y=some (st b))(g:WD C l (i+1) ((d,.b (decide (a=b)))::E) h n m P B q):WD C (⟨some d,.bin .eql c x y,none,Ξ⟩::l) i E h n m P B q:=fN U (NY e f g)
def rA{d:K}{x y:au}{c:dE}{a b:S}(e:ge E x=some (st a))(f:ge E y=some (st b))(g:WO C l ((d,.b (!decide (a=b)))::E) h n q):WO C (⟨some d,.bin .neq c x y,none,Ξ⟩::l) E h n q:=cr (NZ e f g)
def Pc{d:K}{x y:au}{c:dE}{a b:S}(e:ge E x=some (st a))(f:ge E y=some (st b))(g:WD C l (i+1) ((d,.b (!decide (a=b)))::E) h n m P B q):WD C (⟨some d,.bin .neq c x y,none,Ξ⟩::l) i E h n m P B q:=fN U (NZ e f g)
def D9{d:K}{x y:au}{c:dE}{a b:S}(e:ge E x=some (st a))(f:ge E y=some (st b))(hl:a.length+b.length<=9223372036854775807)(g:WO C l ((d,st (a++b))::E) h n q):WO C (⟨some d,.bin .add c x y,none,Ξ⟩::l) E h n q:=cr (Yn e f hl g)
def Pd{d:K}{x y:au}{a b:Bool}(c:ge E x=some (.b a))(e:ge E y=some (.b b))(f:WO C l ((d,.b (a==b))::E) h n q):WO C (⟨some d,.bin .eql (.one .bool) x y,none,Ξ⟩::l) E h n q:=cr (Ym c e f)
def HS{d:K}{x y:au}{a b:Bool}(c:ge E x=some (.b a))(e:ge E y=some (.b b))(f:WO C l ((d,.b (!(a==b)))::E) h n q):WO C (⟨some d,.bin .neq (.one .bool) x y,none,Ξ⟩::l) E h n q:=cr (NX c e f)
def aaK{d:K}{x y:au}{a b:Bool}(c:ge E x=some (.b a))(e:ge E y=some (.b b))(f:WD C l (i+1) ((d,.b (!(a==b)))::E) h n m P B q):WD C (⟨some d,.bin .neq (.one .bool) x y,none,Ξ⟩::l) i E h n m P B q:=fN U (NX c e f)
def nP{d:K}{op:BinOp}{x y:au}{c:dE}{a b v:V}(e:ge E x=some a)(f:ge E y=some b)(hv:j5 op c a b=some v)(g:WO C l ((d,v)::E) h n q):WO C (⟨some d,.bin op c x y,none,Ξ⟩::l) E h n q:=cr (j7 e f hv g)
def aaL{d:K}{op:BinOp}{x y:au}{c:dE}{a b v:V}(e:ge E x=some a)(f:ge E y=some b)(hv:j5 op c a b=some v)(g:WD C l (i+1) ((d,v)::E) h n m P B q):WD C (⟨some d,.bin op c x y,none,Ξ⟩::l) i E h n m P B q:=fN U (j7 e f hv g)
def γ{d:K}{x:au}{v:V}(a:ge E x=some v)(b:WO C l ((d,v)::E) h n q):WO C (⟨some d,.mv x,none,Ξ⟩::l) E h n q:=cr (NI a b)
def ak{d:K}{x:au}{v:V}(a:ge E x=some v)(b:WD C l (i+1) ((d,v)::E) h n m P B q):WD C (⟨some d,.mv x,none,Ξ⟩::l) i E h n m P B q:=fN U (NI a b)
def aU{d:K}{c x y:au}{b:Bool}{v:V}(a:ge E c=some (.b b))(hb:b=true)(e:ge E x=some v)(f:WO C l ((d,v)::E) h n q):WO C (⟨some d,.pick c x y,none,Ξ⟩::l) E h n q:=cr (NJ a hb e f)
def yp{d:K}{c x y:au}{b:Bool}{v:V}(a:ge E c=some (.b b))(hb:b=true)(e:ge E x=some v)(f:WD C l (i+1) ((d,v)::E) h n m P B q):WD C (⟨some d,.pick c x y,none,Ξ⟩::l) i E h n m P B q:=fN U (NJ a hb e f)
def aL{d:K}{c x y:au}{b:Bool}{v:V}(a:ge E c=some (.b b))(hb:b=false)(e:ge E y=some v)(f:WO C l ((d,v)::E) h n q):WO C (⟨some d,.pick c x y,none,Ξ⟩::l) E h n q:=cr (NK a hb e f)
def pz{d:K}{c x y:au}{b:Bool}{v:V}(a:ge E c=some (.b b))(hb:b=false)(e:ge E y=some v)(f:WD C l (i+1) ((d,v)::E) h n m P B q):WD C (⟨some d,.pick c x y,none,Ξ⟩::l) i E h n m P B q:=fN U (NK a hb e f)
def kS{d:K}{x:au}{j ik:IntKind}{a:Int}(b:ge E x=some (.i ik a))(c:mg j a)(e:WO C l ((d,.i j a)::E) h n q):WO C (⟨some d,.cv (.toInt j) x,none,Ξ⟩::l) E h n q:=cr (NV b c e)
def rB{d:K}{x:au}{j ik:IntKind}{a:Int}(b:ge E x=some (.i ik a))(c:mg j a)(e:WD C l (i+1) ((d,.i j a)::E) h n m P B q):WD C (⟨some d,.cv (.toInt j) x,none,Ξ⟩::l) i E h n m P B q:=fN U (NV b c e)
def bZ{d:K}{x:au}{b:Bool}(a:ge E x=some (.b b))(c:WO C l ((d,.b (!b))::E) h n q):WO C (⟨some d,.un .not x,none,Ξ⟩::l) E h n q:=cr (NW a c)
def nQ{d:K}{x:au}{b:Bool}(a:ge E x=some (.b b))(c:WD C l (i+1) ((d,.b (!b))::E) h n m P B q):WD C (⟨some d,.un .not x,none,Ξ⟩::l) i E h n m P B q:=fN U (NW a c)
def kc{d:K}{x y:au}{ik:IntKind}{s:S}{j:Nat}(a:ge E x=some (st s))(b:ge E y=some (.i ik (j:Nat)))(hj:j<s.length)(c:WO C l ((d,.i .u8 (s[j].toNat:Nat))::E) h n q):WO C (⟨some d,.idx none x y,none,Ξ⟩::l) E h n q:=cr (N0 a b hj c)
def HT{d:K}{x y:au}{ik:IntKind}{s:S}{j:Nat}(a:ge E x=some (st s))(b:ge E y=some (.i ik (j:Nat)))(hj:j<s.length)(c:WD C l (i+1) ((d,.i .u8 (s[j].toNat:Nat))::E) h n m P B q):WD C (⟨some d,.idx none x y,none,Ξ⟩::l) i E h n m P B q:=fN U (N0 a b hj c)
def wz{d:K}{x:au}{lo hi:Option au}{s:S}{a b:Nat}(c:ge E x=some (st s))(e:bd E 0 lo=some a)(f:bd E s.length hi=some b)(h1:a<=b)(h2:b<=s.length)(g:WO C l ((d,st ((s.drop a).take (b - a)))::E) h n q):WO C (⟨some d,.sli .str x lo hi none,none,Ξ⟩::l) E h n q:=cr (N1 c e f h1 h2 g)
def A5{d:K}{x:au}{lo hi:Option au}{s:S}{a b:Nat}(c:ge E x=some (st s))(e:bd E 0 lo=some a)(f:bd E s.length hi=some b)(h1:a<=b)(h2:b<=s.length)(g:WD C l (i+1) ((d,st ((s.drop a).take (b - a)))::E) h n m P B q):WD C (⟨some d,.sli .str x lo hi none,none,Ξ⟩::l) i E h n m P B q:=fN U (N1 c e f h1 h2 g)
def bF{d:K}{x:au}{j:Nat}{vs:List V}{v:V}(a:ge E x=some (.u vs))(hv:nth vs j=some v)(b:WO C l ((d,v)::E) h n q):WO C (⟨some d,.ext x j,none,Ξ⟩::l) E h n q:=cr (N2 a hv b)
def yq{d:K}{x:au}{j:Nat}{vs:List V}{v:V}(a:ge E x=some (.u vs))(hv:nth vs j=some v)(b:WD C l (i+1) ((d,v)::E) h n m P B q):WD C (⟨some d,.ext x j,none,Ξ⟩::l) i E h n m P B q:=fN U (N2 a hv b)
def sI{d:K}{x:au}{o sz:Nat}{vs:List V}{v:V}(b:ge E x=some (.a vs))(hv:nth vs o=some v)(c:WO C l ((d,v)::E) h n q):WO C (⟨some d,.fld false o sz x,none,Ξ⟩::l) E h n q:=cr (Yp b hv c)
def ji{d:K}{zs vs:List V}{ps:List (Nat×Nat×au)}(hl:gq E zs ps=some vs)(b:WO C l ((d,.a vs)::E) h n q):WO C (⟨some d,.bld zs ps,none,Ξ⟩::l) E h n q:=cr (N3 hl b)
def qi{d:K}{zs vs:List V}{ps:List (Nat×Nat×au)}(hl:gq E zs ps=some vs)(b:WD C l (i+1) ((d,.a vs)::E) h n m P B q):WD C (⟨some d,.bld zs ps,none,Ξ⟩::l) i E h n m P B q:=fN U (N3 hl b)
def rC{d:K}{f:Nat}{x y:List au}{vs ws:List V}(a:qG E x=some vs)(b:qG E y=some ws)(c:WO C l ((d,.f f vs ws)::E) h n q):WO C (⟨some d,.mfn f x y,none,Ξ⟩::l) E h n q:=cr (N4 a b c)
def aaM{d:K}{f:Nat}{x y:List au}{vs ws:List V}(a:qG E x=some vs)(b:qG E y=some ws)(c:WD C l (i+1) ((d,.f f vs ws)::E) h n m P B q):WD C (⟨some d,.mfn f x y,none,Ξ⟩::l) i E h n m P B q:=fN U (N4 a b c)
def aaN{d:K}{x:au}{b:K}{o:Nat}(a:ge E x=some (.p b o))(c:WO C l ((d,.p b o)::E) h n q):WO C (⟨some d,.nck x,none,Ξ⟩::l) E h n q:=cr (Yq a c)
def HU{d:K}{x y:au}{ik:IntKind}{a b:Int}(c:ge E x=some (.i ik a))(e:ge E y=some (.i ik b))(f:WO C l ((d,.i ik (max a b))::E) h n q):WO C (⟨some d,.mm true [x,y],none,Ξ⟩::l) E h n q:=cr (N5 c e f)
def aaO{d:K}{x y:au}{ik:IntKind}{a b:Int}(c:ge E x=some (.i ik a))(e:ge E y=some (.i ik b))(f:WD C l (i+1) ((d,.i ik (max a b))::E) h n m P B q):WD C (⟨some d,.mm true [x,y],none,Ξ⟩::l) i E h n m P B q:=fN U (N5 c e f)
def σ{d:K}{off:Nat}{x:au}{b:K}{o:Nat}(a:ge E x=some (.p b o))(c:WO C l ((d,.p b (o+off))::E) h n q):WO C (⟨some d,.fad off x,none,Ξ⟩::l) E h n q:=cr (N7 a c)
def bG{d:K}{off:Nat}{x:au}{b:K}{o:Nat}(a:ge E x=some (.p b o))(c:WD C l (i+1) ((d,.p b (o+off))::E) h n m P B q):WD C (⟨some d,.fad off x,none,Ξ⟩::l) i E h n m P B q:=fN U (N7 a c)
def bN{d:K}{x:au}{s:S}(a:ge E x=some (st s))(b:WO C l ((d,.i .i64 (s.length:Nat))::E) h n q):WO C (⟨some d,.len 0 x,none,Ξ⟩::l) E h n q:=cr (Yo a b)
def aB{d:K}{z:Nat}{x y:au}{v:V}{len j:Nat}{ik:IntKind}{cs:List V}{h0:Hf}{n0:K}(b:ge E x=some v)(c:ge E y=some (.i ik (j:Nat)))(a:κ h0 n0 z v len cs)(hj:j<len)(e:WO C l ((d,.p v.blk (v.off+j*z))::E) h n q):WO C (⟨some d,.iad none z x y,none,Ξ⟩::l) E h n q:=cr (Oa b c a hj e)
def cK{d:K}{z:Nat}{x y:au}{v:V}{len j:Nat}{ik:IntKind}{cs:List V}{h0:Hf}{n0:K}(b:ge E x=some v)(c:ge E y=some (.i ik (j:Nat)))(a:κ h0 n0 z v len cs)(hj:j<len)(e:WD C l (i+1) ((d,.p v.blk (v.off+j*z))::E) h n m P B q):WD C (⟨some d,.iad none z x y,none,Ξ⟩::l) i E h n m P B q:=fN U (Oa b c a hj e)
def al{d:K}{z:Nat}{x:au}{v:V}{len:Nat}{cs:List V}{h0:Hf}{n0:K}(b:ge E x=some v)(a:κ h0 n0 z v len cs)(c:WO C l ((d,.i .i64 (len:Nat))::E) h n q):WO C (⟨some d,.len 1 x,none,Ξ⟩::l) E h n q:=cr (Yz b a c)
def ξ{d:K}{agg:Bool}{sz:Nat}{x:au}{p v:V}(a:ge E x=some p)(hv:bj h agg sz p=some v)(b:WO C l ((d,v)::E) h n q):WO C (⟨some d,.ld agg sz x,none,Ξ⟩::l) E h n q:=cr (Yx a hv b)
def bA{d:K}{e:Nat}{zs:List V}(a:∀h' n',n'.num=n.num+1->h' n=some (.c zs e 0)->Ext h n h' n'->WO C l ((d,.p n 0)::E) h' n' q):WO C (⟨some d,.new e zs,none,Ξ⟩::l) E h n q:=cr (O8 a)
def ux{d:K}{e:Nat}{zs:List V}(a:∀h' n',n'.num=n.num+1->h' n=some (.c zs e 0)->Ext (fE h Ξ m) n h' n'->WD C l (i+1) ((d,.p n 0)::E) (jQ h h' Ξ m) n' ((n,i)::m) P B q):WD C (⟨some d,.new e zs,none,Ξ⟩::l) i E h n m P B q:=O2 U (O8 a)
def cR{d:K}{e:Nat}{x:au}{v:V}{cs:List V}(a:ge E x=some v)(b:v.cells=cs)(f:aD cs=true)(g:∀h' n',n'.num=n.num+1->h' n=some (.c cs e 0)->Ext h n h' n'->WO C l ((d,.p n 0)::E) h' n' q):WO C (⟨some d,.box e x,none,Ξ⟩::l) E h n q:=cr (aaD a b f g)
def eg{d:K}{e len:Nat}{zs vs:List V}{ps:List (Nat×Nat×au)}(hl:gq E zs ps=some vs)(a:∀h' n',n'.num=n.num+1->h' n=some (.c vs e 0)->Ext h n h' n'->WO C l ((d,.sl n 0 len len)::E) h' n' q):WO C (⟨some d,.bsl e zs len ps,none,Ξ⟩::l) E h n q:=cr (O9 hl a)
def lP{d:K}{e len:Nat}{zs vs:List V}{ps:List (Nat×Nat×au)}(hl:gq E zs ps=some vs)(a:∀h' n',n'.num=n.num+1->h' n=some (.c vs e 0)->Ext (fE h Ξ m) n h' n'->WD C l (i+1) ((d,.sl n 0 len len)::E) (jQ h h' Ξ m) n' ((n,i)::m) P B q):WD C (⟨some d,.bsl e zs len ps,none,Ξ⟩::l) i E h n m P B q:=O2 U (O9 hl a)
def pA{d:K}{e esz bytes c:Nat}{z:List V}{x y:au}{ik a:IntKind}(b:ge E x=some (.i ik (c:Nat)))(f:ge E y=some (.i a (c:Nat)))(hb:c*bytes<=140737488355328)(g:c<=9223372036854775807)(j:∀h' n',n'.num=n.num+1->h' n=some (.c (dL z c) e 0)->Ext h n h' n'->WO C l ((d,.sl n 0 c c)::E) h' n' q):WO C (⟨some d,.msl e esz bytes z x y,none,Ξ⟩::l) E h n q:=cr (aaE b f hb g j)
def aH{sz:Nat}{a x:au}{b:K}{o e fz:Nat}{vs ws:List V}{v:V}(d:ge E a=some (.p b o))(f:ge E x=some v)(hb:h b=some (.c vs e fz))(hl:ju vs fz o sz v=some ws)(g:∀h',h' b=some (.c ws e fz)->bm b h h'->WO C l E h' n q):WO C (⟨none,.st sz a x,none,Ξ⟩::l) E h n q:=cr (Pa d f hb hl g)
def eT{sz:Nat}{a x:au}{b:K}{o e fz:Nat}{vs ws:List V}{v:V}(d:ge E a=some (.p b o))(f:ge E x=some v)(hb:(fE h Ξ m) b=some (.c vs e fz))(hl:ju vs fz o sz v=some ws)(g:∀h',h' b=some (.c ws e fz)->bm b (fE h Ξ m) h'->WD C l (i+1) E (jQ h h' Ξ m) n m P (⟨i,Ξ,h,jQ h h' Ξ m⟩::B) q):WD C (⟨none,.st sz a x,none,Ξ⟩::l) i E h n m P B q:=AX U (Pa d f hb hl g)
def yr{d:K}{e z bytes c:Nat}{b new:List V}{s x:au}{v:V}(hs:ge E s=some .ns)(f:ge E x=some v)(a:κ h n z v c new)(h1:c*bytes<=1000000000)(h2:bytes<=100000)(g:c<=1000000000)(j:∀v' h' n',ea h' e z v' c new->Ext h n h' n'->(v'=.ns\/n.num<=v'.blk.num/\v'.blk.num<n'.num)->WO C l ((d,v')::E) h' n' q):WO C (⟨some d,.app e z bytes b false s x,none,Ξ⟩::l) E h n q:=cr (aaF hs f a h1 h2 g j)
def jF{d:K}{e z bytes c len:Nat}{f new cs:List V}{s x:au}{o v:V}(hs:ge E s=some o)(g:ea h e z o len cs)(j:ge E x=some v)(a:κ h n z v c new)(h1:(len+c)*bytes<=1000000000)(h2:bytes<=100000)(p:len+c<=1000000000)(hm:0<c)(r:aD new=true)(t:o=.ns\/o.blk.num<n.num)(u:∀v' h' n',ea h' e z v' (len+c) (cs++new)->v'.blk=n->n'.num=n.num+1->(∀b:K,b.num<n.num->(o=.ns\/b.num≠o.blk.num)->h' b=h b)->WO C l ((d,v')::E) h' n' q):WO C (⟨some d,.app e z bytes f false s x,none,Ξ⟩::l) E h n q:=cr (HQ hs g j a h1 h2 p hm r t u)
def Pe{d:K}{e z bytes c len:Nat}{f new cs:List V}{s x:au}{o v:V}(hs:ge E s=some o)(g:ea (fE h Ξ m) e z o len cs)(j:ge E x=some v)(a:κ (fE h Ξ m) n z v c new)(h1:(len+c)*bytes<=1000000000)(h2:bytes<=100000)(p:len+c<=1000000000)(hm:0<c)(r:aD new=true)(t:o=.ns\/o.blk.num<n.num)(u:∀v' h' n',ea h' e z v' (len+c) (cs++new)->v'.blk=n->n'.num=n.num+1->(∀b:K,b.num<n.num->(o=.ns\/b.num≠o.blk.num)->h' b=fE h Ξ m b)->WD C l (i+1) ((d,v')::E) (jQ h h' Ξ m) n' m P (⟨i,Ξ,h,jQ h h' Ξ m⟩::B) q):WD C (⟨some d,.app e z bytes f false s x,none,Ξ⟩::l) i E h n m P B q:=AX U (HQ hs g j a h1 h2 p hm r t u)
def A6{d:K}{z:Nat}{x:au}{lo hi:Option au}{v:V}{len a b:Nat}{cs:List V}(c:ge E x=some v){n0:K}(s:κ h n0 z v len cs)(e:bd E 0 lo=some a)(f:bd E len hi=some b)(h1:a<=b)(h2:b<=len)
 (g:∀v',κ h n0 z v' (b - a) ((cs.drop (a*z)).take ((b - a)*z))->v'.len=b - a/\v'.blk=v.blk/\(v=.ns->v'=.ns)->WO C l ((d,v')::E) h n q):WO C (⟨some d,.sli (.sl z) x lo hi none,none,Ξ⟩::l) E h n q:=cr (Ob c s e f h1 h2 g)
def A7{d:K}{z:Nat}{x:au}{lo hi:Option au}{v:V}{len a b:Nat}{cs:List V}(c:ge E x=some v){n0:K}(s:κ (fE h Ξ m) n0 z v len cs)(e:bd E 0 lo=some a)(f:bd E len hi=some b)(h1:a<=b)(h2:b<=len)
 (g:∀v',κ (fE h Ξ m) n0 z v' (b - a) ((cs.drop (a*z)).take ((b - a)*z))->v'.len=b - a/\v'.blk=v.blk/\(v=.ns->v'=.ns)->WD C l (i+1) ((d,v')::E) h n m P B q):WD C (⟨some d,.sli (.sl z) x lo hi none,none,Ξ⟩::l) i E h n m P B q:=fN U (Ob c s e f h1 h2 g)
def aaP{d:K}{z:Nat}{x hi mx:au}{v:V}{len:Nat}{cs:List V}{b c:IntKind}(e:ge E x=some v){n0:K}(a:κ h n0 z v len cs)(f:ge E hi=some (.i b (len:Nat)))(g:ge E mx=some (.i c (len:Nat)))
 (j:∀v',κ h n0 z v' len cs->(v'.len=len/\v'.blk=v.blk/\(v=.ns->v'=.ns))->WO C l ((d,v')::E) h n q):WO C (⟨some d,.sli (.sl z) x none (some hi) (some mx),none,Ξ⟩::l) E h n q:=cr (YC e a f g j)
def ψ{d:K}{f:au}{xs:List au}{a:V}{vs:List V}(hf:ge E f=some a)(hl:qG E xs=some vs)(b:ν C a vs h n (λv h' n'=>WO C l ((d,v)::E) h' n' q)):WO C (⟨some d,.lj f xs,none,Ξ⟩::l) E h n q:=cr (N6 hf hl b)
def aY{d:K}{f:au}{xs:List au}{a:V}{vs:List V}(hf:ge E f=some a)(hl:qG E xs=some vs)(b:ν C a vs (fE h Ξ m) n (λv h' n'=>WD C l (i+1) ((d,v)::E) (jQ h h' Ξ m) n' m P (⟨i,Ξ,h,jQ h h' Ξ m⟩::B) q)):WD C (⟨some d,.lj f xs,none,Ξ⟩::l) i E h n m P B q:=AX U (N6 hf hl b)
end
end
section
section
variable {C:Nat->Option aI}{E:Env}{h:Hf}{n:K}
def ν.y{k:K}{vs:List V}{T:Tr V}{E1:Env}{ps:List K}{bY body:AC}{Q:V->Hf->K->Prop}(d:h k=some (.lp true .normal T ps bY body))(q:Le E T)(hb:jB ps vs E=some E1)(hl:ps.length=vs.length)
 (s:WC C bY E1 h n (λex E2 h2 e=>ex=.normal/\h2 k=h k/\WC C body E2 (hp h2 k (some (.lp false .normal T ps bY body))) e (λex E3 a c=>
  a k=some (.lp false .normal T ps bY body)/\ex.pf=false/\Q (.b ex.hU) (hp a k (some (.lp ex.hU ex T ps bY body))) c))):ν C (.y k) vs h n Q:=by
 intro H g;obtain⟨T1,h1,h2⟩:=NF q hb;obtain⟨r,E2,⟨f0,a⟩,t,i,j,l⟩:=s T1 H h2 g;obtain⟨ex,T2,A,H2,e⟩:=r;simp only at i j l;subst i;obtain⟨r,E3,⟨f1,u⟩,B,m,o,p⟩:=l T2 (H2.put (some (.lp false .normal T ps bY body)) k) t (hY _ _ _);obtain⟨ex,T3,D,H3,c⟩:=r;simp only at m o p;have v:H.get k=some (.lp true .normal T ps bY body):=by rw[g];exact d
 have w:H2.get k=some (.lp true .normal T ps bY body):=by rw[j];exact d
 have x:Nat.beq ps.length vs.length=true:=by rw[hl,cB];simp
 refine⟨.b ex.hU,H3.put (some (.lp ex.hU ex T ps bY body)) k,c,eR.step ⟨max f0 f1,λf hf=>?_⟩,by rw[hY];exact p⟩;have g1:=a f (by omega);have z:=u f (by omega);simp only[bh,v,h1,x,cond_true,g1,w,z,m,o,cond_false]
def Iter(C:Nat->Option aI)(a:V)(F:Hf->K->Prop)(ys:List (List V)):Prop:=
 ∀(y:V) (I:Nat->Hf->K->Prop) (D:Hf->K->Prop) (h:Hf) (n:K),(∀i h n h' n',I i h n->Ext h n h' n'->I i h' n')->(∀i h n,I i h n->F h n)->(∀i (hi:i<ys.length) h n,I i h n->ν C y ys[i] h n (λv h' n'=>(v=.b true/\I (i+1) h' n')\/(v=.b false/\D h' n')))->I 0 h n->ν C a [y] h n (λv h' n'=>I ys.length h' n'\/D h' n')
def VX(k:K)(o:Option O)(I:Hf->K->Prop)(D:Ex->Hf->K->Prop):Ex->Env->Hf->K->Prop
 | .normal,_,h,n=>k.num<n.num/\h k=o/\I h n
 | .ret,_,h,n=>k.num<n.num/\h k=o/\D .ret h n
 | .exit i,_,h,n=>k.num<n.num/\h k=o/\D (.exit i) h n
 | .panic _,_,_,_=>False
def sJ{f:au}{l:V}{ps:List K}{bY body:AC}{Q:Ex->Env->Hf->K->Prop}{F:Hf->K->Prop}{ys:List (List V)}(hf:ge E f=some l)(it:Iter C l F ys)
 (I:Nat->Hf->K->Prop)(D:Ex->Hf->K->Prop)
 (s:∀i h1 n1 h' n',I i h1 n1->Ext h1 n1 h' n'->I i h' n')
 (hB:∀i h1 n1 h',I i h1 n1->bm n h1 h'->I i h' n1)
 (t:∀i h n,I i h n->F h n)
 (hl:∀i (hi:i<ys.length),ps.length=ys[i].length)
 (h0:∀h',bm n h h'->I 0 h' n.succ)
 (u:∀i (hi:i<ys.length) h1 n1 E1,n.num<n1.num->I i h1 n1->jB ps ys[i] E=some E1->WC C bY E1 h1 n1 (λex E2 h2 m=>ex=.normal/\h2 n=h1 n/\∀c,bm n h2 c->WC C body E2 c m (VX n (c n) (I (i+1)) D)))
 (w:∀h' n',n.num<n'.num->I ys.length h' n'->Q .normal E h' n')
 (x:∀ex h' n' h2,n.num<n'.num->D ex h' n'->bm n h' h2->Q ex E h2 n'):WC C (.ox f ps bY body) E h n Q:=by
 intro T H b z;let J:Nat->Hf->K->Prop:=λi h' n'=>n.num<n'.num/\I i h' n'/\h' n=some (.lp true .normal T ps bY body);let G:Hf->K->Prop:=λh' n'=>n.num<n'.num/\∃ex,(ex.pf=false/\ex.hU=false)/\h' n=some (.lp false ex T ps bY body)/\∃h2,bm n h2 h'/\D ex h2 n';have key:=it (.y n) J G (hp h n (some (.lp true .normal T ps bY body))) n.succ
  (λi h n h' n' hj he=>⟨ep hj.1 he.1,s _ _ _ _ _ hj.2.1 he,by rw[he.2 _ hj.1];exact hj.2.2⟩)
  (λi h n hj=>t i h n hj.2.1)
  (λi hi h1 n1 hj=>by
   have A:∃E1,jB ps ys[i] E=some E1:=by
    have:∀(ps:List K) (vs:List V) (E:Env),ps.length=vs.length->∃E1,jB ps vs E=some E1:=by
     intro ps
     induction ps with
     | nil=>intro vs E hl;cases vs with | nil=>exact⟨E,rfl⟩ | cons v vs=>simp at hl
     | cons k ps ih=>intro vs E hl;cases vs with | nil=>simp at hl | cons v vs=>exact ih vs _ (by simpa using hl)
    exact this _ _ _ (hl i hi)
   obtain⟨E1,o⟩:=A;refine ν.y hj.2.2 b o (hl i hi) ?_;refine DO (u i hi h1 n1 E1 hj.1 hj.2.1 o) ?_;intro ex E2 h2 m d;refine⟨d.1,d.2.1,?_⟩;refine DO (d.2.2 _ (jh h2 n _)) ?_;intro ex E3 p N a;rw[eQ]at a;cases ex with
   | normal=>exact⟨a.2.1,rfl,Or.inl ⟨rfl,a.1,hB _ _ _ _ a.2.2 (jh _ _ _),eQ _ _ _⟩⟩
   | ret=>exact⟨a.2.1,rfl,Or.inr ⟨rfl,a.1,.ret,⟨rfl,rfl⟩,eQ _ _ _,p,jh _ _ _,a.2.2⟩⟩
   | exit id=>exact⟨a.2.1,rfl,Or.inr ⟨rfl,a.1,.exit id,⟨rfl,rfl⟩,eQ _ _ _,p,jh _ _ _,a.2.2⟩⟩
   | panic v=>exact a.elim)
  ⟨by rw[K.eF];omega,h0 _ (jh _ _ _),eQ _ _ _⟩
 obtain⟨v,H',n',⟨f0,h1⟩,h2⟩:=key (H.put (some (.lp true .normal T ps bY body)) n) (by rw[hY,z]);cases h2 with
 | inl h2=>
  obtain⟨g1,e,g⟩:=h2;refine⟨⟨.normal,T,.q,H'.put none n,n'⟩,E,eR.step ⟨f0,λf j=>?_⟩,b,?_⟩
  ·simp only[bh,b.ge hf,h1 f j,g,Ex.pf,cond_false]
  ·simp only[hY];exact w _ _ g1 (hB _ _ _ _ e (jh _ _ _))
 | inr h2=>
  obtain⟨g1,ex,⟨e,g⟩,B,h2,L,M⟩:=h2;refine⟨⟨ex,T,.q,H'.put none n,n'⟩,E,eR.step ⟨f0,λf j=>?_⟩,b,?_⟩
  ·simp only[bh,b.ge hf,h1 f j,B,e,g,Bool.or_self,cond_false]
  ·simp only[hY];exact x _ _ _ _ g1 M (λk r=>by rw[mL _ _ (p7 r),L k r])
end
end
section
variable {C:Nat->Option aI}{E:Env}{h:Hf}{n:K}
def Pf(C:Nat->Option aI)(a:V)(b:K)(c0:Option O)(ys:List (List V)):Prop:=
 ∀(y:V) (I:Nat->Hf->K->Prop) (D:Hf->K->Prop) (h:Hf) (n:K),(∀i h n h' n',I i h n->Ext h n h' n'->I i h' n')->(∀i h n h',I i h n->bm b h h'->I i h' n)->b.num<n.num->h b=c0->(∀i (hi:i<ys.length) h n,b.num<n.num->I i h n->ν C y ys[i] h n (λv h' n'=>n.num<=n'.num/\h' b=h b/\((v=.b true/\I (i+1) h' n')\/(v=.b false/\D h' n'))))->I 0 h n->ν C a [y] h n (λv h' n'=>I ys.length h' n'\/D h' n')
def aaQ(k b:K)(n0:K)(o ob:Option O)(I:Hf->K->Prop)(D:Ex->Hf->K->Prop):Ex->Env->Hf->K->Prop
 | .normal,_,h,n=>n0.num<=n.num/\h k=o/\h b=ob/\I h n
 | .ret,_,h,n=>n0.num<=n.num/\h k=o/\h b=ob/\D .ret h n
 | .exit i,_,h,n=>n0.num<=n.num/\h k=o/\h b=ob/\D (.exit i) h n
 | .panic _,_,_,_=>False
def aaR{f:au}{s:V}{ps:List K}{bY body:AC}{Q:Ex->Env->Hf->K->Prop}{b:K}{c0:Option O}{ys:List (List V)}(hf:ge E f=some s)(it:Pf C s b c0 ys)(U:b.num<n.num)(w:h b=c0)
 (I:Nat->Hf->K->Prop)(D:Ex->Hf->K->Prop)
 (x:∀i h1 n1 h' n',I i h1 n1->Ext h1 n1 h' n'->I i h' n')
 (hB:∀i h1 n1 h',I i h1 n1->bm n h1 h'->I i h' n1)
 (z:∀i h1 n1 h',I i h1 n1->bm b h1 h'->I i h' n1)
 (hl:∀i (hi:i<ys.length),ps.length=ys[i].length)
 (h0:∀h',bm n h h'->I 0 h' n.succ)
 (A:∀i (hi:i<ys.length) h1 n1 E1,n.num<n1.num->I i h1 n1->jB ps ys[i] E=some E1->WC C bY E1 h1 n1 (λex E2 h2 e=>ex=.normal/\n1.num<=e.num/\h2 n=h1 n/\h2 b=h1 b/\∀g,bm n h2 g->WC C body E2 g e (aaQ n b e (g n) (g b) (I (i+1)) D)))
 (B:∀h' n',n.num<n'.num->I ys.length h' n'->Q .normal E h' n')
 (F:∀ex h' n' h2,n.num<n'.num->D ex h' n'->bm n h' h2->Q ex E h2 n'):WC C (.ox f ps bY body) E h n Q:=by
 intro T H d L;let J:Nat->Hf->K->Prop:=λi h' n'=>n.num<n'.num/\I i h' n'/\h' n=some (.lp true .normal T ps bY body);let G:Hf->K->Prop:=λh' n'=>n.num<n'.num/\∃ex,(ex.pf=false/\ex.hU=false)/\h' n=some (.lp false ex T ps bY body)/\∃h2,bm n h2 h'/\D ex h2 n';have key:=it (.y n) J G (hp h n (some (.lp true .normal T ps bY body))) n.succ
  (λi h n h' n' hj he=>⟨ep hj.1 he.1,x _ _ _ _ _ hj.2.1 he,by rw[he.2 _ hj.1];exact hj.2.2⟩)
  (λi h1 n1 h' hj he=>⟨hj.1,z _ _ _ _ hj.2.1 he,by rw[he _ (by omega)];exact hj.2.2⟩)
  (by rw[K.eF];omega)
  (by rw[mL _ _ (p7 (by omega))];exact w)
  (λi hi h1 n1 W hj=>by
   have M:∃E1,jB ps ys[i] E=some E1:=by
    have:∀(ps:List K) (vs:List V) (E:Env),ps.length=vs.length->∃E1,jB ps vs E=some E1:=by
     intro ps
     induction ps with
     | nil=>intro vs E hl;cases vs with | nil=>exact⟨E,rfl⟩ | cons v vs=>simp at hl
     | cons k ps ih=>intro vs E hl;cases vs with | nil=>simp at hl | cons v vs=>exact ih vs _ (by simpa using hl)
    exact this _ _ _ (hl i hi)
   obtain⟨E1,t⟩:=M;refine ν.y hj.2.2 d t (hl i hi) ?_;refine DO (A i hi h1 n1 E1 hj.1 hj.2.1 t) ?_;intro ex E2 h2 e c;refine⟨c.1,c.2.2.1,?_⟩;have X:=c.2.1;have Y:=hj.1;refine DO (c.2.2.2.2 _ (jh h2 n _)) ?_;intro ex E3 j Z a;have N:∀(o:Option O),hp h2 n o b=h2 b:=λo=>mL _ _ (p7 (by omega));have l:∀(o:Option O),hp j n o b=j b:=λo=>mL _ _ (p7 (by omega));rw[eQ,N]at a;cases ex with
   | normal=>exact⟨a.2.1,rfl,by have:=a.1;omega,by rw[l,a.2.2.1,c.2.2.2.1],Or.inl ⟨rfl,by have:=a.1;omega,hB _ _ _ _ a.2.2.2 (jh _ _ _),eQ _ _ _⟩⟩
   | ret=>exact⟨a.2.1,rfl,by have:=a.1;omega,by rw[l,a.2.2.1,c.2.2.2.1],Or.inr ⟨rfl,by have:=a.1;omega,.ret,⟨rfl,rfl⟩,eQ _ _ _,j,jh _ _ _,a.2.2.2⟩⟩
   | exit id=>exact⟨a.2.1,rfl,by have:=a.1;omega,by rw[l,a.2.2.1,c.2.2.2.1],Or.inr ⟨rfl,by have:=a.1;omega,.exit id,⟨rfl,rfl⟩,eQ _ _ _,j,jh _ _ _,a.2.2.2⟩⟩
   | panic v=>exact a.elim)
  ⟨by rw[K.eF];omega,h0 _ (jh _ _ _),eQ _ _ _⟩
 obtain⟨v,H',n',⟨f0,h1⟩,h2⟩:=key (H.put (some (.lp true .normal T ps bY body)) n) (by rw[hY,L]);cases h2 with
 | inl h2=>
  obtain⟨g1,m,p⟩:=h2;refine⟨⟨.normal,T,.q,H'.put none n,n'⟩,E,eR.step ⟨f0,λf r=>?_⟩,d,?_⟩
  ·simp only[bh,d.ge hf,h1 f r,p,Ex.pf,cond_false]
  ·simp only[hY];exact B _ _ g1 (hB _ _ _ _ m (jh _ _ _))
 | inr h2=>
  obtain⟨g1,ex,⟨m,p⟩,P,h2,R,S⟩:=h2;refine⟨⟨ex,T,.q,H'.put none n,n'⟩,E,eR.step ⟨f0,λf r=>?_⟩,d,?_⟩
  ·simp only[bh,d.ge hf,h1 f r,P,m,p,Bool.or_self,cond_false]
  ·simp only[hY];exact F _ _ _ _ g1 S (λk u=>by rw[mL _ _ (p7 u),R k u])
end
section
def nC(k:IntKind):List Nat->List V
 | []=>[]
 | a::l=>.i k (a:Nat)::nC k l
def uC:S->List V
 | []=>[]
 | a::l=>.i .u8 (a.toNat:Nat)::uC l
section
variable {k:IntKind}
def HX(l:List Nat):(nC k l).length=l.length:=by induction l<;>simp_all [nC]
def Ph(l:List Nat):nC k l=cO k (l.map λ(a:Nat)=>(a:Int)):=by induction l<;>simp_all [nC,cO]
def aaS:∀{l:List Nat} {i:Nat} (h:i<l.length),nth (nC k l) i=some (.i k (l[i]:Nat)):=by
 intro l
 induction l with
 | nil=>intro i h;simp at h
 | cons a l ih=>intro i h;cases i with
  | zero=>rfl
  | succ i=>simp only[nC,nth,pb];exact ih (by simpa using h)
def Pj:∀{l:S} {i:Nat} (h:i<l.length),nth (uC l) i=some (.i .u8 (l[i].toNat:Nat)):=by
 intro l
 induction l with
 | nil=>intro i h;simp at h
 | cons a l ih=>intro i h;cases i with
  | zero=>rfl
  | succ i=>simp only[uC,nth,pb];exact ih (by simpa using h)
def HY(a b:List Nat):nC k (a++b)=nC k a++nC k b:=by induction a<;>simp_all [nC]
def Pk(a b:S):uC (a++b)=uC a++uC b:=by induction a<;>simp_all [uC]
def aaT(l:List Nat)(i:Nat):(nC k l).take i=nC k (l.take i):=by
 induction l generalizing i with
 | nil=>simp[nC]
 | cons a l ih=>cases i<;>simp_all [nC]
def aaU(l:List Nat)(i:Nat):(nC k l).drop i=nC k (l.drop i):=by
 induction l generalizing i with
 | nil=>simp[nC]
 | cons a l ih=>cases i<;>simp_all [nC]
def aaV(l:List Nat):aD (nC k l)=true:=by induction l<;>simp_all [nC,aD,V.one]
def aaW(x:Nat):∀(l:List Nat) (i:Nat),(nC k l).set i (.i k (x:Nat))=nC k (l.set i x):=by
 intro l
 induction l with
 | nil=>intro i;rfl
 | cons a l ih=>intro i;cases i with
  | zero=>rfl
  | succ i=>simp only[nC,ra,ih]
def wA(m:Nat):dL [.i k 0] m=nC k (List.replicate m 0):=by
 induction m with
 | zero=>rfl
 | succ m ih=>simp only[dL,ih,ub,nC,pc,List.nil_append];rfl
end
def aF(h:Hf)(n:K)(k:IntKind)(v:V)(l:List Nat):Prop:=κ h n 1 v l.length (nC k l)
section
variable {h h':Hf}{n n':K}{k:IntKind}{v:V}{l:List Nat}
def aF.ext(a:aF h n k v l)(e:Ext h n h' n'):aF h' n' k v l:=κ.ext a e
def aF.get(a:aF h n k v l){i:Nat}(hi:i<l.length)(sz:Nat):bj h false sz (.p v.blk (v.off+i*1))=some (.i k (l[i]:Nat)):=by rw[jz];exact κ.get a (aaS hi) sz
def aF.nil:aF h n k .ns []:=κ.ns h n 1
def aF.ab{b:K}(a:aF h n k v l)(e:bm b h h')(hb:v=.ns\/v.blk.num≠b.num):aF h' n k v l:=κ.ab a e hb
end
def κ.at_{h0 h:Hf}{n0 n:K}{z:Nat}{v:V}{len:Nat}{cs:List V}(a:κ h0 n0 z v len cs)(e:Ext h0 n0 h n):κ h n0 z v len cs:=by
 obtain⟨h1,h2⟩:=a;refine⟨h1,h2.imp id λ⟨⟨b,o,c,d,f⟩,row,g,i⟩=>⟨⟨b,o,c,d,f⟩,row,?_,i⟩⟩;have:v.blk=b:=by cases d with | inl e=>rw[e.1];rfl | inr e=>rw[e];rfl
 rw[e.row (by rw[this];exact f)];exact g
def κ.up{h:Hf}{n0 n:K}{z:Nat}{v:V}{len:Nat}{cs:List V}(a:κ h n0 z v len cs)(e:n0.num<=n.num):κ h n z v len cs:=a.ext ⟨e,λ_ _=>rfl⟩
def κ.A8{h h':Hf}{n0 b:K}{z:Nat}{v:V}{len:Nat}{cs:List V}(a:κ h n0 z v len cs)(e:bm b h h')(hb:n0.num<=b.num):κ h' n0 z v len cs:=a.at_ (n:=n0) ((Ext.refl h n0).ab e hb)
def aF.at_{h0 h:Hf}{n0 n:K}{k:IntKind}{v:V}{l:List Nat}(a:aF h0 n0 k v l)(e:Ext h0 n0 h n):aF h n0 k v l:=κ.at_ a e
def aF.up{h:Hf}{n0 n:K}{k:IntKind}{v:V}{l:List Nat}(a:aF h n0 k v l)(e:n0.num<=n.num):aF h n k v l:=κ.up a e
def aF.A8{h h':Hf}{n0 b:K}{k:IntKind}{v:V}{l:List Nat}(a:aF h n0 k v l)(e:bm b h h')(hb:n0.num<=b.num):aF h' n0 k v l:=κ.A8 a e hb
def aF.sub{h:Hf}{n0:K}{k:IntKind}{v:V}{l:List Nat}{i j:Nat}(a:κ h n0 1 v (j - i) (((nC k l).drop (i*1)).take ((j - i)*1)))(hj:j<=l.length):aF h n0 k v ((l.drop i).take (j - i)):=by
 rw[jz,jz,aaU,aaT]at a;unfold aF;have:((l.drop i).take (j - i)).length=j - i:=by simp;omega
 rw[this];exact a
def iz{v w:V}(hv:v.one=true)(a:w.one=true):aD [v,w]=true:=by simp only[aD,hv,a];rfl
def Ea{α:Type}(v:α):∀{l:List α} {i:Nat},i<l.length->cL [v] l i=some (l.set i v):=by
 intro l
 induction l with
 | nil=>intro i h;simp at h
 | cons a l ih=>
  intro i h;cases i with
  | zero=>simp[cL,over]
  | succ i=>simp only[cL,ih (by simpa using h),ra]
def uy{k:IntKind}{x:Nat}{l:List Nat}{i:Nat}(hi:i<l.length)(o:Nat)(a:o=i):ju (nC k l) 0 o 1 (.i k (x:Nat))=some (nC k (l.set i x)):=by
 subst a;have:ju (nC k l) 0 o 1 (.i k (x:Nat))=cL [.i k (x:Nat)] (nC k l) o:=by simp[ju,V.cells,aD,V.one,fK]
 rw[this,Ea _ (by rw[HX];exact hi),aaW]
section
variable {C:Nat->Option aI}{E:Env}{h:Hf}{n:K}{q:Env->Hf->K->Prop}{l:List AO}{Ξ:Nat}{k:V->Hf->K->Prop}
def aaX{e z bytes m len:Nat}{p new cs:List V}{s x:au}{b:K}{v:V}(hs:ge E s=some (.sl b 0 len len))(g:κ h n z (.sl b 0 len len) len cs)(i:ge E x=some v)(a:κ h n z v m new)(h1:(len+m)*bytes<=1000000000)(h2:bytes<=100000)(r:len+m<=1000000000)
 (j:∀v' h' n',κ h' n' z v' (len+m) (cs++new)->Ext h n h' n'->n'.num<=n.num+1->(v'.blk=b\/v'.blk=n)->k v' h' n'):SO C (.app e z bytes p false s x) E h n k:=
 pj (λ_ _ _ _=>rfl) λT H f d=>by
  have o:(!(Nat.ble (Nat.mul (Nat.add (V.len (.sl b 0 len len)) m) bytes) 1000000000&&Nat.ble bytes 100000&&Nat.ble (Nat.add (V.len (.sl b 0 len len)) m) 1000000000))=false:=room (l:=len) (m:=m) (bytes:=bytes) h1 h2 r;by_cases hm:m=0
  ·subst hm;have t:new=[]:=by have:=a.1;simpa using this
   subst t;have hb:Nat.ble (Nat.add len 0) len=true:=fK (φ _);have u:Nat.beq 0 0=true:=rfl;refine⟨.sl b 0 len len,H,n,?_,?_⟩
   ·simp only[simple,f.ge hs,f.ge i,a.elems d,cond_false,r7,o,hb,u,cond_true]
   ·rw[d];exact j _ _ _ (by rw[List.append_nil,hJ];exact g) (Ext.refl h n) (by omega) (Or.inl U)
  ·have hb:Nat.ble (Nat.add len m) len=false:=by rw[iK];simp<;>omega
   refine⟨.su n 0 (len+m) z,H.put (some (.c (cs++new) e 0)) n,n.succ,?_,?_⟩
   ·simp only[simple,f.ge hs,f.ge i,a.elems d,cond_false,r7,o,hb,g.elems d,js];rfl
   ·rw[hY,d];have hl:(cs++new).length=(len+m)*z:=by rw[gp,g.1,a.1,fM]
    refine j _ _ _ ⟨hl,Or.inr ⟨⟨n,0,0,Or.inr U,by rw[K.eF];omega⟩,cs++new,?_,iL hl⟩⟩ ((Ext.refl h n).new _) (by rw[K.eF];omega) (Or.inr U);show gS _ n=_;rw[Ys];rfl
def Pn{d:K}{e z bytes m len:Nat}{c new cs:List V}{s x:au}{b:K}{v:V}(hs:ge E s=some (.sl b 0 len len))(f:κ h n z (.sl b 0 len len) len cs)(g:ge E x=some v)(a:κ h n z v m new)(h1:(len+m)*bytes<=1000000000)(h2:bytes<=100000)(i:len+m<=1000000000)
 (j:∀v' h' n',κ h' n' z v' (len+m) (cs++new)->Ext h n h' n'->n'.num<=n.num+1->(v'.blk=b\/v'.blk=n)->WO C l ((d,v')::E) h' n' q):WO C (⟨some d,.app e z bytes c false s x,none,Ξ⟩::l) E h n q:=cr (aaX hs f g a h1 h2 i j)
def aaY:∀bs:S,ofBytes (uC bs)=some (aT bs):=by
 intro bs
 induction bs with
 | nil=>rfl
 | cons b l ih=>
  have hb:Nat.blt b.toNat 256=true:=by rw[eM];simpa using b.toNat_lt
  show ofBytes (.i .u8 (.ofNat b.toNat)::uC l)=_;simp only[ofBytes,ih,hb,cond_true];rfl
def aaZ{x:au}{v:V}{bs:S}(d:ge E x=some v)(a:κ h n 1 v bs.length (uC bs))(f:k (X.st bs) h n):SO C (.cv .xm x) E h n k:=
 eY (λ_ _ _ _=>rfl) (λT H g i=>by
  have e:=a.elems i;have p:∀l m,v≠.s l m:=by
   intro l m hv;subst hv;obtain⟨_,h2⟩:=a;cases h2 with
   | inl h=>cases h.1
   | inr h=>obtain⟨⟨b,o,c,j,_⟩,_⟩:=h;cases j with | inl e=>cases e.1 | inr e=>cases e
  simp only[simple,g.ge d,oS,e,aaY]) f
def aa0{d:K}{x:au}{v:V}{bs:S}(b:ge E x=some v)(a:κ h n 1 v bs.length (uC bs))(c:WO C l ((d,X.st bs)::E) h n q):WO C (⟨some d,.cv .xm x,none,Ξ⟩::l) E h n q:=cr (aaZ b a c)
def aa1{t:S}(ht:0<t.length):(t[0].toNat<128->rune t.length (aT t)=(t[0].toNat,1))/\(128<=t[0].toNat->128<=(rune t.length (aT t)).1/\(rune t.length (aT t)).1<=1114111/\((rune t.length (aT t)).1<55296\/57344<=(rune t.length (aT t)).1)/\1<=(rune t.length (aT t)).2/\(rune t.length (aT t)).2<=t.length/\∀j (hj:j<t.length),j<(rune t.length (aT t)).2->128<=t[j].toNat):=by
 have i:Nat.mod (aT t) 256=t[0].toNat:=by have:=As t ht;rw[←this];show _=Nat.mod (Nat.div (aT t) (256 ^ 0)) 256;rw[Nat.pow_zero];show _=Nat.mod (aT t / 1) 256;rw[Nat.div_one]
 have c:∀h:1<t.length,Nat.mod (Nat.div (aT t) 256) 256=t[1].toNat:=λh=>As t h;have e:∀h:2<t.length,Nat.mod (Nat.div (aT t) 65536) 256=t[2].toNat:=λh=>As t h;have m:∀h:3<t.length,Nat.mod (Nat.div (aT t) 16777216) 256=t[3].toNat:=λh=>As t h;have hb:=t[0].toNat_lt;unfold rune;simp only[i];constructor
 ·intro h;simp only[eM,h,decide_true,cond_true]
 ·intro h;have o:Nat.blt t[0].toNat 128=false:=by rw[eM];simp<;>omega
  have one:∀j (hj:j<t.length),j<1->128<=t[j].toNat:=λj hj h1=>by
   have:j=0:=by omega
   subst this;exact h
  have bad:128<=((65533,1):Nat×Nat).1/\((65533,1):Nat×Nat).1<=1114111/\(((65533,1):Nat×Nat).1<55296\/57344<=((65533,1):Nat×Nat).1)/\1<=((65533,1):Nat×Nat).2/\((65533,1):Nat×Nat).2<=t.length/\∀j (hj:j<t.length),j<((65533,1):Nat×Nat).2->128<=t[j].toNat:=⟨by omega,by omega,by omega,by omega,ht,one⟩;simp only[o,cond_false];generalize s:Nat.mod (Nat.div (aT t) 256) 256=b1 at*;generalize u:Nat.mod (Nat.div (aT t) 65536) 256=b2 at*;generalize w:Nat.mod (Nat.div (aT t) 16777216) 256=b3 at*;generalize y:t[0].toNat=z at*;simp only[gy,aK,oq,cB,eM,iK,aW];have p:∀x:Nat,Nat.div x 64=x / 64:=λ_=>rfl;simp only[p];split
  ·rename_i h2;obtain⟨_,a,f⟩:=h2;split
   ·rename_i b;refine⟨b,by omega,by omega,by omega,a,λj hj g=>?_⟩;have:j=0\/j=1:=by omega
    rcases this with rfl | rfl
    ·omega
    ·rw[←c a];omega
   ·exact bad
  ·split
   ·rename_i h2;obtain⟨⟨_,a,f⟩,b,g⟩:=h2;split
    ·rename_i d;refine⟨by omega,by omega,by omega,by omega,b,λj hj r=>?_⟩;have:j=0\/j=1\/j=2:=by omega
     rcases this with rfl | rfl | rfl
     ·omega
     ·rw[←c a];omega
     ·rw[←e b];omega
    ·exact bad
   ·split
    ·rename_i h2;obtain⟨⟨⟨_,a,f⟩,b,g⟩,d,r⟩:=h2;split
     ·rename_i A;refine⟨by omega,by omega,by omega,by omega,d,λj hj B=>?_⟩;have:j=0\/j=1\/j=2\/j=3:=by omega
      rcases this with rfl | rfl | rfl | rfl
      ·omega
      ·rw[←c a];omega
      ·rw[←e b];omega
      ·rw[←m d];omega
     ·exact bad
    ·exact bad
def Eb{d:K}{x:au}{s:S}(a:ge E x=some (X.st s))(b:∀h' n',n'.num=n.num+1->h' n=some (.it s.length (aT s) 0)->Ext h n h' n'->WO C l ((d,.p n 0)::E) h' n' q):WO C (⟨some d,.GB false x,none,Ξ⟩::l) E h n q:=
 cr (Au (λ_ _ _ _=>rfl) (λT H c e=>by simp only[simple,c.ge a]) (b _ _ (K.eF n) (eQ _ _ _) ((Ext.refl h n).new _)))
def yt{d:K}{x:au}{b:K}{s:S}{pos:Nat}(a:ge E x=some (.p b 0))(hb:h b=some (.it s.length (aT s) pos))(hp:s.length<=pos)(c:WO C l ((d,.u [.b false])::E) h n q):WO C (⟨some d,.GC true x,none,Ξ⟩::l) E h n q:=
 cr (eY (λ_ _ _ _=>rfl) (λT H e f=>by
  have g:H.get b=some (.it s.length (aT s) pos):=by rw[f];exact hb
  have:Nat.blt pos s.length=false:=by rw[eM];simp<;>omega
  simp only[simple,e.ge a,g,this,cond_false]) c)
structure Rn(s:S)(pos r w:Nat):Prop where
 lt:pos<s.length
 lo:s[pos].toNat<128->r=s[pos].toNat/\w=1
 hi:128<=s[pos].toNat->128<=r/\r<=1114111/\(r<55296\/57344<=r)
 one:1<=w
 le:pos+w<=s.length
 all:128<=s[pos].toNat->∀j (hj:j<s.length),pos<=j->j<pos+w->128<=s[j].toNat
def Ec{d:K}{x:au}{b:K}{s:S}{pos:Nat}(f:ge E x=some (.p b 0))(hb:h b=some (.it s.length (aT s) pos))(hp:pos<s.length)
 (g:∀r w h',Rn s pos r w->h' b=some (.it s.length (aT s) (pos+w))->bm b h h'->WO C l ((d,.u [.b true,.i .i64 (pos:Nat),.i .i32 (r:Nat)])::E) h' n q):WO C (⟨some d,.GC true x,none,Ξ⟩::l) E h n q:=
 cr (pj (λ_ _ _ _=>rfl) (λT H m c=>by
  have o:H.get b=some (.it s.length (aT s) pos):=by rw[c];exact hb
  have t:Nat.blt pos s.length=true:=by rw[eM];simpa using hp
  have ht:0<(s.drop pos).length:=by simp;omega
  have a:=aa1 ht;have y:(s.drop pos)[0]=s[pos]:=by simp
  have hle:(s.drop pos).length=s.length - pos:=by simp
  have z:rune (Nat.sub s.length pos) (Nat.div (aT s) (Nat.pow 256 pos))=rune (s.drop pos).length (aT (s.drop pos)):=by rw[hle];show rune (s.length - pos) (aT s / 256 ^ pos)=_;rw[G7]
  refine⟨_,_,_,by simp only[simple,m.ge f,o,t,cond_true];rfl,?_⟩;rw[hY,c,z];rw[y]at a;refine g _ _ _ ⟨hp,λh=>?_,λh=>?_,?_,?_,λh j hj h1 h2=>?_⟩ (eQ _ _ _) (jh _ _ _)
  ·rw[a.1 h];exact⟨rfl,rfl⟩
  ·have:=a.2 h;exact⟨this.1,this.2.1,this.2.2.1⟩
  ·by_cases h:s[pos].toNat<128
   ·rw[a.1 h];exact φ _
   ·exact(a.2 (by omega)).2.2.2.1
  ·by_cases h:s[pos].toNat<128
   ·rw[a.1 h];exact hp
   ·have:=(a.2 (by omega)).2.2.2.2.1;omega
  ·have:=(a.2 h).2.2.2.2.2 (j - pos) (by omega) (by omega);have e:(s.drop pos)[j - pos]'(by omega)=s[j]:=by
    rw[List.getElem_drop];congr 1;omega
   rw[e]at this;exact this))
def gT{d:K}{x y:au}{e:dE}{ik:IntKind}{a b c:Int}(f:ge E x=some (.i ik a))(g:ge E y=some (.i ik b))(he:a+b=c)(j:mg ik c)(m:WO C l ((d,.i ik c)::E) h n q):WO C (⟨some d,.bin .add e x y,none,Ξ⟩::l) E h n q:=by subst he;exact aX f g j m
def A9{m:Made}{P:List PR}{B:List PB}{i:Nat}{d:K}{x y:au}{e:dE}{ik:IntKind}{a b c:Int}(f:ge E x=some (.i ik a))(g:ge E y=some (.i ik b))(he:a+b=c)(j:mg ik c)(o:WD C l (i+1) ((d,.i ik c)::E) h n m P B q):WD C (⟨some d,.bin .add e x y,none,Ξ⟩::l) i E h n m P B q:=by subst he;exact sG f g j o
def jR{d:K}{x y:au}{e:dE}{ik:IntKind}{a b c:Int}(f:ge E x=some (.i ik a))(g:ge E y=some (.i ik b))(he:a - b=c)(j:mg ik c)(m:WO C l ((d,.i ik c)::E) h n q):WO C (⟨some d,.bin .sub e x y,none,Ξ⟩::l) E h n q:=by subst he;exact gG f g j m
def yu{m:Made}{P:List PR}{B:List PB}{i:Nat}{d:K}{x y:au}{e:dE}{ik:IntKind}{a b c:Int}(f:ge E x=some (.i ik a))(g:ge E y=some (.i ik b))(he:a - b=c)(j:mg ik c)(o:WD C l (i+1) ((d,.i ik c)::E) h n m P B q):WD C (⟨some d,.bin .sub e x y,none,Ξ⟩::l) i E h n m P B q:=by subst he;exact yn f g j o
def uz{d:K}{x y:au}{e:dE}{ik:IntKind}{a b c:Int}(f:ge E x=some (.i ik a))(g:ge E y=some (.i ik b))(he:a*b=c)(j:mg ik c)(m:WO C l ((d,.i ik c)::E) h n q):WO C (⟨some d,.bin .mul e x y,none,Ξ⟩::l) E h n q:=by subst he;exact aaG f g j m
def wB{m:Made}{P:List PR}{B:List PB}{i:Nat}{d:K}{x y:au}{e:dE}{ik:IntKind}{a b c:Int}(f:ge E x=some (.i ik a))(g:ge E y=some (.i ik b))(he:a*b=c)(j:mg ik c)(o:WD C l (i+1) ((d,.i ik c)::E) h n m P B q):WD C (⟨some d,.bin .mul e x y,none,Ξ⟩::l) i E h n m P B q:=by subst he;exact aaH f g j o
end
end
section
section
variable {C:Nat->Option aI}{E:Env}{h:Hf}{n:K}{q:Env->Hf->K->Prop}{l:List AO}{Ξ:Nat}{k:V->Hf->K->Prop}
def aa3{m z i o:Nat}{x y:au}{b:K}{j:IntKind}(c:ge E x=some (.p b o))(d:ge E y=some (.i j (i:Nat)))(hi:i<m)(e:k (.p b (o+i*z)) h n):SO C (.iad (some m) z x y) E h n k:=
 eY (λ_ _ _ _=>rfl) (λT H a r=>by
  have f:az T y=some (.i j (Int.ofNat i)):=a.ge d;have g:Nat.blt i m=true:=by rw[eM];simpa using hi
  simp only[simple,a.ge c,f,g,cond_true];rfl) e
def Ed{d:K}{m z i o:Nat}{x y:au}{b:K}{j:IntKind}(a:ge E x=some (.p b o))(c:ge E y=some (.i j (i:Nat)))(hi:i<m)(e:WO C l ((d,.p b (o+i*z))::E) h n q):WO C (⟨some d,.iad (some m) z x y,none,Ξ⟩::l) E h n q:=cr (aa3 a c hi e)
def aa4{d x:au}{b:K}{z len e:Nat}{bu cs:List V}{v:V}(r:ge E d=some (.sl b 0 len len))(hb:h b=some (.c bu e 0))(j:bu.length=len*z)(t:ge E x=some v)(a:κ h n z v len cs)(D:aD cs=true)
 (u:∀h',h' b=some (.c cs e 0)->bm b h h'->k (.i .i64 (len:Nat)) h' n):SO C (.xn z d x) E h n k:=
 pj (λ_ _ _ _=>rfl) λT H f g=>by
  have w:H.get b=some (.c bu e 0):=by rw[g];exact hb
  have o:cs.length=len*z:=a.1;have y:elems H z (.sl b 0 len len)=some (len,bu):=by have:ch bu 0 (Nat.mul len z)=some bu:=iL j;simp only[elems,rowAt,w,O.row,this]
  have A:=a.elems g;have J:∀l m,V.sl b 0 len len≠.s l m:=λl m h=>by cases h
  have B:(bif Nat.ble len len then len else len)=len:=by cases Nat.ble len len<;>rfl
  by_cases h0:len=0
  ·subst h0;have F:cs=[]:=by simpa using o
   have G:bu=[]:=by simpa using j
   subst F;subst G;refine⟨.i .i64 0,H,n,?_,by rw[g];exact u h hb (λ_ _=>rfl)⟩;have p:Nat.beq (bif Nat.ble 0 0 then 0 else 0) 0=true:=by rw[B];rfl
   simp only[simple,f.ge r,f.ge t,y,A,p,cond_true]
  ·refine⟨.i .i64 (len:Nat),H.put (some (.c cs e 0)) b,n,?_,by rw[hY,g];exact u _ (eQ _ _ _) (jh _ _ _)⟩;have p:Nat.beq len 0=false:=by rw[cB];simp[h0]
   have ht:takeN (Nat.mul len z) cs=some cs:=by
    have:Nat.mul len z=cs.length:=o.symm;rw[this];have key:∀l:List V,takeN l.length l=some l:=by
     intro l;induction l with
     | nil=>rfl
     | cons a l ih=>simp only[dy,takeN,ih]
    exact key cs
   have I:fB H b 0 cs=some (H.put (some (.c cs e 0)) b):=by
    have hp:cL cs bu 0=some cs:=by simp only[cL];exact O6 _ _ (o.trans j.symm)
    simp only[fB,w,Nat.ble,D,hK,cond_true,hp]
   simp only[simple,f.ge r,f.ge t,y,A,B,p,cond_false,ht,I];rfl
def Po{d:K}{f x:au}{b:K}{z len e:Nat}{bu cs:List V}{v:V}(g:ge E f=some (.sl b 0 len len))(hb:h b=some (.c bu e 0))(j:bu.length=len*z)(m:ge E x=some v)(a:κ h n z v len cs)(o:aD cs=true)
 (p:∀h',h' b=some (.c cs e 0)->bm b h h'->WO C l ((d,.i .i64 (len:Nat))::E) h' n q):WO C (⟨some d,.xn z f x,none,Ξ⟩::l) E h n q:=cr (aa4 g hb j m a o p)
end
end
end Go.Ev.X
section
set_option maxRecDepth 1000000
namespace Go.Ev
def AC.l:AC->AC
 | .seq a _=>a
 | .cond _ a _=>a
 | .block _ a=>a
 | .loop a=>a
 | .scope a=>a
 | .ox _ _ a _=>a
 | c=>c
def AC.r:AC->AC
 | .seq _ b=>b
 | .cond _ _ b=>b
 | .ox _ _ _ b=>b
 | c=>c
end Go.Ev
namespace Go.Ev.X
open Go Go.Ev Go.Proofs
def Pp:List (Nat×TI)->Nat->Option TI
 | [],_=>none
 | p::l,t=>bif Nat.beq p.1 t then some p.2 else Pp l t
def iV:List (Nat×TI):=[(297,⟨.iI [(295,0)] true,1,24,[.ns]⟩),(295,⟨.slice 342,1,24,[.ns]⟩),(342,⟨.int .u32,1,4,[.i .u32 0]⟩),(349,⟨.int .u64,1,8,[.i .u64 0]⟩),(85,⟨.slice 3,1,24,[.ns]⟩),(3,⟨.int .i64,1,8,[.i .i64 0]⟩),(87,⟨.iI [(3,0),(9,1),(9,2),(28,3),(85,4)] true,5,88,[.i .i64 0,.s 0 0,.s 0 0,.ns,.ns]⟩),(9,⟨.str,1,16,[.s 0 0]⟩),(23,⟨.slice 87,1,24,[.ns]⟩),(28,⟨.slice 64,1,24,[.ns]⟩),(310,⟨.iI [(4,0),(85,1)] true,2,32,[.b false,.ns]⟩),(38,⟨.iI [(9,0),(23,1)] true,2,40,[.s 0 0,.ns]⟩),(64,⟨.iI [(9,0),(9,1)] true,2,32,[.s 0 0,.s 0 0]⟩),(141,⟨.iI [(87,0),(3,5)] true,6,96,[.i .i64 0,.s 0 0,.s 0 0,.ns,.ns,.i .i64 0]⟩),(4,⟨.bool,1,1,[.b false]⟩),(5,⟨.int .u8,1,1,[.i .u8 0]⟩),(29,⟨.int .i64,1,8,[.i .i64 0]⟩),(39,⟨.iI [(9,0),(23,1)] true,2,40,[.s 0 0,.ns]⟩),(36,⟨.slice 39,1,24,[.ns]⟩),(48,⟨.slice 23,1,24,[.ns]⟩),(97,⟨.slice 38,1,24,[.ns]⟩),(299,⟨.iI [(297,0),(4,1)] true,2,32,[.ns,.b false]⟩),(24,⟨.slice 38,1,24,[.ns]⟩),(203,⟨.slice 5,1,24,[.ns]⟩),(109,⟨.slice 29,1,24,[.ns]⟩),(315,⟨.arr 256 4,256,256,[.b false,.b false,.b false,.b false,.b false,.b false,.b false,.b false,.b false,.b false,.b false,.b false,.b false,.b false,.b false,.b false,.b false,.b false,.b false,.b false,.b false,.b false,.b false,.b false,.b false,.b false,.b false,.b false,.b false,.b false,.b false,.b false,.b false,.b false,.b false,.b false,.b false,.b false,.b false,.b false,.b false,.b false,.b false,.b false,.b false,.b false,.b false,.b false,.b false,.b false,.b false,.b false,.b false,.b false,.b false,.b false,.b false,.b false,.b false,.b false,.b false,.b false,.b false,.b false,.b false,.b false,.b false,.b false,.b false,.b false,.b false,.b false,.b false,.b false,.b false,.b false,.b false,.b false,.b false,.b false,.b false,.b false,.b false,.b false,.b false,.b false,.b false,.b false,.b false,.b false,.b false,.b false,.b false,.b false,.b false,.b false,.b false,.b false,.b false,.b false,.b false,.b false,.b false,.b false,.b false,.b false,.b false,.b false,.b false,.b false,.b false,.b false,.b false,.b false,.b false,.b false,.b false,.b false,.b false,.b false,.b false,.b false,.b false,.b false,.b false,.b false,.b false,.b false,.b false,.b false,.b false,.b false,.b false,.b false,.b false,.b false,.b false,.b false,.b false,.b false,.b false,.b false,.b false,.b false,.b false,.b false,.b false,.b false,.b false,.b false,.b false,.b false,.b false,.b false,.b false,.b false,.b false,.b false,.b false,.b false,.b false,.b false,.b false,.b false,.b false,.b false,.b false,.b false,.b false,.b false,.b false,.b false,.b false,.b false,.b false,.b false,.b false,.b false,.b false,.b false,.b false,.b false,.b false,.b false,.b false,.b false,.b false,.b false,.b false,.b false,.b false,.b false,.b false,.b false,.b false,.b false,.b false,.b false,.b false,.b false,.b false,.b false,.b false,.b false,.b false,.b false,.b false,.b false,.b false,.b false,.b false,.b false,.b false,.b false,.b false,.b false,.b false,.b false,.b false,.b false,.b false,.b false,.b false,.b false,.b false,.b false,.b false,.b false,.b false,.b false,.b false,.b false,.b false,.b false,.b false,.b false,.b false,.b false,.b false,.b false,.b false,.b false,.b false,.b false,.b false,.b false,.b false,.b false,.b false,.b false,.b false,.b false,.b false,.b false,.b false,.b false]⟩),(302,⟨.iI [(299,0),(299,2)] true,4,64,[.ns,.b false,.ns,.b false]⟩),(21,⟨.int .i32,1,4,[.i .i32 0]⟩),(304,⟨.int .u64,1,8,[.i .u64 0]⟩),(157,⟨.iI [(9,0),(3,1),(9,2),(155,3)] true,4,48,[.s 0 0,.i .i64 0,.s 0 0,.nf]⟩),(2,⟨.int .i64,1,8,[.i .i64 0]⟩),(158,⟨.arr 20 157,80,960,[.s 0 0,.i .i64 0,.s 0 0,.nf,.s 0 0,.i .i64 0,.s 0 0,.nf,.s 0 0,.i .i64 0,.s 0 0,.nf,.s 0 0,.i .i64 0,.s 0 0,.nf,.s 0 0,.i .i64 0,.s 0 0,.nf,.s 0 0,.i .i64 0,.s 0 0,.nf,.s 0 0,.i .i64 0,.s 0 0,.nf,.s 0 0,.i .i64 0,.s 0 0,.nf,.s 0 0,.i .i64 0,.s 0 0,.nf,.s 0 0,.i .i64 0,.s 0 0,.nf,.s 0 0,.i .i64 0,.s 0 0,.nf,.s 0 0,.i .i64 0,.s 0 0,.nf,.s 0 0,.i .i64 0,.s 0 0,.nf,.s 0 0,.i .i64 0,.s 0 0,.nf,.s 0 0,.i .i64 0,.s 0 0,.nf,.s 0 0,.i .i64 0,.s 0 0,.nf,.s 0 0,.i .i64 0,.s 0 0,.nf,.s 0 0,.i .i64 0,.s 0 0,.nf,.s 0 0,.i .i64 0,.s 0 0,.nf,.s 0 0,.i .i64 0,.s 0 0,.nf]⟩)]
def ty2:Ty:={ i:=Pp iV,g:=7,b:=205}
def rD(ty:Ty):Code->AC
 | .skip=>.skip
 | .region _ ops draw=>bif draw then .regd (dA ty ops ops.toList (Region.before ops).toList) else .reg (dA ty ops ops.toList [])
 | .seq a b=>.seq (rD ty a) (rD ty b)
 | .cond c a b=>match br ty c with | some c=>.cond c (rD ty a) (rD ty b) | none=>.bad
 | .block id c=>.block id (rD ty c)
 | .loop c=>.loop (rD ty c)
 | .rangeFunc f ps a body=>match br ty f with | some f=>.ox f (ps.toList.map bL) (rD ty a) (rD ty body) | none=>.bad
 | .exit id=>.exit id
 | .scope c=>.scope (rD ty c)
 | .label _=>.skip
 | .ret=>.ret
 | _=>.bad
def Pq(ty:Ty)(fn:Func):AF:=⟨(List.range (fn.params.size+fn.nfree)).map bL,(sc ty fn.results.toList).getD [],match fn.body with | some c=>rD ty c | none=>.bad⟩
abbrev lit(f:Func)(p:Σ' a,Pq ty2 f=a):AF:=p.1
abbrev gO(C:Nat->Option aI)(g:Nat)(a:AF):Prop:=C g=some (.go a)
def f6:AF:=lit Tryz.f6 ⟨_,by conv=>lhs;cbv⟩
def H4:AC:=f6.body.r.r
def Pt:AC:=H4.l.r.l
def H5:AC:=Pt.l
def aa6:AC:=H5.r.l.l.r.l
def aa7:AC:=H5.r.r
def Pu:AC:=H4.r
def f34:AF:=lit Tryz.f34 ⟨_,by conv=>lhs;cbv⟩
def aa8:AC:=f34.body.r.r.l.r.l
def aa9:AC:=f34.body.r.r.r
def f35:AF:=lit Tryz.f35 ⟨_,by conv=>lhs;cbv⟩
def Pv:AC:=f35.body.r.l.r.l
def H6:AC:=Pv.l
def aba:AC:=H6.r.l.l.r.l
def abb:AC:=H6.r.r
def Pw:AC:=f35.body.r.r
def f9:AF:=lit Tryz.f9 ⟨_,by conv=>lhs;cbv⟩
def abc:AC:=f9.body.r.r.l.r.l
def f19:AF:=lit Tryz.f19 ⟨_,by conv=>lhs;cbv⟩
def f38:AF:=lit Tryz.f38 ⟨_,by conv=>lhs;cbv⟩
def f36:AF:=lit Tryz.f36 ⟨_,by conv=>lhs;cbv⟩
def abd:AC:=f36.body.r.l.r.r.l
def Px:AC:=f36.body.r.r
def H7:AC:=Px.l.r.l.r.l
def abe:AC:=H7.l.r.l
def H8:AC:=H7.r
def abf:AC:=H8.r.l.r.l
def H9:AC:=H8.r.r
def f42:AF:=lit Tryz.f42 ⟨_,by conv=>lhs;cbv⟩
def f41:AF:=lit Tryz.f41 ⟨_,by conv=>lhs;cbv⟩
def abg:AC:=f41.body.r.l.r.l
def abh:AC:=f41.body.r.r
def f82:AF:=lit Tryz.f82 ⟨_,by conv=>lhs;cbv⟩
def f165:AF:=lit Tryz.f165 ⟨_,by conv=>lhs;cbv⟩
def abj:AC:=f165.body.r.l
def f97:AF:=lit Tryz.f97 ⟨_,by conv=>lhs;cbv⟩
def f186:AF:=lit Tryz.f186 ⟨_,by conv=>lhs;cbv⟩
def f245:AF:=lit Tryz.f245 ⟨_,by conv=>lhs;cbv⟩
def abk:AC:=f245.body.r.l
def f102:AF:=lit Tryz.f102 ⟨_,by conv=>lhs;cbv⟩
def abl:AC:=f102.body.r.l.l
def abm:AC:=f102.body.r.r
def f98:AF:=lit Tryz.f98 ⟨_,by conv=>lhs;cbv⟩
def abn:AC:=f98.body.r.l.r.l
def abo:AC:=f98.body.r.r
def f56:AF:=lit Tryz.f56 ⟨_,by conv=>lhs;cbv⟩
def f99:AF:=lit Tryz.f99 ⟨_,by conv=>lhs;cbv⟩
def f187:AF:=lit Tryz.f187 ⟨_,by conv=>lhs;cbv⟩
def f246:AF:=lit Tryz.f246 ⟨_,by conv=>lhs;cbv⟩
def f294:AF:=lit Tryz.f294 ⟨_,by conv=>lhs;cbv⟩
def f325:AF:=lit Tryz.f325 ⟨_,by conv=>lhs;cbv⟩
def f247:AF:=lit Tryz.f247 ⟨_,by conv=>lhs;cbv⟩
def abp:AC:=f247.body.r.l.r.l
def f248:AF:=lit Tryz.f248 ⟨_,by conv=>lhs;cbv⟩
def f188:AF:=lit Tryz.f188 ⟨_,by conv=>lhs;cbv⟩
def f221:AF:=lit Tryz.f221 ⟨_,by conv=>lhs;cbv⟩
def f277:AF:=lit Tryz.f277 ⟨_,by conv=>lhs;cbv⟩
def f312:AF:=lit Tryz.f312 ⟨_,by conv=>lhs;cbv⟩
def f209:AF:=lit Tryz.f209 ⟨_,by conv=>lhs;cbv⟩
def f306:AF:=lit Tryz.f306 ⟨_,by conv=>lhs;cbv⟩
def f339:AF:=lit Tryz.f339 ⟨_,by conv=>lhs;cbv⟩
def f355:AF:=lit Tryz.f355 ⟨_,by conv=>lhs;cbv⟩
def f249:AF:=lit Tryz.f249 ⟨_,by conv=>lhs;cbv⟩
def f295:AF:=lit Tryz.f295 ⟨_,by conv=>lhs;cbv⟩
def f250:AF:=lit Tryz.f250 ⟨_,by conv=>lhs;cbv⟩
def f251:AF:=lit Tryz.f251 ⟨_,by conv=>lhs;cbv⟩
def abq:AC:=f251.body.r.r.r.l.r.l.r.l.r.l.r.l
def f296:AF:=lit Tryz.f296 ⟨_,by conv=>lhs;cbv⟩
def f326:AF:=lit Tryz.f326 ⟨_,by conv=>lhs;cbv⟩
def abr:AC:=f326.body.l
def f298:AF:=lit Tryz.f298 ⟨_,by conv=>lhs;cbv⟩
def abt:AC:=f298.body.r.r.r.l.l
def f327:AF:=lit Tryz.f327 ⟨_,by conv=>lhs;cbv⟩
def f328:AF:=lit Tryz.f328 ⟨_,by conv=>lhs;cbv⟩
def f297:AF:=lit Tryz.f297 ⟨_,by conv=>lhs;cbv⟩
def f252:AF:=lit Tryz.f252 ⟨_,by conv=>lhs;cbv⟩
def f253:AF:=lit Tryz.f253 ⟨_,by conv=>lhs;cbv⟩
def abu:AC:=f253.body.r.l.l
def abw:Σ' a,Pq ty2 Tryz.f299=a:=by
 refine⟨?a,?h⟩
 rotate_left
 conv=>
  lhs;whnf
  conv=>arg 1;cbv
  conv=>arg 2;cbv
  arg 3;whnf
  conv=>arg 1;cbv
  arg 2;whnf
  conv=>arg 1;cbv
  arg 2;whnf
  conv=>arg 1;cbv
  arg 2;cbv
def f299:AF:=abw.1
def Py:AC:=f299.body.r.r.r
def Ia:AC:=Py.r.r.r.r
def Ib:AC:=Ia.r.r.l.r.l.r
def Ic:AC:=Ib.l.l.r.r.r.r.l.l
def Pz:AC:=Ic.l
def abx:AC:=Pz.r
def aby:AC:=Ib.l.l.r.r.r.r.r.r.r
def abz:AC:=Ia.r.r.r
def f319:AF:=lit Tryz.f319 ⟨_,by conv=>lhs;cbv⟩
def f347:AF:=lit Tryz.f347 ⟨_,by conv=>lhs;cbv⟩
def f330:AF:=lit Tryz.f330 ⟨_,by conv=>lhs;cbv⟩
def f349:AF:=lit Tryz.f349 ⟨_,by conv=>lhs;cbv⟩
def f329:AF:=lit Tryz.f329 ⟨_,by conv=>lhs;cbv⟩
def f321:AF:=lit Tryz.f321 ⟨_,by conv=>lhs;cbv⟩
def PA:AC:=f321.body.r.r.l.r.l
def PD:AC:=PA.l.r.r.l.l.r.r.r.l
def abA:AC:=PD.l.r.r.l.l
def f331:AF:=lit Tryz.f331 ⟨_,by conv=>lhs;cbv⟩
def f320:AF:=lit Tryz.f320 ⟨_,by conv=>lhs;cbv⟩
def PE:AC:=f320.body.r.r.r.r.l.r.l
def Ie:AC:=PE.l
def abB:AC:=Ie.r.r.l.l.r.r.r.r
def abC:AC:=Ie.r.r.r
def f254:AF:=lit Tryz.f254 ⟨_,by conv=>lhs;cbv⟩
def f44:AF:=lit Tryz.f44 ⟨_,by conv=>lhs;cbv⟩
def f118:AF:=lit Tryz.f118 ⟨_,by conv=>lhs;cbv⟩
def f195:AF:=lit Tryz.f195 ⟨_,by conv=>lhs;cbv⟩
def abD:AC:=f195.body.r.r.r.l.r.l.r.r.l.l.r.l
def abE:AC:=f195.body.r.r.r.r.l.r.l
def f261:AF:=lit Tryz.f261 ⟨_,by conv=>lhs;cbv⟩
def abF:AC:=f261.body.r.l.r.r.r.l.l.r.l
def f145:AF:=lit Tryz.f145 ⟨_,by conv=>lhs;cbv⟩
def f305:AF:=lit Tryz.f305 ⟨_,by conv=>lhs;cbv⟩
def f262:AF:=lit Tryz.f262 ⟨_,by conv=>lhs;cbv⟩
def f263:AF:=lit Tryz.f263 ⟨_,by conv=>lhs;cbv⟩
def abG:AC:=f263.body.r.l.r.l
def f264:AF:=lit Tryz.f264 ⟨_,by conv=>lhs;cbv⟩
def f100:AF:=lit Tryz.f100 ⟨_,by conv=>lhs;cbv⟩
def abH:AC:=f100.body.r.l.r.l
def Ee:AC:=f100.body.r.r
def abI:AC:=Ee.l.r.l
def abJ:AC:=Ee.r
def f106:AF:=lit Tryz.f106 ⟨_,by conv=>lhs;cbv⟩
def f191:AF:=lit Tryz.f191 ⟨_,by conv=>lhs;cbv⟩
def f181:AF:=lit Tryz.f181 ⟨_,by conv=>lhs;cbv⟩
def f241:AF:=lit Tryz.f241 ⟨_,by conv=>lhs;cbv⟩
def abK:AC:=f241.body.r.l.r.l
def abL:AC:=f241.body.r.r
def f101:AF:=lit Tryz.f101 ⟨_,by conv=>lhs;cbv⟩
def abM:AC:=f101.body.r.r.r
def f189:AF:=lit Tryz.f189 ⟨_,by conv=>lhs;cbv⟩
def f103:AF:=lit Tryz.f103 ⟨_,by conv=>lhs;cbv⟩
def abN:AC:=f103.body.r.r.l.r.l.r.l.l.r.l
def abO:AC:=f103.body.r.r.l.r.l.r.l.r
def f39:AF:=lit Tryz.f39 ⟨_,by conv=>lhs;cbv⟩
def abP:AC:=f39.body.r.l.r.r.l
def PF:AC:=f39.body.r.r
def PG:AC:=PF.r.l.r.l
def Ig:AC:=PG.l.r.l.l
def abQ:AC:=Ig.r.l.r
def abR:AC:=Ig.r.r
def f49:AF:=lit Tryz.f49 ⟨_,by conv=>lhs;cbv⟩
def f48:AF:=lit Tryz.f48 ⟨_,by conv=>lhs;cbv⟩
def abS:AC:=f48.body.r.l.r.l
def abT:AC:=f48.body.r.r
def f107:AF:=lit Tryz.f107 ⟨_,by conv=>lhs;cbv⟩
def PH:AC:=f107.body.r.r.l.r.l
def PI:AC:=PH.l
def abU:AC:=PI.r.r
def f109:AF:=lit Tryz.f109 ⟨_,by conv=>lhs;cbv⟩
def abV:AC:=f109.body.r.r.l.r.l
def abW:AC:=f109.body.r.r.r
def f108:AF:=lit Tryz.f108 ⟨_,by conv=>lhs;cbv⟩
def PJ:AC:=f108.body.r.l.r.l.r
def PL:AC:=PJ.r.r
def abX:AC:=PL.r.r.r.r.r.r
def Ef:AC:=f108.body.r.r
def f110:AF:=lit Tryz.f110 ⟨_,by conv=>lhs;cbv⟩
def PM:AC:=f110.body.r.l.r.l
def Ih:AC:=PM.l
def abY:AC:=Ih.r.l.l.r
def abZ:AC:=Ih.r.r
def PN:AC:=f110.body.r.r
def f66:AF:=lit Tryz.f66 ⟨_,by conv=>lhs;cbv⟩
def f111:AF:=lit Tryz.f111 ⟨_,by conv=>lhs;cbv⟩
def ab0:AC:=f111.body.r.r.r
def f192:AF:=lit Tryz.f192 ⟨_,by conv=>lhs;cbv⟩
def f193:AF:=lit Tryz.f193 ⟨_,by conv=>lhs;cbv⟩
def f256:AF:=lit Tryz.f256 ⟨_,by conv=>lhs;cbv⟩
def Ii:AC:=f256.body.r.r.r
def ab1:AC:=Ii.l.r.l
def Eg:AC:=Ii.r
def ab2:AC:=Eg.l.r.l
def ab3:AC:=Eg.r
def f302:AF:=lit Tryz.f302 ⟨_,by conv=>lhs;cbv⟩
def f194:AF:=lit Tryz.f194 ⟨_,by conv=>lhs;cbv⟩
def f257:AF:=lit Tryz.f257 ⟨_,by conv=>lhs;cbv⟩
def ab4:AC:=f257.body.r.r.l.r.l
def ab5:AC:=f257.body.r.r.r
def f260:AF:=lit Tryz.f260 ⟨_,by conv=>lhs;cbv⟩
def PO:AC:=f260.body.r.r.r
def PQ:AC:=PO.l.r.l
def ab6:AC:=PQ.l.r.l.l.r.l.r.l
def f304:AF:=lit Tryz.f304 ⟨_,by conv=>lhs;cbv⟩
def ab7:AC:=f304.body.r.r.l.l
def ab8:AC:=f304.body.r.r.r.r.r
def f259:AF:=lit Tryz.f259 ⟨_,by conv=>lhs;cbv⟩
def ab9:AC:=f259.body.r.r.l.l
def f303:AF:=lit Tryz.f303 ⟨_,by conv=>lhs;cbv⟩
def f332:AF:=lit Tryz.f332 ⟨_,by conv=>lhs;cbv⟩
def PS:AC:=f332.body.r.r.r.l.r.l
def Ba:AC:=PS.l
def PT:AC:=Ba.r.l.l.r.r.r.l.l
def aca:AC:=Ba.r.l.l.r.r.r.r
def PU:AC:=Ba.r.r
def f350:AF:=lit Tryz.f350 ⟨_,by conv=>lhs;cbv⟩
def acb:AC:=f350.body.r.r.l.r.l
def acd:AC:=f350.body.r.r.r
def f351:AF:=lit Tryz.f351 ⟨_,by conv=>lhs;cbv⟩
def f362:AF:=lit Tryz.f362 ⟨_,by conv=>lhs;cbv⟩
def PV:AC:=f362.body.r.r.l.r.l
def PW:AC:=PV.l.r.l.l.r.r.l
def ace:AC:=PW.l.r.l.l
def f352:AF:=lit Tryz.f352 ⟨_,by conv=>lhs;cbv⟩
def f333:AF:=lit Tryz.f333 ⟨_,by conv=>lhs;cbv⟩
def PX:AC:=f333.body.r.r.r.l.r.l
def Ij:AC:=PX.l
def acf:AC:=Ij.r.l.l.r.r.r
def acg:AC:=Ij.r.r
def f335:AF:=lit Tryz.f335 ⟨_,by conv=>lhs;cbv⟩
def f334:AF:=lit Tryz.f334 ⟨_,by conv=>lhs;cbv⟩
def f353:AF:=lit Tryz.f353 ⟨_,by conv=>lhs;cbv⟩
def f336:AF:=lit Tryz.f336 ⟨_,by conv=>lhs;cbv⟩
def f354:AF:=lit Tryz.f354 ⟨_,by conv=>lhs;cbv⟩
def f258:AF:=lit Tryz.f258 ⟨_,by conv=>lhs;cbv⟩
def PY:AC:=f258.body.r.r.r.l.r.l
def ach:AC:=PY.l.r.l.l.r.r.l
def aci:AC:=f258.body.r.r.r.r.r.l.l
def acj:AC:=f258.body.r.r.r.r.r.r.r.r.l.r.l
def f50:AF:=lit Tryz.f50 ⟨_,by conv=>lhs;cbv⟩
def f130:AF:=lit Tryz.f130 ⟨_,by conv=>lhs;cbv⟩
def PZ:AC:=f130.body.r.r.l.r.l
def Eh:AC:=PZ.l
def P2:AC:=Eh.r.l.l.r.l.r
def P3:AC:=Eh.r.r
def Ik:AC:=f130.body.r.r.r
def f112:AF:=lit Tryz.f112 ⟨_,by conv=>lhs;cbv⟩
def ack:AC:=f112.body.r.r.r.l.r.l
def Ei:AC:=f112.body.r.r.r.r
def acm:AC:=Ei.l.r.l
def acn:AC:=Ei.r
def f117:AF:=lit Tryz.f117 ⟨_,by conv=>lhs;cbv⟩
def aco:AC:=f117.body.r.l.r.l
def acp:AC:=f117.body.r.r
def f113:AF:=lit Tryz.f113 ⟨_,by conv=>lhs;cbv⟩
def P4:AC:=f113.body.r.r.l.r.l.r.r.r
def acq:AC:=P4.r.r
def Il:AC:=f113.body.r.r.r
def f114:AF:=lit Tryz.f114 ⟨_,by conv=>lhs;cbv⟩
def P5:AC:=f114.body.r.r.l.r.l
def acr:AC:=P5.l.r.l.l.r.l.r.l
def f68:AF:=lit Tryz.f68 ⟨_,by conv=>lhs;cbv⟩
def f136:AF:=lit Tryz.f136 ⟨_,by conv=>lhs;cbv⟩
def acs:AC:=f136.body.r.r.l.r.l
def f70:AF:=lit Tryz.f70 ⟨_,by conv=>lhs;cbv⟩
def P6:AC:=f70.body.r.r.r.l.r.l
def acu:AC:=P6.l.r.l.l.r.l
def f131:AF:=lit Tryz.f131 ⟨_,by conv=>lhs;cbv⟩
def acv:AC:=f131.body.r.r.l.r.l
def f61:AF:=lit Tryz.f61 ⟨_,by conv=>lhs;cbv⟩
def f64:AF:=lit Tryz.f64 ⟨_,by conv=>lhs;cbv⟩
def acw:AC:=f64.body.r.r.r.l.r.l
def f140:AF:=lit Tryz.f140 ⟨_,by conv=>lhs;cbv⟩
def P7:AC:=f140.body.r.r.l.r.l
def acx:AC:=P7.l.r.r.l.l.r.l.r.l
def f119:AF:=lit Tryz.f119 ⟨_,by conv=>lhs;cbv⟩
def acy:AC:=f119.body.r.r.r.l.r.l
def f196:AF:=lit Tryz.f196 ⟨_,by conv=>lhs;cbv⟩
def acz:AC:=f196.body.r
def f124:AF:=lit Tryz.f124 ⟨_,by conv=>lhs;cbv⟩
def acA:AC:=f124.body.r
def f67:AF:=lit Tryz.f67 ⟨_,by conv=>lhs;cbv⟩
def P8:AC:=f67.body.r.r.r.r.l.r.l
def P9:AC:=P8.l.r.l.l.r.l.r.l
def acB:AC:=P9.l.r.l.l.r.r.r.l.r.l
def f15:AF:=lit Tryz.f15 ⟨_,by conv=>lhs;cbv⟩
def f55:AF:=lit Tryz.f55 ⟨_,by conv=>lhs;cbv⟩
def acC:AC:=f55.body.r.r.l.r.l
def acD:AC:=f55.body.r.r.r
def f11:AF:=lit Tryz.f11 ⟨_,by conv=>lhs;cbv⟩
def acE:AC:=f11.body.r.r.l.r.l
def acF:AC:=f11.body.r.r.r
def f137:AF:=lit Tryz.f137 ⟨_,by conv=>lhs;cbv⟩
def acG:AC:=f137.body.r.r.l.r.l
def acH:AC:=f137.body.r.r.r
def f69:AF:=lit Tryz.f69 ⟨_,by conv=>lhs;cbv⟩
def Qa:AC:=f69.body.r.r.r.l.r.l
def acI:AC:=Qa.l.r.r.l.l.r.r.l
def f3:AF:=lit Tryz.f3 ⟨_,by conv=>lhs;cbv⟩
def acJ:AC:=f3.body.r.r.r.r.r.l.r.l
def f7:AF:=lit Tryz.f7 ⟨_,by conv=>lhs;cbv⟩
def Qb:AC:=f7.body.r.l.r.l
def Im:AC:=Qb.l
def acK:AC:=Im.r.r.l.l.r.r.l
def acL:AC:=Im.r.r.r
def Qc:AC:=f7.body.r.r
def f8:AF:=lit Tryz.f8 ⟨_,by conv=>lhs;cbv⟩
def f37:AF:=lit Tryz.f37 ⟨_,by conv=>lhs;cbv⟩
def f104:AF:=lit Tryz.f104 ⟨_,by conv=>lhs;cbv⟩
def acM:AC:=f104.body.r.r.l.r.l.r.l.r.l
def f190:AF:=lit Tryz.f190 ⟨_,by conv=>lhs;cbv⟩
def acN:AC:=f190.body.r.r.r.r.r.r.l.l
def acO:AC:=f190.body.r.r.r.r.r.r.r
def f255:AF:=lit Tryz.f255 ⟨_,by conv=>lhs;cbv⟩
def f300:AF:=lit Tryz.f300 ⟨_,by conv=>lhs;cbv⟩
def f301:AF:=lit Tryz.f301 ⟨_,by conv=>lhs;cbv⟩
def f105:AF:=lit Tryz.f105 ⟨_,by conv=>lhs;cbv⟩
def acP:AC:=f105.body.r.l.r.l
def acQ:AC:=f105.body.r.r
def f10:AF:=lit Tryz.f10 ⟨_,by conv=>lhs;cbv⟩
def f40:AF:=lit Tryz.f40 ⟨_,by conv=>lhs;cbv⟩
def Qd:AC:=f40.body.r.r.r.l.r.l
def Qe:AC:=Qd.l
def acR:AC:=Qe.r.r
def Qf:AC:=f40.body.r.r.r.r
def f115:AF:=lit Tryz.f115 ⟨_,by conv=>lhs;cbv⟩
def Qg:AC:=f115.body.r.r.l.r.l
def acS:AC:=Qg.l.r.l.l.r.r.l
def acT:AC:=f115.body.r.r.r
def f116:AF:=lit Tryz.f116 ⟨_,by conv=>lhs;cbv⟩
def acU:AC:=f116.body.r.l.r.l
def Qh:AC:=f116.body.r.r
def f13:AF:=lit Tryz.f13 ⟨_,by conv=>lhs;cbv⟩
def acV:AC:=f13.body.r.r.l.r.l
def acW:AC:=f13.body.r.r.r
def f12:AF:=lit Tryz.f12 ⟨_,by conv=>lhs;cbv⟩
def acX:AC:=f12.body.r.r.l.r.l
def f43:AF:=lit Tryz.f43 ⟨_,by conv=>lhs;cbv⟩
def acY:AC:=f43.body.r.l.r.l
def acZ:AC:=f43.body.r.r
def f45:AF:=lit Tryz.f45 ⟨_,by conv=>lhs;cbv⟩
def f47:AF:=lit Tryz.f47 ⟨_,by conv=>lhs;cbv⟩
def Qi:AC:=f47.body.r.r.r.r.r.l.r.l
def Qj:AC:=Qi.r.r.r.r.r.l
def Qk:AC:=Qj.l.r.r.l.l.r.l.r.r.r.l.l
def Ql:AC:=Qk.l
def ac0:AC:=Ql.l.l.r.l
def Qm:AC:=f47.body.r.r.r.r.r.r
def f120:AF:=lit Tryz.f120 ⟨_,by conv=>lhs;cbv⟩
def f198:AF:=lit Tryz.f198 ⟨_,by conv=>lhs;cbv⟩
def f197:AF:=lit Tryz.f197 ⟨_,by conv=>lhs;cbv⟩
def ac1:AC:=f197.body.r.r.l.r.l
def ac2:AC:=f197.body.r.r.r
def f122:AF:=lit Tryz.f122 ⟨_,by conv=>lhs;cbv⟩
def ac3:AC:=f122.body.r
def f123:AF:=lit Tryz.f123 ⟨_,by conv=>lhs;cbv⟩
def f121:AF:=lit Tryz.f121 ⟨_,by conv=>lhs;cbv⟩
def ac4:AC:=f121.body.r.r.r.l.r.l
def Qn:AC:=f121.body.r.r.r.r
def f199:AF:=lit Tryz.f199 ⟨_,by conv=>lhs;cbv⟩
def ac5:AC:=f199.body.r.l.r.l
def ac6:AC:=f199.body.r.r
def f125:AF:=lit Tryz.f125 ⟨_,by conv=>lhs;cbv⟩
def f201:AF:=lit Tryz.f201 ⟨_,by conv=>lhs;cbv⟩
def f200:AF:=lit Tryz.f200 ⟨_,by conv=>lhs;cbv⟩
def f127:AF:=lit Tryz.f127 ⟨_,by conv=>lhs;cbv⟩
def f126:AF:=lit Tryz.f126 ⟨_,by conv=>lhs;cbv⟩
def f202:AF:=lit Tryz.f202 ⟨_,by conv=>lhs;cbv⟩
def ac7:AC:=f202.body.r.l.r.l
def ac8:AC:=f202.body.r.r
def f27:AF:=lit Tryz.f27 ⟨_,by conv=>lhs;cbv⟩
def f129:AF:=lit Tryz.f129 ⟨_,by conv=>lhs;cbv⟩
def f128:AF:=lit Tryz.f128 ⟨_,by conv=>lhs;cbv⟩
def f46:AF:=lit Tryz.f46 ⟨_,by conv=>lhs;cbv⟩
def f14:AF:=lit Tryz.f14 ⟨_,by conv=>lhs;cbv⟩
def ac9:AC:=f14.body.r.r.l.r.l
def f51:AF:=lit Tryz.f51 ⟨_,by conv=>lhs;cbv⟩
def ada:AC:=f51.body.r.l.r.l
def adb:AC:=f51.body.r.r
def f52:AF:=lit Tryz.f52 ⟨_,by conv=>lhs;cbv⟩
def Qo:AC:=f52.body.r.r.r.l.r.l
def Qp:AC:=Qo.l
def ade:AC:=Qp.r.r
def Qq:AC:=f52.body.r.r.r.r
def f53:AF:=lit Tryz.f53 ⟨_,by conv=>lhs;cbv⟩
def Qr:AC:=f53.body.r.r.r.r.l.r.l
def Qs:AC:=Qr.r.r.r.r.l
def Qt:AC:=Qs.l.r.l.l.r.r.r.l.l
def Qu:AC:=Qt.l
def adf:AC:=Qu.r
def Ej:AC:=f53.body.r.r.r.r.r
def adg:AC:=Ej.r.r.l.r.l
def adh:AC:=Ej.r.r.r
def f132:AF:=lit Tryz.f132 ⟨_,by conv=>lhs;cbv⟩
def adi:AC:=f132.body.r.r.r.l.r.l
def adj:AC:=f132.body.r.r.r.r
def f133:AF:=lit Tryz.f133 ⟨_,by conv=>lhs;cbv⟩
def adk:AC:=f133.body.r.l.r.l
def adl:AC:=f133.body.r.r
def f134:AF:=lit Tryz.f134 ⟨_,by conv=>lhs;cbv⟩
def adm:AC:=f134.body.r.r.l.r.l
def adn:AC:=f134.body.r.r.r
def f135:AF:=lit Tryz.f135 ⟨_,by conv=>lhs;cbv⟩
def f54:AF:=lit Tryz.f54 ⟨_,by conv=>lhs;cbv⟩
structure Cd(C:Nat->Option aI):Prop where
 f6:gO C 6 f6
 f34:gO C 34 f34
 f35:gO C 35 f35
 f9:gO C 9 f9
 f19:gO C 19 f19
 f38:gO C 38 f38
 f36:gO C 36 f36
 f42:gO C 42 f42
 f41:gO C 41 f41
 f82:gO C 82 f82
 f165:gO C 165 f165
 f97:gO C 97 f97
 f186:gO C 186 f186
 f245:gO C 245 f245
 f102:gO C 102 f102
 f98:gO C 98 f98
 f56:gO C 56 f56
 f99:gO C 99 f99
 f187:gO C 187 f187
 f246:gO C 246 f246
 f294:gO C 294 f294
 f325:gO C 325 f325
 f247:gO C 247 f247
 f248:gO C 248 f248
 f188:gO C 188 f188
 f221:gO C 221 f221
 f277:gO C 277 f277
 f312:gO C 312 f312
 f209:gO C 209 f209
 f306:gO C 306 f306
 f339:gO C 339 f339
 f355:gO C 355 f355
 f249:gO C 249 f249
 f295:gO C 295 f295
 f250:gO C 250 f250
 f251:gO C 251 f251
 f296:gO C 296 f296
 f326:gO C 326 f326
 f298:gO C 298 f298
 f327:gO C 327 f327
 f328:gO C 328 f328
 f297:gO C 297 f297
 f252:gO C 252 f252
 f253:gO C 253 f253
 f299:gO C 299 f299
 f319:gO C 319 f319
 f347:gO C 347 f347
 f330:gO C 330 f330
 f349:gO C 349 f349
 f329:gO C 329 f329
 f321:gO C 321 f321
 f331:gO C 331 f331
 f320:gO C 320 f320
 f254:gO C 254 f254
 f44:gO C 44 f44
 f118:gO C 118 f118
 f195:gO C 195 f195
 f261:gO C 261 f261
 f145:gO C 145 f145
 f305:gO C 305 f305
 f262:gO C 262 f262
 f263:gO C 263 f263
 f264:gO C 264 f264
 f100:gO C 100 f100
 f106:gO C 106 f106
 f191:gO C 191 f191
 f181:gO C 181 f181
 f241:gO C 241 f241
 f101:gO C 101 f101
 f189:gO C 189 f189
 f103:gO C 103 f103
 f39:gO C 39 f39
 f49:gO C 49 f49
 f48:gO C 48 f48
 f107:gO C 107 f107
 f109:gO C 109 f109
 f108:gO C 108 f108
 f110:gO C 110 f110
 f66:gO C 66 f66
 f111:gO C 111 f111
 f192:gO C 192 f192
 f193:gO C 193 f193
 f256:gO C 256 f256
 f302:gO C 302 f302
 f194:gO C 194 f194
 f257:gO C 257 f257
 f260:gO C 260 f260
 f304:gO C 304 f304
 f259:gO C 259 f259
 f303:gO C 303 f303
 f332:gO C 332 f332
 f350:gO C 350 f350
 f351:gO C 351 f351
 f362:gO C 362 f362
 f352:gO C 352 f352
 f333:gO C 333 f333
 f335:gO C 335 f335
 f334:gO C 334 f334
 f353:gO C 353 f353
 f336:gO C 336 f336
 f354:gO C 354 f354
 f258:gO C 258 f258
 f50:gO C 50 f50
 f130:gO C 130 f130
 f112:gO C 112 f112
 f117:gO C 117 f117
 f113:gO C 113 f113
 f114:gO C 114 f114
 f68:gO C 68 f68
 f136:gO C 136 f136
 f70:gO C 70 f70
 f131:gO C 131 f131
 f61:gO C 61 f61
 f64:gO C 64 f64
 f140:gO C 140 f140
 f119:gO C 119 f119
 f196:gO C 196 f196
 f124:gO C 124 f124
 f67:gO C 67 f67
 f15:gO C 15 f15
 f55:gO C 55 f55
 f11:gO C 11 f11
 f137:gO C 137 f137
 f69:gO C 69 f69
 f267:C 267=some (.pm .rZ)
structure fh(C:Nat->Option aI):Prop extends Cd C where
 f3:gO C 3 f3
 f7:gO C 7 f7
 f8:gO C 8 f8
 f37:gO C 37 f37
 f104:gO C 104 f104
 f190:gO C 190 f190
 f255:gO C 255 f255
 f300:gO C 300 f300
 f301:gO C 301 f301
 f105:gO C 105 f105
 f10:gO C 10 f10
 f40:gO C 40 f40
 f115:gO C 115 f115
 f116:gO C 116 f116
 f13:gO C 13 f13
 f12:gO C 12 f12
 f43:gO C 43 f43
 f45:gO C 45 f45
 f47:gO C 47 f47
 f120:gO C 120 f120
 f198:gO C 198 f198
 f197:gO C 197 f197
 f122:gO C 122 f122
 f123:gO C 123 f123
 f121:gO C 121 f121
 f199:gO C 199 f199
 f125:gO C 125 f125
 f201:gO C 201 f201
 f200:gO C 200 f200
 f127:gO C 127 f127
 f126:gO C 126 f126
 f202:gO C 202 f202
 f27:gO C 27 f27
 f129:gO C 129 f129
 f128:gO C 128 f128
 f46:gO C 46 f46
 f14:gO C 14 f14
 f51:gO C 51 f51
 f52:gO C 52 f52
 f53:gO C 53 f53
 f132:gO C 132 f132
 f133:gO C 133 f133
 f134:gO C 134 f134
 f135:gO C 135 f135
 f54:gO C 54 f54
end Go.Ev.X
end
namespace Go.Ev.X
open Go Go.Ev
section
def ado:∀{l m:Nat},m<256 ^ l->aT (bz l m)=m:=by
 intro l
 induction l with
 | zero=>intro m h;simp at h;subst h;rfl
 | succ l ih=>
  intro m h;have h2:m / 256<256 ^ l:=by rw[fy]at h;omega
  show(UInt8.ofNat (m % 256)).toNat+256*aT (bz l (m / 256))=m;rw[ih h2];have:(UInt8.ofNat (m % 256)).toNat=m % 256:=by simp
  omega
def adp{m:Nat}(j:pQ m=true)(h:128<=m):∀c∈bz (nI m) (pR m),128<=c.toNat:=by
 simp only[pQ,eM,iK,oq,aK,aW]at j;have u:∀{a:Nat},128<=a % 256->128<=(UInt8.ofNat a).toNat:=λ{a} h=>by simpa using h
 unfold nI pR;simp only[eM];have h1:¬ m<128:=by omega
 simp only[h1,decide_false,cond_false];by_cases h2:m<2048
 ·obtain⟨d,e⟩:=dg (192+m / 64) (128+m % 64) (by omega);simp only[h2,decide_true,cond_true,bz,d,e];intro c b;simp only[eO,tX,or_false]at b;rcases b with rfl | rfl<;>exact u (by omega)
 ·simp only[h2,decide_false,cond_false];by_cases i:m<65536
  ·obtain⟨d,e⟩:=dg (224+m / 4096) (128+m / 64 % 64+256*(128+m % 64)) (by omega);obtain⟨f,g⟩:=dg (128+m / 64 % 64) (128+m % 64) (by omega);simp only[i,decide_true,cond_true,bz,d,e,f,g];intro c b;simp only[eO,tX,or_false]at b;rcases b with rfl | rfl | rfl<;>exact u (by omega)
  ·obtain⟨d,e⟩:=dg (240+m / 262144) (128+m / 4096 % 64+256*(128+m / 64 % 64+256*(128+m % 64))) (by omega);obtain⟨f,g⟩:=dg (128+m / 4096 % 64) (128+m / 64 % 64+256*(128+m % 64)) (by omega);obtain⟨o,p⟩:=dg (128+m / 64 % 64) (128+m % 64) (by omega);simp only[i,decide_false,cond_false,bz,d,e,f,g,o,p];intro c b;simp only[eO,tX,or_false]at b;rcases b with rfl | rfl | rfl | rfl<;>exact u (by omega)
def adq(m:Nat):1<=nI m/\nI m<=4:=by unfold nI;simp only[gy];split<;>(try split)<;>(try split)<;>omega
section
variable {C:Nat->Option aI}{E:Env}{h:Hf}{n:K}{q:Env->Hf->K->Prop}{l:List AO}{Ξ:Nat}{k:V->Hf->K->Prop}
def adr{x:au}{ik:IntKind}{m:Nat}(b:ge E x=some (.i ik (m:Nat)))(a:pQ m=true)(d:∀bs:S,1<=bs.length->bs.length<=4->(128<=m->∀c∈bs,128<=c.toNat)->k (X.st bs) h n):SO C (.cv .yX x) E h n k:=by
 have hl:=adq m;refine eY (v:=X.st (bz (nI m) (pR m))) (λ_ _ _ _=>rfl) (λT H f j=>?_) (d _ (by rw[pg];omega) (by rw[pg];omega) (adp a));have e:oS H n .yX (.i ik (.ofNat m))=some (.s (nI m) (pR m),H,n):=by simp only[oS,a,cond_true]
 have g:X.st (bz (nI m) (pR m))=.s (nI m) (pR m):=by unfold X.st;rw[pg,ado (Hc a).2]
 rw[g];simp only[simple,f.ge b];exact e
def ads{d:K}{x:au}{ik:IntKind}{m:Nat}(a:ge E x=some (.i ik (m:Nat)))(b:pQ m=true)(e:∀bs:S,1<=bs.length->bs.length<=4->(128<=m->∀c∈bs,128<=c.toNat)->WO C l ((d,X.st bs)::E) h n q):WO C (⟨some d,.cv .yX x,none,Ξ⟩::l) E h n q:=cr (adr a b e)
end
def uZ(c:Nat):S->Nat->Option Nat
 | [],_=>none
 | x::l,i=>if x.toNat=c then some i else uZ c l (i+1)
def bI(c:Nat)(s:S):Int:=match uZ c s 0 with | some i=>(i:Nat) | none=>-1
def adt(c:Nat):∀(s:S) (i:Nat),xX c s.length (aT s) i=uZ c s i:=by
 intro s
 induction s with
 | nil=>intro i;rfl
 | cons x l ih=>
  intro i;have d:=x.toNat_lt;have a:Nat.mod (aT (x::l)) 256=x.toNat:=by show(x.toNat+256*aT l) % 256=_;omega
  have b:Nat.div (aT (x::l)) 256=aT l:=by show(x.toNat+256*aT l) / 256=_;omega
  show(bif Nat.beq (Nat.mod (aT (x::l)) 256) c then some i else xX c l.length (Nat.div (aT (x::l)) 256) (i+1))=_
  rw[a,b,ih,cB,uZ];by_cases h:x.toNat=c<;>simp[h]
def Io{c:Nat}:∀{s:S} {i j:Nat},uZ c s i=some j->i<=j/\∃h:j - i<s.length,s[j - i].toNat=c/\∀k (a:k<s.length),k<j - i->s[k].toNat≠c:=by
 intro s
 induction s with
 | nil=>intro i j h;cases h
 | cons x l ih=>
  intro i j h;rw[uZ]at h;split at h
  ·rename_i b;injection h with h;subst h;refine⟨φ _,by simp,?_,λk a h=>by omega⟩;simpa using b
  ·rename_i b;obtain⟨h1,h2,d,f⟩:=ih h;have e:j - i=(j - (i+1))+1:=by omega
   refine⟨by omega,by rw[e];simp only[dy];omega,?_,λk a h=>?_⟩
   ·simp only[e,pb];exact d
   ·cases k with
    | zero=>simpa using b
    | succ k=>simp only[pb];exact f k (by simpa using a) (by omega)
def adu{c:Nat}:∀{s:S} {i:Nat},uZ c s i=none->∀x∈s,x.toNat≠c:=by
 intro s
 induction s with
 | nil=>intro i h x a;cases a
 | cons y l ih=>
  intro i h x a;rw[uZ]at h;split at h
  ·cases h
  ·rename_i b;rcases eO.1 a with rfl | a
   ·exact b
   ·exact ih h x a
def Ip{c:Nat}{s:S}:0<=bI c s↔∃x∈s,x.toNat=c:=by
 unfold bI;cases h:uZ c s 0 with
 | none=>simp only;refine⟨λh=>by omega,λ⟨x,a,e⟩=>absurd e (adu h x a)⟩
 | some j=>
  obtain⟨_,h2,b,_⟩:=Io h;exact⟨λ_=>⟨_,bK h2,b⟩,λ_=>by simp only;omega⟩
def adv{c:Nat}{s:S}(h:0<=bI c s):∃j:Nat,bI c s=(j:Nat)/\∃hj:j<s.length,s[j].toNat=c/\∀k (a:k<s.length),k<j->s[k].toNat≠c:=by
 unfold bI at h ⊢;cases hb:uZ c s 0 with
 | none=>rw[hb]at h;simp only at h;omega
 | some j=>obtain⟨_,h2⟩:=Io hb;exact⟨j,rfl,h2⟩
def adw{c:Nat}{s:S}(h:¬ ∃x∈s,x.toNat=c):bI c s = -1:=by
 unfold bI;cases hb:uZ c s 0 with
 | none=>rfl
 | some j=>obtain⟨_,h2,a,_⟩:=Io hb;exact absurd ⟨_,bK h2,a⟩ h
end
end Go.Ev.X
