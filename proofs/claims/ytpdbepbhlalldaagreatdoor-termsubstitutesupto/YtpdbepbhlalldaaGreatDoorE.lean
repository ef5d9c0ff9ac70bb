/- A part of the proof. -/
import Derived.Orders
import Derived.Test.YtpdbepbhlalldaaGreatDoorC
set_option linter.all false
namespace Go.Ev
open Go
section
def sK(ih:db):Prop:=∀j H n r,ih j H n=some r->n.num<=r.n.num
section
variable {ih:db}{C:Nat->Option aI}
def Qv(a:sK ih){op:A}{T:Tr V}{H H':Hp}{n n':K}{v:V}(h:oper ih op T H n=some (v,H',n')):n.num<=n'.num:=by
 cases op with
 | lj f l=>
  obtain⟨c,lv,T',_,_,b⟩:=ON h;exact a _ _ _ _ b
 | _=>rw[wj (by intro f l h;cases h)]at h;exact AW (O1 h)
def Qw(a:sK ih){op:A}{T:Tr V}{H:Hp}{n:K}{r:R}(h:dI ih op T H n=some r):n.num<=r.n.num:=by
 cases op with
 | lj f l=>
  simp only[dI]at h;split at h
  ·exact a _ _ _ _ h
  ·cases h
 | rY x=>
  simp only[dI]at h;split at h
  ·injection h with h;subst h;exact φ _
  ·cases h
 | _=>
  unfold dI at h;simp only at h;split at h
  ·rename_i h1;injection h with h;subst h;exact AW (O1 h1)
  ·cases h
def Ek(b:sK ih):∀(l:List AO) (T:Tr V) (H:Hp) (n:K) (r:R),eX ih l T H n=some r->n.num<=r.n.num:=by
 intro l
 induction l with
 | nil=>intro T H n r h;simp only[eX]at h;injection h with h;subst h;exact φ _
 | cons o l c=>
  intro T H n r h;simp only[eX]at h;split at h
  ·split at h
   ·rename_i a;exact dU (Qw b a) (c _ _ _ _ h)
   ·rename_i a;injection h with h;subst h;have:=Qw b a;exact this
   ·cases h
  ·exact c _ _ _ _ h
  ·cases h
def adx(b:sK ih):∀(l:List AO) (i:Nat) (T:Tr V) (H:Hp) (n:K) (m:Made) (rs:List Rd) (bs:List Bg) (r:R),dV ih l i T H n m rs bs=some r->n.num<=r.n.num:=by
 intro l
 induction l with
 | nil=>
  intro i T H n m rs bs r h;simp only[dV,gy]at h;split at h
  ·injection h with h;subst h;exact φ _
  ·cases h
 | cons o l a=>
  intro i T H n m rs bs r h;simp only[dV]at h;split at h
  ·split at h
   case h_2=>cases h
   rename_i v H1 n1 c;have h1:=Qv b c;split at h
   ·exact a _ _ _ _ _ _ _ _ h
   ·simp only[gy]at h;split at h
    ·exact a _ _ _ _ _ _ _ _ h
    ·cases h
   ·exact dU h1 (a _ _ _ _ _ _ _ _ h)
   ·exact dU h1 (a _ _ _ _ _ _ _ _ h)
  ·exact a _ _ _ _ _ _ _ _ h
  ·cases h
def Qx:∀{es:List TE} {l:List V} {H:Hp} {n:K} {r:V×Hp×K},Dx es l H n=some r->∃e∈es,e.fits l H n=true/\r=(e.v,e.add,e.n'):=by
 intro es
 induction es with
 | nil=>intro l H n r h;cases h
 | cons e es ih=>
  intro l H n r h;simp only[Dx,gy]at h;split at h
  ·rename_i hf;injection h with h;exact⟨e,by simp,hf,h.symm⟩
  ·obtain⟨a,h1,h2⟩:=ih h;exact⟨a,by simp[h1],h2⟩
def ady{p:Pm}{l:List V}{H H':Hp}{n n':K}{v:V}(h:pm p l H n=some (v,H',n')):n.num<=n'.num:=by
 cases p with
 | iV es=>
  obtain⟨e,_,hf,he⟩:=Qx h;injection he with h1 h2;injection h2 with h2 a;simp only[TE.fits,aK]at hf;have:=(cmp_eq _ _ _).1 hf.1.2;rw[a];rcases this with h | ⟨_,h⟩<;>omega
 | rZ=>
  simp only[pm,Ae,gy]at h
  repeat' split at h
  all_goals first
   | (cases h;done)
   | exact AW (D6 h)
 | zY bM u=>
  simp only[pm,gy]at h
  repeat' split at h
  all_goals first
   | (cases h;done)
   | exact AW (D6 h)
 | same=>
  simp only[pm,GO]at h;split at h
  ·exact AW (D6 h)
  ·cases h
def adz(e:sK ih):sK (bh C ih):=by
 intro j H n r h;cases j with
 | code c T=>
  cases c with
  | skip=>simp only[bh]at h;injection h with h;subst h;exact φ _
  | reg l=>exact Ek e _ _ _ _ _ h
  | regd l=>exact adx e _ _ _ _ _ _ _ _ _ h
  | seq a b=>
   simp only[bh]at h;split at h
   ·rename_i h1;exact dU (e _ _ _ _ h1) (e _ _ _ _ h)
   ·exact e _ _ _ _ h
  | cond c a b=>
   simp only[bh]at h;split at h
   ·exact e _ _ _ _ h
   ·cases h
  | block id c=>
   simp only[bh,gy]at h;split at h
   ·rename_i h1;have:=e _ _ _ _ h1;split at h<;>(injection h with h;subst h;exact this)
   ·exact e _ _ _ _ h
  | loop c=>
   simp only[bh]at h;split at h
   ·rename_i h1;exact dU (e _ _ _ _ h1) (e _ _ _ _ h)
   ·exact e _ _ _ _ h
  | ox f ps bY body=>
   simp only[bh,gy]at h;split at h
   case h_2=>cases h
   split at h
   case h_2=>cases h
   rename_i T1 v1 H1 n1 h1;have:n.succ.num<=n1.num:=e _ _ _ _ h1;rw[K.eF]at this;split at h
   ·split at h
    ·cases h
    ·injection h with h;subst h;show n.num<=n1.num;omega
   ·split at h
    ·cases h
    ·injection h with h;subst h;show n.num<=n1.num;omega
   ·cases h
  | exit id=>simp only[bh]at h;injection h with h;subst h;exact φ _
  | scope c=>exact e _ _ _ _ h
  | nH d x l c ws=>
   simp only[bh]at h;split at h
   case h_2=>cases h
   rename_i b hb;split at h
   case h_2=>cases h
   rename_i m since hm;split at h
   case h_2=>cases h
   rename_i es cD he;cases o:Nat.beq since cD&&uf cD 0 es with
   | false=>rw[o]at h;cases h
   | true=>
    rw[o]at h;simp only[cond_true]at h;have part:∀(v:V) (T:Tr V) (H:Hp) (n:K) (r:R),(match eX ih l (dh d (some v) T) H n with
     | some ⟨.normal,T,_,H,n⟩=>ih (.code c T) H n
     | _=>none)=some r->n.num<=r.n.num:=by
     intro v T H n r h;split at h
     ·rename_i h1;have g1:=Ek e _ _ _ _ _ h1;have i:=e _ _ _ _ h;exact dU g1 i
     ·cases h
    have over:∀(T:Tr V) (H:Hp) (n:K) (r:R),(match eX ih l (dh d (some (.u [.b false])) T) H n with
     | some ⟨.normal,T,_,H,n⟩=>(match ih (.code c T) H n with
      | some ⟨.normal,_,_,_,_⟩=>none
      | r=>r)
     | _=>none)=some r->n.num<=r.n.num:=by
     intro T H n r h;split at h
     ·rename_i h1;have g1:=Ek e _ _ _ _ _ h1;split at h
      ·cases h
      ·have i:=e _ _ _ _ h;exact dU g1 i
     ·cases h
    split at h
    ·split at h
     ·rename_i h1;have g1:=part _ _ _ _ _ h1;split at h
      ·simp only[gy]at h;split at h
       ·have i:=over _ _ _ _ h;exact dU g1 i
       ·cases h
      ·cases h
     ·exact part _ _ _ _ _ h
    ·simp only[gy]at h;split at h
     ·exact over _ _ _ _ h
     ·cases h
  | ret=>simp only[bh]at h;injection h with h;subst h;exact φ _
  | bad=>cases h
 | call f l=>
  cases f with
  | f g a c=>
   simp only[bh]at h;split at h
   ·split at h
    ·rename_i h1;injection h with h;subst h;exact ady h1
    ·cases h
   ·split at h
    case h_2=>cases h
    split at h
    ·cases h
    ·rename_i h1;injection h with h;subst h;have:=e _ _ _ _ h1;exact this
    ·rename_i h1;split at h
     ·injection h with h;subst h;have:=e _ _ _ _ h1;exact this
     ·cases h
    ·cases h
   ·split at h
    case h_2=>cases h
    split at h
    case h_2=>cases h
    rename_i h0;have g0:=Ek e _ _ _ _ _ h0;split at h
    case h_2=>cases h
    split at h
    ·cases h
    ·rename_i h1;have g1:=e _ _ _ _ h1;split at h
     case h_2=>cases h
     split at h
     ·cases h
     ·cases h
     ·rename_i h2;have i:=e _ _ _ _ h2;split at h
      ·injection h with h;subst h;exact dU g0 (dU g1 i)
      ·cases h
     ·cases h
    ·cases h
   ·cases h
  | y k=>
   simp only[bh,gy]at h;split at h
   case h_2=>cases h
   split at h
   case h_2=>cases h
   split at h
   case isFalse=>cases h
   split at h
   case h_2=>cases h
   rename_i h1;split at h
   case h_2=>cases h
   split at h
   case h_2=>cases h
   rename_i r2 h2;split at h
   case h_2=>cases h
   split at h
   ·cases h
   injection h with h;subst h;have g1:=e _ _ _ _ h1;have i:=e _ _ _ _ h2;exact dU g1 i
  | _=>cases h
end
end
section
section
variable {W:Nat->Code->AC->Prop}{η η1:Env}{n m:K}
def oG{k:K}{L:Loc}(h:η k=some L)(a:k.num<n.num):bT η n k=some L:=by unfold bT;rw[ao a];exact h
mutual
theorem aq.bT:∀{v:V} {x:Value},aq η v x->bk n v=true->aq (bT η n) v x
 | _,_,.b x,_=>.b x
 | _,_,.i k n,_=>.i k n
 | _,_,.s l n h,_=>.s l n h
 | _,_,.np,_=>.np
 | _,_,.p b o L h,hb=>.p b o L (oG h (px.1 (by simpa[bk]using hb)))
 | _,_,.ns,_=>.ns
 | _,_,.sl b o l c L h,hb=>.sl b o l c L (oG h (px.1 (by simpa[bk]using hb)))
 | _,_,.su b o l e L c h h1 h2,hb=>.su b o l e L c (oG h (px.1 (by simpa[bk]using hb))) h1 h2
 | _,_,.se b o e A L h,hb=>.se b o e A L (oG h (px.1 (by simpa[bk]using hb)))
 | _,_,.nm,_=>.nm
 | _,_,.m b L h,hb=>.m b L (oG h (px.1 (by simpa[bk]using hb)))
 | _,_,.nf,_=>.nf
 | _,_,.f g a c a' c' h h',hb=>by simp only[bk,aK]at hb;exact .f g a c a' c' (aN.bT h hb.1) (aN.bT h' hb.2)
 | _,_,.y l L h,hb=>.y l L (oG h (px.1 (by simpa[bk]using hb)))
 | _,_,.ni,_=>.ni
 | _,_,.jM t v v' h,hb=>.jM t v v' (aq.bT h (by simpa[bk]using hb))
 | _,_,.a l l' h,hb=>.a l l' (aN.bT h (by simpa[bk]using hb))
 | _,_,.u l l' h,hb=>.u l l' (aN.bT h (by simpa[bk]using hb))
 | _,_,.q v,_=>.q v
theorem aN.bT:∀{v:List V} {x:List Value},aN η v x->fC n v=true->aN (bT η n) v x
 | _,_,.nil,_=>.nil
 | _,_,.cons v v' l l' h h',hb=>by simp only[fC,aK]at hb;exact .cons v v' l l' (aq.bT h hb.1) (aN.bT h' hb.2)
end
def uA(hf:∀k,n.num<=k.num->η k=none){k:K}{L:Loc}(h:η k=some L):K.cmp false k n=true:=by
 rw[px];rcases iG k.num n.num with h1 | h1
 ·exact h1
 ·rw[hf k h1]at h;cases h
mutual
theorem aq.ke (hf:∀k,n.num<=k.num->η k=none):∀{v:V} {x:Value},aq η v x->bk n v=true
 | _,_,.b x=>rfl
 | _,_,.i k n=>rfl
 | _,_,.s l n h=>rfl
 | _,_,.np=>rfl
 | _,_,.p b o L h=>by simp only[bk];exact uA hf h
 | _,_,.ns=>rfl
 | _,_,.sl b o l c L h=>by simp only[bk];exact uA hf h
 | _,_,.su b o l e L c h h1 h2=>by simp only[bk];exact uA hf h
 | _,_,.se b o e A L h=>by simp only[bk];exact uA hf h
 | _,_,.nm=>rfl
 | _,_,.m b L h=>by simp only[bk];exact uA hf h
 | _,_,.nf=>rfl
 | _,_,.f g a c a' c' h h'=>by simp only[bk,aK];exact⟨aN.ke hf h,aN.ke hf h'⟩
 | _,_,.y l L h=>by simp only[bk];exact uA hf h
 | _,_,.ni=>rfl
 | _,_,.jM t v v' h=>by simp only[bk];exact aq.ke hf h
 | _,_,.a l l' h=>by simp only[bk];exact aN.ke hf h
 | _,_,.u l l' h=>by simp only[bk];exact aN.ke hf h
 | _,_,.q v=>rfl
theorem aN.ke (hf:∀k,n.num<=k.num->η k=none):∀{v:List V} {x:List Value},aN η v x->fC n v=true
 | _,_,.nil=>rfl
 | _,_,.cons v v' l l' h h'=>by simp only[fC,aK];exact⟨aq.ke hf h,aN.ke hf h'⟩
end
mutual
theorem bk.mono (kT:n.num<=m.num):∀(v:V),bk n v=true->bk m v=true
 | .p b _,h | .sl b _ _ _,h | .su b _ _ _,h | .m b,h | .y b,h=>by simp only[bk,px]at h ⊢;omega
 | .f _ a c,h=>by simp only[bk,aK]at h ⊢;exact⟨fC.mono kT a h.1,fC.mono kT c h.2⟩
 | .jM _ v,h=>by simp only[bk]at h ⊢;exact bk.mono kT v h
 | .a l,h | .u l,h=>by simp only[bk]at h ⊢;exact fC.mono kT l h
 | .b _,_ | .i _ _,_ | .s _ _,_ | .np,_ | .ns,_ | .nm,_ | .nf,_ | .ni,_ | .q,_=>rfl
theorem fC.mono (kT:n.num<=m.num):∀(l:List V),fC n l=true->fC m l=true
 | [],_=>rfl
 | v::l,h=>by simp only[fC,aK]at h ⊢;exact⟨bk.mono kT v h.1,fC.mono kT l h.2⟩
end
def Qy{l:List V}(h:fC n l=true){v:V}(hv:v∈l):bk n v=true:=by
 induction l with
 | nil=>cases hv
 | cons a l ih=>
  simp only[fC,aK]at h;rcases eO.1 hv with rfl | hv
  ·exact h.1
  ·exact ih h.2 hv
def Qz{l:List V}(h:∀v∈l,bk n v=true):fC n l=true:=by
 induction l with
 | nil=>rfl
 | cons a l ih=>simp only[fC,aK];exact⟨h a (by simp),ih λv hv=>h v (by simp[hv])⟩
def sL(n:K):List (V×V×Nat)->Prop
 | []=>True
 | (k,v,_)::l=>bk n k=true/\bk n v=true/\sL n l
def lQ(n:K):O->Prop
 | .c l _ _ | .r l=>fC n l=true
 | .b x y _=>bk n x=true/\bk n y=true
 | .mp es _=>sL n es
 | .it _ _ _=>True
 | .mi b _=>b.num<n.num
 | .me b _ _=>b.num<n.num
 | .lp _ _ T _ _ _=>∀t v,T.get (bL t)=some v->bk n v=true
def sL.mono(kT:n.num<=m.num):∀{l:List (V×V×Nat)},sL n l->sL m l
 | [],_=>trivial
 | (k,v,_)::l,⟨a,b,c⟩=>⟨bk.mono kT k a,bk.mono kT v b,sL.mono kT c⟩
def lQ.mono(kT:n.num<=m.num){o:O}(h:lQ n o):lQ m o:=by
 cases o with
 | c l e fz=>exact fC.mono kT _ h
 | r l=>exact fC.mono kT _ h
 | b x y e=>exact⟨bk.mono kT _ h.1,bk.mono kT _ h.2⟩
 | mp es c=>exact sL.mono kT h
 | it=>trivial
 | mi b c=>exact ep h kT
 | me b c t=>exact ep h kT
 | lp r p T ps a b=>exact λt v hv=>bk.mono kT v (h t v hv)
def dJ.bT:∀{l:List (V×V×Nat)} {l':List MapEntry},dJ η l l'->sL n l->dJ (bT η n) l l'
 | [],[],_,_=>trivial
 | (_,_,_)::_,_::_,⟨a,b,c,d⟩,⟨p,q,r⟩=>⟨a.bT p,b.bT q,c,dJ.bT d r⟩
def dJ.below(hf:∀k,n.num<=k.num->η k=none):∀{l:List (V×V×Nat)} {l':List MapEntry},dJ η l l'->sL n l
 | [],[],_=>trivial
 | (_,_,_)::_,_::_,⟨a,b,c,d⟩=>⟨a.ke hf,b.ke hf,dJ.below hf d⟩
def aM.bT{T:Tr V}{t:Array Value}(h:aM η T t)(hb:∀t v,T.get (bL t)=some v->bk n v=true):aM (bT η n) T t:=λk v hv=>
 let⟨x,h1,h2⟩:=h k v hv;⟨x,h1,h2.bT (hb k v hv)⟩
def fR.bT{o:O}{L:Loc}{x:Option Obj}(h:fR W η o L x)(hb:lQ n o):fR W (bT η n) o L x:=by
 cases o with
 | c l e fz=>
  obtain⟨cs,fr,h1,h2,d,f,g⟩:=h;exact⟨cs,fr,h1,h2,d,λi v hi=>let⟨y,a,b⟩:=f i v hi;⟨y,a,b.bT (Qy hb (List.mem_of_getElem? hi))⟩,g⟩
 | r l=>
  obtain⟨cs,e,fr,h1,f⟩:=h;exact⟨cs,e,fr,h1,λi v hi=>let⟨y,a,b⟩:=f i v hi;⟨y,a,b.bT (Qy hb (List.mem_of_getElem? hi))⟩⟩
 | b x y e=>obtain⟨h0,u,v,h1,h2,d⟩:=h;exact⟨h0,u,v,h1,h2.bT hb.1,d.bT hb.2⟩
 | mp es c=>obtain⟨j,h1,h2⟩:=h;exact⟨j,h1,h2.bT hb⟩
 | it l n pos=>exact h
 | mi b since=>obtain⟨h0,Lb,h1,h2⟩:=h;exact⟨h0,Lb,oG h1 hb,h2⟩
 | me m c t=>obtain⟨h0,Lm,since,seen,h1,h2,d⟩:=h;exact⟨h0,Lm,since,seen,oG h1 hb,h2,d⟩
 | lp ready fA T ps bY body=>obtain⟨r,h1,h2,d,f,g⟩:=h;exact⟨r,h1,h2,d,f.bT hb,g⟩
def fR.below(hf:∀k,n.num<=k.num->η k=none){o:O}{L:Loc}{x:Option Obj}(h:fR W η o L x):lQ n o:=by
 cases o with
 | c l e fz=>
  obtain⟨cs,fr,h1,h2,d,a,f⟩:=h;exact Qz λv hv=>let⟨i,hi⟩:=List.getElem?_of_mem hv;let⟨y,_,b⟩:=a i v hi;b.ke hf
 | r l=>
  obtain⟨cs,e,fr,h1,a⟩:=h;exact Qz λv hv=>let⟨i,hi⟩:=List.getElem?_of_mem hv;let⟨y,_,b⟩:=a i v hi;b.ke hf
 | b x y e=>obtain⟨h0,u,v,h1,h2,d⟩:=h;exact⟨h2.ke hf,d.ke hf⟩
 | mp es c=>obtain⟨g,h1,h2⟩:=h;exact h2.below hf
 | it l n pos=>trivial
 | mi b since=>obtain⟨h0,Lb,h1,h2⟩:=h;exact px.1 (uA hf h1)
 | me m c t=>obtain⟨h0,Lm,since,seen,h1,h2,d⟩:=h;exact px.1 (uA hf h1)
 | lp ready fA T ps bY body=>obtain⟨r,h1,h2,d,a,f⟩:=h;exact λt v hv=>let⟨x,_,b⟩:=a t v hv;b.ke hf
end
end
section
section
variable {T:Tr V}{H:Hp}{n:K}{op:A}
def adA(d:cls op=.pure):∃x:Option V,∀H n,simple op T H n=cW H n x:=by
 cases op<;>(try (simp only[cls]at d;cases d;done))
 case mv x=>exact⟨_,λ_ _=>rfl⟩
 case pick c a b=>
  simp only[simple];cases az T c with
  | none=>exact⟨none,λ_ _=>rfl⟩
  | some v=>cases v<;>first | exact⟨_,λ_ _=>rfl⟩ | exact⟨none,λ_ _=>rfl⟩
 case bld zs ps=>simp only[simple];cases pd T zs ps with
  | none=>exact⟨none,λ_ _=>rfl⟩
  | some l=>exact⟨some (.a l),λ_ _=>rfl⟩
 case nck x=>simp only[simple];cases az T x with
  | none=>exact⟨none,λ_ _=>rfl⟩
  | some v=>cases v with
   | p b o=>exact⟨some (.p b o),λ_ _=>rfl⟩
   | f g a c=>exact⟨some (.f g a c),λ_ _=>rfl⟩
   | y l=>exact⟨some (.y l),λ_ _=>rfl⟩
   | _=>exact⟨none,λ_ _=>rfl⟩
 case bin o k x y=>simp only[simple];cases az T x with
  | none=>exact⟨none,λ_ _=>rfl⟩
  | some v=>cases az T y with
   | none=>exact⟨none,λ_ _=>rfl⟩
   | some u=>exact⟨_,λ_ _=>rfl⟩
 case un o x=>simp only[simple];cases az T x with
  | none=>exact⟨none,λ_ _=>rfl⟩
  | some v=>exact⟨_,λ_ _=>rfl⟩
 case cv k x=>
  simp only[simple];cases az T x with
  | none=>exact⟨none,λ_ _=>rfl⟩
  | some v=>
   cases k with
   | toInt k=>cases v<;>first | exact⟨none,λ_ _=>rfl⟩ | exact⟨some _,λ_ _=>rfl⟩
   | same=>cases v<;>first | exact⟨none,λ_ _=>rfl⟩ | exact⟨some _,λ_ _=>rfl⟩
   | xm=>cases d
   | Gz e=>cases d
   | FH=>cases d
   | FI u=>cases d
   | yX=>
    cases v<;>try exact⟨none,λ_ _=>rfl⟩
    rename_i k m;cases m with
    | negSucc=>exact⟨none,λ_ _=>rfl⟩
    | ofNat m=>
     simp only[oS];cases pQ m with
     | true=>exact⟨some _,λ_ _=>rfl⟩
     | false=>exact⟨none,λ_ _=>rfl⟩
 case mif t x=>simp only[simple];cases az T x with
  | none=>exact⟨none,λ_ _=>rfl⟩
  | some v=>exact⟨some (.jM t v),λ_ _=>rfl⟩
 case mfn f a c=>simp only[simple];cases eE T a with
  | none=>exact⟨none,λ_ _=>rfl⟩
  | some v=>cases eE T c with
   | none=>exact⟨none,λ_ _=>rfl⟩
   | some u=>exact⟨some (.f f v u),λ_ _=>rfl⟩
 case sli k x lo hi mx=>simp only[simple];cases az T x with
  | none=>exact⟨none,λ_ _=>rfl⟩
  | some v=>exact⟨_,λ_ _=>rfl⟩
 case fad off x=>simp only[simple];cases az T x with
  | none=>exact⟨none,λ_ _=>rfl⟩
  | some v=>cases v with
   | p b o=>exact⟨some (.p b (Nat.add o off)),λ_ _=>rfl⟩
   | _=>exact⟨none,λ_ _=>rfl⟩
 case fld agg off sz x=>simp only[simple];cases az T x with
  | none=>exact⟨none,λ_ _=>rfl⟩
  | some v=>cases v with
   | a l=>
    cases agg with
    | false=>exact⟨_,λ_ _=>rfl⟩
    | true=>
     simp only[cond_true];cases ch l off sz with
     | none=>exact⟨none,λ_ _=>rfl⟩
     | some l'=>exact⟨some (.a l'),λ_ _=>rfl⟩
   | _=>exact⟨none,λ_ _=>rfl⟩
 case iad arr z x i=>simp only[simple];cases az T x with
  | none=>exact⟨none,λ_ _=>rfl⟩
  | some v=>cases az T i with
   | none=>exact⟨none,λ_ _=>rfl⟩
   | some u=>
    cases u<;>try exact⟨none,λ_ _=>rfl⟩
    rename_i k m;cases m with
    | negSucc=>exact⟨none,λ_ _=>rfl⟩
    | ofNat m=>
     cases arr with
     | some q=>
      cases v with
      | p b o=>
       simp only;cases Nat.blt m q with
       | true=>exact⟨some (.p b (Nat.add o (Nat.mul m z))),λ_ _=>rfl⟩
       | false=>exact⟨none,λ_ _=>rfl⟩
      | _=>exact⟨none,λ_ _=>rfl⟩
     | none=>
      cases v with
      | sl b o l c=>
       simp only;cases Nat.blt m l with
       | true=>exact⟨some (.p b (Nat.add o (Nat.mul m z))),λ_ _=>rfl⟩
       | false=>exact⟨none,λ_ _=>rfl⟩
      | su b o l e=>
       simp only;cases Nat.blt m l with
       | true=>exact⟨some (.p b (Nat.add o (Nat.mul m z))),λ_ _=>rfl⟩
       | false=>exact⟨none,λ_ _=>rfl⟩
      | _=>exact⟨none,λ_ _=>rfl⟩
 case idx arr x i=>simp only[simple];cases az T x with
  | none=>exact⟨none,λ_ _=>rfl⟩
  | some v=>cases az T i with
   | none=>exact⟨none,λ_ _=>rfl⟩
   | some u=>
    cases u<;>try exact⟨none,λ_ _=>rfl⟩
    rename_i k m;cases m with
    | negSucc=>exact⟨none,λ_ _=>rfl⟩
    | ofNat m=>
     cases arr with
     | none=>
      cases v with
      | s l q=>
       simp only;cases Nat.blt m l with
       | true=>exact⟨some _,λ_ _=>rfl⟩
       | false=>exact⟨none,λ_ _=>rfl⟩
      | _=>exact⟨none,λ_ _=>rfl⟩
     | some q=>
      obtain⟨q,z,agg⟩:=q;cases v with
      | a l=>
       simp only;cases Nat.blt m q with
       | false=>exact⟨none,λ_ _=>rfl⟩
       | true=>
        cases agg with
        | false=>exact⟨_,λ_ _=>rfl⟩
        | true=>
         simp only[cond_true];cases ch l (Nat.mul m z) z with
         | none=>exact⟨none,λ_ _=>rfl⟩
         | some l'=>exact⟨some (.a l'),λ_ _=>rfl⟩
      | _=>exact⟨none,λ_ _=>rfl⟩
 case tas t z ok x=>simp only[simple];cases az T x with
  | none=>exact⟨none,λ_ _=>rfl⟩
  | some v=>cases v with
   | ni=>cases ok with
    | true=>exact⟨some _,λ_ _=>rfl⟩
    | false=>exact⟨none,λ_ _=>rfl⟩
   | jM t' u=>
    simp only;cases Nat.beq t t' with
    | true=>exact⟨some _,λ_ _=>rfl⟩
    | false=>cases ok with
     | true=>exact⟨some _,λ_ _=>rfl⟩
     | false=>exact⟨none,λ_ _=>rfl⟩
   | _=>exact⟨none,λ_ _=>rfl⟩
 case ext x i=>simp only[simple];cases az T x with
  | none=>exact⟨none,λ_ _=>rfl⟩
  | some v=>cases v with
   | u l=>exact⟨_,λ_ _=>rfl⟩
   | _=>exact⟨none,λ_ _=>rfl⟩
 case cap arr x=>simp only[simple];cases arr with
  | some m=>exact⟨some _,λ_ _=>rfl⟩
  | none=>cases az T x with
   | none=>exact⟨none,λ_ _=>rfl⟩
   | some v=>cases v with
    | ns=>exact⟨some _,λ_ _=>rfl⟩
    | sl b o l c=>exact⟨some (.i .i64 (Int.ofNat c)),λ_ _=>rfl⟩
    | _=>exact⟨none,λ_ _=>rfl⟩
 case mm mx l=>simp only[simple];cases eE T l with
  | none=>exact⟨none,λ_ _=>rfl⟩
  | some vs=>cases vs with
   | nil=>exact⟨none,λ_ _=>rfl⟩
   | cons v vs=>exact⟨_,λ_ _=>rfl⟩
def QA(d:cls op=.read):∃x:Option V,∀n,simple op T H n=cW H n x:=by
 cases op<;>(try (simp only[cls]at d;cases d;done))
 case ld agg sz a=>simp only[simple];cases az T a with
  | none=>exact⟨none,λ_=>rfl⟩
  | some v=>exact⟨_,λ_=>rfl⟩
 case cv k x=>
  simp only[simple];cases az T x with
  | none=>exact⟨none,λ_=>rfl⟩
  | some v=>
   cases k with
   | xm=>
    have key:∃y:Option V,∀n,(match elems H 1 v with
     | some (l,vs)=>match ofBytes vs with | some m=>(some (.s l m,H,n):fo) | none=>none
     | none=>none)=cW H n y:=by
     cases elems H 1 v with
     | none=>exact⟨none,λ_=>rfl⟩
     | some p=>
      obtain⟨l,vs⟩:=p;simp only;cases ofBytes vs with
      | none=>exact⟨none,λ_=>rfl⟩
      | some m=>exact⟨some (.s l m),λ_=>rfl⟩
    cases v<;>first | exact⟨none,λ_=>rfl⟩ | exact key
   | _=>cases d
 case lkp q z ok m k=>simp only[simple];cases az T m with
  | none=>exact⟨none,λ_=>rfl⟩
  | some v=>cases az T k with
   | none=>cases v<;>exact⟨none,λ_=>rfl⟩
   | some u=>
    cases v<;>try exact⟨none,λ_=>rfl⟩
    case nm=>
     simp only;cases pP q u with
     | true=>exact⟨some _,λ_=>rfl⟩
     | false=>exact⟨none,λ_=>rfl⟩
    case m b=>
     simp only;cases pP q u with
     | false=>exact⟨none,λ_=>rfl⟩
     | true=>
      simp only[cond_true];cases H.get b with
      | none=>exact⟨none,λ_=>rfl⟩
      | some o=>
       cases o<;>try exact⟨none,λ_=>rfl⟩
       rename_i es c;simp only;cases xU q u es with
       | none=>exact⟨none,λ_=>rfl⟩
       | some w=>cases w with
        | none=>exact⟨some _,λ_=>rfl⟩
        | some w=>exact⟨some _,λ_=>rfl⟩
 case len k x=>
  simp only[simple];cases az T x with
  | none=>rcases k with _ | _ | _ | k<;>exact⟨none,λ_=>rfl⟩
  | some v=>
   rcases k with _ | _ | _ | k
   ·cases v<;>first | exact⟨none,λ_=>rfl⟩ | exact⟨some (.i .i64 (Int.ofNat _)),λ_=>rfl⟩
   ·cases v<;>first | exact⟨none,λ_=>rfl⟩ | exact⟨some (.i .i64 (Int.ofNat _)),λ_=>rfl⟩ | exact⟨some (.i .i64 0),λ_=>rfl⟩
   ·cases v<;>try first | exact⟨none,λ_=>rfl⟩ | exact⟨some (.i .i64 0),λ_=>rfl⟩
    rename_i b;simp only;cases H.get b with
    | none=>exact⟨none,λ_=>rfl⟩
    | some o=>cases o<;>first | exact⟨none,λ_=>rfl⟩ | exact⟨some (.i .i64 (Int.ofNat _)),λ_=>rfl⟩
   ·cases v<;>exact⟨none,λ_=>rfl⟩
def adB(d:cls op=.make){v:V}{H1:Hp}{n1:K}(h:simple op T H n=some (v,H1,n1)):
 ∃o:O,H1=H.put (some o) n/\n1=n.succ/\∀H2,simple op T H2 n=some (v,H2.put (some o) n,n.succ):=by
 cases op<;>(try (simp only[cls]at d;cases d;done))
 case cv k x=>cases k<;>cases d
 case new e zs=>simp only[simple]at h ⊢;obtain⟨rfl,rfl,rfl⟩:=nM h;exact⟨_,rfl,rfl,λ_=>rfl⟩
 case mmap=>simp only[simple]at h ⊢;obtain⟨rfl,rfl,rfl⟩:=nM h;exact⟨_,rfl,rfl,λ_=>rfl⟩
 case box e x=>
  simp only[simple]at h ⊢;split at h
  case h_2=>cases h
  rename_i u g;cases f:aD u.cells with
  | false=>rw[f]at h;cases h
  | true=>rw[f]at h;obtain⟨rfl,rfl,rfl⟩:=nM h;exact⟨_,rfl,rfl,λ_=>rfl⟩
 case bsl e zs len ps=>
  simp only[simple]at h ⊢;split at h
  case h_2=>cases h
  rename_i u g;obtain⟨rfl,rfl,rfl⟩:=nM h;exact⟨_,rfl,rfl,λ_=>rfl⟩
 case msl e esz bytes z l c=>
  simp only[simple]at h ⊢;split at h
  case h_2=>cases h
  rename_i k1 a k2 b h1 h2;simp only[gy]at h ⊢;split at h
  case isFalse=>cases h
  rename_i hb;obtain⟨rfl,rfl,rfl⟩:=nM h;exact⟨_,rfl,rfl,λ_=>by rw[ao hb];rfl⟩
def QC{x:Option V}{v:V}{H1:Hp}{n1:K}(h:cW H n x=some (v,H1,n1)):x=some v/\H1=H/\n1=n:=by
 cases x with
 | none=>cases h
 | some y=>obtain⟨rfl,rfl,rfl⟩:=dB h;exact⟨rfl,rfl,rfl⟩
def adC{ih:db}{T':Tr V}(h:∀x∈op.ee,az T x=az T' x):oper ih op T H n=oper ih op T' H n:=by
 cases op with
 | lj f l=>
  have h1:=h f (by simp[A.ee]);have h2:=D4 (l:=l) λx a=>h x (by simp[A.ee,a]);simp only[oper,dI,h1,h2]
 | _=>rw[wj (by intro f l h;cases h),wj (by intro f l h;cases h)];exact aak (H:=H) (n:=n) h
def Bb{ih:db}(a:cls op≠.jt):oper ih op T H n=simple op T H n:=by
 cases op with
 | lj f l=>exact absurd rfl a
 | _=>exact wj (by intro f l h;cases h)
end
end
section
def adD{p:Nat->Prop}(h:∃n,p n):∃n,p n/\∀m,m<n->¬ p m:=by
 obtain⟨n,a⟩:=h
 induction n using Nat.strongRecOn with
 | ind n ih=>
  by_cases h:∃m,m<n/\p m
  ·obtain⟨m,h1,h2⟩:=h;exact ih m h1 h2
  ·exact⟨n,a,λm h1 h2=>h ⟨m,h1,h2⟩⟩
def adE{p:Nat->Prop}{N:Nat}(hb:∀n,p n->n<N)(h:∃n,p n):∃n,p n/\∀m,n<m->¬ p m:=by
 obtain⟨n,a⟩:=h
 induction b:N - n using Nat.strongRecOn generalizing n with
 | ind k ih=>
  by_cases h:∃m,n<m/\p m
  ·obtain⟨m,h1,h2⟩:=h;exact ih (N - m) (by have:=hb m h2;omega) m h2 rfl
  ·exact⟨n,a,λm h1 h2=>h ⟨m,h1,h2⟩⟩
structure eZ(ih:db)(l:List AO)(c:Canon)(rs:List Rd)(bs:List Bg):Prop where
 up:sK ih
 step:∀(j:Nat) (o:AO),l[j]?=some o->wu ih c rs bs j o
 xW:sa (c.M l.length) rs bs=true
 on:∀(i j:Nat) (a b:AO),i<j->l[i]?=some a->l[j]?=some b->vU i a b=true/\ya a b=true
 Ξ:∀(i:Nat) (a:AO),l[i]?=some a->∀k,Nat.testBit a.Ξ k=true->k<i
 m0:c.M 0=[]
def Mk(l:List AO)(c:Canon)(j:Nat):Prop:=∃o,l[j]?=some o/\c.run j=true/\cls o.op=.make
def lE(l:List AO)(c:Canon)(j:Nat):Prop:=∃o,l[j]?=some o/\c.run j=true/\cls o.op=.jt
section
variable {ih:db}{l:List AO}{c:Canon}{rs:List Rd}{bs:List Bg}
def ql{j:Nat}{o:AO}(h:l[j]?=some o):j<l.length:=(mC.1 h).1
def Mk.lt{j:Nat}(h:Mk l c j):j<l.length:=let⟨o,h1,_⟩:=h;ql h1
def lE.lt{j:Nat}(h:lE l c j):j<l.length:=let⟨o,h1,_⟩:=h;ql h1
def QD{op:A}(h:cls op=.jt):jt op=true:=by
 unfold jt;split
 ·rfl
 ·rw[h]
def eZ.chain(R:eZ ih l c rs bs){i j:Nat}(hi:lE l c i)(hj:lE l c j)(h:i<j){b:AO}(hb:l[j]?=some b):Nat.testBit b.Ξ i=true:=by obtain⟨a,h1,_,h2⟩:=hi;obtain⟨b',d,_,e⟩:=hj;rw[hb]at d;injection d with d;subst d;have:=(R.on i j a b h h1 hb).1;simp only[vU,QD h2,QD e,hK,Bool.not_true,xJ,Bool.or_false]at this;exact this
def eZ.QE(R:eZ ih l c rs bs){i:Nat}(hi:i<l.length):(c.N i).num<=(c.N (i+1)).num:=by
 obtain⟨o,d⟩:∃o,l[i]?=some o:=⟨_,df hi⟩;have s:=R.step i o d;cases a:c.run i with
 | false=>rw[(s.not a).2.2.1];exact φ _
 | true=>
  have up:=Qv R.up (s.xw a);cases b:cls o.op with
  | pure=>rw[(s.pure a b).2.1];exact φ _
  | read=>rw[(s.read a b).2.1];exact φ _
  | make=>rw[(s.make a b).2.1];exact up
  | jt=>rw[(s.jt a b).2.1];exact up
def eZ.kU(R:eZ ih l c rs bs){i j:Nat}(b:i<=j)(hj:j<=l.length):(c.N i).num<=(c.N j).num:=by
 induction j with
 | zero=>
  have:i=0:=by omega
  subst this;exact φ _
 | succ j a=>
  rcases iG j i with h | h
  ·have:i=j+1:=by omega
   subst this;exact φ _
  ·exact dU (a h (by omega)) (R.QE (by omega))
def eZ.QF(R:eZ ih l c rs bs){i:Nat}{o:AO}(b:l[i]?=some o)(d:c.run i=true)(a:cls o.op=.make):
 ∃ob:O,c.H' i=(cY (c.H i) o.Ξ (c.M i)).put (some ob) (c.N i)/\c.n' i=(c.N i).succ/\∀H2,simple o.op (c.T i) H2 (c.N i)=some (c.v i,H2.put (some ob) (c.N i),(c.N i).succ):=by
 have s:=(R.step i o b).xw d;rw[Bb (by rw[a];intro h;cases h)]at s;exact adB a s
def eZ.QG(R:eZ ih l c rs bs){i:Nat}(h:Mk l c i):c.N (i+1)=(c.N i).succ:=by obtain⟨o,a,b,d⟩:=h;obtain⟨ob,_,h2,_⟩:=R.QF a b d;rw[((R.step i o a).make b d).2.1,h2]
def eZ.El(R:eZ ih l c rs bs){i j:Nat}(h:Mk l c i)(a:i<j)(hj:j<=l.length):(c.N i).num<(c.N j).num:=by have h1:=R.kU (i:=i+1) (j:=j) (by omega) hj;rw[R.QG h,K.eF]at h1;omega
def eZ.Bc(R:eZ ih l c rs bs){i j:Nat}(hi:Mk l c i)(hj:Mk l c j)(h:c.N i=c.N j):i=j:=by
 rcases xP i j with h1 | h1 | h1
 ·have:=R.El hi h1 (eu hj.lt);rw[h]at this;omega
 ·exact h1
 ·have:=R.El hj h1 (eu hi.lt);rw[h]at this;omega
def eZ.QH(R:eZ ih l c rs bs){q:Nat}(r:q<=l.length)(k:K)(j:Nat):(k,j)∈c.M q↔j<q/\Mk l c j/\k=c.N j:=by
 induction q with
 | zero=>
  rw[R.m0];constructor
  ·intro h;cases h
  ·rintro⟨h,_⟩;omega
 | succ q i=>
  have m:q<l.length:=by omega
  obtain⟨o,g⟩:∃o,l[q]?=some o:=⟨_,df m⟩;have s:=R.step q o g;have same:(¬ Mk l c q)->c.M (q+1)=c.M q->((k,j)∈c.M (q+1)↔j<q+1/\Mk l c j/\k=c.N j):=by
   intro n e;rw[e,i (by omega)];constructor
   ·rintro⟨a,b⟩;exact⟨by omega,b⟩
   ·rintro⟨a,b,b'⟩;refine⟨?_,b,b'⟩;rcases iG j q with h | h
    ·exact h
    ·have:j=q:=by omega
     subst this;exact absurd b n
  cases f:c.run q with
  | false=>exact same (λ⟨_,_,h,_⟩=>by rw[f]at h;cases h) (s.not f).2.2.2
  | true=>
   cases d:cls o.op with
   | pure=>exact same (λ⟨p,hp,_,h⟩=>by rw[g]at hp;injection hp with hp;subst hp;rw[d]at h;cases h) (s.pure f d).2.2
   | read=>exact same (λ⟨p,hp,_,h⟩=>by rw[g]at hp;injection hp with hp;subst hp;rw[d]at h;cases h) (s.read f d).2.2.1
   | jt=>exact same (λ⟨p,hp,_,h⟩=>by rw[g]at hp;injection hp with hp;subst hp;rw[d]at h;cases h) (s.jt f d).2.2.1
   | make=>
    rw[(s.make f d).2.2,eO,i (by omega)];constructor
    ·rintro(h | ⟨a,b⟩)
     ·injection h with h1 h2;subst h1;subst h2;exact⟨by omega,⟨o,g,f,d⟩,rfl⟩
     ·exact⟨by omega,b⟩
    ·rintro⟨a,b,b'⟩;rcases iG j q with h | h
     ·exact .inr ⟨h,b,b'⟩
     ·have:j=q:=by omega
      subst this;subst b';exact .inl U
def eZ.uB(R:eZ ih l c rs bs){q:Nat}(f:q<=l.length)(a:Nat)(k:K):hidden a (c.M q) k↔∃j,j<q/\Mk l c j/\k=c.N j/\Nat.testBit a j=false:=by
 unfold hidden;constructor
 ·rintro⟨j,h1,h2⟩;obtain⟨b,d,e⟩:=(R.QH f k j).1 h1;exact⟨j,b,d,e,h2⟩
 ·rintro⟨j,b,d,e,h2⟩;exact⟨j,(R.QH f k j).2 ⟨b,d,e⟩,h2⟩
def eZ.QJ(R:eZ ih l c rs bs){i:Nat}(hi:i<l.length)(h1:¬ Mk l c i)(h2:¬ lE l c i):c.H (i+1)=c.H i/\c.N (i+1)=c.N i:=by
 obtain⟨o,d⟩:∃o,l[i]?=some o:=⟨_,df hi⟩;have s:=R.step i o d;cases a:c.run i with
 | false=>exact⟨(s.not a).2.1,(s.not a).2.2.1⟩
 | true=>
  cases b:cls o.op with
  | pure=>exact⟨(s.pure a b).1,(s.pure a b).2.1⟩
  | read=>exact⟨(s.read a b).1,(s.read a b).2.1⟩
  | make=>exact absurd ⟨o,d,a,b⟩ h1
  | jt=>exact absurd ⟨o,d,a,b⟩ h2
def eZ.Iq(R:eZ ih l c rs bs){i:Nat}(h:Mk l c i):∃(o:AO) (ob:O),l[i]?=some o/\cls o.op=.make/\c.run i=true/\(∀H2,simple o.op (c.T i) H2 (c.N i)=some (c.v i,H2.put (some ob) (c.N i),(c.N i).succ))/\∀k,(c.H (i+1)).get k=if k=c.N i then some ob else (c.H i).get k:=by
 obtain⟨o,a,d,f⟩:=h;obtain⟨ob,h1,h2,g⟩:=R.QF a d f;refine⟨o,ob,a,f,d,g,λk=>?_⟩;rw[((R.step i o a).make d f).1];obtain⟨b1,b2⟩:=wx o.Ξ (c.M i) (c.H i) (c.H' i) k;obtain⟨p,m⟩:=AU o.Ξ (c.M i) (c.H i) k;have hle:i<=l.length:=eu (ql a);by_cases b:hidden o.Ξ (c.M i) k
 ·rw[b1 b,Θ];intro e;obtain⟨j,hj,hm,n,_⟩:=(R.uB hle _ _).1 b;have:=R.El hm hj hle;rw[←n,e]at this;omega
 ·rw[b2 b,h1,Tr.eL,m b]
def eZ.Be(R:eZ ih l c rs bs){i:Nat}{o:AO}(a:l[i]?=some o)(b:c.run i=true)(d:cls o.op=.jt)(k:K):
 (hidden o.Ξ (c.M i) k->(c.H (i+1)).get k=(c.H i).get k)/\(¬ hidden o.Ξ (c.M i) k->(c.H (i+1)).get k=(c.H' i).get k):=by
 rw[((R.step i o a).jt b d).1];exact wx o.Ξ (c.M i) (c.H i) (c.H' i) k
def eZ.QK(R:eZ ih l c rs bs){p q:Nat}(m:p<=q)(n:q<=l.length){k:K}(hb:∀b,p<=b->b<q->∀o,l[b]?=some o->c.run b=true->cls o.op=.jt->hidden o.Ξ (c.M b) k)
 (a:∀j,p<=j->j<q->Mk l c j->k≠c.N j):(c.H q).get k=(c.H p).get k:=by
 induction q with
 | zero=>
  have:p=0:=by omega
  subst this;rfl
 | succ q g=>
  rcases iG q p with h | h
  ·have:p=q+1:=by omega
   subst this;rfl
  ·have i:=g h (by omega) (λb h1 h2=>hb b h1 (by omega)) (λj h1 h2=>a j h1 (by omega));rw[←i];by_cases h1:Mk l c q
   ·obtain⟨o,ob,_,_,_,_,h2⟩:=R.Iq h1;rw[h2 k,Θ (a q h (by omega) h1)]
   ·by_cases h2:lE l c q
    ·obtain⟨o,d,e,f⟩:=h2;exact(R.Be d e f k).1 (hb q h (by omega) o d e f)
    ·rw[(R.QJ (by omega) h1 h2).1]
def eZ.adG(R:eZ ih l c rs bs){i j:Nat}{a b:AO}(hi:l[i]?=some a)(hj:l[j]?=some b){d:K}(h1:a.dst=some d)(h2:b.dst=some d):i=j:=by
 rcases xP i j with h | h | h
 ·have:=(R.on i j a b h hi hj).2;simp only[ya,h1,h2,K.beq_refl]at this;cases this
 ·exact h
 ·have:=(R.on j i b a h hj hi).2;simp only[ya,h1,h2,K.beq_refl]at this;cases this
def eZ.QL(R:eZ ih l c rs bs){q:Nat}(p:q<=l.length)(k:K):
 (∃j o,j<q/\l[j]?=some o/\o.dst=some k/\(c.T q).get k=some (c.v j))\/((∀j o,j<q->l[j]?=some o->o.dst≠some k)/\(c.T q).get k=(c.T 0).get k):=by
 induction q with
 | zero=>exact .inr ⟨λj o h=>by omega,rfl⟩
 | succ q g=>
  have i:q<l.length:=by omega
  obtain⟨o,f⟩:∃o,l[q]?=some o:=⟨_,df i⟩;have s:=(R.step q o f).iH;rw[s];by_cases b:o.dst=some k
  ·left;refine⟨q,o,by omega,f,b,?_⟩;simp only[dh,b,Tr.eL,if_true]
  ·have e:(dh o.dst (some (c.v q)) (c.T q)).get k=(c.T q).get k:=by
    cases h:o.dst with
    | none=>rfl
    | some d=>simp only[dh];rw[Tr.eL,Θ (λe=>b (by rw[h,e]))]
   rw[e];rcases g (by omega) with ⟨j,o',h1,h2,m,n⟩ | ⟨h1,h2⟩
   ·exact .inl ⟨j,o',by omega,h2,m,n⟩
   ·refine .inr ⟨λj o' hj a=>?_,h2⟩;rcases iG j q with h | h
    ·exact h1 j o' h a
    ·have:j=q:=by omega
     subst this;rw[f]at a;injection a with a;subst a;exact b
def eZ.looks(R:eZ ih l c rs bs){i j:Nat}{a b:AO}(hi:l[i]?=some a)(hj:l[j]?=some b){d:K}(e:b.dst=some d)(hl:d∈a.looks):Nat.testBit a.Ξ j=true\/Nat.testBit b.Ξ i=true\/i=j:=by
 have any:∀{l:List K},d∈l->l.any (K.beq d)=true:=λh=>List.any_eq_true.2 ⟨d,h,K.beq_refl d⟩;rcases xP i j with h | h | h
 ·have:=(R.on i j a b h hi hj).1;simp only[vU,e,any hl,Bool.not_true,Bool.and_false,Bool.or_false]at this;exact .inr (.inl this)
 ·exact .inr (.inr h)
 ·have:=(R.on j i b a h hj hi).1;simp only[vU,e,any hl,Bool.not_true,Bool.and_false,xJ,Bool.or_false]at this;exact .inl this
end
end
section
def adH{a b:Int}(h:pG a b=true):a=b:=by cases a<;>cases b<;>simp only[pG]at h<;>first | (cases h;done) | (rw[bX h])
mutual
theorem sM:∀{a b:V},cI a b=true->a=b
 | .b x,y,h=>by cases y<;>simp only[cI]at h<;>first | (cases h;done) | (simp at h;rw[h])
 | .i k x,y,h=>by
  cases y<;>simp only[cI]at h<;>first | (cases h;done) | skip
  simp only[aK]at h;rw[DM h.1,adH h.2]
 | .s l n,y,h=>by
  cases y<;>simp only[cI]at h<;>first | (cases h;done) | skip
  simp only[aK]at h;rw[bX h.1,bX h.2]
 | .np,y,h=>by cases y<;>simp only[cI]at h<;>first | rfl | (cases h;done)
 | .p b o,y,h=>by
  cases y<;>simp only[cI]at h<;>first | (cases h;done) | skip
  simp only[aK]at h;rw[K.beq_eq h.1,bX h.2]
 | .ns,y,h=>by cases y<;>simp only[cI]at h<;>first | rfl | (cases h;done)
 | .sl b o l c,y,h=>by
  cases y<;>simp only[cI]at h<;>first | (cases h;done) | skip
  simp only[aK]at h;rw[K.beq_eq h.1.1.1,bX h.1.1.2,bX h.1.2,bX h.2]
 | .su b o l c,y,h=>by
  cases y<;>simp only[cI]at h<;>first | (cases h;done) | skip
  simp only[aK]at h;rw[K.beq_eq h.1.1.1,bX h.1.1.2,bX h.1.2,bX h.2]
 | .nm,y,h=>by cases y<;>simp only[cI]at h<;>first | rfl | (cases h;done)
 | .m b,y,h=>by cases y<;>simp only[cI]at h<;>first | (cases h;done) | (rw[K.beq_eq h])
 | .nf,y,h=>by cases y<;>simp only[cI]at h<;>first | rfl | (cases h;done)
 | .f g a c,y,h=>by
  cases y<;>simp only[cI]at h<;>first | (cases h;done) | skip
  simp only[aK]at h;rw[bX h.1.1,uD h.1.2,uD h.2]
 | .y l,y,h=>by cases y<;>simp only[cI]at h<;>cases h
 | .ni,y,h=>by cases y<;>simp only[cI]at h<;>first | rfl | (cases h;done)
 | .jM t v,y,h=>by
  cases y<;>simp only[cI]at h<;>first | (cases h;done) | skip
  simp only[aK]at h;rw[bX h.1,sM h.2]
 | .a l,y,h=>by cases y<;>simp only[cI]at h<;>first | (cases h;done) | (rw[uD h])
 | .u l,y,h=>by cases y<;>simp only[cI]at h<;>first | (cases h;done) | (rw[uD h])
 | .q,y,h=>by cases y<;>simp only[cI]at h<;>cases h
theorem uD:∀{a b:List V},jA a b=true->a=b
 | [],[],_=>rfl
 | [],_::_,h=>by simp only[jA]at h;cases h
 | _::_,[],h=>by simp only[jA]at h;cases h
 | a::l,b::l',h=>by simp only[jA,aK]at h;rw[sM h.1,uD h.2]
end
def Cut(l:List AO)(c:Canon)(D:Nat->Prop)(p:Nat):Prop:=p<=l.length/\∀b,lE l c b->(D b↔b<p)
structure Spec(l:List AO)(c:Canon)(D:Nat->Prop)(p:Nat)(Hd:Hp):Prop where
 base:∀k,(∀j,Mk l c j->k≠c.N j)->Hd.get k=(c.H p).get k
 done:∀j,Mk l c j->D j->Hd.get (c.N j)=if j<p then (c.H p).get (c.N j) else (c.H (j+1)).get (c.N j)
 not:∀j,Mk l c j->¬ D j->Hd.get (c.N j)=none
def Eo(l:List AO)(D:Nat->Prop):Prop:=∀(i:Nat) (o:AO),D i->l[i]?=some o->∀k,Nat.testBit o.Ξ k=true->D k
structure rE(l:List AO)(c:Canon)(D:Nat->Prop):Prop where
 Bf:∀k o,(c.H 0).get k=some o->k.num<(c.N 0).num/\lQ (c.N 0) o
 bg:∀b,lE l c b->D b->∀k o,(c.H' b).get k=some o->k.num<(c.N (b+1)).num/\lQ (c.N (b+1)) o
 make:∀j,Mk l c j->D j->∀o,(c.H (j+1)).get (c.N j)=some o->lQ (c.N (j+1)) o
section
variable {ih:db}{l:List AO}{c:Canon}{rs:List Rd}{bs:List Bg}{D:Nat->Prop}{p q:Nat}{Hd:Hp}
def rE.vX(F:rE l c D)(R:eZ ih l c rs bs)(s:q<=l.length)(hb:∀b,b<q->lE l c b->D b)(k:K)(o:O)(d:(c.H q).get k=some o):
 k.num<(c.N q).num/\((∀j,Mk l c j->k=c.N j->D j)->lQ (c.N q) o):=by
 induction q generalizing k o with
 | zero=>exact⟨(F.Bf k o d).1,λ_=>(F.Bf k o d).2⟩
 | succ q t=>
  have u:=R.QE (i:=q) (by omega);have up:(c.H q).get k=some o->k.num<(c.N (q+1)).num/\((∀j,Mk l c j->k=c.N j->D j)->lQ (c.N (q+1)) o):=λh=>
   let⟨h1,h2⟩:=t (by omega) (λb h1 h2=>hb b (by omega) h2) k o h
   ⟨by omega,λh=>(h2 h).mono u⟩
  by_cases h1:Mk l c q
  ·obtain⟨a,ob,_,_,_,_,h2⟩:=R.Iq h1;have f:=h2 k;rw[d]at f;by_cases e:k=c.N q
   ·subst e;exact⟨R.El h1 (by omega) s,λh=>F.make q h1 (h q h1 rfl) o d⟩
   ·rw[Θ e]at f;exact up f.symm
  ·by_cases h2:lE l c q
   ·have v:=hb q (by omega) h2;obtain⟨a,g,m,n⟩:=h2;obtain⟨g1,w⟩:=R.Be g m n k;by_cases r:hidden a.Ξ (c.M q) k
    ·rw[g1 r]at d;exact up d
    ·rw[w r]at d;have:=F.bg q ⟨a,g,m,n⟩ v k o d;exact⟨this.1,λ_=>this.2⟩
   ·rw[(R.QJ (by omega) h1 h2).1]at d;exact up d
def eZ.Ep(R:eZ ih l c rs bs){p q:Nat}(a:p<=q)(d:q<=l.length){k:K}(hb:∀b,p<=b->b<q->¬ lE l c b)(e:∀j,p<=j->j<q->Mk l c j->k≠c.N j):(c.H q).get k=(c.H p).get k:=
 R.QK a d (λb h1 h2 o f g h=>absurd ⟨o,f,g,h⟩ (hb b h1 h2)) e
def Spec.move(S:Spec l c D p Hd)(R:eZ ih l c rs bs)(hp:Cut l c D p)(i:Cut l c D q):Spec l c D q Hd:=by
 have no:∀b,(p<=b/\b<q\/q<=b/\b<p)->¬ lE l c b:=λb h hb=>by
  have h1:=hp.2 b hb;have h2:=i.2 b hb;rcases h with h | h
  ·have:=h1.1 (h2.2 h.2);omega
  ·have:=h2.1 (h1.2 h.2);omega
 have both:∀k,(∀j,(p<=j/\j<q\/q<=j/\j<p)->Mk l c j->k≠c.N j)->(c.H p).get k=(c.H q).get k:=λk d=>by
  rcases Nat.le_total p q with h | h
  ·exact(R.Ep h i.1 (λb h1 h2=>no b (.inl ⟨h1,h2⟩)) (λj h1 h2=>d j (.inl ⟨h1,h2⟩))).symm
  ·exact R.Ep h hp.1 (λb h1 h2=>no b (.inr ⟨h1,h2⟩)) (λj h1 h2=>d j (.inr ⟨h1,h2⟩))
 have ne:∀{j a},Mk l c j->Mk l c a->j≠a->c.N j≠c.N a:=λh h' n e=>n (R.Bc h h' e);refine⟨λk d=>by rw[S.base k d];exact both k λj _ hj=>d j hj,λj hj o=>?_,S.not⟩;rw[S.done j hj o];by_cases h1:j<p
 ·rw[ao h1];by_cases h2:j<q
  ·rw[ao h2];exact both _ λa h f=>ne hj f (by omega)
  ·rw[Θ h2];exact R.Ep h1 hp.1 (λb m g=>no b (.inr ⟨by omega,g⟩)) (λa m g f=>ne hj f (by omega))
 ·rw[Θ h1];by_cases h2:j<q
  ·rw[ao h2];exact(R.Ep h2 i.1 (λb m g=>no b (.inl ⟨by omega,g⟩)) (λa m g f=>ne hj f (by omega))).symm
  ·rw[Θ h2]
def Cut.below(h:Cut l c D q):∀b,b<q->lE l c b->D b:=λb h1 h2=>(h.2 b h2).2 h1
def Spec.sub(S:Spec l c D q Hd)(R:eZ ih l c rs bs)(F:rE l c D)(b:Cut l c D q)(k:K)(o:O)(a:(c.H q).get k=some o)(f:∀j,Mk l c j->k=c.N j->j<q->D j):Hd.get k=some o:=by
 by_cases h:∃j,Mk l c j/\k=c.N j
 ·obtain⟨j,hj,e⟩:=h;by_cases d:j<q
  ·have:=S.done j hj (f j hj e d);rw[ao d,←e,a]at this;exact this
  ·have:=(F.vX R b.1 b.below k o a).1;have h2:=R.kU (i:=q) (j:=j) (by omega) (eu hj.lt);rw[←e]at h2;omega
 ·rw[S.base k λj hj e=>h ⟨j,hj,e⟩];exact a
def adI(R:eZ ih l c rs bs)(f:Eo l D){i:Nat}(hi:lE l c i)(d:¬ D i){a:AO}(g:l[i]?=some a)(j:∀k,Nat.testBit a.Ξ k=true->D k):Cut l c D i:=by
 refine⟨eu hi.lt,λb hb=>⟨λh=>?_,λh=>j b (R.chain hb hi h g)⟩⟩;rcases xP b i with h1 | h1 | h1
 ·exact h1
 ·subst h1;exact absurd h d
 ·obtain⟨o,e,_⟩:=id hb;exact absurd (f b o h e i (R.chain hi hb h1 e)) d
def eZ.QM(R:eZ ih l c rs bs){i b:Nat}{a o:AO}(e:l[i]?=some a)(f:c.run i=true)(d:cls a.op=.read)(g:l[b]?=some o)(j:c.run b=true)(k:cls o.op=.jt)
 (h1:Nat.testBit a.Ξ b=false)(h2:Nat.testBit o.Ξ i=false){q:Nat}(m:q=b\/q=b+1):∀n,simple a.op (c.T i) (cY (c.H q) a.Ξ (c.M l.length)) n=some (c.v i,cY (c.H q) a.Ξ (c.M l.length),n):=by
 have g1:=((R.step i a e).read f d).2.2.2.2;have r:=((R.step b o g).jt j k).2.2.2;have ag:=R.xW;unfold sa at ag;rw[mE]at ag;have:=ag _ g1;rw[mE]at this;have:=this _ r;unfold Ev.xW at this;simp only[h1,h2,Bool.false_or,aK,Ac]at this;have key:∀H:Hp,(match simple a.op (c.T i) (cY H a.Ξ (c.M l.length)) .h with
  | some (v,_,_)=>cI v (c.v i)
  | none=>false)=true->∀n,simple a.op (c.T i) (cY H a.Ξ (c.M l.length)) n=some (c.v i,cY H a.Ξ (c.M l.length),n):=by
  intro H h n;obtain⟨x,s⟩:=QA (T:=c.T i) (H:=cY H a.Ξ (c.M l.length)) d;rw[s]at h ⊢;cases x with
  | none=>cases h
  | some v=>have:=sM h;subst this;rfl
 rcases m with rfl | rfl
 ·exact key _ this.1
 ·exact key _ this.2
def adJ(R:eZ ih l c rs bs)(A:Eo l D){i:Nat}{a:AO}(w:l[i]?=some a)(B:c.run i=true)(z:cls a.op=.read)(G:¬ D i)(I:∀k,Nat.testBit a.Ξ k=true->D k):
 ∃q,Cut l c D q/\∃Hs:Hp,(∀k ob,Hs.get k=some ob->(c.H q).get k=some ob/\∀j,Mk l c j->k=c.N j->j<q->D j)/\∀n,simple a.op (c.T i) Hs n=some (c.v i,Hs,n):=by
 have J:=ql w;have C:∀q s,q<=s->s<=l.length->∀k ob,(cY (c.H q) a.Ξ (c.M s)).get k=some ob->(c.H q).get k=some ob/\∀j,Mk l c j->k=c.N j->j<q->D j:=by
  intro q s V hs k ob h;refine⟨O0 _ _ _ _ _ h,λj hj e W=>I j ?_⟩;cases hb:Nat.testBit a.Ξ j with
  | true=>rfl
  | false=>
   have P:hidden a.Ξ (c.M s) k:=(R.uB hs _ _).2 ⟨j,by omega,hj,e,hb⟩;rw[(AU _ _ _ _).1 P]at h;cases h
 by_cases K:Cut l c D i
 ·refine⟨i,K,cY (c.H i) a.Ξ (c.M i),C i i (φ _) (eu J),?_⟩;have s:=(R.step i a w).xw B;rw[Bb (by rw[z];intro h;cases h)]at s;obtain⟨x,d⟩:=QA (T:=c.T i) (H:=cY (c.H i) a.Ξ (c.M i)) z;intro n;rw[d]at s ⊢;obtain⟨rfl,_⟩:=QC s;rfl
 ·have:∃b,lE l c b/\¬ (D b↔b<i):=Classical.byContradiction λh=>K ⟨eu J,λb hb=>Classical.byContradiction λh'=>h ⟨b,hb,h'⟩⟩;obtain⟨b,hb,L⟩:=this;by_cases t:D b
  ·have Q:¬ b<i:=λh=>L ⟨λ_=>h,λ_=>t⟩;obtain⟨r,⟨f,g⟩,y⟩:=adE (p:=λb=>lE l c b/\D b) (N:=l.length) (λn h=>h.1.lt) ⟨b,hb,t⟩;have S:b<=r:=Nat.le_of_not_lt λh=>y b h ⟨hb,t⟩;have X:i≠r:=λe=>G (e▸g);obtain⟨o,m,E,F⟩:=id f;refine⟨r+1,⟨f.lt,λb' u=>⟨λh=>Nat.lt_succ_of_le (Nat.le_of_not_lt λh'=>y b' h' ⟨u,h⟩),λh=>?_⟩⟩,_,C (r+1) l.length f.lt (φ _),?_⟩
   ·rcases iG b' r with h1 | h1
    ·exact A r o g m b' (R.chain u f h1 m)
    ·have:b'=r:=by omega
     subst this;exact g
   ·refine R.QM w B z m E F ?_ ?_ (.inr U)
    ·cases d:Nat.testBit a.Ξ r with
     | false=>rfl
     | true=>have:=R.Ξ i a w r d;omega
    ·cases d:Nat.testBit o.Ξ i with
     | false=>rfl
     | true=>exact absurd (A r o g m i d) G
  ·have Q:b<i:=Classical.byContradiction λh=>L ⟨λh'=>absurd h' t,λh'=>absurd h' h⟩;obtain⟨r,⟨f,g⟩,y⟩:=adD (p:=λb=>lE l c b/\¬ D b) ⟨b,hb,t⟩;have S:r<=b:=Nat.le_of_not_lt λh=>y b h ⟨hb,t⟩;obtain⟨o,m,E,F⟩:=id f;refine⟨r,⟨eu f.lt,λb' u=>⟨λh=>?_,λh=>Classical.byContradiction λh'=>y b' h ⟨u,h'⟩⟩⟩,_,C r l.length (eu f.lt) (φ _),?_⟩
   ·rcases xP b' r with h1 | h1 | h1
    ·exact h1
    ·subst h1;exact absurd h g
    ·obtain⟨o',O,_⟩:=id u;exact absurd (A b' o' h O r (R.chain f u h1 O)) g
   ·refine R.QM w B z m E F ?_ ?_ (.inl U)
    ·cases d:Nat.testBit a.Ξ r with
     | false=>rfl
     | true=>exact absurd (I r d) g
    ·cases d:Nat.testBit o.Ξ i with
     | false=>rfl
     | true=>have:=R.Ξ r o m i d;omega
end
end
section
def kf(D:Nat->Prop)(i:Nat):Nat->Prop:=λj=>D j\/j=i
section
variable {ih:db}{l:List AO}{c:Canon}{rs:List Rd}{bs:List Bg}{D:Nat->Prop}{p q i:Nat}{Hd:Hp}{a:AO}
def Is(b:l[i]?=some a)(h:cls a.op≠.make):¬ Mk l c i:=λ⟨o,h1,_,h2⟩=>by rw[b]at h1;injection h1 with h1;subst h1;exact h h2
def It(b:l[i]?=some a)(h:cls a.op≠.jt):¬ lE l c i:=λ⟨o,h1,_,h2⟩=>by rw[b]at h1;injection h1 with h1;subst h1;exact h h2
def adL(h:c.run i=false):¬ Mk l c i:=λ⟨o,_,h1,_⟩=>by rw[h]at h1;cases h1
def adM(h:c.run i=false):¬ lE l c i:=λ⟨o,_,h1,_⟩=>by rw[h]at h1;cases h1
def Cut.kf(h:Cut l c D p)(hb:¬ lE l c i):Cut l c (kf D i) p:=⟨h.1,λb d=>by
 rw[←h.2 b d];constructor
 ·rintro(h1 | h1)
  ·exact h1
  ·subst h1;exact absurd d hb
 ·exact .inl⟩
def Spec.other(S:Spec l c D p Hd)(hm:¬ Mk l c i):Spec l c (Ev.kf D i) p Hd:=⟨S.base,λj hj b=>by
 rcases b with b | rfl
 ·exact S.done j hj b
 ·exact absurd hj hm,λj hj b=>S.not j hj λh=>b (.inl h)⟩
def rE.other(F:rE l c D)(hm:¬ Mk l c i)(hb:¬ lE l c i):rE l c (Ev.kf D i):=⟨F.Bf,λb e d=>by
 rcases d with d | rfl
 ·exact F.bg b e d
 ·exact absurd e hb,λj hj d=>by
 rcases d with d | rfl
 ·exact F.make j hj d
 ·exact absurd hj hm⟩
def adN(R:eZ ih l c rs bs)(Q:Eo l D)(F:rE l c D)(z:Cut l c D p)(S:Spec l c D p Hd)(g:l[i]?=some a)(w:c.run i=true)(V:¬ D i)(L:∀k,Nat.testBit a.Ξ k=true->D k):
 ∃(Hs:Hp) (n:K) (qN:Hp) (n':K),oper ih a.op (c.T i) Hs n=some (c.v i,qN,n')/\(c.N i).num<=n.num/\(∀k o,Hs.get k=some o->Hd.get k=some o/\k.num<n.num/\lQ n o)/\(n'=n\/(n=c.N i/\n'=c.N (i+1)))/\((∀k o,qN.get k=some o->k.num<n'.num/\lQ n' o)->∃Hn:Hp,(∀k o,Hn.get k=some o->(Hd.get k=some o/\Hs.get k=none)\/qN.get k=some o)/\(∃p,Cut l c (kf D i) p/\Spec l c (kf D i) p Hn)/\rE l c (kf D i))/\(bk n' (c.v i)=true->bk (c.N (i+1)) (c.v i)=true):=by
 have W:=ql g;have s:=R.step i a g;have xw:=s.xw w;have QN:∀(k:K) (o:O),(Tr.e:Hp).get k=some o->False:=λk o h=>by rw[Tr.gf]at h;cases h
 cases f:cls a.op with
 | pure=>
  obtain⟨h1,h2,X⟩:=s.pure w f;have Y:oper ih a.op (c.T i) .e (c.N i)=some (c.v i,.e,c.N i):=by rw[Bb (by rw[f];intro h;cases h)]at xw ⊢;obtain⟨x,hx⟩:=adA (T:=c.T i) f;rw[hx]at xw ⊢;obtain⟨rfl,_⟩:=QC xw;rfl
  have m1:¬ Mk l c i:=Is g (by rw[f];intro h;cases h);have A:¬ lE l c i:=It g (by rw[f];intro h;cases h);exact⟨.e,c.N i,.e,c.N i,Y,φ _,λk o h=>(QN k o h).elim,.inl U,λ_=>⟨Hd,λk o h=>.inl ⟨h,Tr.gf k⟩,⟨p,z.kf A,S.other m1⟩,F.other m1 A⟩,λh=>by rw[h2];exact h⟩
 | read=>
  obtain⟨h1,h2,X,Z,h5⟩:=s.read w f;obtain⟨q,u,Hs,jg,kR⟩:=adJ R Q g w f V L;have m1:¬ Mk l c i:=Is g (by rw[f];intro h;cases h);have A:¬ lE l c i:=It g (by rw[f];intro h;cases h);refine⟨Hs,c.N l.length,Hs,c.N l.length,?_,R.kU (eu W) (φ _),λk o m=>?_,.inl U,λ_=>⟨Hd,λk o h=>?_,⟨p,z.kf A,S.other m1⟩,F.other m1 A⟩,λ_=>by rw[h2];exact Z⟩
  ·rw[Bb (by rw[f];intro h;cases h)];exact kR _
  ·obtain⟨g1,y⟩:=jg k o m;obtain⟨d1,d2⟩:=F.vX R u.1 u.below k o g1;have C:=R.kU (i:=q) u.1 (φ _);refine⟨(S.move R z u).sub R F u k o g1 y,by omega,(d2 λj hj e=>?_).mono C⟩;rcases iG j q with h | h
   ·exact y j hj e h
   ·have:=R.kU (i:=q) (j:=j) h (eu hj.lt);rw[←e]at this;omega
  ·cases e:Hs.get k with
   | none=>exact .inl ⟨h,rfl⟩
   | some o'=>
    obtain⟨g1,y⟩:=jg k o' e;have:=(S.move R z u).sub R F u k o' g1 y;rw[h]at this;injection this with this;subst this;exact .inr U
 | make=>
  have B:Mk l c i:=⟨a,g,w,f⟩;obtain⟨o',ob,P,_,_,Y,oH⟩:=R.Iq B;rw[g]at P;injection P with P;subst P;have A:¬ lE l c i:=It g (by rw[f];intro h;cases h);have C:=R.QG B;have zk:(c.H (i+1)).get (c.N i)=some ob:=by rw[oH,ao rfl]
  refine⟨.e,c.N i,(Tr.e:Hp).put (some ob) (c.N i),(c.N i).succ,?_,φ _,λk o h=>(QN k o h).elim,.inr ⟨rfl,C.symm⟩,λm=>⟨Hd.put (some ob) (c.N i),λk o h=>?_,⟨p,z.kf A,?_⟩,?_⟩,λh=>by rw[C];exact h⟩
  ·rw[Bb (by rw[f];intro h;cases h)];exact Y _
  ·rw[Tr.eL]at h;by_cases e:k=c.N i
   ·subst e;rw[ao rfl]at h;right;rw[Tr.eL,ao rfl];exact h
   ·rw[Θ e]at h;exact .inl ⟨h,Tr.gf k⟩
  ·refine⟨λk m=>?_,λj hj r=>?_,λj hj r=>?_⟩
   ·rw[Tr.DD _ _ (m i B)];exact S.base k m
   ·by_cases e:j=i
    ·subst e;rw[Tr.DC];by_cases hp:j<p
     ·rw[ao hp];rw[R.QK (p:=j+1) hp z.1 (k:=c.N j) (λb h1 h2 o t dT vY=>?_) (λj' h1 h2 bV e=>by have:=R.Bc B bV e;omega)]
      ·exact zk.symm
      ·refine(R.uB (eu (ql t)) _ _).2 ⟨j,by omega,B,rfl,?_⟩;cases hb:Nat.testBit o.Ξ j with
       | false=>rfl
       | true=>
        have E:=(z.2 b ⟨o,t,dT,vY⟩).2 h2;exact absurd (Q b o E t j hb) V
     ·rw[Θ hp];exact zk.symm
    ·have Iu:D j:=r.resolve_right e;rw[Tr.DD _ _ (λe'=>e (R.Bc hj B e'))];exact S.done j hj Iu
   ·have e:j≠i:=λe=>r (.inr e);rw[Tr.DD _ _ (λe'=>e (R.Bc hj B e'))];exact S.not j hj λh=>r (.inl h)
  ·refine⟨F.Bf,λb hb E=>F.bg b hb (E.resolve_right λe=>A (e▸hb)),λj hj r o t=>?_⟩;by_cases e:j=i
   ·subst e;rw[zk]at t;injection t with t;subst t;have:=m (c.N j) ob (Tr.DC _ _ _);rw[C];exact this.2
   ·exact F.make j hj (r.resolve_right e) o t
 | jt=>
  have hbg:lE l c i:=⟨a,g,w,f⟩;have G:=adI R Q hbg V g L;have Si:=S.move R z G;obtain⟨b1,b2,b3,b4⟩:=s.jt w f;have m1:¬ Mk l c i:=Is g (by rw[f];intro h;cases h);have hle:i<=l.length:=eu W;have Ir:∀k ob,(cY (c.H i) a.Ξ (c.M i)).get k=some ob->(c.H i).get k=some ob/\∀j,Mk l c j->k=c.N j->j<i->D j:=by
   intro k ob h;refine⟨O0 _ _ _ _ _ h,λj hj e hjq=>L j ?_⟩;cases hb:Nat.testBit a.Ξ j with
   | true=>rfl
   | false=>
    have I:hidden a.Ξ (c.M i) k:=(R.uB hle _ _).2 ⟨j,hjq,hj,e,hb⟩;rw[(AU _ _ _ _).1 I]at h;cases h
  have vX:∀k ob,(cY (c.H i) a.Ξ (c.M i)).get k=some ob->Hd.get k=some ob/\k.num<(c.N i).num/\lQ (c.N i) ob:=by
   intro k o m;obtain⟨g1,y⟩:=Ir k o m;obtain⟨d1,d2⟩:=F.vX R hle G.below k o g1;refine⟨Si.sub R F G k o g1 y,d1,d2 λj hj e=>?_⟩;rcases iG j i with h | h
   ·exact y j hj e h
   ·have:=R.kU (i:=i) (j:=j) h (eu hj.lt);rw[←e]at this;omega
  refine⟨_,c.N i,c.H' i,c.n' i,xw,φ _,vX,.inr ⟨rfl,b2.symm⟩,λm=>⟨back Hd (c.H' i) a.Ξ (c.M l.length),λk o h=>?_,⟨i+1,⟨W,λb hb=>?_⟩,?_⟩,?_⟩,λh=>by rw[b2];exact h⟩
  ·obtain⟨g1,y⟩:=wx a.Ξ (c.M l.length) Hd (c.H' i) k;by_cases I:hidden a.Ξ (c.M l.length) k
   ·rw[g1 I]at h;refine .inl ⟨h,?_⟩;obtain⟨j,hj,hm,e,hb⟩:=(R.uB (φ _) _ _).1 I;cases hs:(cY (c.H i) a.Ξ (c.M i)).get k with
    | none=>rfl
    | some o'=>
     exfalso;rcases iG j i with h1 | h1
     ·rw[(AU _ _ _ _).1 ((R.uB hle _ _).2 ⟨j,h1,hm,e,hb⟩)]at hs;cases hs
     ·have d:=(vX k o' hs).2.1;have:=R.kU (i:=i) (j:=j) h1 (eu hm.lt);rw[←e]at this;omega
   ·rw[y I]at h;exact .inr h
  ·constructor
   ·rintro(h | h)
    ·have:=(G.2 b hb).1 h;omega
    ·omega
   ·intro h;rcases iG b i with h1 | h1
    ·exact .inl ((G.2 b hb).2 h1)
    ·exact .inr (by omega)
  ·have notM:∀k,(∀j,Mk l c j->k≠c.N j)->∀q,q<=l.length->¬ hidden a.Ξ (c.M q) k:=λk m q u h=>by
    obtain⟨j,_,hm,e,_⟩:=(R.uB u _ _).1 h;exact m j hm e
   have J:∀j q,Mk l c j->q<=l.length->(hidden a.Ξ (c.M q) (c.N j)↔j<q/\Nat.testBit a.Ξ j=false):=λj q hj u=>by
    rw[R.uB u];constructor
    ·rintro⟨j',h1,h2,X,Z⟩;have:=R.Bc hj h2 X;subst this;exact⟨h1,Z⟩
    ·rintro⟨h1,h2⟩;exact⟨j,h1,hj,rfl,h2⟩
   refine⟨λk m=>?_,λj hj r=>?_,λj hj r=>?_⟩
   ·rw[(wx a.Ξ (c.M l.length) Hd (c.H' i) k).2 (notM k m _ (φ _)),(R.Be g w f k).2 (notM k m i hle)]
   ·have aG:j≠i:=λe=>m1 (e▸hj);have Iu:D j:=r.resolve_right aG;cases hb:Nat.testBit a.Ξ j with
    | true=>
     have FZ:=R.Ξ i a g j hb;rw[(wx a.Ξ (c.M l.length) Hd (c.H' i) _).2 (λh=>by have:=((J j _ hj (φ _)).1 h).2;rw[hb]at this;cases this),ao (by omega),(R.Be g w f _).2 (λh=>by have:=((J j _ hj hle).1 h).2;rw[hb]at this;cases this)]
    | false=>
     rw[(wx a.Ξ (c.M l.length) Hd (c.H' i) _).1 ((J j _ hj (φ _)).2 ⟨hj.lt,hb⟩),Si.done j hj Iu];by_cases h1:j<i
     ·rw[ao h1,ao (by omega)];rw[(R.Be g w f _).1 ((J j _ hj hle).2 ⟨h1,hb⟩)]
     ·rw[Θ h1,Θ (by omega)]
   ·have hb:Nat.testBit a.Ξ j=false:=by
     cases hb:Nat.testBit a.Ξ j with
     | false=>rfl
     | true=>exact absurd (.inl (L j hb)) r
    rw[(wx a.Ξ (c.M l.length) Hd (c.H' i) _).1 ((J j _ hj (φ _)).2 ⟨hj.lt,hb⟩)];exact S.not j hj λh=>r (.inl h)
  ·refine⟨F.Bf,λb hb E k o t=>?_,λj hj r=>F.make j hj (r.resolve_right λe=>m1 (e▸hj))⟩;by_cases e:b=i
   ·subst e;rw[b2];exact m k o t
   ·exact F.bg b hb (E.resolve_right e) k o t
end
end
section
def bO(T:Tr V):List K->Tr V
 | []=>.e
 | k::l=>(bO T l).put (T.get k) k
def Iw(T:Tr V)(l:List K)(k:K):(bO T l).get k=if k∈l then T.get k else none:=by
 induction l with
 | nil=>simp[bO,Tr.gf]
 | cons a l ih=>
  simp only[bO,Tr.eL,ih,eO];by_cases e:k=a
  ·subst e;simp
  ·simp[e]
structure Inv(ty:Ty)(l:List AO)(c:Canon)(η0:Env)(w0:World)(sz:Nat)(D:Nat->Prop)(η:Env)(Hd:Hp)(w:World)(tmps:Array Value):Prop where
 lim:∀j,D j->j<l.length
 closed:Eo l D
 cut:∃p,Cut l c D p/\Spec l c D p Hd
 facts:rE l c D
 rep:D5 (WW ty) η Hd w
 names:∀k L,η k=some L->k.num<(c.N 0).num\/∃j,D j/\(c.N j).num<=k.num/\k.num<(c.N (j+1)).num
 ext:η0.le η
 bu:∀k,k.num<(c.N 0).num->η k=η0 k
 kept:Kept (lz η0 (c.H 0) true) w0 w
 jN:∀m b,lz η Hd m b->lz η0 (c.H 0) m b\/w0.heap.size<=b
 size:tmps.size=sz
 below:∀j,D j->bk (c.N (j+1)) (c.v j)=true
 QO:∀t v,(c.T 0).get (bL t)=some v->bk (c.N 0) v=true
 s1:∀j o t,D j->l[j]?=some o->o.dst=some (bL t)->∃y,tmps[t]?=some y/\aq η (c.v j) y
 s0:∀t v,(c.T 0).get (bL t)=some v->(∀j o,D j->l[j]?=some o->o.dst≠some (bL t))->∃y,tmps[t]?=some y/\aq η v y
section
variable {P:Program}{ty:Ty}{C:Nat->Option aI}{ih:db}{l:List AO}{c:Canon}{rs:List Rd}{bs:List Bg}{D:Nat->Prop}{p q i:Nat}{Hd:Hp}{a:AO}{η0 η:Env}{w0 w:World}{sz:Nat}{tmps:Array Value}
def Inv.free(I:Inv ty l c η0 w0 sz D η Hd w tmps)(R:eZ ih l c rs bs)(f:i<l.length)(b:¬ D i){n n':K}(d:n'=n\/(n=c.N i/\n'=c.N (i+1)))(k:K)(h1:n.num<=k.num)(h2:k.num<n'.num):η k=none:=by
 rcases d with rfl | ⟨rfl,rfl⟩
 ·omega
 ·cases e:η k with
  | none=>rfl
  | some L=>
   exfalso;rcases I.names k L e with h | ⟨j,hj,g,m⟩
   ·have:=R.kU (i:=0) (j:=i) (by omega) (by omega);omega
   ·rcases xP j i with h | h | h
    ·have:=R.kU (i:=j+1) (j:=i) (by omega) (by omega);omega
    ·subst h;exact b hj
    ·have:=R.kU (i:=i+1) (j:=j) (by omega) (eu (I.lim j hj));omega
def Inv.next(I:Inv ty l c η0 w0 sz D η Hd w tmps)(R:eZ ih l c rs bs)(z:l[i]?=some a)(G:¬ D i)(S:∀k,Nat.testBit a.Ξ k=true->D k){dst:Option Nat}(A:a.dst=dst.map bL)(T:∀d,dst=some d->d<sz)
 {Hs qN Hn:Hp}{n n':K}{η1:Env}{H:World}{y:Value}(ht:Trans (WW ty) (bT η n) Hs n w η1 qN n' H)(V:∀k o,Hs.get k=some o->Hd.get k=some o)(B:n'=n\/(n=c.N i/\n'=c.N (i+1)))
 (W:∀k o,Hn.get k=some o->(Hd.get k=some o/\Hs.get k=none)\/qN.get k=some o)(X:∃p,Cut l c (kf D i) p/\Spec l c (kf D i) p Hn)(F:rE l c (kf D i))
 (Y:aq (merge η η1 n n') (c.v i) y)(hb:bk (c.N (i+1)) (c.v i)=true):Inv ty l c η0 w0 sz (kf D i) (merge η η1 n n') Hn H (iM dst y tmps):=by
 have J:=ql z;have hf:=I.free R J G B;obtain⟨g1,u,Z⟩:=aam I.rep V hf ht W;have hle:=merge_le (η1:=η1) hf;have other:∀j o t,D j->l[j]?=some o->o.dst=some (bL t)->dst≠some t:=λj o t hj f g e=>by
  have:a.dst=some (bL t):=by rw[A,e];rfl
  exact G (R.adG f z g this▸hj)
 have M:∀t,dst≠some t->(iM dst y tmps)[t]?=tmps[t]?:=λt h=>by
  cases dst with
  | none=>rfl
  | some d=>simp only[iM];rw[fx,Θ (λe=>h (by rw[e]))]
 refine⟨λj hj=>?_,λj o hj f k s=>?_,X,F,g1,λk L s=>?_,I.ext.trans hle,λk s=>?_,?_,λm b hb=>?_,by rw[AH];exact I.size,λj hj=>?_,I.QO,λj o t hj f g=>?_,λt v hv O=>?_⟩
 ·rcases hj with hj | rfl
  ·exact I.lim j hj
  ·exact J
 ·rcases hj with hj | rfl
  ·exact .inl (I.closed j o hj f k s)
  ·rw[z]at f;injection f with f;subst f;exact .inl (S k s)
 ·by_cases E:n.num<=k.num/\k.num<n'.num
  ·rcases B with rfl | ⟨rfl,rfl⟩
   ·omega
   ·exact .inr ⟨i,.inr U,E.1,E.2⟩
  ·unfold merge at s;rw[Θ E]at s;rcases I.names k L s with h | ⟨j,h1,h2⟩
   ·exact .inl h
   ·exact .inr ⟨j,.inl h1,h2⟩
 ·unfold merge;rw[Θ,I.bu k s];rintro⟨h1,h2⟩;rcases B with rfl | ⟨rfl,rfl⟩
  ·omega
  ·have:=R.kU (i:=0) (j:=i) (by omega) (by omega);omega
 ·refine⟨u.os.trans I.kept.os,u.tape.trans I.kept.tape,u.output.trans I.kept.output,dU I.kept.size u.size,λb hb Q=>?_,λb r hb=>let⟨r',h⟩:=I.kept.loops b r hb;u.loops b r' h⟩;rw[u.block b (ep hb I.kept.size) λGW=>?_,I.kept.block b hb Q];rcases I.jN _ _ GW with h | h
  ·exact Q h
  ·omega
 ·rcases Z m b hb with h | h
  ·exact I.jN m b h
  ·exact .inr (dU I.kept.size h)
 ·rcases hj with hj | rfl
  ·exact I.below j hj
  ·exact hb
 ·rcases hj with hj | rfl
  ·obtain⟨x,h1,h2⟩:=I.s1 j o t hj f g;exact⟨x,by rw[M t (other j o t hj f g)];exact h1,h2.mono hle⟩
  ·rw[z]at f;injection f with f;subst f;cases dst with
   | none=>rw[A]at g;cases g
   | some d=>
    rw[A]at g;have hdt:d=t:=DB (by injection g);subst hdt;refine⟨y,?_,Y⟩;simp only[iM,fx];rw[ao trivial,ao (by rw[I.size];exact T d rfl)]
 ·have aG:dst≠some t:=λe=>O i a (.inr U) z (by rw[A,e];rfl);obtain⟨x,h1,h2⟩:=I.s0 t v hv λj o hj f=>O j o (.inl hj) f;exact⟨x,by rw[M t aG];exact h1,h2.mono hle⟩
def Inv.iH(I:Inv ty l c η0 w0 sz D η Hd w tmps)(R:eZ ih l c rs bs)(b:l[i]?=some a)(m:¬ D i)(n:∀k,Nat.testBit a.Ξ k=true->D k):aM (bT η (c.N i)) (bO (c.T i) a.looks) tmps:=by
 intro t v hv;rw[Iw]at hv;by_cases hl:bL t∈a.looks
 ·rw[ao hl]at hv;have e:=ql b;rcases R.QL (eu e) (bL t) with ⟨j,o,h1,h2,r,d⟩ | ⟨h1,h2⟩
  ·rw[hv]at d;injection d with d;subst d;rcases R.looks b h2 r hl with h | h | h
   ·obtain⟨y,g1,f⟩:=I.s1 j o t (n j h) h2 r;exact⟨y,g1,f.bT (bk.mono (R.kU h1 (eu e)) _ (I.below j (n j h)))⟩
   ·have:=R.Ξ j o h2 i h;omega
   ·omega
  ·rw[hv]at h2;obtain⟨y,g1,f⟩:=I.s0 t v h2.symm λj o hj g s=>by
    rcases R.looks b g s hl with h | h | h
    ·exact h1 j o (R.Ξ i a b j h) g s
    ·exact m (I.closed j o hj g i h)
    ·subst h;exact m hj
   exact⟨y,g1,f.bT (bk.mono (R.kU (pN i) (eu e)) _ (I.QO t v h2.symm))⟩
 ·rw[Θ hl]at hv;cases hv
def adP{T:Tr V}{a:AO}{x:au}(b:x∈a.op.ee):az T x=az (bO T a.looks) x:=by
 cases x with
 | c v=>rfl
 | t k=>
  have:k∈Ev.looks a.op.ee:=by
   generalize a.op.ee=xs at b
   induction xs with
   | nil=>cases b
   | cons y xs d=>
    rcases eO.1 b with h | h
    ·subst h;simp[Ev.looks]
    ·cases y with
     | t q=>simp only[Ev.looks,eO];exact .inr (d h)
     | c v=>simp only[Ev.looks];exact d h
  simp only[az,Iw];rw[ao];unfold AO.looks;exact zU _ this
def adQ{T:Tr V}{a:AO}:want a.guard (bO T a.looks)=want a.guard T:=by
 cases h:a.guard with
 | none=>rfl
 | some p=>
  obtain⟨k,b⟩:=p;simp only[want,Iw];rw[ao];unfold AO.looks;rw[h];simp
def QQ(η:Env)(n:K)(k:K)(h:n.num<=k.num):bT η n k=none:=by unfold bT;rw[Θ (by omega)]
def Inv.sub(I:Inv ty l c η0 w0 sz D η Hd w tmps){Hs:Hp}{n:K}(h:∀k o,Hs.get k=some o->Hd.get k=some o/\k.num<n.num/\lQ n o):aV (WW ty) (bT η n) Hs n w:=by
 refine⟨λk o b=>?_,λk k' o o' L L' d b hm e f g=>?_,QQ η n⟩
 ·obtain⟨h1,h2,j⟩:=h k o b;obtain⟨L,g1,m,r⟩:=I.rep.obj k o h1;exact⟨L,oG g1 h2,m,r.bT j⟩
 ·exact I.rep.sep k k' o o' L L' d (h k o b).1 hm (h k' o' e).1 (wt _ _ _ _ f) (wt _ _ _ _ g)
def Inv.gU(I:Inv ty l c η0 w0 sz D η Hd w tmps)(b:bD η0 ty.g)(hf:∀k,(c.N 0).num<=k.num->η0 k=none){n:K}(e:(c.N 0).num<=n.num):bD (bT η n) ty.g:=λg d=>by
 obtain⟨L,h1,h2⟩:=b g d;refine⟨L,oG (I.ext _ _ h1) ?_,h2⟩;rcases iG (bL g).num (c.N 0).num with h | h
 ·omega
 ·rw[hf _ h]at h1;cases h1
def Inv.step(X:Good P ty C)(Y:j9 P ty ih)(R:eZ ih l c rs bs){fr:Frame}{cs:List Frame}{ops:Array Oper}{rest:List Nat}{k:List Item}{ds:List Deferred}(hm:fr.mode=.run)
 (I:Inv ty l c η0 w0 sz D η Hd w tmps)(Z:bD η0 ty.g)(hf:∀k,(c.N 0).num<=k.num->η0 k=none){o:Oper}(B:ops[i]?=some o){Ξ:Nat}(f:l[i]?=some (iJ ty ops o Ξ))(G:∀d,o.dst=some d->d<sz)
 (t:¬ D i)(pI:∀k,Nat.testBit Ξ k=true->D k):
 ∃η' L4 w' H,Inv ty l c η0 w0 sz (kf D i) η' L4 w' H/\Steps P (lone (put fr tmps ds (.inRegion ops (i::rest)::k)) cs w) (lone (put fr H ds (.inRegion ops rest::k)) cs w'):=by
 have st:=R.step i _ f;have τ:=ql f;have VQ:∃g,uk ops o.guard=some g/\(iJ ty ops o Ξ)={ dst:=o.dst.map bL,op:=(dc ty o.op).getD .bad,guard:=g,Ξ:=Ξ}:=by
  cases u:uk ops o.guard with
  | some g=>exact⟨g,rfl,by simp[iJ,u]⟩
  | none=>
   exfalso;have e:iJ ty ops o Ξ={ dst:=none,op:=.bad,guard:=none,Ξ:=Ξ}:=by simp[iJ,u]
   have E:=st.want;rw[e]at E;simp only[want,lK]at E;have:=st.xw E.symm;rw[e]at this;simp only[oper,dI,simple]at this;cases this
 obtain⟨g,u,j⟩:=VQ;have z:∀k,Nat.testBit (iJ ty ops o Ξ).Ξ k=true->D k:=λk r=>pI k (by rw[j]at r;exact r);have F:=I.iH R f t z;have J:∀b,c.run i=b->Region.wanted o (yielded ops tmps)=b:=λb hb=>by have h:=st.want;rw[←adQ (T:=c.T i),hb,j]at h;rw[j]at F;exact Hw F u h
 have K:(iJ ty ops o Ξ).dst=o.dst.map bL:=by rw[j]
 cases m:c.run i with
 | false=>
  obtain⟨p,h1,h2⟩:=I.cut;have m1:=adL (l:=l) m;have M:=adM (l:=l) m;have hv:=(st.not m).1;have ht:Trans (WW ty) (bT η (c.N i)) .e (c.N i) w (bT η (c.N i)) .e (c.N i) w:=.refl (I.sub λk o h=>by rw[Tr.gf]at h;cases h);have:=I.next R f t z K G ht (λk o h=>by rw[Tr.gf]at h;cases h) (.inl U) (Hn:=Hd) (λk o h=>.inl ⟨h,Tr.gf k⟩) ⟨p,h1.kf M,h2.other m1⟩ (I.facts.other m1 M) (y:=undef) (by rw[hv];exact Hv _) (by rw[hv];rfl);exact⟨_,_,_,_,this,.one (OP hm B (J false m))⟩
 | true=>
  obtain⟨p,jS,hS⟩:=I.cut;obtain⟨Hs,n,qN,n',h1,h2,O,h4,h5,h6⟩:=adN R I.closed I.facts jS hS f m t z;have L5:=R.kU (pN i) (eu τ);have HJ:aM (bT η n) (bO (c.T i) (iJ ty ops o Ξ).looks) tmps:=F.mono (aal η h2);have Q:oper ih (iJ ty ops o Ξ).op (bO (c.T i) (iJ ty ops o Ξ).looks) Hs n=some (c.v i,qN,n'):=by rw[←h1];exact(adC λx hx=>adP hx).symm
  cases s:dc ty o.op with
  | none=>rw[j,s]at h1;simp only[Option.getD_none,oper,dI,simple]at h1;cases h1
  | some A=>
   have hA:(iJ ty ops o Ξ).op=A:=by rw[j,s];rfl
   rw[hA]at Q;obtain⟨η1,v',w1,g1,S,g3⟩:=OO X Y HJ (I.gU Z hf (dU L5 h2)) (I.sub O) s Q (put fr tmps ds (.inRegion ops (i::rest)::k)) cs;obtain⟨Hn,q1,q2,q3⟩:=h5 λk ob r=>⟨g1.rep.vX r,let⟨L,_,_,q⟩:=g1.rep.obj k ob r;q.below g1.rep.free⟩;have AP:η1.le (merge η η1 n n'):=by have h:=wt (merge η η1 n n') n';rw[OZ g1]at h;exact h
   have:=I.next R f t z K G g1 (λk o h=>(O k o h).1) h4 q1 q2 q3 (S.mono AP) (h6 (S.ke g1.rep.free));refine⟨_,_,_,_,this,?_⟩;have nu:∀c,o.op≠.defer c:=λc e=>by rw[e]at s;cases s
   have V:=AE (P:=P) (cs:=cs) (w:=w) (fr:=put fr tmps ds (.inRegion ops (i::rest)::k)) hm rfl B (J true m) nu;rw[eval_put]at V;have W:=DW V (λ_ _ _ _ h=>by cases h) g3;rw[DV,B]at W;exact W
end
end
section
section adR
variable {ty:Ty}{ops:Array Oper}
def adS:∀(os:List Oper) (di:List Nat) (j:Nat),(dA ty ops os di)[j]?=(os[j]?).map λo=>iJ ty ops o ((di[j]?).getD 0):=by
 intro os
 induction os with
 | nil=>intro di j;cases di<;>simp[dA]
 | cons o os ih=>
  intro di j;cases di with
  | nil=>
   cases j with
   | zero=>simp[dA]
   | succ j=>simp only[dA,pK,ih];simp
  | cons a di=>
   cases j with
   | zero=>simp[dA]
   | succ j=>simp only[dA,pK,ih]
def Ix(o:Oper)(Ξ:Nat):(iJ ty ops o Ξ).Ξ=Ξ:=by unfold iJ;split<;>rfl
def adT(di:List Nat)(es:List Edge)(k:Nat):Nat.testBit (um di es) k=true↔∃e∈es,Region.binds .any e=true/\(k=e.on\/Nat.testBit ((nth di e.on).getD 0) k=true):=by
 induction es with
 | nil=>simp[um]
 | cons e es ih=>
  simp only[um,eO,gy];by_cases hb:Region.binds .any e=true
  ·rw[ao hb];show Nat.testBit ((2 ^ e.on ||| (nth di e.on).getD 0) ||| um di es) k=true↔_;rw[Nat.testBit_or,Nat.testBit_or,Nat.testBit_two_pow,oq,oq,ih,aW];constructor
   ·rintro((h | h) | ⟨b,h1,h2⟩)
    ·exact⟨e,.inl U,hb,.inl h.symm⟩
    ·exact⟨e,.inl U,hb,.inr h⟩
    ·exact⟨b,.inr h1,h2⟩
   ·rintro⟨b,h1 | h1,h2,a⟩
    ·subst h1;rcases a with a | a
     ·exact .inl (.inl a.symm)
     ·exact .inl (.inr a)
    ·exact .inr ⟨b,h1,h2,a⟩
  ·rw[Θ hb,ih];constructor
   ·rintro⟨b,h1,h2⟩;exact⟨b,.inr h1,h2⟩
   ·rintro⟨b,h1 | h1,h2,a⟩
    ·subst h1;exact absurd h2 hb
    ·exact⟨b,h1,h2,a⟩
def adU{i:Nat}:∀{es:List Edge},Ah i es=true->∀e∈es,Region.binds .any e=true->e.on<i:=by
 intro es
 induction es with
 | nil=>intro _ e h;cases h
 | cons a es ih=>
  intro h e he hb;simp only[Ah,aK,oq,ov]at h;rcases eO.1 he with rfl | he
  ·rcases h.1 with h1 | h1
   ·rw[hb]at h1;cases h1
   ·simpa[eM]using h1
  ·exact ih h.2 e he hb
def adV{i:Nat}{a:AO}:∀{l:List AO},Dz i a l=true->∀b∈l,vU i a b=true/\ya a b=true:=by
 intro l
 induction l with
 | nil=>intro _ b h;cases h
 | cons c l ih=>
  intro h b hb;simp only[Dz,aK]at h;rcases eO.1 hb with rfl | hb
  ·exact h.1
  ·exact ih h.2 b hb
def Iy{di:List Nat}:∀{os:List Oper} {l:List AO} {i:Nat},uo di i os l=true->∀(j:Nat) (o:Oper) (a:AO),os[j]?=some o->l[j]?=some a->a.Ξ=um di o.after.toList/\Ah (i+j) o.after.toList=true/\∀(d:Nat) (b:AO),j<d->l[d]?=some b->vU (i+j) a b=true/\ya a b=true:=by
 intro os
 induction os with
 | nil=>intro l i h j o a e;simp at e
 | cons o os ih=>
  intro l i h j o' a e f;cases l with
  | nil=>simp at f
  | cons b l=>
   simp only[uo,aK]at h;obtain⟨⟨⟨h1,h2⟩,k⟩,m⟩:=h;cases j with
   | zero=>
    simp only[vJ,lK]at e f;subst e;subst f;refine⟨bX h1,h2,λd c hj g=>?_⟩;cases d with
    | zero=>omega
    | succ d=>
     simp only[pK]at g;exact adV k c (List.mem_of_getElem? g)
   | succ j=>
    simp only[pK]at e f;have:=ih m j o' a e f;rw[show Nat.succ i+j=i+(j+1) by omega]at this;refine⟨this.1,this.2.1,λd c hj g=>?_⟩;cases d with
    | zero=>omega
    | succ d=>
     simp only[pK]at g;exact this.2.2 d c (by omega) g
def QT{p b:Nat->Bool}:∀{L:List Nat},(∀x,b x=true->p x=true)->∀{i:Nat},i∈L->p i=true->b i=false->L.countP b<L.countP p:=by
 intro L
 induction L with
 | nil=>intro _ i h;cases h
 | cons a L ih=>
  intro d i hi h1 h2;have g:L.countP b<=L.countP p:=List.countP_mono_left λx _=>d x;rw[List.countP_cons,List.countP_cons];rcases eO.1 hi with e | hi
  ·subst e;rw[ao h1,Θ (by simp[h2])];omega
  ·have:=ih d hi h1 h2;by_cases f:b a=true
   ·rw[ao f,ao (d a f)];omega
   ·rw[Θ f];split<;>omega
end adR
section
variable {P:Program}{ty:Ty}{C:Nat->Option aI}{ih:db}{c:Canon}{rs:List Rd}{bs:List Bg}{η0 η:Env}{w0 w:World}{sz:Nat}{tmps:Array Value}{ops:Array Oper}{Hd:Hp}
structure Et(ty:Ty)(ops:Array Oper)(di:List Nat)(l:List AO):Prop where
 len:l.length=ops.size
 get:∀(j:Nat) (o:Oper),ops[j]?=some o->l[j]?=some (iJ ty ops o ((di[j]?).getD 0))
 bit:∀(j:Nat) (o:Oper) (k:Nat),ops[j]?=some o->(Nat.testBit ((di[j]?).getD 0) k=true↔∃e∈o.after,Region.binds .any e=true/\(k=e.on\/Nat.testBit ((di[e.on]?).getD 0) k=true))
 low:∀(j:Nat) (o:Oper) (e:Edge),ops[j]?=some o->e∈o.after->Region.binds .any e=true->e.on<j
def adW{di:List Nat}(h:uo di 0 ops.toList (dA ty ops ops.toList di)=true):Et ty ops di (dA ty ops ops.toList di):=by
 have get:∀(j:Nat) (o:Oper),ops[j]?=some o->(dA ty ops ops.toList di)[j]?=some (iJ ty ops o ((di[j]?).getD 0)):=λj o a=>by
  have e:ops.toList[j]?=some o:=by rw[lJ];exact a
  rw[adS,e];rfl
 have len:(dA ty ops ops.toList di).length=ops.size:=by
  have key:∀(os:List Oper) (di:List Nat),(dA ty ops os di).length=os.length:=by
   intro os
   induction os with
   | nil=>intro di;cases di<;>rfl
   | cons o os ih=>intro di;cases di<;>simp[dA,ih]
  rw[key];simp
 refine⟨len,get,λj o k a=>?_,λj o e a he hb=>?_⟩
 ·obtain⟨h1,_,_⟩:=Iy h j o _ (by rw[lJ];exact a) (get j o a);rw[Ix]at h1;rw[h1,adT];simp only[nK,Array.mem_toList_iff]
 ·obtain⟨_,h2,_⟩:=Iy h j o _ (by rw[lJ];exact a) (get j o a);have:=adU h2 e (by simpa using he) hb;omega
def Et.Ξ{di:List Nat}{l:List AO}(E:Et ty ops di l)(j:Nat):∀o,ops[j]?=some o->∀k,Nat.testBit ((di[j]?).getD 0) k=true->k<j:=by
 induction j using Nat.strongRecOn with
 | ind j ih=>
  intro o a k d;obtain⟨e,he,hb,h⟩:=(E.bit j o k a).1 d;have b:=E.low j o e a he hb;rcases h with rfl | h
  ·exact b
  ·have hj:=(mB.1 a).1;have f:ops[e.on]?=some ops[e.on]:=lI (by omega);have:=ih e.on b _ f k h;omega
def adX{di:List Nat}{l:List AO}(u:Good P ty C)(v:j9 P ty ih)(R:eZ ih l c rs bs)(E:Et ty ops di l){fr:Frame}{cs:List Frame}{k:List Item}{ds:List Deferred}(hm:fr.mode=.run)
 (y:bD η0 ty.g)(hf:∀k,(c.N 0).num<=k.num->η0 k=none)(z:∀(i:Nat) (o:Oper),ops[i]?=some o->∀d,o.dst=some d->d<sz):
 ∀(fuel t:Nat) (listed:Array Bool) (η:Env) (Hd:Hp) (w:World) (tmps:Array Value),listed.size=ops.size->Inv ty l c η0 w0 sz (λj=>listed[j]?=some true) η Hd w tmps->(List.range ops.size).countP (λj=>listed[j]?!=some true)<=fuel->∃η' L4 w' m,Inv ty l c η0 w0 sz (λj=>j<ops.size) η' L4 w' m/\Steps P (lone (put fr tmps ds (.inRegion ops (Region.linearise.go .any ops fuel t listed [])::k)) cs w) (lone (put fr m ds (.inRegion ops []::k)) cs w'):=by
 intro fuel;have done:∀(listed:Array Bool),listed.size=ops.size->(∀j,j<ops.size->listed[j]?=some true)->(λj=>listed[j]?=some true)=(λj=>j<ops.size):=by
  intro listed hs h;funext j;apply propext;constructor
  ·intro hj;rw[←hs];exact(mB.1 hj).1
  ·exact h j
 induction fuel with
 | zero=>
  intro t listed η Hd w tmps b I A;have all:∀j,j<ops.size->listed[j]?=some true:=λj hj=>by
   have h0:(List.range ops.size).countP (λj=>listed[j]?!=some true)=0:=by omega
   rw[List.countP_eq_zero]at h0;have:=h0 j (List.mem_range.2 hj);simpa using this
  rw[done listed b all]at I;exact⟨η,Hd,w,tmps,I,.refl _ _⟩
 | succ fuel B=>
  intro t listed η Hd w tmps b I A;simp only[Region.linearise.go];change ∃η' L4 w' m,_/\Steps P (lone (put fr tmps ds (.inRegion ops (match (Region.ready .any ops listed)[t % (Region.ready .any ops listed).length]? with
   | some i=>Region.linearise.go .any ops fuel (t / (Region.ready .any ops listed).length) (listed.setIfInBounds i true) [i]
   | none=>[].reverse)::k)) cs w) _
  cases hi:(Region.ready .any ops listed)[t % (Region.ready .any ops listed).length]? with
  | none=>
   have D:Region.ready .any ops listed=[]:=by
    cases F:Region.ready .any ops listed with
    | nil=>rfl
    | cons x xs=>
     rw[F]at hi;have Z:t % (x::xs).length<(x::xs).length:=j4 _ (by simp);rw[List.getElem?_eq_none_iff]at hi;omega
   have all:∀j,j<ops.size->listed[j]?=some true:=by
    intro j
    induction j using Nat.strongRecOn with
    | ind j G=>
     intro hj;have H:j<listed.size:=by omega
     have e:listed[j]?=some listed[j]:=lI H;cases hv:listed[j] with
     | true=>rw[e,hv]
     | false=>
      exfalso;have:j∈Region.ready .any ops listed:=by rw[mem_ready];refine⟨by simp[tT,e,hv],ops[j],lI hj,λp he hb=>?_⟩;have r:=E.low j _ p (lI hj) he hb;have:=G p.on r (by omega);simp[tT,this]
      rw[D]at this;cases this
   rw[done listed b all]at I;exact⟨η,Hd,w,tmps,I,.refl _ _⟩
  | some i=>
   simp only[];rw[linearise_go_acc,List.reverse_singleton,List.singleton_append];obtain⟨J,o,a,K⟩:=mem_ready.1 (List.mem_of_getElem? hi);have L:i<ops.size:=(mB.1 a).1;have n:i<listed.size:=by omega
   have s:¬ (listed[i]?=some true):=λh=>by simp[tT,h]at J
   have M:∀e∈o.after,Region.binds .any e=true->listed[e.on]?=some true:=λe he hb=>by
    have:=K e he hb;rw[tT]at this;cases h:listed[e.on]? with
    | none=>rw[h]at this;cases this
    | some x=>rw[h]at this;simp at this;rw[this]
   have O:∀q,Nat.testBit ((di[i]?).getD 0) q=true->listed[q]?=some true:=λq Q=>by
    obtain⟨e,he,hb,h⟩:=(E.bit i o q a).1 Q;have h1:=M e he hb;rcases h with rfl | h
    ·exact h1
    ·have r:=E.low i o e a he hb;have:=I.closed e.on _ h1 (E.get e.on _ (lI (by omega))) q (by rw[Ix];exact h);exact this
   obtain⟨η1,V2,S,T,I1,s1⟩:=I.step u v R (cs:=cs) (rest:=Region.linearise.go .any ops fuel (t / (Region.ready .any ops listed).length) (listed.setIfInBounds i true) []) (k:=k) (ds:=ds) hm y hf a (E.get i o a) (z i o a) s O;have U:(kf (λj=>listed[j]?=some true) i) = λj=>(listed.setIfInBounds i true)[j]?=some true:=by
    funext j;apply propext;rw[fx];unfold kf;by_cases e:i=j
    ·subst e;simp[n]
    ·rw[Θ e];constructor
     ·rintro(h | h)
      ·exact h
      ·exact absurd h.symm e
     ·exact .inl
   rw[U]at I1;have hc:(List.range ops.size).countP (λj=>(listed.setIfInBounds i true)[j]?!=some true)<(List.range ops.size).countP (λj=>listed[j]?!=some true):=by
    refine QT (λx f=>?_) (List.mem_range.2 L) ?_ ?_
    ·rw[fx]at f;by_cases e:i=x
     ·subst e;simp[n]at f
     ·rw[Θ e]at f;exact f
    ·simpa using s
    ·simp[fx,n]
   obtain⟨V,Hd2,W,X,I2,Y⟩:=B (t / (Region.ready .any ops listed).length) (listed.setIfInBounds i true) η1 V2 S T (by simp[b]) I1 (by omega);exact⟨V,Hd2,W,X,I2,Steps.trans s1 Y⟩
def IA{N:Nat}:∀{l:List Oper},gC N l=true->∀o∈l,∀d,o.dst=some d->d<N:=by
 intro l
 induction l with
 | nil=>intro _ o h;cases h
 | cons p l b=>
  intro h o hm d a;simp only[gC,aK]at h;rcases eO.1 hm with rfl | hm
  ·rw[a]at h;have:=h.1;simp only[eM,aW]at this;exact this
  ·exact b h.2 o hm d a
def ad0(B:Good P ty C)(S:j9 P ty ih)(U:sK ih)(id:Nat)(ops:Array Oper)(T:Tr V)(H:Hp)(n:K)(r:R)(D:uo (Region.before ops).toList 0 ops.toList (dA ty ops ops.toList (Region.before ops).toList)=true)
 (F:bh (λ_=>none) ih (.code (.regd (dA ty ops ops.toList (Region.before ops).toList)) T) H n=some r)(η:Env)(w:World)(fr:Frame)(cs:List Frame)(k:List Item)(W:within fr.tmps.size (.region id ops true)=true)
 (G:aM η T fr.tmps)(X:bD η ty.g)(s:aV (WW ty) η H n w)(hm:fr.mode=.run)(hl:jC fr w):
 ∃η' tmps ds w',Trans (WW ty) η H n w η' r.H r.n w'/\tmps.size=fr.tmps.size/\aM η' r.T tmps/\Marks w.heap.size η' r.H w' ds fr.defers/\gX P η' (lone (put fr fr.tmps fr.defers (.code (.region id ops true)::k)) cs w) fr cs k r.ex tmps ds w':=by
 simp only[bh]at F;have E:=adW (ty:=ty) D;obtain⟨hex,c,rs,bs,_,_,c1,c2,c3,c4,c5,c6,c7,I,J⟩:=aan _ _ _ _ _ _ _ _ _ F;simp only[eW]at c5 c6 c7 I J;have R:eZ ih (dA ty ops ops.toList (Region.before ops).toList) c rs bs:=by
  refine⟨U,J,I,λi j a b Y u hb=>?_,λi a u q f=>?_,c4⟩
  ·have hi:i<ops.size:=by rw[←E.len];exact ql u
   have:=Iy D i ops[i] a (by rw[lJ];exact lI hi) u;rw[eW]at this;exact this.2.2 j b Y hb
  ·have hi:i<ops.size:=by rw[←E.len];exact ql u
   have e:=E.get i _ (lI hi);rw[u]at e;injection e with e;rw[e,Ix]at f;exact E.Ξ i _ (lI hi) q f
 have Z:∀k,(c.N 0).num<=k.num->η k=none:=λq f=>s.free q (by rw[c3]at f;exact f);have I0:Inv ty (dA ty ops ops.toList (Region.before ops).toList) c η w fr.tmps.size (λj=>(Array.replicate ops.size false)[j]?=some true) η H { w with drawn:=w.drawn+1} fr.tmps:=by
  have no:∀j,¬ ((Array.replicate ops.size false)[j]?=some true):=λj h=>by rw[Array.getElem?_replicate]at h;split at h<;>simp at h
  refine⟨λj h=>absurd h (no j),λi o h=>absurd h (no i),⟨0,⟨pN _,λb _=>⟨λh=>absurd h (no b),λh=>by omega⟩⟩,⟨λq _=>by rw[c2],λj _ h=>absurd h (no j),λj hj _=>?_⟩⟩,⟨λq o f=>?_,λb _ h=>absurd h (no b),λj _ h=>absurd h (no j)⟩,⟨s.obj,s.sep⟩,λq L f=>.inl ?_,.refl _,λ_ _=>rfl,⟨rfl,rfl,rfl,φ _,λ_ _ _=>rfl,λ_ r h=>⟨r,h⟩⟩,λm b hb=>.inl (by rw[c2];exact hb),rfl,λj h=>absurd h (no j),λt v hv=>?_,λj o t h=>absurd h (no j),λt v hv _=>G t v (by rw[c1]at hv;exact hv)⟩
  ·cases e:H.get (c.N j) with
   | none=>rfl
   | some o=>
    have h1:=s.vX e;have h2:=R.kU (pN j) (eu hj.lt);rw[c3]at h2;omega
  ·rw[c2]at f;rw[c3];obtain⟨L,_,_,h⟩:=s.obj q o f;exact⟨s.vX f,h.below s.free⟩
  ·rw[c3];rcases iG q.num n.num with h | h
   ·exact h
   ·rw[s.free q h]at f;cases f
  ·rw[c1]at hv;rw[c3];obtain⟨y,_,h⟩:=G t v hv;exact h.ke s.free
 have dK:∀(i:Nat) (o:Oper),ops[i]?=some o->∀d,o.dst=some d->d<fr.tmps.size:=λi o A d oD=>
  IA (show gC fr.tmps.size ops.toList=true from W) o (by simpa using Array.mem_of_getElem? A) d oD
 obtain⟨η1,V2,w1,Iz,I1,s1⟩:=adX B S R E (cs:=cs) (k:=k) (ds:=fr.defers) hm X Z dK ops.size (w.tape w.drawn (.order fr.fn id)) (Array.replicate ops.size false) η H _ fr.tmps (by simp) I0
  (by have:=List.countP_le_length (p:=λj=>(Array.replicate ops.size false)[j]?!=some true) (l:=List.range ops.size);simpa using this)
 have hlen:(dA ty ops ops.toList (Region.before ops).toList).length=ops.size:=E.len;obtain⟨p,jS,hS⟩:=I1.cut;have ad1:Cut (dA ty ops ops.toList (Region.before ops).toList) c (λj=>j<ops.size) (dA ty ops ops.toList (Region.before ops).toList).length:=
  ⟨φ _,λb hb=>by rw[hlen]⟩
 have M:=hS.move R jS ad1;have x:∀q,V2.get q=r.H.get q:=λq=>by
  rw[←c6];by_cases h:∃j,Mk (dA ty ops ops.toList (Region.before ops).toList) c j/\q=c.N j
  ·obtain⟨j,hj,rfl⟩:=h;have:=M.done j hj (by rw[←hlen];exact hj.lt);rw[ao hj.lt]at this;exact this
  ·exact M.base q λj hj e=>h ⟨j,hj,e⟩
 have O:(c.N 0).num<=r.n.num:=by rw[←c7];exact R.kU (pN _) (φ _)
 refine⟨η1,Iz,fr.defers,w1,⟨I1.ext,by rw[c3]at O;exact O,⟨λq o f=>I1.rep.obj q o (by rw[x];exact f),λq q' o o' L L' aG f F0 fV=>I1.rep.sep q q' o o' L L' aG (by rw[x];exact f) F0 (by rw[x];exact fV),λq f=>?_⟩,?_,λm b hb=>?_,λq f=>I1.bu q (by rw[c3];exact f)⟩,I1.size,λt v hv=>?_,.refl _ _ _ _ _,?_⟩
 ·cases e:η1 q with
  | none=>rfl
  | some L=>
   exfalso;rcases I1.names q L e with h | ⟨j,h1,h2,Q⟩
   ·omega
   ·have:=R.kU (i:=j+1) (j:=(dA ty ops ops.toList (Region.before ops).toList).length) (by rw[hlen];exact h1) (φ _);rw[c7]at this;omega
 ·have:=I1.kept;rw[c2]at this;exact this
 ·have:=I1.jN m b (by obtain⟨q,o,L,h1,h2⟩:=hb;exact⟨q,o,L,by rw[x];exact h1,h2⟩);rw[c2]at this;exact this
 ·rw[←c5]at hv;rcases R.QL (φ _) (bL t) with ⟨j,o,h1,h2,Q,z⟩ | ⟨h1,h2⟩
  ·rw[hv]at z;injection z with z;subst z;exact I1.s1 j o t (by rw[←hlen];exact h1) h2 Q
  ·rw[hv]at h2;exact I1.s0 t v h2.symm λj o hj A=>h1 j o (by rw[hlen];exact hj) A
 ·rw[hex];have bR:step P (lone (put fr fr.tmps fr.defers (.code (.region id ops true)::k)) cs w)=
   .next (lone (put fr fr.tmps fr.defers (.inRegion ops (Region.linearise.go .any ops ops.size (w.tape w.drawn (.order fr.fn id)) (Array.replicate ops.size false) [])::k)) cs { w with drawn:=w.drawn+1}):=by
   obtain⟨fn,lO,todo,defers,mode,kind,roundOf⟩:=fr;simp only at hm;subst hm;refine gA ?_;simp[put,stepG,stepG.exec,choose,Sem.run,Question.forced,Question.cut,Region.schedule,B.mixed,Region.linearise]
  exact Steps.head bR (Steps.trans s1 (.one (DX hm)))
end
end
end Go.Ev
