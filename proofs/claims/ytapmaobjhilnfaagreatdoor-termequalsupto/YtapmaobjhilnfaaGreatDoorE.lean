/- A part of the proof. -/
import Derived.Orders
import Derived.Test.YtapmaobjhilnfaaGreatDoorC
set_option linter.all false
namespace Go.Ev
open Go
section
def wX(ih:dY):Prop:=∀j H n r,ih j H n=some r->n.num<=r.n.num
section
variable {ih:dY}{C:Nat->Option bN}
theorem Uq(hu:wX ih){op:A}{T:Tr V}{H H':Hp}{n n':K}{v:V}(h:oper ih op T H n=some (v,H',n')):n.num<=n'.num:=by
 cases op with
 | cg f l=>
  obtain⟨fv,lv,T',_,_,hr⟩:=QL h;exact hu _ _ _ _ hr
 | _=>rw[Aa (by intro f l h;cases h)]at h;exact En (QZ h)
theorem Ur(hu:wX ih){op:A}{T:Tr V}{H:Hp}{n:K}{r:R}(h:eC ih op T H n=some r):n.num<=r.n.num:=by
 cases op with
 | cg f l=>
  simp only[eC]at h;split at h
  ·exact hu _ _ _ _ h
  ·cases h
 | wA x=>
  simp only[eC]at h;split at h
  ·injection h with h;subst h;exact χ _
  ·cases h
 | _=>
  unfold eC at h;simp only at h;split at h
  ·rename_i h1;injection h with h;subst h;exact En (QZ h1)
  ·cases h
theorem Ia(hu:wX ih):∀(l:List AO) (T:Tr V) (H:Hp) (n:K) (r:R),fZ ih l T H n=some r->n.num<=r.n.num:=by
 intro l
 induction l with
 | nil=>intro T H n r h;simp only[fZ]at h;injection h with h;subst h;exact χ _
 | cons o l jN=>
  intro T H n r h;simp only[fZ]at h;split at h
  ·split at h
   ·rename_i eW;exact iH (Ur hu eW) (jN _ _ _ _ h)
   ·rename_i eW;injection h with h;subst h;have:=Ur hu eW;exact this
   ·cases h
  ·exact jN _ _ _ _ h
  ·cases h
theorem adb(hu:wX ih):∀(l:List AO) (i:Nat) (T:Tr V) (H:Hp) (n:K) (m:Made) (rs:List Rd) (bs:List Bg) (r:R),eY ih l i T H n m rs bs=some r->n.num<=r.n.num:=by
 intro l
 induction l with
 | nil=>
  intro i T H n m rs bs r h;simp only[eY,iD]at h;split at h
  ·injection h with h;subst h;exact χ _
  ·cases h
 | cons o l jN=>
  intro i T H n m rs bs r h;simp only[eY]at h;split at h
  ·split at h
   case h_2=>cases h
   rename_i v H1 n1 eW;have h1:=Uq hu eW;split at h
   ·exact jN _ _ _ _ _ _ _ _ h
   ·simp only[iD]at h;split at h
    ·exact jN _ _ _ _ _ _ _ _ h
    ·cases h
   ·exact iH h1 (jN _ _ _ _ _ _ _ _ h)
   ·exact iH h1 (jN _ _ _ _ _ _ _ _ h)
  ·exact jN _ _ _ _ _ _ _ _ h
  ·cases h
theorem Us:∀{es:List TE} {l:List V} {H:Hp} {n:K} {r:V×Hp×K},GV es l H n=some r->∃e∈es,e.fits l H n=true/\r=(e.v,e.add,e.n'):=by
 intro es
 induction es with
 | nil=>intro l H n r h;cases h
 | cons e es ih=>
  intro l H n r h;simp only[GV,iD]at h;split at h
  ·rename_i hf;injection h with h;exact⟨e,by simp,hf,h.symm⟩
  ·obtain⟨e',h1,h2⟩:=ih h;exact⟨e',by simp[h1],h2⟩
theorem ade{p:Pm}{l:List V}{H H':Hp}{n n':K}{v:V}(h:pm p l H n=some (v,H',n')):n.num<=n'.num:=by
 cases p with
 | km es=>
  obtain⟨e,_,hf,he⟩:=Us h;injection he with h1 h2;injection h2 with h2 h3;simp only[TE.fits,bh]at hf;have:=(cmp_eq _ _ _).1 hf.1.2;rw[h3];rcases this with h | ⟨_,h⟩<;>omega
 | wB=>
  simp only[pm,DL,iD]at h
  repeat' split at h
  all_goals first
   | (cases h;done)
   | exact En (Hv h)
 | DE cA u=>
  simp only[pm,iD]at h
  repeat' split at h
  all_goals first
   | (cases h;done)
   | exact En (Hv h)
 | same=>
  simp only[pm,J1]at h;split at h
  ·exact En (Hv h)
  ·cases h
theorem adf(hu:wX ih):wX (bD C ih):=by
 intro j H n r h;cases j with
 | code c T=>
  cases c with
  | skip=>simp only[bD]at h;injection h with h;subst h;exact χ _
  | reg l=>exact Ia hu _ _ _ _ _ h
  | regd l=>exact adb hu _ _ _ _ _ _ _ _ _ h
  | seq a b=>
   simp only[bD]at h;split at h
   ·rename_i h1;exact iH (hu _ _ _ _ h1) (hu _ _ _ _ h)
   ·exact hu _ _ _ _ h
  | cond c a b=>
   simp only[bD]at h;split at h
   ·exact hu _ _ _ _ h
   ·cases h
  | block id c=>
   simp only[bD,iD]at h;split at h
   ·rename_i h1;have:=hu _ _ _ _ h1;split at h<;>(injection h with h;subst h;exact this)
   ·exact hu _ _ _ _ h
  | loop c=>
   simp only[bD]at h;split at h
   ·rename_i h1;exact iH (hu _ _ _ _ h1) (hu _ _ _ _ h)
   ·exact hu _ _ _ _ h
  | lT f ps as body=>
   simp only[bD,iD]at h;split at h
   case h_2=>cases h
   split at h
   case h_2=>cases h
   rename_i T1 v1 H1 n1 h1;have:n.succ.num<=n1.num:=hu _ _ _ _ h1;rw[K.fQ]at this;split at h
   ·split at h
    ·cases h
    ·injection h with h;subst h;show n.num<=n1.num;omega
   ·split at h
    ·cases h
    ·injection h with h;subst h;show n.num<=n1.num;omega
   ·cases h
  | exit id=>simp only[bD]at h;injection h with h;subst h;exact χ _
  | scope c=>exact hu _ _ _ _ h
  | ph d x l c ws=>
   simp only[bD]at h;split at h
   case h_2=>cases h
   rename_i b hb;split at h
   case h_2=>cases h
   rename_i m since hm;split at h
   case h_2=>cases h
   rename_i es dc he;cases hc:Nat.beq since dc&&xU dc 0 es with
   | false=>rw[hc]at h;cases h
   | true=>
    rw[hc]at h;simp only[cond_true]at h;have part:∀(v:V) (T:Tr V) (H:Hp) (n:K) (r:R),(match fZ ih l (eg d (some v) T) H n with
     | some ⟨.normal,T,_,H,n⟩=>ih (.code c T) H n
     | _=>none)=some r->n.num<=r.n.num:=by
     intro v T H n r h;split at h
     ·rename_i h1;have g1:=Ia hu _ _ _ _ _ h1;have g2:=hu _ _ _ _ h;exact iH g1 g2
     ·cases h
    have over:∀(T:Tr V) (H:Hp) (n:K) (r:R),(match fZ ih l (eg d (some (.u [.b false])) T) H n with
     | some ⟨.normal,T,_,H,n⟩=>(match ih (.code c T) H n with
      | some ⟨.normal,_,_,_,_⟩=>none
      | r=>r)
     | _=>none)=some r->n.num<=r.n.num:=by
     intro T H n r h;split at h
     ·rename_i h1;have g1:=Ia hu _ _ _ _ _ h1;split at h
      ·cases h
      ·have g2:=hu _ _ _ _ h;exact iH g1 g2
     ·cases h
    split at h
    ·split at h
     ·rename_i h1;have g1:=part _ _ _ _ _ h1;split at h
      ·simp only[iD]at h;split at h
       ·have g2:=over _ _ _ _ h;exact iH g1 g2
       ·cases h
      ·cases h
     ·exact part _ _ _ _ _ h
    ·simp only[iD]at h;split at h
     ·exact over _ _ _ _ h
     ·cases h
  | ret=>simp only[bD]at h;injection h with h;subst h;exact χ _
  | bad=>cases h
 | call f l=>
  cases f with
  | f g a c=>
   simp only[bD]at h;split at h
   ·split at h
    ·rename_i h1;injection h with h;subst h;exact ade h1
    ·cases h
   ·split at h
    case h_2=>cases h
    split at h
    ·cases h
    ·rename_i h1;injection h with h;subst h;have:=hu _ _ _ _ h1;exact this
    ·rename_i h1;split at h
     ·injection h with h;subst h;have:=hu _ _ _ _ h1;exact this
     ·cases h
    ·cases h
   ·split at h
    case h_2=>cases h
    split at h
    case h_2=>cases h
    rename_i h0;have g0:=Ia hu _ _ _ _ _ h0;split at h
    case h_2=>cases h
    split at h
    ·cases h
    ·rename_i h1;have g1:=hu _ _ _ _ h1;split at h
     case h_2=>cases h
     split at h
     ·cases h
     ·cases h
     ·rename_i h2;have g2:=hu _ _ _ _ h2;split at h
      ·injection h with h;subst h;exact iH g0 (iH g1 g2)
      ·cases h
     ·cases h
    ·cases h
   ·cases h
  | y k=>
   simp only[bD,iD]at h;split at h
   case h_2=>cases h
   split at h
   case h_2=>cases h
   split at h
   case isFalse=>cases h
   split at h
   case h_2=>cases h
   rename_i h1;split at h
   case h_2=>cases h
   split at h
   case h_2=>cases h
   rename_i r2 h2;split at h
   case h_2=>cases h
   split at h
   ·cases h
   injection h with h;subst h;have g1:=hu _ _ _ _ h1;have g2:=hu _ _ _ _ h2;exact iH g1 g2
  | _=>cases h
end
end
section
section
variable {W:Nat->Code->AC->Prop}{η η1:Env}{n m:K}
theorem qy{k:K}{L:Loc}(h:η k=some L)(hk:k.num<n.num):cI η n k=some L:=by unfold cI;rw[au hk];exact h
mutual
theorem al.cI:∀{v:V} {x:Value},al η v x->bB n v=true->al (cI η n) v x
 | _,_,.b x,_=>.b x
 | _,_,.i k n,_=>.i k n
 | _,_,.s l n h,_=>.s l n h
 | _,_,.np,_=>.np
 | _,_,.p b o L h,hb=>.p b o L (qy h (rG.1 (by simpa[bB]using hb)))
 | _,_,.ns,_=>.ns
 | _,_,.sl b o l c L h,hb=>.sl b o l c L (qy h (rG.1 (by simpa[bB]using hb)))
 | _,_,.su b o l e L c h h1 h2,hb=>.su b o l e L c (qy h (rG.1 (by simpa[bB]using hb))) h1 h2
 | _,_,.se b o e A L h,hb=>.se b o e A L (qy h (rG.1 (by simpa[bB]using hb)))
 | _,_,.nm,_=>.nm
 | _,_,.m b L h,hb=>.m b L (qy h (rG.1 (by simpa[bB]using hb)))
 | _,_,.nf,_=>.nf
 | _,_,.f g a c a' c' h h',hb=>by simp only[bB,bh]at hb;exact .f g a c a' c' (bc.cI h hb.1) (bc.cI h' hb.2)
 | _,_,.y l L h,hb=>.y l L (qy h (rG.1 (by simpa[bB]using hb)))
 | _,_,.ni,_=>.ni
 | _,_,.kY t v v' h,hb=>.kY t v v' (al.cI h (by simpa[bB]using hb))
 | _,_,.a l l' h,hb=>.a l l' (bc.cI h (by simpa[bB]using hb))
 | _,_,.u l l' h,hb=>.u l l' (bc.cI h (by simpa[bB]using hb))
 | _,_,.q v,_=>.q v
theorem bc.cI:∀{v:List V} {x:List Value},bc η v x->gn n v=true->bc (cI η n) v x
 | _,_,.nil,_=>.nil
 | _,_,.cons v v' l l' h h',hb=>by simp only[gn,bh]at hb;exact .cons v v' l l' (al.cI h hb.1) (bc.cI h' hb.2)
end
theorem yC(hf:∀k,n.num<=k.num->η k=none){k:K}{L:Loc}(h:η k=some L):K.cmp false k n=true:=by
 rw[rG];rcases jC k.num n.num with h1 | h1
 ·exact h1
 ·rw[hf k h1]at h;cases h
mutual
theorem al.mf (hf:∀k,n.num<=k.num->η k=none):∀{v:V} {x:Value},al η v x->bB n v=true
 | _,_,.b x=>rfl
 | _,_,.i k n=>rfl
 | _,_,.s l n h=>rfl
 | _,_,.np=>rfl
 | _,_,.p b o L h=>by simp only[bB];exact yC hf h
 | _,_,.ns=>rfl
 | _,_,.sl b o l c L h=>by simp only[bB];exact yC hf h
 | _,_,.su b o l e L c h h1 h2=>by simp only[bB];exact yC hf h
 | _,_,.se b o e A L h=>by simp only[bB];exact yC hf h
 | _,_,.nm=>rfl
 | _,_,.m b L h=>by simp only[bB];exact yC hf h
 | _,_,.nf=>rfl
 | _,_,.f g a c a' c' h h'=>by simp only[bB,bh];exact⟨bc.mf hf h,bc.mf hf h'⟩
 | _,_,.y l L h=>by simp only[bB];exact yC hf h
 | _,_,.ni=>rfl
 | _,_,.kY t v v' h=>by simp only[bB];exact al.mf hf h
 | _,_,.a l l' h=>by simp only[bB];exact bc.mf hf h
 | _,_,.u l l' h=>by simp only[bB];exact bc.mf hf h
 | _,_,.q v=>rfl
theorem bc.mf (hf:∀k,n.num<=k.num->η k=none):∀{v:List V} {x:List Value},bc η v x->gn n v=true
 | _,_,.nil=>rfl
 | _,_,.cons v v' l l' h h'=>by simp only[gn,bh];exact⟨al.mf hf h,bc.mf hf h'⟩
end
mutual
theorem bB.mono (ka:n.num<=m.num):∀(v:V),bB n v=true->bB m v=true
 | .p b _,h | .sl b _ _ _,h | .su b _ _ _,h | .m b,h | .y b,h=>by simp only[bB,rG]at h ⊢;omega
 | .f _ a c,h=>by simp only[bB,bh]at h ⊢;exact⟨gn.mono ka a h.1,gn.mono ka c h.2⟩
 | .kY _ v,h=>by simp only[bB]at h ⊢;exact bB.mono ka v h
 | .a l,h | .u l,h=>by simp only[bB]at h ⊢;exact gn.mono ka l h
 | .b _,_ | .i _ _,_ | .s _ _,_ | .np,_ | .ns,_ | .nm,_ | .nf,_ | .ni,_ | .q,_=>rfl
theorem gn.mono (ka:n.num<=m.num):∀(l:List V),gn n l=true->gn m l=true
 | [],_=>rfl
 | v::l,h=>by simp only[gn,bh]at h ⊢;exact⟨bB.mono ka v h.1,gn.mono ka l h.2⟩
end
theorem Ut{l:List V}(h:gn n l=true){v:V}(hv:v∈l):bB n v=true:=by
 induction l with
 | nil=>cases hv
 | cons a l ih=>
  simp only[gn,bh]at h;rcases fX.1 hv with rfl | hv
  ·exact h.1
  ·exact ih h.2 hv
theorem Uu{l:List V}(h:∀v∈l,bB n v=true):gn n l=true:=by
 induction l with
 | nil=>rfl
 | cons a l ih=>simp only[gn,bh];exact⟨h a (by simp),ih λv hv=>h v (by simp[hv])⟩
def wY(n:K):List (V×V×Nat)->Prop
 | []=>True
 | (k,v,_)::l=>bB n k=true/\bB n v=true/\wY n l
def nL(n:K):O->Prop
 | .c l _ _ | .r l=>gn n l=true
 | .b x y _=>bB n x=true/\bB n y=true
 | .mp es _=>wY n es
 | .it _ _ _=>True
 | .mi b _=>b.num<n.num
 | .me b _ _=>b.num<n.num
 | .lp _ _ T _ _ _=>∀t v,T.get (cz t)=some v->bB n v=true
theorem wY.mono(ka:n.num<=m.num):∀{l:List (V×V×Nat)},wY n l->wY m l
 | [],_=>trivial
 | (k,v,_)::l,⟨a,b,c⟩=>⟨bB.mono ka k a,bB.mono ka v b,wY.mono ka c⟩
theorem nL.mono(ka:n.num<=m.num){o:O}(h:nL n o):nL m o:=by
 cases o with
 | c l e fz=>exact gn.mono ka _ h
 | r l=>exact gn.mono ka _ h
 | b x y e=>exact⟨bB.mono ka _ h.1,bB.mono ka _ h.2⟩
 | mp es c=>exact wY.mono ka h
 | it=>trivial
 | mi b c=>exact fk h ka
 | me b c t=>exact fk h ka
 | lp r p T ps a b=>exact λt v hv=>bB.mono ka v (h t v hv)
theorem eE.cI:∀{l:List (V×V×Nat)} {l':List MapEntry},eE η l l'->wY n l->eE (cI η n) l l'
 | [],[],_,_=>trivial
 | (_,_,_)::_,_::_,⟨a,b,c,d⟩,⟨p,q,r⟩=>⟨a.cI p,b.cI q,c,eE.cI d r⟩
theorem eE.below(hf:∀k,n.num<=k.num->η k=none):∀{l:List (V×V×Nat)} {l':List MapEntry},eE η l l'->wY n l
 | [],[],_=>trivial
 | (_,_,_)::_,_::_,⟨a,b,c,d⟩=>⟨a.mf hf,b.mf hf,eE.below hf d⟩
theorem aW.cI{T:Tr V}{t:Array Value}(h:aW η T t)(hb:∀t v,T.get (cz t)=some v->bB n v=true):aW (cI η n) T t:=λk v hv=>
 let⟨x,h1,h2⟩:=h k v hv;⟨x,h1,h2.cI (hb k v hv)⟩
theorem gO.cI{o:O}{L:Loc}{x:Option Obj}(h:gO W η o L x)(hb:nL n o):gO W (cI η n) o L x:=by
 cases o with
 | c l e fz=>
  obtain⟨cs,fr,h1,h2,h3,h4,h5⟩:=h;exact⟨cs,fr,h1,h2,h3,λi v hi=>let⟨y,a,b⟩:=h4 i v hi;⟨y,a,b.cI (Ut hb (List.mem_of_getElem? hi))⟩,h5⟩
 | r l=>
  obtain⟨cs,e,fr,h1,h4⟩:=h;exact⟨cs,e,fr,h1,λi v hi=>let⟨y,a,b⟩:=h4 i v hi;⟨y,a,b.cI (Ut hb (List.mem_of_getElem? hi))⟩⟩
 | b x y e=>obtain⟨h0,u,v,h1,h2,h3⟩:=h;exact⟨h0,u,v,h1,h2.cI hb.1,h3.cI hb.2⟩
 | mp es c=>obtain⟨gw,h1,h2⟩:=h;exact⟨gw,h1,h2.cI hb⟩
 | it l n pos=>exact h
 | mi b since=>obtain⟨h0,Lb,h1,h2⟩:=h;exact⟨h0,Lb,qy h1 hb,h2⟩
 | me m c t=>obtain⟨h0,Lm,since,seen,h1,h2,h3⟩:=h;exact⟨h0,Lm,since,seen,qy h1 hb,h2,h3⟩
 | lp ready gC T ps as body=>obtain⟨r,h1,h2,h3,h4,h5⟩:=h;exact⟨r,h1,h2,h3,h4.cI hb,h5⟩
theorem gO.below(hf:∀k,n.num<=k.num->η k=none){o:O}{L:Loc}{x:Option Obj}(h:gO W η o L x):nL n o:=by
 cases o with
 | c l e fz=>
  obtain⟨cs,fr,h1,h2,h3,h4,h5⟩:=h;exact Uu λv hv=>let⟨i,hi⟩:=List.getElem?_of_mem hv;let⟨y,_,b⟩:=h4 i v hi;b.mf hf
 | r l=>
  obtain⟨cs,e,fr,h1,h4⟩:=h;exact Uu λv hv=>let⟨i,hi⟩:=List.getElem?_of_mem hv;let⟨y,_,b⟩:=h4 i v hi;b.mf hf
 | b x y e=>obtain⟨h0,u,v,h1,h2,h3⟩:=h;exact⟨h2.mf hf,h3.mf hf⟩
 | mp es c=>obtain⟨gw,h1,h2⟩:=h;exact h2.below hf
 | it l n pos=>trivial
 | mi b since=>obtain⟨h0,Lb,h1,h2⟩:=h;exact rG.1 (yC hf h1)
 | me m c t=>obtain⟨h0,Lm,since,seen,h1,h2,h3⟩:=h;exact rG.1 (yC hf h1)
 | lp ready gC T ps as body=>obtain⟨r,h1,h2,h3,h4,h5⟩:=h;exact λt v hv=>let⟨x,_,b⟩:=h4 t v hv;b.mf hf
end
end
section
section
variable {T:Tr V}{H:Hp}{n:K}{op:A}
theorem adg(hc:cls op=.pure):∃x:Option V,∀H n,simple op T H n=dX H n x:=by
 cases op<;>(try (simp only[cls]at hc;cases hc;done))
 case mv x=>exact⟨_,λ_ _=>rfl⟩
 case pick c a b=>
  simp only[simple];cases aq T c with
  | none=>exact⟨none,λ_ _=>rfl⟩
  | some v=>cases v<;>first | exact⟨_,λ_ _=>rfl⟩ | exact⟨none,λ_ _=>rfl⟩
 case bld zs ps=>simp only[simple];cases rn T zs ps with
  | none=>exact⟨none,λ_ _=>rfl⟩
  | some l=>exact⟨some (.a l),λ_ _=>rfl⟩
 case nck x=>simp only[simple];cases aq T x with
  | none=>exact⟨none,λ_ _=>rfl⟩
  | some v=>cases v with
   | p b o=>exact⟨some (.p b o),λ_ _=>rfl⟩
   | f g a c=>exact⟨some (.f g a c),λ_ _=>rfl⟩
   | y l=>exact⟨some (.y l),λ_ _=>rfl⟩
   | _=>exact⟨none,λ_ _=>rfl⟩
 case bin o k x y=>simp only[simple];cases aq T x with
  | none=>exact⟨none,λ_ _=>rfl⟩
  | some v=>cases aq T y with
   | none=>exact⟨none,λ_ _=>rfl⟩
   | some u=>exact⟨_,λ_ _=>rfl⟩
 case un o x=>simp only[simple];cases aq T x with
  | none=>exact⟨none,λ_ _=>rfl⟩
  | some v=>exact⟨_,λ_ _=>rfl⟩
 case cv k x=>
  simp only[simple];cases aq T x with
  | none=>exact⟨none,λ_ _=>rfl⟩
  | some v=>
   cases k with
   | toInt k=>cases v<;>first | exact⟨none,λ_ _=>rfl⟩ | exact⟨some _,λ_ _=>rfl⟩
   | same=>cases v<;>first | exact⟨none,λ_ _=>rfl⟩ | exact⟨some _,λ_ _=>rfl⟩
   | zE=>cases hc
   | JO e=>cases hc
   | IY=>cases hc
   | IZ u=>cases hc
   | zF=>
    cases v<;>try exact⟨none,λ_ _=>rfl⟩
    rename_i k m;cases m with
    | negSucc=>exact⟨none,λ_ _=>rfl⟩
    | ofNat m=>
     simp only[qR];cases sH m with
     | true=>exact⟨some _,λ_ _=>rfl⟩
     | false=>exact⟨none,λ_ _=>rfl⟩
 case mif t x=>simp only[simple];cases aq T x with
  | none=>exact⟨none,λ_ _=>rfl⟩
  | some v=>exact⟨some (.kY t v),λ_ _=>rfl⟩
 case mfn f a c=>simp only[simple];cases fD T a with
  | none=>exact⟨none,λ_ _=>rfl⟩
  | some v=>cases fD T c with
   | none=>exact⟨none,λ_ _=>rfl⟩
   | some u=>exact⟨some (.f f v u),λ_ _=>rfl⟩
 case sli k x lo hi mx=>simp only[simple];cases aq T x with
  | none=>exact⟨none,λ_ _=>rfl⟩
  | some v=>exact⟨_,λ_ _=>rfl⟩
 case fad off x=>simp only[simple];cases aq T x with
  | none=>exact⟨none,λ_ _=>rfl⟩
  | some v=>cases v with
   | p b o=>exact⟨some (.p b (Nat.add o off)),λ_ _=>rfl⟩
   | _=>exact⟨none,λ_ _=>rfl⟩
 case fld agg off sz x=>simp only[simple];cases aq T x with
  | none=>exact⟨none,λ_ _=>rfl⟩
  | some v=>cases v with
   | a l=>
    cases agg with
    | false=>exact⟨_,λ_ _=>rfl⟩
    | true=>
     simp only[cond_true];cases db l off sz with
     | none=>exact⟨none,λ_ _=>rfl⟩
     | some l'=>exact⟨some (.a l'),λ_ _=>rfl⟩
   | _=>exact⟨none,λ_ _=>rfl⟩
 case iad arr z x i=>simp only[simple];cases aq T x with
  | none=>exact⟨none,λ_ _=>rfl⟩
  | some v=>cases aq T i with
   | none=>exact⟨none,λ_ _=>rfl⟩
   | some u=>
    cases u<;>try exact⟨none,λ_ _=>rfl⟩
    rename_i k m;cases m with
    | negSucc=>exact⟨none,λ_ _=>rfl⟩
    | ofNat m=>
     cases arr with
     | some q=>
      cases v with
      | p b o=>
       simp only;cases Nat.blt m q with
       | true=>exact⟨some (.p b (Nat.add o (Nat.mul m z))),λ_ _=>rfl⟩
       | false=>exact⟨none,λ_ _=>rfl⟩
      | _=>exact⟨none,λ_ _=>rfl⟩
     | none=>
      cases v with
      | sl b o l c=>
       simp only;cases Nat.blt m l with
       | true=>exact⟨some (.p b (Nat.add o (Nat.mul m z))),λ_ _=>rfl⟩
       | false=>exact⟨none,λ_ _=>rfl⟩
      | su b o l e=>
       simp only;cases Nat.blt m l with
       | true=>exact⟨some (.p b (Nat.add o (Nat.mul m z))),λ_ _=>rfl⟩
       | false=>exact⟨none,λ_ _=>rfl⟩
      | _=>exact⟨none,λ_ _=>rfl⟩
 case idx arr x i=>simp only[simple];cases aq T x with
  | none=>exact⟨none,λ_ _=>rfl⟩
  | some v=>cases aq T i with
   | none=>exact⟨none,λ_ _=>rfl⟩
   | some u=>
    cases u<;>try exact⟨none,λ_ _=>rfl⟩
    rename_i k m;cases m with
    | negSucc=>exact⟨none,λ_ _=>rfl⟩
    | ofNat m=>
     cases arr with
     | none=>
      cases v with
      | s l q=>
       simp only;cases Nat.blt m l with
       | true=>exact⟨some _,λ_ _=>rfl⟩
       | false=>exact⟨none,λ_ _=>rfl⟩
      | _=>exact⟨none,λ_ _=>rfl⟩
     | some q=>
      obtain⟨q,z,agg⟩:=q;cases v with
      | a l=>
       simp only;cases Nat.blt m q with
       | false=>exact⟨none,λ_ _=>rfl⟩
       | true=>
        cases agg with
        | false=>exact⟨_,λ_ _=>rfl⟩
        | true=>
         simp only[cond_true];cases db l (Nat.mul m z) z with
         | none=>exact⟨none,λ_ _=>rfl⟩
         | some l'=>exact⟨some (.a l'),λ_ _=>rfl⟩
      | _=>exact⟨none,λ_ _=>rfl⟩
 case tas t z ok x=>simp only[simple];cases aq T x with
  | none=>exact⟨none,λ_ _=>rfl⟩
  | some v=>cases v with
   | ni=>cases ok with
    | true=>exact⟨some _,λ_ _=>rfl⟩
    | false=>exact⟨none,λ_ _=>rfl⟩
   | kY t' u=>
    simp only;cases Nat.beq t t' with
    | true=>exact⟨some _,λ_ _=>rfl⟩
    | false=>cases ok with
     | true=>exact⟨some _,λ_ _=>rfl⟩
     | false=>exact⟨none,λ_ _=>rfl⟩
   | _=>exact⟨none,λ_ _=>rfl⟩
 case ext x i=>simp only[simple];cases aq T x with
  | none=>exact⟨none,λ_ _=>rfl⟩
  | some v=>cases v with
   | u l=>exact⟨_,λ_ _=>rfl⟩
   | _=>exact⟨none,λ_ _=>rfl⟩
 case cap arr x=>simp only[simple];cases arr with
  | some m=>exact⟨some _,λ_ _=>rfl⟩
  | none=>cases aq T x with
   | none=>exact⟨none,λ_ _=>rfl⟩
   | some v=>cases v with
    | ns=>exact⟨some _,λ_ _=>rfl⟩
    | sl b o l c=>exact⟨some (.i .i64 (Int.ofNat c)),λ_ _=>rfl⟩
    | _=>exact⟨none,λ_ _=>rfl⟩
 case mm mx l=>simp only[simple];cases fD T l with
  | none=>exact⟨none,λ_ _=>rfl⟩
  | some vs=>cases vs with
   | nil=>exact⟨none,λ_ _=>rfl⟩
   | cons v vs=>exact⟨_,λ_ _=>rfl⟩
theorem Uv(hc:cls op=.read):∃x:Option V,∀n,simple op T H n=dX H n x:=by
 cases op<;>(try (simp only[cls]at hc;cases hc;done))
 case ld agg sz a=>simp only[simple];cases aq T a with
  | none=>exact⟨none,λ_=>rfl⟩
  | some v=>exact⟨_,λ_=>rfl⟩
 case cv k x=>
  simp only[simple];cases aq T x with
  | none=>exact⟨none,λ_=>rfl⟩
  | some v=>
   cases k with
   | zE=>
    have key:∃y:Option V,∀n,(match elems H 1 v with
     | some (l,vs)=>match ofBytes vs with | some m=>(some (.s l m,H,n):gm) | none=>none
     | none=>none)=dX H n y:=by
     cases elems H 1 v with
     | none=>exact⟨none,λ_=>rfl⟩
     | some p=>
      obtain⟨l,vs⟩:=p;simp only;cases ofBytes vs with
      | none=>exact⟨none,λ_=>rfl⟩
      | some m=>exact⟨some (.s l m),λ_=>rfl⟩
    cases v<;>first | exact⟨none,λ_=>rfl⟩ | exact key
   | _=>cases hc
 case lkp q z ok m k=>simp only[simple];cases aq T m with
  | none=>exact⟨none,λ_=>rfl⟩
  | some v=>cases aq T k with
   | none=>cases v<;>exact⟨none,λ_=>rfl⟩
   | some u=>
    cases v<;>try exact⟨none,λ_=>rfl⟩
    case nm=>
     simp only;cases ot q u with
     | true=>exact⟨some _,λ_=>rfl⟩
     | false=>exact⟨none,λ_=>rfl⟩
    case m b=>
     simp only;cases ot q u with
     | false=>exact⟨none,λ_=>rfl⟩
     | true=>
      simp only[cond_true];cases H.get b with
      | none=>exact⟨none,λ_=>rfl⟩
      | some o=>
       cases o<;>try exact⟨none,λ_=>rfl⟩
       rename_i es c;simp only;cases BG q u es with
       | none=>exact⟨none,λ_=>rfl⟩
       | some w=>cases w with
        | none=>exact⟨some _,λ_=>rfl⟩
        | some w=>exact⟨some _,λ_=>rfl⟩
 case len k x=>
  simp only[simple];cases aq T x with
  | none=>rcases k with _ | _ | _ | k<;>exact⟨none,λ_=>rfl⟩
  | some v=>
   rcases k with _ | _ | _ | k
   ·cases v<;>first | exact⟨none,λ_=>rfl⟩ | exact⟨some (.i .i64 (Int.ofNat _)),λ_=>rfl⟩
   ·cases v<;>first | exact⟨none,λ_=>rfl⟩ | exact⟨some (.i .i64 (Int.ofNat _)),λ_=>rfl⟩ | exact⟨some (.i .i64 0),λ_=>rfl⟩
   ·cases v<;>try first | exact⟨none,λ_=>rfl⟩ | exact⟨some (.i .i64 0),λ_=>rfl⟩
    rename_i b;simp only;cases H.get b with
    | none=>exact⟨none,λ_=>rfl⟩
    | some o=>cases o<;>first | exact⟨none,λ_=>rfl⟩ | exact⟨some (.i .i64 (Int.ofNat _)),λ_=>rfl⟩
   ·cases v<;>exact⟨none,λ_=>rfl⟩
theorem adh(hc:cls op=.make){v:V}{H1:Hp}{n1:K}(h:simple op T H n=some (v,H1,n1)):
 ∃o:O,H1=H.put (some o) n/\n1=n.succ/\∀H2,simple op T H2 n=some (v,H2.put (some o) n,n.succ):=by
 cases op<;>(try (simp only[cls]at hc;cases hc;done))
 case cv k x=>cases k<;>cases hc
 case new e zs=>simp only[simple]at h ⊢;obtain⟨rfl,rfl,rfl⟩:=pv h;exact⟨_,rfl,rfl,λ_=>rfl⟩
 case mmap=>simp only[simple]at h ⊢;obtain⟨rfl,rfl,rfl⟩:=pv h;exact⟨_,rfl,rfl,λ_=>rfl⟩
 case box e x=>
  simp only[simple]at h ⊢;split at h
  case h_2=>cases h
  rename_i u hu;cases ha:bE u.cells with
  | false=>rw[ha]at h;cases h
  | true=>rw[ha]at h;obtain⟨rfl,rfl,rfl⟩:=pv h;exact⟨_,rfl,rfl,λ_=>rfl⟩
 case bsl e zs len ps=>
  simp only[simple]at h ⊢;split at h
  case h_2=>cases h
  rename_i u hu;obtain⟨rfl,rfl,rfl⟩:=pv h;exact⟨_,rfl,rfl,λ_=>rfl⟩
 case msl e esz bytes z l c=>
  simp only[simple]at h ⊢;split at h
  case h_2=>cases h
  rename_i k1 a k2 b h1 h2;simp only[iD]at h ⊢;split at h
  case isFalse=>cases h
  rename_i hb;obtain⟨rfl,rfl,rfl⟩:=pv h;exact⟨_,rfl,rfl,λ_=>by rw[au hb];rfl⟩
theorem Uw{x:Option V}{v:V}{H1:Hp}{n1:K}(h:dX H n x=some (v,H1,n1)):x=some v/\H1=H/\n1=n:=by
 cases x with
 | none=>cases h
 | some y=>obtain⟨rfl,rfl,rfl⟩:=ea h;exact⟨rfl,rfl,rfl⟩
theorem adi{ih:dY}{T':Tr V}(h:∀x∈op.eU,aq T x=aq T' x):oper ih op T H n=oper ih op T' H n:=by
 cases op with
 | cg f l=>
  have h1:=h f (by simp[A.eU]);have h2:=Ht (l:=l) λx hx=>h x (by simp[A.eU,hx]);simp only[oper,eC,h1,h2]
 | _=>rw[Aa (by intro f l h;cases h),Aa (by intro f l h;cases h)];exact aci (H:=H) (n:=n) h
theorem EU{ih:dY}(hc:cls op≠.kq):oper ih op T H n=simple op T H n:=by
 cases op with
 | cg f l=>exact absurd rfl hc
 | _=>exact Aa (by intro f l h;cases h)
end
end
section
theorem adj{p:Nat->Prop}(h:∃n,p n):∃n,p n/\∀m,m<n->¬ p m:=by
 obtain⟨n,hn⟩:=h
 induction n using Nat.strongRecOn with
 | ind n ih=>
  by_cases h:∃m,m<n/\p m
  ·obtain⟨m,h1,h2⟩:=h;exact ih m h1 h2
  ·exact⟨n,hn,λm h1 h2=>h ⟨m,h1,h2⟩⟩
theorem adk{p:Nat->Prop}{N:Nat}(hb:∀n,p n->n<N)(h:∃n,p n):∃n,p n/\∀m,n<m->¬ p m:=by
 obtain⟨n,hn⟩:=h
 induction hk:N - n using Nat.strongRecOn generalizing n with
 | ind k ih=>
  by_cases h:∃m,n<m/\p m
  ·obtain⟨m,h1,h2⟩:=h;exact ih (N - m) (by have:=hb m h2;omega) m h2 rfl
  ·exact⟨n,hn,λm h1 h2=>h ⟨m,h1,h2⟩⟩
structure gi(ih:dY)(l:List AO)(c:Canon)(rs:List Rd)(bs:List Bg):Prop where
 up:wX ih
 step:∀(j:Nat) (o:AO),l[j]?=some o->Af ih c rs bs j o
 BI:wE (c.M l.length) rs bs=true
 on:∀(i j:Nat) (a b:AO),i<j->l[i]?=some a->l[j]?=some b->zL i a b=true/\BM a b=true
 Δ:∀(i:Nat) (a:AO),l[i]?=some a->∀k,Nat.testBit a.Δ k=true->k<i
 m0:c.M 0=[]
def Mk(l:List AO)(c:Canon)(j:Nat):Prop:=∃o,l[j]?=some o/\c.run j=true/\cls o.op=.make
def nt(l:List AO)(c:Canon)(j:Nat):Prop:=∃o,l[j]?=some o/\c.run j=true/\cls o.op=.kq
section
variable {ih:dY}{l:List AO}{c:Canon}{rs:List Rd}{bs:List Bg}
theorem th{j:Nat}{o:AO}(h:l[j]?=some o):j<l.length:=(oj.1 h).1
theorem Mk.lt{j:Nat}(h:Mk l c j):j<l.length:=let⟨o,h1,_⟩:=h;th h1
theorem nt.lt{j:Nat}(h:nt l c j):j<l.length:=let⟨o,h1,_⟩:=h;th h1
theorem Ux{op:A}(h:cls op=.kq):kq op=true:=by
 unfold kq;split
 ·rfl
 ·rw[h]
theorem gi.chain(R:gi ih l c rs bs){i j:Nat}(hi:nt l c i)(hj:nt l c j)(h:i<j){b:AO}(hb:l[j]?=some b):Nat.testBit b.Δ i=true:=by obtain⟨a,h1,_,h2⟩:=hi;obtain⟨b',h3,_,h4⟩:=hj;rw[hb]at h3;injection h3 with h3;subst h3;have:=(R.on i j a b h h1 hb).1;simp only[zL,Ux h2,Ux h4,om,Bool.not_true,wx,Bool.or_false]at this;exact this
theorem gi.Uy(R:gi ih l c rs bs){i:Nat}(hi:i<l.length):(c.N i).num<=(c.N (i+1)).num:=by
 obtain⟨o,ho⟩:∃o,l[i]?=some o:=⟨_,fO hi⟩;have s:=R.step i o ho;cases hr:c.run i with
 | false=>rw[(s.not hr).2.2.1];exact χ _
 | true=>
  have up:=Uq R.up (s.Bh hr);cases hc:cls o.op with
  | pure=>rw[(s.pure hr hc).2.1];exact χ _
  | read=>rw[(s.read hr hc).2.1];exact χ _
  | make=>rw[(s.make hr hc).2.1];exact up
  | kq=>rw[(s.kq hr hc).2.1];exact up
theorem gi.mR(R:gi ih l c rs bs){i j:Nat}(tM:i<=j)(hj:j<=l.length):(c.N i).num<=(c.N j).num:=by
 induction j with
 | zero=>
  have:i=0:=by omega
  subst this;exact χ _
 | succ j jN=>
  rcases jC j i with h | h
  ·have:i=j+1:=by omega
   subst this;exact χ _
  ·exact iH (jN h (by omega)) (R.Uy (by omega))
theorem gi.Uz(R:gi ih l c rs bs){i:Nat}{o:AO}(ho:l[i]?=some o)(hr:c.run i=true)(hc:cls o.op=.make):
 ∃ob:O,c.H' i=(dT (c.H i) o.Δ (c.M i)).put (some ob) (c.N i)/\c.n' i=(c.N i).succ/\∀H2,simple o.op (c.T i) H2 (c.N i)=some (c.v i,H2.put (some ob) (c.N i),(c.N i).succ):=by
 have s:=(R.step i o ho).Bh hr;rw[EU (by rw[hc];intro h;cases h)]at s;exact adh hc s
theorem gi.UA(R:gi ih l c rs bs){i:Nat}(h:Mk l c i):c.N (i+1)=(c.N i).succ:=by obtain⟨o,ho,hr,hc⟩:=h;obtain⟨ob,_,h2,_⟩:=R.Uz ho hr hc;rw[((R.step i o ho).make hr hc).2.1,h2]
theorem gi.Ib(R:gi ih l c rs bs){i j:Nat}(h:Mk l c i)(tM:i<j)(hj:j<=l.length):(c.N i).num<(c.N j).num:=by have h1:=R.mR (i:=i+1) (j:=j) (by omega) hj;rw[R.UA h,K.fQ]at h1;omega
theorem gi.EV(R:gi ih l c rs bs){i j:Nat}(hi:Mk l c i)(hj:Mk l c j)(h:c.N i=c.N j):i=j:=by
 rcases By i j with h1 | h1 | h1
 ·have:=R.Ib hi h1 (fY hj.lt);rw[h]at this;omega
 ·exact h1
 ·have:=R.Ib hj h1 (fY hi.lt);rw[h]at this;omega
theorem gi.UB(R:gi ih l c rs bs){q:Nat}(hq:q<=l.length)(k:K)(j:Nat):(k,j)∈c.M q↔j<q/\Mk l c j/\k=c.N j:=by
 induction q with
 | zero=>
  rw[R.m0];constructor
  ·intro h;cases h
  ·rintro⟨h,_⟩;omega
 | succ q jN=>
  have ω:q<l.length:=by omega
  obtain⟨o,ho⟩:∃o,l[q]?=some o:=⟨_,fO ω⟩;have s:=R.step q o ho;have same:(¬ Mk l c q)->c.M (q+1)=c.M q->((k,j)∈c.M (q+1)↔j<q+1/\Mk l c j/\k=c.N j):=by
   intro hn e;rw[e,jN (by omega)];constructor
   ·rintro⟨a,b⟩;exact⟨by omega,b⟩
   ·rintro⟨a,b,b'⟩;refine⟨?_,b,b'⟩;rcases jC j q with h | h
    ·exact h
    ·have:j=q:=by omega
     subst this;exact absurd b hn
  cases hr:c.run q with
  | false=>exact same (λ⟨_,_,h,_⟩=>by rw[hr]at h;cases h) (s.not hr).2.2.2
  | true=>
   cases hc:cls o.op with
   | pure=>exact same (λ⟨p,hp,_,h⟩=>by rw[ho]at hp;injection hp with hp;subst hp;rw[hc]at h;cases h) (s.pure hr hc).2.2
   | read=>exact same (λ⟨p,hp,_,h⟩=>by rw[ho]at hp;injection hp with hp;subst hp;rw[hc]at h;cases h) (s.read hr hc).2.2.1
   | kq=>exact same (λ⟨p,hp,_,h⟩=>by rw[ho]at hp;injection hp with hp;subst hp;rw[hc]at h;cases h) (s.kq hr hc).2.2.1
   | make=>
    rw[(s.make hr hc).2.2,fX,jN (by omega)];constructor
    ·rintro(h | ⟨a,b⟩)
     ·injection h with h1 h2;subst h1;subst h2;exact⟨by omega,⟨o,ho,hr,hc⟩,rfl⟩
     ·exact⟨by omega,b⟩
    ·rintro⟨a,b,b'⟩;rcases jC j q with h | h
     ·exact .inr ⟨h,b,b'⟩
     ·have:j=q:=by omega
      subst this;subst b';exact .inl U
theorem gi.yD(R:gi ih l c rs bs){q:Nat}(hq:q<=l.length)(a:Nat)(k:K):hidden a (c.M q) k↔∃j,j<q/\Mk l c j/\k=c.N j/\Nat.testBit a j=false:=by
 unfold hidden;constructor
 ·rintro⟨j,h1,h2⟩;obtain⟨a1,a2,a3⟩:=(R.UB hq k j).1 h1;exact⟨j,a1,a2,a3,h2⟩
 ·rintro⟨j,a1,a2,a3,h2⟩;exact⟨j,(R.UB hq k j).2 ⟨a1,a2,a3⟩,h2⟩
theorem gi.UC(R:gi ih l c rs bs){i:Nat}(hi:i<l.length)(h1:¬ Mk l c i)(h2:¬ nt l c i):c.H (i+1)=c.H i/\c.N (i+1)=c.N i:=by
 obtain⟨o,ho⟩:∃o,l[i]?=some o:=⟨_,fO hi⟩;have s:=R.step i o ho;cases hr:c.run i with
 | false=>exact⟨(s.not hr).2.1,(s.not hr).2.2.1⟩
 | true=>
  cases hc:cls o.op with
  | pure=>exact⟨(s.pure hr hc).1,(s.pure hr hc).2.1⟩
  | read=>exact⟨(s.read hr hc).1,(s.read hr hc).2.1⟩
  | make=>exact absurd ⟨o,ho,hr,hc⟩ h1
  | kq=>exact absurd ⟨o,ho,hr,hc⟩ h2
theorem gi.LF(R:gi ih l c rs bs){i:Nat}(h:Mk l c i):∃(o:AO) (ob:O),l[i]?=some o/\cls o.op=.make/\c.run i=true/\(∀H2,simple o.op (c.T i) H2 (c.N i)=some (c.v i,H2.put (some ob) (c.N i),(c.N i).succ))/\∀k,(c.H (i+1)).get k=if k=c.N i then some ob else (c.H i).get k:=by
 obtain⟨o,ho,hr,hc⟩:=h;obtain⟨ob,h1,h2,h3⟩:=R.Uz ho hr hc;refine⟨o,ob,ho,hc,hr,h3,λk=>?_⟩;rw[((R.step i o ho).make hr hc).1];obtain⟨b1,b2⟩:=Ai o.Δ (c.M i) (c.H i) (c.H' i) k;obtain⟨d1,d2⟩:=Ek o.Δ (c.M i) (c.H i) k;have hle:i<=l.length:=fY (th ho);by_cases hh:hidden o.Δ (c.M i) k
 ·rw[b1 hh,Ξ];intro e;obtain⟨j,hj,hm,e',_⟩:=(R.yD hle _ _).1 hh;have:=R.Ib hm hj hle;rw[←e',e]at this;omega
 ·rw[b2 hh,h1,Tr.fI,d2 hh]
theorem gi.EW(R:gi ih l c rs bs){i:Nat}{o:AO}(ho:l[i]?=some o)(hr:c.run i=true)(hc:cls o.op=.kq)(k:K):
 (hidden o.Δ (c.M i) k->(c.H (i+1)).get k=(c.H i).get k)/\(¬ hidden o.Δ (c.M i) k->(c.H (i+1)).get k=(c.H' i).get k):=by
 rw[((R.step i o ho).kq hr hc).1];exact Ai o.Δ (c.M i) (c.H i) (c.H' i) k
theorem gi.UD(R:gi ih l c rs bs){p q:Nat}(hpq:p<=q)(hq:q<=l.length){k:K}(hb:∀b,p<=b->b<q->∀o,l[b]?=some o->c.run b=true->cls o.op=.kq->hidden o.Δ (c.M b) k)
 (hk:∀j,p<=j->j<q->Mk l c j->k≠c.N j):(c.H q).get k=(c.H p).get k:=by
 induction q with
 | zero=>
  have:p=0:=by omega
  subst this;rfl
 | succ q jN=>
  rcases jC q p with h | h
  ·have:p=q+1:=by omega
   subst this;rfl
  ·have ihq:=jN h (by omega) (λb h1 h2=>hb b h1 (by omega)) (λj h1 h2=>hk j h1 (by omega));rw[←ihq];by_cases h1:Mk l c q
   ·obtain⟨o,ob,_,_,_,_,h2⟩:=R.LF h1;rw[h2 k,Ξ (hk q h (by omega) h1)]
   ·by_cases h2:nt l c q
    ·obtain⟨o,ho,hr,hc⟩:=h2;exact(R.EW ho hr hc k).1 (hb q h (by omega) o ho hr hc)
    ·rw[(R.UC (by omega) h1 h2).1]
theorem gi.adm(R:gi ih l c rs bs){i j:Nat}{a b:AO}(hi:l[i]?=some a)(hj:l[j]?=some b){d:K}(h1:a.dst=some d)(h2:b.dst=some d):i=j:=by
 rcases By i j with h | h | h
 ·have:=(R.on i j a b h hi hj).2;simp only[BM,h1,h2,K.beq_refl]at this;cases this
 ·exact h
 ·have:=(R.on j i b a h hj hi).2;simp only[BM,h1,h2,K.beq_refl]at this;cases this
theorem gi.UE(R:gi ih l c rs bs){q:Nat}(hq:q<=l.length)(k:K):
 (∃j o,j<q/\l[j]?=some o/\o.dst=some k/\(c.T q).get k=some (c.v j))\/((∀j o,j<q->l[j]?=some o->o.dst≠some k)/\(c.T q).get k=(c.T 0).get k):=by
 induction q with
 | zero=>exact .inr ⟨λj o h=>by omega,rfl⟩
 | succ q jN=>
  have ω:q<l.length:=by omega
  obtain⟨o,ho⟩:∃o,l[q]?=some o:=⟨_,fO ω⟩;have s:=(R.step q o ho).jD;rw[s];by_cases hd:o.dst=some k
  ·left;refine⟨q,o,by omega,ho,hd,?_⟩;simp only[eg,hd,Tr.fI,if_true]
  ·have e:(eg o.dst (some (c.v q)) (c.T q)).get k=(c.T q).get k:=by
    cases h:o.dst with
    | none=>rfl
    | some d=>simp only[eg];rw[Tr.fI,Ξ (λe=>hd (by rw[h,e]))]
   rw[e];rcases jN (by omega) with ⟨j,o',h1,h2,h3,h4⟩ | ⟨h1,h2⟩
   ·exact .inl ⟨j,o',by omega,h2,h3,h4⟩
   ·refine .inr ⟨λj o' hj nu=>?_,h2⟩;rcases jC j q with h | h
    ·exact h1 j o' h nu
    ·have:j=q:=by omega
     subst this;rw[ho]at nu;injection nu with nu;subst nu;exact hd
theorem gi.looks(R:gi ih l c rs bs){i j:Nat}{a b:AO}(hi:l[i]?=some a)(hj:l[j]?=some b){d:K}(hd:b.dst=some d)(hl:d∈a.looks):Nat.testBit a.Δ j=true\/Nat.testBit b.Δ i=true\/i=j:=by
 have any:∀{l:List K},d∈l->l.any (K.beq d)=true:=λh=>List.any_eq_true.2 ⟨d,h,K.beq_refl d⟩;rcases By i j with h | h | h
 ·have:=(R.on i j a b h hi hj).1;simp only[zL,hd,any hl,Bool.not_true,Bool.and_false,Bool.or_false]at this;exact .inr (.inl this)
 ·exact .inr (.inr h)
 ·have:=(R.on j i b a h hj hi).1;simp only[zL,hd,any hl,Bool.not_true,Bool.and_false,wx,Bool.or_false]at this;exact .inl this
end
end
section
theorem adn{a b:Int}(h:r8 a b=true):a=b:=by cases a<;>cases b<;>simp only[r8]at h<;>first | (cases h;done) | (rw[cL h])
mutual
theorem wZ:∀{a b:V},cT a b=true->a=b
 | .b x,y,h=>by cases y<;>simp only[cT]at h<;>first | (cases h;done) | (simp at h;rw[h])
 | .i k x,y,h=>by
  cases y<;>simp only[cT]at h<;>first | (cases h;done) | skip
  simp only[bh]at h;rw[Ha h.1,adn h.2]
 | .s l n,y,h=>by
  cases y<;>simp only[cT]at h<;>first | (cases h;done) | skip
  simp only[bh]at h;rw[cL h.1,cL h.2]
 | .np,y,h=>by cases y<;>simp only[cT]at h<;>first | rfl | (cases h;done)
 | .p b o,y,h=>by
  cases y<;>simp only[cT]at h<;>first | (cases h;done) | skip
  simp only[bh]at h;rw[K.beq_eq h.1,cL h.2]
 | .ns,y,h=>by cases y<;>simp only[cT]at h<;>first | rfl | (cases h;done)
 | .sl b o l c,y,h=>by
  cases y<;>simp only[cT]at h<;>first | (cases h;done) | skip
  simp only[bh]at h;rw[K.beq_eq h.1.1.1,cL h.1.1.2,cL h.1.2,cL h.2]
 | .su b o l c,y,h=>by
  cases y<;>simp only[cT]at h<;>first | (cases h;done) | skip
  simp only[bh]at h;rw[K.beq_eq h.1.1.1,cL h.1.1.2,cL h.1.2,cL h.2]
 | .nm,y,h=>by cases y<;>simp only[cT]at h<;>first | rfl | (cases h;done)
 | .m b,y,h=>by cases y<;>simp only[cT]at h<;>first | (cases h;done) | (rw[K.beq_eq h])
 | .nf,y,h=>by cases y<;>simp only[cT]at h<;>first | rfl | (cases h;done)
 | .f g a c,y,h=>by
  cases y<;>simp only[cT]at h<;>first | (cases h;done) | skip
  simp only[bh]at h;rw[cL h.1.1,yE h.1.2,yE h.2]
 | .y l,y,h=>by cases y<;>simp only[cT]at h<;>cases h
 | .ni,y,h=>by cases y<;>simp only[cT]at h<;>first | rfl | (cases h;done)
 | .kY t v,y,h=>by
  cases y<;>simp only[cT]at h<;>first | (cases h;done) | skip
  simp only[bh]at h;rw[cL h.1,wZ h.2]
 | .a l,y,h=>by cases y<;>simp only[cT]at h<;>first | (cases h;done) | (rw[yE h])
 | .u l,y,h=>by cases y<;>simp only[cT]at h<;>first | (cases h;done) | (rw[yE h])
 | .q,y,h=>by cases y<;>simp only[cT]at h<;>cases h
theorem yE:∀{a b:List V},kG a b=true->a=b
 | [],[],_=>rfl
 | [],_::_,h=>by simp only[kG]at h;cases h
 | _::_,[],h=>by simp only[kG]at h;cases h
 | a::l,b::l',h=>by simp only[kG,bh]at h;rw[wZ h.1,yE h.2]
end
def Cut(l:List AO)(c:Canon)(D:Nat->Prop)(p:Nat):Prop:=p<=l.length/\∀b,nt l c b->(D b↔b<p)
structure Spec(l:List AO)(c:Canon)(D:Nat->Prop)(p:Nat)(Hd:Hp):Prop where
 base:∀k,(∀j,Mk l c j->k≠c.N j)->Hd.get k=(c.H p).get k
 done:∀j,Mk l c j->D j->Hd.get (c.N j)=if j<p then (c.H p).get (c.N j) else (c.H (j+1)).get (c.N j)
 not:∀j,Mk l c j->¬ D j->Hd.get (c.N j)=none
def Ic(l:List AO)(D:Nat->Prop):Prop:=∀(i:Nat) (o:AO),D i->l[i]?=some o->∀k,Nat.testBit o.Δ k=true->D k
structure vO(l:List AO)(c:Canon)(D:Nat->Prop):Prop where
 EX:∀k o,(c.H 0).get k=some o->k.num<(c.N 0).num/\nL (c.N 0) o
 bg:∀b,nt l c b->D b->∀k o,(c.H' b).get k=some o->k.num<(c.N (b+1)).num/\nL (c.N (b+1)) o
 make:∀j,Mk l c j->D j->∀o,(c.H (j+1)).get (c.N j)=some o->nL (c.N (j+1)) o
section
variable {ih:dY}{l:List AO}{c:Canon}{rs:List Rd}{bs:List Bg}{D:Nat->Prop}{p q:Nat}{Hd:Hp}
theorem vO.zO(F:vO l c D)(R:gi ih l c rs bs)(hq:q<=l.length)(hb:∀b,b<q->nt l c b->D b)(k:K)(o:O)(hk:(c.H q).get k=some o):
 k.num<(c.N q).num/\((∀j,Mk l c j->k=c.N j->D j)->nL (c.N q) o):=by
 induction q generalizing k o with
 | zero=>exact⟨(F.EX k o hk).1,λ_=>(F.EX k o hk).2⟩
 | succ q jN=>
  have hN:=R.Uy (i:=q) (by omega);have up:(c.H q).get k=some o->k.num<(c.N (q+1)).num/\((∀j,Mk l c j->k=c.N j->D j)->nL (c.N (q+1)) o):=λh=>
   let⟨h1,h2⟩:=jN (by omega) (λb h1 h2=>hb b (by omega) h2) k o h
   ⟨by omega,λh=>(h2 h).mono hN⟩
  by_cases h1:Mk l c q
  ·obtain⟨a,ob,_,_,_,_,h2⟩:=R.LF h1;have h3:=h2 k;rw[hk]at h3;by_cases e:k=c.N q
   ·subst e;exact⟨R.Ib h1 (by omega) hq,λh=>F.make q h1 (h q h1 rfl) o hk⟩
   ·rw[Ξ e]at h3;exact up h3.symm
  ·by_cases h2:nt l c q
   ·have hD:=hb q (by omega) h2;obtain⟨a,ha,hr,hc⟩:=h2;obtain⟨g1,g2⟩:=R.EW ha hr hc k;by_cases hh:hidden a.Δ (c.M q) k
    ·rw[g1 hh]at hk;exact up hk
    ·rw[g2 hh]at hk;have:=F.bg q ⟨a,ha,hr,hc⟩ hD k o hk;exact⟨this.1,λ_=>this.2⟩
   ·rw[(R.UC (by omega) h1 h2).1]at hk;exact up hk
theorem gi.Ie(R:gi ih l c rs bs){p q:Nat}(hpq:p<=q)(hq:q<=l.length){k:K}(hb:∀b,p<=b->b<q->¬ nt l c b)(hk:∀j,p<=j->j<q->Mk l c j->k≠c.N j):(c.H q).get k=(c.H p).get k:=
 R.UD hpq hq (λb h1 h2 o ho hr hc=>absurd ⟨o,ho,hr,hc⟩ (hb b h1 h2)) hk
theorem Spec.move(S:Spec l c D p Hd)(R:gi ih l c rs bs)(hp:Cut l c D p)(hq:Cut l c D q):Spec l c D q Hd:=by
 have no:∀b,(p<=b/\b<q\/q<=b/\b<p)->¬ nt l c b:=λb h hb=>by
  have h1:=hp.2 b hb;have h2:=hq.2 b hb;rcases h with h | h
  ·have:=h1.1 (h2.2 h.2);omega
  ·have:=h2.1 (h1.2 h.2);omega
 have both:∀k,(∀j,(p<=j/\j<q\/q<=j/\j<p)->Mk l c j->k≠c.N j)->(c.H p).get k=(c.H q).get k:=λk hk=>by
  rcases Nat.le_total p q with h | h
  ·exact(R.Ie h hq.1 (λb h1 h2=>no b (.inl ⟨h1,h2⟩)) (λj h1 h2=>hk j (.inl ⟨h1,h2⟩))).symm
  ·exact R.Ie h hp.1 (λb h1 h2=>no b (.inr ⟨h1,h2⟩)) (λj h1 h2=>hk j (.inr ⟨h1,h2⟩))
 have ne:∀{j j'},Mk l c j->Mk l c j'->j≠j'->c.N j≠c.N j':=λh h' aR e=>aR (R.EV h h' e);refine⟨λk hk=>by rw[S.base k hk];exact both k λj _ hj=>hk j hj,λj hj hD=>?_,S.not⟩;rw[S.done j hj hD];by_cases h1:j<p
 ·rw[au h1];by_cases h2:j<q
  ·rw[au h2];exact both _ λj' h eN=>ne hj eN (by omega)
  ·rw[Ξ h2];exact R.Ie h1 hp.1 (λb h3 h4=>no b (.inr ⟨by omega,h4⟩)) (λj' h3 h4 eN=>ne hj eN (by omega))
 ·rw[Ξ h1];by_cases h2:j<q
  ·rw[au h2];exact(R.Ie h2 hq.1 (λb h3 h4=>no b (.inl ⟨by omega,h4⟩)) (λj' h3 h4 eN=>ne hj eN (by omega))).symm
  ·rw[Ξ h2]
theorem Cut.below(h:Cut l c D q):∀b,b<q->nt l c b->D b:=λb h1 h2=>(h.2 b h2).2 h1
theorem Spec.sub(S:Spec l c D q Hd)(R:gi ih l c rs bs)(F:vO l c D)(hq:Cut l c D q)(k:K)(o:O)(hk:(c.H q).get k=some o)(hD:∀j,Mk l c j->k=c.N j->j<q->D j):Hd.get k=some o:=by
 by_cases h:∃j,Mk l c j/\k=c.N j
 ·obtain⟨j,hj,e⟩:=h;by_cases ω:j<q
  ·have:=S.done j hj (hD j hj e ω);rw[au ω,←e,hk]at this;exact this
  ·have:=(F.zO R hq.1 hq.below k o hk).1;have h2:=R.mR (i:=q) (j:=j) (by omega) (fY hj.lt);rw[←e]at h2;omega
 ·rw[S.base k λj hj e=>h ⟨j,hj,e⟩];exact hk
theorem ado(R:gi ih l c rs bs)(hc:Ic l D){i:Nat}(hi:nt l c i)(hD:¬ D i){a:AO}(ha:l[i]?=some a)(sr:∀k,Nat.testBit a.Δ k=true->D k):Cut l c D i:=by
 refine⟨fY hi.lt,λb hb=>⟨λh=>?_,λh=>sr b (R.chain hb hi h ha)⟩⟩;rcases By b i with h1 | h1 | h1
 ·exact h1
 ·subst h1;exact absurd h hD
 ·obtain⟨o,ho,_⟩:=id hb;exact absurd (hc b o h ho i (R.chain hi hb h1 ho)) hD
theorem gi.UF(R:gi ih l c rs bs){i b:Nat}{a o:AO}(ha:l[i]?=some a)(hr:c.run i=true)(hc:cls a.op=.read)(ho:l[b]?=some o)(hrb:c.run b=true)(Jh:cls o.op=.kq)
 (h1:Nat.testBit a.Δ b=false)(h2:Nat.testBit o.Δ i=false){q:Nat}(hq:q=b\/q=b+1):∀n,simple a.op (c.T i) (dT (c.H q) a.Δ (c.M l.length)) n=some (c.v i,dT (c.H q) a.Δ (c.M l.length),n):=by
 have g1:=((R.step i a ha).read hr hc).2.2.2.2;have g2:=((R.step b o ho).kq hrb Jh).2.2.2;have ag:=R.BI;unfold wE at ag;rw[sF]at ag;have:=ag _ g1;rw[sF]at this;have:=this _ g2;unfold Ev.BI at this;simp only[h1,h2,Bool.false_or,bh,DJ]at this;have key:∀H:Hp,(match simple a.op (c.T i) (dT H a.Δ (c.M l.length)) .h with
  | some (v,_,_)=>cT v (c.v i)
  | none=>false)=true->∀n,simple a.op (c.T i) (dT H a.Δ (c.M l.length)) n=some (c.v i,dT H a.Δ (c.M l.length),n):=by
  intro H h n;obtain⟨x,hx⟩:=Uv (T:=c.T i) (H:=dT H a.Δ (c.M l.length)) hc;rw[hx]at h ⊢;cases x with
  | none=>cases h
  | some v=>have:=wZ h;subst this;rfl
 rcases hq with rfl | rfl
 ·exact key _ this.1
 ·exact key _ this.2
theorem adp(R:gi ih l c rs bs)(hc:Ic l D){i:Nat}{a:AO}(ha:l[i]?=some a)(hr:c.run i=true)(ju:cls a.op=.read)(hD:¬ D i)(sr:∀k,Nat.testBit a.Δ k=true->D k):
 ∃q,Cut l c D q/\∃Hs:Hp,(∀k ob,Hs.get k=some ob->(c.H q).get k=some ob/\∀j,Mk l c j->k=c.N j->j<q->D j)/\∀n,simple a.op (c.T i) Hs n=some (c.v i,Hs,n):=by
 have ω:=th ha;have LG:∀q s,q<=s->s<=l.length->∀k ob,(dT (c.H q) a.Δ (c.M s)).get k=some ob->(c.H q).get k=some ob/\∀j,Mk l c j->k=c.N j->j<q->D j:=by
  intro q s hqs hs k ob h;refine⟨QY _ _ _ _ _ h,λj hj e hjq=>sr j ?_⟩;cases hb:Nat.testBit a.Δ j with
  | true=>rfl
  | false=>
   have hh:hidden a.Δ (c.M s) k:=(R.yD hs _ _).2 ⟨j,by omega,hj,e,hb⟩;rw[(Ek _ _ _ _).1 hh]at h;cases h
 by_cases lE:Cut l c D i
 ·refine⟨i,lE,dT (c.H i) a.Δ (c.M i),LG i i (χ _) (fY ω),?_⟩;have s:=(R.step i a ha).Bh hr;rw[EU (by rw[ju];intro h;cases h)]at s;obtain⟨x,hx⟩:=Uv (T:=c.T i) (H:=dT (c.H i) a.Δ (c.M i)) ju;intro n;rw[hx]at s ⊢;obtain⟨rfl,_⟩:=Uw s;rfl
 ·have:∃b,nt l c b/\¬ (D b↔b<i):=Classical.byContradiction λh=>lE ⟨fY ω,λb hb=>Classical.byContradiction λh'=>h ⟨b,hb,h'⟩⟩;obtain⟨b,hb,hn⟩:=this;by_cases zf:D b
  ·have hbi:¬ b<i:=λh=>hn ⟨λ_=>h,λ_=>zf⟩;obtain⟨r,⟨eG,fE⟩,Bc⟩:=adk (p:=λb=>nt l c b/\D b) (N:=l.length) (λn h=>h.1.lt) ⟨b,hb,zf⟩;have xu:b<=r:=Nat.le_of_not_lt λh=>Bc b h ⟨hb,zf⟩;have hri:i≠r:=λe=>hD (e▸fE);obtain⟨o,ho,KS,Yg⟩:=id eG;refine⟨r+1,⟨eG.lt,λb' ku=>⟨λh=>Nat.lt_succ_of_le (Nat.le_of_not_lt λh'=>Bc b' h' ⟨ku,h⟩),λh=>?_⟩⟩,_,LG (r+1) l.length eG.lt (χ _),?_⟩
   ·rcases jC b' r with h1 | h1
    ·exact hc r o fE ho b' (R.chain ku eG h1 ho)
    ·have:b'=r:=by omega
     subst this;exact fE
   ·refine R.UF ha hr ju ho KS Yg ?_ ?_ (.inr U)
    ·cases hx:Nat.testBit a.Δ r with
     | false=>rfl
     | true=>have:=R.Δ i a ha r hx;omega
    ·cases hx:Nat.testBit o.Δ i with
     | false=>rfl
     | true=>exact absurd (hc r o fE ho i hx) hD
  ·have hbi:b<i:=Classical.byContradiction λh=>hn ⟨λh'=>absurd h' zf,λh'=>absurd h' h⟩;obtain⟨r,⟨eG,fE⟩,Bc⟩:=adj (p:=λb=>nt l c b/\¬ D b) ⟨b,hb,zf⟩;have xu:r<=b:=Nat.le_of_not_lt λh=>Bc b h ⟨hb,zf⟩;obtain⟨o,ho,KS,Yg⟩:=id eG;refine⟨r,⟨fY eG.lt,λb' ku=>⟨λh=>?_,λh=>Classical.byContradiction λh'=>Bc b' h ⟨ku,h'⟩⟩⟩,_,LG r l.length (fY eG.lt) (χ _),?_⟩
   ·rcases By b' r with h1 | h1 | h1
    ·exact h1
    ·subst h1;exact absurd h fE
    ·obtain⟨o',nu,_⟩:=id ku;exact absurd (hc b' o' h nu r (R.chain eG ku h1 nu)) fE
   ·refine R.UF ha hr ju ho KS Yg ?_ ?_ (.inl U)
    ·cases hx:Nat.testBit a.Δ r with
     | false=>rfl
     | true=>exact absurd (sr r hx) fE
    ·cases hx:Nat.testBit o.Δ i with
     | false=>rfl
     | true=>have:=R.Δ r o ho i hx;omega
end
end
section
def mg(D:Nat->Prop)(i:Nat):Nat->Prop:=λj=>D j\/j=i
section
variable {ih:dY}{l:List AO}{c:Canon}{rs:List Rd}{bs:List Bg}{D:Nat->Prop}{p q i:Nat}{Hd:Hp}{a:AO}
theorem LH(ha:l[i]?=some a)(h:cls a.op≠.make):¬ Mk l c i:=λ⟨o,h1,_,h2⟩=>by rw[ha]at h1;injection h1 with h1;subst h1;exact h h2
theorem LI(ha:l[i]?=some a)(h:cls a.op≠.kq):¬ nt l c i:=λ⟨o,h1,_,h2⟩=>by rw[ha]at h1;injection h1 with h1;subst h1;exact h h2
theorem adr(h:c.run i=false):¬ Mk l c i:=λ⟨o,_,h1,_⟩=>by rw[h]at h1;cases h1
theorem ads(h:c.run i=false):¬ nt l c i:=λ⟨o,_,h1,_⟩=>by rw[h]at h1;cases h1
theorem Cut.mg(h:Cut l c D p)(hb:¬ nt l c i):Cut l c (mg D i) p:=⟨h.1,λb ua=>by
 rw[←h.2 b ua];constructor
 ·rintro(h1 | h1)
  ·exact h1
  ·subst h1;exact absurd ua hb
 ·exact .inl⟩
theorem Spec.other(S:Spec l c D p Hd)(hm:¬ Mk l c i):Spec l c (Ev.mg D i) p Hd:=⟨S.base,λj hj hD=>by
 rcases hD with hD | rfl
 ·exact S.done j hj hD
 ·exact absurd hj hm,λj hj hD=>S.not j hj λh=>hD (.inl h)⟩
theorem vO.other(F:vO l c D)(hm:¬ Mk l c i)(hb:¬ nt l c i):vO l c (Ev.mg D i):=⟨F.EX,λb ua hD=>by
 rcases hD with hD | rfl
 ·exact F.bg b ua hD
 ·exact absurd ua hb,λj hj hD=>by
 rcases hD with hD | rfl
 ·exact F.make j hj hD
 ·exact absurd hj hm⟩
theorem adt(R:gi ih l c rs bs)(ju:Ic l D)(F:vO l c D)(lE:Cut l c D p)(S:Spec l c D p Hd)(ha:l[i]?=some a)(hr:c.run i=true)(hD:¬ D i)(sr:∀k,Nat.testBit a.Δ k=true->D k):
 ∃(Hs:Hp) (n:K) (tS:Hp) (n':K),oper ih a.op (c.T i) Hs n=some (c.v i,tS,n')/\(c.N i).num<=n.num/\(∀k o,Hs.get k=some o->Hd.get k=some o/\k.num<n.num/\nL n o)/\(n'=n\/(n=c.N i/\n'=c.N (i+1)))/\((∀k o,tS.get k=some o->k.num<n'.num/\nL n' o)->∃Hn:Hp,(∀k o,Hn.get k=some o->(Hd.get k=some o/\Hs.get k=none)\/tS.get k=some o)/\(∃p,Cut l c (mg D i) p/\Spec l c (mg D i) p Hn)/\vO l c (mg D i))/\(bB n' (c.v i)=true->bB (c.N (i+1)) (c.v i)=true):=by
 have ω:=th ha;have s:=R.step i a ha;have Bh:=s.Bh hr;have UG:∀(k:K) (o:O),(Tr.e:Hp).get k=some o->False:=λk o h=>by rw[Tr.gZ]at h;cases h
 cases hc:cls a.op with
 | pure=>
  obtain⟨h1,h2,h3⟩:=s.pure hr hc;have eW:oper ih a.op (c.T i) .e (c.N i)=some (c.v i,.e,c.N i):=by rw[EU (by rw[hc];intro h;cases h)]at Bh ⊢;obtain⟨x,hx⟩:=adg (T:=c.T i) hc;rw[hx]at Bh ⊢;obtain⟨rfl,_⟩:=Uw Bh;rfl
  have m1:¬ Mk l c i:=LH ha (by rw[hc];intro h;cases h);have m2:¬ nt l c i:=LI ha (by rw[hc];intro h;cases h);exact⟨.e,c.N i,.e,c.N i,eW,χ _,λk o h=>(UG k o h).elim,.inl U,λ_=>⟨Hd,λk o h=>.inl ⟨h,Tr.gZ k⟩,⟨p,lE.mg m2,S.other m1⟩,F.other m1 m2⟩,λh=>by rw[h2];exact h⟩
 | read=>
  obtain⟨h1,h2,h3,h4,h5⟩:=s.read hr hc;obtain⟨q,hq,Hs,kA,kz⟩:=adp R ju ha hr hc hD sr;have m1:¬ Mk l c i:=LH ha (by rw[hc];intro h;cases h);have m2:¬ nt l c i:=LI ha (by rw[hc];intro h;cases h);refine⟨Hs,c.N l.length,Hs,c.N l.length,?_,R.mR (fY ω) (χ _),λk o hk=>?_,.inl U,λ_=>⟨Hd,λk o h=>?_,⟨p,lE.mg m2,S.other m1⟩,F.other m1 m2⟩,λ_=>by rw[h2];exact h4⟩
  ·rw[EU (by rw[hc];intro h;cases h)];exact kz _
  ·obtain⟨g1,g2⟩:=kA k o hk;obtain⟨d1,d2⟩:=F.zO R hq.1 hq.below k o g1;have hN:=R.mR (i:=q) hq.1 (χ _);refine⟨(S.move R lE hq).sub R F hq k o g1 g2,by omega,(d2 λj hj e=>?_).mono hN⟩;rcases jC j q with h | h
   ·exact g2 j hj e h
   ·have:=R.mR (i:=q) (j:=j) h (fY hj.lt);rw[←e]at this;omega
  ·cases e:Hs.get k with
   | none=>exact .inl ⟨h,rfl⟩
   | some o'=>
    obtain⟨g1,g2⟩:=kA k o' e;have:=(S.move R lE hq).sub R F hq k o' g1 g2;rw[h]at this;injection this with this;subst this;exact .inr U
 | make=>
  have nY:Mk l c i:=⟨a,ha,hr,hc⟩;obtain⟨o',ob,nu,_,_,eW,tj⟩:=R.LF nY;rw[ha]at nu;injection nu with nu;subst nu;have m2:¬ nt l c i:=LI ha (by rw[hc];intro h;cases h);have hN:=R.UA nY;have Yh:(c.H (i+1)).get (c.N i)=some ob:=by rw[tj,au rfl]
  refine⟨.e,c.N i,(Tr.e:Hp).put (some ob) (c.N i),(c.N i).succ,?_,χ _,λk o h=>(UG k o h).elim,.inr ⟨rfl,hN.symm⟩,λhk=>⟨Hd.put (some ob) (c.N i),λk o h=>?_,⟨p,lE.mg m2,?_⟩,?_⟩,λh=>by rw[hN];exact h⟩
  ·rw[EU (by rw[hc];intro h;cases h)];exact eW _
  ·rw[Tr.fI]at h;by_cases e:k=c.N i
   ·subst e;rw[au rfl]at h;right;rw[Tr.fI,au rfl];exact h
   ·rw[Ξ e]at h;exact .inl ⟨h,Tr.gZ k⟩
  ·refine⟨λk hk=>?_,λj hj xw=>?_,λj hj xw=>?_⟩
   ·rw[Tr.G1 _ _ (hk i nY)];exact S.base k hk
   ·by_cases e:j=i
    ·subst e;rw[Tr.G0];by_cases hp:j<p
     ·rw[au hp];rw[R.UD (p:=j+1) hp lE.1 (k:=c.N j) (λb h1 h2 o ho tk zP=>?_) (λj' h1 h2 eN e=>by have:=R.EV nY eN e;omega)]
      ·exact Yh.symm
      ·refine(R.yD (fY (th ho)) _ _).2 ⟨j,by omega,nY,rfl,?_⟩;cases hb:Nat.testBit o.Δ j with
       | false=>rfl
       | true=>
        have zf:=(lE.2 b ⟨o,ho,tk,zP⟩).2 h2;exact absurd (ju b o zf ho j hb) hD
     ·rw[Ξ hp];exact Yh.symm
    ·have LJ:D j:=xw.resolve_right e;rw[Tr.G1 _ _ (λe'=>e (R.EV hj nY e'))];exact S.done j hj LJ
   ·have e:j≠i:=λe=>xw (.inr e);rw[Tr.G1 _ _ (λe'=>e (R.EV hj nY e'))];exact S.not j hj λh=>xw (.inl h)
  ·refine⟨F.EX,λb hb zf=>F.bg b hb (zf.resolve_right λe=>m2 (e▸hb)),λj hj xw o ho=>?_⟩;by_cases e:j=i
   ·subst e;rw[Yh]at ho;injection ho with ho;subst ho;have:=hk (c.N j) ob (Tr.G0 _ _ _);rw[hN];exact this.2
   ·exact F.make j hj (xw.resolve_right e) o ho
 | kq=>
  have hbg:nt l c i:=⟨a,ha,hr,hc⟩;have LK:=ado R ju hbg hD ha sr;have Si:=S.move R lE LK;obtain⟨b1,b2,b3,b4⟩:=s.kq hr hc;have m1:¬ Mk l c i:=LH ha (by rw[hc];intro h;cases h);have hle:i<=l.length:=fY ω;have LG:∀k ob,(dT (c.H i) a.Δ (c.M i)).get k=some ob->(c.H i).get k=some ob/\∀j,Mk l c j->k=c.N j->j<i->D j:=by
   intro k ob h;refine⟨QY _ _ _ _ _ h,λj hj e hjq=>sr j ?_⟩;cases hb:Nat.testBit a.Δ j with
   | true=>rfl
   | false=>
    have hh:hidden a.Δ (c.M i) k:=(R.yD hle _ _).2 ⟨j,hjq,hj,e,hb⟩;rw[(Ek _ _ _ _).1 hh]at h;cases h
  have zO:∀k ob,(dT (c.H i) a.Δ (c.M i)).get k=some ob->Hd.get k=some ob/\k.num<(c.N i).num/\nL (c.N i) ob:=by
   intro k o hk;obtain⟨g1,g2⟩:=LG k o hk;obtain⟨d1,d2⟩:=F.zO R hle LK.below k o g1;refine⟨Si.sub R F LK k o g1 g2,d1,d2 λj hj e=>?_⟩;rcases jC j i with h | h
   ·exact g2 j hj e h
   ·have:=R.mR (i:=i) (j:=j) h (fY hj.lt);rw[←e]at this;omega
  refine⟨_,c.N i,c.H' i,c.n' i,Bh,χ _,zO,.inr ⟨rfl,b2.symm⟩,λhk=>⟨back Hd (c.H' i) a.Δ (c.M l.length),λk o h=>?_,⟨i+1,⟨ω,λb hb=>?_⟩,?_⟩,?_⟩,λh=>by rw[b2];exact h⟩
  ·obtain⟨g1,g2⟩:=Ai a.Δ (c.M l.length) Hd (c.H' i) k;by_cases hh:hidden a.Δ (c.M l.length) k
   ·rw[g1 hh]at h;refine .inl ⟨h,?_⟩;obtain⟨j,hj,hm,e,hb⟩:=(R.yD (χ _) _ _).1 hh;cases hs:(dT (c.H i) a.Δ (c.M i)).get k with
    | none=>rfl
    | some o'=>
     exfalso;rcases jC j i with h1 | h1
     ·rw[(Ek _ _ _ _).1 ((R.yD hle _ _).2 ⟨j,h1,hm,e,hb⟩)]at hs;cases hs
     ·have d:=(zO k o' hs).2.1;have:=R.mR (i:=i) (j:=j) h1 (fY hm.lt);rw[←e]at this;omega
   ·rw[g2 hh]at h;exact .inr h
  ·constructor
   ·rintro(h | h)
    ·have:=(LK.2 b hb).1 h;omega
    ·omega
   ·intro h;rcases jC b i with h1 | h1
    ·exact .inl ((LK.2 b hb).2 h1)
    ·exact .inr (by omega)
  ·have notM:∀k,(∀j,Mk l c j->k≠c.N j)->∀q,q<=l.length->¬ hidden a.Δ (c.M q) k:=λk hk q hq h=>by
    obtain⟨j,_,hm,e,_⟩:=(R.yD hq _ _).1 h;exact hk j hm e
   have EY:∀j q,Mk l c j->q<=l.length->(hidden a.Δ (c.M q) (c.N j)↔j<q/\Nat.testBit a.Δ j=false):=λj q hj hq=>by
    rw[R.yD hq];constructor
    ·rintro⟨j',h1,h2,h3,h4⟩;have:=R.EV hj h2 h3;subst this;exact⟨h1,h4⟩
    ·rintro⟨h1,h2⟩;exact⟨j,h1,hj,rfl,h2⟩
   refine⟨λk hk=>?_,λj hj xw=>?_,λj hj xw=>?_⟩
   ·rw[(Ai a.Δ (c.M l.length) Hd (c.H' i) k).2 (notM k hk _ (χ _)),(R.EW ha hr hc k).2 (notM k hk i hle)]
   ·have aR:j≠i:=λe=>m1 (e▸hj);have LJ:D j:=xw.resolve_right aR;cases hb:Nat.testBit a.Δ j with
    | true=>
     have Ji:=R.Δ i a ha j hb;rw[(Ai a.Δ (c.M l.length) Hd (c.H' i) _).2 (λh=>by have:=((EY j _ hj (χ _)).1 h).2;rw[hb]at this;cases this),au (by omega),(R.EW ha hr hc _).2 (λh=>by have:=((EY j _ hj hle).1 h).2;rw[hb]at this;cases this)]
    | false=>
     rw[(Ai a.Δ (c.M l.length) Hd (c.H' i) _).1 ((EY j _ hj (χ _)).2 ⟨hj.lt,hb⟩),Si.done j hj LJ];by_cases h1:j<i
     ·rw[au h1,au (by omega)];rw[(R.EW ha hr hc _).1 ((EY j _ hj hle).2 ⟨h1,hb⟩)]
     ·rw[Ξ h1,Ξ (by omega)]
   ·have hb:Nat.testBit a.Δ j=false:=by
     cases hb:Nat.testBit a.Δ j with
     | false=>rfl
     | true=>exact absurd (.inl (sr j hb)) xw
    rw[(Ai a.Δ (c.M l.length) Hd (c.H' i) _).1 ((EY j _ hj (χ _)).2 ⟨hj.lt,hb⟩)];exact S.not j hj λh=>xw (.inl h)
  ·refine⟨F.EX,λb hb zf k o ho=>?_,λj hj xw=>F.make j hj (xw.resolve_right λe=>m1 (e▸hj))⟩;by_cases e:b=i
   ·subst e;rw[b2];exact hk k o ho
   ·exact F.bg b hb (zf.resolve_right e) k o ho
end
end
section
def xa(T:Tr V):List K->Tr V
 | []=>.e
 | k::l=>(xa T l).put (T.get k) k
theorem LL(T:Tr V)(l:List K)(k:K):(xa T l).get k=if k∈l then T.get k else none:=by
 induction l with
 | nil=>simp[xa,Tr.gZ]
 | cons a l ih=>
  simp only[xa,Tr.fI,ih,fX];by_cases e:k=a
  ·subst e;simp
  ·simp[e]
structure Inv(ty:Ty)(l:List AO)(c:Canon)(η0:Env)(w0:World)(sz:Nat)(D:Nat->Prop)(η:Env)(Hd:Hp)(w:World)(tmps:Array Value):Prop where
 lim:∀j,D j->j<l.length
 closed:Ic l D
 cut:∃p,Cut l c D p/\Spec l c D p Hd
 facts:vO l c D
 rep:Hu (WW ty) η Hd w
 names:∀k L,η k=some L->k.num<(c.N 0).num\/∃j,D j/\(c.N j).num<=k.num/\k.num<(c.N (j+1)).num
 ext:η0.le η
 dR:∀k,k.num<(c.N 0).num->η k=η0 k
 kept:Kept (nc η0 (c.H 0) true) w0 w
 kZ:∀m b,nc η Hd m b->nc η0 (c.H 0) m b\/w0.heap.size<=b
 size:tmps.size=sz
 below:∀j,D j->bB (c.N (j+1)) (c.v j)=true
 UH:∀t v,(c.T 0).get (cz t)=some v->bB (c.N 0) v=true
 s1:∀j o t,D j->l[j]?=some o->o.dst=some (cz t)->∃y,tmps[t]?=some y/\al η (c.v j) y
 s0:∀t v,(c.T 0).get (cz t)=some v->(∀j o,D j->l[j]?=some o->o.dst≠some (cz t))->∃y,tmps[t]?=some y/\al η v y
section
variable {P:Program}{ty:Ty}{C:Nat->Option bN}{ih:dY}{l:List AO}{c:Canon}{rs:List Rd}{bs:List Bg}{D:Nat->Prop}{p q i:Nat}{Hd:Hp}{a:AO}{η0 η:Env}{w0 w:World}{sz:Nat}{tmps:Array Value}
theorem Inv.free(I:Inv ty l c η0 w0 sz D η Hd w tmps)(R:gi ih l c rs bs)(ω:i<l.length)(hD:¬ D i){n n':K}(hn:n'=n\/(n=c.N i/\n'=c.N (i+1)))(k:K)(h1:n.num<=k.num)(h2:k.num<n'.num):η k=none:=by
 rcases hn with rfl | ⟨rfl,rfl⟩
 ·omega
 ·cases e:η k with
  | none=>rfl
  | some L=>
   exfalso;rcases I.names k L e with h | ⟨j,hj,h3,h4⟩
   ·have:=R.mR (i:=0) (j:=i) (by omega) (by omega);omega
   ·rcases By j i with h | h | h
    ·have:=R.mR (i:=j+1) (j:=i) (by omega) (by omega);omega
    ·subst h;exact hD hj
    ·have:=R.mR (i:=i+1) (j:=j) (by omega) (fY (I.lim j hj));omega
theorem Inv.next(I:Inv ty l c η0 w0 sz D η Hd w tmps)(R:gi ih l c rs bs)(ha:l[i]?=some a)(hD:¬ D i)(sr:∀k,Nat.testBit a.Δ k=true->D k){dst:Option Nat}(hd:a.dst=dst.map cz)(eF:∀d,dst=some d->d<sz)
 {Hs tS Hn:Hp}{n n':K}{η1:Env}{w1:World}{y:Value}(ht:Trans (WW ty) (cI η n) Hs n w η1 tS n' w1)(jT:∀k o,Hs.get k=some o->Hd.get k=some o)(hn:n'=n\/(n=c.N i/\n'=c.N (i+1)))
 (Ge:∀k o,Hn.get k=some o->(Hd.get k=some o/\Hs.get k=none)\/tS.get k=some o)(jQ:∃p,Cut l c (mg D i) p/\Spec l c (mg D i) p Hn)(F:vO l c (mg D i))
 (hy:al (merge η η1 n n') (c.v i) y)(hb:bB (c.N (i+1)) (c.v i)=true):Inv ty l c η0 w0 sz (mg D i) (merge η η1 n n') Hn w1 (jH dst y tmps):=by
 have ω:=th ha;have hf:=I.free R ω hD hn;obtain⟨g1,g2,g3⟩:=ack I.rep jT hf ht Ge;have hle:=merge_le (η1:=η1) hf;have other:∀j o t,D j->l[j]?=some o->o.dst=some (cz t)->dst≠some t:=λj o t hj ho qj e=>by
  have:a.dst=some (cz t):=by rw[hd,e];rfl
  exact hD (R.adm ho ha qj this▸hj)
 have UI:∀t,dst≠some t->(jH dst y tmps)[t]?=tmps[t]?:=λt h=>by
  cases dst with
  | none=>rfl
  | some d=>simp only[jH];rw[gB,Ξ (λe=>h (by rw[e]))]
 refine⟨λj hj=>?_,λj o hj ho k hk=>?_,jQ,F,g1,λk L hk=>?_,I.ext.trans hle,λk hk=>?_,?_,λm b hb=>?_,by rw[Ec];exact I.size,λj hj=>?_,I.UH,λj o t hj ho qj=>?_,λt v hv hU=>?_⟩
 ·rcases hj with hj | rfl
  ·exact I.lim j hj
  ·exact ω
 ·rcases hj with hj | rfl
  ·exact .inl (I.closed j o hj ho k hk)
  ·rw[ha]at ho;injection ho with ho;subst ho;exact .inl (sr k hk)
 ·by_cases hr:n.num<=k.num/\k.num<n'.num
  ·rcases hn with rfl | ⟨rfl,rfl⟩
   ·omega
   ·exact .inr ⟨i,.inr U,hr.1,hr.2⟩
  ·unfold merge at hk;rw[Ξ hr]at hk;rcases I.names k L hk with h | ⟨j,h1,h2⟩
   ·exact .inl h
   ·exact .inr ⟨j,.inl h1,h2⟩
 ·unfold merge;rw[Ξ,I.dR k hk];rintro⟨h1,h2⟩;rcases hn with rfl | ⟨rfl,rfl⟩
  ·omega
  ·have:=R.mR (i:=0) (j:=i) (by omega) (by omega);omega
 ·refine⟨g2.os.trans I.kept.os,g2.tape.trans I.kept.tape,g2.output.trans I.kept.output,iH I.kept.size g2.size,λb hb hF=>?_,λb r hb=>let⟨r',h⟩:=I.kept.loops b r hb;g2.loops b r' h⟩;rw[g2.block b (fk hb I.kept.size) λJ7=>?_,I.kept.block b hb hF];rcases I.kZ _ _ J7 with h | h
  ·exact hF h
  ·omega
 ·rcases g3 m b hb with h | h
  ·exact I.kZ m b h
  ·exact .inr (iH I.kept.size h)
 ·rcases hj with hj | rfl
  ·exact I.below j hj
  ·exact hb
 ·rcases hj with hj | rfl
  ·obtain⟨x,h1,h2⟩:=I.s1 j o t hj ho qj;exact⟨x,by rw[UI t (other j o t hj ho qj)];exact h1,h2.mono hle⟩
  ·rw[ha]at ho;injection ho with ho;subst ho;cases dst with
   | none=>rw[hd]at qj;cases qj
   | some d=>
    rw[hd]at qj;have hdt:d=t:=GZ (by injection qj);subst hdt;refine⟨y,?_,hy⟩;simp only[jH,gB];rw[au trivial,au (by rw[I.size];exact eF d rfl)]
 ·have aR:dst≠some t:=λe=>hU i a (.inr U) ha (by rw[hd,e];rfl);obtain⟨x,h1,h2⟩:=I.s0 t v hv λj o hj ho=>hU j o (.inl hj) ho;exact⟨x,by rw[UI t aR];exact h1,h2.mono hle⟩
theorem Inv.jD(I:Inv ty l c η0 w0 sz D η Hd w tmps)(R:gi ih l c rs bs)(ha:l[i]?=some a)(hD:¬ D i)(sr:∀k,Nat.testBit a.Δ k=true->D k):aW (cI η (c.N i)) (xa (c.T i) a.looks) tmps:=by
 intro t v hv;rw[LL]at hv;by_cases hl:cz t∈a.looks
 ·rw[au hl]at hv;have ω:=th ha;rcases R.UE (fY ω) (cz t) with ⟨j,o,h1,h2,h3,h4⟩ | ⟨h1,h2⟩
  ·rw[hv]at h4;injection h4 with h4;subst h4;rcases R.looks ha h2 h3 hl with h | h | h
   ·obtain⟨y,g1,g2⟩:=I.s1 j o t (sr j h) h2 h3;exact⟨y,g1,g2.cI (bB.mono (R.mR h1 (fY ω)) _ (I.below j (sr j h)))⟩
   ·have:=R.Δ j o h2 i h;omega
   ·omega
  ·rw[hv]at h2;obtain⟨y,g1,g2⟩:=I.s0 t v h2.symm λj o hj ho qj=>by
    rcases R.looks ha ho qj hl with h | h | h
    ·exact h1 j o (R.Δ i a ha j h) ho qj
    ·exact hD (I.closed j o hj ho i h)
    ·subst h;exact hD hj
   exact⟨y,g1,g2.cI (bB.mono (R.mR (uw i) (fY ω)) _ (I.UH t v h2.symm))⟩
 ·rw[Ξ hl]at hv;cases hv
theorem adv{T:Tr V}{a:AO}{x:ax}(hx:x∈a.op.eU):aq T x=aq (xa T a.looks) x:=by
 cases x with
 | c v=>rfl
 | t k=>
  have:k∈Ev.looks a.op.eU:=by
   generalize a.op.eU=xs at hx
   induction xs with
   | nil=>cases hx
   | cons y xs jN=>
    rcases fX.1 hx with h | h
    ·subst h;simp[Ev.looks]
    ·cases y with
     | t q=>simp only[Ev.looks,fX];exact .inr (jN h)
     | c v=>simp only[Ev.looks];exact jN h
  simp only[aq,LL];rw[au];unfold AO.looks;exact Bx _ this
theorem adw{T:Tr V}{a:AO}:want a.guard (xa T a.looks)=want a.guard T:=by
 cases h:a.guard with
 | none=>rfl
 | some p=>
  obtain⟨k,b⟩:=p;simp only[want,LL];rw[au];unfold AO.looks;rw[h];simp
theorem UJ(η:Env)(n:K)(k:K)(h:n.num<=k.num):cI η n k=none:=by unfold cI;rw[Ξ (by omega)]
theorem Inv.sub(I:Inv ty l c η0 w0 sz D η Hd w tmps){Hs:Hp}{n:K}(h:∀k o,Hs.get k=some o->Hd.get k=some o/\k.num<n.num/\nL n o):bk (WW ty) (cI η n) Hs n w:=by
 refine⟨λk o hk=>?_,λk k' o o' L L' aR hk hm gJ hL iZ=>?_,UJ η n⟩
 ·obtain⟨h1,h2,h3⟩:=h k o hk;obtain⟨L,g1,g2,g3⟩:=I.rep.obj k o h1;exact⟨L,qy g1 h2,g2,g3.cI h3⟩
 ·exact I.rep.sep k k' o o' L L' aR (h k o hk).1 hm (h k' o' gJ).1 (Ae _ _ _ _ hL) (Ae _ _ _ _ iZ)
theorem Inv.eB(I:Inv ty l c η0 w0 sz D η Hd w tmps)(hG:ch η0 ty.g)(hf:∀k,(c.N 0).num<=k.num->η0 k=none){n:K}(hn:(c.N 0).num<=n.num):ch (cI η n) ty.g:=λg hg=>by
 obtain⟨L,h1,h2⟩:=hG g hg;refine⟨L,qy (I.ext _ _ h1) ?_,h2⟩;rcases jC (cz g).num (c.N 0).num with h | h
 ·omega
 ·rw[hf _ h]at h1;cases h1
theorem Inv.step(hC:Good P ty C)(eO:lY P ty ih)(R:gi ih l c rs bs){fr:Frame}{cs:List Frame}{ops:Array Oper}{rest:List Nat}{k:List Item}{ds:List Deferred}(hm:fr.mode=.run)
 (I:Inv ty l c η0 w0 sz D η Hd w tmps)(hG:ch η0 ty.g)(hf:∀k,(c.N 0).num<=k.num->η0 k=none){o:Oper}(ho:ops[i]?=some o){Δ:Nat}(ha:l[i]?=some (jE ty ops o Δ))(eF:∀d,o.dst=some d->d<sz)
 (hD:¬ D i)(sr:∀k,Nat.testBit Δ k=true->D k):
 ∃η' Oq w' eb,Inv ty l c η0 w0 sz (mg D i) η' Oq w' eb/\Steps P (lone (put fr tmps ds (.inRegion ops (i::rest)::k)) cs w) (lone (put fr eb ds (.inRegion ops rest::k)) cs w'):=by
 have st:=R.step i _ ha;have ω:=th ha;have Yd:∃g,xY ops o.guard=some g/\(jE ty ops o Δ)={ dst:=o.dst.map cz,op:=(dZ ty o.op).getD .bad,guard:=g,Δ:=Δ}:=by
  cases hg:xY ops o.guard with
  | some g=>exact⟨g,rfl,by simp[jE,hg]⟩
  | none=>
   exfalso;have e:jE ty ops o Δ={ dst:=none,op:=.bad,guard:=none,Δ:=Δ}:=by simp[jE,hg]
   have hw:=st.want;rw[e]at hw;simp only[want,p7]at hw;have:=st.Bh hw.symm;rw[e]at this;simp only[oper,eC,simple]at this;cases this
 obtain⟨g,hg,zP⟩:=Yd;have Ig:∀k,Nat.testBit (jE ty ops o Δ).Δ k=true->D k:=λk hk=>sr k (by rw[zP]at hk;exact hk);have hT:=I.jD R ha hD Ig;have wP:∀b,c.run i=b->Region.wanted o (yielded ops tmps)=b:=λb hb=>by have h:=st.want;rw[←adw (T:=c.T i),hb,zP]at h;rw[zP]at hT;exact KF hT hg h
 have UK:(jE ty ops o Δ).dst=o.dst.map cz:=by rw[zP]
 cases hr:c.run i with
 | false=>
  obtain⟨p,h1,h2⟩:=I.cut;have m1:=adr (l:=l) hr;have m2:=ads (l:=l) hr;have hv:=(st.not hr).1;have ht:Trans (WW ty) (cI η (c.N i)) .e (c.N i) w (cI η (c.N i)) .e (c.N i) w:=.refl (I.sub λk o h=>by rw[Tr.gZ]at h;cases h);have:=I.next R ha hD Ig UK eF ht (λk o h=>by rw[Tr.gZ]at h;cases h) (.inl U) (Hn:=Hd) (λk o h=>.inl ⟨h,Tr.gZ k⟩) ⟨p,h1.mg m2,h2.other m1⟩ (I.facts.other m1 m2) (y:=undef) (by rw[hv];exact KE _) (by rw[hv];rfl);exact⟨_,_,_,_,this,.one (QN hm ho (wP false hr))⟩
 | true=>
  obtain⟨p,lE,hS⟩:=I.cut;obtain⟨Hs,n,tS,n',h1,h2,h3,h4,h5,h6⟩:=adt R I.closed I.facts lE hS ha hr hD Ig;have Ot:=R.mR (uw i) (fY ω);have KQ:aW (cI η n) (xa (c.T i) (jE ty ops o Δ).looks) tmps:=hT.mono (acj η h2);have eW:oper ih (jE ty ops o Δ).op (xa (c.T i) (jE ty ops o Δ).looks) Hs n=some (c.v i,tS,n'):=by rw[←h1];exact(adi λx hx=>adv hx).symm
  cases rC:dZ ty o.op with
  | none=>rw[zP,rC]at h1;simp only[Option.getD_none,oper,eC,simple]at h1;cases h1
  | some A=>
   have hA:(jE ty ops o Δ).op=A:=by rw[zP,rC];rfl
   rw[hA]at eW;obtain⟨η1,v',w1,g1,g2,g3⟩:=QM hC eO KQ (I.eB hG hf (iH Ot h2)) (I.sub h3) rC eW (put fr tmps ds (.inRegion ops (i::rest)::k)) cs;obtain⟨Hn,q1,q2,q3⟩:=h5 λk ob hk=>⟨g1.rep.zO hk,let⟨L,_,_,q⟩:=g1.rep.obj k ob hk;q.below g1.rep.free⟩;have Ei:η1.le (merge η η1 n n'):=by have h:=Ae (merge η η1 n n') n';rw[QX g1]at h;exact h
   have:=I.next R ha hD Ig UK eF g1 (λk o h=>(h3 k o h).1) h4 q1 q2 q3 (g2.mono Ei) (h6 (g2.mf g1.rep.free));refine⟨_,_,_,_,this,?_⟩;have oX:∀c,o.op≠.defer c:=λc e=>by rw[e]at rC;cases rC
   have dJ:=Eb (P:=P) (cs:=cs) (w:=w) (fr:=put fr tmps ds (.inRegion ops (i::rest)::k)) hm rfl ho (wP true hr) oX;rw[eval_put]at dJ;have kA:=Hk dJ (λ_ _ _ _ h=>by cases h) g3;rw[Hj,ho]at kA;exact kA
end
end
section
section adx
variable {ty:Ty}{ops:Array Oper}
theorem ady:∀(os:List Oper) (eh:List Nat) (j:Nat),(eD ty ops os eh)[j]?=(os[j]?).map λo=>jE ty ops o ((eh[j]?).getD 0):=by
 intro os
 induction os with
 | nil=>intro eh j;cases eh<;>simp[eD]
 | cons o os ih=>
  intro eh j;cases eh with
  | nil=>
   cases j with
   | zero=>simp[eD]
   | succ j=>simp only[eD,rf,ih];simp
  | cons a eh=>
   cases j with
   | zero=>simp[eD]
   | succ j=>simp only[eD,rf,ih]
theorem LM(o:Oper)(Δ:Nat):(jE ty ops o Δ).Δ=Δ:=by unfold jE;split<;>rfl
theorem adz(eh:List Nat)(es:List Edge)(k:Nat):Nat.testBit (xZ eh es) k=true↔∃e∈es,Region.binds .any e=true/\(k=e.on\/Nat.testBit ((nth eh e.on).getD 0) k=true):=by
 induction es with
 | nil=>simp[xZ]
 | cons e es ih=>
  simp only[xZ,fX,iD];by_cases hb:Region.binds .any e=true
  ·rw[au hb];show Nat.testBit ((2 ^ e.on ||| (nth eh e.on).getD 0) ||| xZ eh es) k=true↔_;rw[Nat.testBit_or,Nat.testBit_or,Nat.testBit_two_pow,qa,qa,ih,bA];constructor
   ·rintro((h | h) | ⟨e',h1,h2⟩)
    ·exact⟨e,.inl U,hb,.inl h.symm⟩
    ·exact⟨e,.inl U,hb,.inr h⟩
    ·exact⟨e',.inr h1,h2⟩
   ·rintro⟨e',h1 | h1,h2,h3⟩
    ·subst h1;rcases h3 with h3 | h3
     ·exact .inl (.inl h3.symm)
     ·exact .inl (.inr h3)
    ·exact .inr ⟨e',h1,h2,h3⟩
  ·rw[Ξ hb,ih];constructor
   ·rintro⟨e',h1,h2⟩;exact⟨e',.inr h1,h2⟩
   ·rintro⟨e',h1 | h1,h2,h3⟩
    ·subst h1;exact absurd h2 hb
    ·exact⟨e',h1,h2,h3⟩
theorem adA{i:Nat}:∀{es:List Edge},DN i es=true->∀e∈es,Region.binds .any e=true->e.on<i:=by
 intro es
 induction es with
 | nil=>intro _ e h;cases h
 | cons a es ih=>
  intro h e he hb;simp only[DN,bh,qa,xM]at h;rcases fX.1 he with rfl | he
  ·rcases h.1 with h1 | h1
   ·rw[hb]at h1;cases h1
   ·simpa[fJ]using h1
  ·exact ih h.2 e he hb
theorem adB{i:Nat}{a:AO}:∀{l:List AO},GX i a l=true->∀b∈l,zL i a b=true/\BM a b=true:=by
 intro l
 induction l with
 | nil=>intro _ b h;cases h
 | cons c l ih=>
  intro h b hb;simp only[GX,bh]at h;rcases fX.1 hb with rfl | hb
  ·exact h.1
  ·exact ih h.2 b hb
theorem LN{eh:List Nat}:∀{os:List Oper} {l:List AO} {i:Nat},ya eh i os l=true->∀(j:Nat) (o:Oper) (a:AO),os[j]?=some o->l[j]?=some a->a.Δ=xZ eh o.after.toList/\DN (i+j) o.after.toList=true/\∀(j':Nat) (b:AO),j<j'->l[j']?=some b->zL (i+j) a b=true/\BM a b=true:=by
 intro os
 induction os with
 | nil=>intro l i h j o a ho;simp at ho
 | cons o os ih=>
  intro l i h j o' a ho ha;cases l with
  | nil=>simp at ha
  | cons b l=>
   simp only[ya,bh]at h;obtain⟨⟨⟨h1,h2⟩,h3⟩,h4⟩:=h;cases j with
   | zero=>
    simp only[xH,p7]at ho ha;subst ho;subst ha;refine⟨cL h1,h2,λj' c hj hc=>?_⟩;cases j' with
    | zero=>omega
    | succ j'=>
     simp only[rf]at hc;exact adB h3 c (List.mem_of_getElem? hc)
   | succ j=>
    simp only[rf]at ho ha;have:=ih h4 j o' a ho ha;rw[show Nat.succ i+j=i+(j+1) by omega]at this;refine⟨this.1,this.2.1,λj' c hj hc=>?_⟩;cases j' with
    | zero=>omega
    | succ j'=>
     simp only[rf]at hc;exact this.2.2 j' c (by omega) hc
theorem UL{p p':Nat->Bool}:∀{L:List Nat},(∀x,p' x=true->p x=true)->∀{i:Nat},i∈L->p i=true->p' i=false->L.countP p'<L.countP p:=by
 intro L
 induction L with
 | nil=>intro _ i h;cases h
 | cons a L ih=>
  intro Yi i hi h1 h2;have aum:L.countP p'<=L.countP p:=List.countP_mono_left λx _=>Yi x;rw[List.countP_cons,List.countP_cons];rcases fX.1 hi with e | hi
  ·subst e;rw[au h1,Ξ (by simp[h2])];omega
  ·have:=ih Yi hi h1 h2;by_cases KB:p' a=true
   ·rw[au KB,au (Yi a KB)];omega
   ·rw[Ξ KB];split<;>omega
end adx
section
variable {P:Program}{ty:Ty}{C:Nat->Option bN}{ih:dY}{c:Canon}{rs:List Rd}{bs:List Bg}{η0 η:Env}{w0 w:World}{sz:Nat}{tmps:Array Value}{ops:Array Oper}{Hd:Hp}
structure Ih(ty:Ty)(ops:Array Oper)(eh:List Nat)(l:List AO):Prop where
 len:l.length=ops.size
 get:∀(j:Nat) (o:Oper),ops[j]?=some o->l[j]?=some (jE ty ops o ((eh[j]?).getD 0))
 bit:∀(j:Nat) (o:Oper) (k:Nat),ops[j]?=some o->(Nat.testBit ((eh[j]?).getD 0) k=true↔∃e∈o.after,Region.binds .any e=true/\(k=e.on\/Nat.testBit ((eh[e.on]?).getD 0) k=true))
 low:∀(j:Nat) (o:Oper) (e:Edge),ops[j]?=some o->e∈o.after->Region.binds .any e=true->e.on<j
theorem adC{eh:List Nat}(h:ya eh 0 ops.toList (eD ty ops ops.toList eh)=true):Ih ty ops eh (eD ty ops ops.toList eh):=by
 have get:∀(j:Nat) (o:Oper),ops[j]?=some o->(eD ty ops ops.toList eh)[j]?=some (jE ty ops o ((eh[j]?).getD 0)):=λj o ho=>by
  have e:ops.toList[j]?=some o:=by rw[nE];exact ho
  rw[ady,e];rfl
 have len:(eD ty ops ops.toList eh).length=ops.size:=by
  have key:∀(os:List Oper) (eh:List Nat),(eD ty ops os eh).length=os.length:=by
   intro os
   induction os with
   | nil=>intro eh;cases eh<;>rfl
   | cons o os ih=>intro eh;cases eh<;>simp[eD,ih]
  rw[key];simp
 refine⟨len,get,λj o k ho=>?_,λj o e ho he hb=>?_⟩
 ·obtain⟨h1,_,_⟩:=LN h j o _ (by rw[nE];exact ho) (get j o ho);rw[LM]at h1;rw[h1,adz];simp only[pr,Array.mem_toList_iff]
 ·obtain⟨_,h2,_⟩:=LN h j o _ (by rw[nE];exact ho) (get j o ho);have:=adA h2 e (by simpa using he) hb;omega
theorem Ih.Δ{eh:List Nat}{l:List AO}(E:Ih ty ops eh l)(j:Nat):∀o,ops[j]?=some o->∀k,Nat.testBit ((eh[j]?).getD 0) k=true->k<j:=by
 induction j using Nat.strongRecOn with
 | ind j ih=>
  intro o ho k hk;obtain⟨e,he,hb,h⟩:=(E.bit j o k ho).1 hk;have tn:=E.low j o e ho he hb;rcases h with rfl | h
  ·exact tn
  ·have hj:=(oh.1 ho).1;have nu:ops[e.on]?=some ops[e.on]:=nz (by omega);have:=ih e.on tn _ nu k h;omega
theorem adD{eh:List Nat}{l:List AO}(hC:Good P ty C)(eO:lY P ty ih)(R:gi ih l c rs bs)(E:Ih ty ops eh l){fr:Frame}{cs:List Frame}{k:List Item}{ds:List Deferred}(hm:fr.mode=.run)
 (hG:ch η0 ty.g)(hf:∀k,(c.N 0).num<=k.num->η0 k=none)(eF:∀(i:Nat) (o:Oper),ops[i]?=some o->∀d,o.dst=some d->d<sz):
 ∀(fuel t:Nat) (listed:Array Bool) (η:Env) (Hd:Hp) (w:World) (tmps:Array Value),listed.size=ops.size->Inv ty l c η0 w0 sz (λj=>listed[j]?=some true) η Hd w tmps->(List.range ops.size).countP (λj=>listed[j]?!=some true)<=fuel->∃η' Oq w' eb,Inv ty l c η0 w0 sz (λj=>j<ops.size) η' Oq w' eb/\Steps P (lone (put fr tmps ds (.inRegion ops (Region.linearise.go .any ops fuel t listed [])::k)) cs w) (lone (put fr eb ds (.inRegion ops []::k)) cs w'):=by
 intro fuel;have done:∀(listed:Array Bool),listed.size=ops.size->(∀j,j<ops.size->listed[j]?=some true)->(λj=>listed[j]?=some true)=(λj=>j<ops.size):=by
  intro listed hs h;funext j;apply propext;constructor
  ·intro hj;rw[←hs];exact(oh.1 hj).1
  ·exact h j
 induction fuel with
 | zero=>
  intro t listed η Hd w tmps Ou I adE;have all:∀j,j<ops.size->listed[j]?=some true:=λj hj=>by
   have h0:(List.range ops.size).countP (λj=>listed[j]?!=some true)=0:=by omega
   rw[List.countP_eq_zero]at h0;have:=h0 j (List.mem_range.2 hj);simpa using this
  rw[done listed Ou all]at I;exact⟨η,Hd,w,tmps,I,.refl _ _⟩
 | succ fuel jN=>
  intro t listed η Hd w tmps Ou I adE;simp only[Region.linearise.go];change ∃η' Oq w' eb,_/\Steps P (lone (put fr tmps ds (.inRegion ops (match (Region.ready .any ops listed)[t % (Region.ready .any ops listed).length]? with
   | some i=>Region.linearise.go .any ops fuel (t / (Region.ready .any ops listed).length) (listed.setIfInBounds i true) [i]
   | none=>[].reverse)::k)) cs w) _
  cases hi:(Region.ready .any ops listed)[t % (Region.ready .any ops listed).length]? with
  | none=>
   have adF:Region.ready .any ops listed=[]:=by
    cases hr:Region.ready .any ops listed with
    | nil=>rfl
    | cons x xs=>
     rw[hr]at hi;have ω:t % (x::xs).length<(x::xs).length:=lS _ (by simp);rw[List.getElem?_eq_none_iff]at hi;omega
   have all:∀j,j<ops.size->listed[j]?=some true:=by
    intro j
    induction j using Nat.strongRecOn with
    | ind j ihj=>
     intro hj;have C6:j<listed.size:=by omega
     have e:listed[j]?=some listed[j]:=nz C6;cases hv:listed[j] with
     | true=>rw[e,hv]
     | false=>
      exfalso;have:j∈Region.ready .any ops listed:=by rw[mem_ready];refine⟨by simp[xF,e,hv],ops[j],nz hj,λed he hb=>?_⟩;have tn:=E.low j _ ed (nz hj) he hb;have:=ihj ed.on tn (by omega);simp[xF,this]
      rw[adF]at this;cases this
   rw[done listed Ou all]at I;exact⟨η,Hd,w,tmps,I,.refl _ _⟩
  | some i=>
   simp only[];rw[linearise_go_acc,List.reverse_singleton,List.singleton_append];obtain⟨hun,o,ho,jc⟩:=mem_ready.1 (List.mem_of_getElem? hi);have hio:i<ops.size:=(oh.1 ho).1;have oK:i<listed.size:=by omega
   have hD:¬ (listed[i]?=some true):=λh=>by simp[xF,h]at hun
   have hon:∀e∈o.after,Region.binds .any e=true->listed[e.on]?=some true:=λe he hb=>by
    have:=jc e he hb;rw[xF]at this;cases h:listed[e.on]? with
    | none=>rw[h]at this;cases this
    | some x=>rw[h]at this;simp at this;rw[this]
   have sr:∀q,Nat.testBit ((eh[i]?).getD 0) q=true->listed[q]?=some true:=λq hq=>by
    obtain⟨e,he,hb,h⟩:=(E.bit i o q ho).1 hq;have h1:=hon e he hb;rcases h with rfl | h
    ·exact h1
    ·have tn:=E.low i o e ho he hb;have:=I.closed e.on _ h1 (E.get e.on _ (nz (by omega))) q (by rw[LM];exact h);exact this
   obtain⟨η1,Yj,w1,LO,I1,s1⟩:=I.step hC eO R (cs:=cs) (rest:=Region.linearise.go .any ops fuel (t / (Region.ready .any ops listed).length) (listed.setIfInBounds i true) []) (k:=k) (ds:=ds) hm hG hf ho (E.get i o ho) (eF i o ho) hD sr;have hDe:(mg (λj=>listed[j]?=some true) i) = λj=>(listed.setIfInBounds i true)[j]?=some true:=by
    funext j;apply propext;rw[gB];unfold mg;by_cases e:i=j
    ·subst e;simp[oK]
    ·rw[Ξ e];constructor
     ·rintro(h | h)
      ·exact h
      ·exact absurd h.symm e
     ·exact .inl
   rw[hDe]at I1;have hc:(List.range ops.size).countP (λj=>(listed.setIfInBounds i true)[j]?!=some true)<(List.range ops.size).countP (λj=>listed[j]?!=some true):=by
    refine UL (λx hx=>?_) (List.mem_range.2 hio) ?_ ?_
    ·rw[gB]at hx;by_cases e:i=x
     ·subst e;simp[oK]at hx
     ·rw[Ξ e]at hx;exact hx
    ·simpa using hD
    ·simp[gB,oK]
   obtain⟨η2,Hd2,w2,Ed,I2,s2⟩:=jN (t / (Region.ready .any ops listed).length) (listed.setIfInBounds i true) η1 Yj w1 LO (by simp[Ou]) I1 (by omega);exact⟨η2,Hd2,w2,Ed,I2,Steps.trans s1 s2⟩
theorem LP{N:Nat}:∀{l:List Oper},iK N l=true->∀o∈l,∀d,o.dst=some d->d<N:=by
 intro l
 induction l with
 | nil=>intro _ o h;cases h
 | cons p l kR=>
  intro h o hm d C1;simp only[iK,bh]at h;rcases fX.1 hm with rfl | hm
  ·rw[C1]at h;have:=h.1;simp only[fJ,bA]at this;exact this
  ·exact kR h.2 o hm d C1
theorem adG(hC:Good P ty C)(eO:lY P ty ih)(hu:wX ih)(id:Nat)(ops:Array Oper)(T:Tr V)(H:Hp)(n:K)(r:R)(hd:ya (Region.before ops).toList 0 ops.toList (eD ty ops ops.toList (Region.before ops).toList)=true)
 (hr:bD (λ_=>none) ih (.code (.regd (eD ty ops ops.toList (Region.before ops).toList)) T) H n=some r)(η:Env)(w:World)(fr:Frame)(cs:List Frame)(k:List Item)(hw:within fr.tmps.size (.region id ops true)=true)
 (hT:aW η T fr.tmps)(hG:ch η ty.g)(hH:bk (WW ty) η H n w)(hm:fr.mode=.run)(hl:kI fr w):
 ∃η' tmps ds w',Trans (WW ty) η H n w η' r.H r.n w'/\tmps.size=fr.tmps.size/\aW η' r.T tmps/\Marks w.heap.size η' r.H w' ds fr.defers/\jn P η' (lone (put fr fr.tmps fr.defers (.code (.region id ops true)::k)) cs w) fr cs k r.ex tmps ds w':=by
 simp only[bD]at hr;have E:=adC (ty:=ty) hd;obtain⟨hex,c,rs,bs,_,_,c1,c2,c3,c4,c5,c6,c7,c8,c9⟩:=acm _ _ _ _ _ _ _ _ _ hr;simp only[iI]at c5 c6 c7 c8 c9;have R:gi ih (eD ty ops ops.toList (Region.before ops).toList) c rs bs:=by
  refine⟨hu,c9,c8,λi j a b tM ha hb=>?_,λi a ha q hq=>?_,c4⟩
  ·have hi:i<ops.size:=by rw[←E.len];exact th ha
   have:=LN hd i ops[i] a (by rw[nE];exact nz hi) ha;rw[iI]at this;exact this.2.2 j b tM hb
  ·have hi:i<ops.size:=by rw[←E.len];exact th ha
   have e:=E.get i _ (nz hi);rw[ha]at e;injection e with e;rw[e,LM]at hq;exact E.Δ i _ (nz hi) q hq
 have LQ:∀k,(c.N 0).num<=k.num->η k=none:=λq hq=>hH.free q (by rw[c3]at hq;exact hq);have I0:Inv ty (eD ty ops ops.toList (Region.before ops).toList) c η w fr.tmps.size (λj=>(Array.replicate ops.size false)[j]?=some true) η H { w with drawn:=w.drawn+1} fr.tmps:=by
  have no:∀j,¬ ((Array.replicate ops.size false)[j]?=some true):=λj h=>by rw[Array.getElem?_replicate]at h;split at h<;>simp at h
  refine⟨λj h=>absurd h (no j),λi o h=>absurd h (no i),⟨0,⟨uw _,λb _=>⟨λh=>absurd h (no b),λh=>by omega⟩⟩,⟨λq _=>by rw[c2],λj _ h=>absurd h (no j),λj hj _=>?_⟩⟩,⟨λq o hq=>?_,λb _ h=>absurd h (no b),λj _ h=>absurd h (no j)⟩,⟨hH.obj,hH.sep⟩,λq L hq=>.inl ?_,.refl _,λ_ _=>rfl,⟨rfl,rfl,rfl,χ _,λ_ _ _=>rfl,λ_ r h=>⟨r,h⟩⟩,λm b hb=>.inl (by rw[c2];exact hb),rfl,λj h=>absurd h (no j),λt v hv=>?_,λj o t h=>absurd h (no j),λt v hv _=>hT t v (by rw[c1]at hv;exact hv)⟩
  ·cases e:H.get (c.N j) with
   | none=>rfl
   | some o=>
    have h1:=hH.zO e;have h2:=R.mR (uw j) (fY hj.lt);rw[c3]at h2;omega
  ·rw[c2]at hq;rw[c3];obtain⟨L,_,_,h⟩:=hH.obj q o hq;exact⟨hH.zO hq,h.below hH.free⟩
  ·rw[c3];rcases jC q.num n.num with h | h
   ·exact h
   ·rw[hH.free q h]at hq;cases hq
  ·rw[c1]at hv;rw[c3];obtain⟨y,_,h⟩:=hT t v hv;exact h.mf hH.free
 have eF:∀(i:Nat) (o:Oper),ops[i]?=some o->∀d,o.dst=some d->d<fr.tmps.size:=λi o ho d qj=>
  LP (show iK fr.tmps.size ops.toList=true from hw) o (by simpa using Array.mem_of_getElem? ho) d qj
 obtain⟨η1,Yj,w1,LO,I1,s1⟩:=adD hC eO R E (cs:=cs) (k:=k) (ds:=fr.defers) hm hG LQ eF ops.size (w.tape w.drawn (.order fr.fn id)) (Array.replicate ops.size false) η H _ fr.tmps (by simp) I0
  (by have:=List.countP_le_length (p:=λj=>(Array.replicate ops.size false)[j]?!=some true) (l:=List.range ops.size);simpa using this)
 have hlen:(eD ty ops ops.toList (Region.before ops).toList).length=ops.size:=E.len;obtain⟨p,lE,hS⟩:=I1.cut;have adH:Cut (eD ty ops ops.toList (Region.before ops).toList) c (λj=>j<ops.size) (eD ty ops ops.toList (Region.before ops).toList).length:=
  ⟨χ _,λb hb=>by rw[hlen]⟩
 have hS':=hS.move R lE adH;have tj:∀q,Yj.get q=r.H.get q:=λq=>by
  rw[←c6];by_cases h:∃j,Mk (eD ty ops ops.toList (Region.before ops).toList) c j/\q=c.N j
  ·obtain⟨j,hj,rfl⟩:=h;have:=hS'.done j hj (by rw[←hlen];exact hj.lt);rw[au hj.lt]at this;exact this
  ·exact hS'.base q λj hj e=>h ⟨j,hj,e⟩
 have Ot:(c.N 0).num<=r.n.num:=by rw[←c7];exact R.mR (uw _) (χ _)
 refine⟨η1,LO,fr.defers,w1,⟨I1.ext,by rw[c3]at Ot;exact Ot,⟨λq o hq=>I1.rep.obj q o (by rw[tj];exact hq),λq q' o o' L L' aR hq Jj gU=>I1.rep.sep q q' o o' L L' aR (by rw[tj];exact hq) Jj (by rw[tj];exact gU),λq hq=>?_⟩,?_,λm b hb=>?_,λq hq=>I1.dR q (by rw[c3];exact hq)⟩,I1.size,λt v hv=>?_,.refl _ _ _ _ _,?_⟩
 ·cases e:η1 q with
  | none=>rfl
  | some L=>
   exfalso;rcases I1.names q L e with h | ⟨j,h1,h2,h3⟩
   ·omega
   ·have:=R.mR (i:=j+1) (j:=(eD ty ops ops.toList (Region.before ops).toList).length) (by rw[hlen];exact h1) (χ _);rw[c7]at this;omega
 ·have:=I1.kept;rw[c2]at this;exact this
 ·have:=I1.kZ m b (by obtain⟨q,o,L,h1,h2⟩:=hb;exact⟨q,o,L,by rw[tj];exact h1,h2⟩);rw[c2]at this;exact this
 ·rw[←c5]at hv;rcases R.UE (χ _) (cz t) with ⟨j,o,h1,h2,h3,h4⟩ | ⟨h1,h2⟩
  ·rw[hv]at h4;injection h4 with h4;subst h4;exact I1.s1 j o t (by rw[←hlen];exact h1) h2 h3
  ·rw[hv]at h2;exact I1.s0 t v h2.symm λj o hj ho=>h1 j o (by rw[hlen];exact hj) ho
 ·rw[hex];have dJ:step P (lone (put fr fr.tmps fr.defers (.code (.region id ops true)::k)) cs w)=
   .next (lone (put fr fr.tmps fr.defers (.inRegion ops (Region.linearise.go .any ops ops.size (w.tape w.drawn (.order fr.fn id)) (Array.replicate ops.size false) [])::k)) cs { w with drawn:=w.drawn+1}):=by
   obtain⟨fn,nG,todo,defers,mode,kind,roundOf⟩:=fr;simp only at hm;subst hm;refine iG ?_;simp[put,stepG,stepG.exec,choose,Sem.run,Question.forced,Question.cut,Region.schedule,hC.mixed,Region.linearise]
  exact Steps.head dJ (Steps.trans s1 (.one (Hl hm)))
end
end
end Go.Ev
