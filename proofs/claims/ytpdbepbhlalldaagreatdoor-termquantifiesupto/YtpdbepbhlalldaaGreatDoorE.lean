/- A part of the proof. -/
import Derived.Orders
import Derived.Test.YtpdbepbhlalldaaGreatDoorC
set_option linter.all false
namespace Go.Ev
open Go
section
def wJ(ih:eh):Prop:=∀j H n r,ih j H n=some r->n.num<=r.n.num
section
variable {ih:eh}{C:Nat->Option bP}
theorem U2(hu:wJ ih){op:A}{T:Tr V}{H H':Hp}{n n':K}{v:V}(h:oper ih op T H n=some (v,H',n')):n.num<=n'.num:=by
 cases op with
 | hU f l=>
  obtain⟨fv,lv,T',_,_,hr⟩:=Q8 h;exact hu _ _ _ _ hr
 | _=>rw[zU (by intro f l h;cases h)]at h;exact Ec (Ro h)
theorem U3(hu:wJ ih){op:A}{T:Tr V}{H:Hp}{n:K}{r:R}(h:eN ih op T H n=some r):n.num<=r.n.num:=by
 cases op with
 | hU f l=>
  simp only[eN]at h;split at h
  ·exact hu _ _ _ _ h
  ·cases h
 | tW x=>
  simp only[eN]at h;split at h
  ·injection h with h;subst h;exact Γ _
  ·cases h
 | _=>
  unfold eN at h;simp only at h;split at h
  ·rename_i h1;injection h with h;subst h;exact Ec (Ro h1)
  ·cases h
theorem Ij(hu:wJ ih):∀(l:List AO) (T:Tr V) (H:Hp) (n:K) (r:R),gv ih l T H n=some r->n.num<=r.n.num:=by
 intro l
 induction l with
 | nil=>intro T H n r h;simp only[gv]at h;injection h with h;subst h;exact Γ _
 | cons o l j5=>
  intro T H n r h;simp only[gv]at h;split at h
  ·split at h
   ·rename_i fm;exact gY (U3 hu fm) (j5 _ _ _ _ h)
   ·rename_i fm;injection h with h;subst h;have:=U3 hu fm;exact this
   ·cases h
  ·exact j5 _ _ _ _ h
  ·cases h
theorem ad2(hu:wJ ih):∀(l:List AO) (i:Nat) (T:Tr V) (H:Hp) (n:K) (m:Made) (rs:List Rd) (bs:List Bg) (r:R),fw ih l i T H n m rs bs=some r->n.num<=r.n.num:=by
 intro l
 induction l with
 | nil=>
  intro i T H n m rs bs r h;simp only[fw,iW]at h;split at h
  ·injection h with h;subst h;exact Γ _
  ·cases h
 | cons o l j5=>
  intro i T H n m rs bs r h;simp only[fw]at h;split at h
  ·split at h
   case h_2=>cases h
   rename_i v H1 n1 fm;have h1:=U2 hu fm;split at h
   ·exact j5 _ _ _ _ _ _ _ _ h
   ·simp only[iW]at h;split at h
    ·exact j5 _ _ _ _ _ _ _ _ h
    ·cases h
   ·exact gY h1 (j5 _ _ _ _ _ _ _ _ h)
   ·exact gY h1 (j5 _ _ _ _ _ _ _ _ h)
  ·exact j5 _ _ _ _ _ _ _ _ h
  ·cases h
theorem U4:∀{es:List TE} {l:List V} {H:Hp} {n:K} {r:V×Hp×K},GM es l H n=some r->∃e∈es,e.fits l H n=true/\r=(e.v,e.add,e.n'):=by
 intro es
 induction es with
 | nil=>intro l H n r h;cases h
 | cons e es ih=>
  intro l H n r h;simp only[GM,iW]at h;split at h
  ·rename_i hf;injection h with h;exact⟨e,by simp,hf,h.symm⟩
  ·obtain⟨e',h1,h2⟩:=ih h;exact⟨e',by simp[h1],h2⟩
theorem ad3{p:Pm}{l:List V}{H H':Hp}{n n':K}{v:V}(h:pm p l H n=some (v,H',n')):n.num<=n'.num:=by
 cases p with
 | kI es=>
  obtain⟨e,_,hf,he⟩:=U4 h;injection he with h1 h2;injection h2 with h2 h3;simp only[TE.fits,bG]at hf;have:=(cmp_eq _ _ _).1 hf.1.2;rw[h3];rcases this with h | ⟨_,h⟩<;>omega
 | vQ=>
  simp only[pm,DA,iW]at h
  repeat' split at h
  all_goals first
   | (cases h;done)
   | exact Ec (Hk h)
 | Ds cU u=>
  simp only[pm,iW]at h
  repeat' split at h
  all_goals first
   | (cases h;done)
   | exact Ec (Hk h)
 | same=>
  simp only[pm,Kf]at h;split at h
  ·exact Ec (Hk h)
  ·cases h
theorem ad4(hu:wJ ih):wJ (ca C ih):=by
 intro j H n r h;cases j with
 | code c T=>
  cases c with
  | skip=>simp only[ca]at h;injection h with h;subst h;exact Γ _
  | reg l=>exact Ij hu _ _ _ _ _ h
  | regd l=>exact ad2 hu _ _ _ _ _ _ _ _ _ h
  | seq a b=>
   simp only[ca]at h;split at h
   ·rename_i h1;exact gY (hu _ _ _ _ h1) (hu _ _ _ _ h)
   ·exact hu _ _ _ _ h
  | cond c a b=>
   simp only[ca]at h;split at h
   ·exact hu _ _ _ _ h
   ·cases h
  | block id c=>
   simp only[ca,iW]at h;split at h
   ·rename_i h1;have:=hu _ _ _ _ h1;split at h<;>(injection h with h;subst h;exact this)
   ·exact hu _ _ _ _ h
  | loop c=>
   simp only[ca]at h;split at h
   ·rename_i h1;exact gY (hu _ _ _ _ h1) (hu _ _ _ _ h)
   ·exact hu _ _ _ _ h
  | mf f ps as body=>
   simp only[ca,iW]at h;split at h
   case h_2=>cases h
   split at h
   case h_2=>cases h
   rename_i T1 v1 H1 n1 h1;have:n.succ.num<=n1.num:=hu _ _ _ _ h1;rw[K.fH]at this;split at h
   ·split at h
    ·cases h
    ·injection h with h;subst h;show n.num<=n1.num;omega
   ·split at h
    ·cases h
    ·injection h with h;subst h;show n.num<=n1.num;omega
   ·cases h
  | exit id=>simp only[ca]at h;injection h with h;subst h;exact Γ _
  | scope c=>exact hu _ _ _ _ h
  | pH d x l c ws=>
   simp only[ca]at h;split at h
   case h_2=>cases h
   rename_i b hb;split at h
   case h_2=>cases h
   rename_i m since hm;split at h
   case h_2=>cases h
   rename_i es dC he;cases hc:Nat.beq since dC&&xF dC 0 es with
   | false=>rw[hc]at h;cases h
   | true=>
    rw[hc]at h;simp only[cond_true]at h;have part:∀(v:V) (T:Tr V) (H:Hp) (n:K) (r:R),(match gv ih l (eA d (some v) T) H n with
     | some ⟨.normal,T,_,H,n⟩=>ih (.code c T) H n
     | _=>none)=some r->n.num<=r.n.num:=by
     intro v T H n r h;split at h
     ·rename_i h1;have g1:=Ij hu _ _ _ _ _ h1;have g2:=hu _ _ _ _ h;exact gY g1 g2
     ·cases h
    have over:∀(T:Tr V) (H:Hp) (n:K) (r:R),(match gv ih l (eA d (some (.u [.b false])) T) H n with
     | some ⟨.normal,T,_,H,n⟩=>(match ih (.code c T) H n with
      | some ⟨.normal,_,_,_,_⟩=>none
      | r=>r)
     | _=>none)=some r->n.num<=r.n.num:=by
     intro T H n r h;split at h
     ·rename_i h1;have g1:=Ij hu _ _ _ _ _ h1;split at h
      ·cases h
      ·have g2:=hu _ _ _ _ h;exact gY g1 g2
     ·cases h
    split at h
    ·split at h
     ·rename_i h1;have g1:=part _ _ _ _ _ h1;split at h
      ·simp only[iW]at h;split at h
       ·have g2:=over _ _ _ _ h;exact gY g1 g2
       ·cases h
      ·cases h
     ·exact part _ _ _ _ _ h
    ·simp only[iW]at h;split at h
     ·exact over _ _ _ _ h
     ·cases h
  | ret=>simp only[ca]at h;injection h with h;subst h;exact Γ _
  | bad=>cases h
 | call f l=>
  cases f with
  | f g a c=>
   simp only[ca]at h;split at h
   ·split at h
    ·rename_i h1;injection h with h;subst h;exact ad3 h1
    ·cases h
   ·split at h
    case h_2=>cases h
    split at h
    ·cases h
    ·rename_i h1;injection h with h;subst h;have:=hu _ _ _ _ h1;exact this
    ·rename_i h1;split at h
     ·injection h with h;subst h;have:=hu _ _ _ _ h1;exact this
     ·cases h
    ·cases h
   ·split at h
    case h_2=>cases h
    split at h
    case h_2=>cases h
    rename_i h0;have g0:=Ij hu _ _ _ _ _ h0;split at h
    case h_2=>cases h
    split at h
    ·cases h
    ·rename_i h1;have g1:=hu _ _ _ _ h1;split at h
     case h_2=>cases h
     split at h
     ·cases h
     ·cases h
     ·rename_i h2;have g2:=hu _ _ _ _ h2;split at h
      ·injection h with h;subst h;exact gY g0 (gY g1 g2)
      ·cases h
     ·cases h
    ·cases h
   ·cases h
  | y k=>
   simp only[ca,iW]at h;split at h
   case h_2=>cases h
   split at h
   case h_2=>cases h
   split at h
   case isFalse=>cases h
   split at h
   case h_2=>cases h
   rename_i h1;split at h
   case h_2=>cases h
   split at h
   case h_2=>cases h
   rename_i r2 h2;split at h
   case h_2=>cases h
   split at h
   ·cases h
   injection h with h;subst h;have g1:=hu _ _ _ _ h1;have g2:=hu _ _ _ _ h2;exact gY g1 g2
  | _=>cases h
end
end
section
section
variable {W:Nat->Code->AC->Prop}{η η1:Env}{n m:K}
theorem qH{k:K}{L:Loc}(h:η k=some L)(hk:k.num<n.num):cY η n k=some L:=by unfold cY;rw[az hk];exact h
mutual
theorem aC.cY:∀{v:V} {x:Value},aC η v x->cu n v=true->aC (cY η n) v x
 | _,_,.b x,_=>.b x
 | _,_,.i k n,_=>.i k n
 | _,_,.s l n h,_=>.s l n h
 | _,_,.np,_=>.np
 | _,_,.p b o L h,hb=>.p b o L (qH h (rL.1 (by simpa[cu]using hb)))
 | _,_,.ns,_=>.ns
 | _,_,.sl b o l c L h,hb=>.sl b o l c L (qH h (rL.1 (by simpa[cu]using hb)))
 | _,_,.su b o l e L c h h1 h2,hb=>.su b o l e L c (qH h (rL.1 (by simpa[cu]using hb))) h1 h2
 | _,_,.se b o e A L h,hb=>.se b o e A L (qH h (rL.1 (by simpa[cu]using hb)))
 | _,_,.nm,_=>.nm
 | _,_,.m b L h,hb=>.m b L (qH h (rL.1 (by simpa[cu]using hb)))
 | _,_,.nf,_=>.nf
 | _,_,.f g a c a' c' h h',hb=>by simp only[cu,bG]at hb;exact .f g a c a' c' (bB.cY h hb.1) (bB.cY h' hb.2)
 | _,_,.y l L h,hb=>.y l L (qH h (rL.1 (by simpa[cu]using hb)))
 | _,_,.ni,_=>.ni
 | _,_,.lD t v v' h,hb=>.lD t v v' (aC.cY h (by simpa[cu]using hb))
 | _,_,.a l l' h,hb=>.a l l' (bB.cY h (by simpa[cu]using hb))
 | _,_,.u l l' h,hb=>.u l l' (bB.cY h (by simpa[cu]using hb))
 | _,_,.q v,_=>.q v
theorem bB.cY:∀{v:List V} {x:List Value},bB η v x->gZ n v=true->bB (cY η n) v x
 | _,_,.nil,_=>.nil
 | _,_,.cons v v' l l' h h',hb=>by simp only[gZ,bG]at hb;exact .cons v v' l l' (aC.cY h hb.1) (bB.cY h' hb.2)
end
theorem yI(hf:∀k,n.num<=k.num->η k=none){k:K}{L:Loc}(h:η k=some L):K.cmp false k n=true:=by
 rw[rL];rcases jR k.num n.num with h1 | h1
 ·exact h1
 ·rw[hf k h1]at h;cases h
mutual
theorem aC.mr (hf:∀k,n.num<=k.num->η k=none):∀{v:V} {x:Value},aC η v x->cu n v=true
 | _,_,.b x=>rfl
 | _,_,.i k n=>rfl
 | _,_,.s l n h=>rfl
 | _,_,.np=>rfl
 | _,_,.p b o L h=>by simp only[cu];exact yI hf h
 | _,_,.ns=>rfl
 | _,_,.sl b o l c L h=>by simp only[cu];exact yI hf h
 | _,_,.su b o l e L c h h1 h2=>by simp only[cu];exact yI hf h
 | _,_,.se b o e A L h=>by simp only[cu];exact yI hf h
 | _,_,.nm=>rfl
 | _,_,.m b L h=>by simp only[cu];exact yI hf h
 | _,_,.nf=>rfl
 | _,_,.f g a c a' c' h h'=>by simp only[cu,bG];exact⟨bB.mr hf h,bB.mr hf h'⟩
 | _,_,.y l L h=>by simp only[cu];exact yI hf h
 | _,_,.ni=>rfl
 | _,_,.lD t v v' h=>by simp only[cu];exact aC.mr hf h
 | _,_,.a l l' h=>by simp only[cu];exact bB.mr hf h
 | _,_,.u l l' h=>by simp only[cu];exact bB.mr hf h
 | _,_,.q v=>rfl
theorem bB.mr (hf:∀k,n.num<=k.num->η k=none):∀{v:List V} {x:List Value},bB η v x->gZ n v=true
 | _,_,.nil=>rfl
 | _,_,.cons v v' l l' h h'=>by simp only[gZ,bG];exact⟨aC.mr hf h,bB.mr hf h'⟩
end
mutual
theorem cu.mono (py:n.num<=m.num):∀(v:V),cu n v=true->cu m v=true
 | .p b _,h | .sl b _ _ _,h | .su b _ _ _,h | .m b,h | .y b,h=>by simp only[cu,rL]at h ⊢;omega
 | .f _ a c,h=>by simp only[cu,bG]at h ⊢;exact⟨gZ.mono py a h.1,gZ.mono py c h.2⟩
 | .lD _ v,h=>by simp only[cu]at h ⊢;exact cu.mono py v h
 | .a l,h | .u l,h=>by simp only[cu]at h ⊢;exact gZ.mono py l h
 | .b _,_ | .i _ _,_ | .s _ _,_ | .np,_ | .ns,_ | .nm,_ | .nf,_ | .ni,_ | .q,_=>rfl
theorem gZ.mono (py:n.num<=m.num):∀(l:List V),gZ n l=true->gZ m l=true
 | [],_=>rfl
 | v::l,h=>by simp only[gZ,bG]at h ⊢;exact⟨cu.mono py v h.1,gZ.mono py l h.2⟩
end
theorem U5{l:List V}(h:gZ n l=true){v:V}(hv:v∈l):cu n v=true:=by
 induction l with
 | nil=>cases hv
 | cons a l ih=>
  simp only[gZ,bG]at h;rcases fY.1 hv with rfl | hv
  ·exact h.1
  ·exact ih h.2 hv
theorem U6{l:List V}(h:∀v∈l,cu n v=true):gZ n l=true:=by
 induction l with
 | nil=>rfl
 | cons a l ih=>simp only[gZ,bG];exact⟨h a (by simp),ih λv hv=>h v (by simp[hv])⟩
def wK(n:K):List (V×V×Nat)->Prop
 | []=>True
 | (k,v,_)::l=>cu n k=true/\cu n v=true/\wK n l
def nU(n:K):O->Prop
 | .c l _ _ | .r l=>gZ n l=true
 | .b x y _=>cu n x=true/\cu n y=true
 | .mp es _=>wK n es
 | .it _ _ _=>True
 | .mi b _=>b.num<n.num
 | .me b _ _=>b.num<n.num
 | .lp _ _ T _ _ _=>∀t v,T.get (cT t)=some v->cu n v=true
theorem wK.mono(py:n.num<=m.num):∀{l:List (V×V×Nat)},wK n l->wK m l
 | [],_=>trivial
 | (k,v,_)::l,⟨a,b,c⟩=>⟨cu.mono py k a,cu.mono py v b,wK.mono py c⟩
theorem nU.mono(py:n.num<=m.num){o:O}(h:nU n o):nU m o:=by
 cases o with
 | c l e fz=>exact gZ.mono py _ h
 | r l=>exact gZ.mono py _ h
 | b x y e=>exact⟨cu.mono py _ h.1,cu.mono py _ h.2⟩
 | mp es c=>exact wK.mono py h
 | it=>trivial
 | mi b c=>exact fN h py
 | me b c t=>exact fN h py
 | lp r p T ps a b=>exact λt v hv=>cu.mono py v (h t v hv)
theorem eP.cY:∀{l:List (V×V×Nat)} {l':List MapEntry},eP η l l'->wK n l->eP (cY η n) l l'
 | [],[],_,_=>trivial
 | (_,_,_)::_,_::_,⟨a,b,c,d⟩,⟨p,q,r⟩=>⟨a.cY p,b.cY q,c,eP.cY d r⟩
theorem eP.below(hf:∀k,n.num<=k.num->η k=none):∀{l:List (V×V×Nat)} {l':List MapEntry},eP η l l'->wK n l
 | [],[],_=>trivial
 | (_,_,_)::_,_::_,⟨a,b,c,d⟩=>⟨a.mr hf,b.mr hf,eP.below hf d⟩
theorem br.cY{T:Tr V}{t:Array Value}(h:br η T t)(hb:∀t v,T.get (cT t)=some v->cu n v=true):br (cY η n) T t:=λk v hv=>
 let⟨x,h1,h2⟩:=h k v hv;⟨x,h1,h2.cY (hb k v hv)⟩
theorem ic.cY{o:O}{L:Loc}{x:Option Obj}(h:ic W η o L x)(hb:nU n o):ic W (cY η n) o L x:=by
 cases o with
 | c l e fz=>
  obtain⟨cs,fr,h1,h2,h3,h4,h5⟩:=h;exact⟨cs,fr,h1,h2,h3,λi v hi=>let⟨y,a,b⟩:=h4 i v hi;⟨y,a,b.cY (U5 hb (List.mem_of_getElem? hi))⟩,h5⟩
 | r l=>
  obtain⟨cs,e,fr,h1,h4⟩:=h;exact⟨cs,e,fr,h1,λi v hi=>let⟨y,a,b⟩:=h4 i v hi;⟨y,a,b.cY (U5 hb (List.mem_of_getElem? hi))⟩⟩
 | b x y e=>obtain⟨h0,u,v,h1,h2,h3⟩:=h;exact⟨h0,u,v,h1,h2.cY hb.1,h3.cY hb.2⟩
 | mp es c=>obtain⟨gL,h1,h2⟩:=h;exact⟨gL,h1,h2.cY hb⟩
 | it l n pos=>exact h
 | mi b since=>obtain⟨h0,Lb,h1,h2⟩:=h;exact⟨h0,Lb,qH h1 hb,h2⟩
 | me m c t=>obtain⟨h0,Lm,since,seen,h1,h2,h3⟩:=h;exact⟨h0,Lm,since,seen,qH h1 hb,h2,h3⟩
 | lp ready gQ T ps as body=>obtain⟨r,h1,h2,h3,h4,h5⟩:=h;exact⟨r,h1,h2,h3,h4.cY hb,h5⟩
theorem ic.below(hf:∀k,n.num<=k.num->η k=none){o:O}{L:Loc}{x:Option Obj}(h:ic W η o L x):nU n o:=by
 cases o with
 | c l e fz=>
  obtain⟨cs,fr,h1,h2,h3,h4,h5⟩:=h;exact U6 λv hv=>let⟨i,hi⟩:=List.getElem?_of_mem hv;let⟨y,_,b⟩:=h4 i v hi;b.mr hf
 | r l=>
  obtain⟨cs,e,fr,h1,h4⟩:=h;exact U6 λv hv=>let⟨i,hi⟩:=List.getElem?_of_mem hv;let⟨y,_,b⟩:=h4 i v hi;b.mr hf
 | b x y e=>obtain⟨h0,u,v,h1,h2,h3⟩:=h;exact⟨h2.mr hf,h3.mr hf⟩
 | mp es c=>obtain⟨gL,h1,h2⟩:=h;exact h2.below hf
 | it l n pos=>trivial
 | mi b since=>obtain⟨h0,Lb,h1,h2⟩:=h;exact rL.1 (yI hf h1)
 | me m c t=>obtain⟨h0,Lm,since,seen,h1,h2,h3⟩:=h;exact rL.1 (yI hf h1)
 | lp ready gQ T ps as body=>obtain⟨r,h1,h2,h3,h4,h5⟩:=h;exact λt v hv=>let⟨x,_,b⟩:=h4 t v hv;b.mr hf
end
end
section
section
variable {T:Tr V}{H:Hp}{n:K}{op:A}
theorem ad5(hc:cls op=.pure):∃x:Option V,∀H n,simple op T H n=eg H n x:=by
 cases op<;>(try (simp only[cls]at hc;cases hc;done))
 case mv x=>exact⟨_,λ_ _=>rfl⟩
 case pick c a b=>
  simp only[simple];cases aI T c with
  | none=>exact⟨none,λ_ _=>rfl⟩
  | some v=>cases v<;>first | exact⟨_,λ_ _=>rfl⟩ | exact⟨none,λ_ _=>rfl⟩
 case bld zs ps=>simp only[simple];cases rC T zs ps with
  | none=>exact⟨none,λ_ _=>rfl⟩
  | some l=>exact⟨some (.a l),λ_ _=>rfl⟩
 case nck x=>simp only[simple];cases aI T x with
  | none=>exact⟨none,λ_ _=>rfl⟩
  | some v=>cases v with
   | p b o=>exact⟨some (.p b o),λ_ _=>rfl⟩
   | f g a c=>exact⟨some (.f g a c),λ_ _=>rfl⟩
   | y l=>exact⟨some (.y l),λ_ _=>rfl⟩
   | _=>exact⟨none,λ_ _=>rfl⟩
 case bin o k x y=>simp only[simple];cases aI T x with
  | none=>exact⟨none,λ_ _=>rfl⟩
  | some v=>cases aI T y with
   | none=>exact⟨none,λ_ _=>rfl⟩
   | some u=>exact⟨_,λ_ _=>rfl⟩
 case un o x=>simp only[simple];cases aI T x with
  | none=>exact⟨none,λ_ _=>rfl⟩
  | some v=>exact⟨_,λ_ _=>rfl⟩
 case cv k x=>
  simp only[simple];cases aI T x with
  | none=>exact⟨none,λ_ _=>rfl⟩
  | some v=>
   cases k with
   | toInt k=>cases v<;>first | exact⟨none,λ_ _=>rfl⟩ | exact⟨some _,λ_ _=>rfl⟩
   | same=>cases v<;>first | exact⟨none,λ_ _=>rfl⟩ | exact⟨some _,λ_ _=>rfl⟩
   | zA=>cases hc
   | J2 e=>cases hc
   | Je=>cases hc
   | Jf u=>cases hc
   | zB=>
    cases v<;>try exact⟨none,λ_ _=>rfl⟩
    rename_i k m;cases m with
    | negSucc=>exact⟨none,λ_ _=>rfl⟩
    | ofNat m=>
     simp only[rb];cases sL m with
     | true=>exact⟨some _,λ_ _=>rfl⟩
     | false=>exact⟨none,λ_ _=>rfl⟩
 case mif t x=>simp only[simple];cases aI T x with
  | none=>exact⟨none,λ_ _=>rfl⟩
  | some v=>exact⟨some (.lD t v),λ_ _=>rfl⟩
 case mfn f a c=>simp only[simple];cases fP T a with
  | none=>exact⟨none,λ_ _=>rfl⟩
  | some v=>cases fP T c with
   | none=>exact⟨none,λ_ _=>rfl⟩
   | some u=>exact⟨some (.f f v u),λ_ _=>rfl⟩
 case sli k x lo hi mx=>simp only[simple];cases aI T x with
  | none=>exact⟨none,λ_ _=>rfl⟩
  | some v=>exact⟨_,λ_ _=>rfl⟩
 case fad off x=>simp only[simple];cases aI T x with
  | none=>exact⟨none,λ_ _=>rfl⟩
  | some v=>cases v with
   | p b o=>exact⟨some (.p b (Nat.add o off)),λ_ _=>rfl⟩
   | _=>exact⟨none,λ_ _=>rfl⟩
 case fld agg off sz x=>simp only[simple];cases aI T x with
  | none=>exact⟨none,λ_ _=>rfl⟩
  | some v=>cases v with
   | a l=>
    cases agg with
    | false=>exact⟨_,λ_ _=>rfl⟩
    | true=>
     simp only[cond_true];cases dt l off sz with
     | none=>exact⟨none,λ_ _=>rfl⟩
     | some l'=>exact⟨some (.a l'),λ_ _=>rfl⟩
   | _=>exact⟨none,λ_ _=>rfl⟩
 case iad arr z x i=>simp only[simple];cases aI T x with
  | none=>exact⟨none,λ_ _=>rfl⟩
  | some v=>cases aI T i with
   | none=>exact⟨none,λ_ _=>rfl⟩
   | some u=>
    cases u<;>try exact⟨none,λ_ _=>rfl⟩
    rename_i k m;cases m with
    | negSucc=>exact⟨none,λ_ _=>rfl⟩
    | ofNat m=>
     cases arr with
     | some q=>
      cases v with
      | p b o=>
       simp only;cases Nat.blt m q with
       | true=>exact⟨some (.p b (Nat.add o (Nat.mul m z))),λ_ _=>rfl⟩
       | false=>exact⟨none,λ_ _=>rfl⟩
      | _=>exact⟨none,λ_ _=>rfl⟩
     | none=>
      cases v with
      | sl b o l c=>
       simp only;cases Nat.blt m l with
       | true=>exact⟨some (.p b (Nat.add o (Nat.mul m z))),λ_ _=>rfl⟩
       | false=>exact⟨none,λ_ _=>rfl⟩
      | su b o l e=>
       simp only;cases Nat.blt m l with
       | true=>exact⟨some (.p b (Nat.add o (Nat.mul m z))),λ_ _=>rfl⟩
       | false=>exact⟨none,λ_ _=>rfl⟩
      | _=>exact⟨none,λ_ _=>rfl⟩
 case idx arr x i=>simp only[simple];cases aI T x with
  | none=>exact⟨none,λ_ _=>rfl⟩
  | some v=>cases aI T i with
   | none=>exact⟨none,λ_ _=>rfl⟩
   | some u=>
    cases u<;>try exact⟨none,λ_ _=>rfl⟩
    rename_i k m;cases m with
    | negSucc=>exact⟨none,λ_ _=>rfl⟩
    | ofNat m=>
     cases arr with
     | none=>
      cases v with
      | s l q=>
       simp only;cases Nat.blt m l with
       | true=>exact⟨some _,λ_ _=>rfl⟩
       | false=>exact⟨none,λ_ _=>rfl⟩
      | _=>exact⟨none,λ_ _=>rfl⟩
     | some q=>
      obtain⟨q,z,agg⟩:=q;cases v with
      | a l=>
       simp only;cases Nat.blt m q with
       | false=>exact⟨none,λ_ _=>rfl⟩
       | true=>
        cases agg with
        | false=>exact⟨_,λ_ _=>rfl⟩
        | true=>
         simp only[cond_true];cases dt l (Nat.mul m z) z with
         | none=>exact⟨none,λ_ _=>rfl⟩
         | some l'=>exact⟨some (.a l'),λ_ _=>rfl⟩
      | _=>exact⟨none,λ_ _=>rfl⟩
 case tas t z ok x=>simp only[simple];cases aI T x with
  | none=>exact⟨none,λ_ _=>rfl⟩
  | some v=>cases v with
   | ni=>cases ok with
    | true=>exact⟨some _,λ_ _=>rfl⟩
    | false=>exact⟨none,λ_ _=>rfl⟩
   | lD t' u=>
    simp only;cases Nat.beq t t' with
    | true=>exact⟨some _,λ_ _=>rfl⟩
    | false=>cases ok with
     | true=>exact⟨some _,λ_ _=>rfl⟩
     | false=>exact⟨none,λ_ _=>rfl⟩
   | _=>exact⟨none,λ_ _=>rfl⟩
 case ext x i=>simp only[simple];cases aI T x with
  | none=>exact⟨none,λ_ _=>rfl⟩
  | some v=>cases v with
   | u l=>exact⟨_,λ_ _=>rfl⟩
   | _=>exact⟨none,λ_ _=>rfl⟩
 case cap arr x=>simp only[simple];cases arr with
  | some m=>exact⟨some _,λ_ _=>rfl⟩
  | none=>cases aI T x with
   | none=>exact⟨none,λ_ _=>rfl⟩
   | some v=>cases v with
    | ns=>exact⟨some _,λ_ _=>rfl⟩
    | sl b o l c=>exact⟨some (.i .i64 (Int.ofNat c)),λ_ _=>rfl⟩
    | _=>exact⟨none,λ_ _=>rfl⟩
 case mm mx l=>simp only[simple];cases fP T l with
  | none=>exact⟨none,λ_ _=>rfl⟩
  | some vs=>cases vs with
   | nil=>exact⟨none,λ_ _=>rfl⟩
   | cons v vs=>exact⟨_,λ_ _=>rfl⟩
theorem U7(hc:cls op=.read):∃x:Option V,∀n,simple op T H n=eg H n x:=by
 cases op<;>(try (simp only[cls]at hc;cases hc;done))
 case ld agg sz a=>simp only[simple];cases aI T a with
  | none=>exact⟨none,λ_=>rfl⟩
  | some v=>exact⟨_,λ_=>rfl⟩
 case cv k x=>
  simp only[simple];cases aI T x with
  | none=>exact⟨none,λ_=>rfl⟩
  | some v=>
   cases k with
   | zA=>
    have key:∃y:Option V,∀n,(match elems H 1 v with
     | some (l,vs)=>match ofBytes vs with | some m=>(some (.s l m,H,n):gC) | none=>none
     | none=>none)=eg H n y:=by
     cases elems H 1 v with
     | none=>exact⟨none,λ_=>rfl⟩
     | some p=>
      obtain⟨l,vs⟩:=p;simp only;cases ofBytes vs with
      | none=>exact⟨none,λ_=>rfl⟩
      | some m=>exact⟨some (.s l m),λ_=>rfl⟩
    cases v<;>first | exact⟨none,λ_=>rfl⟩ | exact key
   | _=>cases hc
 case lkp q z ok m k=>simp only[simple];cases aI T m with
  | none=>exact⟨none,λ_=>rfl⟩
  | some v=>cases aI T k with
   | none=>cases v<;>exact⟨none,λ_=>rfl⟩
   | some u=>
    cases v<;>try exact⟨none,λ_=>rfl⟩
    case nm=>
     simp only;cases oF q u with
     | true=>exact⟨some _,λ_=>rfl⟩
     | false=>exact⟨none,λ_=>rfl⟩
    case m b=>
     simp only;cases oF q u with
     | false=>exact⟨none,λ_=>rfl⟩
     | true=>
      simp only[cond_true];cases H.get b with
      | none=>exact⟨none,λ_=>rfl⟩
      | some o=>
       cases o<;>try exact⟨none,λ_=>rfl⟩
       rename_i es c;simp only;cases Bz q u es with
       | none=>exact⟨none,λ_=>rfl⟩
       | some w=>cases w with
        | none=>exact⟨some _,λ_=>rfl⟩
        | some w=>exact⟨some _,λ_=>rfl⟩
 case len k x=>
  simp only[simple];cases aI T x with
  | none=>rcases k with _ | _ | _ | k<;>exact⟨none,λ_=>rfl⟩
  | some v=>
   rcases k with _ | _ | _ | k
   ·cases v<;>first | exact⟨none,λ_=>rfl⟩ | exact⟨some (.i .i64 (Int.ofNat _)),λ_=>rfl⟩
   ·cases v<;>first | exact⟨none,λ_=>rfl⟩ | exact⟨some (.i .i64 (Int.ofNat _)),λ_=>rfl⟩ | exact⟨some (.i .i64 0),λ_=>rfl⟩
   ·cases v<;>try first | exact⟨none,λ_=>rfl⟩ | exact⟨some (.i .i64 0),λ_=>rfl⟩
    rename_i b;simp only;cases H.get b with
    | none=>exact⟨none,λ_=>rfl⟩
    | some o=>cases o<;>first | exact⟨none,λ_=>rfl⟩ | exact⟨some (.i .i64 (Int.ofNat _)),λ_=>rfl⟩
   ·cases v<;>exact⟨none,λ_=>rfl⟩
theorem ad6(hc:cls op=.make){v:V}{H1:Hp}{n1:K}(h:simple op T H n=some (v,H1,n1)):
 ∃o:O,H1=H.put (some o) n/\n1=n.succ/\∀H2,simple op T H2 n=some (v,H2.put (some o) n,n.succ):=by
 cases op<;>(try (simp only[cls]at hc;cases hc;done))
 case cv k x=>cases k<;>cases hc
 case new e zs=>simp only[simple]at h ⊢;obtain⟨rfl,rfl,rfl⟩:=pM h;exact⟨_,rfl,rfl,λ_=>rfl⟩
 case mmap=>simp only[simple]at h ⊢;obtain⟨rfl,rfl,rfl⟩:=pM h;exact⟨_,rfl,rfl,λ_=>rfl⟩
 case box e x=>
  simp only[simple]at h ⊢;split at h
  case h_2=>cases h
  rename_i u hu;cases ha:bN u.cells with
  | false=>rw[ha]at h;cases h
  | true=>rw[ha]at h;obtain⟨rfl,rfl,rfl⟩:=pM h;exact⟨_,rfl,rfl,λ_=>rfl⟩
 case bsl e zs len ps=>
  simp only[simple]at h ⊢;split at h
  case h_2=>cases h
  rename_i u hu;obtain⟨rfl,rfl,rfl⟩:=pM h;exact⟨_,rfl,rfl,λ_=>rfl⟩
 case msl e esz bytes z l c=>
  simp only[simple]at h ⊢;split at h
  case h_2=>cases h
  rename_i k1 a k2 b h1 h2;simp only[iW]at h ⊢;split at h
  case isFalse=>cases h
  rename_i hb;obtain⟨rfl,rfl,rfl⟩:=pM h;exact⟨_,rfl,rfl,λ_=>by rw[az hb];rfl⟩
theorem U8{x:Option V}{v:V}{H1:Hp}{n1:K}(h:eg H n x=some (v,H1,n1)):x=some v/\H1=H/\n1=n:=by
 cases x with
 | none=>cases h
 | some y=>obtain⟨rfl,rfl,rfl⟩:=eo h;exact⟨rfl,rfl,rfl⟩
theorem ad7{ih:eh}{T':Tr V}(h:∀x∈op.fj,aI T x=aI T' x):oper ih op T H n=oper ih op T' H n:=by
 cases op with
 | hU f l=>
  have h1:=h f (by simp[A.fj]);have h2:=Hi (l:=l) λx hx=>h x (by simp[A.fj,hx]);simp only[oper,eN,h1,h2]
 | _=>rw[zU (by intro f l h;cases h),zU (by intro f l h;cases h)];exact acS (H:=H) (n:=n) h
theorem Ez{ih:eh}(hc:cls op≠.kJ):oper ih op T H n=simple op T H n:=by
 cases op with
 | hU f l=>exact absurd rfl hc
 | _=>exact zU (by intro f l h;cases h)
end
end
section
theorem ad8{p:Nat->Prop}(h:∃n,p n):∃n,p n/\∀m,m<n->¬ p m:=by
 obtain⟨n,hn⟩:=h
 induction n using Nat.strongRecOn with
 | ind n ih=>
  by_cases h:∃m,m<n/\p m
  ·obtain⟨m,h1,h2⟩:=h;exact ih m h1 h2
  ·exact⟨n,hn,λm h1 h2=>h ⟨m,h1,h2⟩⟩
theorem ad9{p:Nat->Prop}{N:Nat}(hb:∀n,p n->n<N)(h:∃n,p n):∃n,p n/\∀m,n<m->¬ p m:=by
 obtain⟨n,hn⟩:=h
 induction hk:N - n using Nat.strongRecOn generalizing n with
 | ind k ih=>
  by_cases h:∃m,n<m/\p m
  ·obtain⟨m,h1,h2⟩:=h;exact ih (N - m) (by have:=hb m h2;omega) m h2 rfl
  ·exact⟨n,hn,λm h1 h2=>h ⟨m,h1,h2⟩⟩
structure gA(ih:eh)(l:List AO)(c:Canon)(rs:List Rd)(bs:List Bg):Prop where
 up:wJ ih
 step:∀(j:Nat) (o:AO),l[j]?=some o->zZ ih c rs bs j o
 BB:vT (c.M l.length) rs bs=true
 on:∀(i j:Nat) (a b:AO),i<j->l[i]?=some a->l[j]?=some b->zI i a b=true/\BF a b=true
 ah:∀(i:Nat) (a:AO),l[i]?=some a->∀k,Nat.testBit a.ah k=true->k<i
 m0:c.M 0=[]
def Mk(l:List AO)(c:Canon)(j:Nat):Prop:=∃o,l[j]?=some o/\c.run j=true/\cls o.op=.make
def nD(l:List AO)(c:Canon)(j:Nat):Prop:=∃o,l[j]?=some o/\c.run j=true/\cls o.op=.kJ
section
variable {ih:eh}{l:List AO}{c:Canon}{rs:List Rd}{bs:List Bg}
theorem tA{j:Nat}{o:AO}(h:l[j]?=some o):j<l.length:=(nL.1 h).1
theorem Mk.lt{j:Nat}(h:Mk l c j):j<l.length:=let⟨o,h1,_⟩:=h;tA h1
theorem nD.lt{j:Nat}(h:nD l c j):j<l.length:=let⟨o,h1,_⟩:=h;tA h1
theorem U9{op:A}(h:cls op=.kJ):kJ op=true:=by
 unfold kJ;split
 ·rfl
 ·rw[h]
theorem gA.chain(R:gA ih l c rs bs){i j:Nat}(hi:nD l c i)(hj:nD l c j)(h:i<j){b:AO}(hb:l[j]?=some b):Nat.testBit b.ah i=true:=by obtain⟨a,h1,_,h2⟩:=hi;obtain⟨b',h3,_,h4⟩:=hj;rw[hb]at h3;injection h3 with h3;subst h3;have:=(R.on i j a b h h1 hb).1;simp only[zI,U9 h2,U9 h4,nN,Bool.not_true,Df,Bool.or_false]at this;exact this
theorem gA.Va(R:gA ih l c rs bs){i:Nat}(hi:i<l.length):(c.N i).num<=(c.N (i+1)).num:=by
 obtain⟨o,ho⟩:∃o,l[i]?=some o:=⟨_,gP hi⟩;have s:=R.step i o ho;cases hr:c.run i with
 | false=>rw[(s.not hr).2.2.1];exact Γ _
 | true=>
  have up:=U2 R.up (s.A5 hr);cases hc:cls o.op with
  | pure=>rw[(s.pure hr hc).2.1];exact Γ _
  | read=>rw[(s.read hr hc).2.1];exact Γ _
  | make=>rw[(s.make hr hc).2.1];exact up
  | kJ=>rw[(s.kJ hr hc).2.1];exact up
theorem gA.mX(R:gA ih l c rs bs){i j:Nat}(ua:i<=j)(hj:j<=l.length):(c.N i).num<=(c.N j).num:=by
 induction j with
 | zero=>
  have:i=0:=by omega
  subst this;exact Γ _
 | succ j j5=>
  rcases jR j i with h | h
  ·have:i=j+1:=by omega
   subst this;exact Γ _
  ·exact gY (j5 h (by omega)) (R.Va (by omega))
theorem gA.Vb(R:gA ih l c rs bs){i:Nat}{o:AO}(ho:l[i]?=some o)(hr:c.run i=true)(hc:cls o.op=.make):
 ∃ob:O,c.H' i=(ee (c.H i) o.ah (c.M i)).put (some ob) (c.N i)/\c.n' i=(c.N i).succ/\∀H2,simple o.op (c.T i) H2 (c.N i)=some (c.v i,H2.put (some ob) (c.N i),(c.N i).succ):=by
 have s:=(R.step i o ho).A5 hr;rw[Ez (by rw[hc];intro h;cases h)]at s;exact ad6 hc s
theorem gA.Vc(R:gA ih l c rs bs){i:Nat}(h:Mk l c i):c.N (i+1)=(c.N i).succ:=by obtain⟨o,ho,hr,hc⟩:=h;obtain⟨ob,_,h2,_⟩:=R.Vb ho hr hc;rw[((R.step i o ho).make hr hc).2.1,h2]
theorem gA.Ik(R:gA ih l c rs bs){i j:Nat}(h:Mk l c i)(ua:i<j)(hj:j<=l.length):(c.N i).num<(c.N j).num:=by have h1:=R.mX (i:=i+1) (j:=j) (by omega) hj;rw[R.Vc h,K.fH]at h1;omega
theorem gA.EA(R:gA ih l c rs bs){i j:Nat}(hi:Mk l c i)(hj:Mk l c j)(h:c.N i=c.N j):i=j:=by
 rcases Bu i j with h1 | h1 | h1
 ·have:=R.Ik hi h1 (fZ hj.lt);rw[h]at this;omega
 ·exact h1
 ·have:=R.Ik hj h1 (fZ hi.lt);rw[h]at this;omega
theorem gA.Vd(R:gA ih l c rs bs){q:Nat}(hq:q<=l.length)(k:K)(j:Nat):(k,j)∈c.M q↔j<q/\Mk l c j/\k=c.N j:=by
 induction q with
 | zero=>
  rw[R.m0];constructor
  ·intro h;cases h
  ·rintro⟨h,_⟩;omega
 | succ q j5=>
  have ψ:q<l.length:=by omega
  obtain⟨o,ho⟩:∃o,l[q]?=some o:=⟨_,gP ψ⟩;have s:=R.step q o ho;have same:(¬ Mk l c q)->c.M (q+1)=c.M q->((k,j)∈c.M (q+1)↔j<q+1/\Mk l c j/\k=c.N j):=by
   intro hn e;rw[e,j5 (by omega)];constructor
   ·rintro⟨a,b⟩;exact⟨by omega,b⟩
   ·rintro⟨a,b,b'⟩;refine⟨?_,b,b'⟩;rcases jR j q with h | h
    ·exact h
    ·have:j=q:=by omega
     subst this;exact absurd b hn
  cases hr:c.run q with
  | false=>exact same (λ⟨_,_,h,_⟩=>by rw[hr]at h;cases h) (s.not hr).2.2.2
  | true=>
   cases hc:cls o.op with
   | pure=>exact same (λ⟨p,hp,_,h⟩=>by rw[ho]at hp;injection hp with hp;subst hp;rw[hc]at h;cases h) (s.pure hr hc).2.2
   | read=>exact same (λ⟨p,hp,_,h⟩=>by rw[ho]at hp;injection hp with hp;subst hp;rw[hc]at h;cases h) (s.read hr hc).2.2.1
   | kJ=>exact same (λ⟨p,hp,_,h⟩=>by rw[ho]at hp;injection hp with hp;subst hp;rw[hc]at h;cases h) (s.kJ hr hc).2.2.1
   | make=>
    rw[(s.make hr hc).2.2,fY,j5 (by omega)];constructor
    ·rintro(h | ⟨a,b⟩)
     ·injection h with h1 h2;subst h1;subst h2;exact⟨by omega,⟨o,ho,hr,hc⟩,rfl⟩
     ·exact⟨by omega,b⟩
    ·rintro⟨a,b,b'⟩;rcases jR j q with h | h
     ·exact .inr ⟨h,b,b'⟩
     ·have:j=q:=by omega
      subst this;subst b';exact .inl U
theorem gA.yJ(R:gA ih l c rs bs){q:Nat}(hq:q<=l.length)(a:Nat)(k:K):hidden a (c.M q) k↔∃j,j<q/\Mk l c j/\k=c.N j/\Nat.testBit a j=false:=by
 unfold hidden;constructor
 ·rintro⟨j,h1,h2⟩;obtain⟨a1,a2,a3⟩:=(R.Vd hq k j).1 h1;exact⟨j,a1,a2,a3,h2⟩
 ·rintro⟨j,a1,a2,a3,h2⟩;exact⟨j,(R.Vd hq k j).2 ⟨a1,a2,a3⟩,h2⟩
theorem gA.Ve(R:gA ih l c rs bs){i:Nat}(hi:i<l.length)(h1:¬ Mk l c i)(h2:¬ nD l c i):c.H (i+1)=c.H i/\c.N (i+1)=c.N i:=by
 obtain⟨o,ho⟩:∃o,l[i]?=some o:=⟨_,gP hi⟩;have s:=R.step i o ho;cases hr:c.run i with
 | false=>exact⟨(s.not hr).2.1,(s.not hr).2.2.1⟩
 | true=>
  cases hc:cls o.op with
  | pure=>exact⟨(s.pure hr hc).1,(s.pure hr hc).2.1⟩
  | read=>exact⟨(s.read hr hc).1,(s.read hr hc).2.1⟩
  | make=>exact absurd ⟨o,ho,hr,hc⟩ h1
  | kJ=>exact absurd ⟨o,ho,hr,hc⟩ h2
theorem gA.LN(R:gA ih l c rs bs){i:Nat}(h:Mk l c i):∃(o:AO) (ob:O),l[i]?=some o/\cls o.op=.make/\c.run i=true/\(∀H2,simple o.op (c.T i) H2 (c.N i)=some (c.v i,H2.put (some ob) (c.N i),(c.N i).succ))/\∀k,(c.H (i+1)).get k=if k=c.N i then some ob else (c.H i).get k:=by
 obtain⟨o,ho,hr,hc⟩:=h;obtain⟨ob,h1,h2,h3⟩:=R.Vb ho hr hc;refine⟨o,ob,ho,hc,hr,h3,λk=>?_⟩;rw[((R.step i o ho).make hr hc).1];obtain⟨b1,b2⟩:=Ab o.ah (c.M i) (c.H i) (c.H' i) k;obtain⟨d1,d2⟩:=Ea o.ah (c.M i) (c.H i) k;have hle:i<=l.length:=fZ (tA ho);by_cases hh:hidden o.ah (c.M i) k
 ·rw[b1 hh,ai];intro e;obtain⟨j,hj,hm,e',_⟩:=(R.yJ hle _ _).1 hh;have:=R.Ik hm hj hle;rw[←e',e]at this;omega
 ·rw[b2 hh,h1,Tr.gb,d2 hh]
theorem gA.EB(R:gA ih l c rs bs){i:Nat}{o:AO}(ho:l[i]?=some o)(hr:c.run i=true)(hc:cls o.op=.kJ)(k:K):
 (hidden o.ah (c.M i) k->(c.H (i+1)).get k=(c.H i).get k)/\(¬ hidden o.ah (c.M i) k->(c.H (i+1)).get k=(c.H' i).get k):=by
 rw[((R.step i o ho).kJ hr hc).1];exact Ab o.ah (c.M i) (c.H i) (c.H' i) k
theorem gA.Vf(R:gA ih l c rs bs){p q:Nat}(hpq:p<=q)(hq:q<=l.length){k:K}(hb:∀b,p<=b->b<q->∀o,l[b]?=some o->c.run b=true->cls o.op=.kJ->hidden o.ah (c.M b) k)
 (hk:∀j,p<=j->j<q->Mk l c j->k≠c.N j):(c.H q).get k=(c.H p).get k:=by
 induction q with
 | zero=>
  have:p=0:=by omega
  subst this;rfl
 | succ q j5=>
  rcases jR q p with h | h
  ·have:p=q+1:=by omega
   subst this;rfl
  ·have ihq:=j5 h (by omega) (λb h1 h2=>hb b h1 (by omega)) (λj h1 h2=>hk j h1 (by omega));rw[←ihq];by_cases h1:Mk l c q
   ·obtain⟨o,ob,_,_,_,_,h2⟩:=R.LN h1;rw[h2 k,ai (hk q h (by omega) h1)]
   ·by_cases h2:nD l c q
    ·obtain⟨o,ho,hr,hc⟩:=h2;exact(R.EB ho hr hc k).1 (hb q h (by omega) o ho hr hc)
    ·rw[(R.Ve (by omega) h1 h2).1]
theorem gA.aeb(R:gA ih l c rs bs){i j:Nat}{a b:AO}(hi:l[i]?=some a)(hj:l[j]?=some b){d:K}(h1:a.dst=some d)(h2:b.dst=some d):i=j:=by
 rcases Bu i j with h | h | h
 ·have:=(R.on i j a b h hi hj).2;simp only[BF,h1,h2,K.beq_refl]at this;cases this
 ·exact h
 ·have:=(R.on j i b a h hj hi).2;simp only[BF,h1,h2,K.beq_refl]at this;cases this
theorem gA.Vg(R:gA ih l c rs bs){q:Nat}(hq:q<=l.length)(k:K):
 (∃j o,j<q/\l[j]?=some o/\o.dst=some k/\(c.T q).get k=some (c.v j))\/((∀j o,j<q->l[j]?=some o->o.dst≠some k)/\(c.T q).get k=(c.T 0).get k):=by
 induction q with
 | zero=>exact .inr ⟨λj o h=>by omega,rfl⟩
 | succ q j5=>
  have ψ:q<l.length:=by omega
  obtain⟨o,ho⟩:∃o,l[q]?=some o:=⟨_,gP ψ⟩;have s:=(R.step q o ho).jT;rw[s];by_cases hd:o.dst=some k
  ·left;refine⟨q,o,by omega,ho,hd,?_⟩;simp only[eA,hd,Tr.gb,if_true]
  ·have e:(eA o.dst (some (c.v q)) (c.T q)).get k=(c.T q).get k:=by
    cases h:o.dst with
    | none=>rfl
    | some d=>simp only[eA];rw[Tr.gb,ai (λe=>hd (by rw[h,e]))]
   rw[e];rcases j5 (by omega) with ⟨j,o',h1,h2,h3,h4⟩ | ⟨h1,h2⟩
   ·exact .inl ⟨j,o',by omega,h2,h3,h4⟩
   ·refine .inr ⟨λj o' hj rj=>?_,h2⟩;rcases jR j q with h | h
    ·exact h1 j o' h rj
    ·have:j=q:=by omega
     subst this;rw[ho]at rj;injection rj with rj;subst rj;exact hd
theorem gA.looks(R:gA ih l c rs bs){i j:Nat}{a b:AO}(hi:l[i]?=some a)(hj:l[j]?=some b){d:K}(hd:b.dst=some d)(hl:d∈a.looks):Nat.testBit a.ah j=true\/Nat.testBit b.ah i=true\/i=j:=by
 have any:∀{l:List K},d∈l->l.any (K.beq d)=true:=λh=>List.any_eq_true.2 ⟨d,h,K.beq_refl d⟩;rcases Bu i j with h | h | h
 ·have:=(R.on i j a b h hi hj).1;simp only[zI,hd,any hl,Bool.not_true,Bool.and_false,Bool.or_false]at this;exact .inr (.inl this)
 ·exact .inr (.inr h)
 ·have:=(R.on j i b a h hj hi).1;simp only[zI,hd,any hl,Bool.not_true,Bool.and_false,Df,Bool.or_false]at this;exact .inl this
end
end
section
theorem aec{a b:Int}(h:sg a b=true):a=b:=by cases a<;>cases b<;>simp only[sg]at h<;>first | (cases h;done) | (rw[cZ h])
mutual
theorem wL:∀{a b:V},dH a b=true->a=b
 | .b x,y,h=>by cases y<;>simp only[dH]at h<;>first | (cases h;done) | (simp at h;rw[h])
 | .i k x,y,h=>by
  cases y<;>simp only[dH]at h<;>first | (cases h;done) | skip
  simp only[bG]at h;rw[G2 h.1,aec h.2]
 | .s l n,y,h=>by
  cases y<;>simp only[dH]at h<;>first | (cases h;done) | skip
  simp only[bG]at h;rw[cZ h.1,cZ h.2]
 | .np,y,h=>by cases y<;>simp only[dH]at h<;>first | rfl | (cases h;done)
 | .p b o,y,h=>by
  cases y<;>simp only[dH]at h<;>first | (cases h;done) | skip
  simp only[bG]at h;rw[K.beq_eq h.1,cZ h.2]
 | .ns,y,h=>by cases y<;>simp only[dH]at h<;>first | rfl | (cases h;done)
 | .sl b o l c,y,h=>by
  cases y<;>simp only[dH]at h<;>first | (cases h;done) | skip
  simp only[bG]at h;rw[K.beq_eq h.1.1.1,cZ h.1.1.2,cZ h.1.2,cZ h.2]
 | .su b o l c,y,h=>by
  cases y<;>simp only[dH]at h<;>first | (cases h;done) | skip
  simp only[bG]at h;rw[K.beq_eq h.1.1.1,cZ h.1.1.2,cZ h.1.2,cZ h.2]
 | .nm,y,h=>by cases y<;>simp only[dH]at h<;>first | rfl | (cases h;done)
 | .m b,y,h=>by cases y<;>simp only[dH]at h<;>first | (cases h;done) | (rw[K.beq_eq h])
 | .nf,y,h=>by cases y<;>simp only[dH]at h<;>first | rfl | (cases h;done)
 | .f g a c,y,h=>by
  cases y<;>simp only[dH]at h<;>first | (cases h;done) | skip
  simp only[bG]at h;rw[cZ h.1.1,yK h.1.2,yK h.2]
 | .y l,y,h=>by cases y<;>simp only[dH]at h<;>cases h
 | .ni,y,h=>by cases y<;>simp only[dH]at h<;>first | rfl | (cases h;done)
 | .lD t v,y,h=>by
  cases y<;>simp only[dH]at h<;>first | (cases h;done) | skip
  simp only[bG]at h;rw[cZ h.1,wL h.2]
 | .a l,y,h=>by cases y<;>simp only[dH]at h<;>first | (cases h;done) | (rw[yK h])
 | .u l,y,h=>by cases y<;>simp only[dH]at h<;>first | (cases h;done) | (rw[yK h])
 | .q,y,h=>by cases y<;>simp only[dH]at h<;>cases h
theorem yK:∀{a b:List V},lE a b=true->a=b
 | [],[],_=>rfl
 | [],_::_,h=>by simp only[lE]at h;cases h
 | _::_,[],h=>by simp only[lE]at h;cases h
 | a::l,b::l',h=>by simp only[lE,bG]at h;rw[wL h.1,yK h.2]
end
def Cut(l:List AO)(c:Canon)(D:Nat->Prop)(p:Nat):Prop:=p<=l.length/\∀b,nD l c b->(D b↔b<p)
structure Spec(l:List AO)(c:Canon)(D:Nat->Prop)(p:Nat)(Hd:Hp):Prop where
 base:∀k,(∀j,Mk l c j->k≠c.N j)->Hd.get k=(c.H p).get k
 done:∀j,Mk l c j->D j->Hd.get (c.N j)=if j<p then (c.H p).get (c.N j) else (c.H (j+1)).get (c.N j)
 not:∀j,Mk l c j->¬ D j->Hd.get (c.N j)=none
def Il(l:List AO)(D:Nat->Prop):Prop:=∀(i:Nat) (o:AO),D i->l[i]?=some o->∀k,Nat.testBit o.ah k=true->D k
structure u7(l:List AO)(c:Canon)(D:Nat->Prop):Prop where
 EC:∀k o,(c.H 0).get k=some o->k.num<(c.N 0).num/\nU (c.N 0) o
 bg:∀b,nD l c b->D b->∀k o,(c.H' b).get k=some o->k.num<(c.N (b+1)).num/\nU (c.N (b+1)) o
 make:∀j,Mk l c j->D j->∀o,(c.H (j+1)).get (c.N j)=some o->nU (c.N (j+1)) o
section
variable {ih:eh}{l:List AO}{c:Canon}{rs:List Rd}{bs:List Bg}{D:Nat->Prop}{p q:Nat}{Hd:Hp}
theorem u7.zL(F:u7 l c D)(R:gA ih l c rs bs)(hq:q<=l.length)(hb:∀b,b<q->nD l c b->D b)(k:K)(o:O)(hk:(c.H q).get k=some o):
 k.num<(c.N q).num/\((∀j,Mk l c j->k=c.N j->D j)->nU (c.N q) o):=by
 induction q generalizing k o with
 | zero=>exact⟨(F.EC k o hk).1,λ_=>(F.EC k o hk).2⟩
 | succ q j5=>
  have hN:=R.Va (i:=q) (by omega);have up:(c.H q).get k=some o->k.num<(c.N (q+1)).num/\((∀j,Mk l c j->k=c.N j->D j)->nU (c.N (q+1)) o):=λh=>
   let⟨h1,h2⟩:=j5 (by omega) (λb h1 h2=>hb b (by omega) h2) k o h
   ⟨by omega,λh=>(h2 h).mono hN⟩
  by_cases h1:Mk l c q
  ·obtain⟨a,ob,_,_,_,_,h2⟩:=R.LN h1;have h3:=h2 k;rw[hk]at h3;by_cases e:k=c.N q
   ·subst e;exact⟨R.Ik h1 (by omega) hq,λh=>F.make q h1 (h q h1 rfl) o hk⟩
   ·rw[ai e]at h3;exact up h3.symm
  ·by_cases h2:nD l c q
   ·have hD:=hb q (by omega) h2;obtain⟨a,ha,hr,hc⟩:=h2;obtain⟨g1,g2⟩:=R.EB ha hr hc k;by_cases hh:hidden a.ah (c.M q) k
    ·rw[g1 hh]at hk;exact up hk
    ·rw[g2 hh]at hk;have:=F.bg q ⟨a,ha,hr,hc⟩ hD k o hk;exact⟨this.1,λ_=>this.2⟩
   ·rw[(R.Ve (by omega) h1 h2).1]at hk;exact up hk
theorem gA.Im(R:gA ih l c rs bs){p q:Nat}(hpq:p<=q)(hq:q<=l.length){k:K}(hb:∀b,p<=b->b<q->¬ nD l c b)(hk:∀j,p<=j->j<q->Mk l c j->k≠c.N j):(c.H q).get k=(c.H p).get k:=
 R.Vf hpq hq (λb h1 h2 o ho hr hc=>absurd ⟨o,ho,hr,hc⟩ (hb b h1 h2)) hk
theorem Spec.move(S:Spec l c D p Hd)(R:gA ih l c rs bs)(hp:Cut l c D p)(hq:Cut l c D q):Spec l c D q Hd:=by
 have no:∀b,(p<=b/\b<q\/q<=b/\b<p)->¬ nD l c b:=λb h hb=>by
  have h1:=hp.2 b hb;have h2:=hq.2 b hb;rcases h with h | h
  ·have:=h1.1 (h2.2 h.2);omega
  ·have:=h2.1 (h1.2 h.2);omega
 have both:∀k,(∀j,(p<=j/\j<q\/q<=j/\j<p)->Mk l c j->k≠c.N j)->(c.H p).get k=(c.H q).get k:=λk hk=>by
  rcases Nat.le_total p q with h | h
  ·exact(R.Im h hq.1 (λb h1 h2=>no b (.inl ⟨h1,h2⟩)) (λj h1 h2=>hk j (.inl ⟨h1,h2⟩))).symm
  ·exact R.Im h hp.1 (λb h1 h2=>no b (.inr ⟨h1,h2⟩)) (λj h1 h2=>hk j (.inr ⟨h1,h2⟩))
 have ne:∀{j j'},Mk l c j->Mk l c j'->j≠j'->c.N j≠c.N j':=λh h' bC e=>bC (R.EA h h' e);refine⟨λk hk=>by rw[S.base k hk];exact both k λj _ hj=>hk j hj,λj hj hD=>?_,S.not⟩;rw[S.done j hj hD];by_cases h1:j<p
 ·rw[az h1];by_cases h2:j<q
  ·rw[az h2];exact both _ λj' h fb=>ne hj fb (by omega)
  ·rw[ai h2];exact R.Im h1 hp.1 (λb h3 h4=>no b (.inr ⟨by omega,h4⟩)) (λj' h3 h4 fb=>ne hj fb (by omega))
 ·rw[ai h1];by_cases h2:j<q
  ·rw[az h2];exact(R.Im h2 hq.1 (λb h3 h4=>no b (.inl ⟨by omega,h4⟩)) (λj' h3 h4 fb=>ne hj fb (by omega))).symm
  ·rw[ai h2]
theorem Cut.below(h:Cut l c D q):∀b,b<q->nD l c b->D b:=λb h1 h2=>(h.2 b h2).2 h1
theorem Spec.sub(S:Spec l c D q Hd)(R:gA ih l c rs bs)(F:u7 l c D)(hq:Cut l c D q)(k:K)(o:O)(hk:(c.H q).get k=some o)(hD:∀j,Mk l c j->k=c.N j->j<q->D j):Hd.get k=some o:=by
 by_cases h:∃j,Mk l c j/\k=c.N j
 ·obtain⟨j,hj,e⟩:=h;by_cases ψ:j<q
  ·have:=S.done j hj (hD j hj e ψ);rw[az ψ,←e,hk]at this;exact this
  ·have:=(F.zL R hq.1 hq.below k o hk).1;have h2:=R.mX (i:=q) (j:=j) (by omega) (fZ hj.lt);rw[←e]at h2;omega
 ·rw[S.base k λj hj e=>h ⟨j,hj,e⟩];exact hk
theorem aed(R:gA ih l c rs bs)(hc:Il l D){i:Nat}(hi:nD l c i)(hD:¬ D i){a:AO}(ha:l[i]?=some a)(sC:∀k,Nat.testBit a.ah k=true->D k):Cut l c D i:=by
 refine⟨fZ hi.lt,λb hb=>⟨λh=>?_,λh=>sC b (R.chain hb hi h ha)⟩⟩;rcases Bu b i with h1 | h1 | h1
 ·exact h1
 ·subst h1;exact absurd h hD
 ·obtain⟨o,ho,_⟩:=id hb;exact absurd (hc b o h ho i (R.chain hi hb h1 ho)) hD
theorem gA.Vh(R:gA ih l c rs bs){i b:Nat}{a o:AO}(ha:l[i]?=some a)(hr:c.run i=true)(hc:cls a.op=.read)(ho:l[b]?=some o)(hrb:c.run b=true)(Ju:cls o.op=.kJ)
 (h1:Nat.testBit a.ah b=false)(h2:Nat.testBit o.ah i=false){q:Nat}(hq:q=b\/q=b+1):∀n,simple a.op (c.T i) (ee (c.H q) a.ah (c.M l.length)) n=some (c.v i,ee (c.H q) a.ah (c.M l.length),n):=by
 have g1:=((R.step i a ha).read hr hc).2.2.2.2;have g2:=((R.step b o ho).kJ hrb Ju).2.2.2;have ag:=R.BB;unfold vT at ag;rw[ru]at ag;have:=ag _ g1;rw[ru]at this;have:=this _ g2;unfold Ev.BB at this;simp only[h1,h2,Bool.false_or,bG,Dy]at this;have key:∀H:Hp,(match simple a.op (c.T i) (ee H a.ah (c.M l.length)) .h with
  | some (v,_,_)=>dH v (c.v i)
  | none=>false)=true->∀n,simple a.op (c.T i) (ee H a.ah (c.M l.length)) n=some (c.v i,ee H a.ah (c.M l.length),n):=by
  intro H h n;obtain⟨x,hx⟩:=U7 (T:=c.T i) (H:=ee H a.ah (c.M l.length)) hc;rw[hx]at h ⊢;cases x with
  | none=>cases h
  | some v=>have:=wL h;subst this;rfl
 rcases hq with rfl | rfl
 ·exact key _ this.1
 ·exact key _ this.2
theorem aee(R:gA ih l c rs bs)(hc:Il l D){i:Nat}{a:AO}(ha:l[i]?=some a)(hr:c.run i=true)(iV:cls a.op=.read)(hD:¬ D i)(sC:∀k,Nat.testBit a.ah k=true->D k):
 ∃q,Cut l c D q/\∃Hs:Hp,(∀k ob,Hs.get k=some ob->(c.H q).get k=some ob/\∀j,Mk l c j->k=c.N j->j<q->D j)/\∀n,simple a.op (c.T i) Hs n=some (c.v i,Hs,n):=by
 have ψ:=tA ha;have LO:∀q s,q<=s->s<=l.length->∀k ob,(ee (c.H q) a.ah (c.M s)).get k=some ob->(c.H q).get k=some ob/\∀j,Mk l c j->k=c.N j->j<q->D j:=by
  intro q s hqs hs k ob h;refine⟨Rm _ _ _ _ _ h,λj hj e hjq=>sC j ?_⟩;cases hb:Nat.testBit a.ah j with
  | true=>rfl
  | false=>
   have hh:hidden a.ah (c.M s) k:=(R.yJ hs _ _).2 ⟨j,by omega,hj,e,hb⟩;rw[(Ea _ _ _ _).1 hh]at h;cases h
 by_cases lK:Cut l c D i
 ·refine⟨i,lK,ee (c.H i) a.ah (c.M i),LO i i (Γ _) (fZ ψ),?_⟩;have s:=(R.step i a ha).A5 hr;rw[Ez (by rw[iV];intro h;cases h)]at s;obtain⟨x,hx⟩:=U7 (T:=c.T i) (H:=ee (c.H i) a.ah (c.M i)) iV;intro n;rw[hx]at s ⊢;obtain⟨rfl,_⟩:=U8 s;rfl
 ·have:∃b,nD l c b/\¬ (D b↔b<i):=Classical.byContradiction λh=>lK ⟨fZ ψ,λb hb=>Classical.byContradiction λh'=>h ⟨b,hb,h'⟩⟩;obtain⟨b,hb,hn⟩:=this;by_cases zf:D b
  ·have hbi:¬ b<i:=λh=>hn ⟨λ_=>h,λ_=>zf⟩;obtain⟨r,⟨eR,fQ⟩,A2⟩:=ad9 (p:=λb=>nD l c b/\D b) (N:=l.length) (λn h=>h.1.lt) ⟨b,hb,zf⟩;have qb:b<=r:=Nat.le_of_not_lt λh=>A2 b h ⟨hb,zf⟩;have hri:i≠r:=λe=>hD (e▸fQ);obtain⟨o,ho,K8,YL⟩:=id eR;refine⟨r+1,⟨eR.lt,λb' jO=>⟨λh=>Nat.lt_succ_of_le (Nat.le_of_not_lt λh'=>A2 b' h' ⟨jO,h⟩),λh=>?_⟩⟩,_,LO (r+1) l.length eR.lt (Γ _),?_⟩
   ·rcases jR b' r with h1 | h1
    ·exact hc r o fQ ho b' (R.chain jO eR h1 ho)
    ·have:b'=r:=by omega
     subst this;exact fQ
   ·refine R.Vh ha hr iV ho K8 YL ?_ ?_ (.inr U)
    ·cases hx:Nat.testBit a.ah r with
     | false=>rfl
     | true=>have:=R.ah i a ha r hx;omega
    ·cases hx:Nat.testBit o.ah i with
     | false=>rfl
     | true=>exact absurd (hc r o fQ ho i hx) hD
  ·have hbi:b<i:=Classical.byContradiction λh=>hn ⟨λh'=>absurd h' zf,λh'=>absurd h' h⟩;obtain⟨r,⟨eR,fQ⟩,A2⟩:=ad8 (p:=λb=>nD l c b/\¬ D b) ⟨b,hb,zf⟩;have qb:r<=b:=Nat.le_of_not_lt λh=>A2 b h ⟨hb,zf⟩;obtain⟨o,ho,K8,YL⟩:=id eR;refine⟨r,⟨fZ eR.lt,λb' jO=>⟨λh=>?_,λh=>Classical.byContradiction λh'=>A2 b' h ⟨jO,h'⟩⟩⟩,_,LO r l.length (fZ eR.lt) (Γ _),?_⟩
   ·rcases Bu b' r with h1 | h1 | h1
    ·exact h1
    ·subst h1;exact absurd h fQ
    ·obtain⟨o',rj,_⟩:=id jO;exact absurd (hc b' o' h rj r (R.chain eR jO h1 rj)) fQ
   ·refine R.Vh ha hr iV ho K8 YL ?_ ?_ (.inl U)
    ·cases hx:Nat.testBit a.ah r with
     | false=>rfl
     | true=>exact absurd (sC r hx) fQ
    ·cases hx:Nat.testBit o.ah i with
     | false=>rfl
     | true=>have:=R.ah r o ho i hx;omega
end
end
section
def mu(D:Nat->Prop)(i:Nat):Nat->Prop:=λj=>D j\/j=i
section
variable {ih:eh}{l:List AO}{c:Canon}{rs:List Rd}{bs:List Bg}{D:Nat->Prop}{p q i:Nat}{Hd:Hp}{a:AO}
theorem LP(ha:l[i]?=some a)(h:cls a.op≠.make):¬ Mk l c i:=λ⟨o,h1,_,h2⟩=>by rw[ha]at h1;injection h1 with h1;subst h1;exact h h2
theorem LQ(ha:l[i]?=some a)(h:cls a.op≠.kJ):¬ nD l c i:=λ⟨o,h1,_,h2⟩=>by rw[ha]at h1;injection h1 with h1;subst h1;exact h h2
theorem aeg(h:c.run i=false):¬ Mk l c i:=λ⟨o,_,h1,_⟩=>by rw[h]at h1;cases h1
theorem aeh(h:c.run i=false):¬ nD l c i:=λ⟨o,_,h1,_⟩=>by rw[h]at h1;cases h1
theorem Cut.mu(h:Cut l c D p)(hb:¬ nD l c i):Cut l c (mu D i) p:=⟨h.1,λb sD=>by
 rw[←h.2 b sD];constructor
 ·rintro(h1 | h1)
  ·exact h1
  ·subst h1;exact absurd sD hb
 ·exact .inl⟩
theorem Spec.other(S:Spec l c D p Hd)(hm:¬ Mk l c i):Spec l c (Ev.mu D i) p Hd:=⟨S.base,λj hj hD=>by
 rcases hD with hD | rfl
 ·exact S.done j hj hD
 ·exact absurd hj hm,λj hj hD=>S.not j hj λh=>hD (.inl h)⟩
theorem u7.other(F:u7 l c D)(hm:¬ Mk l c i)(hb:¬ nD l c i):u7 l c (Ev.mu D i):=⟨F.EC,λb sD hD=>by
 rcases hD with hD | rfl
 ·exact F.bg b sD hD
 ·exact absurd sD hb,λj hj hD=>by
 rcases hD with hD | rfl
 ·exact F.make j hj hD
 ·exact absurd hj hm⟩
theorem aei(R:gA ih l c rs bs)(iV:Il l D)(F:u7 l c D)(lK:Cut l c D p)(S:Spec l c D p Hd)(ha:l[i]?=some a)(hr:c.run i=true)(hD:¬ D i)(sC:∀k,Nat.testBit a.ah k=true->D k):
 ∃(Hs:Hp) (n:K) (uh:Hp) (n':K),oper ih a.op (c.T i) Hs n=some (c.v i,uh,n')/\(c.N i).num<=n.num/\(∀k o,Hs.get k=some o->Hd.get k=some o/\k.num<n.num/\nU n o)/\(n'=n\/(n=c.N i/\n'=c.N (i+1)))/\((∀k o,uh.get k=some o->k.num<n'.num/\nU n' o)->∃Hn:Hp,(∀k o,Hn.get k=some o->(Hd.get k=some o/\Hs.get k=none)\/uh.get k=some o)/\(∃p,Cut l c (mu D i) p/\Spec l c (mu D i) p Hn)/\u7 l c (mu D i))/\(cu n' (c.v i)=true->cu (c.N (i+1)) (c.v i)=true):=by
 have ψ:=tA ha;have s:=R.step i a ha;have A5:=s.A5 hr;have Vi:∀(k:K) (o:O),(Tr.e:Hp).get k=some o->False:=λk o h=>by rw[Tr.iz]at h;cases h
 cases hc:cls a.op with
 | pure=>
  obtain⟨h1,h2,h3⟩:=s.pure hr hc;have fm:oper ih a.op (c.T i) .e (c.N i)=some (c.v i,.e,c.N i):=by rw[Ez (by rw[hc];intro h;cases h)]at A5 ⊢;obtain⟨x,hx⟩:=ad5 (T:=c.T i) hc;rw[hx]at A5 ⊢;obtain⟨rfl,_⟩:=U8 A5;rfl
  have m1:¬ Mk l c i:=LP ha (by rw[hc];intro h;cases h);have m2:¬ nD l c i:=LQ ha (by rw[hc];intro h;cases h);exact⟨.e,c.N i,.e,c.N i,fm,Γ _,λk o h=>(Vi k o h).elim,.inl U,λ_=>⟨Hd,λk o h=>.inl ⟨h,Tr.iz k⟩,⟨p,lK.mu m2,S.other m1⟩,F.other m1 m2⟩,λh=>by rw[h2];exact h⟩
 | read=>
  obtain⟨h1,h2,h3,h4,h5⟩:=s.read hr hc;obtain⟨q,hq,Hs,kh,mV⟩:=aee R iV ha hr hc hD sC;have m1:¬ Mk l c i:=LP ha (by rw[hc];intro h;cases h);have m2:¬ nD l c i:=LQ ha (by rw[hc];intro h;cases h);refine⟨Hs,c.N l.length,Hs,c.N l.length,?_,R.mX (fZ ψ) (Γ _),λk o hk=>?_,.inl U,λ_=>⟨Hd,λk o h=>?_,⟨p,lK.mu m2,S.other m1⟩,F.other m1 m2⟩,λ_=>by rw[h2];exact h4⟩
  ·rw[Ez (by rw[hc];intro h;cases h)];exact mV _
  ·obtain⟨g1,g2⟩:=kh k o hk;obtain⟨d1,d2⟩:=F.zL R hq.1 hq.below k o g1;have hN:=R.mX (i:=q) hq.1 (Γ _);refine⟨(S.move R lK hq).sub R F hq k o g1 g2,by omega,(d2 λj hj e=>?_).mono hN⟩;rcases jR j q with h | h
   ·exact g2 j hj e h
   ·have:=R.mX (i:=q) (j:=j) h (fZ hj.lt);rw[←e]at this;omega
  ·cases e:Hs.get k with
   | none=>exact .inl ⟨h,rfl⟩
   | some o'=>
    obtain⟨g1,g2⟩:=kh k o' e;have:=(S.move R lK hq).sub R F hq k o' g1 g2;rw[h]at this;injection this with this;subst this;exact .inr U
 | make=>
  have om:Mk l c i:=⟨a,ha,hr,hc⟩;obtain⟨o',ob,rj,_,_,fm,tB⟩:=R.LN om;rw[ha]at rj;injection rj with rj;subst rj;have m2:¬ nD l c i:=LQ ha (by rw[hc];intro h;cases h);have hN:=R.Vc om;have YM:(c.H (i+1)).get (c.N i)=some ob:=by rw[tB,az rfl]
  refine⟨.e,c.N i,(Tr.e:Hp).put (some ob) (c.N i),(c.N i).succ,?_,Γ _,λk o h=>(Vi k o h).elim,.inr ⟨rfl,hN.symm⟩,λhk=>⟨Hd.put (some ob) (c.N i),λk o h=>?_,⟨p,lK.mu m2,?_⟩,?_⟩,λh=>by rw[hN];exact h⟩
  ·rw[Ez (by rw[hc];intro h;cases h)];exact fm _
  ·rw[Tr.gb]at h;by_cases e:k=c.N i
   ·subst e;rw[az rfl]at h;right;rw[Tr.gb,az rfl];exact h
   ·rw[ai e]at h;exact .inl ⟨h,Tr.iz k⟩
  ·refine⟨λk hk=>?_,λj hj xj=>?_,λj hj xj=>?_⟩
   ·rw[Tr.GS _ _ (hk i om)];exact S.base k hk
   ·by_cases e:j=i
    ·subst e;rw[Tr.GR];by_cases hp:j<p
     ·rw[az hp];rw[R.Vf (p:=j+1) hp lK.1 (k:=c.N j) (λb h1 h2 o ho fo zM=>?_) (λj' h1 h2 fb e=>by have:=R.EA om fb e;omega)]
      ·exact YM.symm
      ·refine(R.yJ (fZ (tA ho)) _ _).2 ⟨j,by omega,om,rfl,?_⟩;cases hb:Nat.testBit o.ah j with
       | false=>rfl
       | true=>
        have zf:=(lK.2 b ⟨o,ho,fo,zM⟩).2 h2;exact absurd (iV b o zf ho j hb) hD
     ·rw[ai hp];exact YM.symm
    ·have LS:D j:=xj.resolve_right e;rw[Tr.GS _ _ (λe'=>e (R.EA hj om e'))];exact S.done j hj LS
   ·have e:j≠i:=λe=>xj (.inr e);rw[Tr.GS _ _ (λe'=>e (R.EA hj om e'))];exact S.not j hj λh=>xj (.inl h)
  ·refine⟨F.EC,λb hb zf=>F.bg b hb (zf.resolve_right λe=>m2 (e▸hb)),λj hj xj o ho=>?_⟩;by_cases e:j=i
   ·subst e;rw[YM]at ho;injection ho with ho;subst ho;have:=hk (c.N j) ob (Tr.GR _ _ _);rw[hN];exact this.2
   ·exact F.make j hj (xj.resolve_right e) o ho
 | kJ=>
  have hbg:nD l c i:=⟨a,ha,hr,hc⟩;have LU:=aed R iV hbg hD ha sC;have Si:=S.move R lK LU;obtain⟨b1,b2,b3,b4⟩:=s.kJ hr hc;have m1:¬ Mk l c i:=LP ha (by rw[hc];intro h;cases h);have hle:i<=l.length:=fZ ψ;have LO:∀k ob,(ee (c.H i) a.ah (c.M i)).get k=some ob->(c.H i).get k=some ob/\∀j,Mk l c j->k=c.N j->j<i->D j:=by
   intro k ob h;refine⟨Rm _ _ _ _ _ h,λj hj e hjq=>sC j ?_⟩;cases hb:Nat.testBit a.ah j with
   | true=>rfl
   | false=>
    have hh:hidden a.ah (c.M i) k:=(R.yJ hle _ _).2 ⟨j,hjq,hj,e,hb⟩;rw[(Ea _ _ _ _).1 hh]at h;cases h
  have zL:∀k ob,(ee (c.H i) a.ah (c.M i)).get k=some ob->Hd.get k=some ob/\k.num<(c.N i).num/\nU (c.N i) ob:=by
   intro k o hk;obtain⟨g1,g2⟩:=LO k o hk;obtain⟨d1,d2⟩:=F.zL R hle LU.below k o g1;refine⟨Si.sub R F LU k o g1 g2,d1,d2 λj hj e=>?_⟩;rcases jR j i with h | h
   ·exact g2 j hj e h
   ·have:=R.mX (i:=i) (j:=j) h (fZ hj.lt);rw[←e]at this;omega
  refine⟨_,c.N i,c.H' i,c.n' i,A5,Γ _,zL,.inr ⟨rfl,b2.symm⟩,λhk=>⟨back Hd (c.H' i) a.ah (c.M l.length),λk o h=>?_,⟨i+1,⟨ψ,λb hb=>?_⟩,?_⟩,?_⟩,λh=>by rw[b2];exact h⟩
  ·obtain⟨g1,g2⟩:=Ab a.ah (c.M l.length) Hd (c.H' i) k;by_cases hh:hidden a.ah (c.M l.length) k
   ·rw[g1 hh]at h;refine .inl ⟨h,?_⟩;obtain⟨j,hj,hm,e,hb⟩:=(R.yJ (Γ _) _ _).1 hh;cases hs:(ee (c.H i) a.ah (c.M i)).get k with
    | none=>rfl
    | some o'=>
     exfalso;rcases jR j i with h1 | h1
     ·rw[(Ea _ _ _ _).1 ((R.yJ hle _ _).2 ⟨j,h1,hm,e,hb⟩)]at hs;cases hs
     ·have d:=(zL k o' hs).2.1;have:=R.mX (i:=i) (j:=j) h1 (fZ hm.lt);rw[←e]at this;omega
   ·rw[g2 hh]at h;exact .inr h
  ·constructor
   ·rintro(h | h)
    ·have:=(LU.2 b hb).1 h;omega
    ·omega
   ·intro h;rcases jR b i with h1 | h1
    ·exact .inl ((LU.2 b hb).2 h1)
    ·exact .inr (by omega)
  ·have notM:∀k,(∀j,Mk l c j->k≠c.N j)->∀q,q<=l.length->¬ hidden a.ah (c.M q) k:=λk hk q hq h=>by
    obtain⟨j,_,hm,e,_⟩:=(R.yJ hq _ _).1 h;exact hk j hm e
   have ED:∀j q,Mk l c j->q<=l.length->(hidden a.ah (c.M q) (c.N j)↔j<q/\Nat.testBit a.ah j=false):=λj q hj hq=>by
    rw[R.yJ hq];constructor
    ·rintro⟨j',h1,h2,h3,h4⟩;have:=R.EA hj h2 h3;subst this;exact⟨h1,h4⟩
    ·rintro⟨h1,h2⟩;exact⟨j,h1,hj,rfl,h2⟩
   refine⟨λk hk=>?_,λj hj xj=>?_,λj hj xj=>?_⟩
   ·rw[(Ab a.ah (c.M l.length) Hd (c.H' i) k).2 (notM k hk _ (Γ _)),(R.EB ha hr hc k).2 (notM k hk i hle)]
   ·have bC:j≠i:=λe=>m1 (e▸hj);have LS:D j:=xj.resolve_right bC;cases hb:Nat.testBit a.ah j with
    | true=>
     have Jv:=R.ah i a ha j hb;rw[(Ab a.ah (c.M l.length) Hd (c.H' i) _).2 (λh=>by have:=((ED j _ hj (Γ _)).1 h).2;rw[hb]at this;cases this),az (by omega),(R.EB ha hr hc _).2 (λh=>by have:=((ED j _ hj hle).1 h).2;rw[hb]at this;cases this)]
    | false=>
     rw[(Ab a.ah (c.M l.length) Hd (c.H' i) _).1 ((ED j _ hj (Γ _)).2 ⟨hj.lt,hb⟩),Si.done j hj LS];by_cases h1:j<i
     ·rw[az h1,az (by omega)];rw[(R.EB ha hr hc _).1 ((ED j _ hj hle).2 ⟨h1,hb⟩)]
     ·rw[ai h1,ai (by omega)]
   ·have hb:Nat.testBit a.ah j=false:=by
     cases hb:Nat.testBit a.ah j with
     | false=>rfl
     | true=>exact absurd (.inl (sC j hb)) xj
    rw[(Ab a.ah (c.M l.length) Hd (c.H' i) _).1 ((ED j _ hj (Γ _)).2 ⟨hj.lt,hb⟩)];exact S.not j hj λh=>xj (.inl h)
  ·refine⟨F.EC,λb hb zf k o ho=>?_,λj hj xj=>F.make j hj (xj.resolve_right λe=>m1 (e▸hj))⟩;by_cases e:b=i
   ·subst e;rw[b2];exact hk k o ho
   ·exact F.bg b hb (zf.resolve_right e) k o ho
end
end
section
def eY(T:Tr V):List K->Tr V
 | []=>.e
 | k::l=>(eY T l).put (T.get k) k
theorem LV(T:Tr V)(l:List K)(k:K):(eY T l).get k=if k∈l then T.get k else none:=by
 induction l with
 | nil=>simp[eY,Tr.iz]
 | cons a l ih=>
  simp only[eY,Tr.gb,ih,fY];by_cases e:k=a
  ·subst e;simp
  ·simp[e]
structure Inv(ty:Ty)(l:List AO)(c:Canon)(η0:Env)(w0:World)(sz:Nat)(D:Nat->Prop)(η:Env)(Hd:Hp)(w:World)(tmps:Array Value):Prop where
 lim:∀j,D j->j<l.length
 closed:Il l D
 cut:∃p,Cut l c D p/\Spec l c D p Hd
 facts:u7 l c D
 rep:Hj (WW ty) η Hd w
 names:∀k L,η k=some L->k.num<(c.N 0).num\/∃j,D j/\(c.N j).num<=k.num/\k.num<(c.N (j+1)).num
 ext:η0.le η
 ef:∀k,k.num<(c.N 0).num->η k=η0 k
 kept:Kept (nt η0 (c.H 0) true) w0 w
 lF:∀m b,nt η Hd m b->nt η0 (c.H 0) m b\/w0.heap.size<=b
 size:tmps.size=sz
 below:∀j,D j->cu (c.N (j+1)) (c.v j)=true
 Vj:∀t v,(c.T 0).get (cT t)=some v->cu (c.N 0) v=true
 s1:∀j o t,D j->l[j]?=some o->o.dst=some (cT t)->∃y,tmps[t]?=some y/\aC η (c.v j) y
 s0:∀t v,(c.T 0).get (cT t)=some v->(∀j o,D j->l[j]?=some o->o.dst≠some (cT t))->∃y,tmps[t]?=some y/\aC η v y
section
variable {P:Program}{ty:Ty}{C:Nat->Option bP}{ih:eh}{l:List AO}{c:Canon}{rs:List Rd}{bs:List Bg}{D:Nat->Prop}{p q i:Nat}{Hd:Hp}{a:AO}{η0 η:Env}{w0 w:World}{sz:Nat}{tmps:Array Value}
theorem Inv.free(I:Inv ty l c η0 w0 sz D η Hd w tmps)(R:gA ih l c rs bs)(ψ:i<l.length)(hD:¬ D i){n n':K}(hn:n'=n\/(n=c.N i/\n'=c.N (i+1)))(k:K)(h1:n.num<=k.num)(h2:k.num<n'.num):η k=none:=by
 rcases hn with rfl | ⟨rfl,rfl⟩
 ·omega
 ·cases e:η k with
  | none=>rfl
  | some L=>
   exfalso;rcases I.names k L e with h | ⟨j,hj,h3,h4⟩
   ·have:=R.mX (i:=0) (j:=i) (by omega) (by omega);omega
   ·rcases Bu j i with h | h | h
    ·have:=R.mX (i:=j+1) (j:=i) (by omega) (by omega);omega
    ·subst h;exact hD hj
    ·have:=R.mX (i:=i+1) (j:=j) (by omega) (fZ (I.lim j hj));omega
theorem Inv.next(I:Inv ty l c η0 w0 sz D η Hd w tmps)(R:gA ih l c rs bs)(ha:l[i]?=some a)(hD:¬ D i)(sC:∀k,Nat.testBit a.ah k=true->D k){dst:Option Nat}(hd:a.dst=dst.map cT)(eQ:∀d,dst=some d->d<sz)
 {Hs uh Hn:Hp}{n n':K}{η1:Env}{w1:World}{y:Value}(ht:Trans (WW ty) (cY η n) Hs n w η1 uh n' w1)(kg:∀k o,Hs.get k=some o->Hd.get k=some o)(hn:n'=n\/(n=c.N i/\n'=c.N (i+1)))
 (F1:∀k o,Hn.get k=some o->(Hd.get k=some o/\Hs.get k=none)\/uh.get k=some o)(ke:∃p,Cut l c (mu D i) p/\Spec l c (mu D i) p Hn)(F:u7 l c (mu D i))
 (hy:aC (merge η η1 n n') (c.v i) y)(hb:cu (c.N (i+1)) (c.v i)=true):Inv ty l c η0 w0 sz (mu D i) (merge η η1 n n') Hn w1 (jX dst y tmps):=by
 have ψ:=tA ha;have hf:=I.free R ψ hD hn;obtain⟨g1,g2,g3⟩:=acU I.rep kg hf ht F1;have hle:=merge_le (η1:=η1) hf;have other:∀j o t,D j->l[j]?=some o->o.dst=some (cT t)->dst≠some t:=λj o t hj ho qB e=>by
  have:a.dst=some (cT t):=by rw[hd,e];rfl
  exact hD (R.aeb ho ha qB this▸hj)
 have Vk:∀t,dst≠some t->(jX dst y tmps)[t]?=tmps[t]?:=λt h=>by
  cases dst with
  | none=>rfl
  | some d=>simp only[jX];rw[gO,ai (λe=>h (by rw[e]))]
 refine⟨λj hj=>?_,λj o hj ho k hk=>?_,ke,F,g1,λk L hk=>?_,I.ext.trans hle,λk hk=>?_,?_,λm b hb=>?_,by rw[D2];exact I.size,λj hj=>?_,I.Vj,λj o t hj ho qB=>?_,λt v hv jn=>?_⟩
 ·rcases hj with hj | rfl
  ·exact I.lim j hj
  ·exact ψ
 ·rcases hj with hj | rfl
  ·exact .inl (I.closed j o hj ho k hk)
  ·rw[ha]at ho;injection ho with ho;subst ho;exact .inl (sC k hk)
 ·by_cases hr:n.num<=k.num/\k.num<n'.num
  ·rcases hn with rfl | ⟨rfl,rfl⟩
   ·omega
   ·exact .inr ⟨i,.inr U,hr.1,hr.2⟩
  ·unfold merge at hk;rw[ai hr]at hk;rcases I.names k L hk with h | ⟨j,h1,h2⟩
   ·exact .inl h
   ·exact .inr ⟨j,.inl h1,h2⟩
 ·unfold merge;rw[ai,I.ef k hk];rintro⟨h1,h2⟩;rcases hn with rfl | ⟨rfl,rfl⟩
  ·omega
  ·have:=R.mX (i:=0) (j:=i) (by omega) (by omega);omega
 ·refine⟨g2.os.trans I.kept.os,g2.tape.trans I.kept.tape,g2.output.trans I.kept.output,gY I.kept.size g2.size,λb hb hF=>?_,λb r hb=>let⟨r',h⟩:=I.kept.loops b r hb;g2.loops b r' h⟩;rw[g2.block b (fN hb I.kept.size) λKl=>?_,I.kept.block b hb hF];rcases I.lF _ _ Kl with h | h
  ·exact hF h
  ·omega
 ·rcases g3 m b hb with h | h
  ·exact I.lF m b h
  ·exact .inr (gY I.kept.size h)
 ·rcases hj with hj | rfl
  ·exact I.below j hj
  ·exact hb
 ·rcases hj with hj | rfl
  ·obtain⟨x,h1,h2⟩:=I.s1 j o t hj ho qB;exact⟨x,by rw[Vk t (other j o t hj ho qB)];exact h1,h2.mono hle⟩
  ·rw[ha]at ho;injection ho with ho;subst ho;cases dst with
   | none=>rw[hd]at qB;cases qB
   | some d=>
    rw[hd]at qB;have hdt:d=t:=GQ (by injection qB);subst hdt;refine⟨y,?_,hy⟩;simp only[jX,gO];rw[az trivial,az (by rw[I.size];exact eQ d rfl)]
 ·have bC:dst≠some t:=λe=>jn i a (.inr U) ha (by rw[hd,e];rfl);obtain⟨x,h1,h2⟩:=I.s0 t v hv λj o hj ho=>jn j o (.inl hj) ho;exact⟨x,by rw[Vk t bC];exact h1,h2.mono hle⟩
theorem Inv.jT(I:Inv ty l c η0 w0 sz D η Hd w tmps)(R:gA ih l c rs bs)(ha:l[i]?=some a)(hD:¬ D i)(sC:∀k,Nat.testBit a.ah k=true->D k):br (cY η (c.N i)) (eY (c.T i) a.looks) tmps:=by
 intro t v hv;rw[LV]at hv;by_cases hl:cT t∈a.looks
 ·rw[az hl]at hv;have ψ:=tA ha;rcases R.Vg (fZ ψ) (cT t) with ⟨j,o,h1,h2,h3,h4⟩ | ⟨h1,h2⟩
  ·rw[hv]at h4;injection h4 with h4;subst h4;rcases R.looks ha h2 h3 hl with h | h | h
   ·obtain⟨y,g1,g2⟩:=I.s1 j o t (sC j h) h2 h3;exact⟨y,g1,g2.cY (cu.mono (R.mX h1 (fZ ψ)) _ (I.below j (sC j h)))⟩
   ·have:=R.ah j o h2 i h;omega
   ·omega
  ·rw[hv]at h2;obtain⟨y,g1,g2⟩:=I.s0 t v h2.symm λj o hj ho qB=>by
    rcases R.looks ha ho qB hl with h | h | h
    ·exact h1 j o (R.ah i a ha j h) ho qB
    ·exact hD (I.closed j o hj ho i h)
    ·subst h;exact hD hj
   exact⟨y,g1,g2.cY (cu.mono (R.mX (rB i) (fZ ψ)) _ (I.Vj t v h2.symm))⟩
 ·rw[ai hl]at hv;cases hv
theorem aek{T:Tr V}{a:AO}{x:aJ}(hx:x∈a.op.fj):aI T x=aI (eY T a.looks) x:=by
 cases x with
 | c v=>rfl
 | t k=>
  have:k∈Ev.looks a.op.fj:=by
   generalize a.op.fj=xs at hx
   induction xs with
   | nil=>cases hx
   | cons y xs j5=>
    rcases fY.1 hx with h | h
    ·subst h;simp[Ev.looks]
    ·cases y with
     | t q=>simp only[Ev.looks,fY];exact .inr (j5 h)
     | c v=>simp only[Ev.looks];exact j5 h
  simp only[aI,LV];rw[az];unfold AO.looks;exact Di _ this
theorem ael{T:Tr V}{a:AO}:want a.guard (eY T a.looks)=want a.guard T:=by
 cases h:a.guard with
 | none=>rfl
 | some p=>
  obtain⟨k,b⟩:=p;simp only[want,LV];rw[az];unfold AO.looks;rw[h];simp
theorem Vl(η:Env)(n:K)(k:K)(h:n.num<=k.num):cY η n k=none:=by unfold cY;rw[ai (by omega)]
theorem Inv.sub(I:Inv ty l c η0 w0 sz D η Hd w tmps){Hs:Hp}{n:K}(h:∀k o,Hs.get k=some o->Hd.get k=some o/\k.num<n.num/\nU n o):bM (WW ty) (cY η n) Hs n w:=by
 refine⟨λk o hk=>?_,λk k' o o' L L' bC hk hm gD hL jm=>?_,Vl η n⟩
 ·obtain⟨h1,h2,h3⟩:=h k o hk;obtain⟨L,g1,g2,g3⟩:=I.rep.obj k o h1;exact⟨L,qH g1 h2,g2,g3.cY h3⟩
 ·exact I.rep.sep k k' o o' L L' bC (h k o hk).1 hm (h k' o' gD).1 (zY _ _ _ _ hL) (zY _ _ _ _ jm)
theorem Inv.eM(I:Inv ty l c η0 w0 sz D η Hd w tmps)(hG:cM η0 ty.g)(hf:∀k,(c.N 0).num<=k.num->η0 k=none){n:K}(hn:(c.N 0).num<=n.num):cM (cY η n) ty.g:=λg hg=>by
 obtain⟨L,h1,h2⟩:=hG g hg;refine⟨L,qH (I.ext _ _ h1) ?_,h2⟩;rcases jR (cT g).num (c.N 0).num with h | h
 ·omega
 ·rw[hf _ h]at h1;cases h1
theorem Inv.step(hC:Good P ty C)(fi:ml P ty ih)(R:gA ih l c rs bs){fr:Frame}{cs:List Frame}{ops:Array Oper}{rest:List Nat}{k:List Item}{ds:List Deferred}(hm:fr.mode=.run)
 (I:Inv ty l c η0 w0 sz D η Hd w tmps)(hG:cM η0 ty.g)(hf:∀k,(c.N 0).num<=k.num->η0 k=none){o:Oper}(ho:ops[i]?=some o){ah:Nat}(ha:l[i]?=some (jU ty ops o ah))(eQ:∀d,o.dst=some d->d<sz)
 (hD:¬ D i)(sC:∀k,Nat.testBit ah k=true->D k):
 ∃η' OF w' ep,Inv ty l c η0 w0 sz (mu D i) η' OF w' ep/\Steps P (lone (put fr tmps ds (.inRegion ops (i::rest)::k)) cs w) (lone (put fr ep ds (.inRegion ops rest::k)) cs w'):=by
 have st:=R.step i _ ha;have ψ:=tA ha;have YI:∃g,xJ ops o.guard=some g/\(jU ty ops o ah)={ dst:=o.dst.map cT,op:=(en ty o.op).getD .bad,guard:=g,ah:=ah}:=by
  cases hg:xJ ops o.guard with
  | some g=>exact⟨g,rfl,by simp[jU,hg]⟩
  | none=>
   exfalso;have e:jU ty ops o ah={ dst:=none,op:=.bad,guard:=none,ah:=ah}:=by simp[jU,hg]
   have hw:=st.want;rw[e]at hw;simp only[want,rq]at hw;have:=st.A5 hw.symm;rw[e]at this;simp only[oper,eN,simple]at this;cases this
 obtain⟨g,hg,zM⟩:=YI;have Io:∀k,Nat.testBit (jU ty ops o ah).ah k=true->D k:=λk hk=>sC k (by rw[zM]at hk;exact hk);have hT:=I.jT R ha hD Io;have wi:∀b,c.run i=b->Region.wanted o (yielded ops tmps)=b:=λb hb=>by have h:=st.want;rw[←ael (T:=c.T i),hb,zM]at h;rw[zM]at hT;exact KU hT hg h
 have Vm:(jU ty ops o ah).dst=o.dst.map cT:=by rw[zM]
 cases hr:c.run i with
 | false=>
  obtain⟨p,h1,h2⟩:=I.cut;have m1:=aeg (l:=l) hr;have m2:=aeh (l:=l) hr;have hv:=(st.not hr).1;have ht:Trans (WW ty) (cY η (c.N i)) .e (c.N i) w (cY η (c.N i)) .e (c.N i) w:=.refl (I.sub λk o h=>by rw[Tr.iz]at h;cases h);have:=I.next R ha hD Io Vm eQ ht (λk o h=>by rw[Tr.iz]at h;cases h) (.inl U) (Hn:=Hd) (λk o h=>.inl ⟨h,Tr.iz k⟩) ⟨p,h1.mu m2,h2.other m1⟩ (I.facts.other m1 m2) (y:=undef) (by rw[hv];exact KT _) (by rw[hv];rfl);exact⟨_,_,_,_,this,.one (Ra hm ho (wi false hr))⟩
 | true=>
  obtain⟨p,lK,hS⟩:=I.cut;obtain⟨Hs,n,uh,n',h1,h2,h3,h4,h5,h6⟩:=aei R I.closed I.facts lK hS ha hr hD Io;have OG:=R.mX (rB i) (fZ ψ);have K6:br (cY η n) (eY (c.T i) (jU ty ops o ah).looks) tmps:=hT.mono (acT η h2);have fm:oper ih (jU ty ops o ah).op (eY (c.T i) (jU ty ops o ah).looks) Hs n=some (c.v i,uh,n'):=by rw[←h1];exact(ad7 λx hx=>aek hx).symm
  cases rH:en ty o.op with
  | none=>rw[zM,rH]at h1;simp only[Option.getD_none,oper,eN,simple]at h1;cases h1
  | some A=>
   have hA:(jU ty ops o ah).op=A:=by rw[zM,rH];rfl
   rw[hA]at fm;obtain⟨η1,v',w1,g1,g2,g3⟩:=Q9 hC fi K6 (I.eM hG hf (gY OG h2)) (I.sub h3) rH fm (put fr tmps ds (.inRegion ops (i::rest)::k)) cs;obtain⟨Hn,q1,q2,q3⟩:=h5 λk ob hk=>⟨g1.rep.zL hk,let⟨L,_,_,q⟩:=g1.rep.obj k ob hk;q.below g1.rep.free⟩;have D8:η1.le (merge η η1 n n'):=by have h:=zY (merge η η1 n n') n';rw[Rl g1]at h;exact h
   have:=I.next R ha hD Io Vm eQ g1 (λk o h=>(h3 k o h).1) h4 q1 q2 q3 (g2.mono D8) (h6 (g2.mr g1.rep.free));refine⟨_,_,_,_,this,?_⟩;have pr:∀c,o.op≠.defer c:=λc e=>by rw[e]at rH;cases rH
   have dP:=DZ (P:=P) (cs:=cs) (w:=w) (fr:=put fr tmps ds (.inRegion ops (i::rest)::k)) hm rfl ho (wi true hr) pr;rw[eval_put]at dP;have kh:=Ha dP (λ_ _ _ _ h=>by cases h) g3;rw[G9,ho]at kh;exact kh
end
end
section
section aem
variable {ty:Ty}{ops:Array Oper}
theorem aen:∀(os:List Oper) (eB:List Nat) (j:Nat),(eO ty ops os eB)[j]?=(os[j]?).map λo=>jU ty ops o ((eB[j]?).getD 0):=by
 intro os
 induction os with
 | nil=>intro eB j;cases eB<;>simp[eO]
 | cons o os ih=>
  intro eB j;cases eB with
  | nil=>
   cases j with
   | zero=>simp[eO]
   | succ j=>simp only[eO,rn,ih];simp
  | cons a eB=>
   cases j with
   | zero=>simp[eO]
   | succ j=>simp only[eO,rn,ih]
theorem LW(o:Oper)(ah:Nat):(jU ty ops o ah).ah=ah:=by unfold jU;split<;>rfl
theorem aeo(eB:List Nat)(es:List Edge)(k:Nat):Nat.testBit (xK eB es) k=true↔∃e∈es,Region.binds .any e=true/\(k=e.on\/Nat.testBit ((nth eB e.on).getD 0) k=true):=by
 induction es with
 | nil=>simp[xK]
 | cons e es ih=>
  simp only[xK,fY,iW];by_cases hb:Region.binds .any e=true
  ·rw[az hb];show Nat.testBit ((2 ^ e.on ||| (nth eB e.on).getD 0) ||| xK eB es) k=true↔_;rw[Nat.testBit_or,Nat.testBit_or,Nat.testBit_two_pow,qm,qm,ih,bT];constructor
   ·rintro((h | h) | ⟨e',h1,h2⟩)
    ·exact⟨e,.inl U,hb,.inl h.symm⟩
    ·exact⟨e,.inl U,hb,.inr h⟩
    ·exact⟨e',.inr h1,h2⟩
   ·rintro⟨e',h1 | h1,h2,h3⟩
    ·subst h1;rcases h3 with h3 | h3
     ·exact .inl (.inl h3.symm)
     ·exact .inl (.inr h3)
    ·exact .inr ⟨e',h1,h2,h3⟩
  ·rw[ai hb,ih];constructor
   ·rintro⟨e',h1,h2⟩;exact⟨e',.inr h1,h2⟩
   ·rintro⟨e',h1 | h1,h2,h3⟩
    ·subst h1;exact absurd h2 hb
    ·exact⟨e',h1,h2,h3⟩
theorem aep{i:Nat}:∀{es:List Edge},DC i es=true->∀e∈es,Region.binds .any e=true->e.on<i:=by
 intro es
 induction es with
 | nil=>intro _ e h;cases h
 | cons a es ih=>
  intro h e he hb;simp only[DC,bG,qm,vN]at h;rcases fY.1 he with rfl | he
  ·rcases h.1 with h1 | h1
   ·rw[hb]at h1;cases h1
   ·simpa[gf]using h1
  ·exact ih h.2 e he hb
theorem aer{i:Nat}{a:AO}:∀{l:List AO},GO i a l=true->∀b∈l,zI i a b=true/\BF a b=true:=by
 intro l
 induction l with
 | nil=>intro _ b h;cases h
 | cons c l ih=>
  intro h b hb;simp only[GO,bG]at h;rcases fY.1 hb with rfl | hb
  ·exact h.1
  ·exact ih h.2 b hb
theorem LX{eB:List Nat}:∀{os:List Oper} {l:List AO} {i:Nat},xL eB i os l=true->∀(j:Nat) (o:Oper) (a:AO),os[j]?=some o->l[j]?=some a->a.ah=xK eB o.after.toList/\DC (i+j) o.after.toList=true/\∀(j':Nat) (b:AO),j<j'->l[j']?=some b->zI (i+j) a b=true/\BF a b=true:=by
 intro os
 induction os with
 | nil=>intro l i h j o a ho;simp at ho
 | cons o os ih=>
  intro l i h j o' a ho ha;cases l with
  | nil=>simp at ha
  | cons b l=>
   simp only[xL,bG]at h;obtain⟨⟨⟨h1,h2⟩,h3⟩,h4⟩:=h;cases j with
   | zero=>
    simp only[xq,rq]at ho ha;subst ho;subst ha;refine⟨cZ h1,h2,λj' c hj hc=>?_⟩;cases j' with
    | zero=>omega
    | succ j'=>
     simp only[rn]at hc;exact aer h3 c (List.mem_of_getElem? hc)
   | succ j=>
    simp only[rn]at ho ha;have:=ih h4 j o' a ho ha;rw[show Nat.succ i+j=i+(j+1) by omega]at this;refine⟨this.1,this.2.1,λj' c hj hc=>?_⟩;cases j' with
    | zero=>omega
    | succ j'=>
     simp only[rn]at hc;exact this.2.2 j' c (by omega) hc
theorem Vn{p p':Nat->Bool}:∀{L:List Nat},(∀x,p' x=true->p x=true)->∀{i:Nat},i∈L->p i=true->p' i=false->L.countP p'<L.countP p:=by
 intro L
 induction L with
 | nil=>intro _ i h;cases h
 | cons a L ih=>
  intro YN i hi h1 h2;have aqc:L.countP p'<=L.countP p:=List.countP_mono_left λx _=>YN x;rw[List.countP_cons,List.countP_cons];rcases fY.1 hi with e | hi
  ·subst e;rw[az h1,ai (by simp[h2])];omega
  ·have:=ih YN hi h1 h2;by_cases KP:p' a=true
   ·rw[az KP,az (YN a KP)];omega
   ·rw[ai KP];split<;>omega
end aem
section
variable {P:Program}{ty:Ty}{C:Nat->Option bP}{ih:eh}{c:Canon}{rs:List Rd}{bs:List Bg}{η0 η:Env}{w0 w:World}{sz:Nat}{tmps:Array Value}{ops:Array Oper}{Hd:Hp}
structure Ip(ty:Ty)(ops:Array Oper)(eB:List Nat)(l:List AO):Prop where
 len:l.length=ops.size
 get:∀(j:Nat) (o:Oper),ops[j]?=some o->l[j]?=some (jU ty ops o ((eB[j]?).getD 0))
 bit:∀(j:Nat) (o:Oper) (k:Nat),ops[j]?=some o->(Nat.testBit ((eB[j]?).getD 0) k=true↔∃e∈o.after,Region.binds .any e=true/\(k=e.on\/Nat.testBit ((eB[e.on]?).getD 0) k=true))
 low:∀(j:Nat) (o:Oper) (e:Edge),ops[j]?=some o->e∈o.after->Region.binds .any e=true->e.on<j
theorem aes{eB:List Nat}(h:xL eB 0 ops.toList (eO ty ops ops.toList eB)=true):Ip ty ops eB (eO ty ops ops.toList eB):=by
 have get:∀(j:Nat) (o:Oper),ops[j]?=some o->(eO ty ops ops.toList eB)[j]?=some (jU ty ops o ((eB[j]?).getD 0)):=λj o ho=>by
  have e:ops.toList[j]?=some o:=by rw[nK];exact ho
  rw[aen,e];rfl
 have len:(eO ty ops ops.toList eB).length=ops.size:=by
  have key:∀(os:List Oper) (eB:List Nat),(eO ty ops os eB).length=os.length:=by
   intro os
   induction os with
   | nil=>intro eB;cases eB<;>rfl
   | cons o os ih=>intro eB;cases eB<;>simp[eO,ih]
  rw[key];simp
 refine⟨len,get,λj o k ho=>?_,λj o e ho he hb=>?_⟩
 ·obtain⟨h1,_,_⟩:=LX h j o _ (by rw[nK];exact ho) (get j o ho);rw[LW]at h1;rw[h1,aeo];simp only[pL,Array.mem_toList_iff]
 ·obtain⟨_,h2,_⟩:=LX h j o _ (by rw[nK];exact ho) (get j o ho);have:=aep h2 e (by simpa using he) hb;omega
theorem Ip.ah{eB:List Nat}{l:List AO}(E:Ip ty ops eB l)(j:Nat):∀o,ops[j]?=some o->∀k,Nat.testBit ((eB[j]?).getD 0) k=true->k<j:=by
 induction j using Nat.strongRecOn with
 | ind j ih=>
  intro o ho k hk;obtain⟨e,he,hb,h⟩:=(E.bit j o k ho).1 hk;have Ap:=E.low j o e ho he hb;rcases h with rfl | h
  ·exact Ap
  ·have hj:=(oC.1 ho).1;have rj:ops[e.on]?=some ops[e.on]:=nI (by omega);have:=ih e.on Ap _ rj k h;omega
theorem aet{eB:List Nat}{l:List AO}(hC:Good P ty C)(fi:ml P ty ih)(R:gA ih l c rs bs)(E:Ip ty ops eB l){fr:Frame}{cs:List Frame}{k:List Item}{ds:List Deferred}(hm:fr.mode=.run)
 (hG:cM η0 ty.g)(hf:∀k,(c.N 0).num<=k.num->η0 k=none)(eQ:∀(i:Nat) (o:Oper),ops[i]?=some o->∀d,o.dst=some d->d<sz):
 ∀(fuel t:Nat) (listed:Array Bool) (η:Env) (Hd:Hp) (w:World) (tmps:Array Value),listed.size=ops.size->Inv ty l c η0 w0 sz (λj=>listed[j]?=some true) η Hd w tmps->(List.range ops.size).countP (λj=>listed[j]?!=some true)<=fuel->∃η' OF w' ep,Inv ty l c η0 w0 sz (λj=>j<ops.size) η' OF w' ep/\Steps P (lone (put fr tmps ds (.inRegion ops (Region.linearise.go .any ops fuel t listed [])::k)) cs w) (lone (put fr ep ds (.inRegion ops []::k)) cs w'):=by
 intro fuel;have done:∀(listed:Array Bool),listed.size=ops.size->(∀j,j<ops.size->listed[j]?=some true)->(λj=>listed[j]?=some true)=(λj=>j<ops.size):=by
  intro listed hs h;funext j;apply propext;constructor
  ·intro hj;rw[←hs];exact(oC.1 hj).1
  ·exact h j
 induction fuel with
 | zero=>
  intro t listed η Hd w tmps OH I aeu;have all:∀j,j<ops.size->listed[j]?=some true:=λj hj=>by
   have h0:(List.range ops.size).countP (λj=>listed[j]?!=some true)=0:=by omega
   rw[List.countP_eq_zero]at h0;have:=h0 j (List.mem_range.2 hj);simpa using this
  rw[done listed OH all]at I;exact⟨η,Hd,w,tmps,I,.refl _ _⟩
 | succ fuel j5=>
  intro t listed η Hd w tmps OH I aeu;simp only[Region.linearise.go];change ∃η' OF w' ep,_/\Steps P (lone (put fr tmps ds (.inRegion ops (match (Region.ready .any ops listed)[t % (Region.ready .any ops listed).length]? with
   | some i=>Region.linearise.go .any ops fuel (t / (Region.ready .any ops listed).length) (listed.setIfInBounds i true) [i]
   | none=>[].reverse)::k)) cs w) _
  cases hi:(Region.ready .any ops listed)[t % (Region.ready .any ops listed).length]? with
  | none=>
   have aev:Region.ready .any ops listed=[]:=by
    cases hr:Region.ready .any ops listed with
    | nil=>rfl
    | cons x xs=>
     rw[hr]at hi;have ψ:t % (x::xs).length<(x::xs).length:=mb _ (by simp);rw[List.getElem?_eq_none_iff]at hi;omega
   have all:∀j,j<ops.size->listed[j]?=some true:=by
    intro j
    induction j using Nat.strongRecOn with
    | ind j ihj=>
     intro hj;have CS:j<listed.size:=by omega
     have e:listed[j]?=some listed[j]:=nI CS;cases hv:listed[j] with
     | true=>rw[e,hv]
     | false=>
      exfalso;have:j∈Region.ready .any ops listed:=by rw[mem_ready];refine⟨by simp[xp,e,hv],ops[j],nI hj,λed he hb=>?_⟩;have Ap:=E.low j _ ed (nI hj) he hb;have:=ihj ed.on Ap (by omega);simp[xp,this]
      rw[aev]at this;cases this
   rw[done listed OH all]at I;exact⟨η,Hd,w,tmps,I,.refl _ _⟩
  | some i=>
   simp only[];rw[linearise_go_acc,List.reverse_singleton,List.singleton_append];obtain⟨hun,o,ho,jo⟩:=mem_ready.1 (List.mem_of_getElem? hi);have hio:i<ops.size:=(oC.1 ho).1;have pa:i<listed.size:=by omega
   have hD:¬ (listed[i]?=some true):=λh=>by simp[xp,h]at hun
   have hon:∀e∈o.after,Region.binds .any e=true->listed[e.on]?=some true:=λe he hb=>by
    have:=jo e he hb;rw[xp]at this;cases h:listed[e.on]? with
    | none=>rw[h]at this;cases this
    | some x=>rw[h]at this;simp at this;rw[this]
   have sC:∀q,Nat.testBit ((eB[i]?).getD 0) q=true->listed[q]?=some true:=λq hq=>by
    obtain⟨e,he,hb,h⟩:=(E.bit i o q ho).1 hq;have h1:=hon e he hb;rcases h with rfl | h
    ·exact h1
    ·have Ap:=E.low i o e ho he hb;have:=I.closed e.on _ h1 (E.get e.on _ (nI (by omega))) q (by rw[LW];exact h);exact this
   obtain⟨η1,YO,w1,LY,I1,s1⟩:=I.step hC fi R (cs:=cs) (rest:=Region.linearise.go .any ops fuel (t / (Region.ready .any ops listed).length) (listed.setIfInBounds i true) []) (k:=k) (ds:=ds) hm hG hf ho (E.get i o ho) (eQ i o ho) hD sC;have hDe:(mu (λj=>listed[j]?=some true) i) = λj=>(listed.setIfInBounds i true)[j]?=some true:=by
    funext j;apply propext;rw[gO];unfold mu;by_cases e:i=j
    ·subst e;simp[pa]
    ·rw[ai e];constructor
     ·rintro(h | h)
      ·exact h
      ·exact absurd h.symm e
     ·exact .inl
   rw[hDe]at I1;have hc:(List.range ops.size).countP (λj=>(listed.setIfInBounds i true)[j]?!=some true)<(List.range ops.size).countP (λj=>listed[j]?!=some true):=by
    refine Vn (λx hx=>?_) (List.mem_range.2 hio) ?_ ?_
    ·rw[gO]at hx;by_cases e:i=x
     ·subst e;simp[pa]at hx
     ·rw[ai e]at hx;exact hx
    ·simpa using hD
    ·simp[gO,pa]
   obtain⟨η2,Hd2,w2,D3,I2,s2⟩:=j5 (t / (Region.ready .any ops listed).length) (listed.setIfInBounds i true) η1 YO w1 LY (by simp[OH]) I1 (by omega);exact⟨η2,Hd2,w2,D3,I2,Steps.trans s1 s2⟩
theorem LZ{N:Nat}:∀{l:List Oper},iZ N l=true->∀o∈l,∀d,o.dst=some d->d<N:=by
 intro l
 induction l with
 | nil=>intro _ o h;cases h
 | cons p l lU=>
  intro h o hm d CP;simp only[iZ,bG]at h;rcases fY.1 hm with rfl | hm
  ·rw[CP]at h;have:=h.1;simp only[gf,bT]at this;exact this
  ·exact lU h.2 o hm d CP
theorem aew(hC:Good P ty C)(fi:ml P ty ih)(hu:wJ ih)(id:Nat)(ops:Array Oper)(T:Tr V)(H:Hp)(n:K)(r:R)(hd:xL (Region.before ops).toList 0 ops.toList (eO ty ops ops.toList (Region.before ops).toList)=true)
 (hr:ca (λ_=>none) ih (.code (.regd (eO ty ops ops.toList (Region.before ops).toList)) T) H n=some r)(η:Env)(w:World)(fr:Frame)(cs:List Frame)(k:List Item)(hw:within fr.tmps.size (.region id ops true)=true)
 (hT:br η T fr.tmps)(hG:cM η ty.g)(hH:bM (WW ty) η H n w)(hm:fr.mode=.run)(hl:kO fr w):
 ∃η' tmps ds w',Trans (WW ty) η H n w η' r.H r.n w'/\tmps.size=fr.tmps.size/\br η' r.T tmps/\Marks w.heap.size η' r.H w' ds fr.defers/\jv P η' (lone (put fr fr.tmps fr.defers (.code (.region id ops true)::k)) cs w) fr cs k r.ex tmps ds w':=by
 simp only[ca]at hr;have E:=aes (ty:=ty) hd;obtain⟨hex,c,rs,bs,_,_,c1,c2,c3,c4,c5,c6,c7,c8,c9⟩:=acV _ _ _ _ _ _ _ _ _ hr;simp only[hY]at c5 c6 c7 c8 c9;have R:gA ih (eO ty ops ops.toList (Region.before ops).toList) c rs bs:=by
  refine⟨hu,c9,c8,λi j a b ua ha hb=>?_,λi a ha q hq=>?_,c4⟩
  ·have hi:i<ops.size:=by rw[←E.len];exact tA ha
   have:=LX hd i ops[i] a (by rw[nK];exact nI hi) ha;rw[hY]at this;exact this.2.2 j b ua hb
  ·have hi:i<ops.size:=by rw[←E.len];exact tA ha
   have e:=E.get i _ (nI hi);rw[ha]at e;injection e with e;rw[e,LW]at hq;exact E.ah i _ (nI hi) q hq
 have L3:∀k,(c.N 0).num<=k.num->η k=none:=λq hq=>hH.free q (by rw[c3]at hq;exact hq);have I0:Inv ty (eO ty ops ops.toList (Region.before ops).toList) c η w fr.tmps.size (λj=>(Array.replicate ops.size false)[j]?=some true) η H { w with drawn:=w.drawn+1} fr.tmps:=by
  have no:∀j,¬ ((Array.replicate ops.size false)[j]?=some true):=λj h=>by rw[Array.getElem?_replicate]at h;split at h<;>simp at h
  refine⟨λj h=>absurd h (no j),λi o h=>absurd h (no i),⟨0,⟨rB _,λb _=>⟨λh=>absurd h (no b),λh=>by omega⟩⟩,⟨λq _=>by rw[c2],λj _ h=>absurd h (no j),λj hj _=>?_⟩⟩,⟨λq o hq=>?_,λb _ h=>absurd h (no b),λj _ h=>absurd h (no j)⟩,⟨hH.obj,hH.sep⟩,λq L hq=>.inl ?_,.refl _,λ_ _=>rfl,⟨rfl,rfl,rfl,Γ _,λ_ _ _=>rfl,λ_ r h=>⟨r,h⟩⟩,λm b hb=>.inl (by rw[c2];exact hb),rfl,λj h=>absurd h (no j),λt v hv=>?_,λj o t h=>absurd h (no j),λt v hv _=>hT t v (by rw[c1]at hv;exact hv)⟩
  ·cases e:H.get (c.N j) with
   | none=>rfl
   | some o=>
    have h1:=hH.zL e;have h2:=R.mX (rB j) (fZ hj.lt);rw[c3]at h2;omega
  ·rw[c2]at hq;rw[c3];obtain⟨L,_,_,h⟩:=hH.obj q o hq;exact⟨hH.zL hq,h.below hH.free⟩
  ·rw[c3];rcases jR q.num n.num with h | h
   ·exact h
   ·rw[hH.free q h]at hq;cases hq
  ·rw[c1]at hv;rw[c3];obtain⟨y,_,h⟩:=hT t v hv;exact h.mr hH.free
 have eQ:∀(i:Nat) (o:Oper),ops[i]?=some o->∀d,o.dst=some d->d<fr.tmps.size:=λi o ho d qB=>
  LZ (show iZ fr.tmps.size ops.toList=true from hw) o (by simpa using Array.mem_of_getElem? ho) d qB
 obtain⟨η1,YO,w1,LY,I1,s1⟩:=aet hC fi R E (cs:=cs) (k:=k) (ds:=fr.defers) hm hG L3 eQ ops.size (w.tape w.drawn (.order fr.fn id)) (Array.replicate ops.size false) η H _ fr.tmps (by simp) I0
  (by have:=List.countP_le_length (p:=λj=>(Array.replicate ops.size false)[j]?!=some true) (l:=List.range ops.size);simpa using this)
 have hlen:(eO ty ops ops.toList (Region.before ops).toList).length=ops.size:=E.len;obtain⟨p,lK,hS⟩:=I1.cut;have aex:Cut (eO ty ops ops.toList (Region.before ops).toList) c (λj=>j<ops.size) (eO ty ops ops.toList (Region.before ops).toList).length:=
  ⟨Γ _,λb hb=>by rw[hlen]⟩
 have hS':=hS.move R lK aex;have tB:∀q,YO.get q=r.H.get q:=λq=>by
  rw[←c6];by_cases h:∃j,Mk (eO ty ops ops.toList (Region.before ops).toList) c j/\q=c.N j
  ·obtain⟨j,hj,rfl⟩:=h;have:=hS'.done j hj (by rw[←hlen];exact hj.lt);rw[az hj.lt]at this;exact this
  ·exact hS'.base q λj hj e=>h ⟨j,hj,e⟩
 have OG:(c.N 0).num<=r.n.num:=by rw[←c7];exact R.mX (rB _) (Γ _)
 refine⟨η1,LY,fr.defers,w1,⟨I1.ext,by rw[c3]at OG;exact OG,⟨λq o hq=>I1.rep.obj q o (by rw[tB];exact hq),λq q' o o' L L' bC hq Jw hJ=>I1.rep.sep q q' o o' L L' bC (by rw[tB];exact hq) Jw (by rw[tB];exact hJ),λq hq=>?_⟩,?_,λm b hb=>?_,λq hq=>I1.ef q (by rw[c3];exact hq)⟩,I1.size,λt v hv=>?_,.refl _ _ _ _ _,?_⟩
 ·cases e:η1 q with
  | none=>rfl
  | some L=>
   exfalso;rcases I1.names q L e with h | ⟨j,h1,h2,h3⟩
   ·omega
   ·have:=R.mX (i:=j+1) (j:=(eO ty ops ops.toList (Region.before ops).toList).length) (by rw[hlen];exact h1) (Γ _);rw[c7]at this;omega
 ·have:=I1.kept;rw[c2]at this;exact this
 ·have:=I1.lF m b (by obtain⟨q,o,L,h1,h2⟩:=hb;exact⟨q,o,L,by rw[tB];exact h1,h2⟩);rw[c2]at this;exact this
 ·rw[←c5]at hv;rcases R.Vg (Γ _) (cT t) with ⟨j,o,h1,h2,h3,h4⟩ | ⟨h1,h2⟩
  ·rw[hv]at h4;injection h4 with h4;subst h4;exact I1.s1 j o t (by rw[←hlen];exact h1) h2 h3
  ·rw[hv]at h2;exact I1.s0 t v h2.symm λj o hj ho=>h1 j o (by rw[hlen];exact hj) ho
 ·rw[hex];have dP:step P (lone (put fr fr.tmps fr.defers (.code (.region id ops true)::k)) cs w)=
   .next (lone (put fr fr.tmps fr.defers (.inRegion ops (Region.linearise.go .any ops ops.size (w.tape w.drawn (.order fr.fn id)) (Array.replicate ops.size false) [])::k)) cs { w with drawn:=w.drawn+1}):=by
   obtain⟨fn,nP,todo,defers,mode,kind,roundOf⟩:=fr;simp only at hm;subst hm;refine iY ?_;simp[put,stepG,stepG.exec,choose,Sem.run,Question.forced,Question.cut,Region.schedule,hC.mixed,Region.linearise]
  exact Steps.head dP (Steps.trans s1 (.one (Hb hm)))
end
end
end Go.Ev
