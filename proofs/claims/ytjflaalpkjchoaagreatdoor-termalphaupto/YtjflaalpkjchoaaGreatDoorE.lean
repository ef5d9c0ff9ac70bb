/- A part of the proof. -/
import Derived.Orders
import Derived.Maps.RangeRun
import Derived.Test.YtjflaalpkjchoaaGreatDoorC
set_option linter.all false
namespace Go.Ev
open Go
section
def uw(ih:cV):Prop:=∀j H n r,ih j H n=some r->n.num<=r.n.num
section
variable {ih:cV}{C:Nat->Option aE}
def RN(a:uw ih){op:A}{T:Tr V}{H H':Hp}{n n':K}{v:V}(h:oper ih op T H n=some (v,H',n')):n.num<=n'.num:=by
 cases op with
 | lO f l=>
  obtain⟨c,lv,T',_,_,b⟩:=Qr h;exact a _ _ _ _ b
 | _=>rw[xO (by intro f l h;cases h)]at h;exact Cc (QG h)
def RP(a:uw ih){op:A}{T:Tr V}{H:Hp}{n:K}{r:R}(h:dG ih op T H n=some r):n.num<=r.n.num:=by
 cases op with
 | lO f l=>
  simp only[dG]at h;split at h
  ·exact a _ _ _ _ h
  ·cases h
 | tR x=>
  simp only[dG]at h;split at h
  ·injection h with h;subst h;exact ξ _
  ·cases h
 | _=>
  unfold dG at h;simp only at h;split at h
  ·rename_i h1;injection h with h;subst h;exact Cc (QG h1)
  ·cases h
def Fv(b:uw ih):∀(l:List AO) (T:Tr V) (H:Hp) (n:K) (r:R),fc ih l T H n=some r->n.num<=r.n.num:=by
 intro l
 induction l with
 | nil=>intro T H n r h;simp only[fc]at h;injection h with h;subst h;exact ξ _
 | cons o l c=>
  intro T H n r h;simp only[fc]at h;split at h
  ·split at h
   ·rename_i a;exact eF (RP b a) (c _ _ _ _ h)
   ·rename_i a;injection h with h;subst h;have:=RP b a;exact this
   ·cases h
  ·exact c _ _ _ _ h
  ·cases h
def afh(b:uw ih):∀(l:List AO) (i:Nat) (T:Tr V) (H:Hp) (n:K) (m:Made) (rs:List Rd) (bs:List Bg) (r:R),eo ih l i T H n m rs bs=some r->n.num<=r.n.num:=by
 intro l
 induction l with
 | nil=>
  intro i T H n m rs bs r h;simp only[eo,gU]at h;split at h
  ·injection h with h;subst h;exact ξ _
  ·cases h
 | cons o l a=>
  intro i T H n m rs bs r h;simp only[eo]at h;split at h
  ·split at h
   case h_2=>cases h
   rename_i v H1 n1 c;have h1:=RN b c;split at h
   ·exact a _ _ _ _ _ _ _ _ h
   ·simp only[gU]at h;split at h
    ·exact a _ _ _ _ _ _ _ _ h
    ·cases h
   ·exact eF h1 (a _ _ _ _ _ _ _ _ h)
   ·exact eF h1 (a _ _ _ _ _ _ _ _ h)
  ·exact a _ _ _ _ _ _ _ _ h
  ·cases h
def RQ:∀{es:List TE} {l:List V} {H:Hp} {n:K} {r:V×Hp×K},Ez es l H n=some r->∃e∈es,e.fits l H n=true/\r=(e.v,e.add,e.n'):=by
 intro es
 induction es with
 | nil=>intro l H n r h;cases h
 | cons e es ih=>
  intro l H n r h;simp only[Ez,gU]at h;split at h
  ·rename_i hf;injection h with h;exact⟨e,by simp,hf,h.symm⟩
  ·obtain⟨a,h1,h2⟩:=ih h;exact⟨a,by simp[h1],h2⟩
def afi{p:Pm}{l:List V}{H H':Hp}{n n':K}{v:V}(h:pm p l H n=some (v,H',n')):n.num<=n'.num:=by
 cases p with
 | jw es=>
  obtain⟨e,_,hf,he⟩:=RQ h;injection he with h1 h2;injection h2 with h2 a;simp only[TE.fits,aD]at hf;have:=(cmp_eq _ _ _).1 hf.1.2;rw[a];rcases this with h | ⟨_,h⟩<;>omega
 | tS=>
  simp only[pm,BG,gU]at h
  repeat' split at h
  all_goals first
   | (cases h;done)
   | exact Cc (Fg h)
 | BC bQ u=>
  simp only[pm,gU]at h
  repeat' split at h
  all_goals first
   | (cases h;done)
   | exact Cc (Fg h)
 | same=>
  simp only[pm,HL]at h;split at h
  ·exact Cc (Fg h)
  ·cases h
def afj(e:uw ih):uw (aS C ih):=by
 intro j H n r h;cases j with
 | code c T=>
  cases c with
  | skip=>simp only[aS]at h;injection h with h;subst h;exact ξ _
  | reg l=>exact Fv e _ _ _ _ _ h
  | regd l=>exact afh e _ _ _ _ _ _ _ _ _ h
  | seq a b=>
   simp only[aS]at h;split at h
   ·rename_i h1;exact eF (e _ _ _ _ h1) (e _ _ _ _ h)
   ·exact e _ _ _ _ h
  | cond c a b=>
   simp only[aS]at h;split at h
   ·exact e _ _ _ _ h
   ·cases h
  | block id c=>
   simp only[aS,gU]at h;split at h
   ·rename_i h1;have:=e _ _ _ _ h1;split at h<;>(injection h with h;subst h;exact this)
   ·exact e _ _ _ _ h
  | loop c=>
   simp only[aS]at h;split at h
   ·rename_i h1;exact eF (e _ _ _ _ h1) (e _ _ _ _ h)
   ·exact e _ _ _ _ h
  | oX f ps bZ body=>
   simp only[aS,gU]at h;split at h
   case h_2=>cases h
   split at h
   case h_2=>cases h
   rename_i T1 v1 H1 n1 h1;have:n.succ.num<=n1.num:=e _ _ _ _ h1;rw[K.eI]at this;split at h
   ·split at h
    ·cases h
    ·injection h with h;subst h;show n.num<=n1.num;omega
   ·split at h
    ·cases h
    ·injection h with h;subst h;show n.num<=n1.num;omega
   ·cases h
  | exit id=>simp only[aS]at h;injection h with h;subst h;exact ξ _
  | scope c=>exact e _ _ _ _ h
  | jC d x l c ws=>
   simp only[aS]at h;split at h
   case h_2=>cases h
   rename_i b hb;split at h
   case h_2=>cases h
   rename_i m since hm;split at h
   case h_2=>cases h
   rename_i es bp he;cases o:Nat.beq since bp&&jl bp 0 es with
   | false=>rw[o]at h;cases h
   | true=>
    rw[o]at h;simp only[cond_true]at h;have part:∀(v:V) (T:Tr V) (H:Hp) (n:K) (r:R),(match fc ih l (da d (some v) T) H n with
     | some ⟨.normal,T,_,H,n⟩=>ih (.code c T) H n
     | _=>none)=some r->n.num<=r.n.num:=by
     intro v T H n r h;split at h
     ·rename_i h1;have g1:=Fv e _ _ _ _ _ h1;have i:=e _ _ _ _ h;exact eF g1 i
     ·cases h
    have over:∀(T:Tr V) (H:Hp) (n:K) (r:R),(match fc ih l (da d (some (.u [.b false])) T) H n with
     | some ⟨.normal,T,_,H,n⟩=>(match ih (.code c T) H n with
      | some ⟨.normal,_,_,_,_⟩=>none
      | r=>r)
     | _=>none)=some r->n.num<=r.n.num:=by
     intro T H n r h;split at h
     ·rename_i h1;have g1:=Fv e _ _ _ _ _ h1;split at h
      ·cases h
      ·have i:=e _ _ _ _ h;exact eF g1 i
     ·cases h
    split at h
    ·split at h
     ·rename_i h1;have g1:=part _ _ _ _ _ h1;split at h
      ·simp only[gU]at h;split at h
       ·have i:=over _ _ _ _ h;exact eF g1 i
       ·cases h
      ·cases h
     ·exact part _ _ _ _ _ h
    ·simp only[gU]at h;split at h
     ·split at h
      ·exact over _ _ _ _ h
      ·injection h with h;subst h;exact ξ _
      ·cases h
     ·cases h
  | ret=>simp only[aS]at h;injection h with h;subst h;exact ξ _
  | bad=>cases h
 | call f l=>
  cases f with
  | f g a c=>
   simp only[aS]at h;split at h
   ·split at h
    ·rename_i h1;injection h with h;subst h;exact afi h1
    ·cases h
   ·split at h
    case h_2=>cases h
    split at h
    ·cases h
    ·rename_i h1;injection h with h;subst h;have:=e _ _ _ _ h1;exact this
    ·rename_i h1;split at h
     ·injection h with h;subst h;have:=e _ _ _ _ h1;exact this
     ·cases h
    ·cases h
   ·split at h
    case h_2=>cases h
    split at h
    case h_2=>cases h
    rename_i h0;have g0:=Fv e _ _ _ _ _ h0;split at h
    case h_2=>cases h
    split at h
    ·cases h
    ·rename_i h1;have g1:=e _ _ _ _ h1;split at h
     case h_2=>cases h
     split at h
     ·cases h
     ·cases h
     ·rename_i h2;have i:=e _ _ _ _ h2;split at h
      ·injection h with h;subst h;exact eF g0 (eF g1 i)
      ·cases h
     ·cases h
    ·cases h
   ·cases h
  | y k=>
   simp only[aS,gU]at h;split at h
   case h_2=>cases h
   split at h
   case h_2=>cases h
   split at h
   case isFalse=>cases h
   split at h
   case h_2=>cases h
   rename_i h1;split at h
   case h_2=>cases h
   split at h
   case h_2=>cases h
   rename_i r2 h2;split at h
   case h_2=>cases h
   split at h
   ·cases h
   injection h with h;subst h;have g1:=e _ _ _ _ h1;have i:=e _ _ _ _ h2;exact eF g1 i
  | _=>cases h
end
section
variable {ih:cV}{C:Nat->Option aE}
def afk{op:A}{T:Tr V}{H H':Hp}{n n':K}{v:V}(a:AP op=true)(h:simple op T H n=some (v,H',n')):H'=H/\n'=n:=by
 have ok:∀{x:Option V},cU H n x=some (v,H',n')->H'=H/\n'=n:=λ{x} h=>by
  cases x with
  | none=>cases h
  | some y=>injection h with h;injection h with _ h;injection h with h1 h2;exact⟨h1.symm,h2.symm⟩
 have so:∀{x:V},some (x,H,n)=some (v,H',n')->H'=H/\n'=n:=λh=>by injection h with h;injection h with _ h;injection h with h1 h2;exact⟨h1.symm,h2.symm⟩
 cases op<;>first | (cases a;done) | skip
 all_goals simp only[simple,gU]at h
 all_goals (repeat' split at h)
 all_goals first
  | (cases h;done)
  | exact ok h
  | exact so h
def Aa(ih:cV):Prop:=∀c T H n r,quiet c=true->ih (.code c T) H n=some r->r.H=H/\r.n=n/\∀k,k ∉ c.writes->r.T.get k=T.get k
def Jy{d:Option K}{v:Option V}{T:Tr V}{k:K}(h:∀e,d=some e->k≠e):(da d v T).get k=T.get k:=by
 cases d with
 | none=>rfl
 | some e=>exact Tr.tY _ _ (h e rfl)
def Jz:∀(l:List AO) (T:Tr V) (H:Hp) (n:K) (r:R),(l.all λo=>AP o.op)=true->fc ih l T H n=some r->r.H=H/\r.n=n/\∀k,k ∉ sP l->r.T.get k=T.get k:=by
 intro l
 induction l with
 | nil=>intro T H n r _ h;simp only[fc]at h;injection h with h;subst h;exact⟨rfl,rfl,λ_ _=>rfl⟩
 | cons o l i=>
  intro T H n r b h;simp only[List.all_cons,aD]at b;have off:∀{v:Option V} {k:K},k ∉ sP (o::l)->(da o.dst v T).get k=T.get k/\k ∉ sP l:=λ{v k} a=>by
   unfold sP at a;cases j:o.dst with
   | none=>rw[j]at a;exact⟨rfl,a⟩
   | some d=>
    rw[j]at a;simp only[cD,not_or]at a;exact⟨Jy λe he=>by injection he with he;subst he;exact a.1,a.2⟩
  simp only[fc]at h;have st:dG ih o.op T H n=match simple o.op T H n with | some (v,H,n)=>some ⟨.normal,.e,v,H,n⟩ | none=>none:=by cases m:o.op<;>first | rfl | (rw[m]at b;exact absurd b.1 (by simp[AP]))
  split at h
  ·rw[st]at h;cases hs:simple o.op T H n with
   | none=>rw[hs]at h;cases h
   | some x=>
    obtain⟨v,H1,n1⟩:=x;rw[hs]at h;obtain⟨rfl,rfl⟩:=afk b.1 hs;obtain⟨c,f,g⟩:=i _ _ _ _ b.2 h;exact⟨c,f,λk a=>by rw[g k (off (v:=some v) a).2];exact(off a).1⟩
  ·obtain⟨c,f,g⟩:=i _ _ _ _ b.2 h;exact⟨c,f,λk a=>by rw[g k (off (v:=some (.u [])) a).2];exact(off a).1⟩
  ·cases h
def RR(m:Aa ih):Aa (aS C ih):=by
 intro c T H n r d h;cases c with
 | skip=>simp only[aS]at h;injection h with h;subst h;exact⟨rfl,rfl,λ_ _=>rfl⟩
 | exit i=>simp only[aS]at h;injection h with h;subst h;exact⟨rfl,rfl,λ_ _=>rfl⟩
 | ret=>simp only[aS]at h;injection h with h;subst h;exact⟨rfl,rfl,λ_ _=>rfl⟩
 | reg l=>exact Jz l T H n r d h
 | seq a b=>
  simp only[quiet,aD]at d;simp only[aS]at h;split at h
  ·rename_i T1 v1 H1 n1 h1;obtain⟨e,f,g⟩:=m _ _ _ _ _ d.1 h1;obtain⟨b1,b2,b3⟩:=m _ _ _ _ _ d.2 h;simp only at e f g;refine⟨b1.trans e,b2.trans f,λk j=>?_⟩;simp only[AC.writes,eG,not_or]at j;rw[b3 k j.2,g k j.1]
  ·obtain⟨e,f,g⟩:=m _ _ _ _ _ d.1 h;refine⟨e,f,λk j=>?_⟩;simp only[AC.writes,eG,not_or]at j;exact g k j.1
 | cond c a b=>
  simp only[quiet,aD]at d;simp only[aS]at h;split at h
  ·rename_i x o;cases x with
   | true=>
    obtain⟨e,f,g⟩:=m _ _ _ _ _ d.1 h;refine⟨e,f,λk j=>?_⟩;simp only[AC.writes,eG,not_or]at j;exact g k j.1
   | false=>
    obtain⟨e,f,g⟩:=m _ _ _ _ _ d.2 h;refine⟨e,f,λk j=>?_⟩;simp only[AC.writes,eG,not_or]at j;exact g k j.2
  ·cases h
 | block i c=>
  simp only[quiet]at d;simp only[aS]at h;split at h
  ·rename_i h1;obtain⟨e,f,g⟩:=m _ _ _ _ _ d h1;simp only[gU]at h;split at h<;>(injection h with h;subst h;exact⟨e,f,g⟩)
  ·obtain⟨e,f,g⟩:=m c T H n r d h;exact⟨e,f,g⟩
 | _=>cases d
end
end
section
section
variable {W:Nat->Code->AC->Prop}{η η1:Env}{n m:K}
def pz{k:K}{L:Loc}(h:η k=some L)(a:k.num<n.num):bX η n k=some L:=by unfold bX;rw[ab a];exact h
mutual
theorem an.bX:∀{v:V} {x:Value},an η v x->bz n v=true->an (bX η n) v x
 | _,_,.b x,_=>.b x
 | _,_,.i k n,_=>.i k n
 | _,_,.s l n h,_=>.s l n h
 | _,_,.np,_=>.np
 | _,_,.p b o L h,hb=>.p b o L (pz h (qw.1 (by simpa[bz]using hb)))
 | _,_,.ns,_=>.ns
 | _,_,.sl b o l c L h,hb=>.sl b o l c L (pz h (qw.1 (by simpa[bz]using hb)))
 | _,_,.su b o l e L c h h1 h2,hb=>.su b o l e L c (pz h (qw.1 (by simpa[bz]using hb))) h1 h2
 | _,_,.se b o e A L h,hb=>.se b o e A L (pz h (qw.1 (by simpa[bz]using hb)))
 | _,_,.nm,_=>.nm
 | _,_,.m b L h,hb=>.m b L (pz h (qw.1 (by simpa[bz]using hb)))
 | _,_,.nf,_=>.nf
 | _,_,.f g a c a' c' h h',hb=>by simp only[bz,aD]at hb;exact .f g a c a' c' (aL.bX h hb.1) (aL.bX h' hb.2)
 | _,_,.y l L h,hb=>.y l L (pz h (qw.1 (by simpa[bz]using hb)))
 | _,_,.ni,_=>.ni
 | _,_,.j9 t v v' h,hb=>.j9 t v v' (an.bX h (by simpa[bz]using hb))
 | _,_,.a l l' h,hb=>.a l l' (aL.bX h (by simpa[bz]using hb))
 | _,_,.u l l' h,hb=>.u l l' (aL.bX h (by simpa[bz]using hb))
 | _,_,.q v,_=>.q v
theorem aL.bX:∀{v:List V} {x:List Value},aL η v x->gG n v=true->aL (bX η n) v x
 | _,_,.nil,_=>.nil
 | _,_,.cons v v' l l' h h',hb=>by simp only[gG,aD]at hb;exact .cons v v' l l' (an.bX h hb.1) (aL.bX h' hb.2)
end
def wg(hf:∀k,n.num<=k.num->η k=none){k:K}{L:Loc}(h:η k=some L):K.cmp false k n=true:=by
 rw[qw];rcases jA k.num n.num with h1 | h1
 ·exact h1
 ·rw[hf k h1]at h;cases h
mutual
theorem an.kF (hf:∀k,n.num<=k.num->η k=none):∀{v:V} {x:Value},an η v x->bz n v=true
 | _,_,.b x=>rfl
 | _,_,.i k n=>rfl
 | _,_,.s l n h=>rfl
 | _,_,.np=>rfl
 | _,_,.p b o L h=>by simp only[bz];exact wg hf h
 | _,_,.ns=>rfl
 | _,_,.sl b o l c L h=>by simp only[bz];exact wg hf h
 | _,_,.su b o l e L c h h1 h2=>by simp only[bz];exact wg hf h
 | _,_,.se b o e A L h=>by simp only[bz];exact wg hf h
 | _,_,.nm=>rfl
 | _,_,.m b L h=>by simp only[bz];exact wg hf h
 | _,_,.nf=>rfl
 | _,_,.f g a c a' c' h h'=>by simp only[bz,aD];exact⟨aL.kF hf h,aL.kF hf h'⟩
 | _,_,.y l L h=>by simp only[bz];exact wg hf h
 | _,_,.ni=>rfl
 | _,_,.j9 t v v' h=>by simp only[bz];exact an.kF hf h
 | _,_,.a l l' h=>by simp only[bz];exact aL.kF hf h
 | _,_,.u l l' h=>by simp only[bz];exact aL.kF hf h
 | _,_,.q v=>rfl
theorem aL.kF (hf:∀k,n.num<=k.num->η k=none):∀{v:List V} {x:List Value},aL η v x->gG n v=true
 | _,_,.nil=>rfl
 | _,_,.cons v v' l l' h h'=>by simp only[gG,aD];exact⟨an.kF hf h,aL.kF hf h'⟩
end
mutual
theorem bz.mono (iE:n.num<=m.num):∀(v:V),bz n v=true->bz m v=true
 | .p b _,h | .sl b _ _ _,h | .su b _ _ _,h | .m b,h | .y b,h=>by simp only[bz,qw]at h ⊢;omega
 | .f _ a c,h=>by simp only[bz,aD]at h ⊢;exact⟨gG.mono iE a h.1,gG.mono iE c h.2⟩
 | .j9 _ v,h=>by simp only[bz]at h ⊢;exact bz.mono iE v h
 | .a l,h | .u l,h=>by simp only[bz]at h ⊢;exact gG.mono iE l h
 | .b _,_ | .i _ _,_ | .s _ _,_ | .np,_ | .ns,_ | .nm,_ | .nf,_ | .ni,_ | .q,_=>rfl
theorem gG.mono (iE:n.num<=m.num):∀(l:List V),gG n l=true->gG m l=true
 | [],_=>rfl
 | v::l,h=>by simp only[gG,aD]at h ⊢;exact⟨bz.mono iE v h.1,gG.mono iE l h.2⟩
end
def RS{l:List V}(h:gG n l=true){v:V}(hv:v∈l):bz n v=true:=by
 induction l with
 | nil=>cases hv
 | cons a l ih=>
  simp only[gG,aD]at h;rcases cD.1 hv with rfl | hv
  ·exact h.1
  ·exact ih h.2 hv
def RT{l:List V}(h:∀v∈l,bz n v=true):gG n l=true:=by
 induction l with
 | nil=>rfl
 | cons a l ih=>simp only[gG,aD];exact⟨h a (by simp),ih λv hv=>h v (by simp[hv])⟩
def ux(n:K):List (V×V×Nat)->Prop
 | []=>True
 | (k,v,_)::l=>bz n k=true/\bz n v=true/\ux n l
def mC(n:K):O->Prop
 | .c l _ _ | .r l=>gG n l=true
 | .b x y _=>bz n x=true/\bz n y=true
 | .mp es _=>ux n es
 | .it _ _ _=>True
 | .mi b _=>b.num<n.num
 | .me b _ _=>b.num<n.num
 | .lp _ _ T _ _ _=>∀t v,T.get (bF t)=some v->bz n v=true
def ux.mono(iE:n.num<=m.num):∀{l:List (V×V×Nat)},ux n l->ux m l
 | [],_=>trivial
 | (k,v,_)::l,⟨a,b,c⟩=>⟨bz.mono iE k a,bz.mono iE v b,ux.mono iE c⟩
def mC.mono(iE:n.num<=m.num){o:O}(h:mC n o):mC m o:=by
 cases o with
 | c l e fz=>exact gG.mono iE _ h
 | r l=>exact gG.mono iE _ h
 | b x y e=>exact⟨bz.mono iE _ h.1,bz.mono iE _ h.2⟩
 | mp es c=>exact ux.mono iE h
 | it=>trivial
 | mi b c=>exact eE h iE
 | me b c t=>exact eE h iE
 | lp r p T ps a b=>exact λt v hv=>bz.mono iE v (h t v hv)
def dM.bX:∀{l:List (V×V×Nat)} {l':List MapEntry},dM η l l'->ux n l->dM (bX η n) l l'
 | [],[],_,_=>trivial
 | (_,_,_)::_,_::_,⟨a,b,c,d⟩,⟨p,q,r⟩=>⟨a.bX p,b.bX q,c,dM.bX d r⟩
def dM.below(hf:∀k,n.num<=k.num->η k=none):∀{l:List (V×V×Nat)} {l':List MapEntry},dM η l l'->ux n l
 | [],[],_=>trivial
 | (_,_,_)::_,_::_,⟨a,b,c,d⟩=>⟨a.kF hf,b.kF hf,dM.below hf d⟩
def aK.bX{T:Tr V}{t:Array Value}(h:aK η T t)(hb:∀t v,T.get (bF t)=some v->bz n v=true):aK (bX η n) T t:=λk v hv=>
 let⟨x,h1,h2⟩:=h k v hv;⟨x,h1,h2.bX (hb k v hv)⟩
def gN.bX{o:O}{L:Loc}{x:Option Obj}(h:gN W η o L x)(hb:mC n o):gN W (bX η n) o L x:=by
 cases o with
 | c l e fz=>
  obtain⟨cs,fr,h1,h2,d,f,g⟩:=h;exact⟨cs,fr,h1,h2,d,λi v hi=>let⟨y,a,b⟩:=f i v hi;⟨y,a,b.bX (RS hb (List.mem_of_getElem? hi))⟩,g⟩
 | r l=>
  obtain⟨cs,e,fr,h1,f⟩:=h;exact⟨cs,e,fr,h1,λi v hi=>let⟨y,a,b⟩:=f i v hi;⟨y,a,b.bX (RS hb (List.mem_of_getElem? hi))⟩⟩
 | b x y e=>obtain⟨h0,u,v,h1,h2,d⟩:=h;exact⟨h0,u,v,h1,h2.bX hb.1,d.bX hb.2⟩
 | mp es c=>obtain⟨j,h1,h2⟩:=h;exact⟨j,h1,h2.bX hb⟩
 | it l n pos=>exact h
 | mi b since=>obtain⟨h0,Lb,h1,h2⟩:=h;exact⟨h0,Lb,pz h1 hb,h2⟩
 | me m c t=>obtain⟨h0,Lm,since,seen,h1,h2,d⟩:=h;exact⟨h0,Lm,since,seen,pz h1 hb,h2,d⟩
 | lp ready gn T ps bZ body=>obtain⟨r,h1,h2,d,f,g⟩:=h;exact⟨r,h1,h2,d,f.bX hb,g⟩
def gN.below(hf:∀k,n.num<=k.num->η k=none){o:O}{L:Loc}{x:Option Obj}(h:gN W η o L x):mC n o:=by
 cases o with
 | c l e fz=>
  obtain⟨cs,fr,h1,h2,d,a,f⟩:=h;exact RT λv hv=>let⟨i,hi⟩:=List.getElem?_of_mem hv;let⟨y,_,b⟩:=a i v hi;b.kF hf
 | r l=>
  obtain⟨cs,e,fr,h1,a⟩:=h;exact RT λv hv=>let⟨i,hi⟩:=List.getElem?_of_mem hv;let⟨y,_,b⟩:=a i v hi;b.kF hf
 | b x y e=>obtain⟨h0,u,v,h1,h2,d⟩:=h;exact⟨h2.kF hf,d.kF hf⟩
 | mp es c=>obtain⟨g,h1,h2⟩:=h;exact h2.below hf
 | it l n pos=>trivial
 | mi b since=>obtain⟨h0,Lb,h1,h2⟩:=h;exact qw.1 (wg hf h1)
 | me m c t=>obtain⟨h0,Lm,since,seen,h1,h2,d⟩:=h;exact qw.1 (wg hf h1)
 | lp ready gn T ps bZ body=>obtain⟨r,h1,h2,d,a,f⟩:=h;exact λt v hv=>let⟨x,_,b⟩:=a t v hv;b.kF hf
end
end
section
section
variable {T:Tr V}{H:Hp}{n:K}{op:A}
def afl(d:cls op=.pure):∃x:Option V,∀H n,simple op T H n=cU H n x:=by
 cases op<;>(try (simp only[cls]at d;cases d;done))
 case mv x=>exact⟨_,λ_ _=>rfl⟩
 case pick c a b=>
  simp only[simple];cases aq T c with
  | none=>exact⟨none,λ_ _=>rfl⟩
  | some v=>cases v<;>first | exact⟨_,λ_ _=>rfl⟩ | exact⟨none,λ_ _=>rfl⟩
 case bld zs ps=>simp only[simple];cases qh T zs ps with
  | none=>exact⟨none,λ_ _=>rfl⟩
  | some l=>exact⟨some (.a l),λ_ _=>rfl⟩
 case nck x=>simp only[simple];cases aq T x with
  | none=>exact⟨none,λ_ _=>rfl⟩
  | some v=>cases v with
   | p b o=>exact⟨some (.p b o),λ_ _=>rfl⟩
   | f g a c=>exact⟨some (.f g a c),λ_ _=>rfl⟩
   | y l=>exact⟨some (.y l),λ_ _=>rfl⟩
   | _=>exact⟨none,λ_ _=>rfl⟩
 case bin o k x y=>simp only[simple];cases aq T x with
  | none=>exact⟨none,λ_ _=>rfl⟩
  | some v=>cases aq T y with
   | none=>exact⟨none,λ_ _=>rfl⟩
   | some u=>exact⟨_,λ_ _=>rfl⟩
 case un o x=>simp only[simple];cases aq T x with
  | none=>exact⟨none,λ_ _=>rfl⟩
  | some v=>exact⟨_,λ_ _=>rfl⟩
 case cv k x=>
  simp only[simple];cases aq T x with
  | none=>exact⟨none,λ_ _=>rfl⟩
  | some v=>
   cases k with
   | toInt k=>cases v<;>first | exact⟨none,λ_ _=>rfl⟩ | exact⟨some _,λ_ _=>rfl⟩
   | same=>cases v<;>first | exact⟨none,λ_ _=>rfl⟩ | exact⟨some _,λ_ _=>rfl⟩
   | BA=>cases d
   | Hz e=>cases d
   | GQ=>cases d
   | GR u=>cases d
   | AL=>
    cases v<;>try exact⟨none,λ_ _=>rfl⟩
    rename_i k m;cases m with
    | negSucc=>exact⟨none,λ_ _=>rfl⟩
    | ofNat m=>
     simp only[qJ];cases qU m with
     | true=>exact⟨some _,λ_ _=>rfl⟩
     | false=>exact⟨none,λ_ _=>rfl⟩
 case mif t x=>simp only[simple];cases aq T x with
  | none=>exact⟨none,λ_ _=>rfl⟩
  | some v=>exact⟨some (.j9 t v),λ_ _=>rfl⟩
 case mfn f a c=>simp only[simple];cases eZ T a with
  | none=>exact⟨none,λ_ _=>rfl⟩
  | some v=>cases eZ T c with
   | none=>exact⟨none,λ_ _=>rfl⟩
   | some u=>exact⟨some (.f f v u),λ_ _=>rfl⟩
 case sli k x lo hi mx=>simp only[simple];cases aq T x with
  | none=>exact⟨none,λ_ _=>rfl⟩
  | some v=>exact⟨_,λ_ _=>rfl⟩
 case fad off x=>simp only[simple];cases aq T x with
  | none=>exact⟨none,λ_ _=>rfl⟩
  | some v=>cases v with
   | p b o=>exact⟨some (.p b (Nat.add o off)),λ_ _=>rfl⟩
   | _=>exact⟨none,λ_ _=>rfl⟩
 case fld agg off sz x=>simp only[simple];cases aq T x with
  | none=>exact⟨none,λ_ _=>rfl⟩
  | some v=>cases v with
   | a l=>
    cases agg with
    | false=>exact⟨_,λ_ _=>rfl⟩
    | true=>
     simp only[cond_true];cases cw l off sz with
     | none=>exact⟨none,λ_ _=>rfl⟩
     | some l'=>exact⟨some (.a l'),λ_ _=>rfl⟩
   | _=>exact⟨none,λ_ _=>rfl⟩
 case iad arr z x i=>simp only[simple];cases aq T x with
  | none=>exact⟨none,λ_ _=>rfl⟩
  | some v=>cases aq T i with
   | none=>exact⟨none,λ_ _=>rfl⟩
   | some u=>
    cases u<;>try exact⟨none,λ_ _=>rfl⟩
    rename_i k m;cases m with
    | negSucc=>exact⟨none,λ_ _=>rfl⟩
    | ofNat m=>
     cases arr with
     | some q=>
      cases v with
      | p b o=>
       simp only;cases Nat.blt m q with
       | true=>exact⟨some (.p b (Nat.add o (Nat.mul m z))),λ_ _=>rfl⟩
       | false=>exact⟨none,λ_ _=>rfl⟩
      | _=>exact⟨none,λ_ _=>rfl⟩
     | none=>
      cases v with
      | sl b o l c=>
       simp only;cases Nat.blt m l with
       | true=>exact⟨some (.p b (Nat.add o (Nat.mul m z))),λ_ _=>rfl⟩
       | false=>exact⟨none,λ_ _=>rfl⟩
      | su b o l e=>
       simp only;cases Nat.blt m l with
       | true=>exact⟨some (.p b (Nat.add o (Nat.mul m z))),λ_ _=>rfl⟩
       | false=>exact⟨none,λ_ _=>rfl⟩
      | _=>exact⟨none,λ_ _=>rfl⟩
 case idx arr x i=>simp only[simple];cases aq T x with
  | none=>exact⟨none,λ_ _=>rfl⟩
  | some v=>cases aq T i with
   | none=>exact⟨none,λ_ _=>rfl⟩
   | some u=>
    cases u<;>try exact⟨none,λ_ _=>rfl⟩
    rename_i k m;cases m with
    | negSucc=>exact⟨none,λ_ _=>rfl⟩
    | ofNat m=>
     cases arr with
     | none=>
      cases v with
      | s l q=>
       simp only;cases Nat.blt m l with
       | true=>exact⟨some _,λ_ _=>rfl⟩
       | false=>exact⟨none,λ_ _=>rfl⟩
      | _=>exact⟨none,λ_ _=>rfl⟩
     | some q=>
      obtain⟨q,z,agg⟩:=q;cases v with
      | a l=>
       simp only;cases Nat.blt m q with
       | false=>exact⟨none,λ_ _=>rfl⟩
       | true=>
        cases agg with
        | false=>exact⟨_,λ_ _=>rfl⟩
        | true=>
         simp only[cond_true];cases cw l (Nat.mul m z) z with
         | none=>exact⟨none,λ_ _=>rfl⟩
         | some l'=>exact⟨some (.a l'),λ_ _=>rfl⟩
      | _=>exact⟨none,λ_ _=>rfl⟩
 case tas t z ok x=>simp only[simple];cases aq T x with
  | none=>exact⟨none,λ_ _=>rfl⟩
  | some v=>cases v with
   | ni=>cases ok with
    | true=>exact⟨some _,λ_ _=>rfl⟩
    | false=>exact⟨none,λ_ _=>rfl⟩
   | j9 t' u=>
    simp only;cases Nat.beq t t' with
    | true=>exact⟨some _,λ_ _=>rfl⟩
    | false=>cases ok with
     | true=>exact⟨some _,λ_ _=>rfl⟩
     | false=>exact⟨none,λ_ _=>rfl⟩
   | _=>exact⟨none,λ_ _=>rfl⟩
 case ext x i=>simp only[simple];cases aq T x with
  | none=>exact⟨none,λ_ _=>rfl⟩
  | some v=>cases v with
   | u l=>exact⟨_,λ_ _=>rfl⟩
   | _=>exact⟨none,λ_ _=>rfl⟩
 case cap arr x=>simp only[simple];cases arr with
  | some m=>exact⟨some _,λ_ _=>rfl⟩
  | none=>cases aq T x with
   | none=>exact⟨none,λ_ _=>rfl⟩
   | some v=>cases v with
    | ns=>exact⟨some _,λ_ _=>rfl⟩
    | sl b o l c=>exact⟨some (.i .i64 (Int.ofNat c)),λ_ _=>rfl⟩
    | _=>exact⟨none,λ_ _=>rfl⟩
 case mm mx l=>simp only[simple];cases eZ T l with
  | none=>exact⟨none,λ_ _=>rfl⟩
  | some vs=>cases vs with
   | nil=>exact⟨none,λ_ _=>rfl⟩
   | cons v vs=>exact⟨_,λ_ _=>rfl⟩
def RU(d:cls op=.read):∃x:Option V,∀n,simple op T H n=cU H n x:=by
 cases op<;>(try (simp only[cls]at d;cases d;done))
 case ld agg sz a=>simp only[simple];cases aq T a with
  | none=>exact⟨none,λ_=>rfl⟩
  | some v=>exact⟨_,λ_=>rfl⟩
 case cv k x=>
  simp only[simple];cases aq T x with
  | none=>exact⟨none,λ_=>rfl⟩
  | some v=>
   cases k with
   | BA=>
    have key:∃y:Option V,∀n,(match elems H 1 v with
     | some (l,vs)=>match ofBytes vs with | some m=>(some (.s l m,H,n):fY) | none=>none
     | none=>none)=cU H n y:=by
     cases elems H 1 v with
     | none=>exact⟨none,λ_=>rfl⟩
     | some p=>
      obtain⟨l,vs⟩:=p;simp only;cases ofBytes vs with
      | none=>exact⟨none,λ_=>rfl⟩
      | some m=>exact⟨some (.s l m),λ_=>rfl⟩
    cases v<;>first | exact⟨none,λ_=>rfl⟩ | exact key
   | _=>cases d
 case lkp q z ok m k=>simp only[simple];cases aq T m with
  | none=>exact⟨none,λ_=>rfl⟩
  | some v=>cases aq T k with
   | none=>cases v<;>exact⟨none,λ_=>rfl⟩
   | some u=>
    cases v<;>try exact⟨none,λ_=>rfl⟩
    case nm=>
     simp only;cases oY q u with
     | true=>exact⟨some _,λ_=>rfl⟩
     | false=>exact⟨none,λ_=>rfl⟩
    case m b=>
     simp only;cases oY q u with
     | false=>exact⟨none,λ_=>rfl⟩
     | true=>
      simp only[cond_true];cases H.get b with
      | none=>exact⟨none,λ_=>rfl⟩
      | some o=>
       cases o<;>try exact⟨none,λ_=>rfl⟩
       rename_i es c;simp only;cases vS q u es with
       | none=>exact⟨none,λ_=>rfl⟩
       | some w=>cases w with
        | none=>exact⟨some _,λ_=>rfl⟩
        | some w=>exact⟨some _,λ_=>rfl⟩
 case len k x=>
  simp only[simple];cases aq T x with
  | none=>rcases k with _ | _ | _ | k<;>exact⟨none,λ_=>rfl⟩
  | some v=>
   rcases k with _ | _ | _ | k
   ·cases v<;>first | exact⟨none,λ_=>rfl⟩ | exact⟨some (.i .i64 (Int.ofNat _)),λ_=>rfl⟩
   ·cases v<;>first | exact⟨none,λ_=>rfl⟩ | exact⟨some (.i .i64 (Int.ofNat _)),λ_=>rfl⟩ | exact⟨some (.i .i64 0),λ_=>rfl⟩
   ·cases v<;>try first | exact⟨none,λ_=>rfl⟩ | exact⟨some (.i .i64 0),λ_=>rfl⟩
    rename_i b;simp only;cases H.get b with
    | none=>exact⟨none,λ_=>rfl⟩
    | some o=>cases o<;>first | exact⟨none,λ_=>rfl⟩ | exact⟨some (.i .i64 (Int.ofNat _)),λ_=>rfl⟩
   ·cases v<;>exact⟨none,λ_=>rfl⟩
def afm(d:cls op=.make){v:V}{H1:Hp}{n1:K}(h:simple op T H n=some (v,H1,n1)):
 ∃o:O,H1=H.put (some o) n/\n1=n.succ/\∀H2,simple op T H2 n=some (v,H2.put (some o) n,n.succ):=by
 cases op<;>(try (simp only[cls]at d;cases d;done))
 case cv k x=>cases k<;>cases d
 case new e zs=>simp only[simple]at h ⊢;obtain⟨rfl,rfl,rfl⟩:=oC h;exact⟨_,rfl,rfl,λ_=>rfl⟩
 case mmap=>simp only[simple]at h ⊢;obtain⟨rfl,rfl,rfl⟩:=oC h;exact⟨_,rfl,rfl,λ_=>rfl⟩
 case box e x=>
  simp only[simple]at h ⊢;split at h
  case h_2=>cases h
  rename_i u g;cases f:aB u.cells with
  | false=>rw[f]at h;cases h
  | true=>rw[f]at h;obtain⟨rfl,rfl,rfl⟩:=oC h;exact⟨_,rfl,rfl,λ_=>rfl⟩
 case bsl e zs len ps=>
  simp only[simple]at h ⊢;split at h
  case h_2=>cases h
  rename_i u g;obtain⟨rfl,rfl,rfl⟩:=oC h;exact⟨_,rfl,rfl,λ_=>rfl⟩
 case msl e esz bytes z l c=>
  simp only[simple]at h ⊢;split at h
  case h_2=>cases h
  rename_i k1 a k2 b h1 h2;simp only[gU]at h ⊢;split at h
  case isFalse=>cases h
  rename_i hb;obtain⟨rfl,rfl,rfl⟩:=oC h;exact⟨_,rfl,rfl,λ_=>by rw[ab hb];rfl⟩
def RV{x:Option V}{v:V}{H1:Hp}{n1:K}(h:cU H n x=some (v,H1,n1)):x=some v/\H1=H/\n1=n:=by
 cases x with
 | none=>cases h
 | some y=>obtain⟨rfl,rfl,rfl⟩:=dC h;exact⟨rfl,rfl,rfl⟩
def afn{ih:cV}{T':Tr V}(h:∀x∈op.eH,aq T x=aq T' x):oper ih op T H n=oper ih op T' H n:=by
 cases op with
 | lO f l=>
  have h1:=h f (by simp[A.eH]);have h2:=Fe (l:=l) λx a=>h x (by simp[A.eH,a]);simp only[oper,dG,h1,h2]
 | _=>rw[xO (by intro f l h;cases h),xO (by intro f l h;cases h)];exact acM (H:=H) (n:=n) h
def Ck{ih:cV}(a:cls op≠.jP):oper ih op T H n=simple op T H n:=by
 cases op with
 | lO f l=>exact absurd rfl a
 | _=>exact xO (by intro f l h;cases h)
end
end
section
def afo{p:Nat->Prop}(h:∃n,p n):∃n,p n/\∀m,m<n->¬ p m:=by
 obtain⟨n,a⟩:=h
 induction n using Nat.strongRecOn with
 | ind n ih=>
  by_cases h:∃m,m<n/\p m
  ·obtain⟨m,h1,h2⟩:=h;exact ih m h1 h2
  ·exact⟨n,a,λm h1 h2=>h ⟨m,h1,h2⟩⟩
def afp{p:Nat->Prop}{N:Nat}(hb:∀n,p n->n<N)(h:∃n,p n):∃n,p n/\∀m,n<m->¬ p m:=by
 obtain⟨n,a⟩:=h
 induction b:N - n using Nat.strongRecOn generalizing n with
 | ind k ih=>
  by_cases h:∃m,n<m/\p m
  ·obtain⟨m,h1,h2⟩:=h;exact ih (N - m) (by have:=hb m h2;omega) m h2 rfl
  ·exact⟨n,a,λm h1 h2=>h ⟨m,h1,h2⟩⟩
structure fN(ih:cV)(l:List AO)(c:Canon)(rs:List Rd)(bs:List Bg):Prop where
 up:uw ih
 step:∀(j:Nat) (o:AO),l[j]?=some o->xU ih c rs bs j o
 zB:tV (c.M l.length) rs bs=true
 on:∀(i j:Nat) (a b:AO),i<j->l[i]?=some a->l[j]?=some b->xy i a b=true/\zF a b=true
 Δ:∀(i:Nat) (a:AO),l[i]?=some a->∀k,Nat.testBit a.Δ k=true->k<i
 m0:c.M 0=[]
def Mk(l:List AO)(c:Canon)(j:Nat):Prop:=∃o,l[j]?=some o/\c.run j=true/\cls o.op=.make
def lX(l:List AO)(c:Canon)(j:Nat):Prop:=∃o,l[j]?=some o/\c.run j=true/\cls o.op=.jP
section
variable {ih:cV}{l:List AO}{c:Canon}{rs:List Rd}{bs:List Bg}
def rE{j:Nat}{o:AO}(h:l[j]?=some o):j<l.length:=(cZ.1 h).1
def Mk.lt{j:Nat}(h:Mk l c j):j<l.length:=let⟨o,h1,_⟩:=h;rE h1
def lX.lt{j:Nat}(h:lX l c j):j<l.length:=let⟨o,h1,_⟩:=h;rE h1
def RW{op:A}(h:cls op=.jP):jP op=true:=by
 unfold jP;split
 ·rfl
 ·rw[h]
def fN.chain(R:fN ih l c rs bs){i j:Nat}(hi:lX l c i)(hj:lX l c j)(h:i<j){b:AO}(hb:l[j]?=some b):Nat.testBit b.Δ i=true:=by obtain⟨a,h1,_,h2⟩:=hi;obtain⟨b',d,_,e⟩:=hj;rw[hb]at d;injection d with d;subst d;have:=(R.on i j a b h h1 hb).1;simp only[xy,RW h2,RW e,iX,Bool.not_true,vO,Bool.or_false]at this;exact this
def fN.RX(R:fN ih l c rs bs){i:Nat}(hi:i<l.length):(c.N i).num<=(c.N (i+1)).num:=by
 obtain⟨o,d⟩:∃o,l[i]?=some o:=⟨_,aX hi⟩;have s:=R.step i o d;cases a:c.run i with
 | false=>rw[(s.not a).2.2.1];exact ξ _
 | true=>
  have up:=RN R.up (s.yR a);cases b:cls o.op with
  | pure=>rw[(s.pure a b).2.1];exact ξ _
  | read=>rw[(s.read a b).2.1];exact ξ _
  | make=>rw[(s.make a b).2.1];exact up
  | jP=>rw[(s.jP a b).2.1];exact up
def fN.lF(R:fN ih l c rs bs){i j:Nat}(b:i<=j)(hj:j<=l.length):(c.N i).num<=(c.N j).num:=by
 induction j with
 | zero=>
  have:i=0:=by omega
  subst this;exact ξ _
 | succ j a=>
  rcases jA j i with h | h
  ·have:i=j+1:=by omega
   subst this;exact ξ _
  ·exact eF (a h (by omega)) (R.RX (by omega))
def fN.RY(R:fN ih l c rs bs){i:Nat}{o:AO}(b:l[i]?=some o)(d:c.run i=true)(a:cls o.op=.make):
 ∃ob:O,c.H' i=(db (c.H i) o.Δ (c.M i)).put (some ob) (c.N i)/\c.n' i=(c.N i).succ/\∀H2,simple o.op (c.T i) H2 (c.N i)=some (c.v i,H2.put (some ob) (c.N i),(c.N i).succ):=by
 have s:=(R.step i o b).yR d;rw[Ck (by rw[a];intro h;cases h)]at s;exact afm a s
def fN.RZ(R:fN ih l c rs bs){i:Nat}(h:Mk l c i):c.N (i+1)=(c.N i).succ:=by obtain⟨o,a,b,d⟩:=h;obtain⟨ob,_,h2,_⟩:=R.RY a b d;rw[((R.step i o a).make b d).2.1,h2]
def fN.Fw(R:fN ih l c rs bs){i j:Nat}(h:Mk l c i)(a:i<j)(hj:j<=l.length):(c.N i).num<(c.N j).num:=by have h1:=R.lF (i:=i+1) (j:=j) (by omega) hj;rw[R.RZ h,K.eI]at h1;omega
def fN.Cm(R:fN ih l c rs bs){i j:Nat}(hi:Mk l c i)(hj:Mk l c j)(h:c.N i=c.N j):i=j:=by
 rcases zq i j with h1 | h1 | h1
 ·have:=R.Fw hi h1 (fC hj.lt);rw[h]at this;omega
 ·exact h1
 ·have:=R.Fw hj h1 (fC hi.lt);rw[h]at this;omega
def fN.R0(R:fN ih l c rs bs){q:Nat}(r:q<=l.length)(k:K)(j:Nat):(k,j)∈c.M q↔j<q/\Mk l c j/\k=c.N j:=by
 induction q with
 | zero=>
  rw[R.m0];constructor
  ·intro h;cases h
  ·rintro⟨h,_⟩;omega
 | succ q i=>
  have m:q<l.length:=by omega
  obtain⟨o,g⟩:∃o,l[q]?=some o:=⟨_,aX m⟩;have s:=R.step q o g;have same:(¬ Mk l c q)->c.M (q+1)=c.M q->((k,j)∈c.M (q+1)↔j<q+1/\Mk l c j/\k=c.N j):=by
   intro n e;rw[e,i (by omega)];constructor
   ·rintro⟨a,b⟩;exact⟨by omega,b⟩
   ·rintro⟨a,b,b'⟩;refine⟨?_,b,b'⟩;rcases jA j q with h | h
    ·exact h
    ·have:j=q:=by omega
     subst this;exact absurd b n
  cases f:c.run q with
  | false=>exact same (λ⟨_,_,h,_⟩=>by rw[f]at h;cases h) (s.not f).2.2.2
  | true=>
   cases d:cls o.op with
   | pure=>exact same (λ⟨p,hp,_,h⟩=>by rw[g]at hp;injection hp with hp;subst hp;rw[d]at h;cases h) (s.pure f d).2.2
   | read=>exact same (λ⟨p,hp,_,h⟩=>by rw[g]at hp;injection hp with hp;subst hp;rw[d]at h;cases h) (s.read f d).2.2.1
   | jP=>exact same (λ⟨p,hp,_,h⟩=>by rw[g]at hp;injection hp with hp;subst hp;rw[d]at h;cases h) (s.jP f d).2.2.1
   | make=>
    rw[(s.make f d).2.2,cD,i (by omega)];constructor
    ·rintro(h | ⟨a,b⟩)
     ·injection h with h1 h2;subst h1;subst h2;exact⟨by omega,⟨o,g,f,d⟩,rfl⟩
     ·exact⟨by omega,b⟩
    ·rintro⟨a,b,b'⟩;rcases jA j q with h | h
     ·exact .inr ⟨h,b,b'⟩
     ·have:j=q:=by omega
      subst this;subst b';exact .inl U
def fN.wi(R:fN ih l c rs bs){q:Nat}(f:q<=l.length)(a:Nat)(k:K):hidden a (c.M q) k↔∃j,j<q/\Mk l c j/\k=c.N j/\Nat.testBit a j=false:=by
 unfold hidden;constructor
 ·rintro⟨j,h1,h2⟩;obtain⟨b,d,e⟩:=(R.R0 f k j).1 h1;exact⟨j,b,d,e,h2⟩
 ·rintro⟨j,b,d,e,h2⟩;exact⟨j,(R.R0 f k j).2 ⟨b,d,e⟩,h2⟩
def fN.R1(R:fN ih l c rs bs){i:Nat}(hi:i<l.length)(h1:¬ Mk l c i)(h2:¬ lX l c i):c.H (i+1)=c.H i/\c.N (i+1)=c.N i:=by
 obtain⟨o,d⟩:∃o,l[i]?=some o:=⟨_,aX hi⟩;have s:=R.step i o d;cases a:c.run i with
 | false=>exact⟨(s.not a).2.1,(s.not a).2.2.1⟩
 | true=>
  cases b:cls o.op with
  | pure=>exact⟨(s.pure a b).1,(s.pure a b).2.1⟩
  | read=>exact⟨(s.read a b).1,(s.read a b).2.1⟩
  | make=>exact absurd ⟨o,d,a,b⟩ h1
  | jP=>exact absurd ⟨o,d,a,b⟩ h2
def fN.JA(R:fN ih l c rs bs){i:Nat}(h:Mk l c i):∃(o:AO) (ob:O),l[i]?=some o/\cls o.op=.make/\c.run i=true/\(∀H2,simple o.op (c.T i) H2 (c.N i)=some (c.v i,H2.put (some ob) (c.N i),(c.N i).succ))/\∀k,(c.H (i+1)).get k=if k=c.N i then some ob else (c.H i).get k:=by
 obtain⟨o,a,d,f⟩:=h;obtain⟨ob,h1,h2,g⟩:=R.RY a d f;refine⟨o,ob,a,f,d,g,λk=>?_⟩;rw[((R.step i o a).make d f).1];obtain⟨b1,b2⟩:=xV o.Δ (c.M i) (c.H i) (c.H' i) k;obtain⟨p,m⟩:=Ca o.Δ (c.M i) (c.H i) k;have hle:i<=l.length:=fC (rE a);by_cases b:hidden o.Δ (c.M i) k
 ·rw[b1 b,Γ];intro e;obtain⟨j,hj,hm,n,_⟩:=(R.wi hle _ _).1 b;have:=R.Fw hm hj hle;rw[←n,e]at this;omega
 ·rw[b2 b,h1,Tr.fk,m b]
def fN.Cn(R:fN ih l c rs bs){i:Nat}{o:AO}(a:l[i]?=some o)(b:c.run i=true)(d:cls o.op=.jP)(k:K):
 (hidden o.Δ (c.M i) k->(c.H (i+1)).get k=(c.H i).get k)/\(¬ hidden o.Δ (c.M i) k->(c.H (i+1)).get k=(c.H' i).get k):=by
 rw[((R.step i o a).jP b d).1];exact xV o.Δ (c.M i) (c.H i) (c.H' i) k
def fN.R2(R:fN ih l c rs bs){p q:Nat}(m:p<=q)(n:q<=l.length){k:K}(hb:∀b,p<=b->b<q->∀o,l[b]?=some o->c.run b=true->cls o.op=.jP->hidden o.Δ (c.M b) k)
 (a:∀j,p<=j->j<q->Mk l c j->k≠c.N j):(c.H q).get k=(c.H p).get k:=by
 induction q with
 | zero=>
  have:p=0:=by omega
  subst this;rfl
 | succ q g=>
  rcases jA q p with h | h
  ·have:p=q+1:=by omega
   subst this;rfl
  ·have i:=g h (by omega) (λb h1 h2=>hb b h1 (by omega)) (λj h1 h2=>a j h1 (by omega));rw[←i];by_cases h1:Mk l c q
   ·obtain⟨o,ob,_,_,_,_,h2⟩:=R.JA h1;rw[h2 k,Γ (a q h (by omega) h1)]
   ·by_cases h2:lX l c q
    ·obtain⟨o,d,e,f⟩:=h2;exact(R.Cn d e f k).1 (hb q h (by omega) o d e f)
    ·rw[(R.R1 (by omega) h1 h2).1]
def fN.afr(R:fN ih l c rs bs){i j:Nat}{a b:AO}(hi:l[i]?=some a)(hj:l[j]?=some b){d:K}(h1:a.dst=some d)(h2:b.dst=some d):i=j:=by
 rcases zq i j with h | h | h
 ·have:=(R.on i j a b h hi hj).2;simp only[zF,h1,h2,K.beq_refl]at this;cases this
 ·exact h
 ·have:=(R.on j i b a h hj hi).2;simp only[zF,h1,h2,K.beq_refl]at this;cases this
def fN.R4(R:fN ih l c rs bs){q:Nat}(p:q<=l.length)(k:K):
 (∃j o,j<q/\l[j]?=some o/\o.dst=some k/\(c.T q).get k=some (c.v j))\/((∀j o,j<q->l[j]?=some o->o.dst≠some k)/\(c.T q).get k=(c.T 0).get k):=by
 induction q with
 | zero=>exact .inr ⟨λj o h=>by omega,rfl⟩
 | succ q g=>
  have i:q<l.length:=by omega
  obtain⟨o,f⟩:∃o,l[q]?=some o:=⟨_,aX i⟩;have s:=(R.step q o f).jj;rw[s];by_cases b:o.dst=some k
  ·left;refine⟨q,o,by omega,f,b,?_⟩;simp only[da,b,Tr.fk,if_true]
  ·have e:(da o.dst (some (c.v q)) (c.T q)).get k=(c.T q).get k:=by
    cases h:o.dst with
    | none=>rfl
    | some d=>simp only[da];rw[Tr.fk,Γ (λe=>b (by rw[h,e]))]
   rw[e];rcases g (by omega) with ⟨j,o',h1,h2,m,n⟩ | ⟨h1,h2⟩
   ·exact .inl ⟨j,o',by omega,h2,m,n⟩
   ·refine .inr ⟨λj o' hj a=>?_,h2⟩;rcases jA j q with h | h
    ·exact h1 j o' h a
    ·have:j=q:=by omega
     subst this;rw[f]at a;injection a with a;subst a;exact b
def fN.looks(R:fN ih l c rs bs){i j:Nat}{a b:AO}(hi:l[i]?=some a)(hj:l[j]?=some b){d:K}(e:b.dst=some d)(hl:d∈a.looks):Nat.testBit a.Δ j=true\/Nat.testBit b.Δ i=true\/i=j:=by
 have any:∀{l:List K},d∈l->l.any (K.beq d)=true:=λh=>List.any_eq_true.2 ⟨d,h,K.beq_refl d⟩;rcases zq i j with h | h | h
 ·have:=(R.on i j a b h hi hj).1;simp only[xy,e,any hl,Bool.not_true,Bool.and_false,Bool.or_false]at this;exact .inr (.inl this)
 ·exact .inr (.inr h)
 ·have:=(R.on j i b a h hj hi).1;simp only[xy,e,any hl,Bool.not_true,Bool.and_false,vO,Bool.or_false]at this;exact .inl this
end
end
section
def afs{a b:Int}(h:qI a b=true):a=b:=by cases a<;>cases b<;>simp only[qI]at h<;>first | (cases h;done) | (rw[bY h])
mutual
theorem tn:∀{a b:V},dK a b=true->a=b
 | .b x,y,h=>by cases y<;>simp only[dK]at h<;>first | (cases h;done) | (simp at h;rw[h])
 | .i k x,y,h=>by
  cases y<;>simp only[dK]at h<;>first | (cases h;done) | skip
  simp only[aD]at h;rw[EO h.1,afs h.2]
 | .s l n,y,h=>by
  cases y<;>simp only[dK]at h<;>first | (cases h;done) | skip
  simp only[aD]at h;rw[bY h.1,bY h.2]
 | .np,y,h=>by cases y<;>simp only[dK]at h<;>first | rfl | (cases h;done)
 | .p b o,y,h=>by
  cases y<;>simp only[dK]at h<;>first | (cases h;done) | skip
  simp only[aD]at h;rw[K.beq_eq h.1,bY h.2]
 | .ns,y,h=>by cases y<;>simp only[dK]at h<;>first | rfl | (cases h;done)
 | .sl b o l c,y,h=>by
  cases y<;>simp only[dK]at h<;>first | (cases h;done) | skip
  simp only[aD]at h;rw[K.beq_eq h.1.1.1,bY h.1.1.2,bY h.1.2,bY h.2]
 | .su b o l c,y,h=>by
  cases y<;>simp only[dK]at h<;>first | (cases h;done) | skip
  simp only[aD]at h;rw[K.beq_eq h.1.1.1,bY h.1.1.2,bY h.1.2,bY h.2]
 | .nm,y,h=>by cases y<;>simp only[dK]at h<;>first | rfl | (cases h;done)
 | .m b,y,h=>by cases y<;>simp only[dK]at h<;>first | (cases h;done) | (rw[K.beq_eq h])
 | .nf,y,h=>by cases y<;>simp only[dK]at h<;>first | rfl | (cases h;done)
 | .f g a c,y,h=>by
  cases y<;>simp only[dK]at h<;>first | (cases h;done) | skip
  simp only[aD]at h;rw[bY h.1.1,wj h.1.2,wj h.2]
 | .y l,y,h=>by cases y<;>simp only[dK]at h<;>cases h
 | .ni,y,h=>by cases y<;>simp only[dK]at h<;>first | rfl | (cases h;done)
 | .j9 t v,y,h=>by
  cases y<;>simp only[dK]at h<;>first | (cases h;done) | skip
  simp only[aD]at h;rw[bY h.1,tn h.2]
 | .a l,y,h=>by cases y<;>simp only[dK]at h<;>first | (cases h;done) | (rw[wj h])
 | .u l,y,h=>by cases y<;>simp only[dK]at h<;>first | (cases h;done) | (rw[wj h])
 | .q,y,h=>by cases y<;>simp only[dK]at h<;>cases h
theorem wj:∀{a b:List V},lf a b=true->a=b
 | [],[],_=>rfl
 | [],_::_,h=>by simp only[lf]at h;cases h
 | _::_,[],h=>by simp only[lf]at h;cases h
 | a::l,b::l',h=>by simp only[lf,aD]at h;rw[tn h.1,wj h.2]
end
def Cut(l:List AO)(c:Canon)(D:Nat->Prop)(p:Nat):Prop:=p<=l.length/\∀b,lX l c b->(D b↔b<p)
structure Spec(l:List AO)(c:Canon)(D:Nat->Prop)(p:Nat)(Hd:Hp):Prop where
 base:∀k,(∀j,Mk l c j->k≠c.N j)->Hd.get k=(c.H p).get k
 done:∀j,Mk l c j->D j->Hd.get (c.N j)=if j<p then (c.H p).get (c.N j) else (c.H (j+1)).get (c.N j)
 not:∀j,Mk l c j->¬ D j->Hd.get (c.N j)=none
def Fy(l:List AO)(D:Nat->Prop):Prop:=∀(i:Nat) (o:AO),D i->l[i]?=some o->∀k,Nat.testBit o.Δ k=true->D k
structure tq(l:List AO)(c:Canon)(D:Nat->Prop):Prop where
 Co:∀k o,(c.H 0).get k=some o->k.num<(c.N 0).num/\mC (c.N 0) o
 bg:∀b,lX l c b->D b->∀k o,(c.H' b).get k=some o->k.num<(c.N (b+1)).num/\mC (c.N (b+1)) o
 make:∀j,Mk l c j->D j->∀o,(c.H (j+1)).get (c.N j)=some o->mC (c.N (j+1)) o
section
variable {ih:cV}{l:List AO}{c:Canon}{rs:List Rd}{bs:List Bg}{D:Nat->Prop}{p q:Nat}{Hd:Hp}
def tq.xC(F:tq l c D)(R:fN ih l c rs bs)(s:q<=l.length)(hb:∀b,b<q->lX l c b->D b)(k:K)(o:O)(d:(c.H q).get k=some o):
 k.num<(c.N q).num/\((∀j,Mk l c j->k=c.N j->D j)->mC (c.N q) o):=by
 induction q generalizing k o with
 | zero=>exact⟨(F.Co k o d).1,λ_=>(F.Co k o d).2⟩
 | succ q t=>
  have u:=R.RX (i:=q) (by omega);have up:(c.H q).get k=some o->k.num<(c.N (q+1)).num/\((∀j,Mk l c j->k=c.N j->D j)->mC (c.N (q+1)) o):=λh=>
   let⟨h1,h2⟩:=t (by omega) (λb h1 h2=>hb b (by omega) h2) k o h
   ⟨by omega,λh=>(h2 h).mono u⟩
  by_cases h1:Mk l c q
  ·obtain⟨a,ob,_,_,_,_,h2⟩:=R.JA h1;have f:=h2 k;rw[d]at f;by_cases e:k=c.N q
   ·subst e;exact⟨R.Fw h1 (by omega) s,λh=>F.make q h1 (h q h1 rfl) o d⟩
   ·rw[Γ e]at f;exact up f.symm
  ·by_cases h2:lX l c q
   ·have v:=hb q (by omega) h2;obtain⟨a,g,m,n⟩:=h2;obtain⟨g1,w⟩:=R.Cn g m n k;by_cases r:hidden a.Δ (c.M q) k
    ·rw[g1 r]at d;exact up d
    ·rw[w r]at d;have:=F.bg q ⟨a,g,m,n⟩ v k o d;exact⟨this.1,λ_=>this.2⟩
   ·rw[(R.R1 (by omega) h1 h2).1]at d;exact up d
def fN.Fz(R:fN ih l c rs bs){p q:Nat}(a:p<=q)(d:q<=l.length){k:K}(hb:∀b,p<=b->b<q->¬ lX l c b)(e:∀j,p<=j->j<q->Mk l c j->k≠c.N j):(c.H q).get k=(c.H p).get k:=
 R.R2 a d (λb h1 h2 o f g h=>absurd ⟨o,f,g,h⟩ (hb b h1 h2)) e
def Spec.move(S:Spec l c D p Hd)(R:fN ih l c rs bs)(hp:Cut l c D p)(i:Cut l c D q):Spec l c D q Hd:=by
 have no:∀b,(p<=b/\b<q\/q<=b/\b<p)->¬ lX l c b:=λb h hb=>by
  have h1:=hp.2 b hb;have h2:=i.2 b hb;rcases h with h | h
  ·have:=h1.1 (h2.2 h.2);omega
  ·have:=h2.1 (h1.2 h.2);omega
 have both:∀k,(∀j,(p<=j/\j<q\/q<=j/\j<p)->Mk l c j->k≠c.N j)->(c.H p).get k=(c.H q).get k:=λk d=>by
  rcases Nat.le_total p q with h | h
  ·exact(R.Fz h i.1 (λb h1 h2=>no b (.inl ⟨h1,h2⟩)) (λj h1 h2=>d j (.inl ⟨h1,h2⟩))).symm
  ·exact R.Fz h hp.1 (λb h1 h2=>no b (.inr ⟨h1,h2⟩)) (λj h1 h2=>d j (.inr ⟨h1,h2⟩))
 have ne:∀{j a},Mk l c j->Mk l c a->j≠a->c.N j≠c.N a:=λh h' n e=>n (R.Cm h h' e);refine⟨λk d=>by rw[S.base k d];exact both k λj _ hj=>d j hj,λj hj o=>?_,S.not⟩;rw[S.done j hj o];by_cases h1:j<p
 ·rw[ab h1];by_cases h2:j<q
  ·rw[ab h2];exact both _ λa h f=>ne hj f (by omega)
  ·rw[Γ h2];exact R.Fz h1 hp.1 (λb m g=>no b (.inr ⟨by omega,g⟩)) (λa m g f=>ne hj f (by omega))
 ·rw[Γ h1];by_cases h2:j<q
  ·rw[ab h2];exact(R.Fz h2 i.1 (λb m g=>no b (.inl ⟨by omega,g⟩)) (λa m g f=>ne hj f (by omega))).symm
  ·rw[Γ h2]
def Cut.below(h:Cut l c D q):∀b,b<q->lX l c b->D b:=λb h1 h2=>(h.2 b h2).2 h1
def Spec.sub(S:Spec l c D q Hd)(R:fN ih l c rs bs)(F:tq l c D)(b:Cut l c D q)(k:K)(o:O)(a:(c.H q).get k=some o)(f:∀j,Mk l c j->k=c.N j->j<q->D j):Hd.get k=some o:=by
 by_cases h:∃j,Mk l c j/\k=c.N j
 ·obtain⟨j,hj,e⟩:=h;by_cases d:j<q
  ·have:=S.done j hj (f j hj e d);rw[ab d,←e,a]at this;exact this
  ·have:=(F.xC R b.1 b.below k o a).1;have h2:=R.lF (i:=q) (j:=j) (by omega) (fC hj.lt);rw[←e]at h2;omega
 ·rw[S.base k λj hj e=>h ⟨j,hj,e⟩];exact a
def aft(R:fN ih l c rs bs)(f:Fy l D){i:Nat}(hi:lX l c i)(d:¬ D i){a:AO}(g:l[i]?=some a)(j:∀k,Nat.testBit a.Δ k=true->D k):Cut l c D i:=by
 refine⟨fC hi.lt,λb hb=>⟨λh=>?_,λh=>j b (R.chain hb hi h g)⟩⟩;rcases zq b i with h1 | h1 | h1
 ·exact h1
 ·subst h1;exact absurd h d
 ·obtain⟨o,e,_⟩:=id hb;exact absurd (f b o h e i (R.chain hi hb h1 e)) d
def fN.R5(R:fN ih l c rs bs){i b:Nat}{a o:AO}(e:l[i]?=some a)(f:c.run i=true)(d:cls a.op=.read)(g:l[b]?=some o)(j:c.run b=true)(k:cls o.op=.jP)
 (h1:Nat.testBit a.Δ b=false)(h2:Nat.testBit o.Δ i=false){q:Nat}(m:q=b\/q=b+1):∀n,simple a.op (c.T i) (db (c.H q) a.Δ (c.M l.length)) n=some (c.v i,db (c.H q) a.Δ (c.M l.length),n):=by
 have g1:=((R.step i a e).read f d).2.2.2.2;have r:=((R.step b o g).jP j k).2.2.2;have ag:=R.zB;unfold tV at ag;rw[kX]at ag;have:=ag _ g1;rw[kX]at this;have:=this _ r;unfold Ev.zB at this;simp only[h1,h2,Bool.false_or,aD,BF]at this;have key:∀H:Hp,(match simple a.op (c.T i) (db H a.Δ (c.M l.length)) .h with
  | some (v,_,_)=>dK v (c.v i)
  | none=>false)=true->∀n,simple a.op (c.T i) (db H a.Δ (c.M l.length)) n=some (c.v i,db H a.Δ (c.M l.length),n):=by
  intro H h n;obtain⟨x,s⟩:=RU (T:=c.T i) (H:=db H a.Δ (c.M l.length)) d;rw[s]at h ⊢;cases x with
  | none=>cases h
  | some v=>have:=tn h;subst this;rfl
 rcases m with rfl | rfl
 ·exact key _ this.1
 ·exact key _ this.2
def afu(R:fN ih l c rs bs)(A:Fy l D){i:Nat}{a:AO}(w:l[i]?=some a)(B:c.run i=true)(z:cls a.op=.read)(G:¬ D i)(I:∀k,Nat.testBit a.Δ k=true->D k):
 ∃q,Cut l c D q/\∃Hs:Hp,(∀k ob,Hs.get k=some ob->(c.H q).get k=some ob/\∀j,Mk l c j->k=c.N j->j<q->D j)/\∀n,simple a.op (c.T i) Hs n=some (c.v i,Hs,n):=by
 have J:=rE w;have C:∀q s,q<=s->s<=l.length->∀k ob,(db (c.H q) a.Δ (c.M s)).get k=some ob->(c.H q).get k=some ob/\∀j,Mk l c j->k=c.N j->j<q->D j:=by
  intro q s V hs k ob h;refine⟨QF _ _ _ _ _ h,λj hj e W=>I j ?_⟩;cases hb:Nat.testBit a.Δ j with
  | true=>rfl
  | false=>
   have P:hidden a.Δ (c.M s) k:=(R.wi hs _ _).2 ⟨j,by omega,hj,e,hb⟩;rw[(Ca _ _ _ _).1 P]at h;cases h
 by_cases K:Cut l c D i
 ·refine⟨i,K,db (c.H i) a.Δ (c.M i),C i i (ξ _) (fC J),?_⟩;have s:=(R.step i a w).yR B;rw[Ck (by rw[z];intro h;cases h)]at s;obtain⟨x,d⟩:=RU (T:=c.T i) (H:=db (c.H i) a.Δ (c.M i)) z;intro n;rw[d]at s ⊢;obtain⟨rfl,_⟩:=RV s;rfl
 ·have:∃b,lX l c b/\¬ (D b↔b<i):=Classical.byContradiction λh=>K ⟨fC J,λb hb=>Classical.byContradiction λh'=>h ⟨b,hb,h'⟩⟩;obtain⟨b,hb,L⟩:=this;by_cases t:D b
  ·have Q:¬ b<i:=λh=>L ⟨λ_=>h,λ_=>t⟩;obtain⟨r,⟨f,g⟩,y⟩:=afp (p:=λb=>lX l c b/\D b) (N:=l.length) (λn h=>h.1.lt) ⟨b,hb,t⟩;have S:b<=r:=Nat.le_of_not_lt λh=>y b h ⟨hb,t⟩;have X:i≠r:=λe=>G (e▸g);obtain⟨o,m,E,F⟩:=id f;refine⟨r+1,⟨f.lt,λb' u=>⟨λh=>Nat.lt_succ_of_le (Nat.le_of_not_lt λh'=>y b' h' ⟨u,h⟩),λh=>?_⟩⟩,_,C (r+1) l.length f.lt (ξ _),?_⟩
   ·rcases jA b' r with h1 | h1
    ·exact A r o g m b' (R.chain u f h1 m)
    ·have:b'=r:=by omega
     subst this;exact g
   ·refine R.R5 w B z m E F ?_ ?_ (.inr U)
    ·cases d:Nat.testBit a.Δ r with
     | false=>rfl
     | true=>have:=R.Δ i a w r d;omega
    ·cases d:Nat.testBit o.Δ i with
     | false=>rfl
     | true=>exact absurd (A r o g m i d) G
  ·have Q:b<i:=Classical.byContradiction λh=>L ⟨λh'=>absurd h' t,λh'=>absurd h' h⟩;obtain⟨r,⟨f,g⟩,y⟩:=afo (p:=λb=>lX l c b/\¬ D b) ⟨b,hb,t⟩;have S:r<=b:=Nat.le_of_not_lt λh=>y b h ⟨hb,t⟩;obtain⟨o,m,E,F⟩:=id f;refine⟨r,⟨fC f.lt,λb' u=>⟨λh=>?_,λh=>Classical.byContradiction λh'=>y b' h ⟨u,h'⟩⟩⟩,_,C r l.length (fC f.lt) (ξ _),?_⟩
   ·rcases zq b' r with h1 | h1 | h1
    ·exact h1
    ·subst h1;exact absurd h g
    ·obtain⟨o',O,_⟩:=id u;exact absurd (A b' o' h O r (R.chain f u h1 O)) g
   ·refine R.R5 w B z m E F ?_ ?_ (.inl U)
    ·cases d:Nat.testBit a.Δ r with
     | false=>rfl
     | true=>exact absurd (I r d) g
    ·cases d:Nat.testBit o.Δ i with
     | false=>rfl
     | true=>have:=R.Δ r o m i d;omega
end
end
section
def kG(D:Nat->Prop)(i:Nat):Nat->Prop:=λj=>D j\/j=i
section
variable {ih:cV}{l:List AO}{c:Canon}{rs:List Rd}{bs:List Bg}{D:Nat->Prop}{p q i:Nat}{Hd:Hp}{a:AO}
def JD(b:l[i]?=some a)(h:cls a.op≠.make):¬ Mk l c i:=λ⟨o,h1,_,h2⟩=>by rw[b]at h1;injection h1 with h1;subst h1;exact h h2
def JE(b:l[i]?=some a)(h:cls a.op≠.jP):¬ lX l c i:=λ⟨o,h1,_,h2⟩=>by rw[b]at h1;injection h1 with h1;subst h1;exact h h2
def afw(h:c.run i=false):¬ Mk l c i:=λ⟨o,_,h1,_⟩=>by rw[h]at h1;cases h1
def afx(h:c.run i=false):¬ lX l c i:=λ⟨o,_,h1,_⟩=>by rw[h]at h1;cases h1
def Cut.kG(h:Cut l c D p)(hb:¬ lX l c i):Cut l c (kG D i) p:=⟨h.1,λb d=>by
 rw[←h.2 b d];constructor
 ·rintro(h1 | h1)
  ·exact h1
  ·subst h1;exact absurd d hb
 ·exact .inl⟩
def Spec.other(S:Spec l c D p Hd)(hm:¬ Mk l c i):Spec l c (Ev.kG D i) p Hd:=⟨S.base,λj hj b=>by
 rcases b with b | rfl
 ·exact S.done j hj b
 ·exact absurd hj hm,λj hj b=>S.not j hj λh=>b (.inl h)⟩
def tq.other(F:tq l c D)(hm:¬ Mk l c i)(hb:¬ lX l c i):tq l c (Ev.kG D i):=⟨F.Co,λb e d=>by
 rcases d with d | rfl
 ·exact F.bg b e d
 ·exact absurd e hb,λj hj d=>by
 rcases d with d | rfl
 ·exact F.make j hj d
 ·exact absurd hj hm⟩
def afy(R:fN ih l c rs bs)(Q:Fy l D)(F:tq l c D)(z:Cut l c D p)(S:Spec l c D p Hd)(g:l[i]?=some a)(w:c.run i=true)(V:¬ D i)(L:∀k,Nat.testBit a.Δ k=true->D k):
 ∃(Hs:Hp) (n:K) (sn:Hp) (n':K),oper ih a.op (c.T i) Hs n=some (c.v i,sn,n')/\(c.N i).num<=n.num/\(∀k o,Hs.get k=some o->Hd.get k=some o/\k.num<n.num/\mC n o)/\(n'=n\/(n=c.N i/\n'=c.N (i+1)))/\((∀k o,sn.get k=some o->k.num<n'.num/\mC n' o)->∃Hn:Hp,(∀k o,Hn.get k=some o->(Hd.get k=some o/\Hs.get k=none)\/sn.get k=some o)/\(∃p,Cut l c (kG D i) p/\Spec l c (kG D i) p Hn)/\tq l c (kG D i))/\(bz n' (c.v i)=true->bz (c.N (i+1)) (c.v i)=true):=by
 have W:=rE g;have s:=R.step i a g;have yR:=s.yR w;have R6:∀(k:K) (o:O),(Tr.e:Hp).get k=some o->False:=λk o h=>by rw[Tr.gV]at h;cases h
 cases f:cls a.op with
 | pure=>
  obtain⟨h1,h2,X⟩:=s.pure w f;have Y:oper ih a.op (c.T i) .e (c.N i)=some (c.v i,.e,c.N i):=by rw[Ck (by rw[f];intro h;cases h)]at yR ⊢;obtain⟨x,hx⟩:=afl (T:=c.T i) f;rw[hx]at yR ⊢;obtain⟨rfl,_⟩:=RV yR;rfl
  have m1:¬ Mk l c i:=JD g (by rw[f];intro h;cases h);have A:¬ lX l c i:=JE g (by rw[f];intro h;cases h);exact⟨.e,c.N i,.e,c.N i,Y,ξ _,λk o h=>(R6 k o h).elim,.inl U,λ_=>⟨Hd,λk o h=>.inl ⟨h,Tr.gV k⟩,⟨p,z.kG A,S.other m1⟩,F.other m1 A⟩,λh=>by rw[h2];exact h⟩
 | read=>
  obtain⟨h1,h2,X,Z,h5⟩:=s.read w f;obtain⟨q,u,Hs,kO,rz⟩:=afu R Q g w f V L;have m1:¬ Mk l c i:=JD g (by rw[f];intro h;cases h);have A:¬ lX l c i:=JE g (by rw[f];intro h;cases h);refine⟨Hs,c.N l.length,Hs,c.N l.length,?_,R.lF (fC W) (ξ _),λk o m=>?_,.inl U,λ_=>⟨Hd,λk o h=>?_,⟨p,z.kG A,S.other m1⟩,F.other m1 A⟩,λ_=>by rw[h2];exact Z⟩
  ·rw[Ck (by rw[f];intro h;cases h)];exact rz _
  ·obtain⟨g1,y⟩:=kO k o m;obtain⟨d1,d2⟩:=F.xC R u.1 u.below k o g1;have C:=R.lF (i:=q) u.1 (ξ _);refine⟨(S.move R z u).sub R F u k o g1 y,by omega,(d2 λj hj e=>?_).mono C⟩;rcases jA j q with h | h
   ·exact y j hj e h
   ·have:=R.lF (i:=q) (j:=j) h (fC hj.lt);rw[←e]at this;omega
  ·cases e:Hs.get k with
   | none=>exact .inl ⟨h,rfl⟩
   | some o'=>
    obtain⟨g1,y⟩:=kO k o' e;have:=(S.move R z u).sub R F u k o' g1 y;rw[h]at this;injection this with this;subst this;exact .inr U
 | make=>
  have B:Mk l c i:=⟨a,g,w,f⟩;obtain⟨o',ob,P,_,_,Y,kH⟩:=R.JA B;rw[g]at P;injection P with P;subst P;have A:¬ lX l c i:=JE g (by rw[f];intro h;cases h);have C:=R.RZ B;have G7:(c.H (i+1)).get (c.N i)=some ob:=by rw[kH,ab rfl]
  refine⟨.e,c.N i,(Tr.e:Hp).put (some ob) (c.N i),(c.N i).succ,?_,ξ _,λk o h=>(R6 k o h).elim,.inr ⟨rfl,C.symm⟩,λm=>⟨Hd.put (some ob) (c.N i),λk o h=>?_,⟨p,z.kG A,?_⟩,?_⟩,λh=>by rw[C];exact h⟩
  ·rw[Ck (by rw[f];intro h;cases h)];exact Y _
  ·rw[Tr.fk]at h;by_cases e:k=c.N i
   ·subst e;rw[ab rfl]at h;right;rw[Tr.fk,ab rfl];exact h
   ·rw[Γ e]at h;exact .inl ⟨h,Tr.gV k⟩
  ·refine⟨λk m=>?_,λj hj r=>?_,λj hj r=>?_⟩
   ·rw[Tr.tY _ _ (m i B)];exact S.base k m
   ·by_cases e:j=i
    ·subst e;rw[Tr.xA];by_cases hp:j<p
     ·rw[ab hp];rw[R.R2 (p:=j+1) hp z.1 (k:=c.N j) (λb h1 h2 o t iL xD=>?_) (λj' h1 h2 bR e=>by have:=R.Cm B bR e;omega)]
      ·exact G7.symm
      ·refine(R.wi (fC (rE t)) _ _).2 ⟨j,by omega,B,rfl,?_⟩;cases hb:Nat.testBit o.Δ j with
       | false=>rfl
       | true=>
        have E:=(z.2 b ⟨o,t,iL,xD⟩).2 h2;exact absurd (Q b o E t j hb) V
     ·rw[Γ hp];exact G7.symm
    ·have JF:D j:=r.resolve_right e;rw[Tr.tY _ _ (λe'=>e (R.Cm hj B e'))];exact S.done j hj JF
   ·have e:j≠i:=λe=>r (.inr e);rw[Tr.tY _ _ (λe'=>e (R.Cm hj B e'))];exact S.not j hj λh=>r (.inl h)
  ·refine⟨F.Co,λb hb E=>F.bg b hb (E.resolve_right λe=>A (e▸hb)),λj hj r o t=>?_⟩;by_cases e:j=i
   ·subst e;rw[G7]at t;injection t with t;subst t;have:=m (c.N j) ob (Tr.xA _ _ _);rw[C];exact this.2
   ·exact F.make j hj (r.resolve_right e) o t
 | jP=>
  have hbg:lX l c i:=⟨a,g,w,f⟩;have G:=aft R Q hbg V g L;have Si:=S.move R z G;obtain⟨b1,b2,b3,b4⟩:=s.jP w f;have m1:¬ Mk l c i:=JD g (by rw[f];intro h;cases h);have hle:i<=l.length:=fC W;have JB:∀k ob,(db (c.H i) a.Δ (c.M i)).get k=some ob->(c.H i).get k=some ob/\∀j,Mk l c j->k=c.N j->j<i->D j:=by
   intro k ob h;refine⟨QF _ _ _ _ _ h,λj hj e hjq=>L j ?_⟩;cases hb:Nat.testBit a.Δ j with
   | true=>rfl
   | false=>
    have I:hidden a.Δ (c.M i) k:=(R.wi hle _ _).2 ⟨j,hjq,hj,e,hb⟩;rw[(Ca _ _ _ _).1 I]at h;cases h
  have xC:∀k ob,(db (c.H i) a.Δ (c.M i)).get k=some ob->Hd.get k=some ob/\k.num<(c.N i).num/\mC (c.N i) ob:=by
   intro k o m;obtain⟨g1,y⟩:=JB k o m;obtain⟨d1,d2⟩:=F.xC R hle G.below k o g1;refine⟨Si.sub R F G k o g1 y,d1,d2 λj hj e=>?_⟩;rcases jA j i with h | h
   ·exact y j hj e h
   ·have:=R.lF (i:=i) (j:=j) h (fC hj.lt);rw[←e]at this;omega
  refine⟨_,c.N i,c.H' i,c.n' i,yR,ξ _,xC,.inr ⟨rfl,b2.symm⟩,λm=>⟨back Hd (c.H' i) a.Δ (c.M l.length),λk o h=>?_,⟨i+1,⟨W,λb hb=>?_⟩,?_⟩,?_⟩,λh=>by rw[b2];exact h⟩
  ·obtain⟨g1,y⟩:=xV a.Δ (c.M l.length) Hd (c.H' i) k;by_cases I:hidden a.Δ (c.M l.length) k
   ·rw[g1 I]at h;refine .inl ⟨h,?_⟩;obtain⟨j,hj,hm,e,hb⟩:=(R.wi (ξ _) _ _).1 I;cases hs:(db (c.H i) a.Δ (c.M i)).get k with
    | none=>rfl
    | some o'=>
     exfalso;rcases jA j i with h1 | h1
     ·rw[(Ca _ _ _ _).1 ((R.wi hle _ _).2 ⟨j,h1,hm,e,hb⟩)]at hs;cases hs
     ·have d:=(xC k o' hs).2.1;have:=R.lF (i:=i) (j:=j) h1 (fC hm.lt);rw[←e]at this;omega
   ·rw[y I]at h;exact .inr h
  ·constructor
   ·rintro(h | h)
    ·have:=(G.2 b hb).1 h;omega
    ·omega
   ·intro h;rcases jA b i with h1 | h1
    ·exact .inl ((G.2 b hb).2 h1)
    ·exact .inr (by omega)
  ·have notM:∀k,(∀j,Mk l c j->k≠c.N j)->∀q,q<=l.length->¬ hidden a.Δ (c.M q) k:=λk m q u h=>by
    obtain⟨j,_,hm,e,_⟩:=(R.wi u _ _).1 h;exact m j hm e
   have J:∀j q,Mk l c j->q<=l.length->(hidden a.Δ (c.M q) (c.N j)↔j<q/\Nat.testBit a.Δ j=false):=λj q hj u=>by
    rw[R.wi u];constructor
    ·rintro⟨j',h1,h2,X,Z⟩;have:=R.Cm hj h2 X;subst this;exact⟨h1,Z⟩
    ·rintro⟨h1,h2⟩;exact⟨j,h1,hj,rfl,h2⟩
   refine⟨λk m=>?_,λj hj r=>?_,λj hj r=>?_⟩
   ·rw[(xV a.Δ (c.M l.length) Hd (c.H' i) k).2 (notM k m _ (ξ _)),(R.Cn g w f k).2 (notM k m i hle)]
   ·have aG:j≠i:=λe=>m1 (e▸hj);have JF:D j:=r.resolve_right aG;cases hb:Nat.testBit a.Δ j with
    | true=>
     have A0:=R.Δ i a g j hb;rw[(xV a.Δ (c.M l.length) Hd (c.H' i) _).2 (λh=>by have:=((J j _ hj (ξ _)).1 h).2;rw[hb]at this;cases this),ab (by omega),(R.Cn g w f _).2 (λh=>by have:=((J j _ hj hle).1 h).2;rw[hb]at this;cases this)]
    | false=>
     rw[(xV a.Δ (c.M l.length) Hd (c.H' i) _).1 ((J j _ hj (ξ _)).2 ⟨hj.lt,hb⟩),Si.done j hj JF];by_cases h1:j<i
     ·rw[ab h1,ab (by omega)];rw[(R.Cn g w f _).1 ((J j _ hj hle).2 ⟨h1,hb⟩)]
     ·rw[Γ h1,Γ (by omega)]
   ·have hb:Nat.testBit a.Δ j=false:=by
     cases hb:Nat.testBit a.Δ j with
     | false=>rfl
     | true=>exact absurd (.inl (L j hb)) r
    rw[(xV a.Δ (c.M l.length) Hd (c.H' i) _).1 ((J j _ hj (ξ _)).2 ⟨hj.lt,hb⟩)];exact S.not j hj λh=>r (.inl h)
  ·refine⟨F.Co,λb hb E k o t=>?_,λj hj r=>F.make j hj (r.resolve_right λe=>m1 (e▸hj))⟩;by_cases e:b=i
   ·subst e;rw[b2];exact m k o t
   ·exact F.bg b hb (E.resolve_right e) k o t
end
end
section
def cW(T:Tr V):List K->Tr V
 | []=>.e
 | k::l=>(cW T l).put (T.get k) k
def JH(T:Tr V)(l:List K)(k:K):(cW T l).get k=if k∈l then T.get k else none:=by
 induction l with
 | nil=>simp[cW,Tr.gV]
 | cons a l ih=>
  simp only[cW,Tr.fk,ih,cD];by_cases e:k=a
  ·subst e;simp
  ·simp[e]
structure Inv(ty:Ty)(l:List AO)(c:Canon)(η0:Env)(w0:World)(sz:Nat)(D:Nat->Prop)(η:Env)(Hd:Hp)(w:World)(tmps:Array Value):Prop where
 JI:∀j,D j->j<l.length
 closed:Fy l D
 cut:∃p,Cut l c D p/\Spec l c D p Hd
 facts:tq l c D
 rep:Ff (WW ty) η Hd w
 names:∀k L,η k=some L->k.num<(c.N 0).num\/∃j,D j/\(c.N j).num<=k.num/\k.num<(c.N (j+1)).num
 ext:η0.le η
 bC:∀k,k.num<(c.N 0).num->η k=η0 k
 kept:Kept (lQ η0 (c.H 0) true) w0 w
 ka:∀m b,lQ η Hd m b->lQ η0 (c.H 0) m b\/w0.heap.size<=b
 size:tmps.size=sz
 below:∀j,D j->bz (c.N (j+1)) (c.v j)=true
 R7:∀t v,(c.T 0).get (bF t)=some v->bz (c.N 0) v=true
 s1:∀j o t,D j->l[j]?=some o->o.dst=some (bF t)->∃y,tmps[t]?=some y/\an η (c.v j) y
 s0:∀t v,(c.T 0).get (bF t)=some v->(∀j o,D j->l[j]?=some o->o.dst≠some (bF t))->∃y,tmps[t]?=some y/\an η v y
section
variable {P:Program}{ty:Ty}{C:Nat->Option aE}{ih:cV}{l:List AO}{c:Canon}{rs:List Rd}{bs:List Bg}{D:Nat->Prop}{p q i:Nat}{Hd:Hp}{a:AO}{η0 η:Env}{w0 w:World}{sz:Nat}{tmps:Array Value}
def Inv.free(I:Inv ty l c η0 w0 sz D η Hd w tmps)(R:fN ih l c rs bs)(f:i<l.length)(b:¬ D i){n n':K}(d:n'=n\/(n=c.N i/\n'=c.N (i+1)))(k:K)(h1:n.num<=k.num)(h2:k.num<n'.num):η k=none:=by
 rcases d with rfl | ⟨rfl,rfl⟩
 ·omega
 ·cases e:η k with
  | none=>rfl
  | some L=>
   exfalso;rcases I.names k L e with h | ⟨j,hj,g,m⟩
   ·have:=R.lF (i:=0) (j:=i) (by omega) (by omega);omega
   ·rcases zq j i with h | h | h
    ·have:=R.lF (i:=j+1) (j:=i) (by omega) (by omega);omega
    ·subst h;exact b hj
    ·have:=R.lF (i:=i+1) (j:=j) (by omega) (fC (I.JI j hj));omega
def Inv.next(I:Inv ty l c η0 w0 sz D η Hd w tmps)(R:fN ih l c rs bs)(z:l[i]?=some a)(G:¬ D i)(S:∀k,Nat.testBit a.Δ k=true->D k){dst:Option Nat}(A:a.dst=dst.map bF)(T:∀d,dst=some d->d<sz)
 {Hs sn Hn:Hp}{n n':K}{η1:Env}{H:World}{y:Value}(ht:Trans (WW ty) (bX η n) Hs n w η1 sn n' H)(V:∀k o,Hs.get k=some o->Hd.get k=some o)(B:n'=n\/(n=c.N i/\n'=c.N (i+1)))
 (W:∀k o,Hn.get k=some o->(Hd.get k=some o/\Hs.get k=none)\/sn.get k=some o)(X:∃p,Cut l c (kG D i) p/\Spec l c (kG D i) p Hn)(F:tq l c (kG D i))
 (Y:an (merge η η1 n n') (c.v i) y)(hb:bz (c.N (i+1)) (c.v i)=true):Inv ty l c η0 w0 sz (kG D i) (merge η η1 n n') Hn H (jo dst y tmps):=by
 have J:=rE z;have hf:=I.free R J G B;obtain⟨g1,u,Z⟩:=acO I.rep V hf ht W;have hle:=merge_le (η1:=η1) hf;have other:∀j o t,D j->l[j]?=some o->o.dst=some (bF t)->dst≠some t:=λj o t hj f g e=>by
  have:a.dst=some (bF t):=by rw[A,e];rfl
  exact G (R.afr f z g this▸hj)
 have M:∀t,dst≠some t->(jo dst y tmps)[t]?=tmps[t]?:=λt h=>by
  cases dst with
  | none=>rfl
  | some d=>simp only[jo];rw[gj,Γ (λe=>h (by rw[e]))]
 refine⟨λj hj=>?_,λj o hj f k s=>?_,X,F,g1,λk L s=>?_,I.ext.trans hle,λk s=>?_,?_,λm b hb=>?_,by rw[B4];exact I.size,λj hj=>?_,I.R7,λj o t hj f g=>?_,λt v hv O=>?_⟩
 ·rcases hj with hj | rfl
  ·exact I.JI j hj
  ·exact J
 ·rcases hj with hj | rfl
  ·exact .inl (I.closed j o hj f k s)
  ·rw[z]at f;injection f with f;subst f;exact .inl (S k s)
 ·by_cases E:n.num<=k.num/\k.num<n'.num
  ·rcases B with rfl | ⟨rfl,rfl⟩
   ·omega
   ·exact .inr ⟨i,.inr U,E.1,E.2⟩
  ·unfold merge at s;rw[Γ E]at s;rcases I.names k L s with h | ⟨j,h1,h2⟩
   ·exact .inl h
   ·exact .inr ⟨j,.inl h1,h2⟩
 ·unfold merge;rw[Γ,I.bC k s];rintro⟨h1,h2⟩;rcases B with rfl | ⟨rfl,rfl⟩
  ·omega
  ·have:=R.lF (i:=0) (j:=i) (by omega) (by omega);omega
 ·refine⟨u.os.trans I.kept.os,u.tape.trans I.kept.tape,u.output.trans I.kept.output,eF I.kept.size u.size,λb hb Q=>?_,λb r hb=>let⟨r',h⟩:=I.kept.loops b r hb;u.loops b r' h⟩;rw[u.block b (eE hb I.kept.size) λHS=>?_,I.kept.block b hb Q];rcases I.ka _ _ HS with h | h
  ·exact Q h
  ·omega
 ·rcases Z m b hb with h | h
  ·exact I.ka m b h
  ·exact .inr (eF I.kept.size h)
 ·rcases hj with hj | rfl
  ·exact I.below j hj
  ·exact hb
 ·rcases hj with hj | rfl
  ·obtain⟨x,h1,h2⟩:=I.s1 j o t hj f g;exact⟨x,by rw[M t (other j o t hj f g)];exact h1,h2.mono hle⟩
  ·rw[z]at f;injection f with f;subst f;cases dst with
   | none=>rw[A]at g;cases g
   | some d=>
    rw[A]at g;have hdt:d=t:=ED (by injection g);subst hdt;refine⟨y,?_,Y⟩;simp only[jo,gj];rw[ab trivial,ab (by rw[I.size];exact T d rfl)]
 ·have aG:dst≠some t:=λe=>O i a (.inr U) z (by rw[A,e];rfl);obtain⟨x,h1,h2⟩:=I.s0 t v hv λj o hj f=>O j o (.inl hj) f;exact⟨x,by rw[M t aG];exact h1,h2.mono hle⟩
def Inv.jj(I:Inv ty l c η0 w0 sz D η Hd w tmps)(R:fN ih l c rs bs)(b:l[i]?=some a)(m:¬ D i)(n:∀k,Nat.testBit a.Δ k=true->D k):aK (bX η (c.N i)) (cW (c.T i) a.looks) tmps:=by
 intro t v hv;rw[JH]at hv;by_cases hl:bF t∈a.looks
 ·rw[ab hl]at hv;have e:=rE b;rcases R.R4 (fC e) (bF t) with ⟨j,o,h1,h2,r,d⟩ | ⟨h1,h2⟩
  ·rw[hv]at d;injection d with d;subst d;rcases R.looks b h2 r hl with h | h | h
   ·obtain⟨y,g1,f⟩:=I.s1 j o t (n j h) h2 r;exact⟨y,g1,f.bX (bz.mono (R.lF h1 (fC e)) _ (I.below j (n j h)))⟩
   ·have:=R.Δ j o h2 i h;omega
   ·omega
  ·rw[hv]at h2;obtain⟨y,g1,f⟩:=I.s0 t v h2.symm λj o hj g s=>by
    rcases R.looks b g s hl with h | h | h
    ·exact h1 j o (R.Δ i a b j h) g s
    ·exact m (I.closed j o hj g i h)
    ·subst h;exact m hj
   exact⟨y,g1,f.bX (bz.mono (R.lF (oy i) (fC e)) _ (I.R7 t v h2.symm))⟩
 ·rw[Γ hl]at hv;cases hv
def afz{T:Tr V}{a:AO}{x:ao}(b:x∈a.op.eH):aq T x=aq (cW T a.looks) x:=by
 cases x with
 | c v=>rfl
 | t k=>
  have:k∈Ev.looks a.op.eH:=by
   generalize a.op.eH=xs at b
   induction xs with
   | nil=>cases b
   | cons y xs d=>
    rcases cD.1 b with h | h
    ·subst h;simp[Ev.looks]
    ·cases y with
     | t q=>simp only[Ev.looks,cD];exact .inr (d h)
     | c v=>simp only[Ev.looks];exact d h
  simp only[aq,JH];rw[ab];unfold AO.looks;exact Bx _ this
def afA{T:Tr V}{a:AO}:want a.guard (cW T a.looks)=want a.guard T:=by
 cases h:a.guard with
 | none=>rfl
 | some p=>
  obtain⟨k,b⟩:=p;simp only[want,JH];rw[ab];unfold AO.looks;rw[h];simp
def R9(η:Env)(n:K)(k:K)(h:n.num<=k.num):bX η n k=none:=by unfold bX;rw[Γ (by omega)]
def Inv.sub(I:Inv ty l c η0 w0 sz D η Hd w tmps){Hs:Hp}{n:K}(h:∀k o,Hs.get k=some o->Hd.get k=some o/\k.num<n.num/\mC n o):aU (WW ty) (bX η n) Hs n w:=by
 refine⟨λk o b=>?_,λk k' o o' L L' d b hm e f g=>?_,R9 η n⟩
 ·obtain⟨h1,h2,j⟩:=h k o b;obtain⟨L,g1,m,r⟩:=I.rep.obj k o h1;exact⟨L,pz g1 h2,m,r.bX j⟩
 ·exact I.rep.sep k k' o o' L L' d (h k o b).1 hm (h k' o' e).1 (xT _ _ _ _ f) (xT _ _ _ _ g)
def Inv.iT(I:Inv ty l c η0 w0 sz D η Hd w tmps)(b:bM η0 ty.g)(hf:∀k,(c.N 0).num<=k.num->η0 k=none){n:K}(e:(c.N 0).num<=n.num):bM (bX η n) ty.g:=λg d=>by
 obtain⟨L,h1,h2⟩:=b g d;refine⟨L,pz (I.ext _ _ h1) ?_,h2⟩;rcases jA (bF g).num (c.N 0).num with h | h
 ·omega
 ·rw[hf _ h]at h1;cases h1
def Inv.step(X:Good P ty C)(Y:kE P ty ih)(R:fN ih l c rs bs){fr:Frame}{cs:List Frame}{ops:Array Oper}{rest:List Nat}{k:List Item}{ds:List Deferred}(hm:fr.mode=.run)
 (I:Inv ty l c η0 w0 sz D η Hd w tmps)(Z:bM η0 ty.g)(hf:∀k,(c.N 0).num<=k.num->η0 k=none){o:Oper}(B:ops[i]?=some o){Δ:Nat}(f:l[i]?=some (jm ty ops o Δ))(G:∀d,o.dst=some d->d<sz)
 (t:¬ D i)(qL:∀k,Nat.testBit Δ k=true->D k):
 ∃η' Ny w' H,Inv ty l c η0 w0 sz (kG D i) η' Ny w' H/\Steps P (lone (put fr tmps ds (.inRegion ops (i::rest)::k)) cs w) (lone (put fr H ds (.inRegion ops rest::k)) cs w'):=by
 have st:=R.step i _ f;have ω:=rE f;have X8:∃g,vX ops o.guard=some g/\(jm ty ops o Δ)={ dst:=o.dst.map bF,op:=(de ty o.op).getD .bad,guard:=g,Δ:=Δ}:=by
  cases u:vX ops o.guard with
  | some g=>exact⟨g,rfl,by simp[jm,u]⟩
  | none=>
   exfalso;have e:jm ty ops o Δ={ dst:=none,op:=.bad,guard:=none,Δ:=Δ}:=by simp[jm,u]
   have E:=st.want;rw[e]at E;simp only[want,kV]at E;have:=st.yR E.symm;rw[e]at this;simp only[oper,dG,simple]at this;cases this
 obtain⟨g,u,j⟩:=X8;have z:∀k,Nat.testBit (jm ty ops o Δ).Δ k=true->D k:=λk r=>qL k (by rw[j]at r;exact r);have F:=I.jj R f t z;have J:∀b,c.run i=b->Region.wanted o (yielded ops tmps)=b:=λb hb=>by have h:=st.want;rw[←afA (T:=c.T i),hb,j]at h;rw[j]at F;exact Iv F u h
 have K:(jm ty ops o Δ).dst=o.dst.map bF:=by rw[j]
 cases m:c.run i with
 | false=>
  obtain⟨p,h1,h2⟩:=I.cut;have m1:=afw (l:=l) m;have M:=afx (l:=l) m;have hv:=(st.not m).1;have ht:Trans (WW ty) (bX η (c.N i)) .e (c.N i) w (bX η (c.N i)) .e (c.N i) w:=.refl (I.sub λk o h=>by rw[Tr.gV]at h;cases h);have:=I.next R f t z K G ht (λk o h=>by rw[Tr.gV]at h;cases h) (.inl U) (Hn:=Hd) (λk o h=>.inl ⟨h,Tr.gV k⟩) ⟨p,h1.kG M,h2.other m1⟩ (I.facts.other m1 M) (y:=undef) (by rw[hv];exact Iu _) (by rw[hv];rfl);exact⟨_,_,_,_,this,.one (Qt hm B (J false m))⟩
 | true=>
  obtain⟨p,kg,hS⟩:=I.cut;obtain⟨Hs,n,sn,n',h1,h2,O,h4,h5,h6⟩:=afy R I.closed I.facts kg hS f m t z;have NA:=R.lF (oy i) (fC ω);have IH:aK (bX η n) (cW (c.T i) (jm ty ops o Δ).looks) tmps:=F.mono (acN η h2);have Q:oper ih (jm ty ops o Δ).op (cW (c.T i) (jm ty ops o Δ).looks) Hs n=some (c.v i,sn,n'):=by rw[←h1];exact(afn λx hx=>afz hx).symm
  cases s:de ty o.op with
  | none=>rw[j,s]at h1;simp only[Option.getD_none,oper,dG,simple]at h1;cases h1
  | some A=>
   have hA:(jm ty ops o Δ).op=A:=by rw[j,s];rfl
   rw[hA]at Q;obtain⟨η1,v',w1,g1,S,g3⟩:=Qs X Y IH (I.iT Z hf (eF NA h2)) (I.sub O) s Q (put fr tmps ds (.inRegion ops (i::rest)::k)) cs;obtain⟨Hn,q1,q2,q3⟩:=h5 λk ob r=>⟨g1.rep.xC r,let⟨L,_,_,q⟩:=g1.rep.obj k ob r;q.below g1.rep.free⟩;have B9:η1.le (merge η η1 n n'):=by have h:=xT (merge η η1 n n') n';rw[QE g1]at h;exact h
   have:=I.next R f t z K G g1 (λk o h=>(O k o h).1) h4 q1 q2 q3 (S.mono B9) (h6 (S.kF g1.rep.free));refine⟨_,_,_,_,this,?_⟩;have oo:∀c,o.op≠.defer c:=λc e=>by rw[e]at s;cases s
   have V:=B3 (P:=P) (cs:=cs) (w:=w) (fr:=put fr tmps ds (.inRegion ops (i::rest)::k)) hm rfl B (J true m) oo;rw[eval_put]at V;have W:=EY V (λ_ _ _ _ h=>by cases h) g3;rw[EX,B]at W;exact W
end
end
section
section afB
variable {ty:Ty}{ops:Array Oper}
def afC:∀(os:List Oper) (dj:List Nat) (j:Nat),(cE ty ops os dj)[j]?=(os[j]?).map λo=>jm ty ops o ((dj[j]?).getD 0):=by
 intro os
 induction os with
 | nil=>intro dj j;cases dj<;>simp[cE]
 | cons o os ih=>
  intro dj j;cases dj with
  | nil=>
   cases j with
   | zero=>simp[cE]
   | succ j=>simp only[cE,qa,ih];simp
  | cons a dj=>
   cases j with
   | zero=>simp[cE]
   | succ j=>simp only[cE,qa,ih]
def JJ(o:Oper)(Δ:Nat):(jm ty ops o Δ).Δ=Δ:=by unfold jm;split<;>rfl
def afD(dj:List Nat)(es:List Edge)(k:Nat):Nat.testBit (vY dj es) k=true↔∃e∈es,Region.binds .any e=true/\(k=e.on\/Nat.testBit ((nth dj e.on).getD 0) k=true):=by
 induction es with
 | nil=>simp[vY]
 | cons e es ih=>
  simp only[vY,cD,gU];by_cases hb:Region.binds .any e=true
  ·rw[ab hb];show Nat.testBit ((2 ^ e.on ||| (nth dj e.on).getD 0) ||| vY dj es) k=true↔_;rw[Nat.testBit_or,Nat.testBit_or,Nat.testBit_two_pow,mX,mX,ih,cC];constructor
   ·rintro((h | h) | ⟨b,h1,h2⟩)
    ·exact⟨e,.inl U,hb,.inl h.symm⟩
    ·exact⟨e,.inl U,hb,.inr h⟩
    ·exact⟨b,.inr h1,h2⟩
   ·rintro⟨b,h1 | h1,h2,a⟩
    ·subst h1;rcases a with a | a
     ·exact .inl (.inl a.symm)
     ·exact .inl (.inr a)
    ·exact .inr ⟨b,h1,h2,a⟩
  ·rw[Γ hb,ih];constructor
   ·rintro⟨b,h1,h2⟩;exact⟨b,.inr h1,h2⟩
   ·rintro⟨b,h1 | h1,h2,a⟩
    ·subst h1;exact absurd h2 hb
    ·exact⟨b,h1,h2,a⟩
def afE{i:Nat}:∀{es:List Edge},BI i es=true->∀e∈es,Region.binds .any e=true->e.on<i:=by
 intro es
 induction es with
 | nil=>intro _ e h;cases h
 | cons a es ih=>
  intro h e he hb;simp only[BI,aD,mX,qd]at h;rcases cD.1 he with rfl | he
  ·rcases h.1 with h1 | h1
   ·rw[hb]at h1;cases h1
   ·simpa[fF]using h1
  ·exact ih h.2 e he hb
def afF{i:Nat}{a:AO}:∀{l:List AO},EB i a l=true->∀b∈l,xy i a b=true/\zF a b=true:=by
 intro l
 induction l with
 | nil=>intro _ b h;cases h
 | cons c l ih=>
  intro h b hb;simp only[EB,aD]at h;rcases cD.1 hb with rfl | hb
  ·exact h.1
  ·exact ih h.2 b hb
def JK{dj:List Nat}:∀{os:List Oper} {l:List AO} {i:Nat},vZ dj i os l=true->∀(j:Nat) (o:Oper) (a:AO),os[j]?=some o->l[j]?=some a->a.Δ=vY dj o.after.toList/\BI (i+j) o.after.toList=true/\∀(d:Nat) (b:AO),j<d->l[d]?=some b->xy (i+j) a b=true/\zF a b=true:=by
 intro os
 induction os with
 | nil=>intro l i h j o a e;simp at e
 | cons o os ih=>
  intro l i h j o' a e f;cases l with
  | nil=>simp at f
  | cons b l=>
   simp only[vZ,aD]at h;obtain⟨⟨⟨h1,h2⟩,k⟩,m⟩:=h;cases j with
   | zero=>
    simp only[xj,kV]at e f;subst e;subst f;refine⟨bY h1,h2,λd c hj g=>?_⟩;cases d with
    | zero=>omega
    | succ d=>
     simp only[qa]at g;exact afF k c (List.mem_of_getElem? g)
   | succ j=>
    simp only[qa]at e f;have:=ih m j o' a e f;rw[show Nat.succ i+j=i+(j+1) by omega]at this;refine⟨this.1,this.2.1,λd c hj g=>?_⟩;cases d with
    | zero=>omega
    | succ d=>
     simp only[qa]at g;exact this.2.2 d c (by omega) g
def Sb{p b:Nat->Bool}:∀{L:List Nat},(∀x,b x=true->p x=true)->∀{i:Nat},i∈L->p i=true->b i=false->L.countP b<L.countP p:=by
 intro L
 induction L with
 | nil=>intro _ i h;cases h
 | cons a L ih=>
  intro d i hi h1 h2;have g:L.countP b<=L.countP p:=List.countP_mono_left λx _=>d x;rw[List.countP_cons,List.countP_cons];rcases cD.1 hi with e | hi
  ·subst e;rw[ab h1,Γ (by simp[h2])];omega
  ·have:=ih d hi h1 h2;by_cases f:b a=true
   ·rw[ab f,ab (d a f)];omega
   ·rw[Γ f];split<;>omega
end afB
section
variable {P:Program}{ty:Ty}{C:Nat->Option aE}{ih:cV}{c:Canon}{rs:List Rd}{bs:List Bg}{η0 η:Env}{w0 w:World}{sz:Nat}{tmps:Array Value}{ops:Array Oper}{Hd:Hp}
structure FB(ty:Ty)(ops:Array Oper)(dj:List Nat)(l:List AO):Prop where
 len:l.length=ops.size
 get:∀(j:Nat) (o:Oper),ops[j]?=some o->l[j]?=some (jm ty ops o ((dj[j]?).getD 0))
 bit:∀(j:Nat) (o:Oper) (k:Nat),ops[j]?=some o->(Nat.testBit ((dj[j]?).getD 0) k=true↔∃e∈o.after,Region.binds .any e=true/\(k=e.on\/Nat.testBit ((dj[e.on]?).getD 0) k=true))
 low:∀(j:Nat) (o:Oper) (e:Edge),ops[j]?=some o->e∈o.after->Region.binds .any e=true->e.on<j
def afG{dj:List Nat}(h:vZ dj 0 ops.toList (cE ty ops ops.toList dj)=true):FB ty ops dj (cE ty ops ops.toList dj):=by
 have get:∀(j:Nat) (o:Oper),ops[j]?=some o->(cE ty ops ops.toList dj)[j]?=some (jm ty ops o ((dj[j]?).getD 0)):=λj o a=>by
  have e:ops.toList[j]?=some o:=by rw[mh];exact a
  rw[afC,e];rfl
 have len:(cE ty ops ops.toList dj).length=ops.size:=by
  have key:∀(os:List Oper) (dj:List Nat),(cE ty ops os dj).length=os.length:=by
   intro os
   induction os with
   | nil=>intro dj;cases dj<;>rfl
   | cons o os ih=>intro dj;cases dj<;>simp[cE,ih]
  rw[key];simp
 refine⟨len,get,λj o k a=>?_,λj o e a he hb=>?_⟩
 ·obtain⟨h1,_,_⟩:=JK h j o _ (by rw[mh];exact a) (get j o a);rw[JJ]at h1;rw[h1,afD];simp only[oB,Array.mem_toList_iff]
 ·obtain⟨_,h2,_⟩:=JK h j o _ (by rw[mh];exact a) (get j o a);have:=afE h2 e (by simpa using he) hb;omega
def FB.Δ{dj:List Nat}{l:List AO}(E:FB ty ops dj l)(j:Nat):∀o,ops[j]?=some o->∀k,Nat.testBit ((dj[j]?).getD 0) k=true->k<j:=by
 induction j using Nat.strongRecOn with
 | ind j ih=>
  intro o a k d;obtain⟨e,he,hb,h⟩:=(E.bit j o k a).1 d;have b:=E.low j o e a he hb;rcases h with rfl | h
  ·exact b
  ·have hj:=(mU.1 a).1;have f:ops[e.on]?=some ops[e.on]:=mg (by omega);have:=ih e.on b _ f k h;omega
def afH{dj:List Nat}{l:List AO}(u:Good P ty C)(v:kE P ty ih)(R:fN ih l c rs bs)(E:FB ty ops dj l){fr:Frame}{cs:List Frame}{k:List Item}{ds:List Deferred}(hm:fr.mode=.run)
 (y:bM η0 ty.g)(hf:∀k,(c.N 0).num<=k.num->η0 k=none)(z:∀(i:Nat) (o:Oper),ops[i]?=some o->∀d,o.dst=some d->d<sz):
 ∀(fuel t:Nat) (listed:Array Bool) (η:Env) (Hd:Hp) (w:World) (tmps:Array Value),listed.size=ops.size->Inv ty l c η0 w0 sz (λj=>listed[j]?=some true) η Hd w tmps->(List.range ops.size).countP (λj=>listed[j]?!=some true)<=fuel->∃η' Ny w' m,Inv ty l c η0 w0 sz (λj=>j<ops.size) η' Ny w' m/\Steps P (lone (put fr tmps ds (.inRegion ops (Region.linearise.go .any ops fuel t listed [])::k)) cs w) (lone (put fr m ds (.inRegion ops []::k)) cs w'):=by
 intro fuel;have done:∀(listed:Array Bool),listed.size=ops.size->(∀j,j<ops.size->listed[j]?=some true)->(λj=>listed[j]?=some true)=(λj=>j<ops.size):=by
  intro listed hs h;funext j;apply propext;constructor
  ·intro hj;rw[←hs];exact(mU.1 hj).1
  ·exact h j
 induction fuel with
 | zero=>
  intro t listed η Hd w tmps b I A;have all:∀j,j<ops.size->listed[j]?=some true:=λj hj=>by
   have h0:(List.range ops.size).countP (λj=>listed[j]?!=some true)=0:=by omega
   rw[List.countP_eq_zero]at h0;have:=h0 j (List.mem_range.2 hj);simpa using this
  rw[done listed b all]at I;exact⟨η,Hd,w,tmps,I,.refl _ _⟩
 | succ fuel B=>
  intro t listed η Hd w tmps b I A;simp only[Region.linearise.go];change ∃η' Ny w' m,_/\Steps P (lone (put fr tmps ds (.inRegion ops (match (Region.ready .any ops listed)[t % (Region.ready .any ops listed).length]? with
   | some i=>Region.linearise.go .any ops fuel (t / (Region.ready .any ops listed).length) (listed.setIfInBounds i true) [i]
   | none=>[].reverse)::k)) cs w) _
  cases hi:(Region.ready .any ops listed)[t % (Region.ready .any ops listed).length]? with
  | none=>
   have D:Region.ready .any ops listed=[]:=by
    cases F:Region.ready .any ops listed with
    | nil=>rfl
    | cons x xs=>
     rw[F]at hi;have Z:t % (x::xs).length<(x::xs).length:=oU _ (by simp);rw[List.getElem?_eq_none_iff]at hi;omega
   have all:∀j,j<ops.size->listed[j]?=some true:=by
    intro j
    induction j using Nat.strongRecOn with
    | ind j G=>
     intro hj;have H:j<listed.size:=by omega
     have e:listed[j]?=some listed[j]:=mg H;cases hv:listed[j] with
     | true=>rw[e,hv]
     | false=>
      exfalso;have:j∈Region.ready .any ops listed:=by rw[mem_ready];refine⟨by simp[vM,e,hv],ops[j],mg hj,λp he hb=>?_⟩;have r:=E.low j _ p (mg hj) he hb;have:=G p.on r (by omega);simp[vM,this]
      rw[D]at this;cases this
   rw[done listed b all]at I;exact⟨η,Hd,w,tmps,I,.refl _ _⟩
  | some i=>
   simp only[];rw[linearise_go_acc,List.reverse_singleton,List.singleton_append];obtain⟨J,o,a,K⟩:=mem_ready.1 (List.mem_of_getElem? hi);have L:i<ops.size:=(mU.1 a).1;have n:i<listed.size:=by omega
   have s:¬ (listed[i]?=some true):=λh=>by simp[vM,h]at J
   have M:∀e∈o.after,Region.binds .any e=true->listed[e.on]?=some true:=λe he hb=>by
    have:=K e he hb;rw[vM]at this;cases h:listed[e.on]? with
    | none=>rw[h]at this;cases this
    | some x=>rw[h]at this;simp at this;rw[this]
   have O:∀q,Nat.testBit ((dj[i]?).getD 0) q=true->listed[q]?=some true:=λq Q=>by
    obtain⟨e,he,hb,h⟩:=(E.bit i o q a).1 Q;have h1:=M e he hb;rcases h with rfl | h
    ·exact h1
    ·have r:=E.low i o e a he hb;have:=I.closed e.on _ h1 (E.get e.on _ (mg (by omega))) q (by rw[JJ];exact h);exact this
   obtain⟨η1,Yl,S,T,I1,s1⟩:=I.step u v R (cs:=cs) (rest:=Region.linearise.go .any ops fuel (t / (Region.ready .any ops listed).length) (listed.setIfInBounds i true) []) (k:=k) (ds:=ds) hm y hf a (E.get i o a) (z i o a) s O;have U:(kG (λj=>listed[j]?=some true) i) = λj=>(listed.setIfInBounds i true)[j]?=some true:=by
    funext j;apply propext;rw[gj];unfold kG;by_cases e:i=j
    ·subst e;simp[n]
    ·rw[Γ e];constructor
     ·rintro(h | h)
      ·exact h
      ·exact absurd h.symm e
     ·exact .inl
   rw[U]at I1;have hc:(List.range ops.size).countP (λj=>(listed.setIfInBounds i true)[j]?!=some true)<(List.range ops.size).countP (λj=>listed[j]?!=some true):=by
    refine Sb (λx f=>?_) (List.mem_range.2 L) ?_ ?_
    ·rw[gj]at f;by_cases e:i=x
     ·subst e;simp[n]at f
     ·rw[Γ e]at f;exact f
    ·simpa using s
    ·simp[gj,n]
   obtain⟨V,Hd2,W,X,I2,Y⟩:=B (t / (Region.ready .any ops listed).length) (listed.setIfInBounds i true) η1 Yl S T (by simp[b]) I1 (by omega);exact⟨V,Hd2,W,X,I2,Steps.trans s1 Y⟩
def JM{N:Nat}:∀{l:List Oper},ij N l=true->∀o∈l,∀d,o.dst=some d->d<N:=by
 intro l
 induction l with
 | nil=>intro _ o h;cases h
 | cons p l b=>
  intro h o hm d a;simp only[ij,aD]at h;rcases cD.1 hm with rfl | hm
  ·rw[a]at h;have:=h.1;simp only[fF,cC]at this;exact this
  ·exact b h.2 o hm d a
def afK(B:Good P ty C)(S:kE P ty ih)(U:uw ih)(id:Nat)(ops:Array Oper)(T:Tr V)(H:Hp)(n:K)(r:R)(D:vZ (Region.before ops).toList 0 ops.toList (cE ty ops ops.toList (Region.before ops).toList)=true)
 (F:aS (λ_=>none) ih (.code (.regd (cE ty ops ops.toList (Region.before ops).toList)) T) H n=some r)(η:Env)(w:World)(fr:Frame)(cs:List Frame)(k:List Item)(W:within fr.tmps.size (.region id ops true)=true)
 (G:aK η T fr.tmps)(X:bM η ty.g)(s:aU (WW ty) η H n w)(hm:fr.mode=.run)(hl:jV fr w):
 ∃η' tmps ds w',Trans (WW ty) η H n w η' r.H r.n w'/\tmps.size=fr.tmps.size/\aK η' r.T tmps/\Marks w.heap.size η' r.H w' ds fr.defers/\iV P η' (lone (put fr fr.tmps fr.defers (.code (.region id ops true)::k)) cs w) fr cs k r.ex tmps ds w':=by
 simp only[aS]at F;have E:=afG (ty:=ty) D;obtain⟨hex,c,rs,bs,_,_,c1,c2,c3,c4,c5,c6,c7,I,J⟩:=acP _ _ _ _ _ _ _ _ _ F;simp only[eV]at c5 c6 c7 I J;have R:fN ih (cE ty ops ops.toList (Region.before ops).toList) c rs bs:=by
  refine⟨U,J,I,λi j a b Y u hb=>?_,λi a u q f=>?_,c4⟩
  ·have hi:i<ops.size:=by rw[←E.len];exact rE u
   have:=JK D i ops[i] a (by rw[mh];exact mg hi) u;rw[eV]at this;exact this.2.2 j b Y hb
  ·have hi:i<ops.size:=by rw[←E.len];exact rE u
   have e:=E.get i _ (mg hi);rw[u]at e;injection e with e;rw[e,JJ]at f;exact E.Δ i _ (mg hi) q f
 have Z:∀k,(c.N 0).num<=k.num->η k=none:=λq f=>s.free q (by rw[c3]at f;exact f);have I0:Inv ty (cE ty ops ops.toList (Region.before ops).toList) c η w fr.tmps.size (λj=>(Array.replicate ops.size false)[j]?=some true) η H { w with drawn:=w.drawn+1} fr.tmps:=by
  have no:∀j,¬ ((Array.replicate ops.size false)[j]?=some true):=λj h=>by rw[Array.getElem?_replicate]at h;split at h<;>simp at h
  refine⟨λj h=>absurd h (no j),λi o h=>absurd h (no i),⟨0,⟨oy _,λb _=>⟨λh=>absurd h (no b),λh=>by omega⟩⟩,⟨λq _=>by rw[c2],λj _ h=>absurd h (no j),λj hj _=>?_⟩⟩,⟨λq o f=>?_,λb _ h=>absurd h (no b),λj _ h=>absurd h (no j)⟩,⟨s.obj,s.sep⟩,λq L f=>.inl ?_,.refl _,λ_ _=>rfl,⟨rfl,rfl,rfl,ξ _,λ_ _ _=>rfl,λ_ r h=>⟨r,h⟩⟩,λm b hb=>.inl (by rw[c2];exact hb),rfl,λj h=>absurd h (no j),λt v hv=>?_,λj o t h=>absurd h (no j),λt v hv _=>G t v (by rw[c1]at hv;exact hv)⟩
  ·cases e:H.get (c.N j) with
   | none=>rfl
   | some o=>
    have h1:=s.xC e;have h2:=R.lF (oy j) (fC hj.lt);rw[c3]at h2;omega
  ·rw[c2]at f;rw[c3];obtain⟨L,_,_,h⟩:=s.obj q o f;exact⟨s.xC f,h.below s.free⟩
  ·rw[c3];rcases jA q.num n.num with h | h
   ·exact h
   ·rw[s.free q h]at f;cases f
  ·rw[c1]at hv;rw[c3];obtain⟨y,_,h⟩:=G t v hv;exact h.kF s.free
 have dN:∀(i:Nat) (o:Oper),ops[i]?=some o->∀d,o.dst=some d->d<fr.tmps.size:=λi o A d ph=>
  JM (show ij fr.tmps.size ops.toList=true from W) o (by simpa using Array.mem_of_getElem? A) d ph
 obtain⟨η1,Yl,w1,JL,I1,s1⟩:=afH B S R E (cs:=cs) (k:=k) (ds:=fr.defers) hm X Z dN ops.size (w.tape w.drawn (.order fr.fn id)) (Array.replicate ops.size false) η H _ fr.tmps (by simp) I0
  (by have:=List.countP_le_length (p:=λj=>(Array.replicate ops.size false)[j]?!=some true) (l:=List.range ops.size);simpa using this)
 have hlen:(cE ty ops ops.toList (Region.before ops).toList).length=ops.size:=E.len;obtain⟨p,kg,hS⟩:=I1.cut;have afL:Cut (cE ty ops ops.toList (Region.before ops).toList) c (λj=>j<ops.size) (cE ty ops ops.toList (Region.before ops).toList).length:=
  ⟨ξ _,λb hb=>by rw[hlen]⟩
 have M:=hS.move R kg afL;have x:∀q,Yl.get q=r.H.get q:=λq=>by
  rw[←c6];by_cases h:∃j,Mk (cE ty ops ops.toList (Region.before ops).toList) c j/\q=c.N j
  ·obtain⟨j,hj,rfl⟩:=h;have:=M.done j hj (by rw[←hlen];exact hj.lt);rw[ab hj.lt]at this;exact this
  ·exact M.base q λj hj e=>h ⟨j,hj,e⟩
 have O:(c.N 0).num<=r.n.num:=by rw[←c7];exact R.lF (oy _) (ξ _)
 refine⟨η1,JL,fr.defers,w1,⟨I1.ext,by rw[c3]at O;exact O,⟨λq o f=>I1.rep.obj q o (by rw[x];exact f),λq q' o o' L L' aG f G8 dh=>I1.rep.sep q q' o o' L L' aG (by rw[x];exact f) G8 (by rw[x];exact dh),λq f=>?_⟩,?_,λm b hb=>?_,λq f=>I1.bC q (by rw[c3];exact f)⟩,I1.size,λt v hv=>?_,.refl _ _ _ _ _,?_⟩
 ·cases e:η1 q with
  | none=>rfl
  | some L=>
   exfalso;rcases I1.names q L e with h | ⟨j,h1,h2,Q⟩
   ·omega
   ·have:=R.lF (i:=j+1) (j:=(cE ty ops ops.toList (Region.before ops).toList).length) (by rw[hlen];exact h1) (ξ _);rw[c7]at this;omega
 ·have:=I1.kept;rw[c2]at this;exact this
 ·have:=I1.ka m b (by obtain⟨q,o,L,h1,h2⟩:=hb;exact⟨q,o,L,by rw[x];exact h1,h2⟩);rw[c2]at this;exact this
 ·rw[←c5]at hv;rcases R.R4 (ξ _) (bF t) with ⟨j,o,h1,h2,Q,z⟩ | ⟨h1,h2⟩
  ·rw[hv]at z;injection z with z;subst z;exact I1.s1 j o t (by rw[←hlen];exact h1) h2 Q
  ·rw[hv]at h2;exact I1.s0 t v h2.symm λj o hj A=>h1 j o (by rw[hlen];exact hj) A
 ·rw[hex];have cA:step P (lone (put fr fr.tmps fr.defers (.code (.region id ops true)::k)) cs w)=
   .next (lone (put fr fr.tmps fr.defers (.inRegion ops (Region.linearise.go .any ops ops.size (w.tape w.drawn (.order fr.fn id)) (Array.replicate ops.size false) [])::k)) cs { w with drawn:=w.drawn+1}):=by
   obtain⟨fn,mA,todo,defers,mode,kind,roundOf⟩:=fr;simp only at hm;subst hm;refine ic ?_;simp[put,stepG,stepG.exec,choose,Sem.run,Question.forced,Question.cut,Region.schedule,B.mixed,Region.linearise]
  exact Steps.head cA (Steps.trans s1 (.one (EZ hm)))
end
end
def afN{a b:V×V×Nat}(h:HI a b=true):a=b:=by obtain⟨x,y,z⟩:=a;obtain⟨c,d,e⟩:=b;simp only[HI,aD]at h;rw[tn h.1.1,tn h.1.2,bY h.2]
def Sc:∀{a b:List (V×V×Nat)},GY a b=true->a=b
 | [],[],_=>rfl
 | [],_::_,h=>by simp only[GY]at h;cases h
 | _::_,[],h=>by simp only[GY]at h;cases h
 | a::l,b::l',h=>by simp only[GY,aD]at h;rw[afN h.1,Sc h.2]
def Cs{a b:O}(h:tW a b=true):a=b:=by
 cases a<;>cases b<;>simp only[tW,aD]at h<;>(try (cases h;done))
 ·rw[wj h.1.1,bY h.1.2,bY h.2]
 ·rw[wj h]
 ·rw[tn h.1.1,tn h.1.2,bY h.2]
 ·rw[Sc h.1,bY h.2]
 ·rw[K.beq_eq h.1,bY h.2]
 ·rw[K.beq_eq h.1.1,bY h.1.2,bY h.2]
 ·rw[bY h.1.1,bY h.1.2,bY h.2]
def wm{α:Type}{eq:α->α->Bool}(he:∀a b,eq a b=true->a=b):∀{T T':Tr α},fP eq T T'=true->∀k a,T.get k=some a->T'.get k=some a:=by
 intro T
 induction T with
 | e=>intro T' _ k a h;rw[Tr.gV]at h;cases h
 | n v l r d f=>
  intro T' h k a c;cases T' with
  | e=>
   simp only[fP,aD]at h;cases k with
   | h=>simp only[Tr.get]at c;subst c;have:=h.1.1;cases this
   | o k=>simp only[Tr.get]at c;have:=d h.1.2 k a c;rw[Tr.gV]at this;cases this
   | i k=>simp only[Tr.get]at c;have:=f h.2 k a c;rw[Tr.gV]at this;cases this
  | n v' l' r'=>
   simp only[fP,aD]at h;cases k with
   | h=>
    simp only[Tr.get]at c ⊢;subst c;have:=h.1.1;cases v' with
    | none=>cases this
    | some b=>rw[he _ _ this]
   | o k=>simp only[Tr.get]at c ⊢;exact d h.1.2 k a c
   | i k=>simp only[Tr.get]at c ⊢;exact f h.2 k a c
def Se:∀(ws:List K) (T:Tr V) (k:K) (v:V),(erase T ws).get k=some v->T.get k=some v:=by
 intro ws
 induction ws with
 | nil=>intro T k v h;exact h
 | cons a ws ih=>
  intro T k v h;have:=ih _ k v h;rw[Tr.fk]at this;split at this
  ·cases this
  ·exact this
def gS(ih:cV)(d:Option K)(l:List AO)(c:AC)(b m:K)(bp:Nat)(T:Tr V)(H:Hp)(n:K)(e:V×V×Nat):Option R:=
 match fc ih l (da d (some (.u [.b true,e.1,e.2.1])) T) (H.put (some (.me m bp e.2.2)) b) n with
 | some ⟨.normal,T,_,H,n⟩=>ih (.code c T) H n
 | _=>none
def wo(ih:cV)(d:Option K)(l:List AO)(c:AC)(T:Tr V)(H:Hp)(n:K):Option R:=
 match fc ih l (da d (some (.u [.b false])) T) H n with
 | some ⟨.normal,T,_,H,n⟩=>(match ih (.code c T) H n with
  | some ⟨.normal,_,_,_,_⟩=>none
  | r=>r)
 | _=>none
def Ct(ih:cV)(d:Option K)(x:ao)(l:List AO)(c:AC)(b m:K)(since bp:Nat)(T:Tr V)(H:Hp)(n:K)(e:V×V×Nat):Option R:=
 match gS ih d l c b m bp T (H.put none b) n e with
 | some ⟨.normal,T,_,H,n⟩=>(match H.get b,H.get m with
  | some (.me _ _ _),some (.mp [(_,_,t)] bp)=>bif Nat.beq since bp&&Nat.beq t e.2.2&&m7 T x b then wo ih d l c T (H.put none b) n else none
  | _,_=>none)
 | r=>r
def afO{C:Nat->Option aE}{ih:cV}{d:Option K}{x:ao}{l:List AO}{c:AC}{ws:List K}{T:Tr V}{H:Hp}{n:K}{r:R}(h:aS C ih (.code (.jC d x l c ws) T) H n=some r):
 ∃b m since es bp,aq T x=some (.p b 0)/\H.get b=some (.mi m since)/\H.get m=some (.mp es bp)/\since=bp/\jl bp 0 es=true/\((∃e,es=[e]/\Ct ih d x l c b m since bp T H n e=some r)\/
  (m7 (erase T ws) x b=true/\∃q,lh ((l.all λo=>AP o.op)&&quiet c) (gS ih d l c b m bp (erase T ws) (H.put none b) n) (erase T ws) (H.put none b) n es=some q/\((q=none/\wo ih d l c (erase T ws) (H.put none b) n=some r)\/∃T0,q=some T0/\r=⟨.ret,T0,.q,H.put none b,n⟩))):=by
 simp only[aS]at h;split at h
 case h_2=>cases h
 rename_i b hb;split at h
 case h_2=>cases h
 rename_i m since hm;split at h
 case h_2=>cases h
 rename_i es bp he;cases a:Nat.beq since bp&&jl bp 0 es with
 | false=>rw[a]at h;cases h
 | true=>
  rw[a]at h;simp only[cond_true]at h;simp only[aD]at a;refine⟨b,m,since,es,bp,hb,hm,he,bY a.1,a.2,?_⟩;split at h
  ·rename_i e;exact .inl ⟨e,rfl,h⟩
  ·right;simp only[gU]at h;split at h
   ·rename_i h1;split at h
    ·rename_i h2;exact⟨h1,none,h2,.inl ⟨rfl,h⟩⟩
    ·rename_i T0 h2;injection h with h;exact⟨h1,some T0,h2,.inr ⟨T0,rfl,h.symm⟩⟩
    ·cases h
   ·cases h
def FC:∀{T T':Tr V} (k:K) (v:V),(meet T T').get k=some v->T.get k=some v/\T'.get k=some v
 | .e,_,k,v,h=>by cases k<;>cases h
 | .n _ _ _,.e,k,v,h=>by cases k<;>cases h
 | .n a l r,.n a' l' r',.h,v,h=>by
  simp only[meet,Tr.get]at h;split at h
  ·rename_i x y;cases hv:dK x y with
   | false=>rw[hv]at h;cases h
   | true=>
    rw[hv]at h;have:=tn hv;subst this;exact⟨h,h⟩
  ·cases h
 | .n a l r,.n a' l' r',.o p,v,h=>FC (T:=l) (T':=l') p v h
 | .n a l r,.n a' l' r',.i p,v,h=>FC (T:=r) (T':=r') p v h
def wq(go:V×V×Nat->Option R)(T:Tr V)(H:Hp)(e:V×V×Nat):Prop:=∃T' v H' n',go e=some ⟨.normal,T',v,H',n'⟩/\(∀q v,T.get q=some v->T'.get q=some v)/\∀q o,H.get q=some o->H'.get q=some o
def yb(go:V×V×Nat->Option R)(H:Hp)(n:K)(T0:Tr V)(e:V×V×Nat):Prop:=∃T' v H',go e=some ⟨.ret,T',v,H',n⟩/\(∀q o,H.get q=some o->H'.get q=some o)/\∀q v,T0.get q=some v->T'.get q=some v
def afP{d:Bool}{go:V×V×Nat->Option R}{T:Tr V}{H:Hp}{n:K}(i:d=true->∀e r,go e=some r->(∀q v,T.get q=some v->r.T.get q=some v)/\(∀q o,H.get q=some o->r.H.get q=some o)/\r.n=n):
 ∀{es:List (V×V×Nat)} {q:Option (Tr V)},lh d go T H n es=some q->(q=none/\∀e∈es,wq go T H e)\/∃T0,q=some T0/\(∀e∈es,wq go T H e\/yb go H n T0 e)/\∃e∈es,yb go H n T0 e:=by
 intro es
 induction es with
 | nil=>intro q h;injection h with h;exact .inl ⟨h.symm,λe h=>by cases h⟩
 | cons a es ih=>
  intro q h;simp only[lh]at h;split at h
  ·rename_i T' v H' n' f;cases b:d||fP dK T T'&&fP tW H H' with
   | false=>rw[b]at h;cases h
   | true=>
    rw[b]at h;have c:wq go T H a:=by
     refine⟨T',v,H',n',f,?_⟩;cases d with
     | true=>have:=i rfl _ _ f;exact⟨this.1,this.2.1⟩
     | false=>
      simp only[Bool.false_or,aD]at b;exact⟨λq v j=>wm (λ_ _=>tn) b.1 _ _ j,wm (λ_ _=>Cs) b.2⟩
    rcases ih h with ⟨h1,h2⟩ | ⟨T0,h1,h2,e,he,k⟩
    ·left;refine⟨h1,λe he=>?_⟩;rcases cD.1 he with rfl | he
     ·exact c
     ·exact h2 e he
    ·right;refine⟨T0,h1,λe he=>?_,e,by simp[he],k⟩;rcases cD.1 he with rfl | he
     ·exact .inl c
     ·exact h2 e he
  ·rename_i T' v H' n' f;cases b:d||fP tW H H'&&K.beq n n' with
   | false=>rw[b]at h;cases h
   | true=>
    rw[b]at h;have hs:(∀q o,H.get q=some o->H'.get q=some o)/\n'=n:=by
     cases d with
     | true=>have:=i rfl _ _ f;exact⟨this.2.1,this.2.2⟩
     | false=>
      simp only[Bool.false_or,aD]at b;exact⟨wm (λ_ _=>Cs) b.1,(K.beq_eq b.2).symm⟩
    obtain⟨hs,rfl⟩:=hs;simp only[cond_true]at h;right;split at h
    ·rename_i h0;injection h with h;subst h;rcases ih h0 with ⟨h1,h2⟩ | ⟨T0,h1,_⟩
     ·have c:yb go H n' T' a:=⟨T',v,H',f,hs,λ_ _ h=>h⟩;refine⟨T',rfl,λe he=>?_,a,by simp,c⟩;rcases cD.1 he with rfl | he
      ·exact .inr c
      ·exact .inl (h2 e he)
     ·cases h1
    ·rename_i T0 h0;injection h with h;subst h;rcases ih h0 with ⟨h1,_⟩ | ⟨T1,h1,h2,_⟩
     ·cases h1
     ·injection h1 with h1;subst h1;have c:yb go H n' (meet T' T0) a:=⟨T',v,H',f,hs,λq v h=>(FC q v h).1⟩;refine⟨_,rfl,λe he=>?_,a,by simp,c⟩;rcases cD.1 he with rfl | he
      ·exact .inr c
      ·rcases h2 e he with g | ⟨T2,l,H2,g1,m,p⟩
       ·exact .inl g
       ·exact .inr ⟨T2,l,H2,g1,m,λq v h=>p q v (FC q v h).2⟩
    ·cases h
  ·cases h
def afQ:∀{ws:List K} {T:Tr V} {k:K} {v:V},(erase T ws).get k=some v->k ∉ ws:=by
 intro ws
 induction ws with
 | nil=>intro T k v _ h;cases h
 | cons a ws ih=>
  intro T k v h hm;rcases cD.1 hm with rfl | hm
  ·have:=Se ws _ k v h;rw[Tr.xA]at this;cases this
  ·exact ih (T:=T.put none a) h hm
def Ab(d:Option K)(l:List AO)(b:AC):List K:=(match d with | some d=>[d] | none=>[])++sP l++b.writes
def afR{ih:cV}(s:Aa ih){d:Option K}{l:List AO}{c:AC}{b m:K}{bp:Nat}{T:Tr V}{H:Hp}{n:K}{ws:List K}(t:ws=Ab d l c)(hb:H.get b=none)
 (u:∀q v,T.get q=some v->q ∉ ws)(f:((l.all λo=>AP o.op)&&quiet c)=true){e:V×V×Nat}{r:R}(h:gS ih d l c b m bp T H n e=some r):
 (∀q v,T.get q=some v->r.T.get q=some v)/\(∀q o,H.get q=some o->r.H.get q=some o)/\r.n=n:=by
 simp only[aD]at f;unfold gS at h;split at h
 ·rename_i T1 v1 H1 n1 h1;obtain⟨j,k,p⟩:=Jz _ _ _ _ _ f.1 h1;obtain⟨b1,b2,b3⟩:=s _ _ _ _ _ f.2 h;simp only at j k p;subst j;subst k;refine⟨λq v hv=>?_,λq o g=>?_,b2⟩
  ·have a:=u q v hv;rw[t]at a;simp only[Ab,eG,not_or]at a;rw[b3 q a.2,p q a.1.2,Jy,hv];intro e he i;subst he;subst i;exact a.1.1 (by simp)
  ·rw[b1,Tr.tY]
   ·exact g
   ·intro i;subst i;rw[hb]at g;cases g
 ·cases h
def Sf{bp:Nat}:∀{es:List (V×V×Nat)} {lo:Nat},jl bp lo es=true->(∀e∈es,lo<=e.2.2)/\∀e∈es,∀b∈es,e.2.2=b.2.2->e=b:=by
 intro es
 induction es with
 | nil=>intro lo _;exact⟨λe h=>absurd h (by simp),λe h=>absurd h (by simp)⟩
 | cons a es ih=>
  intro lo h;obtain⟨k,v,t⟩:=a;simp only[jl,aD]at h;obtain⟨⟨h1,h2⟩,d⟩:=h;have h1:=j4 h1;obtain⟨c,f⟩:=ih d;refine⟨λe he=>?_,λe he b i h=>?_⟩
  ·rcases cD.1 he with rfl | he
   ·exact h1
   ·have:=c e he;omega
  ·rcases cD.1 he with g | g<;>rcases cD.1 i with g' | g'
   ·rw[g,g']
   ·have:=c b g';rw[g]at h;simp only at h;omega
   ·have:=c e g;rw[g']at h;simp only at h;omega
   ·exact f e g b g' h
def afS{ty:Ty}{c:Code}{d:Option K}{x:ao}{l:List AO}{b:AC}{ws:List K}(h:pe ty (bV ty c) c=.jC d x l b ws):
 ∃(rid:Nat) (a:Option Tmp) (e:Operand) (rt:TypeId) (pos:String) (after:Array Edge) (rest:List Oper) (c2:Code),c=.seq (.region rid ⟨⟨a,.next e false,rt,pos,after,none⟩::rest⟩ false) c2/\d=a.map bF/\br ty e=some x/\b=bV ty c2/\l=cE ty ⟨⟨a,.next e false,rt,pos,after,none⟩::rest⟩ rest []:=by
 unfold pe at h;split at h
 case h_2=>cases h
 rename_i rid a e rt pos after rest c2;split at h
 case h_2=>cases h
 rename_i c1 l' c' o g i;injection h with h1 h2 j k p;subst h1;subst h2;subst j;subst k;simp only[bV,cond_false]at g;injection g with f m;injection f with f;simp only[cE]at f;injection f with q n;exact⟨rid,a,e,rt,pos,after,rest,c2,rfl,rfl,i,m.symm,n.symm⟩
def afT{ty:Ty}{c:Code}{a:AC}{d:Option K}{x:ao}{l:List AO}{b:AC}{ws:List K}(h:pe ty a c=.jC d x l b ws)(n:quiet b=true):ws=Ab d l b:=by
 unfold pe at h;split at h
 ·rename_i rid r g _ _ _ rest c2;cases f:br ty g with
  | none=>rw[f]at h;split at h<;>first | (rename_i e;cases e;done) | cases h
  | some s=>
   rw[f]at h;cases a with
   | seq p q=>
    cases p with
    | reg i=>
     cases i with
     | nil=>cases h
     | cons o l1=>
      simp only at h;injection h with h1 h2 j k m;subst h1;subst j;subst k;exact m.symm
    | _=>cases h
   | _=>cases h
 ·cases h
end Go.Ev
