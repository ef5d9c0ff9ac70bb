/- A part of the proof. -/
import Derived.Lib.DecodeN
import Derived.Lib.Builder
import Derived.Test.YtpdbepbhlalldaaGreatDoorA
set_option linter.all false
namespace Go.Ev
open Go
section
section ops
variable {P:Program}{ty:Ty}{W:Nat->Code->AC->Prop}{η:Env}{T:Tr V}{H H':Hp}{n n':K}{w:World}{tmps:Array Value}{v:V}
def G9(P:Program)(t:TypeId):EK->Prop
 | .bool=>P.underlying t=some .bool
 | .int=>∃k,P.underlying t=some (.int k)
 | .str=>P.underlying t=some .string
 | .ptr=>∃e i,P.underlying t=some (.pointer e)/\sg P e i/\i.size≠0
 | .slice=>∃e,P.underlying t=some (.slice e)
 | .map=>∃k e,P.underlying t=some (.map k e)
 | .func=>∃a b c,P.underlying t=some (.func a b c)
 | .iface=>∃ms,P.underlying t=some (.interface ms)
def Oc{l m l' a:Nat}(h:m<256 ^ l)(h':a<256 ^ l'):(strOf l m==strOf l' a)=(Nat.beq l l'&&Nat.beq m a):=by
 rw[←NC h h'];show((strOf l m).data==(strOf l' a).data)=_;rw[pM];simp only[beq_iff_eq,strOf];constructor
 ·intro e;have:=congrArg Array.toList e;simpa using this
 ·intro e;rw[e]
def yg{t:TypeId}{q:EK}(g:G9 P t q){x y:V}{u z:Value}(j:aq η x u)(l:aq η y z){r:Bool}(h:cH q x y=some r)(k:Nat):
 aP P (Op.equalIn (k+1) t u z) w λb w'=>b=r/\w'=w:=by
 unfold cH at h;split at h
 ·cases j;cases l;injection h with h;subst h;exact Δ (a0 g (ai ⟨rfl,rfl⟩))
 ·cases j;cases l;rename_i k1 a k2 b;cases hb:Nat.beq (kn k1) (kn k2) with
  | false=>rw[hb]at h;cases h
  | true=>
   rw[hb]at h;injection h with h;subst h;have e:=DM hb;obtain⟨C,d⟩:=g;refine Δ (a0 d ?_);simp only[e,if_true];exact ai ⟨(ye _ _).symm,rfl⟩
 ·cases j with
  | s _ _ h1=>cases l with
   | s _ _ h2=>
    injection h with h;subst h;exact Δ (a0 g (ai ⟨Oc h1 h2,rfl⟩))
 ·cases j;cases l;injection h with h;subst h;obtain⟨e,i,d,_⟩:=g;exact Δ (a0 d (ai ⟨rfl,rfl⟩))
 ·cases j;cases l;injection h with h;subst h;obtain⟨e,i,d,_⟩:=g;exact Δ (a0 d (ai ⟨rfl,rfl⟩))
 ·cases j;cases l;injection h with h;subst h;obtain⟨e,i,d,_⟩:=g;exact Δ (a0 d (ai ⟨rfl,rfl⟩))
 ·rename_i b o b' o';cases hb:K.beq b b' with
  | false=>rw[hb]at h;cases h
  | true=>
   rw[hb]at h;injection h with h;subst h;have e:=K.beq_eq hb;subst e;cases j with
   | p _ _ L A=>cases l with
    | p _ _ L' m=>
     rw[A]at m;injection m with m;subst m;obtain⟨e,i,d,hi,B⟩:=g;refine Δ (a0 d ?_);refine Δ (kM hi ?_);simp only[ne_eq,B,not_false_eq_true,if_true];unfold sameAddr;simp only[beq_self_eq_true,if_true];refine ai ⟨?_,rfl⟩;rw[pM];simp only[beq_iff_eq,Addr.mk.injEq,true_and,and_true,Nat.beq_eq];omega
 ·cases j;cases l;injection h with h;subst h;obtain⟨e,d⟩:=g;exact Δ (a0 d (ai ⟨rfl,rfl⟩))
 ·cases j;cases l;injection h with h;subst h;obtain⟨e,d⟩:=g;exact Δ (a0 d (ai ⟨rfl,rfl⟩))
 ·cases j;injection h with h;subst h;obtain⟨e,d⟩:=g;cases l<;>exact Δ (a0 d (ai ⟨rfl,rfl⟩))
 ·cases j;cases l;injection h with h;subst h;obtain⟨e,d⟩:=g;exact Δ (a0 d (ai ⟨rfl,rfl⟩))
 ·cases l;injection h with h;subst h;obtain⟨e,d⟩:=g;cases j<;>exact Δ (a0 d (ai ⟨rfl,rfl⟩))
 ·cases j;cases l;injection h with h;subst h;obtain⟨e,f,d⟩:=g;exact Δ (a0 d (ai ⟨rfl,rfl⟩))
 ·cases j;cases l;injection h with h;subst h;obtain⟨e,f,d⟩:=g;exact Δ (a0 d (ai ⟨rfl,rfl⟩))
 ·cases j;cases l;injection h with h;subst h;obtain⟨e,f,d⟩:=g;exact Δ (a0 d (ai ⟨rfl,rfl⟩))
 ·cases j;cases l;injection h with h;subst h;obtain⟨a,b,c,d⟩:=g;exact Δ (a0 d (ai ⟨rfl,rfl⟩))
 ·cases j;cases l;injection h with h;subst h;obtain⟨a,b,c,d⟩:=g;exact Δ (a0 d (ai ⟨rfl,rfl⟩))
 ·cases j;cases l;injection h with h;subst h;obtain⟨a,b,c,d⟩:=g;exact Δ (a0 d (ai ⟨rfl,rfl⟩))
 ·cases j;cases l;injection h with h;subst h;obtain⟨ms,d⟩:=g;exact Δ (a0 d (ai ⟨rfl,rfl⟩))
 ·cases j;cases l;injection h with h;subst h;obtain⟨ms,d⟩:=g;exact Δ (a0 d (ai ⟨rfl,rfl⟩))
 ·cases j;cases l;injection h with h;subst h;obtain⟨ms,d⟩:=g;exact Δ (a0 d (ai ⟨rfl,rfl⟩))
 ·cases h
def vZ(aE:cU P ty){t:TypeId}{i:TI}(hi:ty t=some i){q:EK}(h:i.desc.key=some q):G9 P t q/\i.desc.agg=false:=by
 have a:=(aE.ok _ _ hi).desc;obtain⟨d,sz,b,z⟩:=i;cases d<;>simp only[TD.key]at h<;>first | (cases h;done) | (injection h with h;subst h)
 ·exact⟨a,rfl⟩
 ·exact⟨⟨_,a⟩,rfl⟩
 ·exact⟨a,rfl⟩
def yh(aE:cU P ty){t:TypeId}{i:TI}(hi:ty t=some i)(a:i.desc.agg=false){l:List V}{cs:Array Value}(hl:aN η l cs.toList){o:Nat}{v:V}(h:nth l o=some v):
 aP P (part t cs o) w λy w'=>aq η v y/\w'=w:=
 G4 (aE.ok _ _ hi) hl (by rw[a];exact h)
def Av{α β:Type}{x:Sem α}{f:α->Sem β}{Φ:β->World->Prop}(h:aP P (x >>=f) w Φ):aP P x w λa w'=>aP P (f a) w' Φ:=by
 obtain⟨b,g,h1,h2⟩:=h;have c:(Sem.bind x f).run P w=.ok b g:=h1;rw[Sem.run_bind']at c;cases d:x.run P w with
 | ok a w'=>rw[d]at c;exact⟨a,w',d,b,g,c,h2⟩
 | halt e w'=>rw[d]at c;cases c
def YG(aE:cU P ty){xs ys:List V}{cx cy:Array Value}(d:aN η xs cx.toList)(e:aN η ys cy.toList)(k:Nat){fs:List Field}(a:∀f∈fs,f.name ≠ "_")
 {l:List (Nat×EK)}(hl:flat ty (fs.map λf=>(f.type,f.offset))=some l){r:Bool}(h:yY xs ys l=some r):
 aP P (do
  for f in fs do
   if f.name ≠ "_" then
    if !(←Op.equalIn (k+1) f.type (←part f.type cx f.offset) (←part f.type cy f.offset)) then return false
  pure true) w λb w'=>b=r/\w'=w:=by
 induction fs generalizing l with
 | nil=>
  simp only[List.map_nil,flat]at hl;injection hl with hl;subst hl;simp only[yY]at h;injection h with h;subst h;exact Δ (ai (ai ⟨rfl,rfl⟩))
 | cons f fs ih=>
  simp only[gB,flat]at hl;split at hl
  case h_2=>cases hl
  rename_i i hi;split at hl
  case h_2=>cases hl
  rename_i q l' g j;injection hl with hl;subst hl;simp only[yY]at h;split at h
  case h_2=>cases h
  rename_i x y h1 h2;obtain⟨m,c⟩:=vZ aE hi g;have o:=a f (by simp);rw[List.forIn_cons];simp only[ne_eq,o,not_false_eq_true,if_true];refine Δ (Δ (Δ ((yh aE hi c d h1).mono ?_)));rintro t w' ⟨p,rfl⟩;refine Δ ((yh aE hi c e h2).mono ?_);rintro u w' ⟨s,rfl⟩;refine Δ ?_;cases hv:cH q x y with
  | none=>rw[hv]at h;cases h
  | some b=>
   rw[hv]at h;refine(yg m p s hv k).mono ?_;rintro b' w' ⟨rfl,rfl⟩;cases b' with
   | false=>
    injection h with h;subst h;exact ai (ai (ai ⟨rfl,rfl⟩))
   | true=>
    refine ai ?_;exact Av (ih (λf hf=>a f (by simp[hf])) j h)
def YH(aE:cU P ty){e:TypeId}{i:TI}(hi:ty e=some i){q:EK}(c:i.desc.key=some q){xs ys:List V}{cx cy:Array Value}(d:aN η xs cx.toList)(g:aN η ys cy.toList)(k:Nat)
 {fs:List Nat}{r:Bool}(h:yY xs ys (fs.map λi=>(i,q))=some r):
 aP P (do
  for j in fs do
   if !(←Op.equalIn (k+1) e (←part e cx (j*1)) (←part e cy (j*1))) then return false
  pure true) w λb w'=>b=r/\w'=w:=by
 obtain⟨l,a⟩:=vZ aE hi c
 induction fs with
 | nil=>
  simp only[List.map_nil,yY]at h;injection h with h;subst h;exact Δ (ai (ai ⟨rfl,rfl⟩))
 | cons f fs ih=>
  simp only[gB,yY]at h;split at h
  case h_2=>cases h
  rename_i x y h1 h2;rw[List.forIn_cons];refine Δ (Δ (Δ ((yh aE hi a d (by rw[jz];exact h1)).mono ?_)));rintro p w' ⟨m,rfl⟩;refine Δ ((yh aE hi a g (by rw[jz];exact h2)).mono ?_);rintro s w' ⟨o,rfl⟩;refine Δ ?_;cases hv:cH q x y with
  | none=>rw[hv]at h;cases h
  | some b=>
   rw[hv]at h;refine(yg l m o hv k).mono ?_;rintro b' w' ⟨rfl,rfl⟩;cases b' with
   | false=>
    injection h with h;subst h;exact ai (ai (ai ⟨rfl,rfl⟩))
   | true=>
    refine ai ?_;exact Av (ih h)
def Od(aE:cU P ty){t:TypeId}{i:TI}(hi:ty t=some i){q:EK}(h:i.desc.key=some q):i.size=1:=by
 obtain⟨_,a⟩:=vZ aE hi h;obtain⟨ti,z,_,_,_,_,b,_,c,d,_⟩:=(aE.ok _ _ hi).info;have e:=c a;have f:z.cells=#[z]:=by cases z<;>first | rfl | (simp[Value.pV]at e)
 have:=(si (λ_=>none) b).length;rw[f]at this;rw[←d,this];rfl
def DS(aE:cU P ty){t:TypeId}{q:dE}(c:lN ty t=some q){x y:V}{u z:Value}(g:aq η x u)(k:aq η y z){r:Bool}(h:lu q x y=some r):
 aP P (Op.equal t u z) w λb w'=>b=r/\w'=w:=by
 unfold lN at c;split at c
 case h_2=>cases c
 rename_i i hi;have o:=(aE.ok _ _ hi).desc;split at c
 ·rename_i fs plain s;cases plain with
  | false=>cases c
  | true=>
   simp only[cond_true]at c;split at c
   case h_2=>cases c
   rename_i l hl;injection c with c;subst c;rw[s]at o;obtain⟨G,A,B,_,C⟩:=o;obtain⟨D,E,_⟩:=C rfl;simp only[lu]at h;split at h
   case h_2=>cases h
   rename_i xs ys;cases g with
   | a _ cx g=>cases k with
    | a _ cy k=>
     refine Δ (a0 A ?_);refine Δ (Ak ?_);simp only[E,vI,if_false];rw[←Array.forIn_toList];exact YG (cx:=⟨cx⟩) (cy:=⟨cy⟩) aE g k 9998 (λf hf=>D f (by simpa using hf)) (by rw[←B];exact hl) h
 ·rename_i m e s;rw[s]at o;split at c
  case h_2=>cases c
  rename_i j hj;split at c
  case h_2=>cases c
  rename_i F p;injection c with c;subst c;simp only[lu]at h;split at h
  case h_2=>cases h
  rename_i xs ys;cases g with
  | a _ cx g=>cases k with
   | a _ cy k=>
    refine Δ (a0 o ?_);refine Δ (kM (aE.ok _ _ hj) ?_);rw[Od aE hj p];have:=YH (w:=w) (fs:=List.range m) (cx:=⟨cx⟩) (cy:=⟨cy⟩) aE hj p g k 9998 h;simp only[Std.Legacy.Range.forIn_eq_forIn_range',Std.Legacy.Range.size];simpa[tW]using this
 ·rename_i d h1 h2;split at c
  case h_2=>cases c
  rename_i F p;injection c with c;subst c;exact yg (vZ aE hi p).1 g k h 9999
end ops
end
section
section ops
variable {P:Program}{ty:Ty}{W:Nat->Code->AC->Prop}{η:Env}{T:Tr V}{H H':Hp}{n n':K}{w:World}{tmps:Array Value}{v:V}
def isConst:Operand->Bool
 | .const _=>true
 | _=>false
def Ha{α:Type}{c:Prop}[Decidable c]{s a:Sem α}{Φ:α->World->Prop}(b:c)(h:aP P s w Φ):aP P (if c then s else a) w Φ:=by rw[ao b];exact h
def Oe(aE:cU P ty){t:TypeId}{a b:Operand}{q:dE}(c:FN ty t a b=some q){x y:V}{o p:Value}(g:aq η x o)(k:aq η y p){r:Bool}(h:lu q x y=some r):
 aP P (Op.equal t o p) w λb w'=>b=r/\w'=w:=by
 unfold FN at c;split at c
 case h_2=>cases c
 rename_i i hi;have f:=(aE.ok _ _ hi).desc;split at c
 ·exact DS aE c g k h
 ·exact DS aE c g k h
 ·rename_i m;rw[m]at f;cases hb:(uj a||uj b) with
  | false=>rw[hb]at c;cases c
  | true=>
   rw[hb]at c;injection c with c;subst c;exact yg (q:=.iface) f g k h 9999
 ·rename_i e m;rw[m]at f;split at c
  case h_2=>cases c
  rename_i j hj;cases hb:Nat.beq j.size 0 with
  | true=>rw[hb]at c;cases c
  | false=>
   rw[hb]at c;injection c with c;subst c;exact yg (q:=.ptr) ⟨e,j,f,aE.ok _ _ hj,λs=>by rw[s]at hb;cases hb⟩ g k h 9999
 ·rename_i d h1 h2 A u;split at c
  case h_2=>cases c
  rename_i z l;injection c with c;subst c;have:G9 P t z:=by
   generalize i.desc=d at*;cases d<;>simp only[TD.ek]at l<;>first | (cases l;done) | (injection l with l;subst l)
   ·exact f
   ·exact⟨_,f⟩
   ·exact f
   ·exact absurd rfl (u _)
   ·exact⟨_,f⟩
   ·exact⟨_,_,f⟩
   ·exact f
  exact yg this g k h 9999
def yi(aE:cU P ty){op:BinOp}{t:TypeId}{a b:Operand}{q:dE}(f:isEq op=true->FN ty t a b=some q){x y:V}{g o:Value}(A:aq η x g)(B:aq η y o)
 (hv:isEq op=true->(∃r,lu q x y=some r)\/(∃k n k' n',x=.i k n/\y=.i k' n')\/∃l n l' n',x=.s l n/\y=.s l' n'){Φ:Unit->World->Prop}(h:Φ () w):aP P (eqGuard op t a b g o) w Φ:=by
 unfold eqGuard;cases he:isEq op with
 | false=>cases op<;>first | (cases he;done) | exact ai h
 | true=>
  have f:=f he;have I:op=.eql\/op=.neq:=by cases op<;>first | exact .inl U | exact .inr U | cases he
  suffices J:aP P (match g,o with
   | .nilIface,.nilIface=>do
    if (a matches .const _)||(b matches .const _) then return
    if←Op.eqGuardIn Op.maxDepth t g o then unsupported (.noEntry "binop/eql: two nil values of an interface type with methods, neither of them the literal nil")
   | .agg _,.agg _=>do
    if !(←program).eqGuardType (←program).depth t then return
    if←Op.eqGuardIn Op.maxDepth t g o then unsupported (.noEntry "binop/eql: two nil values of an interface type with methods, in a part of a struct or an array")
   | _,_=>pure ()) w Φ by
   rcases I with rfl | rfl<;>exact J
  rcases hv he with ⟨r,p⟩ | ⟨k,m,k',L,rfl,rfl⟩ | ⟨l,m,l',L,rfl,rfl⟩
  ·unfold FN at f;split at f
   case h_2=>cases f
   rename_i i hi;have F:=(aE.ok _ _ hi).desc;have pass:(∀c c',¬ (g=.agg c/\o=.agg c'))->¬ (g=.nilIface/\o=.nilIface)->aP P (match g,o with
    | .nilIface,.nilIface=>do
     if (a matches .const _)||(b matches .const _) then return
     if←Op.eqGuardIn Op.maxDepth t g o then unsupported (.noEntry "binop/eql: two nil values of an interface type with methods, neither of them the literal nil")
    | .agg _,.agg _=>do
     if !(←program).eqGuardType (←program).depth t then return
     if←Op.eqGuardIn Op.maxDepth t g o then unsupported (.noEntry "binop/eql: two nil values of an interface type with methods, in a part of a struct or an array")
    | _,_=>pure ()) w Φ:=by
    intro h1 h2;split
    ·exact absurd ⟨rfl,rfl⟩ h2
    ·exact absurd ⟨rfl,rfl⟩ (h1 _ _)
    ·exact ai h
   have G:P.eqGuardType P.depth t=false->∀c c',g=.agg c->o=.agg c'->aP P (match g,o with
    | .nilIface,.nilIface=>do
     if (a matches .const _)||(b matches .const _) then return
     if←Op.eqGuardIn Op.maxDepth t g o then unsupported (.noEntry "binop/eql: two nil values of an interface type with methods, neither of them the literal nil")
    | .agg _,.agg _=>do
     if !(←program).eqGuardType (←program).depth t then return
     if←Op.eqGuardIn Op.maxDepth t g o then unsupported (.noEntry "binop/eql: two nil values of an interface type with methods, in a part of a struct or an array")
    | _,_=>pure ()) w Φ:=by
    rintro M c c' rfl rfl;refine Δ (Ak (Δ (Ak ?_)));simp only[M,Bool.not_false,if_true];exact ai h
   have one:∀u,q=.one u->u≠.iface->aP P (match g,o with
    | .nilIface,.nilIface=>do
     if (a matches .const _)||(b matches .const _) then return
     if←Op.eqGuardIn Op.maxDepth t g o then unsupported (.noEntry "binop/eql: two nil values of an interface type with methods, neither of them the literal nil")
    | .agg _,.agg _=>do
     if !(←program).eqGuardType (←program).depth t then return
     if←Op.eqGuardIn Op.maxDepth t g o then unsupported (.noEntry "binop/eql: two nil values of an interface type with methods, in a part of a struct or an array")
    | _,_=>pure ()) w Φ:=by
    rintro u rfl N;refine pass ?_ ?_
    ·rintro c c' ⟨rfl,rfl⟩;simp only[lu]at p;cases A<;>cases B<;>cases u<;>simp[cH]at p
    ·rintro⟨rfl,rfl⟩;simp only[lu]at p;cases A<;>cases B<;>cases u<;>first | exact N rfl | (simp[cH]at p)
   split at f
   ·rename_i fs plain C;rw[C]at F;unfold lN at f;simp only[hi,C]at f;cases plain with
    | false=>cases f
    | true=>
     simp only[cond_true]at f;split at f
     case h_2=>cases f
     injection f with f;subst f;obtain⟨Y,_,_,_,O⟩:=F;simp only[lu]at p;split at p
     case h_2=>cases p
     cases A with
     | a _ cx _=>cases B with
      | a _ cy _=>exact G (O rfl).2.2 _ _ rfl rfl
   ·rename_i m e C;rw[C]at F;unfold lN at f;simp only[hi,C]at f;split at f
    case h_2=>cases f
    rename_i j hj;split at f
    case h_2=>cases f
    rename_i u E;injection f with f;subst f;simp only[lu]at p;split at p
    case h_2=>cases p
    cases A with
    | a _ cx _=>cases B with
     | a _ cy _=>
      refine G ?_ _ _ rfl rfl;obtain⟨d,Q⟩:∃d,P.depth=d+1+1:=⟨2*(P.types.size+Made.depth),rfl⟩;rw[Q];obtain⟨D,_⟩:=vZ aE hj E;have R:P.eqGuardType (d+1) e=false:=by
       unfold Go.Program.eqGuardType;cases u with
       | bool=>rw[show P.underlying e=_ from D]
       | int=>obtain⟨k,z⟩:=D;rw[z]
       | str=>rw[show P.underlying e=_ from D]
       | ptr=>obtain⟨_,_,z,_⟩:=D;rw[z]
       | slice=>obtain⟨_,z⟩:=D;rw[z]
       | map=>obtain⟨_,_,z⟩:=D;rw[z]
       | func=>obtain⟨_,_,_,z⟩:=D;rw[z]
       | iface=>
        exfalso;generalize j.desc=S at E;cases S<;>simp[TD.key]at E
      unfold Go.Program.eqGuardType;rw[show P.underlying t=_ from F];exact R
   ·rename_i C;cases hb:(uj a||uj b) with
    | false=>rw[hb]at f;cases f
    | true=>
     rw[hb]at f;injection f with f;subst f;have X:(isConst a||isConst b)=true:=by
      rw[oq]at hb ⊢;rcases hb with hb | hb
      ·left;unfold uj at hb;split at hb<;>first | rfl | cases hb
      ·right;unfold uj at hb;split at hb<;>first | rfl | cases hb
     simp only[lu]at p;cases A<;>cases B<;>first | (simp[cH]at p;done) | exact ai h | exact Ha X (ai h)
   ·rename_i e C;split at f
    case h_2=>cases f
    rename_i j hj;cases hb:Nat.beq j.size 0 with
    | true=>rw[hb]at f;cases f
    | false=>
     rw[hb]at f;injection f with f;subst f;exact one .ptr U (λe=>by cases e)
   ·rename_i d h1 h2 Z h4;split at f
    case h_2=>cases f
    rename_i u E;injection f with f;subst f;refine one u rfl ?_;rintro rfl;generalize i.desc=d at E;cases d<;>simp[TD.ek]at E
  ·cases A;cases B;exact ai h
  ·cases A;cases B;exact ai h
def Og{t:TypeId}{x y:V}{a b:Value}(d:aq η x a)(e:aq η y b){q:dE}{r:Bool}(h:lu q x y=some r)
 (h1:∀k m k' c,¬ (x=.i k m/\y=.i k' c))(h2:∀l m l' c,¬ (x=.s l m/\y=.s l' c)):
 binOp .eql t a b=(do pure (.bool (←Op.equal t a b)))/\binOp .neq t a b=(do pure (.bool (!(←Op.equal t a b)))):=by
 cases q with
 | agg l=>
  simp only[lu]at h;split at h
  case h_2=>cases h
  cases d;cases e;exact⟨rfl,rfl⟩
 | one q=>
  simp only[lu]at h;unfold cH at h;split at h
  case h_22=>cases h
  case h_2=>exact absurd ⟨rfl,rfl⟩ (h1 _ _ _ _)
  case h_3=>exact absurd ⟨rfl,rfl⟩ (h2 _ _ _ _)
  all_goals (cases d<;>cases e<;>exact⟨rfl,rfl⟩)
def YK(aE:cU P ty)(D:aM η T tmps)(E:bD η ty.g)(F:aV W η H n w){op:BinOp}{t u:TypeId}{x y:Operand}{a:A}(d:dc ty (.binOp op t x y u)=some a)
 (hs:simple a T H n=some (v,H',n')):eB P W η H n w (do pure (.value (←(do eqGuard op t x y (an tmps x) (an tmps y);binOp op t (an tmps x) (an tmps y))))) v H' n':=by
 simp only[dc]at d;split at d
 case h_2=>cases d
 rename_i x1 G I J;obtain⟨q,rfl,i⟩:∃q,a=.bin op q x1 G/\(isEq op=true->FN ty t x y=some q):=by
  cases he:isEq op with
  | false=>rw[he]at d;injection d with d;exact⟨_,d.symm,λe=>by cases e⟩
  | true=>
   rw[he]at d;simp only[cond_true]at d;split at d
   case h_2=>cases d
   rename_i q i;injection d with d;exact⟨q,d.symm,λ_=>i⟩
 simp only[simple]at hs;split at hs
 case h_2=>cases hs
 rename_i Q R L M;obtain⟨hb,rfl,rfl⟩:=jO hs;have rx:=bQ D E I L;have c:=bQ D E J M;generalize an tmps x=S at rx;generalize an tmps y=U at c;refine fG (rm.ok F ?_);unfold j5 at hb;split at hb
 ·rename_i k m o f;refine Δ (yi (q:=q) aE i rx c (λe=>by cases e) ?_);cases rx;cases c;show rm P w η (Op.shift .shl k m o f) v;exact NB hb
 ·rename_i k m o f;refine Δ (yi (q:=q) aE i rx c (λe=>by cases e) ?_);cases rx;cases c;show rm P w η (Op.shift .shr k m o f) v;exact NB hb
 ·rename_i k m k' f N O;refine Δ (yi (q:=q) aE i rx c (λ_=>.inr (.inl ⟨_,_,_,_,rfl,rfl⟩)) ?_);cases p:Nat.beq (kn k) (kn k') with
  | false=>rw[p]at hb;cases hb
  | true=>
   rw[p]at hb;have e:=DM p;subst e;cases rx;cases c;have z:op≠.shl/\op≠.shr:=⟨λe=>N e,λe=>O e⟩;have:=NA (P:=P) (w:=w) (η:=η) hb z;have eq:binOp op t (.int k m) (.int k f)=Aq op k m f:=by cases op<;>first | exact absurd rfl z.1 | exact absurd rfl z.2 | (simp[binOp,Aq])
   rw[eq];exact this
 ·rename_i l m l' f;refine Δ (yi (q:=q) aE i rx c (λ_=>.inr (.inr ⟨_,_,_,_,rfl,rfl⟩)) ?_);cases rx with
  | s _ _ h1=>cases c with
   | s _ _ h2=>
    have:=Yb (P:=P) (w:=w) (η:=η) h1 h2 hb;have eq:binOp op t (.string (strOf l m)) (.string (strOf l' f))=Op.stringOp op (strOf l m) (strOf l' f):=by cases op<;>rfl
    rw[eq];exact this
 ·rename_i n1 B;split at hb
  case h_2=>cases hb
  rename_i r j;injection hb with hb;subst hb;refine Δ (yi (q:=q) aE i rx c (λ_=>.inl ⟨r,j⟩) ?_);obtain⟨C,_⟩:=Og (t:=t) rx c j (λk m k' f h=>n1 _ _ _ _ h.1 h.2) (λl m l' f h=>B _ _ _ _ h.1 h.2);rw[C];refine Δ ((Oe aE (i rfl) rx c j).mono ?_);rintro b w' ⟨rfl,rfl⟩;exact hX (.b _)
 ·rename_i n1 B;split at hb
  case h_2=>cases hb
  rename_i r j;injection hb with hb;subst hb;refine Δ (yi (q:=q) aE i rx c (λ_=>.inl ⟨r,j⟩) ?_);obtain⟨_,C⟩:=Og (t:=t) rx c j (λk m k' f h=>n1 _ _ _ _ h.1 h.2) (λl m l' f h=>B _ _ _ _ h.1 h.2);rw[C];refine Δ ((Oe aE (i rfl) rx c j).mono ?_);rintro b w' ⟨rfl,rfl⟩;exact hX (.b _)
 ·cases hb
def YL(d:aM η T tmps)(f:bD η ty.g)(h:aV W η H n w){op:UnOp}{t:TypeId}{x:Operand}{a:A}(c:dc ty (.unOp op t x)=some a)
 (hs:simple a T H n=some (v,H',n')):eB P W η H n w (do pure (.value (←Op.unary op (an tmps x)))) v H' n':=by
 simp only[dc]at c;split at c
 case h_2=>cases c
 rename_i l j;injection c with c;subst c;simp only[simple]at hs;split at hs
 case h_2=>cases hs
 rename_i u k;obtain⟨hb,rfl,rfl⟩:=jO hs;have rx:=bQ d f j k;generalize an tmps x=y at rx;refine fG (rm.ok h ?_);unfold GJ at hb;split at hb
 ·injection hb with hb;subst hb;cases rx;rw[pZ];exact hX (.i _ _)
 ·injection hb with hb;subst hb;cases rx;exact hX (.b _)
 ·cases rx;exact NA (op:=.xor) hb ⟨λe=>(by cases e),λe=>(by cases e)⟩
 ·cases hb
end ops
end
section
section ops
variable {P:Program}{ty:Ty}{W:Nat->Code->AC->Prop}{η:Env}{T:Tr V}{H H':Hp}{n n':K}{w:World}{tmps:Array Value}{v:V}
def YM(l m i:Nat)(hm:m<256 ^ l):((strOf l m).get! i).toNat=m / 256 ^ i % 256:=by
 have e:(strOf l m).get! i=(bz l m).toArray[i]!:=rfl;rw[e];by_cases h:i<l
 ·have hb:=Nk l m i h;rw[getElem!_pos _ _ (by simpa[pg]using h)];have:(bz l m).toArray[i]'(by simpa[pg]using h)=UInt8.ofNat (m / 256 ^ i % 256):=by
   rw[df (by rw[pg];exact h)]at hb;simpa using hb
  rw[this];simp
 ·rw[getElem!_neg _ _ (by simpa[pg]using h)];have:m / 256 ^ i=0:=Nat.div_eq_of_lt (ep hm (vK (by omega) (by omega)));rw[this];rfl
def eM(a b:Nat):Nat.blt a b=decide (a<b):=by rw[pM];simp[Nat.blt];omega
def iK(a b:Nat):Nat.ble a b=decide (a<=b):=by rw[pM];simp
def cB(a b:Nat):Nat.beq a b=decide (a=b):=by rw[pM];simp[Nat.beq_eq]
def YN(l n:Nat):rune l n=Lib.decodeN l (n % 256) (n / 256 % 256) (n / 65536 % 256) (n / 16777216 % 256):=by have d:∀c:Nat,(65536<=c/\(c<55296\/(57344<=c/\c<=1114111)))=(65536<=c/\c<=1114111):=λc=>propext ⟨λh=>by omega,λh=>by omega⟩;have e:∀a b:Nat,Nat.div a b=a / b:=λ_ _=>rfl;have hm:∀a b:Nat,Nat.mod a b=a % b:=λ_ _=>rfl;simp only[rune,Lib.decodeN,gy,eM,iK,cB,aK,oq,aW,ge_iff_le,and_assoc,d,e,hm]
def Oh{l m i:Nat}(hm:m<256 ^ l):Utf8.decode (strOf l m) i=rune (l - i) (m / 256 ^ i):=by
 have g:∀k,((strOf l m).get! (i+k)).toNat=m / 256 ^ i / 256 ^ k % 256:=λk=>by rw[YM _ _ _ hm,Nat.pow_add,zT]
 have g0:=g 0;rw[Lib.decode_at,YN,g 1,g 2,g 3,ri];simp only[Nat.pow_zero,Nat.div_one,hJ]at g0;rw[g0,Nat.pow_one,show 256 ^ 2=65536 from rfl,show 256 ^ 3=16777216 from rfl]
def YO(η:Env)(l m:Nat):aN η (xT l m) ((bz l m).map λb=>Value.int .u8 b.toNat):=by
 induction l generalizing m with
 | zero=>exact .nil
 | succ l ih=>
  simp only[xT,bz,gB];refine .cons _ _ _ _ ?_ (ih _);have:(UInt8.ofNat (m % 256)).toNat=m % 256:=by simp
  rw[this];exact .i _ _
def YP(l m:Nat):(xT l m).length=l:=by
 induction l generalizing m with
 | zero=>rfl
 | succ l ih=>simp[xT,ih]
def uv(t:aV W η H n w){z l:Nat}{x:V}{y:Value}{vs:List V}(d:aq η x y)(h:elems H z x=some (l,vs)):
 vs.length=l*z/\Builtin.lenOf y=pure l/\∀m,m<=l->aP P (Builtin.firstCells z m y) w λr w'=>aN η (vs.take (m*z)) r.toList/\w'=w:=by
 have row:∀(b:K) (o:Nat) (L:Loc) (c:Nat),η b=some L->(match rowAt H b with
  | some r=>match ch r o (Nat.mul l z) with | some vs=>some (l,vs) | none=>none
  | none=>none)=some (l,vs)->vs.length=l*z/\∀m,m<=l->aP P (Builtin.firstCells z m (.slice (some ⟨L.blk,L.off+o,none⟩) l c)) w λr w'=>aN η (vs.take (m*z)) r.toList/\w'=w:=by
  intro b o L c f h;split at h
  ·rename_i r u;split at h
   ·rename_i E hv;injection h with h;injection h with _ h;subst h;obtain⟨rfl,p⟩:=mJ hv;have p:o+l*z<=r.length:=p;have hlen:((r.drop o).take (Nat.mul l z)).length=l*z:=by
     rw[ot,qZ];show min (l*z) _=_;omega
    refine⟨hlen,λm hm=>?_⟩;have F:m*z<=l*z:=fJ z hm;have A:ch r o (m*z)=some ((r.drop o).take (m*z)):=by
     cases e:ch r o (m*z) with
     | some q=>rw[(mJ e).1]
     | none=>
      exfalso;have B:∀(k:Nat) (q:List V),k<=q.length->lM k q=some (q.drop k):=by
       intro k
       induction k with
       | zero=>intro q _;rfl
       | succ k ih=>intro q g;cases q with | nil=>simp at g | cons a q=>simp only[lM,xR];exact ih q (by simpa using g)
      have ht:∀(k:Nat) (q:List V),k<=q.length->takeN k q=some (q.take k):=by
       intro k
       induction k with
       | zero=>intro q _;rfl
       | succ k ih=>intro q g;cases q with | nil=>simp at g | cons a q=>simp only[takeN,ih q (by simpa using g),mD]
      unfold ch at e;rw[B o r (by omega)]at e;simp only at e;rw[ht (m*z) (r.drop o) (by rw[qZ];omega)]at e;cases e
    have C:((r.drop o).take (Nat.mul l z)).take (m*z)=(r.drop o).take (m*z):=by rw[List.take_take];congr 1;show min (m*z) (l*z)=_;omega
    rw[C];obtain⟨L',cs,e,fr,h1,h2,i,D⟩:=GZ t u A;rw[f]at h1;injection h1 with h1;subst h1;show aP P (loadCells _ (m*z)) w _;rcases i with i | i
    ·rw[i];exact ai ⟨.nil,rfl⟩
    ·refine(Np h2 (m*z) i).mono ?_;rintro r' w' ⟨rfl,rfl⟩;exact⟨D,rfl⟩
   ·cases h
  ·cases h
 unfold elems at h;split at h
 ·injection h with h;injection h with h1 h2;subst h1;subst h2;cases d;exact⟨by simp,rfl,λm _=>ai ⟨by simpa using aN.nil,rfl⟩⟩
 ·rename_i b o l' c;cases d with
  | sl _ _ _ _ L f=>
   have hl:l'=l:=by
    split at h
    ·split at h
     ·injection h with h;injection h
     ·cases h
    ·cases h
   subst hl;obtain⟨h1,h2⟩:=row b o L c f h;exact⟨h1,rfl,h2⟩
 ·rename_i b o l' e;cases he:Nat.beq e z with
  | false=>rw[he]at h;cases h
  | true=>
   rw[he]at h;simp only[cond_true]at h;cases h0:Nat.beq l' 0 with
   | true=>
    rw[h0]at h;simp only[cond_true]at h;injection h with h;injection h with h1 h2;subst h1;subst h2;have:l'=0:=bX h0;subst this;refine⟨by simp,by cases d<;>rfl,λm hm=>?_⟩;have:m=0:=by omega
    subst this;cases d<;>(simp only[Builtin.firstCells,Nat.zero_mul];exact ai ⟨.nil,rfl⟩)
   | false=>
    rw[h0]at h;simp only[cond_false]at h;have hl:l'=l:=by
     split at h
     ·split at h
      ·injection h with h;injection h
      ·cases h
     ·cases h
    subst hl;cases d with
    | su _ _ _ _ L c f _ _=>
     obtain⟨h1,h2⟩:=row b o L c f h;exact⟨h1,rfl,h2⟩
    | se=>cases h0
 ·rename_i l' m;cases j:Nat.beq z 1 with
  | false=>rw[j]at h;cases h
  | true=>
   rw[j]at h;simp only[cond_true]at h;injection h with h;injection h with h1 h2;subst h1;subst h2;have:z=1:=bX j;subst this;cases d with
   | s _ _ hm=>
    refine⟨by rw[YP];simp,?_,λk G=>?_⟩
    ·show(pure (strOf l' m).size:Sem Nat)=_;rw[ri]
    ·refine ai ⟨?_,rfl⟩;rw[jz];have e:(((strOf l' m).extract 0 k).data.map λb=>Value.int .u8 b.toNat).toList=((bz l' m).map λb=>Value.int .u8 b.toNat).take k:=by
      simp[strOf,ByteArray.extract,ByteArray.copySlice,List.map_take]
     rw[e];exact(YO η l' m).sub 0 k
 ·cases h
end ops
end
section
section ops
variable {P:Program}{ty:Ty}{W:Nat->Code->AC->Prop}{η:Env}{T:Tr V}{H H':Hp}{n n':K}{w:World}{tmps:Array Value}{v:V}
def YR(l:List Value)(s:ByteArray){bs:List UInt8}(h:l=bs.map λb=>Value.int .u8 b.toNat):
 aP P (forIn l s (λc s=>do
  let .int .u8 n:=c | stuck "bytesToString: byte expected"
  pure (ForInStep.yield (s.push (UInt8.ofNat n.toNat))))) w λr w'=>r.data.toList=s.data.toList++bs/\w'=w:=by
 induction bs generalizing l s with
 | nil=>subst h;exact ai ⟨by simp,rfl⟩
 | cons b bs ih=>
  subst h;rw[gB,List.forIn_cons];refine Δ (ai ?_);have e:(UInt8.ofNat (Int.ofNat b.toNat).toNat)=b:=by simp
  refine aP.mono (s:=forIn _ (s.push (UInt8.ofNat (Int.ofNat b.toNat).toNat)) _) (ih _ _ rfl) ?_;rintro r w' ⟨h1,rfl⟩;refine⟨?_,rfl⟩;rw[h1,e];simp
def Oi{l:List V}{m:Nat}(h:ofBytes l=some m){l':List Value}(hl:aN η l l'):l'=(bz l.length m).map (λb=>Value.int .u8 b.toNat)/\m<256 ^ l.length:=by
 induction l generalizing m l' with
 | nil=>simp only[ofBytes]at h;injection h with h;subst h;cases hl;exact⟨rfl,by simp⟩
 | cons a l ih=>
  unfold ofBytes at h;split at h
  ·rename_i he;cases he
  ·rename_i b l1 he;injection he with c d;subst c;subst d;split at h
   ·rename_i n e;cases hb:Nat.blt b 256 with
    | false=>rw[hb]at h;cases h
    | true=>
     rw[hb]at h;simp only[cond_true]at h;injection h with h;subst h;have j:b<256:=by rw[eM]at hb;simpa using hb
     cases hl with
     | cons _ v' _ l' h1 h2=>
      cases h1;obtain⟨f,k⟩:=ih e h2;have g:Nat.add b (Nat.mul 256 n) % 256=b:=by show(b+256*n) % 256=b;omega
      have i:Nat.add b (Nat.mul 256 n) / 256=n:=by show(b+256*n) / 256=n;omega
      refine⟨?_,?_⟩
      ·rw[dy,bz,gB,g,i,←f];congr 1;have:(UInt8.ofNat b).toNat=b:=by simp;omega
       rw[this];rfl
      ·rw[dy,fy];show b+256*n<_;omega
   ·cases h
  ·cases h
def YS(η:Env){l m:Nat}(hm:m<256 ^ l)(f i:Nat)(acc:Array Value):
 ∃xs,(Conv.runesFrom (strOf l m) f i acc).toList=acc.toList++xs/\aN η (r8 f (l - i) (m / 256 ^ i)) xs:=by
 induction f generalizing i acc with
 | zero=>exact⟨[],by simp[Conv.runesFrom],.nil⟩
 | succ f ih=>
  unfold Conv.runesFrom r8;rw[ri];by_cases h:i<l
  ·rw[ao h];have:Nat.beq (l - i) 0=false:=by cases hb:Nat.beq (l - i) 0 with | false=>rfl | true=>have:=bX hb;omega
   rw[this];simp only[cond_false];rw[Oh hm];generalize c:rune (l - i) (m / 256 ^ i)=r;obtain⟨xs,h1,h2⟩:=ih (i+r.2) (acc.push (.int .i32 (Int.ofNat r.1)));refine⟨.int .i32 (Int.ofNat r.1)::xs,by simp only[h1];simp,.cons _ _ _ _ (.i _ _) ?_⟩;have a:Nat.sub (l - i) r.2=l - (i+r.2):=by show l - i - r.2=_;omega
   have b:Nat.div (m / 256 ^ i) (Nat.pow 256 r.2)=m / 256 ^ (i+r.2):=by show m / 256 ^ i / 256 ^ r.2=_;rw[zT,Nat.pow_add]
   rw[a,b];exact h2
  ·rw[Θ h];have:l - i=0:=by omega
   rw[this];exact⟨[],by simp,.nil⟩
def Oj{k:IntKind}{x:V}{r:V×Hp×K}(h:oS H n (.toInt k) x=some r):∃k' m,x=.i k' m/\r=(.i k (wr k m),H,n):=by cases x<;>first | (cases h;done) | (injection h with h;exact⟨_,_,rfl,h.symm⟩)
def Ol{x:V}{r:V×Hp×K}(h:oS H n .same x=some r):∃l m,x=.s l m/\r=(.s l m,H,n):=by cases x<;>first | (cases h;done) | (injection h with h;exact⟨_,_,rfl,h.symm⟩)
def Om{x:V}{r:V×Hp×K}(h:oS H n .xm x=some r):(∀l m,x≠.s l m)/\∃l vs m,elems H 1 x=some (l,vs)/\ofBytes vs=some m/\r=(.s l m,H,n):=by
 unfold oS at h;split at h<;>first | (rename_i he;cases he;done) | (rename_i he _;cases he;done) | (cases h;done) | skip
 rename_i a;refine⟨λl m e=>a l m e,?_⟩;split at h
 ·rename_i l vs he;split at h
  ·rename_i m hm;injection h with h;exact⟨l,vs,m,he,hm,h.symm⟩
  ·cases h
 ·cases h
def On{e:Nat}{x:V}{r:V×Hp×K}(h:oS H n (.Gz e) x=some r):∃l m,x=.s l m/\js H n (.c (r8 l l m) e 0) (.su n 0 (r8 l l m).length 1)=some r:=by cases x<;>first | (cases h;done) | exact⟨_,_,rfl,h⟩
def Oo{x:V}{r:V×Hp×K}(h:oS H n .yX x=some r):∃k m,x=.i k (.ofNat m)/\pQ m=true/\r=(.s (nI m) (pR m),H,n):=by
 unfold oS at h;split at h<;>first | (rename_i he;cases he;done) | (rename_i he _;cases he;done) | (cases h;done) | skip
 rename_i k m _;cases hb:pQ m with
 | false=>rw[hb]at h;cases h
 | true=>
  rw[hb]at h;simp only[cond_true]at h;injection h with h;exact⟨k,m,rfl,hb,h.symm⟩
def dg(a X:Nat)(b:a<256):(a+256*X) % 256=a % 256/\(a+256*X) / 256=X:=⟨by omega,by omega⟩
def Hc{m:Nat}(h:pQ m=true):Utf8.encode (Int.ofNat m)=strOf (nI m) (pR m)/\pR m<256 ^ nI m:=by
 simp only[pQ,eM,iK,oq,aK,aW]at h;have hv:Utf8.valid (m:Int)=true:=by simp only[Utf8.valid,oq,aK,aW];omega
 have c:∀{a b:Nat},a % 256=b % 256->UInt8.ofNat a=UInt8.ofNat b:=λh=>by apply UInt8.toNat.inj;simpa using h
 unfold Utf8.encode nI pR;simp only[hv,if_true,Int.ofNat_eq_natCast,Int.toNat_natCast,eM];by_cases h1:m<128
 ·simp only[h1,if_true,decide_true,cond_true];refine⟨?_,by omega⟩;simp only[strOf,bz];rw[show UInt8.ofNat (m % 256)=UInt8.ofNat m from c (by omega)]
 ·simp only[h1,if_false,decide_false,cond_false];by_cases h2:m<2048
  ·simp only[h2,if_true,decide_true,cond_true];refine⟨?_,by omega⟩;obtain⟨d,e⟩:=dg (192+m / 64) (128+m % 64) (by omega);simp only[strOf,bz,d,e];rw[c (a:=(192+m / 64) % 256) (b:=0xC0+m / 64) (by omega),c (a:=(128+m % 64) % 256) (b:=0x80+m % 64) (by omega)]
  ·simp only[h2,if_false,decide_false,cond_false];by_cases i:m<65536
   ·simp only[i,if_true,decide_true,cond_true];refine⟨?_,by omega⟩;obtain⟨d,e⟩:=dg (224+m / 4096) (128+m / 64 % 64+256*(128+m % 64)) (by omega);obtain⟨f,g⟩:=dg (128+m / 64 % 64) (128+m % 64) (by omega);simp only[strOf,bz,d,e,f,g];rw[c (a:=(224+m / 4096) % 256) (b:=0xE0+m / 4096) (by omega),c (a:=(128+m / 64 % 64) % 256) (b:=0x80+m / 64 % 64) (by omega),c (a:=(128+m % 64) % 256) (b:=0x80+m % 64) (by omega)]
   ·simp only[i,if_false,decide_false,cond_false];refine⟨?_,by omega⟩;obtain⟨d,e⟩:=dg (240+m / 262144) (128+m / 4096 % 64+256*(128+m / 64 % 64+256*(128+m % 64))) (by omega);obtain⟨f,g⟩:=dg (128+m / 4096 % 64) (128+m / 64 % 64+256*(128+m % 64)) (by omega);obtain⟨j,k⟩:=dg (128+m / 64 % 64) (128+m % 64) (by omega);simp only[strOf,bz,d,e,f,g,j,k];rw[c (a:=(240+m / 262144) % 256) (b:=0xF0+m / 262144) (by omega),c (a:=(128+m / 4096 % 64) % 256) (b:=0x80+m / 4096 % 64) (by omega),c (a:=(128+m / 64 % 64) % 256) (b:=0x80+m / 64 % 64) (by omega),c (a:=(128+m % 64) % 256) (b:=0x80+m % 64) (by omega)]
def Oq{x:V}{r:V×Hp×K}(h:oS H n .FH x=some r):(x=.np/\r=(.np,H,n))\/∃b p q e,x=.p b 0/\H.get b=some (.b p q e)/\r=(.p b 0,H,n):=by
 unfold oS at h;split at h<;>first | (rename_i he;cases he;done) | (rename_i he _;cases he;done) | (cases h;done) | skip
 ·injection h with h;exact .inl ⟨rfl,h.symm⟩
 ·rename_i b _;split at h
  ·rename_i p q e hb;injection h with h;exact .inr ⟨b,p,q,e,rfl,hb,h.symm⟩
  ·cases h
def Ot{u:Nat}{x:V}{r:V×Hp×K}(h:oS H n (.FI u) x=some r):(x=.np/\r=(.np,H,n))\/∃b p q,x=.p b 0/\H.get b=some (.b p q u)/\r=(.p b 0,H,n):=by
 unfold oS at h;split at h<;>first | (rename_i he;cases he;done) | (rename_i he _;cases he;done) | (cases h;done) | skip
 ·injection h with h;exact .inl ⟨rfl,h.symm⟩
 ·rename_i c b he;injection he with he;subst he;split at h
  ·rename_i p q e hb;cases a:Nat.beq e u with
   | false=>rw[a]at h;cases h
   | true=>
    rw[a]at h;injection h with h;have:=bX a;subst this;exact .inr ⟨b,p,q,rfl,hb,h.symm⟩
  ·cases h
def Ou(a:aV W η H n w){b:K}{p q:V}{e:Nat}(h:H.get b=some (.b p q e)){L:Loc}(c:η b=some L):L.off=0/\w.shape? L.blk=some (e,2):=by obtain⟨L',h1,_,h0,u,v,d,_⟩:=a.obj b _ h;rw[c]at h1;injection h1 with h1;subst h1;refine⟨h0,?_⟩;simp[World.shape?,d]
def YT(aE:cU P ty)(hT:aM η T tmps)(hG:bD η ty.g)(E:aV W η H n w){s d:TypeId}{x:Operand}{a:A}(f:dc ty (.convert s d x)=some a)
 (hs:simple a T H n=some (v,H',n')):eB P W η H n w (do pure (.value (←convert s d (an tmps x)))) v H' n':=by
 simp only[dc]at f;split at f
 case h_2=>cases f
 rename_i i j x' hi hj hx;have z:=(aE.ok _ _ hi).desc;have B:=(aE.ok _ _ hj).desc;refine fG ?_;unfold convert;have key:∀k,simple (.cv k x') T H n=some (v,H',n')->∃u,oS H n k u=some (v,H',n')/\aq η u (an tmps x):=λk O=>by
  simp only[simple]at O;split at O
  ·rename_i u C;exact⟨u,O,bQ hT hG hx C⟩
  ·cases O
 split at f
 ·rename_i k1 k2 F G;injection f with f;subst f;rw[F]at z;rw[G]at B;obtain⟨u,C,o⟩:=key _ hs;obtain⟨k',m,rfl,he⟩:=Oj C;injection he with h1 h2;injection h2 with h2 D;subst h1;subst h2;subst D;generalize an tmps x=y at o;cases o;refine Δ (a0 z (Δ (a0 B ?_)));refine ai ⟨η,.refl E,?_⟩;rw[pZ];exact .i _ _
 ·rename_i F G;injection f with f;subst f;rw[F]at z;rw[G]at B;obtain⟨u,C,o⟩:=key _ hs;obtain⟨l,m,rfl,he⟩:=Ol C;injection he with h1 h2;injection h2 with h2 D;subst h1;subst h2;subst D;refine Δ (a0 z (Δ (a0 B ?_)));generalize an tmps x=y at o;cases o with
  | s _ _ hm=>exact ai ⟨η,.refl E,.s _ _ hm⟩
 ·rename_i k1 F G;injection f with f;subst f;rw[F]at z;rw[G]at B;obtain⟨u,C,o⟩:=key _ hs;obtain⟨k,m,rfl,hm,he⟩:=Oo C;injection he with h1 h2;injection h2 with h2 D;subst h1;subst h2;subst D;refine Δ (a0 z (Δ (a0 B ?_)));generalize an tmps x=y at o;cases o;refine ai ⟨η,.refl E,?_⟩;rw[(Hc hm).1];exact .s _ _ (Hc hm).2
 ·rename_i e F G;cases hb:Nat.beq e ty.b with
  | false=>rw[hb]at f;cases f
  | true=>
   rw[hb]at f;simp only[cond_true]at f;injection f with f;subst f;rw[F]at z;rw[G]at B;obtain⟨u,C,o⟩:=key _ hs;change aP P (convert s d (an tmps x)) w _;have he:=bX hb;obtain⟨ti,Q,Z⟩:=Option.map_eq_some_iff.1 aE.XJ;rcases Oq C with ⟨rfl,I⟩ | ⟨b,p,q,e',rfl,R,I⟩
   ·injection I with h1 h2;injection h2 with h2 D;subst h1;subst h2;subst D;generalize an tmps x=y at o;cases o;refine⟨.pointer none,w,?_,η,.refl E,.np⟩;simp[convert,run_underlying z,run_underlying B,Conv.unsafePointer]
   ·injection I with h1 h2;injection h2 with h2 D;subst h1;subst h2;subst D;generalize an tmps x=y at o;cases o with
    | p _ _ L N=>
     obtain⟨s1,S⟩:=Ou E R N;exact⟨_,w,Go.Lib.run_to_unsafe (P:=P) (w:=w) ⟨L.blk,L.off+0,none⟩ z B (by rw[he];exact Q) (by rw[Z];decide) S (by show L.off+0<2;omega),η,.refl E,.p _ _ _ N⟩
 ·rename_i e F G;cases hb:Nat.beq e ty.b with
  | false=>rw[hb]at f;cases f
  | true=>
   rw[hb]at f;simp only[cond_true]at f;injection f with f;subst f;rw[F]at z;rw[G]at B;obtain⟨u,C,o⟩:=key _ hs;change aP P (convert s d (an tmps x)) w _;have he:=bX hb;obtain⟨ti,Q,Z⟩:=Option.map_eq_some_iff.1 aE.XJ;rcases Ot C with ⟨rfl,I⟩ | ⟨b,p,q,rfl,R,I⟩
   ·injection I with h1 h2;injection h2 with h2 D;subst h1;subst h2;subst D;generalize an tmps x=y at o;cases o;refine⟨.pointer none,w,?_,η,.refl E,.np⟩;simp[convert,run_underlying z,run_underlying B,Conv.unsafePointer]
   ·injection I with h1 h2;injection h2 with h2 D;subst h1;subst h2;subst D;generalize an tmps x=y at o;cases o with
    | p _ _ L N=>
     obtain⟨s1,S⟩:=Ou E R N;exact⟨_,w,Go.Lib.run_from_unsafe (P:=P) (w:=w) ⟨L.blk,L.off+0,none⟩ z B (by rw[he];exact Q) S (by rw[he,s1];exact aE.XK),η,.refl E,.p _ _ _ N⟩
 ·rename_i e F G;split at f
  ·rename_i j' _ _ _ U;injection f with f;subst f;rw[F]at z;rw[G]at B;have X:=(aE.ok _ _ U).desc;obtain⟨u,C,o⟩:=key _ hs;obtain⟨Aw,l,vs,m,he,hb,I⟩:=Om C;injection I with h1 h2;injection h2 with h2 D;subst h1;subst h2;subst D;obtain⟨q1,q2,J⟩:=uv (P:=P) E o he;have J:=J l (φ _);rw[kI (by omega)]at J;refine Δ (a0 z (Δ (a0 B ?_)));generalize an tmps x=y at o q2 J;have ie:∃A l' c,y=.slice A l' c:=by
    cases o<;>first | exact⟨_,_,_,rfl⟩ | (exact absurd rfl (Aw _ _)) | (cases he;done)
   obtain⟨A,l',c,rfl⟩:=ie;refine Δ (a0 X ?_);have hl:l'=l:=by have:=congrArg (λs:Sem Nat=>s.run P w) q2;simpa[Builtin.lenOf,Sem.run,pure]using this
   subst hl;cases A with
   | none=>
    obtain⟨r,w',g1,M,_⟩:=J;have g1:(Result.ok #[] w:Result (Array Value))=.ok r w':=g1;injection g1 with g1 _;subst g1;cases M;have mh:m=0:=by simp only[ofBytes]at hb;injection hb with hb;exact hb.symm
    have fc:l'=0:=by simpa using q1.symm
    subst mh;subst fc;exact ai ⟨η,.refl E,.s 0 0 (by simp)⟩
   | some A=>
    have J:aP P (loadCells A (l'*1)) w λr w'=>aN η vs r.toList/\w'=w:=J;rw[jz]at J;refine Δ (J.mono ?_);rintro r w' ⟨g1,rfl⟩;obtain⟨o1,o2⟩:=Oi hb g1;rw[←Array.forIn_toList];have hlen:vs.length=l':=by omega
    rw[hlen]at o1 o2;refine Δ (aP.mono (YR r.toList .empty o1) ?_);rintro r' w' ⟨M,rfl⟩;refine ai ⟨η,.refl E,?_⟩;have:r'=strOf l' m:=by
     show r'=(⟨(bz l' m).toArray⟩:ByteArray);have:r'.data=(bz l' m).toArray:=by apply iY;rw[M];simp
     rw[←this]
    rw[this];exact .s _ _ o2
  ·cases f
 ·rename_i e F G;split at f
  ·rename_i j' _ _ _ U;injection f with f;subst f;rw[F]at z;rw[G]at B;have X:=(aE.ok _ _ U).desc;obtain⟨u,C,o⟩:=key _ hs;obtain⟨l,m,rfl,he⟩:=On C;obtain⟨rfl,rfl,rfl⟩:=nM he;generalize an tmps x=y at o;cases o with
   | s _ _ hm=>
    refine Δ (a0 z (Δ (a0 B ?_)));refine Δ (a0 X ?_);obtain⟨xs,g1,M⟩:=YS η hm l 0 #[];simp only[mF,Nat.pow_zero,Nat.div_one]at M;unfold Conv.stringToRunes;rw[ri];have dK:(Conv.runesFrom (strOf l m) l 0 #[]).size=xs.length:=by rw[←xN,g1];simp
    have gD:xs.length=(r8 l l m).length:=M.length.symm;have fin:∀(Y:World) (d:Nat),Y={ w with drawn:=d}->∀t,aP P (do
     let a←newRow e (Conv.runesFrom (strOf l m) l 0 #[]++Array.replicate ((Question.appendCap (Conv.runesFrom (strOf l m) l 0 #[]).size 0 e).cut t - (Conv.runesFrom (strOf l m) l 0 #[]).size) (.int .i32 0))
     pure (Value.slice (some a) (Conv.runesFrom (strOf l m) l 0 #[]).size ((Question.appendCap (Conv.runesFrom (strOf l m) l 0 #[]).size 0 e).cut t))) Y
     λy w'=>∃η',Trans W η H n w η' (H.put (some (.c (r8 l l m) e 0)) n) n.succ w'/\aq η' (.su n 0 (r8 l l m).length 1) y:=by
     rintro Y d rfl t;rw[dK];generalize qb:(Question.appendCap xs.length 0 e).cut t=cap;have Ax:xs.length<=cap:=by rw[←qb];simp only[Question.cut];omega
     refine Δ (Δ (sd (ai (ai ?_))));obtain⟨η',k1,k2⟩:=DK (E.drawn d) e M (List.replicate (cap - xs.length) (Value.int .i32 0));have eG:Conv.runesFrom (strOf l m) l 0 #[]++Array.replicate (cap - xs.length) (Value.int .i32 0)=(xs++List.replicate (cap - xs.length) (Value.int .i32 0)).toArray:=by apply iY;rw[Array.toList_append,g1];simp
     refine⟨η',?_,?_⟩
     ·rw[eG];exact⟨k1.ext,k1.le,k1.rep,⟨k1.kept.os,k1.kept.tape,k1.kept.output,k1.kept.size,k1.kept.block,k1.kept.loops⟩,k1.jN,k1.bu⟩
     ·rw[gD];have:=aq.su (η:=η') n 0 xs.length 1 _ cap k2 Ax (by simp;omega);rw[gD]at this;exact this
    refine Δ (Nm (λt d _=>?_) (λh=>by cases h));exact fin _ d rfl t
  ·cases f
 ·cases f
end ops
end
section
section ops
variable {P:Program}{ty:Ty}{W:Nat->Code->AC->Prop}{η:Env}{T:Tr V}{H H':Hp}{n n':K}{w:World}{tmps:Array Value}{v:V}
def YU{m:Mark}{Φ:Unit->World->Prop}(h:Φ () w):aP P (mark m) w Φ:=⟨(),w,rfl,h⟩
def Ov{b:Nat}{Φ:Unit->World->Prop}(h:Φ () w):aP P (askRoom b) w Φ:=by
 unfold askRoom;split
 ·exact YU h
 ·exact ai h
def YV(aE:cU P ty)(k:aM η T tmps)(m:bD η ty.g)(s:aV W η H n w){t:TypeId}{x y:Operand}{a:A}
 (b:dc ty (.makeSlice t x y)=some a)(hs:simple a T H n=some (v,H',n')):
 eB P W η H n w (do pure (.value (←Instr.makeSlice t (an tmps x) (an tmps y)))) v H' n':=by
 simp only[dc]at b;split at b
 case h_2=>cases b
 rename_i i l c hi u B;split at b
 case h_2=>cases b
 rename_i e C;split at b
 case h_2=>cases b
 rename_i j hj;injection b with b;subst b;simp only[simple]at hs;split at hs
 case h_2=>cases hs
 rename_i k1 l' k2 c' hl D;have o:=bQ k m u hl;have p:=bQ k m B D;cases hb:(Nat.ble l' c'&&Nat.ble (Nat.mul c' j.bytes) 140737488355328&&Nat.ble c' 9223372036854775807) with
 | false=>rw[hb]at hs;cases hs
 | true=>
  rw[hb]at hs;simp only[cond_true]at hs;simp only[iK,aK,aW]at hb;obtain⟨⟨b1,b2⟩,b3⟩:=hb;have b2:c'*j.bytes<=140737488355328:=b2;obtain⟨rfl,rfl,rfl⟩:=nM hs;have q:=(aE.ok _ _ hi).desc;rw[C]at q;generalize an tmps x=U at o;generalize an tmps y=X at p;cases o;cases p;obtain⟨ti,z,h1,h2,E,Y,Z,h6,h7,F,h9⟩:=(aE.ok _ _ hj).info;refine fG (Δ (a0 q ?_));refine Δ (Δ (ai (ai ?_)));refine Δ (Δ (ai (ai ?_)));refine Δ (uu h1 ?_);have G:IntKind.i64.wrap (Int.ofNat l')=l':=wrap_i64 (pL _) (by show((_:Nat):Int)<=_;omega);have I:IntKind.i64.wrap (Int.ofNat c')=c':=wrap_i64 (pL _) (by show((_:Nat):Int)<=_;omega);simp only[G,I];have J:(2:Int) ^ 48=281474976710656:=rfl;have L:¬ ((c':Int)<0):=by omega
  have M:¬ ((ti.bytes:Int)*(c':Int)>2 ^ 48):=by
   rw[E,J];have:(j.bytes:Int)*(c':Int)<=140737488355328:=by rw[Int.mul_comm,←Int.natCast_mul];exact Int.ofNat_le.2 b2
   omega
  have N:¬ ((l':Int)<0):=by omega
  have O:¬ ((l':Int)>(c':Int)):=by omega
  rw[Θ (by
   rw[oq,oq,oq,aW,aW,aW,aW];rintro(((h | h) | h) | h)
   ·exact L h
   ·exact M h
   ·exact N h
   ·exact O h)]
  refine Δ (Ov ?_);refine Δ (kM (aE.ok _ _ hj) ?_);simp only[Int.toNat_natCast];have r:∀d:Array Value,(∀η,aN η (dL j.zero c') ((Array.range (c'*j.size)).map (d[· % d.size]!)).toList)->aP P (do
   let a←newRow e ((Array.range (c'*j.size)).map (d[· % d.size]!))
   pure (Value.slice (some a) l' c')) w λy w'=>∃η',Trans W η H n w η' (H.put (some (.c (dL j.zero c') e 0)) n) n.succ w'/\aq η' (.sl n 0 l' c') y:=by
   intro d f;obtain⟨η',g1,Q⟩:=DK s e (f η) [];refine Δ (Δ (sd (ai (ai ⟨η',?_,?_⟩))))
   ·simpa only[List.append_nil,Array.toArray_toList]using g1
   ·exact aq.sl (η:=η') n 0 l' c' _ Q
  by_cases h0:c'*j.size=0
  ·rw[ao h0];exact Δ (ai (r #[] (λη=>by
    have:dL j.zero c'=[]:=by rw[←nD,sj,F,h0]
    rw[this,h0];have R:Array.range 0=#[]:=rfl;rw[R,Array.map_empty];exact .nil)))
  ·rw[Θ h0];refine Δ (pY (aE.ok _ _ hj) λz f _ _ S=>Δ (ai ?_));exact r z.cells (λη=>DL (f η) c' _ (by rw[S]))
def DT{x:Operand}(c:aM η T tmps)(e:bD η ty.g){a:au}{p d cap:Nat}{code:BoundsCode}(f:br ty x=some a)(h:cM T d (some a)=some p)(hp:p<=cap)
 {Φ:Nat->World->Prop}(k:Φ p w):aP P (Instr.sliceBound (an tmps x) cap code) w Φ:=by
 simp only[cM]at h;split at h
 ·rename_i u i;have b:=bQ c e f i;unfold GK at h;split at h
  ·rename_i k' m;injection h with h;subst h;generalize an tmps x=y at b;cases b;refine Δ (ai ?_);refine Ha ⟨by simp,by simpa using hp⟩ (ai ?_);simpa using k
  ·cases h
 ·cases h
def He(j:aM η T tmps)(k:bD η ty.g){lo hi mx:Option Operand}{A s t:Option au}(h1:rb ty lo=some A)(h2:rb ty hi=some s)(C:rb ty mx=some t)
 (hm:t.isSome=true->s.isSome=true){len cap p q m:Nat}(e:cM T 0 A=some p)(a:cM T len s=some q)(f:cM T cap t=some m)(D:p<=q)(B:q<=m)(E:m<=cap)(b:Bool):
 aP P (Instr.sliceBounds b len cap (lo.map (an tmps)) (hi.map (an tmps)) (mx.map (an tmps))) w λr w'=>r=(p,q,m)/\w'=w:=by
 have co:∀{x:Option Operand} {o:Option au},rb ty x=some o->(x=none/\o=none)\/∃y d,x=some y/\o=some d/\br ty y=some d:=by
  intro x o h;cases x with
  | none=>simp only[rb]at h;injection h with h;exact .inl ⟨rfl,h.symm⟩
  | some y=>
   simp only[rb]at h;split at h
   ·rename_i d i;injection h with h;exact .inr ⟨y,d,rfl,h.symm,i⟩
   ·cases h
 have low:∀(c:BoundsCode) (jp:Nat->Sem (Nat×Nat×Nat)) (Φ:Nat×Nat×Nat->World->Prop),aP P (jp p) w Φ->aP P (match lo.map (an tmps) with
  | some v=>do
   let l←Instr.sliceBound v q c
   jp l
  | none=>do
   let l←pure 0
   jp l) w Φ:=by
  intro c jp Φ hj;rcases co h1 with ⟨rfl,rfl⟩ | ⟨y,d,rfl,rfl,i⟩
  ·simp only[cM]at e;injection e with e;subst e;exact Δ (ai hj)
  ·exact Δ (DT j k i e D hj)
 unfold Instr.sliceBounds;rcases co C with ⟨rfl,rfl⟩ | ⟨y,d,rfl,rfl,i⟩
 ·simp only[cM]at f;injection f with f;subst f;refine Δ (ai ?_);rcases co h2 with ⟨rfl,rfl⟩ | ⟨z,F,rfl,rfl,u⟩
  ·simp only[cM]at a;injection a with a;subst a;refine Δ (ai ?_);exact low _ _ _ (ai ⟨rfl,rfl⟩)
  ·refine Δ (DT j k u a B ?_);exact low _ _ _ (ai ⟨rfl,rfl⟩)
 ·refine Δ (DT j k i f E ?_);rcases co h2 with ⟨rfl,rfl⟩ | ⟨z,F,rfl,rfl,u⟩
  ·cases hm rfl
  ·refine Δ (DT j k u a B ?_);exact low _ _ _ (ai ⟨rfl,rfl⟩)
def YW{lo hi mx:Option au}{x:V}(h:ly .str T x lo hi mx=some v):
 ∃l m p q,x=.s l m/\mx=none/\cM T 0 lo=some p/\cM T l hi=some q/\p<=q/\q<=l/\v=.s (Nat.sub q p) (Aa m p q):=by
 cases x<;>try (cases h;done)
 rename_i l m;simp only[ly]at h;split at h
 case h_2=>cases h
 rename_i p q a b;cases hb:(Nat.ble p q&&Nat.ble q l) with
 | false=>rw[hb]at h;cases h
 | true=>
  rw[hb]at h;simp only[cond_true]at h;injection h with h;simp only[iK,aK,aW]at hb;exact⟨l,m,p,q,rfl,rfl,a,b,hb.1,hb.2,h.symm⟩
def YX{z k:Nat}{lo hi mx:Option au}{x:V}(h:ly (.arr k z) T x lo hi mx=some v):
 ∃b o p q m,x=.p b o/\cM T 0 lo=some p/\cM T k hi=some q/\cM T k mx=some m/\p<=q/\q<=m/\m<=k/\v=.sl b (bif Nat.beq m p then o else Nat.add o (Nat.mul p z)) (Nat.sub q p) (Nat.sub m p):=by
 cases x<;>try (cases h;done)
 rename_i b o;simp only[ly]at h;split at h
 case h_2=>cases h
 rename_i p q m a c d;cases hb:(Nat.ble p q&&Nat.ble q m&&Nat.ble m k) with
 | false=>rw[hb]at h;cases h
 | true=>
  rw[hb]at h;simp only[cond_true]at h;injection h with h;simp only[iK,aK,aW]at hb;exact⟨b,o,p,q,m,rfl,a,c,d,hb.1.1,hb.1.2,hb.2,h.symm⟩
def YY{z:Nat}{lo hi mx:Option au}{x:V}(h:ly (.sl z) T x lo hi mx=some v):
 (x=.ns/\cM T 0 lo=some 0/\cM T 0 hi=some 0/\cM T 0 mx=some 0/\v=.ns)\/
 (∃b o l c p q m,x=.sl b o l c/\cM T 0 lo=some p/\cM T l hi=some q/\cM T c mx=some m/\p<=q/\q<=m/\m<=c/\v=.sl b (bif Nat.beq m p then o else Nat.add o (Nat.mul p z)) (Nat.sub q p) (Nat.sub m p))\/
 (∃b o l p q,x=.su b o l z/\mx=none/\cM T 0 lo=some p/\cM T l hi=some q/\p<=q/\q<=l/\v=.su b (Nat.add o (Nat.mul p z)) (Nat.sub q p) z)\/
 (∃b o l p q m y,x=.su b o l z/\mx=some y/\cM T 0 lo=some p/\cM T l hi=some q/\cM T 0 (some y)=some m/\p<=q/\q<=m/\m<=l/\v=(bif Nat.beq l 0 then .su b o 0 z else .sl b (bif Nat.beq m p then o else Nat.add o (Nat.mul p z)) (Nat.sub q p) (Nat.sub m p))):=by
 cases x<;>try (cases h;done)
 ·simp only[ly]at h;split at h
  ·rename_i a d f;injection h with h;exact .inl ⟨rfl,a,d,f,h.symm⟩
  ·cases h
 ·rename_i b o l c;simp only[ly]at h;split at h
  case h_2=>cases h
  rename_i p q m a d f;cases hb:(Nat.ble p q&&Nat.ble q m&&Nat.ble m c) with
  | false=>rw[hb]at h;cases h
  | true=>
   rw[hb]at h;simp only[cond_true]at h;injection h with h;simp only[iK,aK,aW]at hb;exact .inr (.inl ⟨b,o,l,c,p,q,m,rfl,a,d,f,hb.1.1,hb.1.2,hb.2,h.symm⟩)
 ·rename_i b o l e;cases mx with
  | none=>
   simp only[ly]at h;split at h
   case h_2=>cases h
   rename_i p q a d;cases hb:(Nat.ble p q&&Nat.ble q l&&Nat.beq z e) with
   | false=>rw[hb]at h;cases h
   | true=>
    rw[hb]at h;simp only[cond_true]at h;injection h with h;simp only[iK,cB,aK,aW]at hb;obtain⟨⟨g,i⟩,j⟩:=hb;subst j;exact .inr (.inr (.inl ⟨b,o,l,p,q,rfl,rfl,a,d,g,i,h.symm⟩))
  | some y=>
   simp only[ly]at h;split at h
   case h_2=>cases h
   rename_i p q m a d f;cases hb:(Nat.ble p q&&Nat.ble q m&&Nat.ble m l&&Nat.beq z e) with
   | false=>rw[hb]at h;cases h
   | true=>
    rw[hb]at h;simp only[cond_true]at h;have k:=hb;simp only[iK,cB,aK,aW]at k;obtain⟨⟨⟨g,i⟩,j⟩,r⟩:=k;subst r;refine .inr (.inr (.inr ⟨b,o,l,p,q,m,y,rfl,rfl,a,d,f,g,i,j,?_⟩));cases hl:Nat.beq l 0 with
    | true=>rw[hl]at h;injection h with h;exact h.symm
    | false=>rw[hl]at h;injection h with h;exact h.symm
def extract_eq{l m p q:Nat}(h1:p<=q)(h2:q<=l)(hm:m<256 ^ l):(strOf l m).extract p q=strOf (Nat.sub q p) (Aa m p q)/\Aa m p q<256 ^ (Nat.sub q p):=by
 refine⟨?_,j4 _ (tV λe=>by simp at e)⟩;have e:((strOf l m).extract p q).data=(bz (q - p) (m / 256 ^ p % 256 ^ (q - p))).toArray:=by
  apply iY;have:((strOf l m).extract p q).data.toList=((bz l m).drop p).take (q - p):=by simp[strOf,ByteArray.extract,ByteArray.copySlice]
  rw[this,Xz _ _ _ (by omega),XA _ _ _ (by omega)]
 show(strOf l m).extract p q=⟨(bz (q - p) (m / 256 ^ p % 256 ^ (q - p))).toArray⟩;rw[←e]
def YZ(aE:cU P ty)(Y:aM η T tmps)(Z:bD η ty.g)(hH:aV W η H n w){t:TypeId}{x:Operand}{lo hi mx:Option Operand}{a:A}
 (d:dc ty (.slice t x lo hi mx)=some a)(hs:simple a T H n=some (v,H',n')):
 eB P W η H n w (do pure (.value (←Instr.sliceAt t (an tmps x) (lo.map (an tmps)) (hi.map (an tmps)) (mx.map (an tmps))))) v H' n':=by
 simp only[dc]at d;split at d
 case h_2=>cases d
 rename_i i x' qd N O Ao hx dO lA Q;cases hb:(O.isSome&&N.isNone) with
 | true=>rw[hb]at d;cases d
 | false=>
  rw[hb]at d;simp only[cond_false]at d;have hm:O.isSome=true->N.isSome=true:=by intro h;rw[h]at hb;cases N<;>simp_all
  have J:=(aE.ok _ _ Ao).desc;have Y0:O=none->mx=none:=by
   rintro rfl;cases mx with
   | none=>rfl
   | some y=>simp only[rb]at Q;split at Q<;>cases Q
  have key:∀k,simple (.sli k x' qd N O) T H n=some (v,H',n')->∃u,ly k T u qd N O=some v/\H'=H/\n'=n/\aq η u (an tmps x):=λk hk=>by
   simp only[simple]at hk;split at hk
   ·rename_i u M;obtain⟨h1,h2,h3⟩:=jO hk;exact⟨u,h1,h2,h3,bQ Y Z hx M⟩
   ·cases hk
  split at d
  ·
   rename_i S;injection d with d;subst d;rw[S]at J;obtain⟨u,M,rfl,rfl,F⟩:=key _ hs;obtain⟨l,m,p,q,rfl,rfl,z,B,D,G,rfl⟩:=YW M;obtain rfl:=Y0 rfl;generalize an tmps x=y at F;cases F with
   | s _ _ Ay=>
    refine fG (Δ (a0 J ?_));refine Δ (a0 J ?_);refine Δ ?_;rw[ri];refine(He (w:=w) Y Z dO lA Q hm z B (m:=l) U D G (φ _) false).mono ?_;rintro r w' ⟨rfl,rfl⟩;obtain⟨g1,g2⟩:=extract_eq D G Ay;refine ai ⟨η,.refl hH,?_⟩;rw[g1];exact .s _ _ g2
  ·
   rename_i e S;split at d
   case h_2=>cases d
   rename_i j hj;injection d with d;subst d;rw[S]at J;obtain⟨u,M,rfl,rfl,F⟩:=key _ hs;have fin:∀(A:Option Addr) (len cap p q m:Nat),an tmps x=.slice A len cap->cM T 0 qd=some p->cM T len N=some q->cM T cap O=some m->p<=q->q<=m->m<=cap->aq η v (.slice (if m=p then A else A.map (·.add (p*j.size))) (q - p) (m - p))->eB P W η H' n' w (do pure (.value (←Instr.sliceAt t (an tmps x) (lo.map (an tmps)) (hi.map (an tmps)) (mx.map (an tmps))))) v H' n':=by intro A len cap p q m ex z B I D G R hv;rw[ex];refine fG (Δ (a0 J ?_));refine Δ (a0 J ?_);refine Δ ?_;refine(He (w:=w) Y Z dO lA Q hm z B I D G R true).mono ?_;rintro r w' ⟨rfl,rfl⟩;refine Δ (kM (aE.ok _ _ hj) ?_);exact ai ⟨η,.refl hH,hv⟩
   generalize E:an tmps x=y at F;rcases YY M with ⟨rfl,z,B,I,rfl⟩ | ⟨b,o,l,c,p,q,m,rfl,z,B,I,D,G,R,rfl⟩ | ⟨b,o,l,p,q,rfl,rfl,z,B,D,G,rfl⟩ | ⟨b,o,l,p,q,m,y',rfl,rfl,z,B,I,D,G,R,rfl⟩
   ·cases F;exact E▸fin none 0 0 0 0 0 E z B I (φ _) (φ _) (φ _) .ns
   ·cases F with
    | sl _ _ _ _ L f=>
     refine E▸fin _ _ _ p q m E z B I D G R ?_;by_cases C:m=p
     ·subst C;rw[ao rfl];have:Nat.beq m m=true:=by simp
      rw[this];exact .sl _ _ _ _ L f
     ·rw[Θ C];have:Nat.beq m p=false:=by rw[cB];simp[C]
      rw[this];simp only[ou,pX,cond_false];have:=aq.sl (η:=η) b (Nat.add o (Nat.mul p j.size)) (q - p) (m - p) L f;rw[show L.off+o+p*j.size=L.off+Nat.add o (Nat.mul p j.size) from j3 ..];exact this
   ·cases F with
    | su _ _ _ _ L c f h1 h2=>
     refine E▸fin _ _ _ p q c E z B rfl D (by omega) (φ _) ?_;by_cases C:c=p
     ·subst C;rw[ao rfl];have:Nat.sub q c=0:=by show q - c=0;omega
      rw[this];have:q - c=0:=by omega
      rw[this,lL];exact .se _ _ _ _ L f
     ·rw[Θ C];simp only[ou,pX];rw[show L.off+o+p*j.size=L.off+Nat.add o (Nat.mul p j.size) from j3 ..];refine aq.su b _ (q - p) _ L (c - p) f (by omega) ?_;show o+p*j.size+(c - p)*j.size<=L.room;have:(c - p)*j.size+p*j.size=c*j.size:=by rw[←fM];congr 1;omega
      omega
    | se _ _ _ A L f=>
     have X:q=0:=by omega
     have hp:p=0:=by omega
     subst X;subst hp;exact E▸fin _ _ _ 0 0 0 E z B rfl (φ _) (φ _) (φ _) (.se _ _ _ _ L f)
   ·cases F with
    | su _ _ _ _ L c f h1 h2=>
     refine E▸fin _ _ _ p q m E z B I D G (by omega) ?_;cases hl:Nat.beq l 0 with
     | true=>
      have hl:=bX hl;have X:q=0:=by omega
      have hp:p=0:=by omega
      have mh:m=0:=by omega
      subst X;subst hp;subst mh;exact .se _ _ _ _ L f
     | false=>
     simp only[cond_false];by_cases C:m=p
     ·subst C;rw[ao rfl];have:Nat.beq m m=true:=by simp
      rw[this];exact .sl _ _ _ _ L f
     ·rw[Θ C];have:Nat.beq m p=false:=by rw[cB];simp[C]
      rw[this];simp only[ou,pX,cond_false];have:=aq.sl (η:=η) b (Nat.add o (Nat.mul p j.size)) (q - p) (m - p) L f;rw[show L.off+o+p*j.size=L.off+Nat.add o (Nat.mul p j.size) from j3 ..];exact this
    | se _ _ _ A L f=>
     have X:q=0:=by omega
     have hp:p=0:=by omega
     have mh:m=0:=by omega
     subst X;subst hp;subst mh;exact E▸fin _ _ _ 0 0 0 E z B I (φ _) (φ _) (φ _) (.se _ _ _ _ L f)
  ·
   rename_i k e S;split at d
   case h_2=>cases d
   rename_i j hj;injection d with d;subst d;rw[S]at J;obtain⟨u,M,rfl,rfl,F⟩:=key _ hs;obtain⟨b,o,p,q,m,rfl,z,B,I,D,G,R,rfl⟩:=YX M;generalize an tmps x=y at F;cases F with
   | p _ _ L f=>
    refine fG (Δ (a0 J ?_));refine Δ (ai ?_);refine Δ ?_;refine(He (w:=w) Y Z dO lA Q hm z B I D G R false).mono ?_;rintro r w' ⟨rfl,rfl⟩;refine Δ (kM (aE.ok _ _ hj) ?_);refine ai ⟨η,.refl hH,?_⟩;by_cases C:m=p
    ·subst C;rw[ao rfl];have:Nat.beq m m=true:=by simp
     rw[this];exact .sl _ _ _ _ L f
    ·rw[Θ C];have:Nat.beq m p=false:=by rw[cB];simp[C]
     rw[this];simp only[pX,cond_false];have:=aq.sl (η:=η) b (Nat.add o (Nat.mul p j.size)) (q - p) (m - p) L f;rw[show L.off+o+p*j.size=L.off+Nat.add o (Nat.mul p j.size) from j3 ..];exact this
  ·cases d
end ops
end
section
section ops
variable {P:Program}{ty:Ty}{W:Nat->Code->AC->Prop}{η:Env}{T:Tr V}{H H':Hp}{n n':K}{w:World}{tmps:Array Value}{v:V}
def Hg{t:TypeId}{i:TI}{q:EK}(hi:sg P t i)(h:i.desc.key=some q)(x:Value)(e:Bool)(k:Nat){Φ:Unit->World->Prop}(b:Φ () w):aP P (Instr.checkKey e (k+1) t x) w Φ:=by
 have a:=hi.desc;unfold Instr.checkKey;generalize i.desc=d at h a;cases d<;>first | (cases h;done) | skip
 all_goals exact Δ (a0 a (ai b))
def Y1(aE:cU P ty){xs:List V}{cx:Array Value}(d:aN η xs cx.toList)(e:Bool)(k:Nat){fs:List Field}
 {l:List (Nat×EK)}(hl:flat ty (fs.map λf=>(f.type,f.offset))=some l)(h:hasAll xs l=true):
 aP P (do
  for f in fs do
   if f.name ≠ "_" then Instr.checkKey e (k+1) f.type (←part f.type cx f.offset)) w λ_ w'=>w'=w:=by
 induction fs generalizing l with
 | nil=>exact ai rfl
 | cons f fs ih=>
  simp only[gB,flat]at hl;split at hl
  case h_2=>cases hl
  rename_i i hi;split at hl
  case h_2=>cases hl
  rename_i q l' a b;injection hl with hl;subst hl;simp only[hasAll,aK]at h;obtain⟨h1,h2⟩:=h;split at h1
  case h_2=>cases h1
  rename_i x g;obtain⟨_,j⟩:=vZ aE hi a;rw[List.forIn_cons];refine Δ (Δ ?_);by_cases c:f.name ≠ "_"
  ·rw[ao c];refine Δ ((yh aE hi j d g).mono ?_);rintro m w' ⟨_,rfl⟩;refine Δ (Hg (aE.ok _ _ hi) a _ _ _ ?_);exact ai (Av (ih b h2))
  ·rw[Θ c];exact ai (Av (ih b h2))
def Y2(aE:cU P ty){e:TypeId}{i:TI}(hi:ty e=some i){q:EK}(a:i.desc.key=some q){xs:List V}{cx:Array Value}(c:aN η xs cx.toList)(b:Bool)(k:Nat)
 {fs:List Nat}(h:hasAll xs (fs.map λi=>(i,q))=true):
 aP P (do
  for j in fs do
   Instr.checkKey b (k+1) e (←part e cx (j*(←sizeOf e)))) w λ_ w'=>w'=w:=by
 obtain⟨_,d⟩:=vZ aE hi a
 induction fs with
 | nil=>exact ai rfl
 | cons f fs ih=>
  simp only[gB,hasAll,aK]at h;obtain⟨h1,h2⟩:=h;split at h1
  case h_2=>cases h1
  rename_i x g;rw[List.forIn_cons];refine Δ (Δ (Δ (kM (aE.ok _ _ hi) ?_)));rw[Od aE hi a];refine Δ ((yh aE hi d c (by rw[jz];exact g)).mono ?_);rintro l w' ⟨_,rfl⟩;refine Δ (Hg (aE.ok _ _ hi) a _ _ _ ?_);exact ai (Av (ih h2))
def Hh(aE:cU P ty){t:TypeId}{q:dE}(b:lN ty t=some q){x:V}{o:Value}(c:aq η x o)(h:pP q x=true)(e:Bool):
 aP P (Instr.checkKey e 10000 t o) w λ_ w'=>w'=w:=by
 unfold lN at b;split at b
 case h_2=>cases b
 rename_i i hi;have f:=(aE.ok _ _ hi).desc;split at b
 ·rename_i fs plain g;cases plain with
  | false=>cases b
  | true=>
   simp only[cond_true]at b;split at b
   case h_2=>cases b
   rename_i l hl;injection b with b;subst b;rw[g]at f;obtain⟨u,p,r,_,y⟩:=f;unfold pP at h;split at h<;>first | (rename_i he;cases he;done) | (rename_i he _;cases he;done) | (cases h;done) | skip
   rename_i l' xs he;injection he with he;subst he;cases c with
   | a _ cx c=>
    unfold Instr.checkKey;refine Δ (a0 p ?_);dsimp only;rw[←Array.forIn_toList];exact Y1 (cx:=⟨cx⟩) aE c e 9998 (by rw[←r];exact hl) h
 ·rename_i m z g;rw[g]at f;split at b
  case h_2=>cases b
  rename_i j hj;split at b
  case h_2=>cases b
  rename_i s k;injection b with b;subst b;unfold pP at h;split at h<;>first | (rename_i he;cases he;done) | (rename_i he _;cases he;done) | (cases h;done) | skip
  rename_i l' xs he;injection he with he;subst he;cases c with
  | a _ cx c=>
   unfold Instr.checkKey;refine Δ (a0 f ?_);dsimp only;have:=Y2 (w:=w) (fs:=List.range m) (cx:=⟨cx⟩) aE hj k c e 9998 h;simp only[Std.Legacy.Range.forIn_eq_forIn_range',Std.Legacy.Range.size];simpa[tW]using this
 ·rename_i d h1 h2;split at b
  case h_2=>cases b
  rename_i s k;exact Hg (aE.ok _ _ hi) k _ _ _ rfl
def Y3(aE:cU P ty){t:TypeId}{u:TypeDesc}(d:P.underlying t=some u){q:dE}(g:lN ty t=some q){x y:V}{e f:Value}(i:aq η x e)(j:aq η y f){r b:Bool}
 (h:lu q x y=some r)(hb:Instr.sameNow u e f=some b):b=r:=by
 obtain⟨b',w',h1,rfl,_⟩:=DS (w:=default) aE g i j h;have step:aP P (Op.equal t e f) default λc _=>c=b:=by
  unfold Instr.sameNow at hb;split at hb
  ·rename_i k a k' b';split at hb
   ·rename_i l;injection hb with hb;subst hb;subst l;exact Δ (a0 d (Ha rfl (ai rfl)))
   ·cases hb
  ·injection hb with hb;subst hb;exact Δ (a0 d (ai rfl))
  ·injection hb with hb;subst hb;exact Δ (a0 d (ai rfl))
  ·cases hb
 obtain⟨c,o,h2,m⟩:=step;rw[h1]at h2;injection h2 with h2 _;rw[h2,m]
def kP(q:dE)(k:V):List (V×V×Nat)->Option (Option Nat)
 | []=>some none
 | (k',_,_)::es=>match lu q k k' with
  | some true=>some (some 0)
  | some false=>match kP q k es with
   | some (some i)=>some (some (i+1))
   | some none=>some none
   | none=>none
  | none=>none
def LK(l:List MapEntry)(j:Nat):Option Nat->Option (Nat×Value)->Prop
 | none,s=>s=none
 | some i,s=>∃e,l[i]?=some e/\s=some (j+i,e.val)
def Ox(aE:cU P ty){t:TypeId}{u:TypeDesc}(f:P.underlying t=some u){q:dE}(g:lN ty t=some q){k:V}{k':Value}(m:aq η k k'):
 ∀{es:List (V×V×Nat)} {l:List MapEntry},dJ η es l->∀{r:Option Nat},kP q k es=some r->∀(j:Nat) {s:Option (Nat×Value)},Instr.findNow u k' l j=some s->LK l j r s
 | [],[],_,r,h,j,s,hs=>by simp only[kP]at h;injection h with h;subst h;simp only[Instr.findNow]at hs;injection hs with hs;exact hs.symm
 | (k1,v1,b1)::es,e::l,he,r,h,j,s,hs=>by
  obtain⟨r1,r2,z,o⟩:=he;simp only[kP]at h;simp only[Instr.findNow]at hs;cases a:lu q k k1 with
  | none=>rw[a]at h;cases h
  | some b=>
   rw[a]at h;cases d:Instr.sameNow u k' e.key with
   | none=>rw[d]at hs;cases hs
   | some c=>
    rw[d]at hs;have:=Y3 aE f g m r1 a d;subst this;cases c with
    | true=>
     injection h with h;subst h;injection hs with hs;subst hs;exact⟨e,rfl,rfl⟩
    | false=>
     simp only at h hs;cases hf:kP q k es with
     | none=>rw[hf]at h;cases h
     | some r'=>
      rw[hf]at h;have:=Ox aE f g m o hf (j+1) hs;cases r' with
      | none=>injection h with h;subst h;exact this
      | some i=>
       injection h with h;subst h;obtain⟨p,x,y⟩:=this;exact⟨p,by simpa using x,by rw[y,j3,nF 1]⟩
 | [],_::_,he,_,_,_,_,_=>he.elim
 | _::_,[],he,_,_,_,_,_=>he.elim
def Oy(aE:cU P ty){t:TypeId}{q:dE}(c:lN ty t=some q){k:V}{k':Value}(d:aq η k k'):
 ∀{es:List (V×V×Nat)} {l:List MapEntry},dJ η es l->∀{r:Option Nat},kP q k es=some r->∀(j:Nat) (w:World),aP P (Instr.findAsking t k' l j) w λs w'=>w'=w/\LK l j r s
 | [],[],_,r,h,j,w=>by simp only[kP]at h;injection h with h;subst h;exact ai ⟨rfl,rfl⟩
 | (k1,v1,b1)::es,e::l,he,r,h,j,w=>by
  obtain⟨r1,r2,p,f⟩:=he;simp only[kP]at h;cases a:lu q k k1 with
  | none=>rw[a]at h;cases h
  | some b=>
   rw[a]at h;refine Δ ((DS aE c d r1 a).mono ?_);rintro b' w' ⟨rfl,rfl⟩;cases b' with
   | true=>
    injection h with h;subst h;exact ai ⟨rfl,e,rfl,rfl⟩
   | false=>
    simp only at h;cases hf:kP q k es with
    | none=>rw[hf]at h;cases h
    | some r'=>
     rw[hf]at h;refine(Oy aE c d f hf (j+1) w').mono ?_;rintro s u ⟨rfl,hs⟩;refine⟨rfl,?_⟩;cases r' with
     | none=>injection h with h;subst h;exact hs
     | some i=>
      injection h with h;subst h;obtain⟨g,m,o⟩:=hs;exact⟨g,by simpa using m,by rw[o,j3,nF 1]⟩
 | [],_::_,he,_,_,_,_=>he.elim
 | _::_,[],he,_,_,_,_=>he.elim
def Y4(aE:cU P ty){t:TypeId}{q:dE}(a:lN ty t=some q):∃u,P.underlying t=some u:=by
 unfold lN at a;split at a
 case h_2=>cases a
 rename_i i hi;have b:=(aE.ok _ _ hi).desc;split at a
 ·rename_i h;rw[h]at b;obtain⟨l,h,_⟩:=b;exact⟨_,h⟩
 ·rename_i h;rw[h]at b;exact⟨_,b⟩
 ·split at a
  case h_2=>cases a
  rename_i e c;generalize i.desc=d at c b;cases d<;>first | (cases c;done) | exact⟨_,b⟩
def DU(aE:cU P ty){t:TypeId}{q:dE}(a:lN ty t=some q){k:V}{k':Value}(b:aq η k k'){es:List (V×V×Nat)}{l:List MapEntry}(he:dJ η es l){r:Option Nat}
 (h:kP q k es=some r):aP P (Instr.findKey t k' l) w λs w'=>w'=w/\LK l 0 r s:=by
 obtain⟨u,c⟩:=Y4 aE a;refine Δ (a0 c ?_);cases d:Instr.findNow u k' l 0 with
 | none=>
  exact Oy aE a b he h 0 w
 | some s=>
  exact ai ⟨rfl,Ox aE c a b he h 0 d⟩
def dJ.length:∀{es:List (V×V×Nat)} {l:List MapEntry},dJ η es l->es.length=l.length
 | [],[],_=>rfl
 | (_,_,_)::es,e::l,⟨_,_,_,h⟩=>by rw[dy,dy,dJ.length h]
 | [],_::_,h=>h.elim
 | _::_,[],h=>h.elim
def dJ.get:∀{es:List (V×V×Nat)} {l:List MapEntry},dJ η es l->∀{i:Nat} {k v:V} {b:Nat},es[i]?=some (k,v,b)->∃e,l[i]?=some e/\aq η k e.key/\aq η v e.val/\e.born=b
 | [],[],_,i,k,v,b,hi=>by simp at hi
 | (k1,v1,b1)::es,e::l,⟨h1,h2,a,h⟩,i,k,v,b,hi=>by
  cases i with
  | zero=>simp at hi;obtain⟨rfl,rfl,rfl⟩:=hi;exact⟨e,by simp,h1,h2,a⟩
  | succ i=>simp at hi ⊢;exact dJ.get h hi
 | [],_::_,h,_,_,_,_,_=>h.elim
 | _::_,[],h,_,_,_,_,_=>h.elim
def dJ.append:∀{es:List (V×V×Nat)} {l:List MapEntry},dJ η es l->∀{k v:V} {e:MapEntry},aq η k e.key->aq η v e.val->dJ η (es++[(k,v,e.born)]) (l++[e])
 | [],[],_,k,v,e,h1,h2=>⟨h1,h2,rfl,trivial⟩
 | (k1,v1,b1)::es,c::l,⟨h1,h2,a,h⟩,k,v,e,g1,b=>⟨h1,h2,a,dJ.append h g1 b⟩
 | [],_::_,h,_,_,_,_,_=>h.elim
 | _::_,[],h,_,_,_,_,_=>h.elim
def dJ.set:∀{es:List (V×V×Nat)} {l:List MapEntry},dJ η es l->∀{k v:V} {k' v':Value} {i:Nat} {k0 v0:V} {b:Nat},es[i]?=some (k0,v0,b)->aq η k k'->aq η v v'->dJ η (es.set i (k,v,b)) (l.modify i λe=>{ e with key:=k',val:=v'})
 | [],[],_,_,_,_,_,i,_,_,_,hi,_,_=>by simp at hi
 | (k1,v1,b1)::es,d::l,⟨h1,h2,a,h⟩,k,v,k',v',i,k0,v0,b,hi,g1,c=>by
  cases i with
  | zero=>simp at hi;obtain⟨rfl,rfl,rfl⟩:=hi;exact⟨g1,c,a,h⟩
  | succ i=>simp at hi ⊢;exact⟨h1,h2,a,dJ.set h hi g1 c⟩
 | [],_::_,h,_,_,_,_,_,_,_,_,_,_,_=>h.elim
 | _::_,[],h,_,_,_,_,_,_,_,_,_,_,_=>h.elim
def dJ.erase:∀{es:List (V×V×Nat)} {l:List MapEntry},dJ η es l->∀(i:Nat),dJ η (es.eraseIdx i) (l.eraseIdx i)
 | [],[],_,i=>by simp[dJ]
 | (k1,v1,b1)::es,b::l,⟨h1,h2,a,h⟩,i=>by
  cases i with
  | zero=>exact h
  | succ i=>exact⟨h1,h2,a,dJ.erase h i⟩
 | [],_::_,h,_=>h.elim
 | _::_,[],h,_=>h.elim
def Oz{q:dE}{k:V}{es:List (V×V×Nat)}{r:Option V}(h:xU q k es=some r):
 (r=none/\kP q k es=some none)\/∃v i k' b,r=some v/\kP q k es=some (some i)/\es[i]?=some (k',v,b):=by
 induction es with
 | nil=>simp only[xU]at h;injection h with h;exact .inl ⟨h.symm,rfl⟩
 | cons e es ih=>
  obtain⟨k',v',b⟩:=e;simp only[xU]at h;simp only[kP];cases a:lu q k k' with
  | none=>rw[a]at h;cases h
  | some c=>
   rw[a]at h;cases c with
   | true=>injection h with h;exact .inr ⟨v',0,k',b,h.symm,rfl,rfl⟩
   | false=>
    rcases ih h with ⟨h1,h2⟩ | ⟨v,i,k2,b2,h1,h2,d⟩
    ·exact .inl ⟨h1,by simp[h2]⟩
    ·exact .inr ⟨v,i+1,k2,b2,h1,by simp[h2],by simpa using d⟩
def Y5{q:dE}{k v:V}{c:Nat}{es r:List (V×V×Nat)}{new:Bool}(h:Ab q k v c es=some (r,new)):
 (new=true/\r=es++[(k,v,c)]/\kP q k es=some none)\/∃i k' v' b a,new=false/\q=.one a/\kP q k es=some (some i)/\es[i]?=some (k',v',b)/\lu q k k'=some true/\r=es.set i (k,v,b):=by
 induction es generalizing r with
 | nil=>simp only[Ab]at h;injection h with h;injection h with h1 h2;exact .inl ⟨h2.symm,by rw[←h1];rfl,rfl⟩
 | cons e es ih=>
  obtain⟨k',v',b⟩:=e;simp only[Ab]at h;simp only[kP];cases d:lu q k k' with
  | none=>rw[d]at h;cases h
  | some c'=>
   rw[d]at h;cases c' with
   | true=>
    simp only at h;cases q with
    | agg l=>cases h
    | one a=>
     injection h with h;injection h with h1 h2;exact .inr ⟨0,k',v',b,a,h2.symm,rfl,rfl,rfl,d,h1.symm⟩
   | false=>
    simp only at h;split at h
    ·rename_i p b' he;injection h with h;injection h with h1 h2;subst h1;subst h2;rcases ih he with ⟨h1,h2,f⟩ | ⟨i,k2,g,b2,a,h1,h2,f,j,m,o⟩
     ·exact .inl ⟨h1,by rw[h2];rfl,by simp[f]⟩
     ·exact .inr ⟨i+1,k2,g,b2,a,h1,h2,by simp[f],by simpa using j,m,by rw[o];rfl⟩
    ·cases h
end ops
end
section
section ops
variable {P:Program}{ty:Ty}{W:Nat->Code->AC->Prop}{η:Env}{T:Tr V}{H H':Hp}{n n':K}{w:World}{tmps:Array Value}{v:V}
def we(d:aV W η H n w){b:K}{es:List (V×V×Nat)}{c:Nat}(h:H.get b=some (.mp es c)){L:Loc}(e:η b=some L):
 ∃a,w.heap[L.blk]?=some (.map a c)/\dJ η es a.toList:=by
 obtain⟨L',h1,h2,a,f,g⟩:=d.obj b _ h;rw[e]at h1;injection h1 with h1;subst h1;exact⟨a,f,g⟩
def Y6(aE:cU P ty)(C:aM η T tmps)(D:bD η ty.g)(G:aV W η H n w){t:TypeId}{x y:Operand}{ok:Bool}{a:A}
 (d:dc ty (.lookup t x y ok)=some a)(hs:simple a T H n=some (v,H',n')):
 eB P W η H n w (do pure (.value (←Instr.lookup t (an tmps x) (an tmps y) ok))) v H' n':=by
 simp only[dc]at d;split at d
 case h_2=>cases d
 rename_i i m k hi J M;split at d
 case h_2=>cases d
 rename_i kt e R;split at d
 case h_2=>cases d
 rename_i j hj;split at d
 case h_2=>cases d
 rename_i q E;injection d with d;subst d;have N:=(aE.ok _ _ hi).desc;rw[R]at N;refine fG (Δ (a0 N ?_));simp only[simple]at hs;have tail:∀(s:Option (Nat×Value)) (v:V),(∀i y,s=some (i,y)->aq η v (if ok then .tuple #[y,.bool true] else y))->(s=none->v=vS ok j.zeroV false)->aP P (
  let jp:=λ(x:Value×Bool)=>match x with
   | (y,o)=>(pure (if ok=true then Value.tuple #[y,.bool o] else y):Sem Value)
  match s with
  | some (_,y)=>do
   let x←pure (y,true)
   jp x
  | none=>do
   let z←zeroValue e
   let x←pure (z,false)
   jp x) w λy w'=>∃η',Trans W η H n w η' H n w'/\aq η' v y:=by
  intro s v h1 h2;cases s with
  | none=>
   rw[h2 rfl];refine Δ (pY (aE.ok _ _ hj) λz _ S _ _=>Δ (ai ?_));exact ai ⟨η,.refl G,G6 (S η)⟩
  | some p=>
   obtain⟨i,y⟩:=p;exact Δ (ai (ai ⟨η,.refl G,h1 i y rfl⟩))
 split at hs
 ·rename_i k' hm I;cases f:pP q k' with
  | false=>rw[f]at hs;cases hs
  | true=>
   rw[f]at hs;obtain⟨rfl,rfl,rfl⟩:=dB hs;have u:=bQ C D J hm;have B:=bQ C D M I;generalize an tmps x=X at u;cases u;refine Δ (ai ?_);refine Δ ((Hh aE E B f _).mono ?_);rintro _ w' rfl;have:=DU (w:=w') aE E B (es:=[]) (l:=[]) trivial (r:=none) U;refine Δ (this.mono ?_);rintro s w' ⟨rfl,hs⟩;have hs:s=none:=hs;subst hs;exact tail none _ (λ_ _ h=>by cases h) (λ_=>rfl)
 ·rename_i b k' hm I;cases f:pP q k' with
  | false=>rw[f]at hs;cases hs
  | true=>
   rw[f]at hs;simp only[cond_true]at hs;have u:=bQ C D J hm;have B:=bQ C D M I;generalize an tmps x=X at u;cases u with
   | m _ L Y=>
    split at hs
    case h_2=>cases hs
    rename_i es c hb;obtain⟨Z,g1,O⟩:=we G hb Y;have:∃r,kP q k' es=some r/\H'=H/\n'=n/\∀s,LK Z.toList 0 r s->(∀i y,s=some (i,y)->aq η v (if ok then .tuple #[y,.bool true] else y))/\(s=none->v=vS ok j.zeroV false):=by
     split at hs
     ·rename_i vv hf;obtain⟨rfl,rfl,rfl⟩:=dB hs;rcases Oz hf with ⟨h,_⟩ | ⟨v',i',k2,b2,h1,h2,h3⟩
      ·cases h
      ·injection h1 with h1;subst h1;obtain⟨e',q1,q2,q3,q4⟩:=O.get h3;refine⟨_,h2,rfl,rfl,λs hs=>?_⟩;obtain⟨e2,F,rfl⟩:=hs;rw[q1]at F;injection F with F;subst F;refine⟨λi y h=>?_,λh=>by cases h⟩;injection h with h;injection h with _ h;subst h;exact G6 q3
     ·rename_i hf;obtain⟨rfl,rfl,rfl⟩:=dB hs;rcases Oz hf with ⟨_,h⟩ | ⟨v',i',k2,b2,h1,_⟩
      ·refine⟨_,h,rfl,rfl,λs hs=>?_⟩;have hs:s=none:=hs;subst hs;exact⟨λ_ _ h=>(by cases h),λ_=>rfl⟩
      ·cases h1
     ·cases hs
    obtain⟨r,hr,rfl,rfl,Q⟩:=this;refine Δ (vW g1 (by intro _ _ _ h;cases h) (Δ (ai ?_)));refine Δ ((Hh aE E B f _).mono ?_);rintro _ w' rfl;refine Δ ((DU (w:=w') aE E B O hr).mono ?_);rintro s w' ⟨rfl,hs⟩;exact tail s _ (Q s hs).1 (Q s hs).2
 ·cases hs
def Y7{x y:V}{r:Bool}(h:cH .bool x y=some r):∃a b,x=.b a/\y=.b b/\r=(a==b):=by
 cases x<;>try (cases h;done)
 cases y<;>try (cases h;done)
 injection h with h;exact⟨_,_,rfl,rfl,h.symm⟩
def Y8{x y:V}{r:Bool}(h:cH .int x y=some r):∃k a b,x=.i k a/\y=.i k b/\r=(a==b):=by
 cases x<;>try (cases h;done)
 cases y<;>try (cases h;done)
 rename_i k a k' b;simp only[cH]at h;cases c:Nat.beq (kn k) (kn k') with
 | false=>rw[c]at h;cases h
 | true=>
  rw[c]at h;simp only[cond_true]at h;obtain rfl:=DM c;injection h with h;exact⟨_,_,_,rfl,rfl,by rw[←ye];exact h.symm⟩
def Y9{x y:V}{r:Bool}(h:cH .str x y=some r):∃l m l' a,x=.s l m/\y=.s l' a/\r=(Nat.beq l l'&&Nat.beq m a):=by
 cases x<;>try (cases h;done)
 cases y<;>try (cases h;done)
 injection h with h;exact⟨_,_,_,_,rfl,rfl,h.symm⟩
def Za{q:EK}(o:∃i:TI,i.desc.key=some q){x y:V}{f j:Value}(c:aq η x f)(g:aq η y j)(h:cH q x y=some true):f=j/\Instr.sameBits 10000 f f=true:=by
 obtain⟨i,hi⟩:=o;have:q=.bool\/q=.int\/q=.str:=by generalize i.desc=d at hi;cases d<;>first | (cases hi;done) | (injection hi with hi;subst hi;simp)
 rcases this with rfl | rfl | rfl
 ·obtain⟨a,b,rfl,rfl,e⟩:=Y7 h;cases c;cases g;have:a=b:=by cases a<;>cases b<;>simp_all
  subst this;exact⟨rfl,by simp[Instr.sameBits]⟩
 ·obtain⟨k,a,b,rfl,rfl,e⟩:=Y8 h;cases c;cases g;have:a=b:=by simpa using e.symm
  subst this;exact⟨rfl,by simp[Instr.sameBits]⟩
 ·obtain⟨l,m,l',t,rfl,rfl,e⟩:=Y9 h;cases c with
  | s _ _ c=>
  cases g;have e:=e.symm;rw[aK]at e;have p:=bX e.1;have r:=bX e.2;subst p;subst r;exact⟨rfl,by unfold Instr.sameBits;rw[Oc c c];simp⟩
def OA(aE:cU P ty)(p:aM η T tmps)(r:bD η ty.g)(u:aV W η H n w){t:TypeId}{x y z:Operand}{a:A}
 (f:dc ty (.mapUpdate t x y z)=some a)(hs:simple a T H n=some (v,H',n')):
 eB P W η H n w (do Instr.mapUpdate t (an tmps x) (an tmps y) (an tmps z);pure .skip) v H' n':=by
 simp only[dc]at f;split at f
 case h_2=>cases f
 rename_i i m k z' hi M N O;split at f
 case h_2=>cases f
 rename_i kt e Q;split at f
 case h_2=>cases f
 rename_i q d;injection f with f;subst f;have E:=(aE.ok _ _ hi).desc;rw[Q]at E;simp only[simple]at hs;split at hs
 case h_2=>cases hs
 rename_i b k' v' hm R hv;cases B:pP q k' with
 | false=>rw[B]at hs;cases hs
 | true=>
  rw[B]at hs;simp only[cond_true]at hs;have F:=bQ p r M hm;have j:=bQ p r N R;have G:=bQ p r O hv;generalize an tmps x=x' at F;cases F with
  | m _ L C=>
   split at hs
   case h_2=>cases hs
   rename_i es c hb;split at hs
   case h_2=>cases hs
   rename_i es2 new S;obtain⟨rfl,rfl,rfl⟩:=dB hs;obtain⟨U,g1,l⟩:=we u hb C;refine XL (Δ (a0 E ?_));refine Δ (vW g1 (by intro _ _ _ h;cases h) ?_);refine Δ ((Hh aE d j B _).mono ?_);rintro _ w' rfl;rcases Y5 S with ⟨rfl,rfl,D⟩ | ⟨i,k0,v0,b0,X,rfl,rfl,D,I,Y,rfl⟩
   ·refine Δ ((DU (w:=w') aE d j l D).mono ?_);rintro s w' ⟨rfl,hs⟩;have hs:s=none:=hs;subst hs;refine GU g1 (by intro _ _ _ h;cases h) ⟨η,?_⟩;refine Trans.write (o':=.mp _ _) u hb rfl C ⟨_,rfl,?_⟩ rfl;have:=l.append (e:={ key:=an tmps y,val:=an tmps z,born:=c}) j G;simpa using this
   ·refine Δ ((DU (w:=w') aE d j l D).mono ?_);rintro s w' ⟨rfl,hs⟩;obtain⟨e',J,rfl⟩:=hs;obtain⟨e2,o,Z,p3,p4⟩:=l.get I;rw[J]at o;injection o with o;subst o;have CA:∃i:TI,i.desc.key=some X:=by
     unfold lN at d;split at d
     case h_2=>cases d
     rename_i i0 G8;split at d
     ·rename_i fs pl _;cases pl with
      | false=>cases d
      | true=>simp only[cond_true]at d;split at d<;>cases d
     ·split at d
      ·split at d<;>cases d
      ·cases d
     ·split at d
      ·rename_i q2 LL;injection d with d;injection d with d;subst d;exact⟨i0,LL⟩
      ·cases d
    obtain⟨r1,r2⟩:=Za CA j Z Y;have:(U[0+i]?.map (·.key)).getD (an tmps y)=an tmps y:=by rw[eW,←lJ,J];exact r1.symm
    refine Δ ?_;rw[this];unfold Instr.keyThatStays;rw[ao r2];refine ai (GU g1 (by intro _ _ _ h;cases h) ⟨η,?_⟩);refine Trans.write (o':=.mp _ _) u hb rfl C ⟨_,rfl,?_⟩ rfl;have:=l.set I j G;rw[eW,Array.toList_modify];exact this
end ops
end
section
section trans
variable {W:Nat->Code->AC->Prop}{η:Env}{H:Hp}{n:K}{w:World}
def Trans.less(h:aV W η H n w)(k:K):Trans W η H n w η (H.put none k) n w:=
 have hs:∀k' o,(H.put none k).get k'=some o->H.get k'=some o:=λk' o a=>by
  rw[Tr.eL]at a;split at a
  ·cases a
  ·exact a
 ⟨.refl _,φ _,h.less hs,.refl _ _,λm b ⟨k',o,L,h1,h2,c,d⟩=>.inl ⟨k',o,L,hs _ _ h1,h2,c,d⟩,λ_ _=>rfl⟩
def Trans.move(h:aV W η H n w){k:K}{o o':O}{L L':Loc}{ob:Obj}(j:H.get k=some o)(hm:o.mut=true)(d:η k=some L)(u:L'.blk=L.blk)
 (G:∀η',η.le η'->fR W η' o' L' (some ob)){w':World}(I:w'={ w with heap:=w.heap.setIfInBounds L.blk ob})(hl:o.Al=false:=by rfl):
 ∃η',Trans W η H n w η' ((H.put none k).put (some o') n) n.succ w'/\η' n=some L':=by
 subst I;obtain⟨L0,f,C,_⟩:=h.obj k o j;rw[d]at f;injection f with f;subst f;have D:η n=none:=h.free n (φ _);have S:k≠n:=λe=>by rw[e,D]at d;cases d
 let η':Env:=λq=>if q=n then some L' else η q
 have hle:η.le η':=λq M a=>by
  show(if q=n then _ else η q)=_
  rw[Θ (λe=>by rw[e,D]at a;cases a)];exact a
 have x:η' n=some L':=ao rfl;have hold:∀q,q≠n->η' q=η q:=λq a=>Θ a;have get:∀q o1,((H.put none k).put (some o') n).get q=some o1->(q=n/\o1=o')\/(q≠n/\q≠k/\H.get q=some o1):=by
  intro q o1 a;rw[Tr.eL]at a;split at a
  ·rename_i e;injection a with a;exact .inl ⟨e,a.symm⟩
  ·rename_i e;rw[Tr.eL]at a;split at a
   ·cases a
   ·rename_i J;exact .inr ⟨e,J,a⟩
 refine⟨η',⟨hle,by rw[K.eF];omega,⟨?_,?_,?_⟩,⟨rfl,rfl,rfl,by simp,λb hb N=>?_,λb r hb=>?_⟩,?_,λq a=>hold q λe=>by rw[e]at a;omega⟩,x⟩
 ·intro q o1 a;rcases get q o1 a with ⟨rfl,rfl⟩ | ⟨h1,h2,E⟩
  ·exact⟨L',x,by rw[u];simpa using C,by rw[u];simpa[fx,C]using G η' hle⟩
  ·obtain⟨M,g1,Q,R⟩:=h.obj q o1 E;refine⟨M,by rw[hold q h1];exact g1,by simpa using Q,?_⟩;have p:=h.sep k q o o1 L M (λe=>h2 e.symm) j hm E d g1;rw[fx,Θ p];exact R.mono hle
 ·intro y s o1 o2 M1 M2 p h1 z h2 l g;rcases get y o1 h1 with ⟨rfl,rfl⟩ | ⟨B,F,A⟩
  ·rcases get s o2 h2 with ⟨rfl,rfl⟩ | ⟨b1,b2,b3⟩
   ·exact absurd rfl p
   ·rw[x]at l;injection l with l;subst l;rw[hold s b1]at g;rw[u];exact h.sep k s o o2 L M2 (λe=>b2 e.symm) j hm b3 d g
  ·rw[hold y B]at l;rcases get s o2 h2 with ⟨rfl,rfl⟩ | ⟨b1,b2,b3⟩
   ·rw[x]at g;injection g with g;subst g;rw[u];exact h.sep y k o1 o M1 L F A z j l d
   ·rw[hold s b1]at g;exact h.sep y s o1 o2 M1 M2 p A z b3 l g
 ·intro q a;rw[K.eF]at a;have:q≠n:=λe=>by rw[e]at a;omega
  rw[hold q this];exact h.free q (by omega)
 ·rw[fx,Θ];intro e;exact N ⟨k,o,L,j,λ_=>hm,d,e⟩
 ·obtain⟨L0,f,_,i⟩:=h.obj k o j;rw[d]at f;injection f with f;subst f;have p:L.blk≠b:=by
   intro e;rw[e,hb]at i;cases o with
   | lp _ _ _ _ _ _=>cases hl
   | c _ _ _=>obtain⟨_,_,h1,_⟩:=i;cases h1
   | r _=>obtain⟨_,_,_,h1,_⟩:=i;cases h1
   | mp _ _=>obtain⟨_,h1,_⟩:=i;cases h1
   | mi _ _=>obtain⟨_,_,_,h1⟩:=i;cases h1
   | me _ _ _=>obtain⟨_,_,_,_,_,h1,_⟩:=i;cases h1
   | it _ _ _=>obtain⟨_,h1,_⟩:=i;cases h1
   | b _ _ _=>obtain⟨_,_,_,h1,_⟩:=i;cases h1
  exact⟨r,by show(w.heap.setIfInBounds L.blk ob)[b]?=_;rw[fx,Θ p];exact hb⟩
 ·rintro m b ⟨q,o1,M,a,z,t,hb⟩;rcases get q o1 a with ⟨rfl,rfl⟩ | ⟨B,F,A⟩
  ·rw[x]at t;injection t with t;subst t;exact .inl ⟨k,o,L,j,λ_=>hm,d,by rw[←hb,u]⟩
  ·rw[hold q B]at t;exact .inl ⟨q,o1,M,A,z,t,hb⟩
end trans
def Zb(bM c:Nat)(h:¬ bM<=c):Builtin.nextslicecap bM c<=2*bM+1000:=by
 unfold Builtin.nextslicecap;split
 ·omega
 ·split
  ·omega
  ·have:∀(r c:Nat),c<=2*bM+1000->Builtin.growBy bM r c<=2*bM+1000:=by
    intro r
    induction r with
    | zero=>intro c a;exact a
    | succ r ih=>
     intro c a;unfold Builtin.growBy;split
     ·exact a
     ·exact ih _ (by omega)
   exact this _ _ (by omega)
section ops
variable {P:Program}{ty:Ty}{W:Nat->Code->AC->Prop}{η:Env}{T:Tr V}{H H':Hp}{n n':K}{w:World}{tmps:Array Value}{v:V}
def Zc(aE:cU P ty){t:TypeId}{i:TI}(hi:ty t=some i)(h:i.desc≠.other):∃d,P.underlying t=some d/\(d matches .int _)=(match i.desc with | .int _=>true | _=>false):=by have a:=(aE.ok _ _ hi).desc;generalize i.desc=d at h a;cases d<;>first | exact absurd rfl h | exact⟨_,a,rfl⟩ | (obtain⟨_,h1,_⟩:=a;exact⟨_,h1,rfl⟩) | (obtain⟨_,_,_,h1⟩:=a;exact⟨_,h1,rfl⟩) | (obtain⟨_,h1⟩:=a;exact⟨_,h1,rfl⟩)
def OB{e z bytes m:Nat}{s:V}{new:List V}(h:r7 H n e z bytes s m new=some (v,H',n')):
 (s.len+m)*bytes<=1000000000/\bytes<=100000/\s.len+m<=1000000000/\((s=.ns/\m=0/\v=.ns/\H'=H/\n'=n)\/
  (s=.ns/\m≠0/\js H n (.c new e 0) (.su n 0 m z)=some (v,H',n'))\/
  (∃b o l c,s=.sl b o l c/\l+m<=c/\m=0/\v=s/\H'=H/\n'=n)\/
  (∃b o l c,s=.sl b o l c/\l+m<=c/\m≠0/\fB H b (o+l*z) new=some H'/\v=.sl b o (l+m) c/\n'=n)\/
  (∃b o l c bu k,s=.sl b o l c/\¬ l+m<=c/\elems H z s=some (k,bu)/\js H n (.c (bu++new) e 0) (.su n 0 (l+m) z)=some (v,H',n'))\/
  (∃b o l a,s=.su b o l a/\m=0/\v=s/\H'=H/\n'=n)\/
  (∃b o l r fz bu,s=.su b o l z/\m≠0/\H.get b=some (.c r e fz)/\fz<=o+l*z/\aD new=true/\ch r o (l*z)=some bu/\js (H.put none b) n (.c (bu++new) e (fz - o)) (.su n 0 (l+m) z)=some (v,H',n'))):=by
 unfold r7 at h;cases hb:(Nat.ble (Nat.mul (Nat.add s.len m) bytes) 1000000000&&Nat.ble bytes 100000&&Nat.ble (Nat.add s.len m) 1000000000) with
 | false=>rw[hb]at h;cases h
 | true=>
  rw[hb]at h;simp only[Bool.not_true,cond_false]at h;simp only[iK,aK,aW]at hb;refine⟨hb.1.1,hb.1.2,hb.2,?_⟩;split at h
  ·cases hm:Nat.beq m 0 with
   | true=>
    rw[hm]at h;obtain⟨rfl,rfl,rfl⟩:=dB h;exact .inl ⟨rfl,bX hm,rfl,rfl,rfl⟩
   | false=>
    rw[hm]at h;exact .inr (.inl ⟨rfl,(λe=>by rw[e]at hm;cases hm),h⟩)
  ·rename_i b o l c;cases hl:Nat.ble (Nat.add l m) c with
   | true=>
    rw[hl]at h;have hl:l+m<=c:=kH hl;cases hm:Nat.beq m 0 with
    | true=>
     rw[hm]at h;obtain⟨rfl,rfl,rfl⟩:=dB h;exact .inr (.inr (.inl ⟨b,o,l,c,rfl,hl,bX hm,rfl,rfl,rfl⟩))
    | false=>
     rw[hm]at h;simp only[cond_true,cond_false]at h;split at h
     ·rename_i H1 f;obtain⟨rfl,rfl,rfl⟩:=dB h;exact .inr (.inr (.inr (.inl ⟨b,o,l,c,rfl,hl,(λe=>by rw[e]at hm;cases hm),f,rfl,rfl⟩)))
     ·cases h
   | false=>
    rw[hl]at h;simp only[cond_false]at h;split at h
    ·rename_i k bu he;exact .inr (.inr (.inr (.inr (.inl ⟨b,o,l,c,bu,k,rfl,λe=>by rw[iK]at hl;simp at hl;exact absurd e (by omega),he,h⟩))))
    ·cases h
  ·rename_i b o l a;cases hm:Nat.beq m 0 with
   | true=>
    rw[hm]at h;obtain⟨rfl,rfl,rfl⟩:=dB h;exact .inr (.inr (.inr (.inr (.inr (.inl ⟨b,o,l,a,rfl,bX hm,rfl,rfl,rfl⟩)))))
   | false=>
    rw[hm]at h;simp only[cond_false]at h;split at h
    ·rename_i r g fz i;cases d:(Nat.beq e g&&Nat.beq z a&&Nat.ble fz (Nat.add o (Nat.mul l z))&&aD new) with
     | false=>rw[d]at h;cases h
     | true=>
      rw[d]at h;simp only[cond_true]at h;simp only[iK,cB,aK,aW]at d;obtain⟨⟨⟨j,p⟩,q⟩,t⟩:=d;subst j;subst p;split at h
      ·rename_i bu u;exact .inr (.inr (.inr (.inr (.inr (.inr ⟨b,o,l,r,fz,bu,rfl,(λe=>by rw[e]at hm;cases hm),i,q,t,u,h⟩)))))
      ·cases h
    ·cases h
  ·cases h
def Zd(aE:cU P ty)(hT:aM η T tmps)(hG:bD η ty.g)(f:aV W η H n w){t u:TypeId}{i j k:TI}{x y:Operand}{s a:au}{e:Nat}{rt:TypeId}{ts:Array TypeId}
 (kQ:ts[0]?=some t)(Ze:ts[1]?=some u)(hi:ty t=some i)(hd:i.desc=.slice e)(hj:ty u=some j)(hjd:j.desc≠.other)(Q:ty e=some k)(hx:br ty x=some s)(hy:br ty y=some a)
 (hs:simple (.app e k.size k.bytes k.zero (match j.desc with | .int _=>true | _=>false) s a) T H n=some (v,H',n')):
 aP P (Builtin.append_ ts rt #[an tmps x,an tmps y]) w λy w'=>∃η',Trans W η H n w η' H' n' w'/\aq η' v y:=by
 have cS:=(aE.ok _ _ hi).desc;rw[hd]at cS;obtain⟨ud,hud,R⟩:=Zc aE hj hjd;generalize hzz:(match j.desc with | .int _=>true | _=>false)=ue at hs R
 simp only[simple]at hs;split at hs
 case h_2=>cases hs
 rename_i J xv VL Hb;have p:=bQ hT hG hx VL;have S:=bQ hT hG hy Hb;generalize an tmps x=s' at p;generalize an tmps y=x' at S;obtain⟨ti,zv,h1,h2,h3,h4,h5,h6,h7,h8,h9⟩:=(aE.ok _ _ Q).info;have hm:∃m new,r7 H n e k.size k.bytes J m new=some (v,H',n')/\new.length=m*k.size/\(∀d,aP P (if (!ue)=true then Builtin.firstCells k.size m x' else if m*k.size=0 then pure #[] else do pure (Builtin.zeroCells (←zeroValue e).cells m)) { w with drawn:=d}
  λr w'=>aN η new r.toList/\w'={ w with drawn:=d})/\(ue=false->Builtin.lenOf x'=pure m)/\(ue=true->∃k',x'=.int k' (Int.ofNat m)):=by
  cases ue with
  | true=>
   simp only[cond_true]at hs;split at hs
   case h_2=>cases hs
   rename_i k' m;cases S;refine⟨m,_,hs,by rw[sj,h8],λd=>?_,(λh=>by cases h),λ_=>⟨_,rfl⟩⟩;simp only[Bool.not_true,vI,if_false];by_cases h0:m*k.size=0
   ·rw[ao h0];refine ai ⟨?_,rfl⟩;have:dL k.zero m=[]:=by rw[←nD,sj,h8,h0]
    rw[this];exact .nil
   ·rw[Θ h0];refine Δ (pY (aE.ok _ _ Q) λz R _ _ dK=>ai ⟨?_,rfl⟩);exact DL (R η) m _ rfl
  | false=>
   simp only[cond_false]at hs;split at hs
   case h_2=>cases hs
   rename_i m new he;obtain⟨G,X,q3⟩:=uv (P:=P) f S he;refine⟨m,new,hs,G,λd=>?_,λ_=>X,λh=>by cases h⟩;simp only[Bool.not_false,if_true];have:=(uv (P:=P) (f.drawn d) S he).2.2 m (φ _);rw[kI (by omega)]at this;exact this
 obtain⟨m,new,hap,hlen,Y,qD,uV⟩:=hm;obtain⟨b1,b2,b3,ja⟩:=OB hap;have ie:∃base fe B,s'=.slice base fe B/\fe=J.len:=by
  rcases ja with ⟨rfl,_⟩ | ⟨rfl,_⟩ | ⟨_,_,_,_,rfl,_⟩ | ⟨_,_,_,_,rfl,_⟩ | ⟨_,_,_,_,_,_,rfl,_⟩ | ⟨_,_,_,_,rfl,_⟩ | ⟨_,_,_,_,_,_,rfl,_⟩<;>
   (cases p<;>exact⟨_,_,_,rfl,rfl⟩)
 obtain⟨base,fe,B,rfl,LM⟩:=ie;unfold Builtin.append_;simp (config:={ zeta:=false}) only[kQ,Ze,zS,vJ,pK];refine Δ (a0 cS ?_);refine Δ (kM (aE.ok _ _ Q) ?_);refine Δ (a0 hud ?_);refine Δ (aP.mono (Φ:=λz w'=>z=ue/\w'=w) (ai ⟨R,rfl⟩) ?_);rintro z w' ⟨e1,e2⟩;rw[e2];clear e2 w';subst e1;dsimp (config:={ zeta:=false}) only
 extract_lets jp0 jp
 have i64:IntKind.i64.max=9223372036854775807:=rfl;have VK:(2:Int) ^ 48=281474976710656:=rfl;have Zf:(2:Nat) ^ 48=281474976710656:=rfl
 suffices Zg:aP P (jp m) w λy w'=>∃η',Trans W η H n w η' H' n' w'/\aq η' v y by
  cases z with
  | true=>
   obtain⟨k',rfl⟩:=uV rfl;refine Δ (Δ (ai (ai ?_)));have e1:IntKind.i64.wrap (Int.ofNat m)=m:=wrap_i64 (pL _) (by show((m:Nat):Int)<=_;omega)
   extract_lets l j1 j2
   have hl:l=(m:Int):=e1;rw[Θ (by rw[hl];omega)];show aP P (j2 ()) w _;refine Δ (uu h1 ?_);have eH:¬ l*(ti.bytes:Int)>2 ^ 48:=by rw[hl,h3,VK,←Int.natCast_mul];have:m*k.bytes<=(J.len+m)*k.bytes:=fJ _ (by omega);omega
   rw[Θ eH];refine Δ (ai ?_);rw[hl];exact Zg
  | false=>
   rw[qD rfl];exact Zg
 simp (config:={ zeta:=false}) only[jp]
 extract_lets+onlyGivenNames app bM
 have Y:∀d,aP P app { w with drawn:=d} λr w'=>aN η new r.toList/\w'={ w with drawn:=d}:=Y;have hA0:aP P app w λr w'=>aN η new r.toList/\w'=w:=Y w.drawn;have C:bM=J.len+m:=by show fe+m=_;rw[LM]
 clear_value app bM
 by_cases hn:bM<=B
 ·rw[ao hn];refine Δ (hA0.mono ?_);rintro r w' ⟨Z,hw⟩;rw[hw];have gD:r.toList.length=m*k.size:=by rw[←Z.length,hlen]
  rcases ja with ⟨rfl,rfl,rfl,rfl,rfl⟩ | ⟨rfl,M,_⟩ | ⟨b,o,l,c,rfl,N,rfl,rfl,rfl,rfl⟩ | ⟨b,o,l,c,rfl,N,M,bR,rfl,rfl⟩ | ⟨b,o,l,c,bu,q,rfl,N,_⟩ | ⟨b,o,l,z',rfl,rfl,rfl,rfl,rfl⟩ | ⟨b,o,l,rr,fz,bu,rfl,M,hb,G0,fa,hold,F⟩
  ·cases p;have:bM=0:=by simpa[V.len]using C
   rw[this];exact ai ⟨η,.refl f,.ns⟩
  ·cases p;have:bM=m:=by simpa[V.len]using C
   omega
  ·cases p with
   | sl _ _ _ _ L D=>
    have h0:r.toList=[]:=by rw[←nD,gD];simp
    rw[h0];have:bM=fe:=by simpa[V.len]using C
    rw[this];exact Δ (ai (ai ⟨η,.refl f,.sl _ _ _ _ L D⟩))
  ·cases p with
   | sl _ _ _ _ L D=>
    obtain⟨L',g1,g2⟩:=DJ (P:=P) f Z bR;rw[D]at g1;injection g1 with g1;subst g1;have E:bM=fe+m:=by simpa[V.len]using C
    rw[E];simp (config:={ zeta:=false}) only[pX];rw[j3 L.off];refine Δ (g2.mono ?_);intro _ w' tK;exact ai ⟨η,tK,.sl _ _ _ _ L D⟩
  ·cases p;have:bM=fe+m:=by simpa[V.len]using C
   omega
  ·have h0:r.toList=[]:=by rw[←nD,gD];simp
   have E:bM=l:=by simpa[V.len]using C
   rw[h0,E];cases p with
   | su _ _ _ _ L c D G X=>exact Δ (ai (ai ⟨η,.refl f,.su _ _ _ _ L _ D G X⟩))
   | se _ _ _ A L D=>exact Δ (ai (ai ⟨η,.refl f,.se _ _ _ A L D⟩))
  ·have E:bM=l+m:=by simpa[V.len]using C
   cases p with
   | se _ _ _ A L D=>omega
   | su _ _ _ _ L c D G X=>
    obtain⟨rfl,rfl,rfl⟩:=nM F;obtain⟨L',g1,g2,cs,fr,g3,g4,g5,g6,g7⟩:=f.obj b _ hb;rw[D]at g1;injection g1 with g1;subst g1;have arj:o+(fe+m)*k.size<=L.room:=by have:(fe+m)*k.size<=B*k.size:=fJ _ (by omega);omega
    have ark:(fe+m)*k.size=fe*k.size+m*k.size:=fM ..;obtain⟨Hk,arl⟩:=mJ hold;simp (config:={ zeta:=false}) only[pX];have bf:∀y∈r.toList,y.pV=true:=Z.one fa;refine Δ ((GX r.toList 0 g3 (by rw[gD];omega) (by omega) bf).mono ?_);rintro _ w2 qM;obtain⟨η',t1,t2⟩:=Trans.move (w':=w2) (L':=⟨L.blk,L.off+o,L.room - o⟩) (o':=.c (bu++new) e (fz - o)) f hb rfl D rfl (λη' hle=>by
     refine⟨_,fr,rfl,by rw[DG];show L.off+o+(L.room - o)=_;omega,?_,?_,?_⟩
     ·show(bu++new).length<=L.room - o;rw[gp,hlen,Hk,ot,qZ];omega
     ·intro i v hi;show ∃y,(kL cs (L.off+o+fe*k.size+0) r.toList)[L.off+o+i]?=some y/\aq η' v y;rw[DH _ _ _ (by rw[gD];omega)];have qI:bu.length=fe*k.size:=by rw[Hk,ot,qZ];omega
      by_cases VE:i<bu.length
      ·rw[qW VE]at hi;rw[Θ (by omega)];rw[Hk,List.getElem?_take]at hi;rw[ao (by omega),vL]at hi;obtain⟨y,I,O⟩:=g6 (o+i) v hi;exact⟨y,by rw[j3];exact I,O.mono hle⟩
      ·rw[tU (by omega)]at hi;obtain⟨y,I,O⟩:=Z.get hi;have τ:=(mC.1 I).1;rw[ao (by omega)];exact⟨y,by rw[←I];congr 1;omega,O.mono hle⟩
     ·rcases g7 with g7 | g7
      ·exact .inl g7
      ·right;show fr.2<=L.off+o+(fz - o);omega) qM
    refine ai ⟨η',t1,?_⟩;rw[E];exact aq.su n 0 (fe+m) k.size _ B t2 (by omega) (by show 0+B*k.size<=L.room - o;omega)
 ·rw[Θ hn];have grow:∀(H0:Hp) (bu:List V) (fz:Nat),aV W η H0 n w->Trans W η H n w η H0 n w->(∀d,aP P (Builtin.firstCells k.size fe (.slice base fe B)) { w with drawn:=d} λr w'=>aN η bu r.toList/\w'={ w with drawn:=d})->js H0 n (.c (bu++new) e fz) (.su n 0 bM k.size)=some (v,H',n')->bu.length=fe*k.size->aP P (do
   let Hl←choose (.appendCap bM B e)
   askRoom (Hl*(←typeInfo e).bytes)
   let bu←Builtin.firstCells k.size fe (.slice base fe B)
   let new←app
   let rest:=Builtin.zeroCells (←zeroValue e).cells (Hl - bM)
   pure (Value.slice (some (←newRow e (bu++new++rest))) bM Hl)) w λy w'=>∃η',Trans W η H n w η' H' n' w'/\aq η' v y:=by
   intro H0 bu fz FQ wg hold F Zh;obtain⟨rfl,rfl,rfl⟩:=nM F;refine Δ (Nm (λt d _=>?_) (λh=>by cases h));generalize qb:(Question.appendCap bM B e).cut t=cap;have Ax:bM<=cap:=by rw[←qb];simp only[Question.cut];omega
   refine Δ (uu h1 (Δ (Ov ?_)));refine Δ ((hold d).mono ?_);rintro r1 w1 ⟨OC,AA⟩;rw[AA];refine Δ ((Y d).mono ?_);rintro r2 w2 ⟨OD,qM⟩;rw[qM];refine Δ (pY (aE.ok _ _ Q) λz _ _ _ dK=>?_);refine Δ (Δ (sd (ai (ai ?_))));have Zi:(Builtin.zeroCells z.cells (cap - bM)).size=(cap - bM)*k.size:=by simp[Builtin.zeroCells,dK]
   have s1:r1.size=fe*k.size:=by rw[←xN,←OC.length,Zh]
   have s2:r2.size=m*k.size:=by rw[←xN,←OD.length,hlen]
   have OE:aN η (bu++new) (r1++r2).toList:=by rw[Array.toList_append];exact OC.append OD
   obtain⟨η',k1,k2⟩:=Trans.new (room:=(r1++r2++Builtin.zeroCells z.cells (cap - bM)).size) (o:=.c (bu++new) e fz) (ob:=.cells (r1++r2++Builtin.zeroCells z.cells (cap - bM)) e) (FQ.drawn d) (λη' hle=>
    ⟨_,(0,0),rfl,by simp,by rw[vN];show(bu++new).length<=_;rw[OE.length];simp,λi v hi=>by obtain⟨y,I,O⟩:=OE.get hi;refine⟨y,?_,O.mono hle⟩;have τ:=(mC.1 I).1;show(r1++r2++Builtin.zeroCells z.cells (cap - bM))[0+i]?=_;rw[eW,Array.getElem?_append_left (by simpa using τ),←lJ];exact I,.inl U⟩)
   refine⟨η',?_,?_⟩
   ·exact(wg.drawn d).trans k1
   ·refine aq.su n 0 bM k.size _ cap k2 Ax ?_;show 0+cap*k.size<=(r1++r2++Builtin.zeroCells z.cells (cap - bM)).size;rw[vN,vN,s1,s2,Zi,←fM,←fM,eW];apply fJ;omega
  refine Δ (uu h1 ?_);have Zj:¬ ((bM:Int)>IntKind.i64.max/\(z=true\/ti.bytes=0)):=by rw[i64];omega
  rw[Θ Zj];refine Δ (uu h1 ?_);have qb:¬ (Builtin.nextslicecap bM B*ti.bytes>2 ^ 48):=by
   rw[h3,Zf];have g1:=Zb bM B hn;have g2:Builtin.nextslicecap bM B*k.bytes<=(2*bM+1000)*k.bytes:=fJ _ g1;have g3:(2*bM+1000)*k.bytes=2*((J.len+m)*k.bytes)+1000*k.bytes:=by rw[C,fM,gn]
   omega
  rw[Θ qb];have first:∀(bu:List V) (q:Nat) (H0:Hp) (s0:V),aV W η H0 n w->aq η s0 (.slice base fe B)->elems H0 k.size s0=some (q,bu)->q=fe->bu.length=fe*k.size/\∀d,aP P (Builtin.firstCells k.size fe (.slice base fe B)) { w with drawn:=d} λr w'=>aN η bu r.toList/\w'={ w with drawn:=d}:=by intro bu q H0 s0 FQ AB he hq;obtain⟨G,_,_⟩:=uv (P:=P) FQ AB he;refine⟨by rw[G,hq],λd=>?_⟩;have:=(uv (P:=P) (FQ.drawn d) AB he).2.2 fe (by omega);rw[kI (by rw[G,hq];exact φ _)]at this;exact this
  rcases ja with ⟨rfl,rfl,rfl,rfl,rfl⟩ | ⟨rfl,M,F⟩ | ⟨b,o,l,c,rfl,N,rfl,rfl,rfl,rfl⟩ | ⟨b,o,l,c,rfl,N,M,bR,rfl,rfl⟩ | ⟨b,o,l,c,bu,q,rfl,N,rP,F⟩ | ⟨b,o,l,z',rfl,rfl,rfl,rfl,rfl⟩ | ⟨b,o,l,rr,fz,bu,rfl,M,hb,G0,fa,hold,F⟩
  ·cases p;have:bM=0:=by simpa[V.len]using C
   omega
  ·have E:bM=m:=by simpa[V.len]using C
   obtain⟨f1,f2⟩:=first [] 0 H .ns f p rfl (by cases p;rfl)
   exact grow H [] 0 f (.refl f) f2 (by rw[E];exact F) f1
  ·cases p;have:bM=fe:=by simpa[V.len]using C
   omega
  ·cases p;have:bM=fe+m:=by simpa[V.len]using C
   omega
  ·have E:bM=l+m:=by simpa[V.len]using C
   have hq:q=fe:=by have:=(uv (P:=P) f p rP).2.1;have:=congrArg (λs:Sem Nat=>s.run P w) this;simpa[Builtin.lenOf,Sem.run,pure,eq_comm]using this
   obtain⟨f1,f2⟩:=first bu q H _ f p rP hq
   exact grow H bu 0 f (.refl f) f2 (by rw[E];exact F) f1
  ·have E:bM=l:=by simpa[V.len]using C
   cases p<;>omega
  ·have E:bM=l+m:=by simpa[V.len]using C
   have rP:elems H k.size (.su b o l k.size)=some (l,bu):=by
    unfold elems;have:Nat.beq k.size k.size=true:=by simp
    simp only[this,cond_true];cases h0:Nat.beq l 0 with
    | true=>
     have:=bX h0;subst this;have Zk:=(mJ hold).1;have:bu=[]:=by rw[Zk];simp
     rw[this];rfl
    | false=>
     have:rowAt H b=some rr:=by unfold rowAt;rw[hb];rfl
     simp only[cond_false,this];have hold:ch rr o (Nat.mul l k.size)=some bu:=hold;rw[hold]
   obtain⟨f1,f2⟩:=first bu l H _ f p rP (by rw[LM];rfl)
   exact grow (H.put none b) bu (fz - o) (Trans.less f b).rep (Trans.less f b) f2 (by rw[E];exact F) f1
end ops
end
section
section ops
variable {P:Program}{ty:Ty}{W:Nat->Code->AC->Prop}{η:Env}{T:Tr V}{H H':Hp}{n n':K}{w:World}{tmps:Array Value}{v:V}
def Zl(aE:cU P ty)(B:aM η T tmps)(C:bD η ty.g)(f:aV W η H n w){t:TypeId}{i k:TI}{x y:Operand}{s a:au}{e:Nat}{rt:TypeId}{ts:Array TypeId}
 (I:ts[0]?=some t)(hi:ty t=some i)(J:i.desc=.slice e)(M:ty e=some k)(N:br ty x=some s)(O:br ty y=some a)
 (hs:simple (.xn k.size s a) T H n=some (v,H',n')):
 aP P (Builtin.copy_ ts rt #[an tmps x,an tmps y]) w λy w'=>∃η',Trans W η H n w η' H' n' w'/\aq η' v y:=by
 have D:=(aE.ok _ _ hi).desc;rw[J]at D;simp only[simple]at hs;split at hs
 case h_1=>cases hs
 case h_3=>cases hs
 rename_i dv xv Q R S;have j:=bQ B C N R;have E:=bQ B C O S;generalize an tmps x=d' at j;generalize an tmps y=x' at E;split at hs
 case h_2=>cases hs
 rename_i ld dvs d vs F U;obtain⟨q1,X,q3⟩:=uv (P:=P) f j F;obtain⟨p1,Y,Z⟩:=uv (P:=P) f E U;generalize hm:(bif Nat.ble d ld then d else ld)=m at hs
 have u:m=Nat.min d ld:=by
  rw[←hm,iK];show _=min d ld;by_cases h:d<=ld
  ·rw[nE h];simp[rW h]
  ·rw[eK h];simp[Nat.min_eq_right (Nat.le_of_not_le h)]
 have qC:m<=d:=by rw[u];exact Nat.min_le_left ..
 have FR:m<=ld:=by rw[u];exact Nat.min_le_right ..
 have ie:∃base c,d'=.slice base ld c:=by
  have kR:∃base l c,d'=.slice base l c:=by
   cases j<;>first
    | exact⟨_,_,_,rfl⟩
    | (cases F;done)
    | (exact absurd rfl (Q _ _))
  obtain⟨base,l,c,rfl⟩:=kR;have:=congrArg (λs:Sem Nat=>s.run P w) X;have:l=ld:=by simpa[Builtin.lenOf,Sem.run,pure]using this
  exact⟨base,c,by rw[this]⟩
 obtain⟨base,c,rfl⟩:=ie;unfold Builtin.copy_;simp (config:={ zeta:=false}) only[I,zS,vJ,pK];refine Δ (a0 D ?_);rw[Y];refine Δ (ai ?_);rw[←u];refine Δ (kM (aE.ok _ _ M) ?_);refine Δ ((Z m qC).mono ?_);rintro r w' ⟨G,hw⟩;rw[hw];cases h0:Nat.beq m 0 with
 | true=>
  have h0:=bX h0;subst h0;obtain⟨rfl,rfl,rfl⟩:=dB hs;have AB:r.toList=[]:=by rw[←nD,←G.length];simp
  rw[AB];cases base with
  | none=>exact ai ⟨η,.refl f,.i _ _⟩
  | some A=>exact Δ (ai (ai ⟨η,.refl f,.i _ _⟩))
 | false=>
  rw[h0]at hs;simp only[cond_false]at hs;have aG:m≠0:=λe=>by rw[e]at h0;cases h0
  have fin:∀(b:K) (o:Nat) (L:Loc) (p:List V),base=some ⟨L.blk,L.off+o,none⟩->η b=some L->takeN (Nat.mul m k.size) vs=some p->(match fB H b o p with | some H=>(some (.i .i64 (Int.ofNat m),H,n):fo) | none=>none)=some (v,H',n')->aP P (do
   match base with
   | some a=>storeCells a r.toList
   | _=>pure ()
   pure (goInt m)) w λy w'=>∃η',Trans W η H n w η' H' n' w'/\aq η' v y:=by
   intro b o L p hb q ht z;split at z
   ·rename_i H1 AD;obtain⟨rfl,rfl,rfl⟩:=dB z;obtain⟨rfl,_⟩:=DE ht;obtain⟨L',g1,g2⟩:=DJ (P:=P) f G AD;rw[q]at g1;injection g1 with g1;subst g1;subst hb;refine Δ (g2.mono ?_);intro _ w' tK;exact ai ⟨η,tK,.i _ _⟩
   ·cases z
  split at hs
  ·rename_i p b o l c' ht;cases j with
   | sl _ _ _ _ L q=>exact fin b o L _ rfl q ht hs
  ·rename_i p b o l e' ht;cases j with
   | su _ _ _ _ L c q _ _=>exact fin b o L _ rfl q ht hs
   | se=>omega
  ·cases hs
def Hm(aE:cU P ty)(l:aM η T tmps)(o:bD η ty.g)(j:aV W η H n w){t:TypeId}{i:TI}{x:Operand}{s:au}{rt:TypeId}{ts:Array TypeId}{k:Nat}
 (p:ts[0]?=some t)(hi:ty t=some i)(a:(k=0/\i.desc=.str)\/(k=1/\∃e,i.desc=.slice e)\/(k=2/\∃k e,i.desc=.map k e))(q:br ty x=some s)
 (hs:simple (.len k s) T H n=some (v,H',n')):
 aP P (Builtin.len_ ts rt #[an tmps x]) w λy w'=>∃η',Trans W η H n w η' H' n' w'/\aq η' v y:=by
 have f:=(aE.ok _ _ hi).desc;simp only[simple]at hs;unfold Builtin.len_;simp (config:={ zeta:=false}) only[p,zS,vJ];cases hv:az T s with
 | none=>rw[hv]at hs;rcases a with ⟨rfl,a⟩ | ⟨rfl,e,a⟩ | ⟨rfl,k,e,a⟩<;>cases hs
 | some u=>
  rw[hv]at hs;have d:=bQ l o q hv;generalize an tmps x=y at d;have fin:∀m:Nat,some (V.i .i64 (Int.ofNat m),H,n)=some (v,H',n')->∃η',Trans W η H n w η' H' n' w/\aq η' v (goInt m):=λm h=>by obtain⟨rfl,rfl,rfl⟩:=dB h;exact⟨η,.refl j,.i _ _⟩
  rcases a with ⟨rfl,a⟩ | ⟨rfl,e,a⟩ | ⟨rfl,k,e,a⟩
  ·rw[a]at f;refine Δ (a0 f ?_);cases u<;>try (cases hs;done)
   cases d;exact ai (by rw[ri];exact fin _ hs)
  ·rw[a]at f;refine Δ (a0 f ?_);cases u<;>try (cases hs;done)
   ·cases d;exact ai (fin _ hs)
   ·cases d;exact ai (fin _ hs)
   ·cases d<;>exact ai (fin _ hs)
  ·rw[a]at f;refine Δ (a0 f ?_);cases u<;>try (cases hs;done)
   ·cases d;exact ai (fin _ hs)
   ·rename_i b;cases d with
    | m _ L r=>
     simp only at hs;split at hs
     ·rename_i es c hb;obtain⟨A,g1,z⟩:=we j hb r;refine Δ (vW g1 (by intro _ _ _ h;cases h) (ai ?_));have:=z.length;simp at this;rw[←this];exact fin _ hs
     ·cases hs
def Zm(aE:cU P ty)(b:aM η T tmps)(c:bD η ty.g)(d:aV W η H n w){t:TypeId}{i:TI}{x:Operand}{s:au}{e:Nat}{rt:TypeId}{ts:Array TypeId}
 (j:ts[0]?=some t)(hi:ty t=some i)(k:i.desc=.slice e)(f:br ty x=some s)
 (hs:simple (.cap none s) T H n=some (v,H',n')):
 aP P (Builtin.cap_ ts rt #[an tmps x]) w λy w'=>∃η',Trans W η H n w η' H' n' w'/\aq η' v y:=by
 have h:=(aE.ok _ _ hi).desc;rw[k]at h;simp only[simple]at hs;unfold Builtin.cap_;simp (config:={ zeta:=false}) only[j,zS,vJ];refine Δ (a0 h ?_);split at hs
 ·rename_i hv;have a:=bQ b c f hv;obtain⟨rfl,rfl,rfl⟩:=dB hs;generalize an tmps x=y at a;cases a;exact ai ⟨η,.refl d,.i _ _⟩
 ·rename_i hv;have a:=bQ b c f hv;obtain⟨rfl,rfl,rfl⟩:=dB hs;generalize an tmps x=y at a;cases a;exact ai ⟨η,.refl d,.i _ _⟩
 ·cases hs
def OG{f:Value->Value->Sem Value}{mx:Bool}(hf:∀k x k' y,f (.int k x) (.int k' y)=pure (.int k (if (if mx then y>x else y<x) then y else x))){vs:List V}{xs:List Value}(h:aN η vs xs){a r:V}{a':Value}
 (g:aq η a a')(c:xV (LF mx) a vs=some r):aP P (xs.foldlM f a') w λy w'=>aq η r y/\w'=w:=by
 induction vs generalizing xs a a' with
 | nil=>cases h;simp only[xV]at c;injection c with c;subst c;exact ai ⟨g,rfl⟩
 | cons b vs ih=>
  cases h with
  | cons _ b' _ xs h1 h2=>
   simp only[xV]at c;split at c
   case h_2=>cases c
   rename_i j d;unfold LF at d;split at d
   case h_2=>cases d
   rename_i k x k' y;injection d with d;subst d;cases g;cases h1;rw[List.foldlM_cons,hf];refine Δ (ai ?_);refine ih h2 ?_ c;have e:(bif (bif mx then tG x y else tG y x) then y else x)=(if (if mx then y>x else y<x) then y else x):=by
    cases mx
    ·simp only[cond_false,Ap,gy,aW,vI,if_false]
    ·simp only[cond_true,Ap,gy,aW,if_true,gt_iff_lt]
   rw[←e];exact .i _ _
def OH(f:aM η T tmps)(i:bD η ty.g)(b:aV W η H n w){l:List Operand}{l':List au}(hl:nJ ty l=some l'){mx:Bool}{rt:TypeId}{ts:Array TypeId}
 (hs:simple (.mm mx l') T H n=some (v,H',n')):
 aP P ((if mx then Builtin.max_ else Builtin.min_) ts rt (l.map (an tmps)).toArray) w λy w'=>∃η',Trans W η H n w η' H' n' w'/\aq η' v y:=by
 simp only[simple]at hs;split at hs
 case h_2=>cases hs
 rename_i a vs hv;obtain⟨h1,rfl,rfl⟩:=jO hs;have c:=yc f i hl hv;generalize l.map (an tmps)=xs at c;cases c with
 | cons _ a' _ xs d e=>
  cases mx
  ·show aP P (xs.foldlM Builtin.min2 a') w _;refine(OG (mx:=false) (λk x k' y=>by simp[Builtin.min2]) e d h1).mono ?_;rintro y w' ⟨h,rfl⟩;exact⟨η,.refl b,h⟩
  ·show aP P (xs.foldlM Builtin.max2 a') w _;refine(OG (mx:=true) (λk x k' y=>by simp[Builtin.max2]) e d h1).mono ?_;rintro y w' ⟨h,rfl⟩;exact⟨η,.refl b,h⟩
def Zn(aE:cU P ty)(p:aM η T tmps)(q:bD η ty.g)(d:aV W η H n w){t:TypeId}{i k:TI}{x:Operand}{s:au}{e:Nat}{rt:TypeId}{ts:Array TypeId}
 (r:ts[0]?=some t)(hi:ty t=some i)(A:i.desc=.slice e)(B:ty e=some k)(C:br ty x=some s)
 (hs:simple (.FJ k.zero s) T H n=some (v,H',n')):
 aP P (Builtin.clear_ ts rt #[an tmps x]) w λy w'=>∃η',Trans W η H n w η' H' n' w'/\aq η' v y:=by
 have m:=(aE.ok _ _ hi).desc;rw[A]at m;simp only[simple]at hs;unfold Builtin.clear_;simp (config:={ zeta:=false}) only[r,zS,vJ];refine Δ (a0 m ?_);cases hv:az T s with
 | none=>rw[hv]at hs;cases hs
 | some u=>
  rw[hv]at hs;have a:=bQ p q C hv;generalize an tmps x=y at a;have wr:∀(b:K) (o l:Nat) (L:Loc) (c:Nat),η b=some L->l≠0->oy n (fB H b o (dL k.zero l))=some (v,H',n')->aP P (do
   storeCells ⟨L.blk,L.off+o,none⟩ (Builtin.zeroCells (←zeroValue e).cells l).toList
   pure (Value.tuple #[])) w λy w'=>∃η',Trans W η H n w η' H' n' w'/\aq η' v y:=by
   intro b o l L c f hl h;cases j:fB H b o (dL k.zero l) with
   | none=>rw[j]at h;cases h
   | some H1=>
    rw[j]at h;obtain⟨rfl,rfl,rfl⟩:=dB h;refine Δ (pY (aE.ok _ _ B) λz D _ _ G=>?_);obtain⟨L',g1,E⟩:=DJ (P:=P) d (DL (D η) l _ rfl) j;rw[f]at g1;injection g1 with g1;subst g1;refine Δ (E.mono ?_);intro _ w' F;exact ai ⟨η,F,.u _ _ .nil⟩
  cases u<;>try (cases hs;done)
  ·obtain⟨rfl,rfl,rfl⟩:=dB hs;cases a;exact ai ⟨η,.refl d,.u _ _ .nil⟩
  ·rename_i b o l c;simp only at hs;cases a with
   | sl _ _ _ _ L f=>
    cases h0:Nat.beq l 0 with
    | true=>
     rw[h0]at hs;obtain⟨rfl,rfl,rfl⟩:=dB hs;obtain rfl:=bX h0;exact ai ⟨η,.refl d,.u _ _ .nil⟩
    | false=>
     rw[h0]at hs;cases l with
     | zero=>cases h0
     | succ l=>exact wr b o (l+1) L c f (by omega) hs
  ·rename_i b o l I;simp only at hs;cases h0:Nat.beq l 0 with
   | true=>
    rw[h0]at hs;obtain⟨rfl,rfl,rfl⟩:=dB hs;obtain rfl:=bX h0;cases a<;>exact ai ⟨η,.refl d,.u _ _ .nil⟩
   | false=>
    rw[h0]at hs;cases l with
    | zero=>cases h0
    | succ l=>
     cases a with
     | su _ _ _ _ L c f _ _=>exact wr b o (l+1) L c f (by omega) hs
  ·obtain⟨rfl,rfl,rfl⟩:=dB hs;cases a;exact ai ⟨η,.refl d,.u _ _ .nil⟩
end ops
end
section
section ops
variable {P:Program}{ty:Ty}{W:Nat->Code->AC->Prop}{η:Env}{T:Tr V}{H H':Hp}{n n':K}{w:World}{tmps:Array Value}{v:V}
def Zo(k:aM η T tmps)(m:bD η ty.g)(f:aV W η H n w){x:Operand}{h:au}(q:br ty x=some h){at_:Array TypeId}{rt:TypeId}(hs:simple (.LB h) T H n=some (v,H',n')):
 aP P (Builtin.unsafeSliceData_ at_ rt #[an tmps x]) w λy w'=>∃η',Trans W η H n w η' H' n' w'/\aq η' v y:=by
 simp only[simple]at hs;cases hv:az T h with
 | none=>rw[hv]at hs;cases hs
 | some u=>
  rw[hv]at hs;have d:=bQ k m q hv;generalize an tmps x=y at d;cases u<;>try (cases hs;done)
  ·obtain⟨rfl,rfl,rfl⟩:=dB hs;cases d;exact ai ⟨η,.refl f,.np⟩
  ·rename_i b o l c;cases a:Nat.beq c 0 with
   | true=>simp only[a,cond_true]at hs;cases hs
   | false=>
    simp only[a,cond_false]at hs;obtain⟨rfl,rfl,rfl⟩:=dB hs;cases d with
    | sl _ _ _ _ L i=>
     have j:c≠0:=λe=>by rw[e]at a;cases a
     refine⟨.pointer (some ⟨L.blk,L.off+o,none⟩),w,?_,η,.refl f,.p _ _ _ i⟩;show Sem.run P (if c≠0 then _ else _) w=_
     rw[ao j];rfl
  ·rename_i b o l e;cases a:Nat.beq l 0 with
   | true=>simp only[a,cond_true]at hs;cases hs
   | false=>
    simp only[a,cond_false]at hs;obtain⟨rfl,rfl,rfl⟩:=dB hs;have j:l≠0:=λe=>by rw[e]at a;cases a
    cases d with
    | su _ _ _ _ L c i h1 h2=>
     have r:c≠0:=by omega
     refine⟨.pointer (some ⟨L.blk,L.off+o,none⟩),w,?_,η,.refl f,.p _ _ _ i⟩;show Sem.run P (if c≠0 then _ else _) w=_
     rw[ao r];rfl
    | se=>exact absurd rfl j
def Zp{b:Nat}{c:Array Value}{e:TypeId}{fr:Nat×Nat}(h:w.heap[b]?=some (.cells c e fr)):∀(bs:List UInt8) (o:Nat) (acc:ByteArray),(c.toList.drop o).take bs.length=bs.map (λb=>Value.int .u8 b.toNat)->aP P (loadBytes ⟨b,o,none⟩ acc bs.length) w λr w'=>r.data.toList=acc.data.toList++bs/\w'=w:=by
 intro bs
 induction bs with
 | nil=>intro o acc _;exact ai ⟨by simp,rfl⟩
 | cons x bs ih=>
  intro o acc a;have d:o<c.size:=by
   rcases iG o c.size with h1 | h1
   ·exact h1
   ·rw[oo (by simpa using h1)]at a;simp at a
  rw[eo (by simpa using d)]at a;simp only[dy,mD,gB,List.cons.injEq]at a;obtain⟨h1,h2⟩:=a;show aP P (do match←load ⟨b,o,none⟩ with
   | .int .u8 b'=>loadBytes (Addr.add ⟨b,o,none⟩ 1) (acc.push b'.toNat.toUInt8) bs.length
   | _=>stuck "a byte variable that holds no byte") w _
  refine Δ (GS (v:=.int .u8 x.toNat) ?_ ?_)
  ·rw[DI h,lI d];have:c[o]=c.toList[o]'(by simpa using d):=by simp
   rw[this,h1]
  ·dsimp only;refine(ih (o+1) (acc.push (Int.toNat (x.toNat:Int)).toUInt8) h2).mono ?_;rintro r w' ⟨g1,rfl⟩;refine⟨?_,rfl⟩;rw[g1];simp
def Zq{e:TypeId}{count off m:Nat}(hs:P.cellsOf e=1)(h:off+m<=count):liesAt P P.depth e count off e m=true:=by
 have a:∃d,P.depth=d+1:=⟨2*(P.types.size+Made.depth)+1,rfl⟩;obtain⟨d,a⟩:=a;have b:sameLayout P P.depth e e=true:=by rw[a];simp[sameLayout]
 have c:Go.rowAt P (sameLayout P P.depth · e) P.depth e count off m=true:=by rw[a]at b ⊢;simp only[Go.rowAt,hs,Nat.div_one,Nat.mod_one,b];simp[h]
 rw[a]at c ⊢;simp only[liesAt];rw[a,c];rfl
def Zr{t:TypeId}{ts:Array TypeId}{rt:TypeId}{A:Addr}{a:IntKind}{m:Nat}(b:ts[0]?=some t)(h0:m≠0)(hm:m<=9223372036854775807):
 Builtin.unsafeString_ ts rt #[.pointer (some A),.int a (Int.ofNat m)]=
  (do
   if←variablesAt A (←elemOf t) (Int.ofNat m).toNat then do
    let s←loadBytes A .empty (Int.ofNat m).toNat
    freeze A (Int.ofNat m).toNat
    pure (.string s)
   else unsupported (.unsafePointer "String: not so many bytes at ptr")):=by
 have c:¬ (m:Int)<0:=by omega
 have d:IntKind.i64.max=9223372036854775807:=by decide
 have e:¬ (m:Int)>IntKind.i64.max:=by rw[d];omega
 have f:¬ (m:Int)=0:=by omega
 show(do
  let n←asInt (.int a (m:Int))
  let some g:=ts[0]? | stuck "unsafe.String: no argument types"
  if n<0 then runtimePanic (.error "unsafe.String: len out of range")
  if n>IntKind.i64.max then unsupported (.unsafePointer "String: a length above the largest int")
  if n=0 then pure (.string .empty)
  else if←variablesAt A (←elemOf g) n.toNat then do
   let s←loadBytes A .empty n.toNat
   freeze A n.toNat
   pure (.string s)
  else unsupported (.unsafePointer "String: not so many bytes at ptr"):Sem Value)=_
 rw[b];show(do
  if (m:Int)<0 then runtimePanic (.error "unsafe.String: len out of range")
  if (m:Int)>IntKind.i64.max then unsupported (.unsafePointer "String: a length above the largest int")
  if (m:Int)=0 then pure (.string .empty)
  else if←variablesAt A (←elemOf t) (m:Int).toNat then do
   let s←loadBytes A .empty (m:Int).toNat
   freeze A (m:Int).toNat
   pure (.string s)
  else unsupported (.unsafePointer "String: not so many bytes at ptr"):Sem Value)=_
 rw[Θ c,Θ e,Θ f];rfl
def Zs(aE:cU P ty)(S:aM η T tmps)(U:bD η ty.g)(f:aV W η H n w){t u:TypeId}{i k:TI}{p l:Operand}{D l':au}{ts:Array TypeId}(E:ts[0]?=some t)(hi:ty t=some i)(hd:i.desc=.ptr u)(hk:ty u=some k)(iW:k.size=1)
 (hp:br ty p=some D)(hl:br ty l=some l'){rt:TypeId}(hs:simple (.zX u D l') T H n=some (v,H',n')):
 aP P (Builtin.unsafeString_ ts rt #[an tmps p,an tmps l]) w λy w'=>∃η',Trans W η H n w η' H' n' w'/\aq η' v y:=by
 simp only[simple]at hs;have X:=(aE.ok _ _ hi).desc;rw[hd]at X;have Y:P.cellsOf u=1:=by obtain⟨ti,z,h1,h2,_⟩:=(aE.ok _ _ hk).info;simp[Program.cellsOf,h1,h2,iW]
 cases hv:az T D with
 | none=>rw[hv]at hs;cases hs
 | some a=>
  cases hw:az T l' with
  | none=>rw[hv,hw]at hs;cases a<;>cases hs
  | some q=>
   rw[hv,hw]at hs;have G:=bQ S U hp hv;have I:=bQ S U hl hw;generalize an tmps p=y at G;generalize an tmps l=z at I;have empty:aq η (.s 0 0) (.string .empty):=by have:=aq.s (η:=η) 0 0 (by simp);exact this
   cases a<;>try (cases hs;done)
   ·
    cases q<;>try (cases hs;done)
    rename_i kk m;cases m with
    | negSucc=>cases hs
    | ofNat m=>
     cases m with
     | succ m=>cases hs
     | zero=>
      obtain⟨rfl,rfl,rfl⟩:=dB hs;cases G;cases I;unfold Builtin.unsafeString_;refine Δ (ai ?_);simp only[E];refine Δ (ai ?_);exact ai ⟨η,.refl f,empty⟩
   ·
    rename_i b o;cases q<;>try (cases hs;done)
    rename_i kk m;cases m with
    | negSucc=>cases hs
    | ofNat m=>
     cases G with
     | p _ _ L J=>
     cases I;cases x:Nat.beq m 0 with
     | true=>
      simp only[x,cond_true]at hs;obtain⟨rfl,rfl,rfl⟩:=dB hs;have:=bX x;subst this;unfold Builtin.unsafeString_;refine Δ (ai ?_);simp only[E];refine Δ (ai ?_);exact ai ⟨η,.refl f,empty⟩
     | false=>
      have M:m≠0:=λe=>by rw[e]at x;cases x
      simp only[x,cond_false]at hs;split at hs
      case h_2=>cases hs
      rename_i r e fz hb;cases A:(Nat.beq e u&&Nat.ble m 9223372036854775807) with
      | false=>rw[A]at hs;cases hs
      | true=>
       rw[A]at hs;simp only[cond_true]at hs;rw[aK]at A;have he:=bX A.1;have hm:=kH A.2;subst he;split at hs
       case h_2=>cases hs
       rename_i vs Z;split at hs
       case h_2=>cases hs
       rename_i d Cx;obtain⟨rfl,rfl,rfl⟩:=dB hs;obtain⟨L',h1,h2,cs,fr,B,h4,h5,h6,C⟩:=f.obj b _ hb;rw[J]at h1;injection h1 with h1;subst h1;obtain⟨za,hlen⟩:=mJ Z;have mP:vs.length=m:=by rw[za,ot,qZ];omega
       have eG:Ev.rowAt H b=some r:=by simp[Ev.rowAt,hb,O.row]
       obtain⟨L2,cs2,e2,LN,k1,k2,k3,k4⟩:=GZ f eG Z;rw[J]at k1;injection k1 with k1;subst k1;rw[B]at k2;injection k2 with k2;injection k2 with k2 FT Zt;subst k2;subst FT;subst Zt;obtain⟨o1,o2⟩:=Oi Cx k4;rw[mP]at o1 o2;have N:(bz m d).length=m:=pg m d;have dK:L.off+o+m<=cs.size:=by rcases k3 with k3 | k3;exact absurd k3 M;exact k3
       rw[Zr E M hm];have Zu:w.shape? L.blk=some (e,cs.size):=by simp[World.shape?,B]
       have hva:(variablesAt ⟨L.blk,L.off+o,none⟩ e (Int.ofNat m).toNat).run P w=.ok true w:=by simp only[variablesAt,program,shape,bind,Sem.bind,Sem.run,Zu,pure,Y,Nat.div_one];rw[Zq Y (by show L.off+o+m<=cs.size;exact dK)]
       refine Δ (Δ (a0 X (ai ?_)));refine Δ ⟨true,w,hva,?_⟩
       ·simp only[if_true];have hmt:Int.toNat (Int.ofNat m)=(bz m d).length:=by rw[N];rfl
        rw[hmt];refine Δ ((Zp B (bz m d) (L.off+o) .empty (by rw[N];exact o1)).mono ?_);rintro s w' ⟨g1,rfl⟩;have Hq:s=strOf m d:=by
         have:s.data=(bz m d).toArray:=by apply iY;rw[g1];simp
         show s=(⟨(bz m d).toArray⟩:ByteArray);rw[←this]
        subst Hq;have VO:w'.freeze ⟨L.blk,L.off+o,none⟩ (bz m d).length={ w' with heap:=w'.heap.setIfInBounds L.blk (.cells cs e (if fr.1==fr.2 then (L.off+o,L.off+o+m) else (min fr.1 (L.off+o),max fr.2 (L.off+o+m))))}:=by
         unfold World.freeze;rw[N,Θ M];congr 1;apply Array.ext
         ·simp
         ·intro j LO uX;have hj:j<w'.heap.size:=by simpa using LO
          rw[Array.getElem_modify,Array.getElem_setIfInBounds hj];by_cases Q:L.blk=j
          ·subst Q;rw[ao rfl,ao rfl];have:w'.heap[L.blk]=.cells cs e fr:=by
            rw[lI hj]at B;injection B
           rw[this]
          ·rw[Θ Q,Θ Q]
        refine⟨.string (strOf m d),w'.freeze ⟨L.blk,L.off+o,none⟩ (bz m d).length,rfl,?_⟩;refine⟨η,?_,.s _ _ o2⟩;refine Trans.write (o':=.c r e (bif Nat.ble fz (Nat.add o m) then Nat.add o m else fz)) (ob:=.cells cs e (if fr.1==fr.2 then (L.off+o,L.off+o+m) else (min fr.1 (L.off+o),max fr.2 (L.off+o+m)))) f hb rfl J ?_ VO
        refine⟨cs,_,rfl,h4,h5,h6,.inr ?_⟩;have G0:fz<=(bif Nat.ble fz (Nat.add o m) then Nat.add o m else fz)/\o+m<=(bif Nat.ble fz (Nat.add o m) then Nat.add o m else fz):=by
         cases hq:Nat.ble fz (Nat.add o m) with
         | true=>have:=kH hq;simp only[cond_true];exact⟨this,φ _⟩
         | false=>
          have:¬ fz<=o+m:=λh=>by have h':Nat.ble fz (o+m)=true:=fK h;have xq:Nat.ble fz (o+m)=false:=hq;rw[h']at xq;cases xq
          simp only[cond_false];omega
        generalize (bif Nat.ble fz (Nat.add o m) then Nat.add o m else fz)=F at G0
        by_cases R:fr.1=fr.2
        ·rw[ao (by simpa using R)];show L.off+o+m<=L.off+F;omega
        ·rw[Θ (by simpa using R)];show max fr.2 (L.off+o+m)<=L.off+F;rcases C with C | C
         ·exact absurd C.symm R
         ·omega
end ops
end
section
section ops
variable {P:Program}{ty:Ty}{W:Nat->Code->AC->Prop}{η:Env}{T:Tr V}{H H':Hp}{n n':K}{w:World}{tmps:Array Value}{v:V}
def Zv(aE:cU P ty)(q:aM η T tmps)(r:bD η ty.g)(z:aV W η H n w){t:TypeId}{x:Operand}{a:A}
 (d:dc ty (.range t x)=some a)(hs:simple a T H n=some (v,H',n')):
 eB P W η H n w (do pure (.value (←Instr.range t (an tmps x)))) v H' n':=by
 simp only[dc]at d;split at d
 case h_2=>cases d
 rename_i i B hi C;have j:=(aE.ok _ _ hi).desc;refine fG ?_;have new:∀{o:O} {ob:Obj},js H n o (.p n 0)=some (v,H',n')->(∀η',η.le η'->fR W η' o ⟨w.heap.size,0,0⟩ (some ob))->aP P (do pure (Value.pointer (some ⟨←newObj ob,0,none⟩))) w λy w'=>∃η',Trans W η H n w η' H' n' w'/\aq η' v y:=by intro o ob E F;obtain⟨rfl,rfl,rfl⟩:=nM E;obtain⟨η',h1,h2⟩:=Trans.new z F;exact Δ (sd (ai ⟨η',h1,aq.p (η:=η') n 0 _ h2⟩))
 split at d
 ·rename_i l;injection d with d;subst d;rw[l]at j;simp only[simple]at hs;cases hv:az T B with
  | none=>rw[hv]at hs;cases hs
  | some u=>
   rw[hv]at hs;have f:=bQ q r C hv;generalize an tmps x=y at f;cases u<;>try (cases hs;done)
   cases f with
   | s _ _ hm=>
    refine Δ (a0 j (Δ (ai ?_)));exact new hs λη' _=>⟨rfl,rfl,hm⟩
 ·rename_i k e l;injection d with d;subst d;rw[l]at j;simp only[simple]at hs;cases hv:az T B with
  | none=>rw[hv]at hs;cases hs
  | some u=>
   rw[hv]at hs;have f:=bQ q r C hv;generalize an tmps x=y at f;cases u<;>try (cases hs;done)
   rename_i b;cases f with
   | m _ L D=>
    simp only at hs;split at hs
    ·rename_i es c hb;obtain⟨G,g1,I⟩:=we z hb D;refine Δ (a0 j ?_);refine Δ (vW g1 (by intro _ _ _ h;cases h) (Δ (ai ?_)));exact new hs λη' hle=>⟨rfl,L,hle _ _ D,rfl⟩
    ·cases hs
 ·cases d
def Zw(r:aM η T tmps)(s:bD η ty.g)(d:aV W η H n w){x:Operand}{b:Bool}{a:A}{rt:TypeId}
 (c:dc ty (.next x b)=some a)(hs:simple a T H n=some (v,H',n')):
 eB P W η H n w (do pure (.value (←Instr.next (an tmps x) b rt))) v H' n':=by
 simp only[dc]at c;split at c
 case h_2=>cases c
 rename_i t z;cases b with
 | false=>cases c
 | true=>
  simp only[cond_true]at c;injection c with c;subst c;simp only[simple]at hs;refine fG ?_;cases hv:az T t with
  | none=>rw[hv]at hs;cases hs
  | some u=>
   rw[hv]at hs;have e:=bQ r s z hv;generalize an tmps x=y at e;cases u<;>try (cases hs;done)
   rename_i k o;cases o with
   | succ o=>cases hs
   | zero=>
    simp only at hs;split at hs
    case h_2=>cases hs
    rename_i l m pos hb;cases e with
    | p _ _ L f=>
     obtain⟨L',g1,B,g0,j,q⟩:=d.obj k _ hb;rw[f]at g1;injection g1 with g1;subst g1;rw[g0];refine Δ (vW j (by intro _ _ _ h;cases h) ?_);dsimp only;rw[ri];cases hp:Nat.blt pos l with
     | false=>
      rw[hp]at hs;obtain⟨rfl,rfl,rfl⟩:=dB hs;have:¬ pos<l:=by rw[eM]at hp;simpa using hp
      rw[Θ this];exact ai ⟨η,.refl d,.u _ _ (.cons _ _ _ _ (.b _) .nil)⟩
     | true=>
      rw[hp]at hs;obtain⟨rfl,rfl,rfl⟩:=dB hs;have:pos<l:=by rw[eM]at hp;simpa using hp
      rw[ao this,Oh q];refine Δ (GU j (by intro _ _ _ h;cases h) (ai ⟨η,?_,?_⟩))
      ·exact Trans.write (o':=.it _ _ _) d hb rfl f ⟨g0,rfl,q⟩ rfl
      ·exact .u _ _ (.cons _ _ _ _ (.b _) (.cons _ _ _ _ (.i _ _) (.cons _ _ _ _ (.i _ _) .nil)))
def find_born:∀{es:List (V×V×Nat)} {l:List MapEntry},dJ η es l->∀{t:Nat} {k v:V},Dw t es=some (k,v)->∃e,l.find? (·.born==t)=some e/\aq η k e.key/\aq η v e.val
 | [],[],_,t,k,v,h=>by cases h
 | (k1,v1,b1)::es,e::l,⟨h1,h2,a,c⟩,t,k,v,h=>by
  simp only[Dw]at h;rw[List.find?_cons];cases hb:Nat.beq b1 t with
  | true=>
   rw[hb]at h;simp only[cond_true]at h;injection h with h;injection h with d f;subst d;subst f;have:(e.born==t)=true:=by rw[a];simpa using bX hb
   rw[this];exact⟨e,rfl,h1,h2⟩
  | false=>
   rw[hb]at h;have:(e.born==t)=false:=by rw[a,Bool.eq_false_iff];intro b;rw[beq_iff_eq]at b;subst b;simp at hb
   rw[this];exact find_born c h
 | [],_::_,h,_,_,_,_=>h.elim
 | _::_,[],h,_,_,_,_=>h.elim
def Zx(j:aM η T tmps)(l:bD η ty.g)(d:aV W η H n w){x:Operand}{a:A}
 (b:dc ty (.entry x)=some a)(hs:simple a T H n=some (v,H',n')):
 eB P W η H n w (do pure (.value (←Instr.entry (an tmps x)))) v H' n':=by
 simp only[dc]at b;split at b
 case h_2=>cases b
 rename_i q r;injection b with b;subst b;simp only[simple]at hs;refine fG ?_;cases hv:az T q with
 | none=>rw[hv]at hs;cases hs
 | some u=>
  rw[hv]at hs;have i:=bQ j l r hv;generalize an tmps x=y at i;cases u<;>try (cases hs;done)
  rename_i k o;cases o with
  | succ o=>cases hs
  | zero=>
   simp only at hs;split at hs
   case h_2=>cases hs
   rename_i m c t hb;split at hs
   case h_2=>cases hs
   rename_i es c' hm;cases f:Nat.beq c c' with
   | false=>rw[f]at hs;cases hs
   | true=>
    rw[f]at hs;simp only[cond_true]at hs;split at hs
    case h_2=>cases hs
    rename_i M vv hf;obtain⟨rfl,rfl,rfl⟩:=dB hs;obtain rfl:=bX f;cases i with
    | p _ _ L s=>
     obtain⟨L',g1,N,g0,Lm,since,seen,z,B,C⟩:=d.obj k _ hb;rw[s]at g1;injection g1 with g1;subst g1;obtain⟨D,E,F⟩:=we d hm z;rw[g0];obtain⟨e,G,I,J⟩:=find_born F hf;refine Δ (vW B (by intro _ _ _ h;cases h) ?_);dsimp only;rw[C];refine Δ (vW E (by intro _ _ _ h;cases h) ?_);dsimp only;rw[Θ (by simp)];have:D.find? (·.born==t)=some e:=by rw[←Array.find?_toList];exact G
     rw[this];exact ai ⟨η,.refl d,.u _ _ (.cons _ _ _ _ I (.cons _ _ _ _ J .nil))⟩
def Zy(aE:cU P ty)(r:aM η T tmps)(y:bD η ty.g)(o:aV W η H n w){c:Call}{b:Builtin}(hb:c.callee=.builtin b){rt:TypeId}{a:A}
 (f:pT ty c=some a)(hs:simple a T H n=some (v,H',n'))(cs:Array Bool):
 eB P W η H n w (builtin b c.argTypes rt cs (c.args.map (an tmps))) v H' n':=by
 obtain⟨callee,⟨args⟩,⟨argTypes⟩⟩:=c;simp only at hb;subst hb;rw[show(Array.map (an tmps) ⟨args⟩)=(args.map (an tmps)).toArray by simp];simp only[pT]at f;split at f
 ·rename_i s x t u B;split at f
  case h_2=>cases f
  rename_i i j M C hi hj E q;split at f
  ·cases f
  ·rename_i N e h F;split at f
   ·rename_i k z;injection f with f;subst f;exact fG (Zd aE r y o rfl rfl hi (by simpa using h) hj (by simpa using F) z E q hs)
   ·cases f
  ·cases f
 ·rename_i x t B;split at f
  case h_2=>cases f
  rename_i i C hi q;split at f
  case h_2=>cases f
  injection f with f;subst f;exact fG (Zo r y o q hs)
 ·rename_i p l t B;split at f
  case h_2=>cases f
  rename_i i O l' hi G I;split at f
  case h_2=>cases f
  rename_i u h;split at f
  case h_2=>cases f
  rename_i _ _ z;injection f with f;subst f;exact fG (Zs aE r y o (ts:=(t::B).toArray) U hi (by simpa using h) z rfl G I hs)
 ·rename_i d x t B;split at f
  case h_2=>cases f
  rename_i i d' C hi J q;split at f
  case h_2=>cases f
  rename_i e h;split at f
  case h_2=>cases f
  rename_i k z;injection f with f;subst f;exact fG (Zl aE r y o rfl hi h z J q hs)
 ·rename_i x t B;split at f
  case h_2=>cases f
  rename_i i C hi q;have D:=(aE.ok _ _ hi).desc;split at f
  ·rename_i m e h;injection f with f;subst f;rw[h]at D;obtain⟨rfl,rfl,rfl⟩:=dB (a:=.i .i64 (Int.ofNat m)) (b:=H) (c:=n) hs;refine fG ?_;exact Δ (a0 D (ai ⟨η,.refl o,.i _ _⟩))
  ·rename_i e h;rw[h]at D;split at f
   ·rename_i m Q _ _ _ z;injection f with f;subst f;have L:=(aE.ok _ _ z).desc;obtain⟨rfl,rfl,rfl⟩:=dB (a:=.i .i64 (Int.ofNat m)) (b:=H) (c:=n) hs;refine fG ?_;exact Δ (a0 D (Δ (a0 L (ai ⟨η,.refl o,.i _ _⟩))))
   ·cases f
  ·rename_i h;injection f with f;subst f;exact fG (Hm aE r y o rfl hi (.inl ⟨rfl,h⟩) q hs)
  ·rename_i e h;injection f with f;subst f;exact fG (Hm aE r y o rfl hi (.inr (.inl ⟨rfl,e,h⟩)) q hs)
  ·rename_i k e h;injection f with f;subst f;exact fG (Hm aE r y o rfl hi (.inr (.inr ⟨rfl,k,e,h⟩)) q hs)
  ·cases f
 ·rename_i x t B;split at f
  case h_2=>cases f
  rename_i i C hi q;split at f
  case h_2=>cases f
  rename_i e h;injection f with f;subst f;exact fG (Zm aE r y o rfl hi h q hs)
 ·skip
  split at f
  case h_2=>cases f
  rename_i l' hl;injection f with f;subst f;have:=OH (mx:=true) (rt:=rt) (ts:=⟨argTypes⟩) (P:=P) (w:=w) r y o hl hs;exact fG (by simpa using this)
 ·skip
  split at f
  case h_2=>cases f
  rename_i l' hl;injection f with f;subst f;have:=OH (mx:=false) (rt:=rt) (ts:=⟨argTypes⟩) (P:=P) (w:=w) r y o hl hs;exact fG (by simpa using this)
 ·rename_i x t B;split at f
  case h_2=>cases f
  rename_i i C hi q;split at f
  case h_2=>cases f
  rename_i e h;split at f
  case h_2=>cases f
  rename_i k z;injection f with f;subst f;exact fG (Zn aE r y o rfl hi h z q hs)
 ·cases f
def Zz(aE:cU P ty)(p:aM η T tmps)(q:bD η ty.g)(j:aV W η H n w){o:Oper}{a:A}(h:dc ty o.op=some a)
 (hs:simple a T H n=some (v,H',n')):eB P W η H n w (execOp (an tmps) o) v H' n':=by
 obtain⟨dst,op,rt,pos,after,E⟩:=o;simp only at h;cases op with
 | move x=>
  have C:=h;simp only[dc]at h;split at h
  ·rename_i D B;injection h with h;subst h;exact Nv p q j B hs
  ·cases h
 | assign x=>
  have C:=h;simp only[dc]at h;split at h
  ·rename_i D B;injection h with h;subst h;exact Nv p q j B hs
  ·cases h
 | pick c x y=>exact XU p q j h hs
 | alloc e=>exact XO aE j h hs
 | box e x=>exact XP p q j h hs
 | build t ps=>exact XT aE p q j h hs
 | buildSlice t l ps=>exact XV aE p q j h hs
 | load t x=>exact XM aE p q j h hs
 | store t x y=>exact XN aE p q j h hs
 | nilCheck x=>exact XW p q j h hs _ rfl
 | binOp op t x y u=>exact YK aE p q j h hs
 | unOp op t x=>exact YL p q j h hs
 | convert s d x=>exact YT aE p q j h hs
 | makeInterface t x=>exact XX aE p q j h hs
 | makeFunc f x c=>exact XY p q j h hs
 | makeMap t r=>exact XZ aE j h hs
 | makeSlice t l c=>exact YV aE p q j h hs
 | slice t x lo hi mx=>exact YZ aE p q j h hs
 | fieldAddr s x f=>exact X0 aE p q j h hs
 | field s x f=>exact X1 aE p q j h hs
 | indexAddr t x i=>exact X2 aE p q j h hs
 | index t x i=>exact X4 aE p q j h hs
 | lookup t x i ok=>exact Y6 aE p q j h hs
 | mapUpdate t m k x=>exact OA aE p q j h hs
 | insert t m k x=>exact OA aE p q j h hs
 | range t x=>exact Zv aE p q j h hs
 | next x s=>exact Zw p q j h hs
 | entry x=>exact Zx p q j h hs
 | typeAssert x F t ok=>exact X6 aE p q j h hs
 | extract x i=>exact X5 p q j h hs
 | call c=>
  have h:pT ty c=some a:=h;cases z:c.callee with
  | value f=>
   simp only[pT,z]at h;split at h
   ·injection h with h;subst h;cases hs
   ·cases h
  | invoke r m=>simp only[pT,z]at h;cases h
  | builtin b=>
   have:=Zy (rt:=rt) (w:=w) (P:=P) aE p q j z h hs (c.args.map fun | .const _=>true | _=>false);show eB P W η H n w (do let d←resolve (an tmps) c rt;Go.invoke d.target d.args) v H' n';unfold resolve;simp only[z];exact this
 | panic x=>
  simp only[dc]at h;split at h
  ·injection h with h;subst h;cases hs
  ·cases h
 | _=>cases h
end ops
end
end Go.Ev
