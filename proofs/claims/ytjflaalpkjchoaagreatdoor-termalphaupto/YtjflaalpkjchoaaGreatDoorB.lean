/- A part of the proof. -/
import Derived.Lib.DecodeN
import Derived.Lib.Builder
import Derived.Test.YtjflaalpkjchoaaGreatDoorA
set_option linter.all false
namespace Go.Ev
open Go
section
section ops
variable {P:Program}{ty:Ty}{W:Nat->Code->AC->Prop}{η:Env}{T:Tr V}{H H':Hp}{n n':K}{w:World}{tmps:Array Value}{v:V}
def H9(P:Program)(t:TypeId):EK->Prop
 | .bool=>P.underlying t=some .bool
 | .int=>∃k,P.underlying t=some (.int k)
 | .str=>P.underlying t=some .string
 | .ptr=>∃e i,P.underlying t=some (.pointer e)/\ua P e i/\i.size≠0
 | .slice=>∃e,P.underlying t=some (.slice e)
 | .map=>∃k e,P.underlying t=some (.map k e)
 | .func=>∃a b c,P.underlying t=some (.func a b c)
 | .iface=>∃ms,P.underlying t=some (.interface ms)
def PU{l m l' a:Nat}(h:m<256 ^ l)(h':a<256 ^ l'):(strOf l m==strOf l' a)=(Nat.beq l l'&&Nat.beq m a):=by
 rw[←Pb h h'];show((strOf l m).data==(strOf l' a).data)=_;rw[qT];simp only[beq_iff_eq,strOf];constructor
 ·intro e;have:=congrArg Array.toList e;simpa using this
 ·intro e;rw[e]
def zL{t:TypeId}{q:EK}(g:H9 P t q){x y:V}{u z:Value}(j:an η x u)(l:an η y z){r:Bool}(h:dL q x y=some r)(k:Nat):
 aN P (Op.equalIn (k+1) t u z) w λb w'=>b=r/\w'=w:=by
 unfold dL at h;split at h
 ·cases j;cases l;injection h with h;subst h;exact ψ (aY g (Ω ⟨rfl,rfl⟩))
 ·cases j;cases l;rename_i k1 a k2 b;cases hb:Nat.beq (kn k1) (kn k2) with
  | false=>rw[hb]at h;cases h
  | true=>
   rw[hb]at h;injection h with h;subst h;have e:=EO hb;obtain⟨C,d⟩:=g;refine ψ (aY d ?_);simp only[e,if_true];exact Ω ⟨(zI _ _).symm,rfl⟩
 ·cases j with
  | s _ _ h1=>cases l with
   | s _ _ h2=>
    injection h with h;subst h;exact ψ (aY g (Ω ⟨PU h1 h2,rfl⟩))
 ·cases j;cases l;injection h with h;subst h;obtain⟨e,i,d,_⟩:=g;exact ψ (aY d (Ω ⟨rfl,rfl⟩))
 ·cases j;cases l;injection h with h;subst h;obtain⟨e,i,d,_⟩:=g;exact ψ (aY d (Ω ⟨rfl,rfl⟩))
 ·cases j;cases l;injection h with h;subst h;obtain⟨e,i,d,_⟩:=g;exact ψ (aY d (Ω ⟨rfl,rfl⟩))
 ·rename_i b o b' o';cases hb:K.beq b b' with
  | false=>rw[hb]at h;cases h
  | true=>
   rw[hb]at h;injection h with h;subst h;have e:=K.beq_eq hb;subst e;cases j with
   | p _ _ L A=>cases l with
    | p _ _ L' m=>
     rw[A]at m;injection m with m;subst m;obtain⟨e,i,d,hi,B⟩:=g;refine ψ (aY d ?_);refine ψ (lu hi ?_);simp only[ne_eq,B,not_false_eq_true,if_true];unfold sameAddr;simp only[beq_self_eq_true,if_true];refine Ω ⟨?_,rfl⟩;rw[qT];simp only[beq_iff_eq,Addr.mk.injEq,true_and,and_true,Nat.beq_eq];omega
 ·cases j;cases l;injection h with h;subst h;obtain⟨e,d⟩:=g;exact ψ (aY d (Ω ⟨rfl,rfl⟩))
 ·cases j;cases l;injection h with h;subst h;obtain⟨e,d⟩:=g;exact ψ (aY d (Ω ⟨rfl,rfl⟩))
 ·cases j;injection h with h;subst h;obtain⟨e,d⟩:=g;cases l<;>exact ψ (aY d (Ω ⟨rfl,rfl⟩))
 ·cases j;cases l;injection h with h;subst h;obtain⟨e,d⟩:=g;exact ψ (aY d (Ω ⟨rfl,rfl⟩))
 ·cases l;injection h with h;subst h;obtain⟨e,d⟩:=g;cases j<;>exact ψ (aY d (Ω ⟨rfl,rfl⟩))
 ·cases j;cases l;injection h with h;subst h;obtain⟨e,f,d⟩:=g;exact ψ (aY d (Ω ⟨rfl,rfl⟩))
 ·cases j;cases l;injection h with h;subst h;obtain⟨e,f,d⟩:=g;exact ψ (aY d (Ω ⟨rfl,rfl⟩))
 ·cases j;cases l;injection h with h;subst h;obtain⟨e,f,d⟩:=g;exact ψ (aY d (Ω ⟨rfl,rfl⟩))
 ·cases j;cases l;injection h with h;subst h;obtain⟨a,b,c,d⟩:=g;exact ψ (aY d (Ω ⟨rfl,rfl⟩))
 ·cases j;cases l;injection h with h;subst h;obtain⟨a,b,c,d⟩:=g;exact ψ (aY d (Ω ⟨rfl,rfl⟩))
 ·cases j;cases l;injection h with h;subst h;obtain⟨a,b,c,d⟩:=g;exact ψ (aY d (Ω ⟨rfl,rfl⟩))
 ·cases j;cases l;injection h with h;subst h;obtain⟨ms,d⟩:=g;exact ψ (aY d (Ω ⟨rfl,rfl⟩))
 ·cases j;cases l;injection h with h;subst h;obtain⟨ms,d⟩:=g;exact ψ (aY d (Ω ⟨rfl,rfl⟩))
 ·cases j;cases l;injection h with h;subst h;obtain⟨ms,d⟩:=g;exact ψ (aY d (Ω ⟨rfl,rfl⟩))
 ·cases h
def xG(aC:cP P ty){t:TypeId}{i:TI}(hi:ty t=some i){q:EK}(h:i.desc.key=some q):H9 P t q/\i.desc.agg=false:=by
 have a:=(aC.ok _ _ hi).desc;obtain⟨d,sz,b,z⟩:=i;cases d<;>simp only[TD.key]at h<;>first | (cases h;done) | (injection h with h;subst h)
 ·exact⟨a,rfl⟩
 ·exact⟨⟨_,a⟩,rfl⟩
 ·exact⟨a,rfl⟩
def zM(aC:cP P ty){t:TypeId}{i:TI}(hi:ty t=some i)(a:i.desc.agg=false){l:List V}{cs:Array Value}(hl:aL η l cs.toList){o:Nat}{v:V}(h:nth l o=some v):
 aN P (part t cs o) w λy w'=>an η v y/\w'=w:=
 H4 (aC.ok _ _ hi) hl (by rw[a];exact h)
def BW{α β:Type}{x:Sem α}{f:α->Sem β}{Φ:β->World->Prop}(h:aN P (x >>=f) w Φ):aN P x w λa w'=>aN P (f a) w' Φ:=by
 obtain⟨b,g,h1,h2⟩:=h;have c:(Sem.bind x f).run P w=.ok b g:=h1;rw[Sem.run_bind']at c;cases d:x.run P w with
 | ok a w'=>rw[d]at c;exact⟨a,w',d,b,g,c,h2⟩
 | halt e w'=>rw[d]at c;cases c
def aa2(aC:cP P ty){xs ys:List V}{cx cy:Array Value}(d:aL η xs cx.toList)(e:aL η ys cy.toList)(k:Nat){fs:List Field}(a:∀f∈fs,f.name ≠ "_")
 {l:List (Nat×EK)}(hl:flat ty (fs.map λf=>(f.type,f.offset))=some l){r:Bool}(h:AM xs ys l=some r):
 aN P (do
  for f in fs do
   if f.name ≠ "_" then
    if !(←Op.equalIn (k+1) f.type (←part f.type cx f.offset) (←part f.type cy f.offset)) then return false
  pure true) w λb w'=>b=r/\w'=w:=by
 induction fs generalizing l with
 | nil=>
  simp only[List.map_nil,flat]at hl;injection hl with hl;subst hl;simp only[AM]at h;injection h with h;subst h;exact ψ (Ω (Ω ⟨rfl,rfl⟩))
 | cons f fs ih=>
  simp only[eY,flat]at hl;split at hl
  case h_2=>cases hl
  rename_i i hi;split at hl
  case h_2=>cases hl
  rename_i q l' g j;injection hl with hl;subst hl;simp only[AM]at h;split at h
  case h_2=>cases h
  rename_i x y h1 h2;obtain⟨m,c⟩:=xG aC hi g;have o:=a f (by simp);rw[List.forIn_cons];simp only[ne_eq,o,not_false_eq_true,if_true];refine ψ (ψ (ψ ((zM aC hi c d h1).mono ?_)));rintro t w' ⟨p,rfl⟩;refine ψ ((zM aC hi c e h2).mono ?_);rintro u w' ⟨s,rfl⟩;refine ψ ?_;cases hv:dL q x y with
  | none=>rw[hv]at h;cases h
  | some b=>
   rw[hv]at h;refine(zL m p s hv k).mono ?_;rintro b' w' ⟨rfl,rfl⟩;cases b' with
   | false=>
    injection h with h;subst h;exact Ω (Ω (Ω ⟨rfl,rfl⟩))
   | true=>
    refine Ω ?_;exact BW (ih (λf hf=>a f (by simp[hf])) j h)
def aa3(aC:cP P ty){e:TypeId}{i:TI}(hi:ty e=some i){q:EK}(c:i.desc.key=some q){xs ys:List V}{cx cy:Array Value}(d:aL η xs cx.toList)(g:aL η ys cy.toList)(k:Nat)
 {fs:List Nat}{r:Bool}(h:AM xs ys (fs.map λi=>(i,q))=some r):
 aN P (do
  for j in fs do
   if !(←Op.equalIn (k+1) e (←part e cx (j*1)) (←part e cy (j*1))) then return false
  pure true) w λb w'=>b=r/\w'=w:=by
 obtain⟨l,a⟩:=xG aC hi c
 induction fs with
 | nil=>
  simp only[List.map_nil,AM]at h;injection h with h;subst h;exact ψ (Ω (Ω ⟨rfl,rfl⟩))
 | cons f fs ih=>
  simp only[eY,AM]at h;split at h
  case h_2=>cases h
  rename_i x y h1 h2;rw[List.forIn_cons];refine ψ (ψ (ψ ((zM aC hi a d (by rw[kp];exact h1)).mono ?_)));rintro p w' ⟨m,rfl⟩;refine ψ ((zM aC hi a g (by rw[kp];exact h2)).mono ?_);rintro s w' ⟨o,rfl⟩;refine ψ ?_;cases hv:dL q x y with
  | none=>rw[hv]at h;cases h
  | some b=>
   rw[hv]at h;refine(zL l m o hv k).mono ?_;rintro b' w' ⟨rfl,rfl⟩;cases b' with
   | false=>
    injection h with h;subst h;exact Ω (Ω (Ω ⟨rfl,rfl⟩))
   | true=>
    refine Ω ?_;exact BW (ih h)
def PV(aC:cP P ty){t:TypeId}{i:TI}(hi:ty t=some i){q:EK}(h:i.desc.key=some q):i.size=1:=by
 obtain⟨_,a⟩:=xG aC hi h;obtain⟨ti,z,_,_,_,_,b,_,c,d,_⟩:=(aC.ok _ _ hi).info;have e:=c a;have f:z.cells=#[z]:=by cases z<;>first | rfl | (simp[Value.qY]at e)
 have:=(ub (λ_=>none) b).length;rw[f]at this;rw[←d,this];rfl
def EU(aC:cP P ty){t:TypeId}{q:dR}(c:mr ty t=some q){x y:V}{u z:Value}(g:an η x u)(k:an η y z){r:Bool}(h:kZ q x y=some r):
 aN P (Op.equal t u z) w λb w'=>b=r/\w'=w:=by
 unfold mr at c;split at c
 case h_2=>cases c
 rename_i i hi;have o:=(aC.ok _ _ hi).desc;split at c
 ·rename_i fs plain s;cases plain with
  | false=>cases c
  | true=>
   simp only[cond_true]at c;split at c
   case h_2=>cases c
   rename_i l hl;injection c with c;subst c;rw[s]at o;obtain⟨G,A,B,_,C⟩:=o;obtain⟨D,E,_⟩:=C rfl;simp only[kZ]at h;split at h
   case h_2=>cases h
   rename_i xs ys;cases g with
   | a _ cx g=>cases k with
    | a _ cy k=>
     refine ψ (aY A ?_);refine ψ (BK ?_);simp only[E,mV,if_false];rw[←Array.forIn_toList];exact aa2 (cx:=⟨cx⟩) (cy:=⟨cy⟩) aC g k 9998 (λf hf=>D f (by simpa using hf)) (by rw[←B];exact hl) h
 ·rename_i m e s;rw[s]at o;split at c
  case h_2=>cases c
  rename_i j hj;split at c
  case h_2=>cases c
  rename_i F p;injection c with c;subst c;simp only[kZ]at h;split at h
  case h_2=>cases h
  rename_i xs ys;cases g with
  | a _ cx g=>cases k with
   | a _ cy k=>
    refine ψ (aY o ?_);refine ψ (lu (aC.ok _ _ hj) ?_);rw[PV aC hj p];have:=aa3 (w:=w) (fs:=List.range m) (cx:=⟨cx⟩) (cy:=⟨cy⟩) aC hj p g k 9998 h;simp only[Std.Legacy.Range.forIn_eq_forIn_range',Std.Legacy.Range.size];simpa[vN]using this
 ·rename_i d h1 h2;split at c
  case h_2=>cases c
  rename_i F p;injection c with c;subst c;exact zL (xG aC hi p).1 g k h 9999
end ops
end
section
section ops
variable {P:Program}{ty:Ty}{W:Nat->Code->AC->Prop}{η:Env}{T:Tr V}{H H':Hp}{n n':K}{w:World}{tmps:Array Value}{v:V}
def isConst:Operand->Bool
 | .const _=>true
 | _=>false
def Ia{α:Type}{c:Prop}[Decidable c]{s s':Sem α}{Φ:α->World->Prop}(a:c)(h:aN P s w Φ):aN P (if c then s else s') w Φ:=by rw[ab a];exact h
def PW(aC:cP P ty){t:TypeId}{a b:Operand}{q:dR}(c:GZ ty t a b=some q){x y:V}{o p:Value}(g:an η x o)(k:an η y p){r:Bool}(h:kZ q x y=some r):
 aN P (Op.equal t o p) w λb w'=>b=r/\w'=w:=by
 unfold GZ at c;split at c
 case h_2=>cases c
 rename_i i hi;have f:=(aC.ok _ _ hi).desc;split at c
 ·exact EU aC c g k h
 ·exact EU aC c g k h
 ·rename_i m;rw[m]at f;cases hb:(vW a||vW b) with
  | false=>rw[hb]at c;cases c
  | true=>
   rw[hb]at c;injection c with c;subst c;exact zL (q:=.iface) f g k h 9999
 ·rename_i e m;rw[m]at f;split at c
  case h_2=>cases c
  rename_i j hj;cases hb:Nat.beq j.size 0 with
  | true=>rw[hb]at c;cases c
  | false=>
   rw[hb]at c;injection c with c;subst c;exact zL (q:=.ptr) ⟨e,j,f,aC.ok _ _ hj,λs=>by rw[s]at hb;cases hb⟩ g k h 9999
 ·rename_i d h1 h2 A u;split at c
  case h_2=>cases c
  rename_i z l;injection c with c;subst c;have:H9 P t z:=by
   generalize i.desc=d at*;cases d<;>simp only[TD.ek]at l<;>first | (cases l;done) | (injection l with l;subst l)
   ·exact f
   ·exact⟨_,f⟩
   ·exact f
   ·exact absurd rfl (u _)
   ·exact⟨_,f⟩
   ·exact⟨_,_,f⟩
   ·exact f
  exact zL this g k h 9999
def zN(aC:cP P ty){op:BinOp}{t:TypeId}{a b:Operand}{q:dR}(f:isEq op=true->GZ ty t a b=some q){x y:V}{g o:Value}(A:an η x g)(B:an η y o)
 (hv:isEq op=true->(∃r,kZ q x y=some r)\/(∃k n k' n',x=.i k n/\y=.i k' n')\/∃l n l' n',x=.s l n/\y=.s l' n'){Φ:Unit->World->Prop}(h:Φ () w):aN P (eqGuard op t a b g o) w Φ:=by
 unfold eqGuard;cases he:isEq op with
 | false=>cases op<;>first | (cases he;done) | exact Ω h
 | true=>
  have f:=f he;have I:op=.eql\/op=.neq:=by cases op<;>first | exact .inl U | exact .inr U | cases he
  suffices J:aN P (match g,o with
   | .nilIface,.nilIface=>do
    if (a matches .const _)||(b matches .const _) then return
    if←Op.eqGuardIn Op.maxDepth t g o then unsupported (.noEntry "binop/eql: two nil values of an interface type with methods, neither of them the literal nil")
   | .agg _,.agg _=>do
    if !(←program).eqGuardType (←program).depth t then return
    if←Op.eqGuardIn Op.maxDepth t g o then unsupported (.noEntry "binop/eql: two nil values of an interface type with methods, in a part of a struct or an array")
   | _,_=>pure ()) w Φ by
   rcases I with rfl | rfl<;>exact J
  rcases hv he with ⟨r,p⟩ | ⟨k,m,k',L,rfl,rfl⟩ | ⟨l,m,l',L,rfl,rfl⟩
  ·unfold GZ at f;split at f
   case h_2=>cases f
   rename_i i hi;have F:=(aC.ok _ _ hi).desc;have pass:(∀c c',¬ (g=.agg c/\o=.agg c'))->¬ (g=.nilIface/\o=.nilIface)->aN P (match g,o with
    | .nilIface,.nilIface=>do
     if (a matches .const _)||(b matches .const _) then return
     if←Op.eqGuardIn Op.maxDepth t g o then unsupported (.noEntry "binop/eql: two nil values of an interface type with methods, neither of them the literal nil")
    | .agg _,.agg _=>do
     if !(←program).eqGuardType (←program).depth t then return
     if←Op.eqGuardIn Op.maxDepth t g o then unsupported (.noEntry "binop/eql: two nil values of an interface type with methods, in a part of a struct or an array")
    | _,_=>pure ()) w Φ:=by
    intro h1 h2;split
    ·exact absurd ⟨rfl,rfl⟩ h2
    ·exact absurd ⟨rfl,rfl⟩ (h1 _ _)
    ·exact Ω h
   have G:P.eqGuardType P.depth t=false->∀c c',g=.agg c->o=.agg c'->aN P (match g,o with
    | .nilIface,.nilIface=>do
     if (a matches .const _)||(b matches .const _) then return
     if←Op.eqGuardIn Op.maxDepth t g o then unsupported (.noEntry "binop/eql: two nil values of an interface type with methods, neither of them the literal nil")
    | .agg _,.agg _=>do
     if !(←program).eqGuardType (←program).depth t then return
     if←Op.eqGuardIn Op.maxDepth t g o then unsupported (.noEntry "binop/eql: two nil values of an interface type with methods, in a part of a struct or an array")
    | _,_=>pure ()) w Φ:=by
    rintro M c c' rfl rfl;refine ψ (BK (ψ (BK ?_)));simp only[M,Bool.not_false,if_true];exact Ω h
   have one:∀u,q=.one u->u≠.iface->aN P (match g,o with
    | .nilIface,.nilIface=>do
     if (a matches .const _)||(b matches .const _) then return
     if←Op.eqGuardIn Op.maxDepth t g o then unsupported (.noEntry "binop/eql: two nil values of an interface type with methods, neither of them the literal nil")
    | .agg _,.agg _=>do
     if !(←program).eqGuardType (←program).depth t then return
     if←Op.eqGuardIn Op.maxDepth t g o then unsupported (.noEntry "binop/eql: two nil values of an interface type with methods, in a part of a struct or an array")
    | _,_=>pure ()) w Φ:=by
    rintro u rfl N;refine pass ?_ ?_
    ·rintro c c' ⟨rfl,rfl⟩;simp only[kZ]at p;cases A<;>cases B<;>cases u<;>simp[dL]at p
    ·rintro⟨rfl,rfl⟩;simp only[kZ]at p;cases A<;>cases B<;>cases u<;>first | exact N rfl | (simp[dL]at p)
   split at f
   ·rename_i fs plain C;rw[C]at F;unfold mr at f;simp only[hi,C]at f;cases plain with
    | false=>cases f
    | true=>
     simp only[cond_true]at f;split at f
     case h_2=>cases f
     injection f with f;subst f;obtain⟨Y,_,_,_,O⟩:=F;simp only[kZ]at p;split at p
     case h_2=>cases p
     cases A with
     | a _ cx _=>cases B with
      | a _ cy _=>exact G (O rfl).2.2 _ _ rfl rfl
   ·rename_i m e C;rw[C]at F;unfold mr at f;simp only[hi,C]at f;split at f
    case h_2=>cases f
    rename_i j hj;split at f
    case h_2=>cases f
    rename_i u E;injection f with f;subst f;simp only[kZ]at p;split at p
    case h_2=>cases p
    cases A with
    | a _ cx _=>cases B with
     | a _ cy _=>
      refine G ?_ _ _ rfl rfl;obtain⟨d,Q⟩:∃d,P.depth=d+1+1:=⟨2*(P.types.size+Made.depth),rfl⟩;rw[Q];obtain⟨D,_⟩:=xG aC hj E;have R:P.eqGuardType (d+1) e=false:=by
       unfold Go.Program.eqGuardType;cases u with
       | bool=>rw[show P.underlying e=_ from D]
       | int=>obtain⟨k,z⟩:=D;rw[z]
       | str=>rw[show P.underlying e=_ from D]
       | ptr=>obtain⟨_,_,z,_⟩:=D;rw[z]
       | slice=>obtain⟨_,z⟩:=D;rw[z]
       | map=>obtain⟨_,_,z⟩:=D;rw[z]
       | func=>obtain⟨_,_,_,z⟩:=D;rw[z]
       | iface=>
        exfalso;generalize j.desc=S at E;cases S<;>simp[TD.key]at E
      unfold Go.Program.eqGuardType;rw[show P.underlying t=_ from F];exact R
   ·rename_i C;cases hb:(vW a||vW b) with
    | false=>rw[hb]at f;cases f
    | true=>
     rw[hb]at f;injection f with f;subst f;have X:(isConst a||isConst b)=true:=by
      rw[mX]at hb ⊢;rcases hb with hb | hb
      ·left;unfold vW at hb;split at hb<;>first | rfl | cases hb
      ·right;unfold vW at hb;split at hb<;>first | rfl | cases hb
     simp only[kZ]at p;cases A<;>cases B<;>first | (simp[dL]at p;done) | exact Ω h | exact Ia X (Ω h)
   ·rename_i e C;split at f
    case h_2=>cases f
    rename_i j hj;cases hb:Nat.beq j.size 0 with
    | true=>rw[hb]at f;cases f
    | false=>
     rw[hb]at f;injection f with f;subst f;exact one .ptr U (λe=>by cases e)
   ·rename_i d h1 h2 Z h4;split at f
    case h_2=>cases f
    rename_i u E;injection f with f;subst f;refine one u rfl ?_;rintro rfl;generalize i.desc=d at E;cases d<;>simp[TD.ek]at E
  ·cases A;cases B;exact Ω h
  ·cases A;cases B;exact Ω h
def PY{t:TypeId}{x y:V}{a b:Value}(d:an η x a)(e:an η y b){q:dR}{r:Bool}(h:kZ q x y=some r)
 (h1:∀k m k' c,¬ (x=.i k m/\y=.i k' c))(h2:∀l m l' c,¬ (x=.s l m/\y=.s l' c)):
 binOp .eql t a b=(do pure (.bool (←Op.equal t a b)))/\binOp .neq t a b=(do pure (.bool (!(←Op.equal t a b)))):=by
 cases q with
 | agg l=>
  simp only[kZ]at h;split at h
  case h_2=>cases h
  cases d;cases e;exact⟨rfl,rfl⟩
 | one q=>
  simp only[kZ]at h;unfold dL at h;split at h
  case h_22=>cases h
  case h_2=>exact absurd ⟨rfl,rfl⟩ (h1 _ _ _ _)
  case h_3=>exact absurd ⟨rfl,rfl⟩ (h2 _ _ _ _)
  all_goals (cases d<;>cases e<;>exact⟨rfl,rfl⟩)
def aa6(aC:cP P ty)(D:aK η T tmps)(E:bM η ty.g)(F:aU W η H n w){op:BinOp}{t u:TypeId}{x y:Operand}{a:A}(d:de ty (.binOp op t x y u)=some a)
 (hs:simple a T H n=some (v,H',n')):eW P W η H n w (do pure (.value (←(do eqGuard op t x y (ai tmps x) (ai tmps y);binOp op t (ai tmps x) (ai tmps y))))) v H' n':=by
 simp only[de]at d;split at d
 case h_2=>cases d
 rename_i G I J L;obtain⟨q,rfl,i⟩:∃q,a=.bin op q G I/\(isEq op=true->GZ ty t x y=some q):=by
  cases he:isEq op with
  | false=>rw[he]at d;injection d with d;exact⟨_,d.symm,λe=>by cases e⟩
  | true=>
   rw[he]at d;simp only[cond_true]at d;split at d
   case h_2=>cases d
   rename_i q i;injection d with d;exact⟨q,d.symm,λ_=>i⟩
 simp only[simple]at hs;split at hs
 case h_2=>cases hs
 rename_i R S M N;obtain⟨hb,rfl,rfl⟩:=kc hs;have rx:=bT D E J M;have c:=bT D E L N;generalize ai tmps x=U at rx;generalize ai tmps y=X at c;refine gC (sU.ok F ?_);unfold mq at hb;split at hb
 ·rename_i k m o f;refine ψ (zN (q:=q) aC i rx c (λe=>by cases e) ?_);cases rx;cases c;show sU P w η (Op.shift .shl k m o f) v;exact Pa hb
 ·rename_i k m o f;refine ψ (zN (q:=q) aC i rx c (λe=>by cases e) ?_);cases rx;cases c;show sU P w η (Op.shift .shr k m o f) v;exact Pa hb
 ·rename_i k m k' f O Q;refine ψ (zN (q:=q) aC i rx c (λ_=>.inr (.inl ⟨_,_,_,_,rfl,rfl⟩)) ?_);cases p:Nat.beq (kn k) (kn k') with
  | false=>rw[p]at hb;cases hb
  | true=>
   rw[p]at hb;have e:=EO p;subst e;cases rx;cases c;have z:op≠.shl/\op≠.shr:=⟨λe=>O e,λe=>Q e⟩;have:=O9 (P:=P) (w:=w) (η:=η) hb z;have eq:binOp op t (.int k m) (.int k f)=BR op k m f:=by cases op<;>first | exact absurd rfl z.1 | exact absurd rfl z.2 | (simp[binOp,BR])
   rw[eq];exact this
 ·rename_i l m l' f;refine ψ (zN (q:=q) aC i rx c (λ_=>.inr (.inr ⟨_,_,_,_,rfl,rfl⟩)) ?_);cases rx with
  | s _ _ h1=>cases c with
   | s _ _ h2=>
    have:=aax (P:=P) (w:=w) (η:=η) h1 h2 hb;have eq:binOp op t (.string (strOf l m)) (.string (strOf l' f))=Op.stringOp op (strOf l m) (strOf l' f):=by cases op<;>rfl
    rw[eq];exact this
 ·rename_i n1 B;split at hb
  case h_2=>cases hb
  rename_i r j;injection hb with hb;subst hb;refine ψ (zN (q:=q) aC i rx c (λ_=>.inl ⟨r,j⟩) ?_);obtain⟨C,_⟩:=PY (t:=t) rx c j (λk m k' f h=>n1 _ _ _ _ h.1 h.2) (λl m l' f h=>B _ _ _ _ h.1 h.2);rw[C];refine ψ ((PW aC (i rfl) rx c j).mono ?_);rintro b w' ⟨rfl,rfl⟩;exact iZ (.b _)
 ·rename_i n1 B;split at hb
  case h_2=>cases hb
  rename_i r j;injection hb with hb;subst hb;refine ψ (zN (q:=q) aC i rx c (λ_=>.inl ⟨r,j⟩) ?_);obtain⟨_,C⟩:=PY (t:=t) rx c j (λk m k' f h=>n1 _ _ _ _ h.1 h.2) (λl m l' f h=>B _ _ _ _ h.1 h.2);rw[C];refine ψ ((PW aC (i rfl) rx c j).mono ?_);rintro b w' ⟨rfl,rfl⟩;exact iZ (.b _)
 ·cases hb
def aa7(d:aK η T tmps)(f:bM η ty.g)(h:aU W η H n w){op:UnOp}{t:TypeId}{x:Operand}{a:A}(c:de ty (.unOp op t x)=some a)
 (hs:simple a T H n=some (v,H',n')):eW P W η H n w (do pure (.value (←Op.unary op (ai tmps x)))) v H' n':=by
 simp only[de]at c;split at c
 case h_2=>cases c
 rename_i l j;injection c with c;subst c;simp only[simple]at hs;split at hs
 case h_2=>cases hs
 rename_i u k;obtain⟨hb,rfl,rfl⟩:=kc hs;have rx:=bT d f j k;generalize ai tmps x=y at rx;refine gC (sU.ok h ?_);unfold HG at hb;split at hb
 ·injection hb with hb;subst hb;cases rx;rw[ri];exact iZ (.i _ _)
 ·injection hb with hb;subst hb;cases rx;exact iZ (.b _)
 ·cases rx;exact O9 (op:=.xor) hb ⟨λe=>(by cases e),λe=>(by cases e)⟩
 ·cases hb
end ops
end
section
section ops
variable {P:Program}{ty:Ty}{W:Nat->Code->AC->Prop}{η:Env}{T:Tr V}{H H':Hp}{n n':K}{w:World}{tmps:Array Value}{v:V}
def aa8(l m i:Nat)(hm:m<256 ^ l):((strOf l m).get! i).toNat=m / 256 ^ i % 256:=by
 have e:(strOf l m).get! i=(bD l m).toArray[i]!:=rfl;rw[e];by_cases h:i<l
 ·have hb:=OV l m i h;rw[getElem!_pos _ _ (by simpa[ql]using h)];have:(bD l m).toArray[i]'(by simpa[ql]using h)=UInt8.ofNat (m / 256 ^ i % 256):=by
   rw[aX (by rw[ql];exact h)]at hb;simpa using hb
  rw[this];simp
 ·rw[getElem!_neg _ _ (by simpa[ql]using h)];have:m / 256 ^ i=0:=Nat.div_eq_of_lt (eE hm (Br (by omega) (by omega)));rw[this];rfl
def fF(a b:Nat):Nat.blt a b=decide (a<b):=by rw[qT];simp[Nat.blt];omega
def jn(a b:Nat):Nat.ble a b=decide (a<=b):=by rw[qT];simp
def dP(a b:Nat):Nat.beq a b=decide (a=b):=by rw[qT];simp[Nat.beq_eq]
def aa9(l n:Nat):rune l n=Lib.decodeN l (n % 256) (n / 256 % 256) (n / 65536 % 256) (n / 16777216 % 256):=by have d:∀c:Nat,(65536<=c/\(c<55296\/(57344<=c/\c<=1114111)))=(65536<=c/\c<=1114111):=λc=>propext ⟨λh=>by omega,λh=>by omega⟩;have e:∀a b:Nat,Nat.div a b=a / b:=λ_ _=>rfl;have hm:∀a b:Nat,Nat.mod a b=a % b:=λ_ _=>rfl;simp only[rune,Lib.decodeN,gU,fF,jn,dP,aD,mX,cC,ge_iff_le,and_assoc,d,e,hm]
def PZ{l m i:Nat}(hm:m<256 ^ l):Utf8.decode (strOf l m) i=rune (l - i) (m / 256 ^ i):=by
 have g:∀k,((strOf l m).get! (i+k)).toNat=m / 256 ^ i / 256 ^ k % 256:=λk=>by rw[aa8 _ _ _ hm,Nat.pow_add,Bw]
 have g0:=g 0;rw[Lib.decode_at,aa9,g 1,g 2,g 3,sT];simp only[Nat.pow_zero,Nat.div_one,j6]at g0;rw[g0,Nat.pow_one,show 256 ^ 2=65536 from rfl,show 256 ^ 3=16777216 from rfl]
def aba(η:Env)(l m:Nat):aL η (zy l m) ((bD l m).map λb=>Value.int .u8 b.toNat):=by
 induction l generalizing m with
 | zero=>exact .nil
 | succ l ih=>
  simp only[zy,bD,eY];refine .cons _ _ _ _ ?_ (ih _);have:(UInt8.ofNat (m % 256)).toNat=m % 256:=by simp
  rw[this];exact .i _ _
def abb(l m:Nat):(zy l m).length=l:=by
 induction l generalizing m with
 | zero=>rfl
 | succ l ih=>simp[zy,ih]
def wc(t:aU W η H n w){z l:Nat}{x:V}{y:Value}{vs:List V}(d:an η x y)(h:elems H z x=some (l,vs)):
 vs.length=l*z/\Builtin.lenOf y=pure l/\∀m,m<=l->aN P (Builtin.firstCells z m y) w λr w'=>aL η (vs.take (m*z)) r.toList/\w'=w:=by
 have row:∀(b:K) (o:Nat) (L:Loc) (c:Nat),η b=some L->(match rowAt H b with
  | some r=>match cw r o (Nat.mul l z) with | some vs=>some (l,vs) | none=>none
  | none=>none)=some (l,vs)->vs.length=l*z/\∀m,m<=l->aN P (Builtin.firstCells z m (.slice (some ⟨L.blk,L.off+o,none⟩) l c)) w λr w'=>aL η (vs.take (m*z)) r.toList/\w'=w:=by
  intro b o L c f h;split at h
  ·rename_i r u;split at h
   ·rename_i E hv;injection h with h;injection h with _ h;subst h;obtain⟨rfl,p⟩:=nj hv;have p:o+l*z<=r.length:=p;have hlen:((r.drop o).take (Nat.mul l z)).length=l*z:=by
     rw[ov,sM];show min (l*z) _=_;omega
    refine⟨hlen,λm hm=>?_⟩;have F:m*z<=l*z:=gE z hm;have A:cw r o (m*z)=some ((r.drop o).take (m*z)):=by
     cases e:cw r o (m*z) with
     | some q=>rw[(nj e).1]
     | none=>
      exfalso;have B:∀(k:Nat) (q:List V),k<=q.length->mn k q=some (q.drop k):=by
       intro k
       induction k with
       | zero=>intro q _;rfl
       | succ k ih=>intro q g;cases q with | nil=>simp at g | cons a q=>simp only[mn,zu];exact ih q (by simpa using g)
      have ht:∀(k:Nat) (q:List V),k<=q.length->takeN k q=some (q.take k):=by
       intro k
       induction k with
       | zero=>intro q _;rfl
       | succ k ih=>intro q g;cases q with | nil=>simp at g | cons a q=>simp only[takeN,ih q (by simpa using g),j7]
      unfold cw at e;rw[B o r (by omega)]at e;simp only at e;rw[ht (m*z) (r.drop o) (by rw[sM];omega)]at e;cases e
    have C:((r.drop o).take (Nat.mul l z)).take (m*z)=(r.drop o).take (m*z):=by rw[List.take_take];congr 1;show min (m*z) (l*z)=_;omega
    rw[C];obtain⟨L',cs,e,fr,h1,h2,i,D⟩:=HV t u A;rw[f]at h1;injection h1 with h1;subst h1;show aN P (loadCells _ (m*z)) w _;rcases i with i | i
    ·rw[i];exact Ω ⟨.nil,rfl⟩
    ·refine(OZ h2 (m*z) i).mono ?_;rintro r' w' ⟨rfl,rfl⟩;exact⟨D,rfl⟩
   ·cases h
  ·cases h
 unfold elems at h;split at h
 ·injection h with h;injection h with h1 h2;subst h1;subst h2;cases d;exact⟨by simp,rfl,λm _=>Ω ⟨by simpa using aL.nil,rfl⟩⟩
 ·rename_i b o l' c;cases d with
  | sl _ _ _ _ L f=>
   have hl:l'=l:=by
    split at h
    ·split at h
     ·injection h with h;injection h
     ·cases h
    ·cases h
   subst hl;obtain⟨h1,h2⟩:=row b o L c f h;exact⟨h1,rfl,h2⟩
 ·rename_i b o l' e;cases he:Nat.beq e z with
  | false=>rw[he]at h;cases h
  | true=>
   rw[he]at h;simp only[cond_true]at h;cases h0:Nat.beq l' 0 with
   | true=>
    rw[h0]at h;simp only[cond_true]at h;injection h with h;injection h with h1 h2;subst h1;subst h2;have:l'=0:=bY h0;subst this;refine⟨by simp,by cases d<;>rfl,λm hm=>?_⟩;have:m=0:=by omega
    subst this;cases d<;>(simp only[Builtin.firstCells,Nat.zero_mul];exact Ω ⟨.nil,rfl⟩)
   | false=>
    rw[h0]at h;simp only[cond_false]at h;have hl:l'=l:=by
     split at h
     ·split at h
      ·injection h with h;injection h
      ·cases h
     ·cases h
    subst hl;cases d with
    | su _ _ _ _ L c f _ _=>
     obtain⟨h1,h2⟩:=row b o L c f h;exact⟨h1,rfl,h2⟩
    | se=>cases h0
 ·rename_i l' m;cases j:Nat.beq z 1 with
  | false=>rw[j]at h;cases h
  | true=>
   rw[j]at h;simp only[cond_true]at h;injection h with h;injection h with h1 h2;subst h1;subst h2;have:z=1:=bY j;subst this;cases d with
   | s _ _ hm=>
    refine⟨by rw[abb];simp,?_,λk G=>?_⟩
    ·show(pure (strOf l' m).size:Sem Nat)=_;rw[sT]
    ·refine Ω ⟨?_,rfl⟩;rw[kp];have e:(((strOf l' m).extract 0 k).data.map λb=>Value.int .u8 b.toNat).toList=((bD l' m).map λb=>Value.int .u8 b.toNat).take k:=by
      simp[strOf,ByteArray.extract,ByteArray.copySlice,List.map_take]
     rw[e];exact(aba η l' m).sub 0 k
 ·cases h
end ops
end
section
section ops
variable {P:Program}{ty:Ty}{W:Nat->Code->AC->Prop}{η:Env}{T:Tr V}{H H':Hp}{n n':K}{w:World}{tmps:Array Value}{v:V}
def abd(l:List Value)(s:ByteArray){bs:List UInt8}(h:l=bs.map λb=>Value.int .u8 b.toNat):
 aN P (forIn l s (λc s=>do
  let .int .u8 n:=c | stuck "bytesToString: byte expected"
  pure (ForInStep.yield (s.push (UInt8.ofNat n.toNat))))) w λr w'=>r.data.toList=s.data.toList++bs/\w'=w:=by
 induction bs generalizing l s with
 | nil=>subst h;exact Ω ⟨by simp,rfl⟩
 | cons b bs ih=>
  subst h;rw[eY,List.forIn_cons];refine ψ (Ω ?_);have e:(UInt8.ofNat (Int.ofNat b.toNat).toNat)=b:=by simp
  refine aN.mono (s:=forIn _ (s.push (UInt8.ofNat (Int.ofNat b.toNat).toNat)) _) (ih _ _ rfl) ?_;rintro r w' ⟨h1,rfl⟩;refine⟨?_,rfl⟩;rw[h1,e];simp
def P2{l:List V}{m:Nat}(h:ofBytes l=some m){l':List Value}(hl:aL η l l'):l'=(bD l.length m).map (λb=>Value.int .u8 b.toNat)/\m<256 ^ l.length:=by
 induction l generalizing m l' with
 | nil=>simp only[ofBytes]at h;injection h with h;subst h;cases hl;exact⟨rfl,by simp⟩
 | cons a l ih=>
  unfold ofBytes at h;split at h
  ·rename_i he;cases he
  ·rename_i b l1 he;injection he with c d;subst c;subst d;split at h
   ·rename_i n e;cases hb:Nat.blt b 256 with
    | false=>rw[hb]at h;cases h
    | true=>
     rw[hb]at h;simp only[cond_true]at h;injection h with h;subst h;have j:b<256:=by rw[fF]at hb;simpa using hb
     cases hl with
     | cons _ v' _ l' h1 h2=>
      cases h1;obtain⟨f,k⟩:=ih e h2;have g:Nat.add b (Nat.mul 256 n) % 256=b:=by show(b+256*n) % 256=b;omega
      have i:Nat.add b (Nat.mul 256 n) / 256=n:=by show(b+256*n) / 256=n;omega
      refine⟨?_,?_⟩
      ·rw[eh,bD,eY,g,i,←f];congr 1;have:(UInt8.ofNat b).toNat=b:=by simp;omega
       rw[this];rfl
      ·rw[eh,iM];show b+256*n<_;omega
   ·cases h
  ·cases h
def abe(η:Env){l m:Nat}(hm:m<256 ^ l)(f i:Nat)(acc:Array Value):
 ∃xs,(Conv.runesFrom (strOf l m) f i acc).toList=acc.toList++xs/\aL η (tU f (l - i) (m / 256 ^ i)) xs:=by
 induction f generalizing i acc with
 | zero=>exact⟨[],by simp[Conv.runesFrom],.nil⟩
 | succ f ih=>
  unfold Conv.runesFrom tU;rw[sT];by_cases h:i<l
  ·rw[ab h];have:Nat.beq (l - i) 0=false:=by cases hb:Nat.beq (l - i) 0 with | false=>rfl | true=>have:=bY hb;omega
   rw[this];simp only[cond_false];rw[PZ hm];generalize c:rune (l - i) (m / 256 ^ i)=r;obtain⟨xs,h1,h2⟩:=ih (i+r.2) (acc.push (.int .i32 (Int.ofNat r.1)));refine⟨.int .i32 (Int.ofNat r.1)::xs,by simp only[h1];simp,.cons _ _ _ _ (.i _ _) ?_⟩;have a:Nat.sub (l - i) r.2=l - (i+r.2):=by show l - i - r.2=_;omega
   have b:Nat.div (m / 256 ^ i) (Nat.pow 256 r.2)=m / 256 ^ (i+r.2):=by show m / 256 ^ i / 256 ^ r.2=_;rw[Bw,Nat.pow_add]
   rw[a,b];exact h2
  ·rw[Γ h];have:l - i=0:=by omega
   rw[this];exact⟨[],by simp,.nil⟩
def P3{k:IntKind}{x:V}{r:V×Hp×K}(h:qJ H n (.toInt k) x=some r):∃k' m,x=.i k' m/\r=(.i k (wr k m),H,n):=by cases x<;>first | (cases h;done) | (injection h with h;exact⟨_,_,rfl,h.symm⟩)
def P4{x:V}{r:V×Hp×K}(h:qJ H n .same x=some r):∃l m,x=.s l m/\r=(.s l m,H,n):=by cases x<;>first | (cases h;done) | (injection h with h;exact⟨_,_,rfl,h.symm⟩)
def P5{x:V}{r:V×Hp×K}(h:qJ H n .BA x=some r):(∀l m,x≠.s l m)/\∃l vs m,elems H 1 x=some (l,vs)/\ofBytes vs=some m/\r=(.s l m,H,n):=by
 unfold qJ at h;split at h<;>first | (rename_i he;cases he;done) | (rename_i he _;cases he;done) | (cases h;done) | skip
 rename_i a;refine⟨λl m e=>a l m e,?_⟩;split at h
 ·rename_i l vs he;split at h
  ·rename_i m hm;injection h with h;exact⟨l,vs,m,he,hm,h.symm⟩
  ·cases h
 ·cases h
def P6{e:Nat}{x:V}{r:V×Hp×K}(h:qJ H n (.Hz e) x=some r):∃l m,x=.s l m/\jD H n (.c (tU l l m) e 0) (.su n 0 (tU l l m).length 1)=some r:=by cases x<;>first | (cases h;done) | exact⟨_,_,rfl,h⟩
def P7{x:V}{r:V×Hp×K}(h:qJ H n .AL x=some r):∃k m,x=.i k (.ofNat m)/\qU m=true/\r=(.s (oz m) (qV m),H,n):=by
 unfold qJ at h;split at h<;>first | (rename_i he;cases he;done) | (rename_i he _;cases he;done) | (cases h;done) | skip
 rename_i k m _;cases hb:qU m with
 | false=>rw[hb]at h;cases h
 | true=>
  rw[hb]at h;simp only[cond_true]at h;injection h with h;exact⟨k,m,rfl,hb,h.symm⟩
def dg(a X:Nat)(b:a<256):(a+256*X) % 256=a % 256/\(a+256*X) / 256=X:=⟨by omega,by omega⟩
def Ie{m:Nat}(h:qU m=true):Utf8.encode (Int.ofNat m)=strOf (oz m) (qV m)/\qV m<256 ^ oz m:=by
 simp only[qU,fF,jn,mX,aD,cC]at h;have hv:Utf8.valid (m:Int)=true:=by simp only[Utf8.valid,mX,aD,cC];omega
 have c:∀{a b:Nat},a % 256=b % 256->UInt8.ofNat a=UInt8.ofNat b:=λh=>by apply UInt8.toNat.inj;simpa using h
 unfold Utf8.encode oz qV;simp only[hv,if_true,Int.ofNat_eq_natCast,Int.toNat_natCast,fF];by_cases h1:m<128
 ·simp only[h1,if_true,decide_true,cond_true];refine⟨?_,by omega⟩;simp only[strOf,bD];rw[show UInt8.ofNat (m % 256)=UInt8.ofNat m from c (by omega)]
 ·simp only[h1,if_false,decide_false,cond_false];by_cases h2:m<2048
  ·simp only[h2,if_true,decide_true,cond_true];refine⟨?_,by omega⟩;obtain⟨d,e⟩:=dg (192+m / 64) (128+m % 64) (by omega);simp only[strOf,bD,d,e];rw[c (a:=(192+m / 64) % 256) (b:=0xC0+m / 64) (by omega),c (a:=(128+m % 64) % 256) (b:=0x80+m % 64) (by omega)]
  ·simp only[h2,if_false,decide_false,cond_false];by_cases i:m<65536
   ·simp only[i,if_true,decide_true,cond_true];refine⟨?_,by omega⟩;obtain⟨d,e⟩:=dg (224+m / 4096) (128+m / 64 % 64+256*(128+m % 64)) (by omega);obtain⟨f,g⟩:=dg (128+m / 64 % 64) (128+m % 64) (by omega);simp only[strOf,bD,d,e,f,g];rw[c (a:=(224+m / 4096) % 256) (b:=0xE0+m / 4096) (by omega),c (a:=(128+m / 64 % 64) % 256) (b:=0x80+m / 64 % 64) (by omega),c (a:=(128+m % 64) % 256) (b:=0x80+m % 64) (by omega)]
   ·simp only[i,if_false,decide_false,cond_false];refine⟨?_,by omega⟩;obtain⟨d,e⟩:=dg (240+m / 262144) (128+m / 4096 % 64+256*(128+m / 64 % 64+256*(128+m % 64))) (by omega);obtain⟨f,g⟩:=dg (128+m / 4096 % 64) (128+m / 64 % 64+256*(128+m % 64)) (by omega);obtain⟨j,k⟩:=dg (128+m / 64 % 64) (128+m % 64) (by omega);simp only[strOf,bD,d,e,f,g,j,k];rw[c (a:=(240+m / 262144) % 256) (b:=0xF0+m / 262144) (by omega),c (a:=(128+m / 4096 % 64) % 256) (b:=0x80+m / 4096 % 64) (by omega),c (a:=(128+m / 64 % 64) % 256) (b:=0x80+m / 64 % 64) (by omega),c (a:=(128+m % 64) % 256) (b:=0x80+m % 64) (by omega)]
def P8{x:V}{r:V×Hp×K}(h:qJ H n .GQ x=some r):(x=.np/\r=(.np,H,n))\/∃b p q e,x=.p b 0/\H.get b=some (.b p q e)/\r=(.p b 0,H,n):=by
 unfold qJ at h;split at h<;>first | (rename_i he;cases he;done) | (rename_i he _;cases he;done) | (cases h;done) | skip
 ·injection h with h;exact .inl ⟨rfl,h.symm⟩
 ·rename_i b _;split at h
  ·rename_i p q e hb;injection h with h;exact .inr ⟨b,p,q,e,rfl,hb,h.symm⟩
  ·cases h
def P9{u:Nat}{x:V}{r:V×Hp×K}(h:qJ H n (.GR u) x=some r):(x=.np/\r=(.np,H,n))\/∃b p q,x=.p b 0/\H.get b=some (.b p q u)/\r=(.p b 0,H,n):=by
 unfold qJ at h;split at h<;>first | (rename_i he;cases he;done) | (rename_i he _;cases he;done) | (cases h;done) | skip
 ·injection h with h;exact .inl ⟨rfl,h.symm⟩
 ·rename_i c b he;injection he with he;subst he;split at h
  ·rename_i p q e hb;cases a:Nat.beq e u with
   | false=>rw[a]at h;cases h
   | true=>
    rw[a]at h;injection h with h;have:=bY a;subst this;exact .inr ⟨b,p,q,rfl,hb,h.symm⟩
  ·cases h
def Qa(a:aU W η H n w){b:K}{p q:V}{e:Nat}(h:H.get b=some (.b p q e)){L:Loc}(c:η b=some L):L.off=0/\w.shape? L.blk=some (e,2):=by obtain⟨L',h1,_,h0,u,v,d,_⟩:=a.obj b _ h;rw[c]at h1;injection h1 with h1;subst h1;refine⟨h0,?_⟩;simp[World.shape?,d]
def abf(aC:cP P ty)(hT:aK η T tmps)(hG:bM η ty.g)(E:aU W η H n w){s d:TypeId}{x:Operand}{a:A}(f:de ty (.convert s d x)=some a)
 (hs:simple a T H n=some (v,H',n')):eW P W η H n w (do pure (.value (←convert s d (ai tmps x)))) v H' n':=by
 simp only[de]at f;split at f
 case h_2=>cases f
 rename_i i j x' hi hj hx;have z:=(aC.ok _ _ hi).desc;have B:=(aC.ok _ _ hj).desc;refine gC ?_;unfold convert;have key:∀k,simple (.cv k x') T H n=some (v,H',n')->∃u,qJ H n k u=some (v,H',n')/\an η u (ai tmps x):=λk O=>by
  simp only[simple]at O;split at O
  ·rename_i u C;exact⟨u,O,bT hT hG hx C⟩
  ·cases O
 split at f
 ·rename_i k1 k2 F G;injection f with f;subst f;rw[F]at z;rw[G]at B;obtain⟨u,C,o⟩:=key _ hs;obtain⟨k',m,rfl,he⟩:=P3 C;injection he with h1 h2;injection h2 with h2 D;subst h1;subst h2;subst D;generalize ai tmps x=y at o;cases o;refine ψ (aY z (ψ (aY B ?_)));refine Ω ⟨η,.refl E,?_⟩;rw[ri];exact .i _ _
 ·rename_i F G;injection f with f;subst f;rw[F]at z;rw[G]at B;obtain⟨u,C,o⟩:=key _ hs;obtain⟨l,m,rfl,he⟩:=P4 C;injection he with h1 h2;injection h2 with h2 D;subst h1;subst h2;subst D;refine ψ (aY z (ψ (aY B ?_)));generalize ai tmps x=y at o;cases o with
  | s _ _ hm=>exact Ω ⟨η,.refl E,.s _ _ hm⟩
 ·rename_i k1 F G;injection f with f;subst f;rw[F]at z;rw[G]at B;obtain⟨u,C,o⟩:=key _ hs;obtain⟨k,m,rfl,hm,he⟩:=P7 C;injection he with h1 h2;injection h2 with h2 D;subst h1;subst h2;subst D;refine ψ (aY z (ψ (aY B ?_)));generalize ai tmps x=y at o;cases o;refine Ω ⟨η,.refl E,?_⟩;rw[(Ie hm).1];exact .s _ _ (Ie hm).2
 ·rename_i e F G;cases hb:Nat.beq e ty.b with
  | false=>rw[hb]at f;cases f
  | true=>
   rw[hb]at f;simp only[cond_true]at f;injection f with f;subst f;rw[F]at z;rw[G]at B;obtain⟨u,C,o⟩:=key _ hs;change aN P (convert s d (ai tmps x)) w _;have he:=bY hb;obtain⟨ti,Q,Z⟩:=Option.map_eq_some_iff.1 aC.Z5;rcases P8 C with ⟨rfl,I⟩ | ⟨b,p,q,e',rfl,R,I⟩
   ·injection I with h1 h2;injection h2 with h2 D;subst h1;subst h2;subst D;generalize ai tmps x=y at o;cases o;refine⟨.pointer none,w,?_,η,.refl E,.np⟩;simp[convert,run_underlying z,run_underlying B,Conv.unsafePointer]
   ·injection I with h1 h2;injection h2 with h2 D;subst h1;subst h2;subst D;generalize ai tmps x=y at o;cases o with
    | p _ _ L N=>
     obtain⟨s1,S⟩:=Qa E R N;exact⟨_,w,Go.Lib.run_to_unsafe (P:=P) (w:=w) ⟨L.blk,L.off+0,none⟩ z B (by rw[he];exact Q) (by rw[Z];decide) S (by show L.off+0<2;omega),η,.refl E,.p _ _ _ N⟩
 ·rename_i e F G;cases hb:Nat.beq e ty.b with
  | false=>rw[hb]at f;cases f
  | true=>
   rw[hb]at f;simp only[cond_true]at f;injection f with f;subst f;rw[F]at z;rw[G]at B;obtain⟨u,C,o⟩:=key _ hs;change aN P (convert s d (ai tmps x)) w _;have he:=bY hb;obtain⟨ti,Q,Z⟩:=Option.map_eq_some_iff.1 aC.Z5;rcases P9 C with ⟨rfl,I⟩ | ⟨b,p,q,rfl,R,I⟩
   ·injection I with h1 h2;injection h2 with h2 D;subst h1;subst h2;subst D;generalize ai tmps x=y at o;cases o;refine⟨.pointer none,w,?_,η,.refl E,.np⟩;simp[convert,run_underlying z,run_underlying B,Conv.unsafePointer]
   ·injection I with h1 h2;injection h2 with h2 D;subst h1;subst h2;subst D;generalize ai tmps x=y at o;cases o with
    | p _ _ L N=>
     obtain⟨s1,S⟩:=Qa E R N;exact⟨_,w,Go.Lib.run_from_unsafe (P:=P) (w:=w) ⟨L.blk,L.off+0,none⟩ z B (by rw[he];exact Q) S (by rw[he,s1];exact aC.Z6),η,.refl E,.p _ _ _ N⟩
 ·rename_i e F G;split at f
  ·rename_i j' _ _ _ U;injection f with f;subst f;rw[F]at z;rw[G]at B;have X:=(aC.ok _ _ U).desc;obtain⟨u,C,o⟩:=key _ hs;obtain⟨DI,l,vs,m,he,hb,I⟩:=P5 C;injection I with h1 h2;injection h2 with h2 D;subst h1;subst h2;subst D;obtain⟨q1,q2,J⟩:=wc (P:=P) E o he;have J:=J l (ξ _);rw[ot (by omega)]at J;refine ψ (aY z (ψ (aY B ?_)));generalize ai tmps x=y at o q2 J;have gI:∃A l' c,y=.slice A l' c:=by
    cases o<;>first | exact⟨_,_,_,rfl⟩ | (exact absurd rfl (DI _ _)) | (cases he;done)
   obtain⟨A,l',c,rfl⟩:=gI;refine ψ (aY X ?_);have hl:l'=l:=by have:=congrArg (λs:Sem Nat=>s.run P w) q2;simpa[Builtin.lenOf,Sem.run,pure]using this
   subst hl;cases A with
   | none=>
    obtain⟨r,w',g1,M,_⟩:=J;have g1:(Result.ok #[] w:Result (Array Value))=.ok r w':=g1;injection g1 with g1 _;subst g1;cases M;have nu:m=0:=by simp only[ofBytes]at hb;injection hb with hb;exact hb.symm
    have fS:l'=0:=by simpa using q1.symm
    subst nu;subst fS;exact Ω ⟨η,.refl E,.s 0 0 (by simp)⟩
   | some A=>
    have J:aN P (loadCells A (l'*1)) w λr w'=>aL η vs r.toList/\w'=w:=J;rw[kp]at J;refine ψ (J.mono ?_);rintro r w' ⟨g1,rfl⟩;obtain⟨o1,o2⟩:=P2 hb g1;rw[←Array.forIn_toList];have hlen:vs.length=l':=by omega
    rw[hlen]at o1 o2;refine ψ (aN.mono (abd r.toList .empty o1) ?_);rintro r' w' ⟨M,rfl⟩;refine Ω ⟨η,.refl E,?_⟩;have:r'=strOf l' m:=by
     show r'=(⟨(bD l' m).toArray⟩:ByteArray);have:r'.data=(bD l' m).toArray:=by apply jB;rw[M];simp
     rw[←this]
    rw[this];exact .s _ _ o2
  ·cases f
 ·rename_i e F G;split at f
  ·rename_i j' _ _ _ U;injection f with f;subst f;rw[F]at z;rw[G]at B;have X:=(aC.ok _ _ U).desc;obtain⟨u,C,o⟩:=key _ hs;obtain⟨l,m,rfl,he⟩:=P6 C;obtain⟨rfl,rfl,rfl⟩:=oC he;generalize ai tmps x=y at o;cases o with
   | s _ _ hm=>
    refine ψ (aY z (ψ (aY B ?_)));refine ψ (aY X ?_);obtain⟨xs,g1,M⟩:=abe η hm l 0 #[];simp only[mY,Nat.pow_zero,Nat.div_one]at M;unfold Conv.stringToRunes;rw[sT];have dN:(Conv.runesFrom (strOf l m) l 0 #[]).size=xs.length:=by rw[←zj,g1];simp
    have lC:xs.length=(tU l l m).length:=M.length.symm;have fin:∀(Y:World) (d:Nat),Y={ w with drawn:=d}->∀t,aN P (do
     let a←newRow e (Conv.runesFrom (strOf l m) l 0 #[]++Array.replicate ((Question.appendCap (Conv.runesFrom (strOf l m) l 0 #[]).size 0 e).cut t - (Conv.runesFrom (strOf l m) l 0 #[]).size) (.int .i32 0))
     pure (Value.slice (some a) (Conv.runesFrom (strOf l m) l 0 #[]).size ((Question.appendCap (Conv.runesFrom (strOf l m) l 0 #[]).size 0 e).cut t))) Y
     λy w'=>∃η',Trans W η H n w η' (H.put (some (.c (tU l l m) e 0)) n) n.succ w'/\an η' (.su n 0 (tU l l m).length 1) y:=by
     rintro Y d rfl t;rw[dN];generalize rp:(Question.appendCap xs.length 0 e).cut t=cap;have BX:xs.length<=cap:=by rw[←rp];simp only[Question.cut];omega
     refine ψ (ψ (tZ (Ω (Ω ?_))));obtain⟨η',k1,k2⟩:=EL (E.drawn d) e M (List.replicate (cap - xs.length) (Value.int .i32 0));have fg:Conv.runesFrom (strOf l m) l 0 #[]++Array.replicate (cap - xs.length) (Value.int .i32 0)=(xs++List.replicate (cap - xs.length) (Value.int .i32 0)).toArray:=by apply jB;rw[Array.toList_append,g1];simp
     refine⟨η',?_,?_⟩
     ·rw[fg];exact⟨k1.ext,k1.le,k1.rep,⟨k1.kept.os,k1.kept.tape,k1.kept.output,k1.kept.size,k1.kept.block,k1.kept.loops⟩,k1.ka,k1.bC⟩
     ·rw[lC];have:=an.su (η:=η') n 0 xs.length 1 _ cap k2 BX (by simp;omega);rw[lC]at this;exact this
    refine ψ (OX (λt d _=>?_) (λh=>by cases h));exact fin _ d rfl t
  ·cases f
 ·cases f
end ops
end
section
section ops
variable {P:Program}{ty:Ty}{W:Nat->Code->AC->Prop}{η:Env}{T:Tr V}{H H':Hp}{n n':K}{w:World}{tmps:Array Value}{v:V}
def abg{m:Mark}{Φ:Unit->World->Prop}(h:Φ () w):aN P (mark m) w Φ:=⟨(),w,rfl,h⟩
def Qb{b:Nat}{Φ:Unit->World->Prop}(h:Φ () w):aN P (askRoom b) w Φ:=by
 unfold askRoom;split
 ·exact abg h
 ·exact Ω h
def abh(aC:cP P ty)(k:aK η T tmps)(m:bM η ty.g)(s:aU W η H n w){t:TypeId}{x y:Operand}{a:A}
 (b:de ty (.makeSlice t x y)=some a)(hs:simple a T H n=some (v,H',n')):
 eW P W η H n w (do pure (.value (←Instr.makeSlice t (ai tmps x) (ai tmps y)))) v H' n':=by
 simp only[de]at b;split at b
 case h_2=>cases b
 rename_i i l c hi u B;split at b
 case h_2=>cases b
 rename_i e C;split at b
 case h_2=>cases b
 rename_i j hj;injection b with b;subst b;simp only[simple]at hs;split at hs
 case h_2=>cases hs
 rename_i k1 l' k2 c' hl D;have o:=bT k m u hl;have p:=bT k m B D;cases hb:(Nat.ble l' c'&&Nat.ble (Nat.mul c' j.bytes) 140737488355328&&Nat.ble c' 9223372036854775807) with
 | false=>rw[hb]at hs;cases hs
 | true=>
  rw[hb]at hs;simp only[cond_true]at hs;simp only[jn,aD,cC]at hb;obtain⟨⟨b1,b2⟩,b3⟩:=hb;have b2:c'*j.bytes<=140737488355328:=b2;obtain⟨rfl,rfl,rfl⟩:=oC hs;have q:=(aC.ok _ _ hi).desc;rw[C]at q;generalize ai tmps x=U at o;generalize ai tmps y=X at p;cases o;cases p;obtain⟨ti,z,h1,h2,E,Y,Z,h6,h7,F,h9⟩:=(aC.ok _ _ hj).info;refine gC (ψ (aY q ?_));refine ψ (ψ (Ω (Ω ?_)));refine ψ (ψ (Ω (Ω ?_)));refine ψ (wb h1 ?_);have G:IntKind.i64.wrap (Int.ofNat l')=l':=wrap_i64 (qS _) (by show((_:Nat):Int)<=_;omega);have I:IntKind.i64.wrap (Int.ofNat c')=c':=wrap_i64 (qS _) (by show((_:Nat):Int)<=_;omega);simp only[G,I];have J:(2:Int) ^ 48=281474976710656:=rfl;have L:¬ ((c':Int)<0):=by omega
  have M:¬ ((ti.bytes:Int)*(c':Int)>2 ^ 48):=by
   rw[E,J];have:(j.bytes:Int)*(c':Int)<=140737488355328:=by rw[Int.mul_comm,←Int.natCast_mul];exact Int.ofNat_le.2 b2
   omega
  have N:¬ ((l':Int)<0):=by omega
  have O:¬ ((l':Int)>(c':Int)):=by omega
  rw[Γ (by
   rw[mX,mX,mX,cC,cC,cC,cC];rintro(((h | h) | h) | h)
   ·exact L h
   ·exact M h
   ·exact N h
   ·exact O h)]
  refine ψ (Qb ?_);refine ψ (lu (aC.ok _ _ hj) ?_);simp only[Int.toNat_natCast];have r:∀d:Array Value,(∀η,aL η (dS j.zero c') ((Array.range (c'*j.size)).map (d[· % d.size]!)).toList)->aN P (do
   let a←newRow e ((Array.range (c'*j.size)).map (d[· % d.size]!))
   pure (Value.slice (some a) l' c')) w λy w'=>∃η',Trans W η H n w η' (H.put (some (.c (dS j.zero c') e 0)) n) n.succ w'/\an η' (.sl n 0 l' c') y:=by
   intro d f;obtain⟨η',g1,Q⟩:=EL s e (f η) [];refine ψ (ψ (tZ (Ω (Ω ⟨η',?_,?_⟩))))
   ·simpa only[List.append_nil,Array.toArray_toList]using g1
   ·exact an.sl (η:=η') n 0 l' c' _ Q
  by_cases h0:c'*j.size=0
  ·rw[ab h0];exact ψ (Ω (r #[] (λη=>by
    have:dS j.zero c'=[]:=by rw[←kW,uf,F,h0]
    rw[this,h0];have R:Array.range 0=#[]:=rfl;rw[R,Array.map_empty];exact .nil)))
  ·rw[Γ h0];refine ψ (rh (aC.ok _ _ hj) λz f _ _ S=>ψ (Ω ?_));exact r z.cells (λη=>EM (f η) c' _ (by rw[S]))
def EV{x:Operand}(c:aK η T tmps)(e:bM η ty.g){a:ao}{p d cap:Nat}{code:BoundsCode}(f:br ty x=some a)(h:cL T d (some a)=some p)(hp:p<=cap)
 {Φ:Nat->World->Prop}(k:Φ p w):aN P (Instr.sliceBound (ai tmps x) cap code) w Φ:=by
 simp only[cL]at h;split at h
 ·rename_i u i;have b:=bT c e f i;unfold HH at h;split at h
  ·rename_i k' m;injection h with h;subst h;generalize ai tmps x=y at b;cases b;refine ψ (Ω ?_);refine Ia ⟨by simp,by simpa using hp⟩ (Ω ?_);simpa using k
  ·cases h
 ·cases h
def Ii(j:aK η T tmps)(k:bM η ty.g){lo hi mx:Option Operand}{A s t:Option ao}(h1:sO ty lo=some A)(h2:sO ty hi=some s)(C:sO ty mx=some t)
 (hm:t.isSome=true->s.isSome=true){len cap p q m:Nat}(e:cL T 0 A=some p)(a:cL T len s=some q)(f:cL T cap t=some m)(D:p<=q)(B:q<=m)(E:m<=cap)(b:Bool):
 aN P (Instr.sliceBounds b len cap (lo.map (ai tmps)) (hi.map (ai tmps)) (mx.map (ai tmps))) w λr w'=>r=(p,q,m)/\w'=w:=by
 have co:∀{x:Option Operand} {o:Option ao},sO ty x=some o->(x=none/\o=none)\/∃y d,x=some y/\o=some d/\br ty y=some d:=by
  intro x o h;cases x with
  | none=>simp only[sO]at h;injection h with h;exact .inl ⟨rfl,h.symm⟩
  | some y=>
   simp only[sO]at h;split at h
   ·rename_i d i;injection h with h;exact .inr ⟨y,d,rfl,h.symm,i⟩
   ·cases h
 have low:∀(c:BoundsCode) (jp:Nat->Sem (Nat×Nat×Nat)) (Φ:Nat×Nat×Nat->World->Prop),aN P (jp p) w Φ->aN P (match lo.map (ai tmps) with
  | some v=>do
   let l←Instr.sliceBound v q c
   jp l
  | none=>do
   let l←pure 0
   jp l) w Φ:=by
  intro c jp Φ hj;rcases co h1 with ⟨rfl,rfl⟩ | ⟨y,d,rfl,rfl,i⟩
  ·simp only[cL]at e;injection e with e;subst e;exact ψ (Ω hj)
  ·exact ψ (EV j k i e D hj)
 unfold Instr.sliceBounds;rcases co C with ⟨rfl,rfl⟩ | ⟨y,d,rfl,rfl,i⟩
 ·simp only[cL]at f;injection f with f;subst f;refine ψ (Ω ?_);rcases co h2 with ⟨rfl,rfl⟩ | ⟨z,F,rfl,rfl,u⟩
  ·simp only[cL]at a;injection a with a;subst a;refine ψ (Ω ?_);exact low _ _ _ (Ω ⟨rfl,rfl⟩)
  ·refine ψ (EV j k u a B ?_);exact low _ _ _ (Ω ⟨rfl,rfl⟩)
 ·refine ψ (EV j k i f E ?_);rcases co h2 with ⟨rfl,rfl⟩ | ⟨z,F,rfl,rfl,u⟩
  ·cases hm rfl
  ·refine ψ (EV j k u a B ?_);exact low _ _ _ (Ω ⟨rfl,rfl⟩)
def abj{lo hi mx:Option ao}{x:V}(h:lP .str T x lo hi mx=some v):
 ∃l m p q,x=.s l m/\mx=none/\cL T 0 lo=some p/\cL T l hi=some q/\p<=q/\q<=l/\v=.s (Nat.sub q p) (BE m p q):=by
 cases x<;>try (cases h;done)
 rename_i l m;simp only[lP]at h;split at h
 case h_2=>cases h
 rename_i p q a b;cases hb:(Nat.ble p q&&Nat.ble q l) with
 | false=>rw[hb]at h;cases h
 | true=>
  rw[hb]at h;simp only[cond_true]at h;injection h with h;simp only[jn,aD,cC]at hb;exact⟨l,m,p,q,rfl,rfl,a,b,hb.1,hb.2,h.symm⟩
def abk{z k:Nat}{lo hi mx:Option ao}{x:V}(h:lP (.arr k z) T x lo hi mx=some v):
 ∃b o p q m,x=.p b o/\cL T 0 lo=some p/\cL T k hi=some q/\cL T k mx=some m/\p<=q/\q<=m/\m<=k/\v=.sl b (bif Nat.beq m p then o else Nat.add o (Nat.mul p z)) (Nat.sub q p) (Nat.sub m p):=by
 cases x<;>try (cases h;done)
 rename_i b o;simp only[lP]at h;split at h
 case h_2=>cases h
 rename_i p q m a c d;cases hb:(Nat.ble p q&&Nat.ble q m&&Nat.ble m k) with
 | false=>rw[hb]at h;cases h
 | true=>
  rw[hb]at h;simp only[cond_true]at h;injection h with h;simp only[jn,aD,cC]at hb;exact⟨b,o,p,q,m,rfl,a,c,d,hb.1.1,hb.1.2,hb.2,h.symm⟩
def abl{z:Nat}{lo hi mx:Option ao}{x:V}(h:lP (.sl z) T x lo hi mx=some v):
 (x=.ns/\cL T 0 lo=some 0/\cL T 0 hi=some 0/\cL T 0 mx=some 0/\v=.ns)\/
 (∃b o l c p q m,x=.sl b o l c/\cL T 0 lo=some p/\cL T l hi=some q/\cL T c mx=some m/\p<=q/\q<=m/\m<=c/\v=.sl b (bif Nat.beq m p then o else Nat.add o (Nat.mul p z)) (Nat.sub q p) (Nat.sub m p))\/
 (∃b o l p q,x=.su b o l z/\mx=none/\cL T 0 lo=some p/\cL T l hi=some q/\p<=q/\q<=l/\v=.su b (Nat.add o (Nat.mul p z)) (Nat.sub q p) z)\/
 (∃b o l p q m y,x=.su b o l z/\mx=some y/\cL T 0 lo=some p/\cL T l hi=some q/\cL T 0 (some y)=some m/\p<=q/\q<=m/\m<=l/\v=(bif Nat.beq l 0 then .su b o 0 z else .sl b (bif Nat.beq m p then o else Nat.add o (Nat.mul p z)) (Nat.sub q p) (Nat.sub m p))):=by
 cases x<;>try (cases h;done)
 ·simp only[lP]at h;split at h
  ·rename_i a d f;injection h with h;exact .inl ⟨rfl,a,d,f,h.symm⟩
  ·cases h
 ·rename_i b o l c;simp only[lP]at h;split at h
  case h_2=>cases h
  rename_i p q m a d f;cases hb:(Nat.ble p q&&Nat.ble q m&&Nat.ble m c) with
  | false=>rw[hb]at h;cases h
  | true=>
   rw[hb]at h;simp only[cond_true]at h;injection h with h;simp only[jn,aD,cC]at hb;exact .inr (.inl ⟨b,o,l,c,p,q,m,rfl,a,d,f,hb.1.1,hb.1.2,hb.2,h.symm⟩)
 ·rename_i b o l e;cases mx with
  | none=>
   simp only[lP]at h;split at h
   case h_2=>cases h
   rename_i p q a d;cases hb:(Nat.ble p q&&Nat.ble q l&&Nat.beq z e) with
   | false=>rw[hb]at h;cases h
   | true=>
    rw[hb]at h;simp only[cond_true]at h;injection h with h;simp only[jn,dP,aD,cC]at hb;obtain⟨⟨g,i⟩,j⟩:=hb;subst j;exact .inr (.inr (.inl ⟨b,o,l,p,q,rfl,rfl,a,d,g,i,h.symm⟩))
  | some y=>
   simp only[lP]at h;split at h
   case h_2=>cases h
   rename_i p q m a d f;cases hb:(Nat.ble p q&&Nat.ble q m&&Nat.ble m l&&Nat.beq z e) with
   | false=>rw[hb]at h;cases h
   | true=>
    rw[hb]at h;simp only[cond_true]at h;have k:=hb;simp only[jn,dP,aD,cC]at k;obtain⟨⟨⟨g,i⟩,j⟩,r⟩:=k;subst r;refine .inr (.inr (.inr ⟨b,o,l,p,q,m,y,rfl,rfl,a,d,f,g,i,j,?_⟩));cases hl:Nat.beq l 0 with
    | true=>rw[hl]at h;injection h with h;exact h.symm
    | false=>rw[hl]at h;injection h with h;exact h.symm
def extract_eq{l m p q:Nat}(h1:p<=q)(h2:q<=l)(hm:m<256 ^ l):(strOf l m).extract p q=strOf (Nat.sub q p) (BE m p q)/\BE m p q<256 ^ (Nat.sub q p):=by
 refine⟨?_,oU _ (Bq λe=>by simp at e)⟩;have e:((strOf l m).extract p q).data=(bD (q - p) (m / 256 ^ p % 256 ^ (q - p))).toArray:=by
  apply jB;have:((strOf l m).extract p q).data.toList=((bD l m).drop p).take (q - p):=by simp[strOf,ByteArray.extract,ByteArray.copySlice]
  rw[this,ZV _ _ _ (by omega),ZW _ _ _ (by omega)]
 show(strOf l m).extract p q=⟨(bD (q - p) (m / 256 ^ p % 256 ^ (q - p))).toArray⟩;rw[←e]
def abm(aC:cP P ty)(Y:aK η T tmps)(Z:bM η ty.g)(hH:aU W η H n w){t:TypeId}{x:Operand}{lo hi mx:Option Operand}{a:A}
 (d:de ty (.slice t x lo hi mx)=some a)(hs:simple a T H n=some (v,H',n')):
 eW P W η H n w (do pure (.value (←Instr.sliceAt t (ai tmps x) (lo.map (ai tmps)) (hi.map (ai tmps)) (mx.map (ai tmps))))) v H' n':=by
 simp only[de]at d;split at d
 case h_2=>cases d
 rename_i i x' rq N O BP hx fG lS Q;cases hb:(O.isSome&&N.isNone) with
 | true=>rw[hb]at d;cases d
 | false=>
  rw[hb]at d;simp only[cond_false]at d;have hm:O.isSome=true->N.isSome=true:=by intro h;rw[h]at hb;cases N<;>simp_all
  have J:=(aC.ok _ _ BP).desc;have abn:O=none->mx=none:=by
   rintro rfl;cases mx with
   | none=>rfl
   | some y=>simp only[sO]at Q;split at Q<;>cases Q
  have key:∀k,simple (.sli k x' rq N O) T H n=some (v,H',n')->∃u,lP k T u rq N O=some v/\H'=H/\n'=n/\an η u (ai tmps x):=λk hk=>by
   simp only[simple]at hk;split at hk
   ·rename_i u M;obtain⟨h1,h2,h3⟩:=kc hk;exact⟨u,h1,h2,h3,bT Y Z hx M⟩
   ·cases hk
  split at d
  ·
   rename_i S;injection d with d;subst d;rw[S]at J;obtain⟨u,M,rfl,rfl,F⟩:=key _ hs;obtain⟨l,m,p,q,rfl,rfl,z,B,D,G,rfl⟩:=abj M;obtain rfl:=abn rfl;generalize ai tmps x=y at F;cases F with
   | s _ _ AW=>
    refine gC (ψ (aY J ?_));refine ψ (aY J ?_);refine ψ ?_;rw[sT];refine(Ii (w:=w) Y Z fG lS Q hm z B (m:=l) U D G (ξ _) false).mono ?_;rintro r w' ⟨rfl,rfl⟩;obtain⟨g1,g2⟩:=extract_eq D G AW;refine Ω ⟨η,.refl hH,?_⟩;rw[g1];exact .s _ _ g2
  ·
   rename_i e S;split at d
   case h_2=>cases d
   rename_i j hj;injection d with d;subst d;rw[S]at J;obtain⟨u,M,rfl,rfl,F⟩:=key _ hs;have fin:∀(A:Option Addr) (len cap p q m:Nat),ai tmps x=.slice A len cap->cL T 0 rq=some p->cL T len N=some q->cL T cap O=some m->p<=q->q<=m->m<=cap->an η v (.slice (if m=p then A else A.map (·.add (p*j.size))) (q - p) (m - p))->eW P W η H' n' w (do pure (.value (←Instr.sliceAt t (ai tmps x) (lo.map (ai tmps)) (hi.map (ai tmps)) (mx.map (ai tmps))))) v H' n':=by intro A len cap p q m ex z B I D G R hv;rw[ex];refine gC (ψ (aY J ?_));refine ψ (aY J ?_);refine ψ ?_;refine(Ii (w:=w) Y Z fG lS Q hm z B I D G R true).mono ?_;rintro r w' ⟨rfl,rfl⟩;refine ψ (lu (aC.ok _ _ hj) ?_);exact Ω ⟨η,.refl hH,hv⟩
   generalize E:ai tmps x=y at F;rcases abl M with ⟨rfl,z,B,I,rfl⟩ | ⟨b,o,l,c,p,q,m,rfl,z,B,I,D,G,R,rfl⟩ | ⟨b,o,l,p,q,rfl,rfl,z,B,D,G,rfl⟩ | ⟨b,o,l,p,q,m,y',rfl,rfl,z,B,I,D,G,R,rfl⟩
   ·cases F;exact E▸fin none 0 0 0 0 0 E z B I (ξ _) (ξ _) (ξ _) .ns
   ·cases F with
    | sl _ _ _ _ L f=>
     refine E▸fin _ _ _ p q m E z B I D G R ?_;by_cases C:m=p
     ·subst C;rw[ab rfl];have:Nat.beq m m=true:=by simp
      rw[this];exact .sl _ _ _ _ L f
     ·rw[Γ C];have:Nat.beq m p=false:=by rw[dP];simp[C]
      rw[this];simp only[ox,re,cond_false];have:=an.sl (η:=η) b (Nat.add o (Nat.mul p j.size)) (q - p) (m - p) L f;rw[show L.off+o+p*j.size=L.off+Nat.add o (Nat.mul p j.size) from mj ..];exact this
   ·cases F with
    | su _ _ _ _ L c f h1 h2=>
     refine E▸fin _ _ _ p q c E z B rfl D (by omega) (ξ _) ?_;by_cases C:c=p
     ·subst C;rw[ab rfl];have:Nat.sub q c=0:=by show q - c=0;omega
      rw[this];have:q - c=0:=by omega
      rw[this,kY];exact .se _ _ _ _ L f
     ·rw[Γ C];simp only[ox,re];rw[show L.off+o+p*j.size=L.off+Nat.add o (Nat.mul p j.size) from mj ..];refine an.su b _ (q - p) _ L (c - p) f (by omega) ?_;show o+p*j.size+(c - p)*j.size<=L.room;have:(c - p)*j.size+p*j.size=c*j.size:=by rw[←ie];congr 1;omega
      omega
    | se _ _ _ A L f=>
     have X:q=0:=by omega
     have hp:p=0:=by omega
     subst X;subst hp;exact E▸fin _ _ _ 0 0 0 E z B rfl (ξ _) (ξ _) (ξ _) (.se _ _ _ _ L f)
   ·cases F with
    | su _ _ _ _ L c f h1 h2=>
     refine E▸fin _ _ _ p q m E z B I D G (by omega) ?_;cases hl:Nat.beq l 0 with
     | true=>
      have hl:=bY hl;have X:q=0:=by omega
      have hp:p=0:=by omega
      have nu:m=0:=by omega
      subst X;subst hp;subst nu;exact .se _ _ _ _ L f
     | false=>
     simp only[cond_false];by_cases C:m=p
     ·subst C;rw[ab rfl];have:Nat.beq m m=true:=by simp
      rw[this];exact .sl _ _ _ _ L f
     ·rw[Γ C];have:Nat.beq m p=false:=by rw[dP];simp[C]
      rw[this];simp only[ox,re,cond_false];have:=an.sl (η:=η) b (Nat.add o (Nat.mul p j.size)) (q - p) (m - p) L f;rw[show L.off+o+p*j.size=L.off+Nat.add o (Nat.mul p j.size) from mj ..];exact this
    | se _ _ _ A L f=>
     have X:q=0:=by omega
     have hp:p=0:=by omega
     have nu:m=0:=by omega
     subst X;subst hp;subst nu;exact E▸fin _ _ _ 0 0 0 E z B I (ξ _) (ξ _) (ξ _) (.se _ _ _ _ L f)
  ·
   rename_i k e S;split at d
   case h_2=>cases d
   rename_i j hj;injection d with d;subst d;rw[S]at J;obtain⟨u,M,rfl,rfl,F⟩:=key _ hs;obtain⟨b,o,p,q,m,rfl,z,B,I,D,G,R,rfl⟩:=abk M;generalize ai tmps x=y at F;cases F with
   | p _ _ L f=>
    refine gC (ψ (aY J ?_));refine ψ (Ω ?_);refine ψ ?_;refine(Ii (w:=w) Y Z fG lS Q hm z B I D G R false).mono ?_;rintro r w' ⟨rfl,rfl⟩;refine ψ (lu (aC.ok _ _ hj) ?_);refine Ω ⟨η,.refl hH,?_⟩;by_cases C:m=p
    ·subst C;rw[ab rfl];have:Nat.beq m m=true:=by simp
     rw[this];exact .sl _ _ _ _ L f
    ·rw[Γ C];have:Nat.beq m p=false:=by rw[dP];simp[C]
     rw[this];simp only[re,cond_false];have:=an.sl (η:=η) b (Nat.add o (Nat.mul p j.size)) (q - p) (m - p) L f;rw[show L.off+o+p*j.size=L.off+Nat.add o (Nat.mul p j.size) from mj ..];exact this
  ·cases d
end ops
end
section
section ops
variable {P:Program}{ty:Ty}{W:Nat->Code->AC->Prop}{η:Env}{T:Tr V}{H H':Hp}{n n':K}{w:World}{tmps:Array Value}{v:V}
def Ij{t:TypeId}{i:TI}{q:EK}(hi:ua P t i)(h:i.desc.key=some q)(x:Value)(e:Bool)(k:Nat){Φ:Unit->World->Prop}(b:Φ () w):aN P (Instr.checkKey e (k+1) t x) w Φ:=by
 have a:=hi.desc;unfold Instr.checkKey;generalize i.desc=d at h a;cases d<;>first | (cases h;done) | skip
 all_goals exact ψ (aY a (Ω b))
def abo(aC:cP P ty){xs:List V}{cx:Array Value}(d:aL η xs cx.toList)(e:Bool)(k:Nat){fs:List Field}
 {l:List (Nat×EK)}(hl:flat ty (fs.map λf=>(f.type,f.offset))=some l)(h:hasAll xs l=true):
 aN P (do
  for f in fs do
   if f.name ≠ "_" then Instr.checkKey e (k+1) f.type (←part f.type cx f.offset)) w λ_ w'=>w'=w:=by
 induction fs generalizing l with
 | nil=>exact Ω rfl
 | cons f fs ih=>
  simp only[eY,flat]at hl;split at hl
  case h_2=>cases hl
  rename_i i hi;split at hl
  case h_2=>cases hl
  rename_i q l' a b;injection hl with hl;subst hl;simp only[hasAll,aD]at h;obtain⟨h1,h2⟩:=h;split at h1
  case h_2=>cases h1
  rename_i x g;obtain⟨_,j⟩:=xG aC hi a;rw[List.forIn_cons];refine ψ (ψ ?_);by_cases c:f.name ≠ "_"
  ·rw[ab c];refine ψ ((zM aC hi j d g).mono ?_);rintro m w' ⟨_,rfl⟩;refine ψ (Ij (aC.ok _ _ hi) a _ _ _ ?_);exact Ω (BW (ih b h2))
  ·rw[Γ c];exact Ω (BW (ih b h2))
def abp(aC:cP P ty){e:TypeId}{i:TI}(hi:ty e=some i){q:EK}(a:i.desc.key=some q){xs:List V}{cx:Array Value}(c:aL η xs cx.toList)(b:Bool)(k:Nat)
 {fs:List Nat}(h:hasAll xs (fs.map λi=>(i,q))=true):
 aN P (do
  for j in fs do
   Instr.checkKey b (k+1) e (←part e cx (j*(←sizeOf e)))) w λ_ w'=>w'=w:=by
 obtain⟨_,d⟩:=xG aC hi a
 induction fs with
 | nil=>exact Ω rfl
 | cons f fs ih=>
  simp only[eY,hasAll,aD]at h;obtain⟨h1,h2⟩:=h;split at h1
  case h_2=>cases h1
  rename_i x g;rw[List.forIn_cons];refine ψ (ψ (ψ (lu (aC.ok _ _ hi) ?_)));rw[PV aC hi a];refine ψ ((zM aC hi d c (by rw[kp];exact g)).mono ?_);rintro l w' ⟨_,rfl⟩;refine ψ (Ij (aC.ok _ _ hi) a _ _ _ ?_);exact Ω (BW (ih h2))
def Ik(aC:cP P ty){t:TypeId}{q:dR}(b:mr ty t=some q){x:V}{o:Value}(c:an η x o)(h:oY q x=true)(e:Bool):
 aN P (Instr.checkKey e 10000 t o) w λ_ w'=>w'=w:=by
 unfold mr at b;split at b
 case h_2=>cases b
 rename_i i hi;have f:=(aC.ok _ _ hi).desc;split at b
 ·rename_i fs plain g;cases plain with
  | false=>cases b
  | true=>
   simp only[cond_true]at b;split at b
   case h_2=>cases b
   rename_i l hl;injection b with b;subst b;rw[g]at f;obtain⟨u,p,r,_,y⟩:=f;unfold oY at h;split at h<;>first | (rename_i he;cases he;done) | (rename_i he _;cases he;done) | (cases h;done) | skip
   rename_i l' xs he;injection he with he;subst he;cases c with
   | a _ cx c=>
    unfold Instr.checkKey;refine ψ (aY p ?_);dsimp only;rw[←Array.forIn_toList];exact abo (cx:=⟨cx⟩) aC c e 9998 (by rw[←r];exact hl) h
 ·rename_i m z g;rw[g]at f;split at b
  case h_2=>cases b
  rename_i j hj;split at b
  case h_2=>cases b
  rename_i s k;injection b with b;subst b;unfold oY at h;split at h<;>first | (rename_i he;cases he;done) | (rename_i he _;cases he;done) | (cases h;done) | skip
  rename_i l' xs he;injection he with he;subst he;cases c with
  | a _ cx c=>
   unfold Instr.checkKey;refine ψ (aY f ?_);dsimp only;have:=abp (w:=w) (fs:=List.range m) (cx:=⟨cx⟩) aC hj k c e 9998 h;simp only[Std.Legacy.Range.forIn_eq_forIn_range',Std.Legacy.Range.size];simpa[vN]using this
 ·rename_i d h1 h2;split at b
  case h_2=>cases b
  rename_i s k;exact Ij (aC.ok _ _ hi) k _ _ _ rfl
def abq(aC:cP P ty){t:TypeId}{u:TypeDesc}(d:P.underlying t=some u){q:dR}(g:mr ty t=some q){x y:V}{e f:Value}(i:an η x e)(j:an η y f){r b:Bool}
 (h:kZ q x y=some r)(hb:Instr.sameNow u e f=some b):b=r:=by
 obtain⟨b',w',h1,rfl,_⟩:=EU (w:=default) aC g i j h;have step:aN P (Op.equal t e f) default λc _=>c=b:=by
  unfold Instr.sameNow at hb;split at hb
  ·rename_i k a k' b';split at hb
   ·rename_i l;injection hb with hb;subst hb;subst l;exact ψ (aY d (Ia rfl (Ω rfl)))
   ·cases hb
  ·injection hb with hb;subst hb;exact ψ (aY d (Ω rfl))
  ·injection hb with hb;subst hb;exact ψ (aY d (Ω rfl))
  ·cases hb
 obtain⟨c,o,h2,m⟩:=step;rw[h1]at h2;injection h2 with h2 _;rw[h2,m]
def lD(q:dR)(k:V):List (V×V×Nat)->Option (Option Nat)
 | []=>some none
 | (k',_,_)::es=>match kZ q k k' with
  | some true=>some (some 0)
  | some false=>match lD q k es with
   | some (some i)=>some (some (i+1))
   | some none=>some none
   | none=>none
  | none=>none
def M5(l:List MapEntry)(j:Nat):Option Nat->Option (Nat×Value)->Prop
 | none,s=>s=none
 | some i,s=>∃e,l[i]?=some e/\s=some (j+i,e.val)
def Qc(aC:cP P ty){t:TypeId}{u:TypeDesc}(f:P.underlying t=some u){q:dR}(g:mr ty t=some q){k:V}{k':Value}(m:an η k k'):
 ∀{es:List (V×V×Nat)} {l:List MapEntry},dM η es l->∀{r:Option Nat},lD q k es=some r->∀(j:Nat) {s:Option (Nat×Value)},Instr.findNow u k' l j=some s->M5 l j r s
 | [],[],_,r,h,j,s,hs=>by simp only[lD]at h;injection h with h;subst h;simp only[Instr.findNow]at hs;injection hs with hs;exact hs.symm
 | (k1,v1,b1)::es,e::l,he,r,h,j,s,hs=>by
  obtain⟨r1,r2,z,o⟩:=he;simp only[lD]at h;simp only[Instr.findNow]at hs;cases a:kZ q k k1 with
  | none=>rw[a]at h;cases h
  | some b=>
   rw[a]at h;cases d:Instr.sameNow u k' e.key with
   | none=>rw[d]at hs;cases hs
   | some c=>
    rw[d]at hs;have:=abq aC f g m r1 a d;subst this;cases c with
    | true=>
     injection h with h;subst h;injection hs with hs;subst hs;exact⟨e,rfl,rfl⟩
    | false=>
     simp only at h hs;cases hf:lD q k es with
     | none=>rw[hf]at h;cases h
     | some r'=>
      rw[hf]at h;have:=Qc aC f g m o hf (j+1) hs;cases r' with
      | none=>injection h with h;subst h;exact this
      | some i=>
       injection h with h;subst h;obtain⟨p,x,y⟩:=this;exact⟨p,by simpa using x,by rw[y,mj,oW 1]⟩
 | [],_::_,he,_,_,_,_,_=>he.elim
 | _::_,[],he,_,_,_,_,_=>he.elim
def Qd(aC:cP P ty){t:TypeId}{q:dR}(c:mr ty t=some q){k:V}{k':Value}(d:an η k k'):
 ∀{es:List (V×V×Nat)} {l:List MapEntry},dM η es l->∀{r:Option Nat},lD q k es=some r->∀(j:Nat) (w:World),aN P (Instr.findAsking t k' l j) w λs w'=>w'=w/\M5 l j r s
 | [],[],_,r,h,j,w=>by simp only[lD]at h;injection h with h;subst h;exact Ω ⟨rfl,rfl⟩
 | (k1,v1,b1)::es,e::l,he,r,h,j,w=>by
  obtain⟨r1,r2,p,f⟩:=he;simp only[lD]at h;cases a:kZ q k k1 with
  | none=>rw[a]at h;cases h
  | some b=>
   rw[a]at h;refine ψ ((EU aC c d r1 a).mono ?_);rintro b' w' ⟨rfl,rfl⟩;cases b' with
   | true=>
    injection h with h;subst h;exact Ω ⟨rfl,e,rfl,rfl⟩
   | false=>
    simp only at h;cases hf:lD q k es with
    | none=>rw[hf]at h;cases h
    | some r'=>
     rw[hf]at h;refine(Qd aC c d f hf (j+1) w').mono ?_;rintro s u ⟨rfl,hs⟩;refine⟨rfl,?_⟩;cases r' with
     | none=>injection h with h;subst h;exact hs
     | some i=>
      injection h with h;subst h;obtain⟨g,m,o⟩:=hs;exact⟨g,by simpa using m,by rw[o,mj,oW 1]⟩
 | [],_::_,he,_,_,_,_=>he.elim
 | _::_,[],he,_,_,_,_=>he.elim
def abr(aC:cP P ty){t:TypeId}{q:dR}(a:mr ty t=some q):∃u,P.underlying t=some u:=by
 unfold mr at a;split at a
 case h_2=>cases a
 rename_i i hi;have b:=(aC.ok _ _ hi).desc;split at a
 ·rename_i h;rw[h]at b;obtain⟨l,h,_⟩:=b;exact⟨_,h⟩
 ·rename_i h;rw[h]at b;exact⟨_,b⟩
 ·split at a
  case h_2=>cases a
  rename_i e c;generalize i.desc=d at c b;cases d<;>first | (cases c;done) | exact⟨_,b⟩
def EW(aC:cP P ty){t:TypeId}{q:dR}(a:mr ty t=some q){k:V}{k':Value}(b:an η k k'){es:List (V×V×Nat)}{l:List MapEntry}(he:dM η es l){r:Option Nat}
 (h:lD q k es=some r):aN P (Instr.findKey t k' l) w λs w'=>w'=w/\M5 l 0 r s:=by
 obtain⟨u,c⟩:=abr aC a;refine ψ (aY c ?_);cases d:Instr.findNow u k' l 0 with
 | none=>
  exact Qd aC a b he h 0 w
 | some s=>
  exact Ω ⟨rfl,Qc aC c a b he h 0 d⟩
def dM.length:∀{es:List (V×V×Nat)} {l:List MapEntry},dM η es l->es.length=l.length
 | [],[],_=>rfl
 | (_,_,_)::es,e::l,⟨_,_,_,h⟩=>by rw[eh,eh,dM.length h]
 | [],_::_,h=>h.elim
 | _::_,[],h=>h.elim
def dM.get:∀{es:List (V×V×Nat)} {l:List MapEntry},dM η es l->∀{i:Nat} {k v:V} {b:Nat},es[i]?=some (k,v,b)->∃e,l[i]?=some e/\an η k e.key/\an η v e.val/\e.born=b
 | [],[],_,i,k,v,b,hi=>by simp at hi
 | (k1,v1,b1)::es,e::l,⟨h1,h2,a,h⟩,i,k,v,b,hi=>by
  cases i with
  | zero=>simp at hi;obtain⟨rfl,rfl,rfl⟩:=hi;exact⟨e,by simp,h1,h2,a⟩
  | succ i=>simp at hi ⊢;exact dM.get h hi
 | [],_::_,h,_,_,_,_,_=>h.elim
 | _::_,[],h,_,_,_,_,_=>h.elim
def dM.append:∀{es:List (V×V×Nat)} {l:List MapEntry},dM η es l->∀{k v:V} {e:MapEntry},an η k e.key->an η v e.val->dM η (es++[(k,v,e.born)]) (l++[e])
 | [],[],_,k,v,e,h1,h2=>⟨h1,h2,rfl,trivial⟩
 | (k1,v1,b1)::es,c::l,⟨h1,h2,a,h⟩,k,v,e,g1,b=>⟨h1,h2,a,dM.append h g1 b⟩
 | [],_::_,h,_,_,_,_,_=>h.elim
 | _::_,[],h,_,_,_,_,_=>h.elim
def dM.set:∀{es:List (V×V×Nat)} {l:List MapEntry},dM η es l->∀{k v:V} {k' v':Value} {i:Nat} {k0 v0:V} {b:Nat},es[i]?=some (k0,v0,b)->an η k k'->an η v v'->dM η (es.set i (k,v,b)) (l.modify i λe=>{ e with key:=k',val:=v'})
 | [],[],_,_,_,_,_,i,_,_,_,hi,_,_=>by simp at hi
 | (k1,v1,b1)::es,d::l,⟨h1,h2,a,h⟩,k,v,k',v',i,k0,v0,b,hi,g1,c=>by
  cases i with
  | zero=>simp at hi;obtain⟨rfl,rfl,rfl⟩:=hi;exact⟨g1,c,a,h⟩
  | succ i=>simp at hi ⊢;exact⟨h1,h2,a,dM.set h hi g1 c⟩
 | [],_::_,h,_,_,_,_,_,_,_,_,_,_,_=>h.elim
 | _::_,[],h,_,_,_,_,_,_,_,_,_,_,_=>h.elim
def dM.erase:∀{es:List (V×V×Nat)} {l:List MapEntry},dM η es l->∀(i:Nat),dM η (es.eraseIdx i) (l.eraseIdx i)
 | [],[],_,i=>by simp[dM]
 | (k1,v1,b1)::es,b::l,⟨h1,h2,a,h⟩,i=>by
  cases i with
  | zero=>exact h
  | succ i=>exact⟨h1,h2,a,dM.erase h i⟩
 | [],_::_,h,_=>h.elim
 | _::_,[],h,_=>h.elim
def Qe{q:dR}{k:V}{es:List (V×V×Nat)}{r:Option V}(h:vS q k es=some r):
 (r=none/\lD q k es=some none)\/∃v i k' b,r=some v/\lD q k es=some (some i)/\es[i]?=some (k',v,b):=by
 induction es with
 | nil=>simp only[vS]at h;injection h with h;exact .inl ⟨h.symm,rfl⟩
 | cons e es ih=>
  obtain⟨k',v',b⟩:=e;simp only[vS]at h;simp only[lD];cases a:kZ q k k' with
  | none=>rw[a]at h;cases h
  | some c=>
   rw[a]at h;cases c with
   | true=>injection h with h;exact .inr ⟨v',0,k',b,h.symm,rfl,rfl⟩
   | false=>
    rcases ih h with ⟨h1,h2⟩ | ⟨v,i,k2,b2,h1,h2,d⟩
    ·exact .inl ⟨h1,by simp[h2]⟩
    ·exact .inr ⟨v,i+1,k2,b2,h1,by simp[h2],by simpa using d⟩
def abt{q:dR}{k v:V}{c:Nat}{es r:List (V×V×Nat)}{new:Bool}(h:xr q k v c es=some (r,new)):
 (new=true/\r=es++[(k,v,c)]/\lD q k es=some none)\/∃i k' v' b a,new=false/\q=.one a/\lD q k es=some (some i)/\es[i]?=some (k',v',b)/\kZ q k k'=some true/\r=es.set i (k,v,b):=by
 induction es generalizing r with
 | nil=>simp only[xr]at h;injection h with h;injection h with h1 h2;exact .inl ⟨h2.symm,by rw[←h1];rfl,rfl⟩
 | cons e es ih=>
  obtain⟨k',v',b⟩:=e;simp only[xr]at h;simp only[lD];cases d:kZ q k k' with
  | none=>rw[d]at h;cases h
  | some c'=>
   rw[d]at h;cases c' with
   | true=>
    simp only at h;cases q with
    | agg l=>cases h
    | one a=>
     injection h with h;injection h with h1 h2;exact .inr ⟨0,k',v',b,a,h2.symm,rfl,rfl,rfl,d,h1.symm⟩
   | false=>
    simp only at h;split at h
    ·rename_i p b' he;injection h with h;injection h with h1 h2;subst h1;subst h2;rcases ih he with ⟨h1,h2,f⟩ | ⟨i,k2,g,b2,a,h1,h2,f,j,m,o⟩
     ·exact .inl ⟨h1,by rw[h2];rfl,by simp[f]⟩
     ·exact .inr ⟨i+1,k2,g,b2,a,h1,h2,by simp[f],by simpa using j,m,by rw[o];rfl⟩
    ·cases h
end ops
end
section
section ops
variable {P:Program}{ty:Ty}{W:Nat->Code->AC->Prop}{η:Env}{T:Tr V}{H H':Hp}{n n':K}{w:World}{tmps:Array Value}{v:V}
def xJ(d:aU W η H n w){b:K}{es:List (V×V×Nat)}{c:Nat}(h:H.get b=some (.mp es c)){L:Loc}(e:η b=some L):
 ∃a,w.heap[L.blk]?=some (.map a c)/\dM η es a.toList:=by
 obtain⟨L',h1,h2,a,f,g⟩:=d.obj b _ h;rw[e]at h1;injection h1 with h1;subst h1;exact⟨a,f,g⟩
def abu(aC:cP P ty)(C:aK η T tmps)(D:bM η ty.g)(G:aU W η H n w){t:TypeId}{x y:Operand}{ok:Bool}{a:A}
 (d:de ty (.lookup t x y ok)=some a)(hs:simple a T H n=some (v,H',n')):
 eW P W η H n w (do pure (.value (←Instr.lookup t (ai tmps x) (ai tmps y) ok))) v H' n':=by
 simp only[de]at d;split at d
 case h_2=>cases d
 rename_i i m k hi J M;split at d
 case h_2=>cases d
 rename_i kt e R;split at d
 case h_2=>cases d
 rename_i j hj;split at d
 case h_2=>cases d
 rename_i q E;injection d with d;subst d;have N:=(aC.ok _ _ hi).desc;rw[R]at N;refine gC (ψ (aY N ?_));simp only[simple]at hs;have tail:∀(s:Option (Nat×Value)) (v:V),(∀i y,s=some (i,y)->an η v (if ok then .tuple #[y,.bool true] else y))->(s=none->v=xu ok j.zeroV false)->aN P (
  let jp:=λ(x:Value×Bool)=>match x with
   | (y,o)=>(pure (if ok=true then Value.tuple #[y,.bool o] else y):Sem Value)
  match s with
  | some (_,y)=>do
   let x←pure (y,true)
   jp x
  | none=>do
   let z←zeroValue e
   let x←pure (z,false)
   jp x) w λy w'=>∃η',Trans W η H n w η' H n w'/\an η' v y:=by
  intro s v h1 h2;cases s with
  | none=>
   rw[h2 rfl];refine ψ (rh (aC.ok _ _ hj) λz _ S _ _=>ψ (Ω ?_));exact Ω ⟨η,.refl G,H6 (S η)⟩
  | some p=>
   obtain⟨i,y⟩:=p;exact ψ (Ω (Ω ⟨η,.refl G,h1 i y rfl⟩))
 split at hs
 ·rename_i k' hm I;cases f:oY q k' with
  | false=>rw[f]at hs;cases hs
  | true=>
   rw[f]at hs;obtain⟨rfl,rfl,rfl⟩:=dC hs;have u:=bT C D J hm;have B:=bT C D M I;generalize ai tmps x=X at u;cases u;refine ψ (Ω ?_);refine ψ ((Ik aC E B f _).mono ?_);rintro _ w' rfl;have:=EW (w:=w') aC E B (es:=[]) (l:=[]) trivial (r:=none) U;refine ψ (this.mono ?_);rintro s w' ⟨rfl,hs⟩;have hs:s=none:=hs;subst hs;exact tail none _ (λ_ _ h=>by cases h) (λ_=>rfl)
 ·rename_i b k' hm I;cases f:oY q k' with
  | false=>rw[f]at hs;cases hs
  | true=>
   rw[f]at hs;simp only[cond_true]at hs;have u:=bT C D J hm;have B:=bT C D M I;generalize ai tmps x=X at u;cases u with
   | m _ L Y=>
    split at hs
    case h_2=>cases hs
    rename_i es c hb;obtain⟨Z,g1,O⟩:=xJ G hb Y;have:∃r,lD q k' es=some r/\H'=H/\n'=n/\∀s,M5 Z.toList 0 r s->(∀i y,s=some (i,y)->an η v (if ok then .tuple #[y,.bool true] else y))/\(s=none->v=xu ok j.zeroV false):=by
     split at hs
     ·rename_i vv hf;obtain⟨rfl,rfl,rfl⟩:=dC hs;rcases Qe hf with ⟨h,_⟩ | ⟨v',i',k2,b2,h1,h2,h3⟩
      ·cases h
      ·injection h1 with h1;subst h1;obtain⟨e',q1,q2,q3,q4⟩:=O.get h3;refine⟨_,h2,rfl,rfl,λs hs=>?_⟩;obtain⟨e2,F,rfl⟩:=hs;rw[q1]at F;injection F with F;subst F;refine⟨λi y h=>?_,λh=>by cases h⟩;injection h with h;injection h with _ h;subst h;exact H6 q3
     ·rename_i hf;obtain⟨rfl,rfl,rfl⟩:=dC hs;rcases Qe hf with ⟨_,h⟩ | ⟨v',i',k2,b2,h1,_⟩
      ·refine⟨_,h,rfl,rfl,λs hs=>?_⟩;have hs:s=none:=hs;subst hs;exact⟨λ_ _ h=>(by cases h),λ_=>rfl⟩
      ·cases h1
     ·cases hs
    obtain⟨r,hr,rfl,rfl,Q⟩:=this;refine ψ (xB g1 (by intro _ _ _ h;cases h) (ψ (Ω ?_)));refine ψ ((Ik aC E B f _).mono ?_);rintro _ w' rfl;refine ψ ((EW (w:=w') aC E B O hr).mono ?_);rintro s w' ⟨rfl,hs⟩;exact tail s _ (Q s hs).1 (Q s hs).2
 ·cases hs
def abw{x y:V}{r:Bool}(h:dL .bool x y=some r):∃a b,x=.b a/\y=.b b/\r=(a==b):=by
 cases x<;>try (cases h;done)
 cases y<;>try (cases h;done)
 injection h with h;exact⟨_,_,rfl,rfl,h.symm⟩
def abx{x y:V}{r:Bool}(h:dL .int x y=some r):∃k a b,x=.i k a/\y=.i k b/\r=(a==b):=by
 cases x<;>try (cases h;done)
 cases y<;>try (cases h;done)
 rename_i k a k' b;simp only[dL]at h;cases c:Nat.beq (kn k) (kn k') with
 | false=>rw[c]at h;cases h
 | true=>
  rw[c]at h;simp only[cond_true]at h;obtain rfl:=EO c;injection h with h;exact⟨_,_,_,rfl,rfl,by rw[←zI];exact h.symm⟩
def aby{x y:V}{r:Bool}(h:dL .str x y=some r):∃l m l' a,x=.s l m/\y=.s l' a/\r=(Nat.beq l l'&&Nat.beq m a):=by
 cases x<;>try (cases h;done)
 cases y<;>try (cases h;done)
 injection h with h;exact⟨_,_,_,_,rfl,rfl,h.symm⟩
def abz{q:EK}(o:∃i:TI,i.desc.key=some q){x y:V}{f j:Value}(c:an η x f)(g:an η y j)(h:dL q x y=some true):f=j/\Instr.sameBits 10000 f f=true:=by
 obtain⟨i,hi⟩:=o;have:q=.bool\/q=.int\/q=.str:=by generalize i.desc=d at hi;cases d<;>first | (cases hi;done) | (injection hi with hi;subst hi;simp)
 rcases this with rfl | rfl | rfl
 ·obtain⟨a,b,rfl,rfl,e⟩:=abw h;cases c;cases g;have:a=b:=by cases a<;>cases b<;>simp_all
  subst this;exact⟨rfl,by simp[Instr.sameBits]⟩
 ·obtain⟨k,a,b,rfl,rfl,e⟩:=abx h;cases c;cases g;have:a=b:=by simpa using e.symm
  subst this;exact⟨rfl,by simp[Instr.sameBits]⟩
 ·obtain⟨l,m,l',t,rfl,rfl,e⟩:=aby h;cases c with
  | s _ _ c=>
  cases g;have e:=e.symm;rw[aD]at e;have p:=bY e.1;have r:=bY e.2;subst p;subst r;exact⟨rfl,by unfold Instr.sameBits;rw[PU c c];simp⟩
def Qf(aC:cP P ty)(p:aK η T tmps)(r:bM η ty.g)(u:aU W η H n w){t:TypeId}{x y z:Operand}{a:A}
 (f:de ty (.mapUpdate t x y z)=some a)(hs:simple a T H n=some (v,H',n')):
 eW P W η H n w (do Instr.mapUpdate t (ai tmps x) (ai tmps y) (ai tmps z);pure .skip) v H' n':=by
 simp only[de]at f;split at f
 case h_2=>cases f
 rename_i i m k z' hi M N O;split at f
 case h_2=>cases f
 rename_i kt e Q;split at f
 case h_2=>cases f
 rename_i q d;injection f with f;subst f;have E:=(aC.ok _ _ hi).desc;rw[Q]at E;simp only[simple]at hs;split at hs
 case h_2=>cases hs
 rename_i b k' v' hm R hv;cases B:oY q k' with
 | false=>rw[B]at hs;cases hs
 | true=>
  rw[B]at hs;simp only[cond_true]at hs;have F:=bT p r M hm;have j:=bT p r N R;have G:=bT p r O hv;generalize ai tmps x=x' at F;cases F with
  | m _ L C=>
   split at hs
   case h_2=>cases hs
   rename_i es c hb;split at hs
   case h_2=>cases hs
   rename_i es2 new S;obtain⟨rfl,rfl,rfl⟩:=dC hs;obtain⟨U,g1,l⟩:=xJ u hb C;refine Z7 (ψ (aY E ?_));refine ψ (xB g1 (by intro _ _ _ h;cases h) ?_);refine ψ ((Ik aC d j B _).mono ?_);rintro _ w' rfl;rcases abt S with ⟨rfl,rfl,D⟩ | ⟨i,k0,v0,b0,X,rfl,rfl,D,I,Y,rfl⟩
   ·refine ψ ((EW (w:=w') aC d j l D).mono ?_);rintro s w' ⟨rfl,hs⟩;have hs:s=none:=hs;subst hs;refine HQ g1 (by intro _ _ _ h;cases h) ⟨η,?_⟩;refine Trans.write (o':=.mp _ _) u hb rfl C ⟨_,rfl,?_⟩ rfl;have:=l.append (e:={ key:=ai tmps y,val:=ai tmps z,born:=c}) j G;simpa using this
   ·refine ψ ((EW (w:=w') aC d j l D).mono ?_);rintro s w' ⟨rfl,hs⟩;obtain⟨e',J,rfl⟩:=hs;obtain⟨e2,o,Z,p3,p4⟩:=l.get I;rw[J]at o;injection o with o;subst o;have G2:∃i:TI,i.desc.key=some X:=by
     unfold mr at d;split at d
     case h_2=>cases d
     rename_i i0 H8;split at d
     ·rename_i fs pl _;cases pl with
      | false=>cases d
      | true=>simp only[cond_true]at d;split at d<;>cases d
     ·split at d
      ·split at d<;>cases d
      ·cases d
     ·split at d
      ·rename_i q2 xK;injection d with d;injection d with d;subst d;exact⟨i0,xK⟩
      ·cases d
    obtain⟨r1,r2⟩:=abz G2 j Z Y;have:(U[0+i]?.map (·.key)).getD (ai tmps y)=ai tmps y:=by rw[eV,←mh,J];exact r1.symm
    refine ψ ?_;rw[this];unfold Instr.keyThatStays;rw[ab r2];refine Ω (HQ g1 (by intro _ _ _ h;cases h) ⟨η,?_⟩);refine Trans.write (o':=.mp _ _) u hb rfl C ⟨_,rfl,?_⟩ rfl;have:=l.set I j G;rw[eV,Array.toList_modify];exact this
end ops
end
section
section trans
variable {W:Nat->Code->AC->Prop}{η:Env}{H:Hp}{n:K}{w:World}
def Trans.less(h:aU W η H n w)(k:K):Trans W η H n w η (H.put none k) n w:=
 have hs:∀k' o,(H.put none k).get k'=some o->H.get k'=some o:=λk' o a=>by
  rw[Tr.fk]at a;split at a
  ·cases a
  ·exact a
 ⟨.refl _,ξ _,h.less hs,.refl _ _,λm b ⟨k',o,L,h1,h2,c,d⟩=>.inl ⟨k',o,L,hs _ _ h1,h2,c,d⟩,λ_ _=>rfl⟩
def Trans.move(h:aU W η H n w){k:K}{o o':O}{L L':Loc}{ob:Obj}(j:H.get k=some o)(hm:o.mut=true)(d:η k=some L)(u:L'.blk=L.blk)
 (G:∀η',η.le η'->gN W η' o' L' (some ob)){w':World}(I:w'={ w with heap:=w.heap.setIfInBounds L.blk ob})(hl:o.BL=false:=by rfl):
 ∃η',Trans W η H n w η' ((H.put none k).put (some o') n) n.succ w'/\η' n=some L':=by
 subst I;obtain⟨L0,f,C,_⟩:=h.obj k o j;rw[d]at f;injection f with f;subst f;have D:η n=none:=h.free n (ξ _);have S:k≠n:=λe=>by rw[e,D]at d;cases d
 let η':Env:=λq=>if q=n then some L' else η q
 have hle:η.le η':=λq M a=>by
  show(if q=n then _ else η q)=_
  rw[Γ (λe=>by rw[e,D]at a;cases a)];exact a
 have x:η' n=some L':=ab rfl;have hold:∀q,q≠n->η' q=η q:=λq a=>Γ a;have get:∀q o1,((H.put none k).put (some o') n).get q=some o1->(q=n/\o1=o')\/(q≠n/\q≠k/\H.get q=some o1):=by
  intro q o1 a;rw[Tr.fk]at a;split at a
  ·rename_i e;injection a with a;exact .inl ⟨e,a.symm⟩
  ·rename_i e;rw[Tr.fk]at a;split at a
   ·cases a
   ·rename_i J;exact .inr ⟨e,J,a⟩
 refine⟨η',⟨hle,by rw[K.eI];omega,⟨?_,?_,?_⟩,⟨rfl,rfl,rfl,by simp,λb hb N=>?_,λb r hb=>?_⟩,?_,λq a=>hold q λe=>by rw[e]at a;omega⟩,x⟩
 ·intro q o1 a;rcases get q o1 a with ⟨rfl,rfl⟩ | ⟨h1,h2,E⟩
  ·exact⟨L',x,by rw[u];simpa using C,by rw[u];simpa[gj,C]using G η' hle⟩
  ·obtain⟨M,g1,Q,R⟩:=h.obj q o1 E;refine⟨M,by rw[hold q h1];exact g1,by simpa using Q,?_⟩;have p:=h.sep k q o o1 L M (λe=>h2 e.symm) j hm E d g1;rw[gj,Γ p];exact R.mono hle
 ·intro y s o1 o2 M1 M2 p h1 z h2 l g;rcases get y o1 h1 with ⟨rfl,rfl⟩ | ⟨B,F,A⟩
  ·rcases get s o2 h2 with ⟨rfl,rfl⟩ | ⟨b1,b2,b3⟩
   ·exact absurd rfl p
   ·rw[x]at l;injection l with l;subst l;rw[hold s b1]at g;rw[u];exact h.sep k s o o2 L M2 (λe=>b2 e.symm) j hm b3 d g
  ·rw[hold y B]at l;rcases get s o2 h2 with ⟨rfl,rfl⟩ | ⟨b1,b2,b3⟩
   ·rw[x]at g;injection g with g;subst g;rw[u];exact h.sep y k o1 o M1 L F A z j l d
   ·rw[hold s b1]at g;exact h.sep y s o1 o2 M1 M2 p A z b3 l g
 ·intro q a;rw[K.eI]at a;have:q≠n:=λe=>by rw[e]at a;omega
  rw[hold q this];exact h.free q (by omega)
 ·rw[gj,Γ];intro e;exact N ⟨k,o,L,j,λ_=>hm,d,e⟩
 ·obtain⟨L0,f,_,i⟩:=h.obj k o j;rw[d]at f;injection f with f;subst f;have p:L.blk≠b:=by
   intro e;rw[e,hb]at i;cases o with
   | lp _ _ _ _ _ _=>cases hl
   | c _ _ _=>obtain⟨_,_,h1,_⟩:=i;cases h1
   | r _=>obtain⟨_,_,_,h1,_⟩:=i;cases h1
   | mp _ _=>obtain⟨_,h1,_⟩:=i;cases h1
   | mi _ _=>obtain⟨_,_,_,h1⟩:=i;cases h1
   | me _ _ _=>obtain⟨_,_,_,_,_,h1,_⟩:=i;cases h1
   | it _ _ _=>obtain⟨_,h1,_⟩:=i;cases h1
   | b _ _ _=>obtain⟨_,_,_,h1,_⟩:=i;cases h1
  exact⟨r,by show(w.heap.setIfInBounds L.blk ob)[b]?=_;rw[gj,Γ p];exact hb⟩
 ·rintro m b ⟨q,o1,M,a,z,t,hb⟩;rcases get q o1 a with ⟨rfl,rfl⟩ | ⟨B,F,A⟩
  ·rw[x]at t;injection t with t;subst t;exact .inl ⟨k,o,L,j,λ_=>hm,d,by rw[←hb,u]⟩
  ·rw[hold q B]at t;exact .inl ⟨q,o1,M,A,z,t,hb⟩
end trans
def abA(bQ c:Nat)(h:¬ bQ<=c):Builtin.nextslicecap bQ c<=2*bQ+1000:=by
 unfold Builtin.nextslicecap;split
 ·omega
 ·split
  ·omega
  ·have:∀(r c:Nat),c<=2*bQ+1000->Builtin.growBy bQ r c<=2*bQ+1000:=by
    intro r
    induction r with
    | zero=>intro c a;exact a
    | succ r ih=>
     intro c a;unfold Builtin.growBy;split
     ·exact a
     ·exact ih _ (by omega)
   exact this _ _ (by omega)
section ops
variable {P:Program}{ty:Ty}{W:Nat->Code->AC->Prop}{η:Env}{T:Tr V}{H H':Hp}{n n':K}{w:World}{tmps:Array Value}{v:V}
def abB(aC:cP P ty){t:TypeId}{i:TI}(hi:ty t=some i)(h:i.desc≠.other):∃d,P.underlying t=some d/\(d matches .int _)=(match i.desc with | .int _=>true | _=>false):=by have a:=(aC.ok _ _ hi).desc;generalize i.desc=d at h a;cases d<;>first | exact absurd rfl h | exact⟨_,a,rfl⟩ | (obtain⟨_,h1,_⟩:=a;exact⟨_,h1,rfl⟩) | (obtain⟨_,_,_,h1⟩:=a;exact⟨_,h1,rfl⟩) | (obtain⟨_,h1⟩:=a;exact⟨_,h1,rfl⟩)
def Qg{e z bytes m:Nat}{s:V}{new:List V}(h:tT H n e z bytes s m new=some (v,H',n')):
 (s.len+m)*bytes<=1000000000/\bytes<=100000/\s.len+m<=1000000000/\((s=.ns/\m=0/\v=.ns/\H'=H/\n'=n)\/
  (s=.ns/\m≠0/\jD H n (.c new e 0) (.su n 0 m z)=some (v,H',n'))\/
  (∃b o l c,s=.sl b o l c/\l+m<=c/\m=0/\v=s/\H'=H/\n'=n)\/
  (∃b o l c,s=.sl b o l c/\l+m<=c/\m≠0/\gq H b (o+l*z) new=some H'/\v=.sl b o (l+m) c/\n'=n)\/
  (∃b o l c bC k,s=.sl b o l c/\¬ l+m<=c/\elems H z s=some (k,bC)/\jD H n (.c (bC++new) e 0) (.su n 0 (l+m) z)=some (v,H',n'))\/
  (∃b o l a,s=.su b o l a/\m=0/\v=s/\H'=H/\n'=n)\/
  (∃b o l r fz bC,s=.su b o l z/\m≠0/\H.get b=some (.c r e fz)/\fz<=o+l*z/\aB new=true/\cw r o (l*z)=some bC/\jD (H.put none b) n (.c (bC++new) e (fz - o)) (.su n 0 (l+m) z)=some (v,H',n'))):=by
 unfold tT at h;cases hb:(Nat.ble (Nat.mul (Nat.add s.len m) bytes) 1000000000&&Nat.ble bytes 100000&&Nat.ble (Nat.add s.len m) 1000000000) with
 | false=>rw[hb]at h;cases h
 | true=>
  rw[hb]at h;simp only[Bool.not_true,cond_false]at h;simp only[jn,aD,cC]at hb;refine⟨hb.1.1,hb.1.2,hb.2,?_⟩;split at h
  ·cases hm:Nat.beq m 0 with
   | true=>
    rw[hm]at h;obtain⟨rfl,rfl,rfl⟩:=dC h;exact .inl ⟨rfl,bY hm,rfl,rfl,rfl⟩
   | false=>
    rw[hm]at h;exact .inr (.inl ⟨rfl,(λe=>by rw[e]at hm;cases hm),h⟩)
  ·rename_i b o l c;cases hl:Nat.ble (Nat.add l m) c with
   | true=>
    rw[hl]at h;have hl:l+m<=c:=j4 hl;cases hm:Nat.beq m 0 with
    | true=>
     rw[hm]at h;obtain⟨rfl,rfl,rfl⟩:=dC h;exact .inr (.inr (.inl ⟨b,o,l,c,rfl,hl,bY hm,rfl,rfl,rfl⟩))
    | false=>
     rw[hm]at h;simp only[cond_true,cond_false]at h;split at h
     ·rename_i H1 f;obtain⟨rfl,rfl,rfl⟩:=dC h;exact .inr (.inr (.inr (.inl ⟨b,o,l,c,rfl,hl,(λe=>by rw[e]at hm;cases hm),f,rfl,rfl⟩)))
     ·cases h
   | false=>
    rw[hl]at h;simp only[cond_false]at h;split at h
    ·rename_i k bC he;exact .inr (.inr (.inr (.inr (.inl ⟨b,o,l,c,bC,k,rfl,λe=>by rw[jn]at hl;simp at hl;exact absurd e (by omega),he,h⟩))))
    ·cases h
  ·rename_i b o l a;cases hm:Nat.beq m 0 with
   | true=>
    rw[hm]at h;obtain⟨rfl,rfl,rfl⟩:=dC h;exact .inr (.inr (.inr (.inr (.inr (.inl ⟨b,o,l,a,rfl,bY hm,rfl,rfl,rfl⟩)))))
   | false=>
    rw[hm]at h;simp only[cond_false]at h;split at h
    ·rename_i r g fz i;cases d:(Nat.beq e g&&Nat.beq z a&&Nat.ble fz (Nat.add o (Nat.mul l z))&&aB new) with
     | false=>rw[d]at h;cases h
     | true=>
      rw[d]at h;simp only[cond_true]at h;simp only[jn,dP,aD,cC]at d;obtain⟨⟨⟨j,p⟩,q⟩,t⟩:=d;subst j;subst p;split at h
      ·rename_i bC u;exact .inr (.inr (.inr (.inr (.inr (.inr ⟨b,o,l,r,fz,bC,rfl,(λe=>by rw[e]at hm;cases hm),i,q,t,u,h⟩)))))
      ·cases h
    ·cases h
  ·cases h
def abC(aC:cP P ty)(hT:aK η T tmps)(hG:bM η ty.g)(f:aU W η H n w){t u:TypeId}{i j k:TI}{x y:Operand}{s a:ao}{e:Nat}{rt:TypeId}{ts:Array TypeId}
 (oJ:ts[0]?=some t)(abD:ts[1]?=some u)(hi:ty t=some i)(hd:i.desc=.slice e)(hj:ty u=some j)(hjd:j.desc≠.other)(Q:ty e=some k)(hx:br ty x=some s)(hy:br ty y=some a)
 (hs:simple (.app e k.size k.bytes k.zero (match j.desc with | .int _=>true | _=>false) s a) T H n=some (v,H',n')):
 aN P (Builtin.append_ ts rt #[ai tmps x,ai tmps y]) w λy w'=>∃η',Trans W η H n w η' H' n' w'/\an η' v y:=by
 have cN:=(aC.ok _ _ hi).desc;rw[hd]at cN;obtain⟨ud,hud,R⟩:=abB aC hj hjd;generalize hzz:(match j.desc with | .int _=>true | _=>false)=vQ at hs R
 simp only[simple]at hs;split at hs
 case h_2=>cases hs
 rename_i J xv X1 Ic;have p:=bT hT hG hx X1;have S:=bT hT hG hy Ic;generalize ai tmps x=s' at p;generalize ai tmps y=x' at S;obtain⟨ti,zv,h1,h2,h3,h4,h5,h6,h7,h8,h9⟩:=(aC.ok _ _ Q).info;have hm:∃m new,tT H n e k.size k.bytes J m new=some (v,H',n')/\new.length=m*k.size/\(∀d,aN P (if (!vQ)=true then Builtin.firstCells k.size m x' else if m*k.size=0 then pure #[] else do pure (Builtin.zeroCells (←zeroValue e).cells m)) { w with drawn:=d}
  λr w'=>aL η new r.toList/\w'={ w with drawn:=d})/\(vQ=false->Builtin.lenOf x'=pure m)/\(vQ=true->∃k',x'=.int k' (Int.ofNat m)):=by
  cases vQ with
  | true=>
   simp only[cond_true]at hs;split at hs
   case h_2=>cases hs
   rename_i k' m;cases S;refine⟨m,_,hs,by rw[uf,h8],λd=>?_,(λh=>by cases h),λ_=>⟨_,rfl⟩⟩;simp only[Bool.not_true,mV,if_false];by_cases h0:m*k.size=0
   ·rw[ab h0];refine Ω ⟨?_,rfl⟩;have:dS k.zero m=[]:=by rw[←kW,uf,h8,h0]
    rw[this];exact .nil
   ·rw[Γ h0];refine ψ (rh (aC.ok _ _ Q) λz R _ _ dN=>Ω ⟨?_,rfl⟩);exact EM (R η) m _ rfl
  | false=>
   simp only[cond_false]at hs;split at hs
   case h_2=>cases hs
   rename_i m new he;obtain⟨G,X,q3⟩:=wc (P:=P) f S he;refine⟨m,new,hs,G,λd=>?_,λ_=>X,λh=>by cases h⟩;simp only[Bool.not_false,if_true];have:=(wc (P:=P) (f.drawn d) S he).2.2 m (ξ _);rw[ot (by omega)]at this;exact this
 obtain⟨m,new,hap,hlen,Y,r7,wH⟩:=hm;obtain⟨b1,b2,b3,jE⟩:=Qg hap;have gI:∃base fT B,s'=.slice base fT B/\fT=J.len:=by
  rcases jE with ⟨rfl,_⟩ | ⟨rfl,_⟩ | ⟨_,_,_,_,rfl,_⟩ | ⟨_,_,_,_,rfl,_⟩ | ⟨_,_,_,_,_,_,rfl,_⟩ | ⟨_,_,_,_,rfl,_⟩ | ⟨_,_,_,_,_,_,rfl,_⟩<;>
   (cases p<;>exact⟨_,_,_,rfl,rfl⟩)
 obtain⟨base,fT,B,rfl,M6⟩:=gI;unfold Builtin.append_;simp (config:={ zeta:=false}) only[oJ,abD,Bu,xj,qa];refine ψ (aY cN ?_);refine ψ (lu (aC.ok _ _ Q) ?_);refine ψ (aY hud ?_);refine ψ (aN.mono (Φ:=λz w'=>z=vQ/\w'=w) (Ω ⟨R,rfl⟩) ?_);rintro z w' ⟨e1,e2⟩;rw[e2];clear e2 w';subst e1;dsimp (config:={ zeta:=false}) only
 extract_lets jp0 jp
 have i64:IntKind.i64.max=9223372036854775807:=rfl;have X0:(2:Int) ^ 48=281474976710656:=rfl;have abE:(2:Nat) ^ 48=281474976710656:=rfl
 suffices hjp:aN P (jp m) w λy w'=>∃η',Trans W η H n w η' H' n' w'/\an η' v y by
  cases z with
  | true=>
   obtain⟨k',rfl⟩:=wH rfl;refine ψ (ψ (Ω (Ω ?_)));have e1:IntKind.i64.wrap (Int.ofNat m)=m:=wrap_i64 (qS _) (by show((m:Nat):Int)<=_;omega)
   extract_lets l j1 j2
   have hl:l=(m:Int):=e1;rw[Γ (by rw[hl];omega)];show aN P (j2 ()) w _;refine ψ (wb h1 ?_);have lU:¬ l*(ti.bytes:Int)>2 ^ 48:=by rw[hl,h3,X0,←Int.natCast_mul];have:m*k.bytes<=(J.len+m)*k.bytes:=gE _ (by omega);omega
   rw[Γ lU];refine ψ (Ω ?_);rw[hl];exact hjp
  | false=>
   rw[r7 rfl];exact hjp
 simp (config:={ zeta:=false}) only[jp]
 extract_lets+onlyGivenNames app bQ
 have Y:∀d,aN P app { w with drawn:=d} λr w'=>aL η new r.toList/\w'={ w with drawn:=d}:=Y;have hA0:aN P app w λr w'=>aL η new r.toList/\w'=w:=Y w.drawn;have C:bQ=J.len+m:=by show fT+m=_;rw[M6]
 clear_value app bQ
 by_cases hn:bQ<=B
 ·rw[ab hn];refine ψ (hA0.mono ?_);rintro r w' ⟨Z,hw⟩;rw[hw];have lC:r.toList.length=m*k.size:=by rw[←Z.length,hlen]
  rcases jE with ⟨rfl,rfl,rfl,rfl,rfl⟩ | ⟨rfl,M,_⟩ | ⟨b,o,l,c,rfl,N,rfl,rfl,rfl,rfl⟩ | ⟨b,o,l,c,rfl,N,M,cA,rfl,rfl⟩ | ⟨b,o,l,c,bC,q,rfl,N,_⟩ | ⟨b,o,l,z',rfl,rfl,rfl,rfl,rfl⟩ | ⟨b,o,l,rr,fz,bC,rfl,M,hb,HW,ff,hold,F⟩
  ·cases p;have:bQ=0:=by simpa[V.len]using C
   rw[this];exact Ω ⟨η,.refl f,.ns⟩
  ·cases p;have:bQ=m:=by simpa[V.len]using C
   omega
  ·cases p with
   | sl _ _ _ _ L D=>
    have h0:r.toList=[]:=by rw[←kW,lC];simp
    rw[h0];have:bQ=fT:=by simpa[V.len]using C
    rw[this];exact ψ (Ω (Ω ⟨η,.refl f,.sl _ _ _ _ L D⟩))
  ·cases p with
   | sl _ _ _ _ L D=>
    obtain⟨L',g1,g2⟩:=EJ (P:=P) f Z cA;rw[D]at g1;injection g1 with g1;subst g1;have E:bQ=fT+m:=by simpa[V.len]using C
    rw[E];simp (config:={ zeta:=false}) only[re];rw[mj L.off];refine ψ (g2.mono ?_);intro _ w' ru;exact Ω ⟨η,ru,.sl _ _ _ _ L D⟩
  ·cases p;have:bQ=fT+m:=by simpa[V.len]using C
   omega
  ·have h0:r.toList=[]:=by rw[←kW,lC];simp
   have E:bQ=l:=by simpa[V.len]using C
   rw[h0,E];cases p with
   | su _ _ _ _ L c D G X=>exact ψ (Ω (Ω ⟨η,.refl f,.su _ _ _ _ L _ D G X⟩))
   | se _ _ _ A L D=>exact ψ (Ω (Ω ⟨η,.refl f,.se _ _ _ A L D⟩))
  ·have E:bQ=l+m:=by simpa[V.len]using C
   cases p with
   | se _ _ _ A L D=>omega
   | su _ _ _ _ L c D G X=>
    obtain⟨rfl,rfl,rfl⟩:=oC F;obtain⟨L',g1,g2,cs,fr,g3,g4,g5,g6,g7⟩:=f.obj b _ hb;rw[D]at g1;injection g1 with g1;subst g1;have aui:o+(fT+m)*k.size<=L.room:=by have:(fT+m)*k.size<=B*k.size:=gE _ (by omega);omega
    have auj:(fT+m)*k.size=fT*k.size+m*k.size:=ie ..;obtain⟨Io,auk⟩:=nj hold;simp (config:={ zeta:=false}) only[re];have aZ:∀y∈r.toList,y.qY=true:=Z.one ff;refine ψ ((HT r.toList 0 g3 (by rw[lC];omega) (by omega) aZ).mono ?_);rintro _ w2 sj;obtain⟨η',t1,t2⟩:=Trans.move (w':=w2) (L':=⟨L.blk,L.off+o,L.room - o⟩) (o':=.c (bC++new) e (fz - o)) f hb rfl D rfl (λη' hle=>by
     refine⟨_,fr,rfl,by rw[EG];show L.off+o+(L.room - o)=_;omega,?_,?_,?_⟩
     ·show(bC++new).length<=L.room - o;rw[jz,hlen,Io,ov,sM];omega
     ·intro i v hi;show ∃y,(lr cs (L.off+o+fT*k.size+0) r.toList)[L.off+o+i]?=some y/\an η' v y;rw[EH _ _ _ (by rw[lC];omega)];have tE:bC.length=fT*k.size:=by rw[Io,ov,sM];omega
      by_cases BN:i<bC.length
      ·rw[oT BN]at hi;rw[Γ (by omega)];rw[Io,List.getElem?_take]at hi;rw[ab (by omega),vP]at hi;obtain⟨y,I,O⟩:=g6 (o+i) v hi;exact⟨y,by rw[mj];exact I,O.mono hle⟩
      ·rw[qc (by omega)]at hi;obtain⟨y,I,O⟩:=Z.get hi;have ω:=(cZ.1 I).1;rw[ab (by omega)];exact⟨y,by rw[←I];congr 1;omega,O.mono hle⟩
     ·rcases g7 with g7 | g7
      ·exact .inl g7
      ·right;show fr.2<=L.off+o+(fz - o);omega) sj
    refine Ω ⟨η',t1,?_⟩;rw[E];exact an.su n 0 (fT+m) k.size _ B t2 (by omega) (by show 0+B*k.size<=L.room - o;omega)
 ·rw[Γ hn];have grow:∀(H0:Hp) (bC:List V) (fz:Nat),aU W η H0 n w->Trans W η H n w η H0 n w->(∀d,aN P (Builtin.firstCells k.size fT (.slice base fT B)) { w with drawn:=d} λr w'=>aL η bC r.toList/\w'={ w with drawn:=d})->jD H0 n (.c (bC++new) e fz) (.su n 0 bQ k.size)=some (v,H',n')->bC.length=fT*k.size->aN P (do
   let Ip←choose (.appendCap bQ B e)
   askRoom (Ip*(←typeInfo e).bytes)
   let bC←Builtin.firstCells k.size fT (.slice base fT B)
   let new←app
   let rest:=Builtin.zeroCells (←zeroValue e).cells (Ip - bQ)
   pure (Value.slice (some (←newRow e (bC++new++rest))) bQ Ip)) w λy w'=>∃η',Trans W η H n w η' H' n' w'/\an η' v y:=by
   intro H0 bC fz xL oj hold F abG;obtain⟨rfl,rfl,rfl⟩:=oC F;refine ψ (OX (λt d _=>?_) (λh=>by cases h));generalize rp:(Question.appendCap bQ B e).cut t=cap;have BX:bQ<=cap:=by rw[←rp];simp only[Question.cut];omega
   refine ψ (wb h1 (ψ (Qb ?_)));refine ψ ((hold d).mono ?_);rintro r1 w1 ⟨Qh,X2⟩;rw[X2];refine ψ ((Y d).mono ?_);rintro r2 w2 ⟨Qi,sj⟩;rw[sj];refine ψ (rh (aC.ok _ _ Q) λz _ _ _ dN=>?_);refine ψ (ψ (tZ (Ω (Ω ?_))));have abH:(Builtin.zeroCells z.cells (cap - bQ)).size=(cap - bQ)*k.size:=by simp[Builtin.zeroCells,dN]
   have s1:r1.size=fT*k.size:=by rw[←zj,←Qh.length,abG]
   have s2:r2.size=m*k.size:=by rw[←zj,←Qi.length,hlen]
   have Qj:aL η (bC++new) (r1++r2).toList:=by rw[Array.toList_append];exact Qh.append Qi
   obtain⟨η',k1,k2⟩:=Trans.new (room:=(r1++r2++Builtin.zeroCells z.cells (cap - bQ)).size) (o:=.c (bC++new) e fz) (ob:=.cells (r1++r2++Builtin.zeroCells z.cells (cap - bQ)) e) (xL.drawn d) (λη' hle=>
    ⟨_,(0,0),rfl,by simp,by rw[xm];show(bC++new).length<=_;rw[Qj.length];simp,λi v hi=>by obtain⟨y,I,O⟩:=Qj.get hi;refine⟨y,?_,O.mono hle⟩;have ω:=(cZ.1 I).1;show(r1++r2++Builtin.zeroCells z.cells (cap - bQ))[0+i]?=_;rw[eV,Array.getElem?_append_left (by simpa using ω),←mh];exact I,.inl U⟩)
   refine⟨η',?_,?_⟩
   ·exact(oj.drawn d).trans k1
   ·refine an.su n 0 bQ k.size _ cap k2 BX ?_;show 0+cap*k.size<=(r1++r2++Builtin.zeroCells z.cells (cap - bQ)).size;rw[xm,xm,s1,s2,abH,←ie,←ie,eV];apply gE;omega
  refine ψ (wb h1 ?_);have abI:¬ ((bQ:Int)>IntKind.i64.max/\(z=true\/ti.bytes=0)):=by rw[i64];omega
  rw[Γ abI];refine ψ (wb h1 ?_);have rp:¬ (Builtin.nextslicecap bQ B*ti.bytes>2 ^ 48):=by
   rw[h3,abE];have g1:=abA bQ B hn;have g2:Builtin.nextslicecap bQ B*k.bytes<=(2*bQ+1000)*k.bytes:=gE _ g1;have g3:(2*bQ+1000)*k.bytes=2*((J.len+m)*k.bytes)+1000*k.bytes:=by rw[C,ie,jT]
   omega
  rw[Γ rp];have first:∀(bC:List V) (q:Nat) (H0:Hp) (s0:V),aU W η H0 n w->an η s0 (.slice base fT B)->elems H0 k.size s0=some (q,bC)->q=fT->bC.length=fT*k.size/\∀d,aN P (Builtin.firstCells k.size fT (.slice base fT B)) { w with drawn:=d} λr w'=>aL η bC r.toList/\w'={ w with drawn:=d}:=by intro bC q H0 s0 xL wL he hq;obtain⟨G,_,_⟩:=wc (P:=P) xL wL he;refine⟨by rw[G,hq],λd=>?_⟩;have:=(wc (P:=P) (xL.drawn d) wL he).2.2 fT (by omega);rw[ot (by rw[G,hq];exact ξ _)]at this;exact this
  rcases jE with ⟨rfl,rfl,rfl,rfl,rfl⟩ | ⟨rfl,M,F⟩ | ⟨b,o,l,c,rfl,N,rfl,rfl,rfl,rfl⟩ | ⟨b,o,l,c,rfl,N,M,cA,rfl,rfl⟩ | ⟨b,o,l,c,bC,q,rfl,N,tF,F⟩ | ⟨b,o,l,z',rfl,rfl,rfl,rfl,rfl⟩ | ⟨b,o,l,rr,fz,bC,rfl,M,hb,HW,ff,hold,F⟩
  ·cases p;have:bQ=0:=by simpa[V.len]using C
   omega
  ·have E:bQ=m:=by simpa[V.len]using C
   obtain⟨f1,f2⟩:=first [] 0 H .ns f p rfl (by cases p;rfl)
   exact grow H [] 0 f (.refl f) f2 (by rw[E];exact F) f1
  ·cases p;have:bQ=fT:=by simpa[V.len]using C
   omega
  ·cases p;have:bQ=fT+m:=by simpa[V.len]using C
   omega
  ·have E:bQ=l+m:=by simpa[V.len]using C
   have hq:q=fT:=by have:=(wc (P:=P) f p tF).2.1;have:=congrArg (λs:Sem Nat=>s.run P w) this;simpa[Builtin.lenOf,Sem.run,pure,eq_comm]using this
   obtain⟨f1,f2⟩:=first bC q H _ f p tF hq
   exact grow H bC 0 f (.refl f) f2 (by rw[E];exact F) f1
  ·have E:bQ=l:=by simpa[V.len]using C
   cases p<;>omega
  ·have E:bQ=l+m:=by simpa[V.len]using C
   have tF:elems H k.size (.su b o l k.size)=some (l,bC):=by
    unfold elems;have:Nat.beq k.size k.size=true:=by simp
    simp only[this,cond_true];cases h0:Nat.beq l 0 with
    | true=>
     have:=bY h0;subst this;have abJ:=(nj hold).1;have:bC=[]:=by rw[abJ];simp
     rw[this];rfl
    | false=>
     have:rowAt H b=some rr:=by unfold rowAt;rw[hb];rfl
     simp only[cond_false,this];have hold:cw rr o (Nat.mul l k.size)=some bC:=hold;rw[hold]
   obtain⟨f1,f2⟩:=first bC l H _ f p tF (by rw[M6];rfl)
   exact grow (H.put none b) bC (fz - o) (Trans.less f b).rep (Trans.less f b) f2 (by rw[E];exact F) f1
end ops
end
section
section ops
variable {P:Program}{ty:Ty}{W:Nat->Code->AC->Prop}{η:Env}{T:Tr V}{H H':Hp}{n n':K}{w:World}{tmps:Array Value}{v:V}
def abK(aC:cP P ty)(B:aK η T tmps)(C:bM η ty.g)(f:aU W η H n w){t:TypeId}{i k:TI}{x y:Operand}{s a:ao}{e:Nat}{rt:TypeId}{ts:Array TypeId}
 (I:ts[0]?=some t)(hi:ty t=some i)(J:i.desc=.slice e)(M:ty e=some k)(N:br ty x=some s)(O:br ty y=some a)
 (hs:simple (.yI k.size s a) T H n=some (v,H',n')):
 aN P (Builtin.copy_ ts rt #[ai tmps x,ai tmps y]) w λy w'=>∃η',Trans W η H n w η' H' n' w'/\an η' v y:=by
 have D:=(aC.ok _ _ hi).desc;rw[J]at D;simp only[simple]at hs;split at hs
 case h_1=>cases hs
 case h_3=>cases hs
 rename_i dv xv Q R S;have j:=bT B C N R;have E:=bT B C O S;generalize ai tmps x=d' at j;generalize ai tmps y=x' at E;split at hs
 case h_2=>cases hs
 rename_i ld dvs d vs F U;obtain⟨q1,X,q3⟩:=wc (P:=P) f j F;obtain⟨p1,Y,Z⟩:=wc (P:=P) f E U;generalize hm:(bif Nat.ble d ld then d else ld)=m at hs
 have u:m=Nat.min d ld:=by
  rw[←hm,jn];show _=min d ld;by_cases h:d<=ld
  ·rw[qb h];simp[qf h]
  ·rw[fB h];simp[Nat.min_eq_right (Nat.le_of_not_le h)]
 have rZ:m<=d:=by rw[u];exact Nat.min_le_left ..
 have M7:m<=ld:=by rw[u];exact Nat.min_le_right ..
 have gI:∃base c,d'=.slice base ld c:=by
  have rz:∃base l c,d'=.slice base l c:=by
   cases j<;>first
    | exact⟨_,_,_,rfl⟩
    | (cases F;done)
    | (exact absurd rfl (Q _ _))
  obtain⟨base,l,c,rfl⟩:=rz;have:=congrArg (λs:Sem Nat=>s.run P w) X;have:l=ld:=by simpa[Builtin.lenOf,Sem.run,pure]using this
  exact⟨base,c,by rw[this]⟩
 obtain⟨base,c,rfl⟩:=gI;unfold Builtin.copy_;simp (config:={ zeta:=false}) only[I,Bu,xj,qa];refine ψ (aY D ?_);rw[Y];refine ψ (Ω ?_);rw[←u];refine ψ (lu (aC.ok _ _ M) ?_);refine ψ ((Z m rZ).mono ?_);rintro r w' ⟨G,hw⟩;rw[hw];cases h0:Nat.beq m 0 with
 | true=>
  have h0:=bY h0;subst h0;obtain⟨rfl,rfl,rfl⟩:=dC hs;have wL:r.toList=[]:=by rw[←kW,←G.length];simp
  rw[wL];cases base with
  | none=>exact Ω ⟨η,.refl f,.i _ _⟩
  | some A=>exact ψ (Ω (Ω ⟨η,.refl f,.i _ _⟩))
 | false=>
  rw[h0]at hs;simp only[cond_false]at hs;have aG:m≠0:=λe=>by rw[e]at h0;cases h0
  have fin:∀(b:K) (o:Nat) (L:Loc) (p:List V),base=some ⟨L.blk,L.off+o,none⟩->η b=some L->takeN (Nat.mul m k.size) vs=some p->(match gq H b o p with | some H=>(some (.i .i64 (Int.ofNat m),H,n):fY) | none=>none)=some (v,H',n')->aN P (do
   match base with
   | some a=>storeCells a r.toList
   | _=>pure ()
   pure (goInt m)) w λy w'=>∃η',Trans W η H n w η' H' n' w'/\an η' v y:=by
   intro b o L p hb q ht z;split at z
   ·rename_i H1 B0;obtain⟨rfl,rfl,rfl⟩:=dC z;obtain⟨rfl,_⟩:=EE ht;obtain⟨L',g1,g2⟩:=EJ (P:=P) f G B0;rw[q]at g1;injection g1 with g1;subst g1;subst hb;refine ψ (g2.mono ?_);intro _ w' ru;exact Ω ⟨η,ru,.i _ _⟩
   ·cases z
  split at hs
  ·rename_i p b o l c' ht;cases j with
   | sl _ _ _ _ L q=>exact fin b o L _ rfl q ht hs
  ·rename_i p b o l e' ht;cases j with
   | su _ _ _ _ L c q _ _=>exact fin b o L _ rfl q ht hs
   | se=>omega
  ·cases hs
def Iq(aC:cP P ty)(l:aK η T tmps)(o:bM η ty.g)(j:aU W η H n w){t:TypeId}{i:TI}{x:Operand}{s:ao}{rt:TypeId}{ts:Array TypeId}{k:Nat}
 (p:ts[0]?=some t)(hi:ty t=some i)(a:(k=0/\i.desc=.str)\/(k=1/\∃e,i.desc=.slice e)\/(k=2/\∃k e,i.desc=.map k e))(q:br ty x=some s)
 (hs:simple (.len k s) T H n=some (v,H',n')):
 aN P (Builtin.len_ ts rt #[ai tmps x]) w λy w'=>∃η',Trans W η H n w η' H' n' w'/\an η' v y:=by
 have f:=(aC.ok _ _ hi).desc;simp only[simple]at hs;unfold Builtin.len_;simp (config:={ zeta:=false}) only[p,Bu,xj];cases hv:aq T s with
 | none=>rw[hv]at hs;rcases a with ⟨rfl,a⟩ | ⟨rfl,e,a⟩ | ⟨rfl,k,e,a⟩<;>cases hs
 | some u=>
  rw[hv]at hs;have d:=bT l o q hv;generalize ai tmps x=y at d;have fin:∀m:Nat,some (V.i .i64 (Int.ofNat m),H,n)=some (v,H',n')->∃η',Trans W η H n w η' H' n' w/\an η' v (goInt m):=λm h=>by obtain⟨rfl,rfl,rfl⟩:=dC h;exact⟨η,.refl j,.i _ _⟩
  rcases a with ⟨rfl,a⟩ | ⟨rfl,e,a⟩ | ⟨rfl,k,e,a⟩
  ·rw[a]at f;refine ψ (aY f ?_);cases u<;>try (cases hs;done)
   cases d;exact Ω (by rw[sT];exact fin _ hs)
  ·rw[a]at f;refine ψ (aY f ?_);cases u<;>try (cases hs;done)
   ·cases d;exact Ω (fin _ hs)
   ·cases d;exact Ω (fin _ hs)
   ·cases d<;>exact Ω (fin _ hs)
  ·rw[a]at f;refine ψ (aY f ?_);cases u<;>try (cases hs;done)
   ·cases d;exact Ω (fin _ hs)
   ·rename_i b;cases d with
    | m _ L r=>
     simp only at hs;split at hs
     ·rename_i es c hb;obtain⟨A,g1,z⟩:=xJ j hb r;refine ψ (xB g1 (by intro _ _ _ h;cases h) (Ω ?_));have:=z.length;simp at this;rw[←this];exact fin _ hs
     ·cases hs
def abL(aC:cP P ty)(b:aK η T tmps)(c:bM η ty.g)(d:aU W η H n w){t:TypeId}{i:TI}{x:Operand}{s:ao}{e:Nat}{rt:TypeId}{ts:Array TypeId}
 (j:ts[0]?=some t)(hi:ty t=some i)(k:i.desc=.slice e)(f:br ty x=some s)
 (hs:simple (.cap none s) T H n=some (v,H',n')):
 aN P (Builtin.cap_ ts rt #[ai tmps x]) w λy w'=>∃η',Trans W η H n w η' H' n' w'/\an η' v y:=by
 have h:=(aC.ok _ _ hi).desc;rw[k]at h;simp only[simple]at hs;unfold Builtin.cap_;simp (config:={ zeta:=false}) only[j,Bu,xj];refine ψ (aY h ?_);split at hs
 ·rename_i hv;have a:=bT b c f hv;obtain⟨rfl,rfl,rfl⟩:=dC hs;generalize ai tmps x=y at a;cases a;exact Ω ⟨η,.refl d,.i _ _⟩
 ·rename_i hv;have a:=bT b c f hv;obtain⟨rfl,rfl,rfl⟩:=dC hs;generalize ai tmps x=y at a;cases a;exact Ω ⟨η,.refl d,.i _ _⟩
 ·cases hs
def Qk{f:Value->Value->Sem Value}{mx:Bool}(hf:∀k x k' y,f (.int k x) (.int k' y)=pure (.int k (if (if mx then y>x else y<x) then y else x))){vs:List V}{xs:List Value}(h:aL η vs xs){a r:V}{a':Value}
 (g:an η a a')(c:zA (MV mx) a vs=some r):aN P (xs.foldlM f a') w λy w'=>an η r y/\w'=w:=by
 induction vs generalizing xs a a' with
 | nil=>cases h;simp only[zA]at c;injection c with c;subst c;exact Ω ⟨g,rfl⟩
 | cons b vs ih=>
  cases h with
  | cons _ b' _ xs h1 h2=>
   simp only[zA]at c;split at c
   case h_2=>cases c
   rename_i j d;unfold MV at d;split at d
   case h_2=>cases d
   rename_i k x k' y;injection d with d;subst d;cases g;cases h1;rw[List.foldlM_cons,hf];refine ψ (Ω ?_);refine ih h2 ?_ c;have e:(bif (bif mx then vh x y else vh y x) then y else x)=(if (if mx then y>x else y<x) then y else x):=by
    cases mx
    ·simp only[cond_false,BQ,gU,cC,mV,if_false]
    ·simp only[cond_true,BQ,gU,cC,if_true,gt_iff_lt]
   rw[←e];exact .i _ _
def Ql(f:aK η T tmps)(i:bM η ty.g)(b:aU W η H n w){l:List Operand}{l':List ao}(hl:oA ty l=some l'){mx:Bool}{rt:TypeId}{ts:Array TypeId}
 (hs:simple (.mm mx l') T H n=some (v,H',n')):
 aN P ((if mx then Builtin.max_ else Builtin.min_) ts rt (l.map (ai tmps)).toArray) w λy w'=>∃η',Trans W η H n w η' H' n' w'/\an η' v y:=by
 simp only[simple]at hs;split at hs
 case h_2=>cases hs
 rename_i a vs hv;obtain⟨h1,rfl,rfl⟩:=kc hs;have c:=zH f i hl hv;generalize l.map (ai tmps)=xs at c;cases c with
 | cons _ a' _ xs d e=>
  cases mx
  ·show aN P (xs.foldlM Builtin.min2 a') w _;refine(Qk (mx:=false) (λk x k' y=>by simp[Builtin.min2]) e d h1).mono ?_;rintro y w' ⟨h,rfl⟩;exact⟨η,.refl b,h⟩
  ·show aN P (xs.foldlM Builtin.max2 a') w _;refine(Qk (mx:=true) (λk x k' y=>by simp[Builtin.max2]) e d h1).mono ?_;rintro y w' ⟨h,rfl⟩;exact⟨η,.refl b,h⟩
def abM(aC:cP P ty)(p:aK η T tmps)(q:bM η ty.g)(d:aU W η H n w){t:TypeId}{i k:TI}{x:Operand}{s:ao}{e:Nat}{rt:TypeId}{ts:Array TypeId}
 (r:ts[0]?=some t)(hi:ty t=some i)(A:i.desc=.slice e)(B:ty e=some k)(C:br ty x=some s)
 (hs:simple (.GV k.zero s) T H n=some (v,H',n')):
 aN P (Builtin.clear_ ts rt #[ai tmps x]) w λy w'=>∃η',Trans W η H n w η' H' n' w'/\an η' v y:=by
 have m:=(aC.ok _ _ hi).desc;rw[A]at m;simp only[simple]at hs;unfold Builtin.clear_;simp (config:={ zeta:=false}) only[r,Bu,xj];refine ψ (aY m ?_);cases hv:aq T s with
 | none=>rw[hv]at hs;cases hs
 | some u=>
  rw[hv]at hs;have a:=bT p q C hv;generalize ai tmps x=y at a;have wr:∀(b:K) (o l:Nat) (L:Loc) (c:Nat),η b=some L->l≠0->oZ n (gq H b o (dS k.zero l))=some (v,H',n')->aN P (do
   storeCells ⟨L.blk,L.off+o,none⟩ (Builtin.zeroCells (←zeroValue e).cells l).toList
   pure (Value.tuple #[])) w λy w'=>∃η',Trans W η H n w η' H' n' w'/\an η' v y:=by
   intro b o l L c f hl h;cases j:gq H b o (dS k.zero l) with
   | none=>rw[j]at h;cases h
   | some H1=>
    rw[j]at h;obtain⟨rfl,rfl,rfl⟩:=dC h;refine ψ (rh (aC.ok _ _ B) λz D _ _ G=>?_);obtain⟨L',g1,E⟩:=EJ (P:=P) d (EM (D η) l _ rfl) j;rw[f]at g1;injection g1 with g1;subst g1;refine ψ (E.mono ?_);intro _ w' F;exact Ω ⟨η,F,.u _ _ .nil⟩
  cases u<;>try (cases hs;done)
  ·obtain⟨rfl,rfl,rfl⟩:=dC hs;cases a;exact Ω ⟨η,.refl d,.u _ _ .nil⟩
  ·rename_i b o l c;simp only at hs;cases a with
   | sl _ _ _ _ L f=>
    cases h0:Nat.beq l 0 with
    | true=>
     rw[h0]at hs;obtain⟨rfl,rfl,rfl⟩:=dC hs;obtain rfl:=bY h0;exact Ω ⟨η,.refl d,.u _ _ .nil⟩
    | false=>
     rw[h0]at hs;cases l with
     | zero=>cases h0
     | succ l=>exact wr b o (l+1) L c f (by omega) hs
  ·rename_i b o l I;simp only at hs;cases h0:Nat.beq l 0 with
   | true=>
    rw[h0]at hs;obtain⟨rfl,rfl,rfl⟩:=dC hs;obtain rfl:=bY h0;cases a<;>exact Ω ⟨η,.refl d,.u _ _ .nil⟩
   | false=>
    rw[h0]at hs;cases l with
    | zero=>cases h0
    | succ l=>
     cases a with
     | su _ _ _ _ L c f _ _=>exact wr b o (l+1) L c f (by omega) hs
  ·obtain⟨rfl,rfl,rfl⟩:=dC hs;cases a;exact Ω ⟨η,.refl d,.u _ _ .nil⟩
end ops
end
section
section ops
variable {P:Program}{ty:Ty}{W:Nat->Code->AC->Prop}{η:Env}{T:Tr V}{H H':Hp}{n n':K}{w:World}{tmps:Array Value}{v:V}
def abN(k:aK η T tmps)(m:bM η ty.g)(f:aU W η H n w){x:Operand}{h:ao}(q:br ty x=some h){at_:Array TypeId}{rt:TypeId}(hs:simple (.MU h) T H n=some (v,H',n')):
 aN P (Builtin.unsafeSliceData_ at_ rt #[ai tmps x]) w λy w'=>∃η',Trans W η H n w η' H' n' w'/\an η' v y:=by
 simp only[simple]at hs;cases hv:aq T h with
 | none=>rw[hv]at hs;cases hs
 | some u=>
  rw[hv]at hs;have d:=bT k m q hv;generalize ai tmps x=y at d;cases u<;>try (cases hs;done)
  ·obtain⟨rfl,rfl,rfl⟩:=dC hs;cases d;exact Ω ⟨η,.refl f,.np⟩
  ·rename_i b o l c;cases a:Nat.beq c 0 with
   | true=>simp only[a,cond_true]at hs;cases hs
   | false=>
    simp only[a,cond_false]at hs;obtain⟨rfl,rfl,rfl⟩:=dC hs;cases d with
    | sl _ _ _ _ L i=>
     have j:c≠0:=λe=>by rw[e]at a;cases a
     refine⟨.pointer (some ⟨L.blk,L.off+o,none⟩),w,?_,η,.refl f,.p _ _ _ i⟩;show Sem.run P (if c≠0 then _ else _) w=_
     rw[ab j];rfl
  ·rename_i b o l e;cases a:Nat.beq l 0 with
   | true=>simp only[a,cond_true]at hs;cases hs
   | false=>
    simp only[a,cond_false]at hs;obtain⟨rfl,rfl,rfl⟩:=dC hs;have j:l≠0:=λe=>by rw[e]at a;cases a
    cases d with
    | su _ _ _ _ L c i h1 h2=>
     have r:c≠0:=by omega
     refine⟨.pointer (some ⟨L.blk,L.off+o,none⟩),w,?_,η,.refl f,.p _ _ _ i⟩;show Sem.run P (if c≠0 then _ else _) w=_
     rw[ab r];rfl
    | se=>exact absurd rfl j
def abO{b:Nat}{c:Array Value}{e:TypeId}{fr:Nat×Nat}(h:w.heap[b]?=some (.cells c e fr)):∀(bs:List UInt8) (o:Nat) (acc:ByteArray),(c.toList.drop o).take bs.length=bs.map (λb=>Value.int .u8 b.toNat)->aN P (loadBytes ⟨b,o,none⟩ acc bs.length) w λr w'=>r.data.toList=acc.data.toList++bs/\w'=w:=by
 intro bs
 induction bs with
 | nil=>intro o acc _;exact Ω ⟨by simp,rfl⟩
 | cons x bs ih=>
  intro o acc a;have d:o<c.size:=by
   rcases jA o c.size with h1 | h1
   ·exact h1
   ·rw[qR (by simpa using h1)]at a;simp at a
  rw[gL (by simpa using d)]at a;simp only[eh,j7,eY,List.cons.injEq]at a;obtain⟨h1,h2⟩:=a;show aN P (do match←load ⟨b,o,none⟩ with
   | .int .u8 b'=>loadBytes (Addr.add ⟨b,o,none⟩ 1) (acc.push b'.toNat.toUInt8) bs.length
   | _=>stuck "a byte variable that holds no byte") w _
  refine ψ (HP (v:=.int .u8 x.toNat) ?_ ?_)
  ·rw[EI h,mg d];have:c[o]=c.toList[o]'(by simpa using d):=by simp
   rw[this,h1]
  ·dsimp only;refine(ih (o+1) (acc.push (Int.toNat (x.toNat:Int)).toUInt8) h2).mono ?_;rintro r w' ⟨g1,rfl⟩;refine⟨?_,rfl⟩;rw[g1];simp
def abP{e:TypeId}{count off m:Nat}(hs:P.cellsOf e=1)(h:off+m<=count):liesAt P P.depth e count off e m=true:=by
 have a:∃d,P.depth=d+1:=⟨2*(P.types.size+Made.depth)+1,rfl⟩;obtain⟨d,a⟩:=a;have b:sameLayout P P.depth e e=true:=by rw[a];simp[sameLayout]
 have c:Go.rowAt P (sameLayout P P.depth · e) P.depth e count off m=true:=by rw[a]at b ⊢;simp only[Go.rowAt,hs,Nat.div_one,Nat.mod_one,b];simp[h]
 rw[a]at c ⊢;simp only[liesAt];rw[a,c];rfl
def abQ{t:TypeId}{ts:Array TypeId}{rt:TypeId}{A:Addr}{a:IntKind}{m:Nat}(b:ts[0]?=some t)(h0:m≠0)(hm:m<=9223372036854775807):
 Builtin.unsafeString_ ts rt #[.pointer (some A),.int a (Int.ofNat m)]=
  (do
   if←variablesAt A (←elemOf t) (Int.ofNat m).toNat then do
    let s←loadBytes A .empty (Int.ofNat m).toNat
    freeze A (Int.ofNat m).toNat
    pure (.string s)
   else unsupported (.unsafePointer "String: not so many bytes at ptr")):=by
 have c:¬ (m:Int)<0:=by omega
 have d:IntKind.i64.max=9223372036854775807:=by decide
 have e:¬ (m:Int)>IntKind.i64.max:=by rw[d];omega
 have f:¬ (m:Int)=0:=by omega
 show(do
  let n←asInt (.int a (m:Int))
  let some g:=ts[0]? | stuck "unsafe.String: no argument types"
  if n<0 then runtimePanic (.error "unsafe.String: len out of range")
  if n>IntKind.i64.max then unsupported (.unsafePointer "String: a length above the largest int")
  if n=0 then pure (.string .empty)
  else if←variablesAt A (←elemOf g) n.toNat then do
   let s←loadBytes A .empty n.toNat
   freeze A n.toNat
   pure (.string s)
  else unsupported (.unsafePointer "String: not so many bytes at ptr"):Sem Value)=_
 rw[b];show(do
  if (m:Int)<0 then runtimePanic (.error "unsafe.String: len out of range")
  if (m:Int)>IntKind.i64.max then unsupported (.unsafePointer "String: a length above the largest int")
  if (m:Int)=0 then pure (.string .empty)
  else if←variablesAt A (←elemOf t) (m:Int).toNat then do
   let s←loadBytes A .empty (m:Int).toNat
   freeze A (m:Int).toNat
   pure (.string s)
  else unsupported (.unsafePointer "String: not so many bytes at ptr"):Sem Value)=_
 rw[Γ c,Γ e,Γ f];rfl
def abR(aC:cP P ty)(S:aK η T tmps)(U:bM η ty.g)(f:aU W η H n w){t u:TypeId}{i k:TI}{p l:Operand}{D l':ao}{ts:Array TypeId}(E:ts[0]?=some t)(hi:ty t=some i)(hd:i.desc=.ptr u)(hk:ty u=some k)(DL:k.size=1)
 (hp:br ty p=some D)(hl:br ty l=some l'){rt:TypeId}(hs:simple (.BB u D l') T H n=some (v,H',n')):
 aN P (Builtin.unsafeString_ ts rt #[ai tmps p,ai tmps l]) w λy w'=>∃η',Trans W η H n w η' H' n' w'/\an η' v y:=by
 simp only[simple]at hs;have X:=(aC.ok _ _ hi).desc;rw[hd]at X;have Y:P.cellsOf u=1:=by obtain⟨ti,z,h1,h2,_⟩:=(aC.ok _ _ hk).info;simp[Program.cellsOf,h1,h2,DL]
 cases hv:aq T D with
 | none=>rw[hv]at hs;cases hs
 | some a=>
  cases hw:aq T l' with
  | none=>rw[hv,hw]at hs;cases a<;>cases hs
  | some q=>
   rw[hv,hw]at hs;have G:=bT S U hp hv;have I:=bT S U hl hw;generalize ai tmps p=y at G;generalize ai tmps l=z at I;have empty:an η (.s 0 0) (.string .empty):=by have:=an.s (η:=η) 0 0 (by simp);exact this
   cases a<;>try (cases hs;done)
   ·
    cases q<;>try (cases hs;done)
    rename_i kk m;cases m with
    | negSucc=>cases hs
    | ofNat m=>
     cases m with
     | succ m=>cases hs
     | zero=>
      obtain⟨rfl,rfl,rfl⟩:=dC hs;cases G;cases I;unfold Builtin.unsafeString_;refine ψ (Ω ?_);simp only[E];refine ψ (Ω ?_);exact Ω ⟨η,.refl f,empty⟩
   ·
    rename_i b o;cases q<;>try (cases hs;done)
    rename_i kk m;cases m with
    | negSucc=>cases hs
    | ofNat m=>
     cases G with
     | p _ _ L J=>
     cases I;cases x:Nat.beq m 0 with
     | true=>
      simp only[x,cond_true]at hs;obtain⟨rfl,rfl,rfl⟩:=dC hs;have:=bY x;subst this;unfold Builtin.unsafeString_;refine ψ (Ω ?_);simp only[E];refine ψ (Ω ?_);exact Ω ⟨η,.refl f,empty⟩
     | false=>
      have M:m≠0:=λe=>by rw[e]at x;cases x
      simp only[x,cond_false]at hs;split at hs
      case h_2=>cases hs
      rename_i r e fz hb;cases A:(Nat.beq e u&&Nat.ble m 9223372036854775807) with
      | false=>rw[A]at hs;cases hs
      | true=>
       rw[A]at hs;simp only[cond_true]at hs;rw[aD]at A;have he:=bY A.1;have hm:=j4 A.2;subst he;split at hs
       case h_2=>cases hs
       rename_i vs Z;split at hs
       case h_2=>cases hs
       rename_i d DG;obtain⟨rfl,rfl,rfl⟩:=dC hs;obtain⟨L',h1,h2,cs,fr,B,h4,h5,h6,C⟩:=f.obj b _ hb;rw[J]at h1;injection h1 with h1;subst h1;obtain⟨AU,hlen⟩:=nj Z;have om:vs.length=m:=by rw[AU,ov,sM];omega
       have fg:Ev.rowAt H b=some r:=by simp[Ev.rowAt,hb,O.row]
       obtain⟨L2,cs2,e2,M8,k1,k2,k3,k4⟩:=HV f fg Z;rw[J]at k1;injection k1 with k1;subst k1;rw[B]at k2;injection k2 with k2;injection k2 with k2 X5 abS;subst k2;subst X5;subst abS;obtain⟨o1,o2⟩:=P2 DG k4;rw[om]at o1 o2;have N:(bD m d).length=m:=ql m d;have dN:L.off+o+m<=cs.size:=by rcases k3 with k3 | k3;exact absurd k3 M;exact k3
       rw[abQ E M hm];have abT:w.shape? L.blk=some (e,cs.size):=by simp[World.shape?,B]
       have hva:(variablesAt ⟨L.blk,L.off+o,none⟩ e (Int.ofNat m).toNat).run P w=.ok true w:=by simp only[variablesAt,program,shape,bind,Sem.bind,Sem.run,abT,pure,Y,Nat.div_one];rw[abP Y (by show L.off+o+m<=cs.size;exact dN)]
       refine ψ (ψ (aY X (Ω ?_)));refine ψ ⟨true,w,hva,?_⟩
       ·simp only[if_true];have hmt:Int.toNat (Int.ofNat m)=(bD m d).length:=by rw[N];rfl
        rw[hmt];refine ψ ((abO B (bD m d) (L.off+o) .empty (by rw[N];exact o1)).mono ?_);rintro s w' ⟨g1,rfl⟩;have Is:s=strOf m d:=by
         have:s.data=(bD m d).toArray:=by apply jB;rw[g1];simp
         show s=(⟨(bD m d).toArray⟩:ByteArray);rw[←this]
        subst Is;have X6:w'.freeze ⟨L.blk,L.off+o,none⟩ (bD m d).length={ w' with heap:=w'.heap.setIfInBounds L.blk (.cells cs e (if fr.1==fr.2 then (L.off+o,L.off+o+m) else (min fr.1 (L.off+o),max fr.2 (L.off+o+m))))}:=by
         unfold World.freeze;rw[N,Γ M];congr 1;apply Array.ext
         ·simp
         ·intro j M9 yN;have hj:j<w'.heap.size:=by simpa using M9
          rw[Array.getElem_modify,Array.getElem_setIfInBounds hj];by_cases Q:L.blk=j
          ·subst Q;rw[ab rfl,ab rfl];have:w'.heap[L.blk]=.cells cs e fr:=by
            rw[mg hj]at B;injection B
           rw[this]
          ·rw[Γ Q,Γ Q]
        refine⟨.string (strOf m d),w'.freeze ⟨L.blk,L.off+o,none⟩ (bD m d).length,rfl,?_⟩;refine⟨η,?_,.s _ _ o2⟩;refine Trans.write (o':=.c r e (bif Nat.ble fz (Nat.add o m) then Nat.add o m else fz)) (ob:=.cells cs e (if fr.1==fr.2 then (L.off+o,L.off+o+m) else (min fr.1 (L.off+o),max fr.2 (L.off+o+m)))) f hb rfl J ?_ X6
        refine⟨cs,_,rfl,h4,h5,h6,.inr ?_⟩;have HW:fz<=(bif Nat.ble fz (Nat.add o m) then Nat.add o m else fz)/\o+m<=(bif Nat.ble fz (Nat.add o m) then Nat.add o m else fz):=by
         cases hq:Nat.ble fz (Nat.add o m) with
         | true=>have:=j4 hq;simp only[cond_true];exact⟨this,ξ _⟩
         | false=>
          have:¬ fz<=o+m:=λh=>by have h':Nat.ble fz (o+m)=true:=gk h;have yO:Nat.ble fz (o+m)=false:=hq;rw[h']at yO;cases yO
          simp only[cond_false];omega
        generalize (bif Nat.ble fz (Nat.add o m) then Nat.add o m else fz)=F at HW
        by_cases R:fr.1=fr.2
        ·rw[ab (by simpa using R)];show L.off+o+m<=L.off+F;omega
        ·rw[Γ (by simpa using R)];show max fr.2 (L.off+o+m)<=L.off+F;rcases C with C | C
         ·exact absurd C.symm R
         ·omega
end ops
end
section
section ops
variable {P:Program}{ty:Ty}{W:Nat->Code->AC->Prop}{η:Env}{T:Tr V}{H H':Hp}{n n':K}{w:World}{tmps:Array Value}{v:V}
def abU(aC:cP P ty)(q:aK η T tmps)(r:bM η ty.g)(z:aU W η H n w){t:TypeId}{x:Operand}{a:A}
 (d:de ty (.range t x)=some a)(hs:simple a T H n=some (v,H',n')):
 eW P W η H n w (do pure (.value (←Instr.range t (ai tmps x)))) v H' n':=by
 simp only[de]at d;split at d
 case h_2=>cases d
 rename_i i B hi C;have j:=(aC.ok _ _ hi).desc;refine gC ?_;have new:∀{o:O} {ob:Obj},jD H n o (.p n 0)=some (v,H',n')->(∀η',η.le η'->gN W η' o ⟨w.heap.size,0,0⟩ (some ob))->aN P (do pure (Value.pointer (some ⟨←newObj ob,0,none⟩))) w λy w'=>∃η',Trans W η H n w η' H' n' w'/\an η' v y:=by intro o ob E F;obtain⟨rfl,rfl,rfl⟩:=oC E;obtain⟨η',h1,h2⟩:=Trans.new z F;exact ψ (tZ (Ω ⟨η',h1,an.p (η:=η') n 0 _ h2⟩))
 split at d
 ·rename_i l;injection d with d;subst d;rw[l]at j;simp only[simple]at hs;cases hv:aq T B with
  | none=>rw[hv]at hs;cases hs
  | some u=>
   rw[hv]at hs;have f:=bT q r C hv;generalize ai tmps x=y at f;cases u<;>try (cases hs;done)
   cases f with
   | s _ _ hm=>
    refine ψ (aY j (ψ (Ω ?_)));exact new hs λη' _=>⟨rfl,rfl,hm⟩
 ·rename_i k e l;injection d with d;subst d;rw[l]at j;simp only[simple]at hs;cases hv:aq T B with
  | none=>rw[hv]at hs;cases hs
  | some u=>
   rw[hv]at hs;have f:=bT q r C hv;generalize ai tmps x=y at f;cases u<;>try (cases hs;done)
   rename_i b;cases f with
   | m _ L D=>
    simp only at hs;split at hs
    ·rename_i es c hb;obtain⟨G,g1,I⟩:=xJ z hb D;refine ψ (aY j ?_);refine ψ (xB g1 (by intro _ _ _ h;cases h) (ψ (Ω ?_)));exact new hs λη' hle=>⟨rfl,L,hle _ _ D,rfl⟩
    ·cases hs
 ·cases d
def abV(r:aK η T tmps)(s:bM η ty.g)(d:aU W η H n w){x:Operand}{b:Bool}{a:A}{rt:TypeId}
 (c:de ty (.next x b)=some a)(hs:simple a T H n=some (v,H',n')):
 eW P W η H n w (do pure (.value (←Instr.next (ai tmps x) b rt))) v H' n':=by
 simp only[de]at c;split at c
 case h_2=>cases c
 rename_i t z;cases b with
 | false=>cases c
 | true=>
  simp only[cond_true]at c;injection c with c;subst c;simp only[simple]at hs;refine gC ?_;cases hv:aq T t with
  | none=>rw[hv]at hs;cases hs
  | some u=>
   rw[hv]at hs;have e:=bT r s z hv;generalize ai tmps x=y at e;cases u<;>try (cases hs;done)
   rename_i k o;cases o with
   | succ o=>cases hs
   | zero=>
    simp only at hs;split at hs
    case h_2=>cases hs
    rename_i l m pos hb;cases e with
    | p _ _ L f=>
     obtain⟨L',g1,B,g0,j,q⟩:=d.obj k _ hb;rw[f]at g1;injection g1 with g1;subst g1;rw[g0];refine ψ (xB j (by intro _ _ _ h;cases h) ?_);dsimp only;rw[sT];cases hp:Nat.blt pos l with
     | false=>
      rw[hp]at hs;obtain⟨rfl,rfl,rfl⟩:=dC hs;have:¬ pos<l:=by rw[fF]at hp;simpa using hp
      rw[Γ this];exact Ω ⟨η,.refl d,.u _ _ (.cons _ _ _ _ (.b _) .nil)⟩
     | true=>
      rw[hp]at hs;obtain⟨rfl,rfl,rfl⟩:=dC hs;have:pos<l:=by rw[fF]at hp;simpa using hp
      rw[ab this,PZ q];refine ψ (HQ j (by intro _ _ _ h;cases h) (Ω ⟨η,?_,?_⟩))
      ·exact Trans.write (o':=.it _ _ _) d hb rfl f ⟨g0,rfl,q⟩ rfl
      ·exact .u _ _ (.cons _ _ _ _ (.b _) (.cons _ _ _ _ (.i _ _) (.cons _ _ _ _ (.i _ _) .nil)))
def find_born:∀{es:List (V×V×Nat)} {l:List MapEntry},dM η es l->∀{t:Nat} {k v:V},vT t es=some (k,v)->∃e,l.find? (·.born==t)=some e/\an η k e.key/\an η v e.val
 | [],[],_,t,k,v,h=>by cases h
 | (k1,v1,b1)::es,e::l,⟨h1,h2,a,c⟩,t,k,v,h=>by
  simp only[vT]at h;rw[List.find?_cons];cases hb:Nat.beq b1 t with
  | true=>
   rw[hb]at h;simp only[cond_true]at h;injection h with h;injection h with d f;subst d;subst f;have:(e.born==t)=true:=by rw[a];simpa using bY hb
   rw[this];exact⟨e,rfl,h1,h2⟩
  | false=>
   rw[hb]at h;have:(e.born==t)=false:=by rw[a,Bool.eq_false_iff];intro b;rw[beq_iff_eq]at b;subst b;simp at hb
   rw[this];exact find_born c h
 | [],_::_,h,_,_,_,_=>h.elim
 | _::_,[],h,_,_,_,_=>h.elim
def abW(j:aK η T tmps)(l:bM η ty.g)(d:aU W η H n w){x:Operand}{a:A}
 (b:de ty (.entry x)=some a)(hs:simple a T H n=some (v,H',n')):
 eW P W η H n w (do pure (.value (←Instr.entry (ai tmps x)))) v H' n':=by
 simp only[de]at b;split at b
 case h_2=>cases b
 rename_i q r;injection b with b;subst b;simp only[simple]at hs;refine gC ?_;cases hv:aq T q with
 | none=>rw[hv]at hs;cases hs
 | some u=>
  rw[hv]at hs;have i:=bT j l r hv;generalize ai tmps x=y at i;cases u<;>try (cases hs;done)
  rename_i k o;cases o with
  | succ o=>cases hs
  | zero=>
   simp only at hs;split at hs
   case h_2=>cases hs
   rename_i m c t hb;split at hs
   case h_2=>cases hs
   rename_i es c' hm;cases f:Nat.beq c c' with
   | false=>rw[f]at hs;cases hs
   | true=>
    rw[f]at hs;simp only[cond_true]at hs;split at hs
    case h_2=>cases hs
    rename_i M vv hf;obtain⟨rfl,rfl,rfl⟩:=dC hs;obtain rfl:=bY f;cases i with
    | p _ _ L s=>
     obtain⟨L',g1,N,g0,Lm,since,seen,z,B,C⟩:=d.obj k _ hb;rw[s]at g1;injection g1 with g1;subst g1;obtain⟨D,E,F⟩:=xJ d hm z;rw[g0];obtain⟨e,G,I,J⟩:=find_born F hf;refine ψ (xB B (by intro _ _ _ h;cases h) ?_);dsimp only;rw[C];refine ψ (xB E (by intro _ _ _ h;cases h) ?_);dsimp only;rw[Γ (by simp)];have:D.find? (·.born==t)=some e:=by rw[←Array.find?_toList];exact G
     rw[this];exact Ω ⟨η,.refl d,.u _ _ (.cons _ _ _ _ I (.cons _ _ _ _ J .nil))⟩
def abX(aC:cP P ty)(r:aK η T tmps)(y:bM η ty.g)(o:aU W η H n w){c:Call}{b:Builtin}(hb:c.callee=.builtin b){rt:TypeId}{a:A}
 (f:qW ty c=some a)(hs:simple a T H n=some (v,H',n'))(cs:Array Bool):
 eW P W η H n w (builtin b c.argTypes rt cs (c.args.map (ai tmps))) v H' n':=by
 obtain⟨callee,⟨args⟩,⟨argTypes⟩⟩:=c;simp only at hb;subst hb;rw[show(Array.map (ai tmps) ⟨args⟩)=(args.map (ai tmps)).toArray by simp];simp only[qW]at f;split at f
 ·rename_i s x t u B;split at f
  case h_2=>cases f
  rename_i i j s' C hi hj E q;split at f
  ·cases f
  ·rename_i M e h F;split at f
   ·rename_i k z;injection f with f;subst f;exact gC (abC aC r y o rfl rfl hi (by simpa using h) hj (by simpa using F) z E q hs)
   ·cases f
  ·cases f
 ·rename_i x t B;split at f
  case h_2=>cases f
  rename_i i C hi q;split at f
  case h_2=>cases f
  injection f with f;subst f;exact gC (abN r y o q hs)
 ·rename_i p l t B;split at f
  case h_2=>cases f
  rename_i i N l' hi G I;split at f
  case h_2=>cases f
  rename_i u h;split at f
  case h_2=>cases f
  rename_i _ _ z;injection f with f;subst f;exact gC (abR aC r y o (ts:=(t::B).toArray) U hi (by simpa using h) z rfl G I hs)
 ·rename_i d x t B;split at f
  case h_2=>cases f
  rename_i i d' C hi J q;split at f
  case h_2=>cases f
  rename_i e h;split at f
  case h_2=>cases f
  rename_i k z;injection f with f;subst f;exact gC (abK aC r y o rfl hi h z J q hs)
 ·rename_i x t B;split at f
  case h_2=>cases f
  rename_i i C hi q;have D:=(aC.ok _ _ hi).desc;split at f
  ·rename_i m e h;injection f with f;subst f;rw[h]at D;obtain⟨rfl,rfl,rfl⟩:=dC (a:=.i .i64 (Int.ofNat m)) (b:=H) (c:=n) hs;refine gC ?_;exact ψ (aY D (Ω ⟨η,.refl o,.i _ _⟩))
  ·rename_i e h;rw[h]at D;split at f
   ·rename_i m O _ _ _ z;injection f with f;subst f;have L:=(aC.ok _ _ z).desc;obtain⟨rfl,rfl,rfl⟩:=dC (a:=.i .i64 (Int.ofNat m)) (b:=H) (c:=n) hs;refine gC ?_;exact ψ (aY D (ψ (aY L (Ω ⟨η,.refl o,.i _ _⟩))))
   ·cases f
  ·rename_i h;injection f with f;subst f;exact gC (Iq aC r y o rfl hi (.inl ⟨rfl,h⟩) q hs)
  ·rename_i e h;injection f with f;subst f;exact gC (Iq aC r y o rfl hi (.inr (.inl ⟨rfl,e,h⟩)) q hs)
  ·rename_i k e h;injection f with f;subst f;exact gC (Iq aC r y o rfl hi (.inr (.inr ⟨rfl,k,e,h⟩)) q hs)
  ·cases f
 ·rename_i x t B;split at f
  case h_2=>cases f
  rename_i i C hi q;split at f
  case h_2=>cases f
  rename_i e h;injection f with f;subst f;exact gC (abL aC r y o rfl hi h q hs)
 ·skip
  split at f
  case h_2=>cases f
  rename_i l' hl;injection f with f;subst f;have:=Ql (mx:=true) (rt:=rt) (ts:=⟨argTypes⟩) (P:=P) (w:=w) r y o hl hs;exact gC (by simpa using this)
 ·skip
  split at f
  case h_2=>cases f
  rename_i l' hl;injection f with f;subst f;have:=Ql (mx:=false) (rt:=rt) (ts:=⟨argTypes⟩) (P:=P) (w:=w) r y o hl hs;exact gC (by simpa using this)
 ·rename_i x t B;split at f
  case h_2=>cases f
  rename_i i C hi q;split at f
  case h_2=>cases f
  rename_i e h;split at f
  case h_2=>cases f
  rename_i k z;injection f with f;subst f;exact gC (abM aC r y o rfl hi h z q hs)
 ·cases f
def abY(aC:cP P ty)(p:aK η T tmps)(q:bM η ty.g)(j:aU W η H n w){o:Oper}{a:A}(h:de ty o.op=some a)
 (hs:simple a T H n=some (v,H',n')):eW P W η H n w (execOp (ai tmps) o) v H' n':=by
 obtain⟨dst,op,rt,pos,after,E⟩:=o;simp only at h;cases op with
 | move x=>
  have C:=h;simp only[de]at h;split at h
  ·rename_i D B;injection h with h;subst h;exact O5 p q j B hs
  ·cases h
 | assign x=>
  have C:=h;simp only[de]at h;split at h
  ·rename_i D B;injection h with h;subst h;exact O5 p q j B hs
  ·cases h
 | pick c x y=>exact aag p q j h hs
 | alloc e=>exact aaa aC j h hs
 | box e x=>exact aab p q j h hs
 | build t ps=>exact aaf aC p q j h hs
 | buildSlice t l ps=>exact aah aC p q j h hs
 | load t x=>exact Z8 aC p q j h hs
 | store t x y=>exact Z9 aC p q j h hs
 | nilCheck x=>exact aai p q j h hs _ rfl
 | binOp op t x y u=>exact aa6 aC p q j h hs
 | unOp op t x=>exact aa7 p q j h hs
 | convert s d x=>exact abf aC p q j h hs
 | makeInterface t x=>exact aaj aC p q j h hs
 | makeFunc f x c=>exact aak p q j h hs
 | makeMap t r=>exact aal aC j h hs
 | makeSlice t l c=>exact abh aC p q j h hs
 | slice t x lo hi mx=>exact abm aC p q j h hs
 | fieldAddr s x f=>exact aam aC p q j h hs
 | field s x f=>exact aan aC p q j h hs
 | indexAddr t x i=>exact aao aC p q j h hs
 | index t x i=>exact aaq aC p q j h hs
 | lookup t x i ok=>exact abu aC p q j h hs
 | mapUpdate t m k x=>exact Qf aC p q j h hs
 | insert t m k x=>exact Qf aC p q j h hs
 | range t x=>exact abU aC p q j h hs
 | next x s=>exact abV p q j h hs
 | entry x=>exact abW p q j h hs
 | typeAssert x F t ok=>exact aas aC p q j h hs
 | extract x i=>exact aar p q j h hs
 | call c=>
  have h:qW ty c=some a:=h;cases z:c.callee with
  | value f=>
   simp only[qW,z]at h;split at h
   ·injection h with h;subst h;cases hs
   ·cases h
  | invoke r m=>simp only[qW,z]at h;cases h
  | builtin b=>
   have:=abX (rt:=rt) (w:=w) (P:=P) aC p q j z h hs (c.args.map fun | .const _=>true | _=>false);show eW P W η H n w (do let d←resolve (ai tmps) c rt;Go.invoke d.target d.args) v H' n';unfold resolve;simp only[z];exact this
 | panic x=>
  simp only[de]at h;split at h
  ·injection h with h;subst h;cases hs
  ·cases h
 | _=>cases h
end ops
end
end Go.Ev
