/- A part of the proof. -/
import Derived.Lib.DecodeN
import Derived.Lib.Builder
import Derived.Test.YtpdbepbhlalldaaGreatDoorA
set_option linter.all false
namespace Go.Ev
open Go
section
section ops
variable {P:Program}{ty:Ty}{W:Nat->Code->AC->Prop}{η:Env}{T:Tr V}{H H':Hp}{n n':K}{w:World}{tmps:Array Value}{v:V}
def KC(P:Program)(t:TypeId):EK->Prop
 | .bool=>P.underlying t=some .bool
 | .int=>∃k,P.underlying t=some (.int k)
 | .str=>P.underlying t=some .string
 | .ptr=>∃e i,P.underlying t=some (.pointer e)/\vX P e i/\i.size≠0
 | .slice=>∃e,P.underlying t=some (.slice e)
 | .map=>∃k e,P.underlying t=some (.map k e)
 | .func=>∃a b c,P.underlying t=some (.func a b c)
 | .iface=>∃ms,P.underlying t=some (.interface ms)
theorem QC{l m l' m':Nat}(h:m<256 ^ l)(h':m'<256 ^ l'):(strOf l m==strOf l' m')=(Nat.beq l l'&&Nat.beq m m'):=by
 rw[←P2 h h'];show((strOf l m).data==(strOf l' m').data)=_;rw[sJ];simp only[beq_iff_eq,strOf];constructor
 ·intro e;have:=congrArg Array.toList e;simpa using this
 ·intro e;rw[e]
theorem BK{t:TypeId}{q:EK}(hq:KC P t q){x y:V}{x' y':Value}(hx:aC η x x')(hy:aC η y y'){r:Bool}(h:dX q x y=some r)(k:Nat):
 bA P (Op.equalIn (k+1) t x' y') w λb w'=>b=r/\w'=w:=by
 unfold dX at h;split at h
 ·cases hx;cases hy;injection h with h;subst h;exact Δ (bS hq (an ⟨rfl,rfl⟩))
 ·cases hx;cases hy;rename_i k1 a k2 b;cases hb:Nat.beq (kn k1) (kn k2) with
  | false=>rw[hb]at h;cases h
  | true=>
   rw[hb]at h;injection h with h;subst h;have e:=G2 hb;obtain⟨kk,hu⟩:=hq;refine Δ (bS hu ?_);simp only[e,if_true];exact an ⟨(BJ _ _).symm,rfl⟩
 ·cases hx with
  | s _ _ h1=>cases hy with
   | s _ _ h2=>
    injection h with h;subst h;exact Δ (bS hq (an ⟨QC h1 h2,rfl⟩))
 ·cases hx;cases hy;injection h with h;subst h;obtain⟨e,i,hu,_⟩:=hq;exact Δ (bS hu (an ⟨rfl,rfl⟩))
 ·cases hx;cases hy;injection h with h;subst h;obtain⟨e,i,hu,_⟩:=hq;exact Δ (bS hu (an ⟨rfl,rfl⟩))
 ·cases hx;cases hy;injection h with h;subst h;obtain⟨e,i,hu,_⟩:=hq;exact Δ (bS hu (an ⟨rfl,rfl⟩))
 ·rename_i b o b' o';cases hb:K.beq b b' with
  | false=>rw[hb]at h;cases h
  | true=>
   rw[hb]at h;injection h with h;subst h;have e:=K.beq_eq hb;subst e;cases hx with
   | p _ _ L hL=>cases hy with
    | p _ _ L' jm=>
     rw[hL]at jm;injection jm with jm;subst jm;obtain⟨e,i,hu,hi,bC⟩:=hq;refine Δ (bS hu ?_);refine Δ (mQ hi ?_);simp only[ne_eq,bC,not_false_eq_true,if_true];unfold sameAddr;simp only[beq_self_eq_true,if_true];refine an ⟨?_,rfl⟩;rw[sJ];simp only[beq_iff_eq,Addr.mk.injEq,true_and,and_true,Nat.beq_eq];omega
 ·cases hx;cases hy;injection h with h;subst h;obtain⟨e,hu⟩:=hq;exact Δ (bS hu (an ⟨rfl,rfl⟩))
 ·cases hx;cases hy;injection h with h;subst h;obtain⟨e,hu⟩:=hq;exact Δ (bS hu (an ⟨rfl,rfl⟩))
 ·cases hx;injection h with h;subst h;obtain⟨e,hu⟩:=hq;cases hy<;>exact Δ (bS hu (an ⟨rfl,rfl⟩))
 ·cases hx;cases hy;injection h with h;subst h;obtain⟨e,hu⟩:=hq;exact Δ (bS hu (an ⟨rfl,rfl⟩))
 ·cases hy;injection h with h;subst h;obtain⟨e,hu⟩:=hq;cases hx<;>exact Δ (bS hu (an ⟨rfl,rfl⟩))
 ·cases hx;cases hy;injection h with h;subst h;obtain⟨e,f,hu⟩:=hq;exact Δ (bS hu (an ⟨rfl,rfl⟩))
 ·cases hx;cases hy;injection h with h;subst h;obtain⟨e,f,hu⟩:=hq;exact Δ (bS hu (an ⟨rfl,rfl⟩))
 ·cases hx;cases hy;injection h with h;subst h;obtain⟨e,f,hu⟩:=hq;exact Δ (bS hu (an ⟨rfl,rfl⟩))
 ·cases hx;cases hy;injection h with h;subst h;obtain⟨a,b,c,hu⟩:=hq;exact Δ (bS hu (an ⟨rfl,rfl⟩))
 ·cases hx;cases hy;injection h with h;subst h;obtain⟨a,b,c,hu⟩:=hq;exact Δ (bS hu (an ⟨rfl,rfl⟩))
 ·cases hx;cases hy;injection h with h;subst h;obtain⟨a,b,c,hu⟩:=hq;exact Δ (bS hu (an ⟨rfl,rfl⟩))
 ·cases hx;cases hy;injection h with h;subst h;obtain⟨ms,hu⟩:=hq;exact Δ (bS hu (an ⟨rfl,rfl⟩))
 ·cases hx;cases hy;injection h with h;subst h;obtain⟨ms,hu⟩:=hq;exact Δ (bS hu (an ⟨rfl,rfl⟩))
 ·cases hx;cases hy;injection h with h;subst h;obtain⟨ms,hu⟩:=hq;exact Δ (bS hu (an ⟨rfl,rfl⟩))
 ·cases h
theorem zP(aW:dO P ty){t:TypeId}{i:TI}(hi:ty t=some i){q:EK}(h:i.desc.key=some q):KC P t q/\i.desc.agg=false:=by
 have hd:=(aW.ok _ _ hi).desc;obtain⟨d,sz,by_,z⟩:=i;cases d<;>simp only[TD.key]at h<;>first | (cases h;done) | (injection h with h;subst h)
 ·exact⟨hd,rfl⟩
 ·exact⟨⟨_,hd⟩,rfl⟩
 ·exact⟨hd,rfl⟩
theorem BL(aW:dO P ty){t:TypeId}{i:TI}(hi:ty t=some i)(hg:i.desc.agg=false){l:List V}{cs:Array Value}(hl:bB η l cs.toList){o:Nat}{v:V}(h:nth l o=some v):
 bA P (part t cs o) w λy w'=>aC η v y/\w'=w:=
 Ku (aW.ok _ _ hi) hl (by rw[hg];exact h)
theorem DR{α β:Type}{x:Sem α}{f:α->Sem β}{Φ:β->World->Prop}(h:bA P (x >>=f) w Φ):bA P x w λa w'=>bA P (f a) w' Φ:=by
 obtain⟨b,xf,h1,h2⟩:=h;have nu:(Sem.bind x f).run P w=.ok b xf:=h1;rw[Sem.run_bind']at nu;cases hx:x.run P w with
 | ok a w'=>rw[hx]at nu;exact⟨a,w',hx,b,xf,nu,h2⟩
 | halt e w'=>rw[hx]at nu;cases nu
theorem aa7(aW:dO P ty){xs ys:List V}{cx cy:Array Value}(hx:bB η xs cx.toList)(hy:bB η ys cy.toList)(k:Nat){fs:List Field}(hn:∀f∈fs,f.name ≠ "_")
 {l:List (Nat×EK)}(hl:flat ty (fs.map λf=>(f.type,f.offset))=some l){r:Bool}(h:CI xs ys l=some r):
 bA P (do
  for f in fs do
   if f.name ≠ "_" then
    if !(←Op.equalIn (k+1) f.type (←part f.type cx f.offset) (←part f.type cy f.offset)) then return false
  pure true) w λb w'=>b=r/\w'=w:=by
 induction fs generalizing l with
 | nil=>
  simp only[List.map_nil,flat]at hl;injection hl with hl;subst hl;simp only[CI]at h;injection h with h;subst h;exact Δ (an (an ⟨rfl,rfl⟩))
 | cons f fs ih=>
  simp only[ma,flat]at hl;split at hl
  case h_2=>cases hl
  rename_i i hi;split at hl
  case h_2=>cases hl
  rename_i q l' hq re;injection hl with hl;subst hl;simp only[CI]at h;split at h
  case h_2=>cases h
  rename_i x y h1 h2;obtain⟨zQ,zR⟩:=zP aW hi hq;have bC:=hn f (by simp);rw[List.forIn_cons];simp only[ne_eq,bC,not_false_eq_true,if_true];refine Δ (Δ (Δ ((BL aW hi zR hx h1).mono ?_)));rintro x' w' ⟨oN,rfl⟩;refine Δ ((BL aW hi zR hy h2).mono ?_);rintro y' w' ⟨Oq,rfl⟩;refine Δ ?_;cases hv:dX q x y with
  | none=>rw[hv]at h;cases h
  | some b=>
   rw[hv]at h;refine(BK zQ oN Oq hv k).mono ?_;rintro b' w' ⟨rfl,rfl⟩;cases b' with
   | false=>
    injection h with h;subst h;exact an (an (an ⟨rfl,rfl⟩))
   | true=>
    refine an ?_;exact DR (ih (λf hf=>hn f (by simp[hf])) re h)
theorem aa8(aW:dO P ty){e:TypeId}{i:TI}(hi:ty e=some i){q:EK}(hq:i.desc.key=some q){xs ys:List V}{cx cy:Array Value}(hx:bB η xs cx.toList)(hy:bB η ys cy.toList)(k:Nat)
 {fs:List Nat}{r:Bool}(h:CI xs ys (fs.map λi=>(i,q))=some r):
 bA P (do
  for j in fs do
   if !(←Op.equalIn (k+1) e (←part e cx (j*1)) (←part e cy (j*1))) then return false
  pure true) w λb w'=>b=r/\w'=w:=by
 obtain⟨zQ,zR⟩:=zP aW hi hq
 induction fs with
 | nil=>
  simp only[List.map_nil,CI]at h;injection h with h;subst h;exact Δ (an (an ⟨rfl,rfl⟩))
 | cons f fs ih=>
  simp only[ma,CI]at h;split at h
  case h_2=>cases h
  rename_i x y h1 h2;rw[List.forIn_cons];refine Δ (Δ (Δ ((BL aW hi zR hx (by rw[ka];exact h1)).mono ?_)));rintro x' w' ⟨oN,rfl⟩;refine Δ ((BL aW hi zR hy (by rw[ka];exact h2)).mono ?_);rintro y' w' ⟨Oq,rfl⟩;refine Δ ?_;cases hv:dX q x y with
  | none=>rw[hv]at h;cases h
  | some b=>
   rw[hv]at h;refine(BK zQ oN Oq hv k).mono ?_;rintro b' w' ⟨rfl,rfl⟩;cases b' with
   | false=>
    injection h with h;subst h;exact an (an (an ⟨rfl,rfl⟩))
   | true=>
    refine an ?_;exact DR (ih h)
theorem QD(aW:dO P ty){t:TypeId}{i:TI}(hi:ty t=some i){q:EK}(h:i.desc.key=some q):i.size=1:=by
 obtain⟨_,zR⟩:=zP aW hi h;obtain⟨ti,z,_,_,_,_,h5,_,h7,h8,_⟩:=(aW.ok _ _ hi).info;have hz:=h7 zR;have hc:z.cells=#[z]:=by cases z<;>first | rfl | (simp[Value.sP]at hz)
 have:=(vY (λ_=>none) h5).length;rw[hc]at this;rw[←h8,this];rfl
theorem G7(aW:dO P ty){t:TypeId}{q:eH}(hq:mg ty t=some q){x y:V}{x' y':Value}(hx:aC η x x')(hy:aC η y y'){r:Bool}(h:mF q x y=some r):
 bA P (Op.equal t x' y') w λb w'=>b=r/\w'=w:=by
 unfold mg at hq;split at hq
 case h_2=>cases hq
 rename_i i hi;have hd:=(aW.ok _ _ hi).desc;split at hq
 ·rename_i fs plain oO;cases plain with
  | false=>cases hq
  | true=>
   simp only[cond_true]at hq;split at hq
   case h_2=>cases hq
   rename_i l hl;injection hq with hq;subst hq;rw[oO]at hd;obtain⟨sf,hu,vG,_,xh⟩:=hd;obtain⟨p1,p2,_⟩:=xh rfl;simp only[mF]at h;split at h
   case h_2=>cases h
   rename_i xs ys;cases hx with
   | a _ cx hx=>cases hy with
    | a _ cy hy=>
     refine Δ (bS hu ?_);refine Δ (DF ?_);simp only[p2,zt,if_false];rw[←Array.forIn_toList];exact aa7 (cx:=⟨cx⟩) (cy:=⟨cy⟩) aW hx hy 9998 (λf hf=>p1 f (by simpa using hf)) (by rw[←vG];exact hl) h
 ·rename_i m e oO;rw[oO]at hd;split at hq
  case h_2=>cases hq
  rename_i j hj;split at hq
  case h_2=>cases hq
  rename_i q' hJ;injection hq with hq;subst hq;simp only[mF]at h;split at h
  case h_2=>cases h
  rename_i xs ys;cases hx with
  | a _ cx hx=>cases hy with
   | a _ cy hy=>
    refine Δ (bS hd ?_);refine Δ (mQ (aW.ok _ _ hj) ?_);rw[QD aW hj hJ];have:=aa8 (w:=w) (fs:=List.range m) (cx:=⟨cx⟩) (cy:=⟨cy⟩) aW hj hJ hx hy 9998 h;simp only[Std.Legacy.Range.forIn_eq_forIn_range',Std.Legacy.Range.size];simpa[xz]using this
 ·rename_i d h1 h2;split at hq
  case h_2=>cases hq
  rename_i q' hJ;injection hq with hq;subst hq;exact BK (zP aW hi hJ).1 hx hy h 9999
end ops
end
section
section ops
variable {P:Program}{ty:Ty}{W:Nat->Code->AC->Prop}{η:Env}{T:Tr V}{H H':Hp}{n n':K}{w:World}{tmps:Array Value}{v:V}
def isConst:Operand->Bool
 | .const _=>true
 | _=>false
theorem KD{α:Type}{c:Prop}[Decidable c]{s s':Sem α}{Φ:α->World->Prop}(hc:c)(h:bA P s w Φ):bA P (if c then s else s') w Φ:=by rw[az hc];exact h
theorem QE(aW:dO P ty){t:TypeId}{a b:Operand}{q:eH}(hq:Jm ty t a b=some q){x y:V}{x' y':Value}(hx:aC η x x')(hy:aC η y y'){r:Bool}(h:mF q x y=some r):
 bA P (Op.equal t x' y') w λb w'=>b=r/\w'=w:=by
 unfold Jm at hq;split at hq
 case h_2=>cases hq
 rename_i i hi;have hd:=(aW.ok _ _ hi).desc;split at hq
 ·exact G7 aW hq hx hy h
 ·exact G7 aW hq hx hy h
 ·rename_i oO;rw[oO]at hd;cases hb:(xI a||xI b) with
  | false=>rw[hb]at hq;cases hq
  | true=>
   rw[hb]at hq;injection hq with hq;subst hq;exact BK (q:=.iface) hd hx hy h 9999
 ·rename_i e oO;rw[oO]at hd;split at hq
  case h_2=>cases hq
  rename_i j hj;cases hb:Nat.beq j.size 0 with
  | true=>rw[hb]at hq;cases hq
  | false=>
   rw[hb]at hq;injection hq with hq;subst hq;exact BK (q:=.ptr) ⟨e,j,hd,aW.ok _ _ hj,λe0=>by rw[e0]at hb;cases hb⟩ hx hy h 9999
 ·rename_i d h1 h2 h3 h4;split at hq
  case h_2=>cases hq
  rename_i q' hJ;injection hq with hq;subst hq;have:KC P t q':=by
   generalize i.desc=d at*;cases d<;>simp only[TD.ek]at hJ<;>first | (cases hJ;done) | (injection hJ with hJ;subst hJ)
   ·exact hd
   ·exact⟨_,hd⟩
   ·exact hd
   ·exact absurd rfl (h4 _)
   ·exact⟨_,hd⟩
   ·exact⟨_,_,hd⟩
   ·exact hd
  exact BK this hx hy h 9999
theorem BM(aW:dO P ty){op:BinOp}{t:TypeId}{a b:Operand}{q:eH}(hq:isEq op=true->Jm ty t a b=some q){x y:V}{x' y':Value}(hx:aC η x x')(hy:aC η y y')
 (hv:isEq op=true->(∃r,mF q x y=some r)\/(∃k n k' n',x=.i k n/\y=.i k' n')\/∃l n l' n',x=.s l n/\y=.s l' n'){Φ:Unit->World->Prop}(h:Φ () w):bA P (eqGuard op t a b x' y') w Φ:=by
 unfold eqGuard;cases he:isEq op with
 | false=>cases op<;>first | (cases he;done) | exact an h
 | true=>
  have hq:=hq he;have fm:op=.eql\/op=.neq:=by cases op<;>first | exact .inl U | exact .inr U | cases he
  suffices hG:bA P (match x',y' with
   | .nilIface,.nilIface=>do
    if (a matches .const _)||(b matches .const _) then return
    if←Op.eqGuardIn Op.maxDepth t x' y' then unsupported (.noEntry "binop/eql: two nil values of an interface type with methods, neither of them the literal nil")
   | .agg _,.agg _=>do
    if !(←program).eqGuardType (←program).depth t then return
    if←Op.eqGuardIn Op.maxDepth t x' y' then unsupported (.noEntry "binop/eql: two nil values of an interface type with methods, in a part of a struct or an array")
   | _,_=>pure ()) w Φ by
   rcases fm with rfl | rfl<;>exact hG
  rcases hv he with ⟨r,hr⟩ | ⟨k,m,k',m',rfl,rfl⟩ | ⟨l,m,l',m',rfl,rfl⟩
  ·unfold Jm at hq;split at hq
   case h_2=>cases hq
   rename_i i hi;have hd:=(aW.ok _ _ hi).desc;have pass:(∀c c',¬ (x'=.agg c/\y'=.agg c'))->¬ (x'=.nilIface/\y'=.nilIface)->bA P (match x',y' with
    | .nilIface,.nilIface=>do
     if (a matches .const _)||(b matches .const _) then return
     if←Op.eqGuardIn Op.maxDepth t x' y' then unsupported (.noEntry "binop/eql: two nil values of an interface type with methods, neither of them the literal nil")
    | .agg _,.agg _=>do
     if !(←program).eqGuardType (←program).depth t then return
     if←Op.eqGuardIn Op.maxDepth t x' y' then unsupported (.noEntry "binop/eql: two nil values of an interface type with methods, in a part of a struct or an array")
    | _,_=>pure ()) w Φ:=by
    intro h1 h2;split
    ·exact absurd ⟨rfl,rfl⟩ h2
    ·exact absurd ⟨rfl,rfl⟩ (h1 _ _)
    ·exact an h
   have QF:P.eqGuardType P.depth t=false->∀c c',x'=.agg c->y'=.agg c'->bA P (match x',y' with
    | .nilIface,.nilIface=>do
     if (a matches .const _)||(b matches .const _) then return
     if←Op.eqGuardIn Op.maxDepth t x' y' then unsupported (.noEntry "binop/eql: two nil values of an interface type with methods, neither of them the literal nil")
    | .agg _,.agg _=>do
     if !(←program).eqGuardType (←program).depth t then return
     if←Op.eqGuardIn Op.maxDepth t x' y' then unsupported (.noEntry "binop/eql: two nil values of an interface type with methods, in a part of a struct or an array")
    | _,_=>pure ()) w Φ:=by
    rintro hg c c' rfl rfl;refine Δ (DF (Δ (DF ?_)));simp only[hg,Bool.not_false,if_true];exact an h
   have one:∀q',q=.one q'->q'≠.iface->bA P (match x',y' with
    | .nilIface,.nilIface=>do
     if (a matches .const _)||(b matches .const _) then return
     if←Op.eqGuardIn Op.maxDepth t x' y' then unsupported (.noEntry "binop/eql: two nil values of an interface type with methods, neither of them the literal nil")
    | .agg _,.agg _=>do
     if !(←program).eqGuardType (←program).depth t then return
     if←Op.eqGuardIn Op.maxDepth t x' y' then unsupported (.noEntry "binop/eql: two nil values of an interface type with methods, in a part of a struct or an array")
    | _,_=>pure ()) w Φ:=by
    rintro q' rfl bC;refine pass ?_ ?_
    ·rintro c c' ⟨rfl,rfl⟩;simp only[mF]at hr;cases hx<;>cases hy<;>cases q'<;>simp[dX]at hr
    ·rintro⟨rfl,rfl⟩;simp only[mF]at hr;cases hx<;>cases hy<;>cases q'<;>first | exact bC rfl | (simp[dX]at hr)
   split at hq
   ·rename_i fs plain oO;rw[oO]at hd;unfold mg at hq;simp only[hi,oO]at hq;cases plain with
    | false=>cases hq
    | true=>
     simp only[cond_true]at hq;split at hq
     case h_2=>cases hq
     injection hq with hq;subst hq;obtain⟨sf,_,_,_,xh⟩:=hd;simp only[mF]at hr;split at hr
     case h_2=>cases hr
     cases hx with
     | a _ cx _=>cases hy with
      | a _ cy _=>exact QF (xh rfl).2.2 _ _ rfl rfl
   ·rename_i m e oO;rw[oO]at hd;unfold mg at hq;simp only[hi,oO]at hq;split at hq
    case h_2=>cases hq
    rename_i j hj;split at hq
    case h_2=>cases hq
    rename_i q' hJ;injection hq with hq;subst hq;simp only[mF]at hr;split at hr
    case h_2=>cases hr
    cases hx with
    | a _ cx _=>cases hy with
     | a _ cy _=>
      refine QF ?_ _ _ rfl rfl;obtain⟨d,aa9⟩:∃d,P.depth=d+1+1:=⟨2*(P.types.size+Made.depth),rfl⟩;rw[aa9];obtain⟨zQ,_⟩:=zP aW hj hJ;have qv:P.eqGuardType (d+1) e=false:=by
       unfold Go.Program.eqGuardType;cases q' with
       | bool=>rw[show P.underlying e=_ from zQ]
       | int=>obtain⟨k,hk⟩:=zQ;rw[hk]
       | str=>rw[show P.underlying e=_ from zQ]
       | ptr=>obtain⟨_,_,hk,_⟩:=zQ;rw[hk]
       | slice=>obtain⟨_,hk⟩:=zQ;rw[hk]
       | map=>obtain⟨_,_,hk⟩:=zQ;rw[hk]
       | func=>obtain⟨_,_,_,hk⟩:=zQ;rw[hk]
       | iface=>
        exfalso;generalize j.desc=jd at hJ;cases jd<;>simp[TD.key]at hJ
      unfold Go.Program.eqGuardType;rw[show P.underlying t=_ from hd];exact qv
   ·rename_i oO;cases hb:(xI a||xI b) with
    | false=>rw[hb]at hq;cases hq
    | true=>
     rw[hb]at hq;injection hq with hq;subst hq;have aba:(isConst a||isConst b)=true:=by
      rw[qm]at hb ⊢;rcases hb with hb | hb
      ·left;unfold xI at hb;split at hb<;>first | rfl | cases hb
      ·right;unfold xI at hb;split at hb<;>first | rfl | cases hb
     simp only[mF]at hr;cases hx<;>cases hy<;>first | (simp[dX]at hr;done) | exact an h | exact KD aba (an h)
   ·rename_i e oO;split at hq
    case h_2=>cases hq
    rename_i j hj;cases hb:Nat.beq j.size 0 with
    | true=>rw[hb]at hq;cases hq
    | false=>
     rw[hb]at hq;injection hq with hq;subst hq;exact one .ptr U (λe=>by cases e)
   ·rename_i d h1 h2 h3 h4;split at hq
    case h_2=>cases hq
    rename_i q' hJ;injection hq with hq;subst hq;refine one q' rfl ?_;rintro rfl;generalize i.desc=d at hJ;cases d<;>simp[TD.ek]at hJ
  ·cases hx;cases hy;exact an h
  ·cases hx;cases hy;exact an h
theorem QG{t:TypeId}{x y:V}{x' y':Value}(hx:aC η x x')(hy:aC η y y'){q:eH}{r:Bool}(h:mF q x y=some r)
 (h1:∀k m k' m',¬ (x=.i k m/\y=.i k' m'))(h2:∀l m l' m',¬ (x=.s l m/\y=.s l' m')):
 binOp .eql t x' y'=(do pure (.bool (←Op.equal t x' y')))/\binOp .neq t x' y'=(do pure (.bool (!(←Op.equal t x' y')))):=by
 cases q with
 | agg l=>
  simp only[mF]at h;split at h
  case h_2=>cases h
  cases hx;cases hy;exact⟨rfl,rfl⟩
 | one q=>
  simp only[mF]at h;unfold dX at h;split at h
  case h_22=>cases h
  case h_2=>exact absurd ⟨rfl,rfl⟩ (h1 _ _ _ _)
  case h_3=>exact absurd ⟨rfl,rfl⟩ (h2 _ _ _ _)
  all_goals (cases hx<;>cases hy<;>exact⟨rfl,rfl⟩)
theorem abb(aW:dO P ty)(hT:br η T tmps)(hG:cM η ty.g)(hH:bM W η H n w){op:BinOp}{t u:TypeId}{x y:Operand}{a:A}(hc:en ty (.binOp op t x y u)=some a)
 (hs:simple a T H n=some (v,H',n')):fL P W η H n w (do pure (.value (←(do eqGuard op t x y (ax tmps x) (ax tmps y);binOp op t (ax tmps x) (ax tmps y))))) v H' n':=by
 simp only[en]at hc;split at hc
 case h_2=>cases hc
 rename_i x1 y1 qy FV;obtain⟨q,rfl,hq⟩:∃q,a=.bin op q x1 y1/\(isEq op=true->Jm ty t x y=some q):=by
  cases he:isEq op with
  | false=>rw[he]at hc;injection hc with hc;exact⟨_,hc.symm,λe=>by cases e⟩
  | true=>
   rw[he]at hc;simp only[cond_true]at hc;split at hc
   case h_2=>cases hc
   rename_i q hq;injection hc with hc;exact⟨q,hc.symm,λ_=>hq⟩
 simp only[simple]at hs;split at hs
 case h_2=>cases hs
 rename_i xv yv KE hyv;obtain⟨hb,rfl,rfl⟩:=lG hs;have rx:=cS hT hG qy KE;have ry:=cS hT hG FV hyv;generalize ax tmps x=x' at rx;generalize ax tmps y=y' at ry;refine gM (uJ.ok hH ?_);unfold oE at hb;split at hb
 ·rename_i k m yk m';refine Δ (BM (q:=q) aW hq rx ry (λe=>by cases e) ?_);cases rx;cases ry;show uJ P w η (Op.shift .shl k m yk m') v;exact PZ hb
 ·rename_i k m yk m';refine Δ (BM (q:=q) aW hq rx ry (λe=>by cases e) ?_);cases rx;cases ry;show uJ P w η (Op.shift .shr k m yk m') v;exact PZ hb
 ·rename_i k m k' m' dZ fB;refine Δ (BM (q:=q) aW hq rx ry (λ_=>.inr (.inl ⟨_,_,_,_,rfl,rfl⟩)) ?_);cases hk:Nat.beq (kn k) (kn k') with
  | false=>rw[hk]at hb;cases hb
  | true=>
   rw[hk]at hb;have e:=G2 hk;subst e;cases rx;cases ry;have fm:op≠.shl/\op≠.shr:=⟨λe=>dZ e,λe=>fB e⟩;have:=PY (P:=P) (w:=w) (η:=η) hb fm;have eq:binOp op t (.int k m) (.int k m')=DM op k m m':=by cases op<;>first | exact absurd rfl fm.1 | exact absurd rfl fm.2 | (simp[binOp,DM])
   rw[eq];exact this
 ·rename_i l m l' m';refine Δ (BM (q:=q) aW hq rx ry (λ_=>.inr (.inr ⟨_,_,_,_,rfl,rfl⟩)) ?_);cases rx with
  | s _ _ h1=>cases ry with
   | s _ _ h2=>
    have:=aaF (P:=P) (w:=w) (η:=η) h1 h2 hb;have eq:binOp op t (.string (strOf l m)) (.string (strOf l' m'))=Op.stringOp op (strOf l m) (strOf l' m'):=by cases op<;>rfl
    rw[eq];exact this
 ·rename_i n1 n2;split at hb
  case h_2=>cases hb
  rename_i r hr;injection hb with hb;subst hb;refine Δ (BM (q:=q) aW hq rx ry (λ_=>.inl ⟨r,hr⟩) ?_);obtain⟨e1,_⟩:=QG (t:=t) rx ry hr (λk m k' m' h=>n1 _ _ _ _ h.1 h.2) (λl m l' m' h=>n2 _ _ _ _ h.1 h.2);rw[e1];refine Δ ((QE aW (hq rfl) rx ry hr).mono ?_);rintro b w' ⟨rfl,rfl⟩;exact jG (.b _)
 ·rename_i n1 n2;split at hb
  case h_2=>cases hb
  rename_i r hr;injection hb with hb;subst hb;refine Δ (BM (q:=q) aW hq rx ry (λ_=>.inl ⟨r,hr⟩) ?_);obtain⟨_,e1⟩:=QG (t:=t) rx ry hr (λk m k' m' h=>n1 _ _ _ _ h.1 h.2) (λl m l' m' h=>n2 _ _ _ _ h.1 h.2);rw[e1];refine Δ ((QE aW (hq rfl) rx ry hr).mono ?_);rintro b w' ⟨rfl,rfl⟩;exact jG (.b _)
 ·cases hb
theorem abc(hT:br η T tmps)(hG:cM η ty.g)(hH:bM W η H n w){op:UnOp}{t:TypeId}{x:Operand}{a:A}(hc:en ty (.unOp op t x)=some a)
 (hs:simple a T H n=some (v,H',n')):fL P W η H n w (do pure (.value (←Op.unary op (ax tmps x)))) v H' n':=by
 simp only[en]at hc;split at hc
 case h_2=>cases hc
 rename_i x' hx;injection hc with hc;subst hc;simp only[simple]at hs;split at hs
 case h_2=>cases hs
 rename_i u hu;obtain⟨hb,rfl,rfl⟩:=lG hs;have rx:=cS hT hG hx hu;generalize ax tmps x=y at rx;refine gM (uJ.ok hH ?_);unfold J9 at hb;split at hb
 ·injection hb with hb;subst hb;cases rx;rw[sV];exact jG (.i _ _)
 ·injection hb with hb;subst hb;cases rx;exact jG (.b _)
 ·cases rx;exact PY (op:=.xor) hb ⟨λe=>(by cases e),λe=>(by cases e)⟩
 ·cases hb
end ops
end
section
section ops
variable {P:Program}{ty:Ty}{W:Nat->Code->AC->Prop}{η:Env}{T:Tr V}{H H':Hp}{n n':K}{w:World}{tmps:Array Value}{v:V}
theorem abd(l m i:Nat)(hm:m<256 ^ l):((strOf l m).get! i).toNat=m / 256 ^ i % 256:=by
 have e:(strOf l m).get! i=(cH l m).toArray[i]!:=rfl;rw[e];by_cases h:i<l
 ·have hb:=PH l m i h;rw[getElem!_pos _ _ (by simpa[rG]using h)];have:(cH l m).toArray[i]'(by simpa[rG]using h)=UInt8.ofNat (m / 256 ^ i % 256):=by
   rw[gP (by rw[rG];exact h)]at hb;simpa using hb
  rw[this];simp
 ·rw[getElem!_neg _ _ (by simpa[rG]using h)];have:m / 256 ^ i=0:=Nat.div_eq_of_lt (fN hm (zu (by omega) (by omega)));rw[this];rfl
theorem gf(a b:Nat):Nat.blt a b=decide (a<b):=by rw[sJ];simp[Nat.blt];omega
theorem jV(a b:Nat):Nat.ble a b=decide (a<=b):=by rw[sJ];simp
theorem dD(a b:Nat):Nat.beq a b=decide (a=b):=by rw[sJ];simp[Nat.beq_eq]
theorem abe(l n:Nat):rune l n=Lib.decodeN l (n % 256) (n / 256 % 256) (n / 65536 % 256) (n / 16777216 % 256):=by have hw:∀c:Nat,(65536<=c/\(c<55296\/(57344<=c/\c<=1114111)))=(65536<=c/\c<=1114111):=λc=>propext ⟨λh=>by omega,λh=>by omega⟩;have hd:∀a b:Nat,Nat.div a b=a / b:=λ_ _=>rfl;have hm:∀a b:Nat,Nat.mod a b=a % b:=λ_ _=>rfl;simp only[rune,Lib.decodeN,iW,gf,jV,dD,bG,qm,bT,ge_iff_le,and_assoc,hw,hd,hm]
theorem QH{l m i:Nat}(hm:m<256 ^ l):Utf8.decode (strOf l m) i=rune (l - i) (m / 256 ^ i):=by
 have g:∀k,((strOf l m).get! (i+k)).toNat=m / 256 ^ i / 256 ^ k % 256:=λk=>by rw[abd _ _ _ hm,Nat.pow_add,Dh]
 have g0:=g 0;rw[Lib.decode_at,abe,g 1,g 2,g 3,uI];simp only[Nat.pow_zero,Nat.div_one,j8]at g0;rw[g0,Nat.pow_one,show 256 ^ 2=65536 from rfl,show 256 ^ 3=16777216 from rfl]
theorem abf(η:Env)(l m:Nat):bB η (By l m) ((cH l m).map λb=>Value.int .u8 b.toNat):=by
 induction l generalizing m with
 | zero=>exact .nil
 | succ l ih=>
  simp only[By,cH,ma];refine .cons _ _ _ _ ?_ (ih _);have:(UInt8.ofNat (m % 256)).toNat=m % 256:=by simp
  rw[this];exact .i _ _
theorem abg(l m:Nat):(By l m).length=l:=by
 induction l generalizing m with
 | zero=>rfl
 | succ l ih=>simp[By,ih]
theorem xV(hH:bM W η H n w){z l:Nat}{x:V}{y:Value}{vs:List V}(hx:aC η x y)(h:elems H z x=some (l,vs)):
 vs.length=l*z/\Builtin.lenOf y=pure l/\∀m,m<=l->bA P (Builtin.firstCells z m y) w λr w'=>bB η (vs.take (m*z)) r.toList/\w'=w:=by
 have row:∀(b:K) (o:Nat) (L:Loc) (c:Nat),η b=some L->(match rowAt H b with
  | some r=>match dt r o (Nat.mul l z) with | some vs=>some (l,vs) | none=>none
  | none=>none)=some (l,vs)->vs.length=l*z/\∀m,m<=l->bA P (Builtin.firstCells z m (.slice (some ⟨L.blk,L.off+o,none⟩) l c)) w λr w'=>bB η (vs.take (m*z)) r.toList/\w'=w:=by
  intro b o L c hL h;split at h
  ·rename_i r hr;split at h
   ·rename_i DI hv;injection h with h;injection h with _ h;subst h;obtain⟨rfl,hn⟩:=oI hv;have hn:o+l*z<=r.length:=hn;have hlen:((r.drop o).take (Nat.mul l z)).length=l*z:=by
     rw[qn,sK];show min (l*z) _=_;omega
    refine⟨hlen,λm hm=>?_⟩;have hmz:m*z<=l*z:=iw z hm;have oh:dt r o (m*z)=some ((r.drop o).take (m*z)):=by
     cases e:dt r o (m*z) with
     | some q=>rw[(oI e).1]
     | none=>
      exfalso;have hd:∀(k:Nat) (q:List V),k<=q.length->pI k q=some (q.drop k):=by
       intro k
       induction k with
       | zero=>intro q _;rfl
       | succ k ih=>intro q hq;cases q with | nil=>simp at hq | cons a q=>simp only[pI,Dn];exact ih q (by simpa using hq)
      have ht:∀(k:Nat) (q:List V),k<=q.length->takeN k q=some (q.take k):=by
       intro k
       induction k with
       | zero=>intro q _;rfl
       | succ k ih=>intro q hq;cases q with | nil=>simp at hq | cons a q=>simp only[takeN,ih q (by simpa using hq),sG]
      unfold dt at e;rw[hd o r (by omega)]at e;simp only at e;rw[ht (m*z) (r.drop o) (by rw[sK];omega)]at e;cases e
    have abh:((r.drop o).take (Nat.mul l z)).take (m*z)=(r.drop o).take (m*z):=by rw[List.take_take];congr 1;show min (m*z) (l*z)=_;omega
    rw[abh];obtain⟨L',cs,e,fr,h1,h2,h3,h4⟩:=Ko hH hr oh;rw[hL]at h1;injection h1 with h1;subst h1;show bA P (loadCells _ (m*z)) w _;rcases h3 with h3 | h3
    ·rw[h3];exact an ⟨.nil,rfl⟩
    ·refine(PM h2 (m*z) h3).mono ?_;rintro r' w' ⟨rfl,rfl⟩;exact⟨h4,rfl⟩
   ·cases h
  ·cases h
 unfold elems at h;split at h
 ·injection h with h;injection h with h1 h2;subst h1;subst h2;cases hx;exact⟨by simp,rfl,λm _=>an ⟨by simpa using bB.nil,rfl⟩⟩
 ·rename_i b o l' c;cases hx with
  | sl _ _ _ _ L hL=>
   have hl:l'=l:=by
    split at h
    ·split at h
     ·injection h with h;injection h
     ·cases h
    ·cases h
   subst hl;obtain⟨h1,h2⟩:=row b o L c hL h;exact⟨h1,rfl,h2⟩
 ·rename_i b o l' e;cases he:Nat.beq e z with
  | false=>rw[he]at h;cases h
  | true=>
   rw[he]at h;simp only[cond_true]at h;cases h0:Nat.beq l' 0 with
   | true=>
    rw[h0]at h;simp only[cond_true]at h;injection h with h;injection h with h1 h2;subst h1;subst h2;have:l'=0:=cZ h0;subst this;refine⟨by simp,by cases hx<;>rfl,λm hm=>?_⟩;have:m=0:=by omega
    subst this;cases hx<;>(simp only[Builtin.firstCells,Nat.zero_mul];exact an ⟨.nil,rfl⟩)
   | false=>
    rw[h0]at h;simp only[cond_false]at h;have hl:l'=l:=by
     split at h
     ·split at h
      ·injection h with h;injection h
      ·cases h
     ·cases h
    subst hl;cases hx with
    | su _ _ _ _ L c hL _ _=>
     obtain⟨h1,h2⟩:=row b o L c hL h;exact⟨h1,rfl,h2⟩
    | se=>cases h0
 ·rename_i l' m;cases hz:Nat.beq z 1 with
  | false=>rw[hz]at h;cases h
  | true=>
   rw[hz]at h;simp only[cond_true]at h;injection h with h;injection h with h1 h2;subst h1;subst h2;have:z=1:=cZ hz;subst this;cases hx with
   | s _ _ hm=>
    refine⟨by rw[abg];simp,?_,λk hk=>?_⟩
    ·show(pure (strOf l' m).size:Sem Nat)=_;rw[uI]
    ·refine an ⟨?_,rfl⟩;rw[ka];have e:(((strOf l' m).extract 0 k).data.map λb=>Value.int .u8 b.toNat).toList=((cH l' m).map λb=>Value.int .u8 b.toNat).take k:=by
      simp[strOf,ByteArray.extract,ByteArray.copySlice,List.map_take]
     rw[e];exact(abf η l' m).sub 0 k
 ·cases h
end ops
end
section
section ops
variable {P:Program}{ty:Ty}{W:Nat->Code->AC->Prop}{η:Env}{T:Tr V}{H H':Hp}{n n':K}{w:World}{tmps:Array Value}{v:V}
theorem abi(l:List Value)(s:ByteArray){bs:List UInt8}(h:l=bs.map λb=>Value.int .u8 b.toNat):
 bA P (forIn l s (λc s=>do
  let .int .u8 n:=c | stuck "bytesToString: byte expected"
  pure (ForInStep.yield (s.push (UInt8.ofNat n.toNat))))) w λr w'=>r.data.toList=s.data.toList++bs/\w'=w:=by
 induction bs generalizing l s with
 | nil=>subst h;exact an ⟨by simp,rfl⟩
 | cons b bs ih=>
  subst h;rw[ma,List.forIn_cons];refine Δ (an ?_);have e:(UInt8.ofNat (Int.ofNat b.toNat).toNat)=b:=by simp
  refine bA.mono (s:=forIn _ (s.push (UInt8.ofNat (Int.ofNat b.toNat).toNat)) _) (ih _ _ rfl) ?_;rintro r w' ⟨h1,rfl⟩;refine⟨?_,rfl⟩;rw[h1,e];simp
theorem QI{l:List V}{m:Nat}(h:ofBytes l=some m){l':List Value}(hl:bB η l l'):l'=(cH l.length m).map (λb=>Value.int .u8 b.toNat)/\m<256 ^ l.length:=by
 induction l generalizing m l' with
 | nil=>simp only[ofBytes]at h;injection h with h;subst h;cases hl;exact⟨rfl,by simp⟩
 | cons a l ih=>
  unfold ofBytes at h;split at h
  ·rename_i he;cases he
  ·rename_i b l1 he;injection he with CN Jo;subst CN;subst Jo;split at h
   ·rename_i n hn;cases hb:Nat.blt b 256 with
    | false=>rw[hb]at h;cases h
    | true=>
     rw[hb]at h;simp only[cond_true]at h;injection h with h;subst h;have ψ:b<256:=by rw[gf]at hb;simpa using hb
     cases hl with
     | cons _ v' _ l' h1 h2=>
      cases h1;obtain⟨e1,e2⟩:=ih hn h2;have q1:Nat.add b (Nat.mul 256 n) % 256=b:=by show(b+256*n) % 256=b;omega
      have q2:Nat.add b (Nat.mul 256 n) / 256=n:=by show(b+256*n) / 256=n;omega
      refine⟨?_,?_⟩
      ·rw[fG,cH,ma,q1,q2,←e1];congr 1;have:(UInt8.ofNat b).toNat=b:=by simp;omega
       rw[this];rfl
      ·rw[fG,gW];show b+256*n<_;omega
   ·cases h
  ·cases h
theorem abj(η:Env){l m:Nat}(hm:m<256 ^ l)(f i:Nat)(acc:Array Value):
 ∃xs,(Conv.runesFrom (strOf l m) f i acc).toList=acc.toList++xs/\bB η (vS f (l - i) (m / 256 ^ i)) xs:=by
 induction f generalizing i acc with
 | zero=>exact⟨[],by simp[Conv.runesFrom],.nil⟩
 | succ f ih=>
  unfold Conv.runesFrom vS;rw[uI];by_cases h:i<l
  ·rw[az h];have:Nat.beq (l - i) 0=false:=by cases hb:Nat.beq (l - i) 0 with | false=>rfl | true=>have:=cZ hb;omega
   rw[this];simp only[cond_false];rw[QH hm];generalize hr:rune (l - i) (m / 256 ^ i)=r;obtain⟨xs,h1,h2⟩:=ih (i+r.2) (acc.push (.int .i32 (Int.ofNat r.1)));refine⟨.int .i32 (Int.ofNat r.1)::xs,by simp only[h1];simp,.cons _ _ _ _ (.i _ _) ?_⟩;have e1:Nat.sub (l - i) r.2=l - (i+r.2):=by show l - i - r.2=_;omega
   have e2:Nat.div (m / 256 ^ i) (Nat.pow 256 r.2)=m / 256 ^ (i+r.2):=by show m / 256 ^ i / 256 ^ r.2=_;rw[Dh,Nat.pow_add]
   rw[e1,e2];exact h2
  ·rw[ai h];have:l - i=0:=by omega
   rw[this];exact⟨[],by simp,.nil⟩
theorem QJ{k:IntKind}{x:V}{r:V×Hp×K}(h:rb H n (.toInt k) x=some r):∃k' m,x=.i k' m/\r=(.i k (wr k m),H,n):=by cases x<;>first | (cases h;done) | (injection h with h;exact⟨_,_,rfl,h.symm⟩)
theorem QK{x:V}{r:V×Hp×K}(h:rb H n .same x=some r):∃l m,x=.s l m/\r=(.s l m,H,n):=by cases x<;>first | (cases h;done) | (injection h with h;exact⟨_,_,rfl,h.symm⟩)
theorem QL{x:V}{r:V×Hp×K}(h:rb H n .zA x=some r):(∀l m,x≠.s l m)/\∃l vs m,elems H 1 x=some (l,vs)/\ofBytes vs=some m/\r=(.s l m,H,n):=by
 unfold rb at h;split at h<;>first | (rename_i he;cases he;done) | (rename_i he _;cases he;done) | (cases h;done) | skip
 rename_i hx;refine⟨λl m e=>hx l m e,?_⟩;split at h
 ·rename_i l vs he;split at h
  ·rename_i m hm;injection h with h;exact⟨l,vs,m,he,hm,h.symm⟩
  ·cases h
 ·cases h
theorem QM{e:Nat}{x:V}{r:V×Hp×K}(h:rb H n (.J2 e) x=some r):∃l m,x=.s l m/\j4 H n (.c (vS l l m) e 0) (.su n 0 (vS l l m).length 1)=some r:=by cases x<;>first | (cases h;done) | exact⟨_,_,rfl,h⟩
theorem QN{x:V}{r:V×Hp×K}(h:rb H n .zB x=some r):∃k m,x=.i k (.ofNat m)/\sL m=true/\r=(.s (pJ m) (sM m),H,n):=by
 unfold rb at h;split at h<;>first | (rename_i he;cases he;done) | (rename_i he _;cases he;done) | (cases h;done) | skip
 rename_i k m _;cases hb:sL m with
 | false=>rw[hb]at h;cases h
 | true=>
  rw[hb]at h;simp only[cond_true]at h;injection h with h;exact⟨k,m,rfl,hb,h.symm⟩
theorem dg(a X:Nat)(ha:a<256):(a+256*X) % 256=a % 256/\(a+256*X) / 256=X:=⟨by omega,by omega⟩
theorem KF{m:Nat}(h:sL m=true):Utf8.encode (Int.ofNat m)=strOf (pJ m) (sM m)/\sM m<256 ^ pJ m:=by
 simp only[sL,gf,jV,qm,bG,bT]at h;have hv:Utf8.valid (m:Int)=true:=by simp only[Utf8.valid,qm,bG,bT];omega
 have u8:∀{a b:Nat},a % 256=b % 256->UInt8.ofNat a=UInt8.ofNat b:=λh=>by apply UInt8.toNat.inj;simpa using h
 unfold Utf8.encode pJ sM;simp only[hv,if_true,Int.ofNat_eq_natCast,Int.toNat_natCast,gf];by_cases h1:m<128
 ·simp only[h1,if_true,decide_true,cond_true];refine⟨?_,by omega⟩;simp only[strOf,cH];rw[show UInt8.ofNat (m % 256)=UInt8.ofNat m from u8 (by omega)]
 ·simp only[h1,if_false,decide_false,cond_false];by_cases h2:m<2048
  ·simp only[h2,if_true,decide_true,cond_true];refine⟨?_,by omega⟩;obtain⟨e1,e2⟩:=dg (192+m / 64) (128+m % 64) (by omega);simp only[strOf,cH,e1,e2];rw[u8 (a:=(192+m / 64) % 256) (b:=0xC0+m / 64) (by omega),u8 (a:=(128+m % 64) % 256) (b:=0x80+m % 64) (by omega)]
  ·simp only[h2,if_false,decide_false,cond_false];by_cases h3:m<65536
   ·simp only[h3,if_true,decide_true,cond_true];refine⟨?_,by omega⟩;obtain⟨e1,e2⟩:=dg (224+m / 4096) (128+m / 64 % 64+256*(128+m % 64)) (by omega);obtain⟨e3,e4⟩:=dg (128+m / 64 % 64) (128+m % 64) (by omega);simp only[strOf,cH,e1,e2,e3,e4];rw[u8 (a:=(224+m / 4096) % 256) (b:=0xE0+m / 4096) (by omega),u8 (a:=(128+m / 64 % 64) % 256) (b:=0x80+m / 64 % 64) (by omega),u8 (a:=(128+m % 64) % 256) (b:=0x80+m % 64) (by omega)]
   ·simp only[h3,if_false,decide_false,cond_false];refine⟨?_,by omega⟩;obtain⟨e1,e2⟩:=dg (240+m / 262144) (128+m / 4096 % 64+256*(128+m / 64 % 64+256*(128+m % 64))) (by omega);obtain⟨e3,e4⟩:=dg (128+m / 4096 % 64) (128+m / 64 % 64+256*(128+m % 64)) (by omega);obtain⟨e5,e6⟩:=dg (128+m / 64 % 64) (128+m % 64) (by omega);simp only[strOf,cH,e1,e2,e3,e4,e5,e6];rw[u8 (a:=(240+m / 262144) % 256) (b:=0xF0+m / 262144) (by omega),u8 (a:=(128+m / 4096 % 64) % 256) (b:=0x80+m / 4096 % 64) (by omega),u8 (a:=(128+m / 64 % 64) % 256) (b:=0x80+m / 64 % 64) (by omega),u8 (a:=(128+m % 64) % 256) (b:=0x80+m % 64) (by omega)]
theorem QO{x:V}{r:V×Hp×K}(h:rb H n .Je x=some r):(x=.np/\r=(.np,H,n))\/∃b p q e,x=.p b 0/\H.get b=some (.b p q e)/\r=(.p b 0,H,n):=by
 unfold rb at h;split at h<;>first | (rename_i he;cases he;done) | (rename_i he _;cases he;done) | (cases h;done) | skip
 ·injection h with h;exact .inl ⟨rfl,h.symm⟩
 ·rename_i b _;split at h
  ·rename_i p q e hb;injection h with h;exact .inr ⟨b,p,q,e,rfl,hb,h.symm⟩
  ·cases h
theorem QP{u:Nat}{x:V}{r:V×Hp×K}(h:rb H n (.Jf u) x=some r):(x=.np/\r=(.np,H,n))\/∃b p q,x=.p b 0/\H.get b=some (.b p q u)/\r=(.p b 0,H,n):=by
 unfold rb at h;split at h<;>first | (rename_i he;cases he;done) | (rename_i he _;cases he;done) | (cases h;done) | skip
 ·injection h with h;exact .inl ⟨rfl,h.symm⟩
 ·rename_i u' b he;injection he with he;subst he;split at h
  ·rename_i p q e hb;cases hq:Nat.beq e u with
   | false=>rw[hq]at h;cases h
   | true=>
    rw[hq]at h;injection h with h;have:=cZ hq;subst this;exact .inr ⟨b,p,q,rfl,hb,h.symm⟩
  ·cases h
theorem QQ(hH:bM W η H n w){b:K}{p q:V}{e:Nat}(h:H.get b=some (.b p q e)){L:Loc}(hL:η b=some L):L.off=0/\w.shape? L.blk=some (e,2):=by obtain⟨L',h1,_,h0,u,v,h3,_⟩:=hH.obj b _ h;rw[hL]at h1;injection h1 with h1;subst h1;refine⟨h0,?_⟩;simp[World.shape?,h3]
theorem abk(aW:dO P ty)(hT:br η T tmps)(hG:cM η ty.g)(hH:bM W η H n w){s d:TypeId}{x:Operand}{a:A}(hc:en ty (.convert s d x)=some a)
 (hs:simple a T H n=some (v,H',n')):fL P W η H n w (do pure (.value (←convert s d (ax tmps x)))) v H' n':=by
 simp only[en]at hc;split at hc
 case h_2=>cases hc
 rename_i i j x' hi hj hx;have si:=(aW.ok _ _ hi).desc;have ub:=(aW.ok _ _ hj).desc;refine gM ?_;unfold convert;have key:∀k,simple (.cv k x') T H n=some (v,H',n')->∃u,rb H n k u=some (v,H',n')/\aC η u (ax tmps x):=λk hk=>by
  simp only[simple]at hk;split at hk
  ·rename_i u hu;exact⟨u,hk,cS hT hG hx hu⟩
  ·cases hk
 split at hc
 ·rename_i k1 k2 e1 e2;injection hc with hc;subst hc;rw[e1]at si;rw[e2]at ub;obtain⟨u,hu,hr⟩:=key _ hs;obtain⟨k',m,rfl,he⟩:=QJ hu;injection he with h1 h2;injection h2 with h2 h3;subst h1;subst h2;subst h3;generalize ax tmps x=y at hr;cases hr;refine Δ (bS si (Δ (bS ub ?_)));refine an ⟨η,.refl hH,?_⟩;rw[sV];exact .i _ _
 ·rename_i e1 e2;injection hc with hc;subst hc;rw[e1]at si;rw[e2]at ub;obtain⟨u,hu,hr⟩:=key _ hs;obtain⟨l,m,rfl,he⟩:=QK hu;injection he with h1 h2;injection h2 with h2 h3;subst h1;subst h2;subst h3;refine Δ (bS si (Δ (bS ub ?_)));generalize ax tmps x=y at hr;cases hr with
  | s _ _ hm=>exact an ⟨η,.refl hH,.s _ _ hm⟩
 ·rename_i k1 e1 e2;injection hc with hc;subst hc;rw[e1]at si;rw[e2]at ub;obtain⟨u,hu,hr⟩:=key _ hs;obtain⟨k,m,rfl,hm,he⟩:=QN hu;injection he with h1 h2;injection h2 with h2 h3;subst h1;subst h2;subst h3;refine Δ (bS si (Δ (bS ub ?_)));generalize ax tmps x=y at hr;cases hr;refine an ⟨η,.refl hH,?_⟩;rw[(KF hm).1];exact .s _ _ (KF hm).2
 ·rename_i e e1 e2;cases hb:Nat.beq e ty.b with
  | false=>rw[hb]at hc;cases hc
  | true=>
   rw[hb]at hc;simp only[cond_true]at hc;injection hc with hc;subst hc;rw[e1]at si;rw[e2]at ub;obtain⟨u,hu,hr⟩:=key _ hs;change bA P (convert s d (ax tmps x)) w _;have he:=cZ hb;obtain⟨ti,za,Jp⟩:=Option.map_eq_some_iff.1 aW.bsz;rcases QO hu with ⟨rfl,hq⟩ | ⟨b,p,q,e',rfl,jO,hq⟩
   ·injection hq with h1 h2;injection h2 with h2 h3;subst h1;subst h2;subst h3;generalize ax tmps x=y at hr;cases hr;refine⟨.pointer none,w,?_,η,.refl hH,.np⟩;simp[convert,run_underlying si,run_underlying ub,Conv.unsafePointer]
   ·injection hq with h1 h2;injection h2 with h2 h3;subst h1;subst h2;subst h3;generalize ax tmps x=y at hr;cases hr with
    | p _ _ L hL=>
     obtain⟨s1,s2⟩:=QQ hH jO hL;exact⟨_,w,Go.Lib.run_to_unsafe (P:=P) (w:=w) ⟨L.blk,L.off+0,none⟩ si ub (by rw[he];exact za) (by rw[Jp];decide) s2 (by show L.off+0<2;omega),η,.refl hH,.p _ _ _ hL⟩
 ·rename_i e e1 e2;cases hb:Nat.beq e ty.b with
  | false=>rw[hb]at hc;cases hc
  | true=>
   rw[hb]at hc;simp only[cond_true]at hc;injection hc with hc;subst hc;rw[e1]at si;rw[e2]at ub;obtain⟨u,hu,hr⟩:=key _ hs;change bA P (convert s d (ax tmps x)) w _;have he:=cZ hb;obtain⟨ti,za,Jp⟩:=Option.map_eq_some_iff.1 aW.bsz;rcases QP hu with ⟨rfl,hq⟩ | ⟨b,p,q,rfl,jO,hq⟩
   ·injection hq with h1 h2;injection h2 with h2 h3;subst h1;subst h2;subst h3;generalize ax tmps x=y at hr;cases hr;refine⟨.pointer none,w,?_,η,.refl hH,.np⟩;simp[convert,run_underlying si,run_underlying ub,Conv.unsafePointer]
   ·injection hq with h1 h2;injection h2 with h2 h3;subst h1;subst h2;subst h3;generalize ax tmps x=y at hr;cases hr with
    | p _ _ L hL=>
     obtain⟨s1,s2⟩:=QQ hH jO hL;exact⟨_,w,Go.Lib.run_from_unsafe (P:=P) (w:=w) ⟨L.blk,L.off+0,none⟩ si ub (by rw[he];exact za) s2 (by rw[he,s1];exact aW.aad),η,.refl hH,.p _ _ _ hL⟩
 ·rename_i e e1 e2;split at hc
  ·rename_i j' _ _ _ fb;injection hc with hc;subst hc;rw[e1]at si;rw[e2]at ub;have YA:=(aW.ok _ _ fb).desc;obtain⟨u,hu,hr⟩:=key _ hs;obtain⟨DS,l,vs,m,he,hb,hq⟩:=QL hu;injection hq with h1 h2;injection h2 with h2 h3;subst h1;subst h2;subst h3;obtain⟨q1,q2,q3⟩:=xV (P:=P) hH hr he;have q3:=q3 l (Γ _);rw[pF (by omega)]at q3;refine Δ (bS si (Δ (bS ub ?_)));generalize ax tmps x=y at hr q2 q3;have sY:∃A l' c,y=.slice A l' c:=by
    cases hr<;>first | exact⟨_,_,_,rfl⟩ | (exact absurd rfl (DS _ _)) | (cases he;done)
   obtain⟨A,l',c,rfl⟩:=sY;refine Δ (bS YA ?_);have hl:l'=l:=by have:=congrArg (λs:Sem Nat=>s.run P w) q2;simpa[Builtin.lenOf,Sem.run,pure]using this
   subst hl;cases A with
   | none=>
    obtain⟨r,w',g1,g2,_⟩:=q3;have g1:(Result.ok #[] w:Result (Array Value))=.ok r w':=g1;injection g1 with g1 _;subst g1;cases g2;have qz:m=0:=by simp only[ofBytes]at hb;injection hb with hb;exact hb.symm
    have gE:l'=0:=by simpa using q1.symm
    subst qz;subst gE;exact an ⟨η,.refl hH,.s 0 0 (by simp)⟩
   | some A=>
    have q3:bA P (loadCells A (l'*1)) w λr w'=>bB η vs r.toList/\w'=w:=q3;rw[ka]at q3;refine Δ (q3.mono ?_);rintro r w' ⟨g1,rfl⟩;obtain⟨o1,o2⟩:=QI hb g1;rw[←Array.forIn_toList];have hlen:vs.length=l':=by omega
    rw[hlen]at o1 o2;refine Δ (bA.mono (abi r.toList .empty o1) ?_);rintro r' w' ⟨g2,rfl⟩;refine an ⟨η,.refl hH,?_⟩;have:r'=strOf l' m:=by
     show r'=(⟨(cH l' m).toArray⟩:ByteArray);have:r'.data=(cH l' m).toArray:=by apply j9;rw[g2];simp
     rw[←this]
    rw[this];exact .s _ _ o2
  ·cases hc
 ·rename_i e e1 e2;split at hc
  ·rename_i j' _ _ _ fb;injection hc with hc;subst hc;rw[e1]at si;rw[e2]at ub;have YA:=(aW.ok _ _ fb).desc;obtain⟨u,hu,hr⟩:=key _ hs;obtain⟨l,m,rfl,he⟩:=QM hu;obtain⟨rfl,rfl,rfl⟩:=pM he;generalize ax tmps x=y at hr;cases hr with
   | s _ _ hm=>
    refine Δ (bS si (Δ (bS ub ?_)));refine Δ (bS YA ?_);obtain⟨xs,g1,g2⟩:=abj η hm l 0 #[];simp only[rA,Nat.pow_zero,Nat.div_one]at g2;unfold Conv.stringToRunes;rw[uI];have eQ:(Conv.runesFrom (strOf l m) l 0 #[]).size=xs.length:=by rw[←Bq,g1];simp
    have oP:xs.length=(vS l l m).length:=g2.length.symm;have fin:∀(w1:World) (d:Nat),w1={ w with drawn:=d}->∀t,bA P (do
     let a←newRow e (Conv.runesFrom (strOf l m) l 0 #[]++Array.replicate ((Question.appendCap (Conv.runesFrom (strOf l m) l 0 #[]).size 0 e).cut t - (Conv.runesFrom (strOf l m) l 0 #[]).size) (.int .i32 0))
     pure (Value.slice (some a) (Conv.runesFrom (strOf l m) l 0 #[]).size ((Question.appendCap (Conv.runesFrom (strOf l m) l 0 #[]).size 0 e).cut t))) w1
     λy w'=>∃η',Trans W η H n w η' (H.put (some (.c (vS l l m) e 0)) n) n.succ w'/\aC η' (.su n 0 (vS l l m).length 1) y:=by
     rintro w1 d rfl t;rw[eQ];generalize sZ:(Question.appendCap xs.length 0 e).cut t=cap;have zb:xs.length<=cap:=by rw[←sZ];simp only[Question.cut];omega
     refine Δ (Δ (vV (an (an ?_))));obtain⟨η',k1,k2⟩:=G0 (hH.drawn d) e g2 (List.replicate (cap - xs.length) (Value.int .i32 0));have iS:Conv.runesFrom (strOf l m) l 0 #[]++Array.replicate (cap - xs.length) (Value.int .i32 0)=(xs++List.replicate (cap - xs.length) (Value.int .i32 0)).toArray:=by apply j9;rw[Array.toList_append,g1];simp
     refine⟨η',?_,?_⟩
     ·rw[iS];exact⟨k1.ext,k1.le,k1.rep,⟨k1.kept.os,k1.kept.tape,k1.kept.output,k1.kept.size,k1.kept.block,k1.kept.loops⟩,k1.lF,k1.ef⟩
     ·rw[oP];have:=aC.su (η:=η') n 0 xs.length 1 _ cap k2 zb (by simp;omega);rw[oP]at this;exact this
    refine Δ (PJ (λt d _=>?_) (λh=>by cases h));exact fin _ d rfl t
  ·cases hc
 ·cases hc
end ops
end
section
section ops
variable {P:Program}{ty:Ty}{W:Nat->Code->AC->Prop}{η:Env}{T:Tr V}{H H':Hp}{n n':K}{w:World}{tmps:Array Value}{v:V}
theorem abl{m:Mark}{Φ:Unit->World->Prop}(h:Φ () w):bA P (mark m) w Φ:=⟨(),w,rfl,h⟩
theorem QR{b:Nat}{Φ:Unit->World->Prop}(h:Φ () w):bA P (askRoom b) w Φ:=by
 unfold askRoom;split
 ·exact abl h
 ·exact an h
theorem abm(aW:dO P ty)(hT:br η T tmps)(hG:cM η ty.g)(hH:bM W η H n w){t:TypeId}{x y:Operand}{a:A}
 (hc:en ty (.makeSlice t x y)=some a)(hs:simple a T H n=some (v,H',n')):
 fL P W η H n w (do pure (.value (←Instr.makeSlice t (ax tmps x) (ax tmps y)))) v H' n':=by
 simp only[en]at hc;split at hc
 case h_2=>cases hc
 rename_i i l c hi hx hy;split at hc
 case h_2=>cases hc
 rename_i e hd;split at hc
 case h_2=>cases hc
 rename_i j hj;injection hc with hc;subst hc;simp only[simple]at hs;split at hs
 case h_2=>cases hs
 rename_i k1 l' k2 c' hl tc;have Kr:=cS hT hG hx hl;have On:=cS hT hG hy tc;cases hb:(Nat.ble l' c'&&Nat.ble (Nat.mul c' j.bytes) 140737488355328&&Nat.ble c' 9223372036854775807) with
 | false=>rw[hb]at hs;cases hs
 | true=>
  rw[hb]at hs;simp only[cond_true]at hs;simp only[jV,bG,bT]at hb;obtain⟨⟨b1,b2⟩,b3⟩:=hb;have b2:c'*j.bytes<=140737488355328:=b2;obtain⟨rfl,rfl,rfl⟩:=pM hs;have dK:=(aW.ok _ _ hi).desc;rw[hd]at dK;generalize ax tmps x=x' at Kr;generalize ax tmps y=y' at On;cases Kr;cases On;obtain⟨ti,z,h1,h2,h3,h4,h5,h6,h7,h8,h9⟩:=(aW.ok _ _ hj).info;refine gM (Δ (bS dK ?_));refine Δ (Δ (an (an ?_)));refine Δ (Δ (an (an ?_)));refine Δ (xQ h1 ?_);have e1:IntKind.i64.wrap (Int.ofNat l')=l':=wrap_i64 (sI _) (by show((_:Nat):Int)<=_;omega);have e2:IntKind.i64.wrap (Int.ofNat c')=c':=wrap_i64 (sI _) (by show((_:Nat):Int)<=_;omega);simp only[e1,e2];have YB:(2:Int) ^ 48=281474976710656:=rfl;have q1:¬ ((c':Int)<0):=by omega
  have q2:¬ ((ti.bytes:Int)*(c':Int)>2 ^ 48):=by
   rw[h3,YB];have:(j.bytes:Int)*(c':Int)<=140737488355328:=by rw[Int.mul_comm,←Int.natCast_mul];exact Int.ofNat_le.2 b2
   omega
  have q3:¬ ((l':Int)<0):=by omega
  have q4:¬ ((l':Int)>(c':Int)):=by omega
  rw[ai (by
   rw[qm,qm,qm,bT,bT,bT,bT];rintro(((h | h) | h) | h)
   ·exact q1 h
   ·exact q2 h
   ·exact q3 h
   ·exact q4 h)]
  refine Δ (QR ?_);refine Δ (mQ (aW.ok _ _ hj) ?_);simp only[Int.toNat_natCast];have kf:∀zc:Array Value,(∀η,bB η (gu j.zero c') ((Array.range (c'*j.size)).map (zc[· % zc.size]!)).toList)->bA P (do
   let a←newRow e ((Array.range (c'*j.size)).map (zc[· % zc.size]!))
   pure (Value.slice (some a) l' c')) w λy w'=>∃η',Trans W η H n w η' (H.put (some (.c (gu j.zero c') e 0)) n) n.succ w'/\aC η' (.sl n 0 l' c') y:=by
   intro zc hz;obtain⟨η',g1,g2⟩:=G0 hH e (hz η) [];refine Δ (Δ (vV (an (an ⟨η',?_,?_⟩))))
   ·simpa only[List.append_nil,Array.toArray_toList]using g1
   ·exact aC.sl (η:=η') n 0 l' c' _ g2
  by_cases h0:c'*j.size=0
  ·rw[az h0];exact Δ (an (kf #[] (λη=>by
    have:gu j.zero c'=[]:=by rw[←nM,xR,h8,h0]
    rw[this,h0];have e0:Array.range 0=#[]:=rfl;rw[e0,Array.map_empty];exact .nil)))
  ·rw[ai h0];refine Δ (sU (aW.ok _ _ hj) λz hz _ _ eQ=>Δ (an ?_));exact kf z.cells (λη=>G1 (hz η) c' _ (by rw[eQ]))
theorem G8{x:Operand}(hT:br η T tmps)(hG:cM η ty.g){a:aJ}{p d cap:Nat}{code:BoundsCode}(hx:cr ty x=some a)(h:dA T d (some a)=some p)(hp:p<=cap)
 {Φ:Nat->World->Prop}(k:Φ p w):bA P (Instr.sliceBound (ax tmps x) cap code) w Φ:=by
 simp only[dA]at h;split at h
 ·rename_i u hu;have hr:=cS hT hG hx hu;unfold Ka at h;split at h
  ·rename_i k' m;injection h with h;subst h;generalize ax tmps x=y at hr;cases hr;refine Δ (an ?_);refine KD ⟨by simp,by simpa using hp⟩ (an ?_);simpa using k
  ·cases h
 ·cases h
theorem KG(hT:br η T tmps)(hG:cM η ty.g){lo hi mx:Option Operand}{wb mU A0:Option aJ}(h1:uG ty lo=some wb)(h2:uG ty hi=some mU)(h3:uG ty mx=some A0)
 (hm:A0.isSome=true->mU.isSome=true){len cap p q m:Nat}(e1:dA T 0 wb=some p)(e2:dA T len mU=some q)(e3:dA T cap A0=some m)(i1:p<=q)(i2:q<=m)(i3:m<=cap)(b:Bool):
 bA P (Instr.sliceBounds b len cap (lo.map (ax tmps)) (hi.map (ax tmps)) (mx.map (ax tmps))) w λr w'=>r=(p,q,m)/\w'=w:=by
 have co:∀{x:Option Operand} {x':Option aJ},uG ty x=some x'->(x=none/\x'=none)\/∃y y',x=some y/\x'=some y'/\cr ty y=some y':=by
  intro x x' h;cases x with
  | none=>simp only[uG]at h;injection h with h;exact .inl ⟨rfl,h.symm⟩
  | some y=>
   simp only[uG]at h;split at h
   ·rename_i y' hy;injection h with h;exact .inr ⟨y,y',rfl,h.symm,hy⟩
   ·cases h
 have low:∀(c:BoundsCode) (jp:Nat->Sem (Nat×Nat×Nat)) (Φ:Nat×Nat×Nat->World->Prop),bA P (jp p) w Φ->bA P (match lo.map (ax tmps) with
  | some v=>do
   let l←Instr.sliceBound v q c
   jp l
  | none=>do
   let l←pure 0
   jp l) w Φ:=by
  intro c jp Φ hj;rcases co h1 with ⟨rfl,rfl⟩ | ⟨y,y',rfl,rfl,hy⟩
  ·simp only[dA]at e1;injection e1 with e1;subst e1;exact Δ (an hj)
  ·exact Δ (G8 hT hG hy e1 i1 hj)
 unfold Instr.sliceBounds;rcases co h3 with ⟨rfl,rfl⟩ | ⟨y,y',rfl,rfl,hy⟩
 ·simp only[dA]at e3;injection e3 with e3;subst e3;refine Δ (an ?_);rcases co h2 with ⟨rfl,rfl⟩ | ⟨z,z',rfl,rfl,hz⟩
  ·simp only[dA]at e2;injection e2 with e2;subst e2;refine Δ (an ?_);exact low _ _ _ (an ⟨rfl,rfl⟩)
  ·refine Δ (G8 hT hG hz e2 i2 ?_);exact low _ _ _ (an ⟨rfl,rfl⟩)
 ·refine Δ (G8 hT hG hy e3 i3 ?_);rcases co h2 with ⟨rfl,rfl⟩ | ⟨z,z',rfl,rfl,hz⟩
  ·cases hm rfl
  ·refine Δ (G8 hT hG hz e2 i2 ?_);exact low _ _ _ (an ⟨rfl,rfl⟩)
theorem abn{lo hi mx:Option aJ}{x:V}(h:nq .str T x lo hi mx=some v):
 ∃l m p q,x=.s l m/\mx=none/\dA T 0 lo=some p/\dA T l hi=some q/\p<=q/\q<=l/\v=.s (Nat.sub q p) (Du m p q):=by
 cases x<;>try (cases h;done)
 rename_i l m;simp only[nq]at h;split at h
 case h_2=>cases h
 rename_i p q e1 e2;cases hb:(Nat.ble p q&&Nat.ble q l) with
 | false=>rw[hb]at h;cases h
 | true=>
  rw[hb]at h;simp only[cond_true]at h;injection h with h;simp only[jV,bG,bT]at hb;exact⟨l,m,p,q,rfl,rfl,e1,e2,hb.1,hb.2,h.symm⟩
theorem abo{z k:Nat}{lo hi mx:Option aJ}{x:V}(h:nq (.arr k z) T x lo hi mx=some v):
 ∃b o p q m,x=.p b o/\dA T 0 lo=some p/\dA T k hi=some q/\dA T k mx=some m/\p<=q/\q<=m/\m<=k/\v=.sl b (bif Nat.beq m p then o else Nat.add o (Nat.mul p z)) (Nat.sub q p) (Nat.sub m p):=by
 cases x<;>try (cases h;done)
 rename_i b o;simp only[nq]at h;split at h
 case h_2=>cases h
 rename_i p q m e1 e2 e3;cases hb:(Nat.ble p q&&Nat.ble q m&&Nat.ble m k) with
 | false=>rw[hb]at h;cases h
 | true=>
  rw[hb]at h;simp only[cond_true]at h;injection h with h;simp only[jV,bG,bT]at hb;exact⟨b,o,p,q,m,rfl,e1,e2,e3,hb.1.1,hb.1.2,hb.2,h.symm⟩
theorem abp{z:Nat}{lo hi mx:Option aJ}{x:V}(h:nq (.sl z) T x lo hi mx=some v):
 (x=.ns/\dA T 0 lo=some 0/\dA T 0 hi=some 0/\dA T 0 mx=some 0/\v=.ns)\/
 (∃b o l c p q m,x=.sl b o l c/\dA T 0 lo=some p/\dA T l hi=some q/\dA T c mx=some m/\p<=q/\q<=m/\m<=c/\v=.sl b (bif Nat.beq m p then o else Nat.add o (Nat.mul p z)) (Nat.sub q p) (Nat.sub m p))\/
 (∃b o l p q,x=.su b o l z/\mx=none/\dA T 0 lo=some p/\dA T l hi=some q/\p<=q/\q<=l/\v=.su b (Nat.add o (Nat.mul p z)) (Nat.sub q p) z)\/
 (∃b o l p q m y,x=.su b o l z/\mx=some y/\dA T 0 lo=some p/\dA T l hi=some q/\dA T 0 (some y)=some m/\p<=q/\q<=m/\m<=l/\v=(bif Nat.beq l 0 then .su b o 0 z else .sl b (bif Nat.beq m p then o else Nat.add o (Nat.mul p z)) (Nat.sub q p) (Nat.sub m p))):=by
 cases x<;>try (cases h;done)
 ·simp only[nq]at h;split at h
  ·rename_i e1 e2 e3;injection h with h;exact .inl ⟨rfl,e1,e2,e3,h.symm⟩
  ·cases h
 ·rename_i b o l c;simp only[nq]at h;split at h
  case h_2=>cases h
  rename_i p q m e1 e2 e3;cases hb:(Nat.ble p q&&Nat.ble q m&&Nat.ble m c) with
  | false=>rw[hb]at h;cases h
  | true=>
   rw[hb]at h;simp only[cond_true]at h;injection h with h;simp only[jV,bG,bT]at hb;exact .inr (.inl ⟨b,o,l,c,p,q,m,rfl,e1,e2,e3,hb.1.1,hb.1.2,hb.2,h.symm⟩)
 ·rename_i b o l e;cases mx with
  | none=>
   simp only[nq]at h;split at h
   case h_2=>cases h
   rename_i p q e1 e2;cases hb:(Nat.ble p q&&Nat.ble q l&&Nat.beq z e) with
   | false=>rw[hb]at h;cases h
   | true=>
    rw[hb]at h;simp only[cond_true]at h;injection h with h;simp only[jV,dD,bG,bT]at hb;obtain⟨⟨rf,fM⟩,zd⟩:=hb;subst zd;exact .inr (.inr (.inl ⟨b,o,l,p,q,rfl,rfl,e1,e2,rf,fM,h.symm⟩))
  | some y=>
   simp only[nq]at h;split at h
   case h_2=>cases h
   rename_i p q m e1 e2 e3;cases hb:(Nat.ble p q&&Nat.ble q m&&Nat.ble m l&&Nat.beq z e) with
   | false=>rw[hb]at h;cases h
   | true=>
    rw[hb]at h;simp only[cond_true]at h;have jO:=hb;simp only[jV,dD,bG,bT]at jO;obtain⟨⟨⟨rf,fM⟩,zd⟩,A1⟩:=jO;subst A1;refine .inr (.inr (.inr ⟨b,o,l,p,q,m,y,rfl,rfl,e1,e2,e3,rf,fM,zd,?_⟩));cases hl:Nat.beq l 0 with
    | true=>rw[hl]at h;injection h with h;exact h.symm
    | false=>rw[hl]at h;injection h with h;exact h.symm
theorem extract_eq{l m p q:Nat}(h1:p<=q)(h2:q<=l)(hm:m<256 ^ l):(strOf l m).extract p q=strOf (Nat.sub q p) (Du m p q)/\Du m p q<256 ^ (Nat.sub q p):=by
 refine⟨?_,mb _ (xy λe=>by simp at e)⟩;have e:((strOf l m).extract p q).data=(cH (q - p) (m / 256 ^ p % 256 ^ (q - p))).toArray:=by
  apply j9;have:((strOf l m).extract p q).data.toList=((cH l m).drop p).take (q - p):=by simp[strOf,ByteArray.extract,ByteArray.copySlice]
  rw[this,Z2 _ _ _ (by omega),Z3 _ _ _ (by omega)]
 show(strOf l m).extract p q=⟨(cH (q - p) (m / 256 ^ p % 256 ^ (q - p))).toArray⟩;rw[←e]
theorem abq(aW:dO P ty)(hT:br η T tmps)(hG:cM η ty.g)(hH:bM W η H n w){t:TypeId}{x:Operand}{lo hi mx:Option Operand}{a:A}
 (hc:en ty (.slice t x lo hi mx)=some a)(hs:simple a T H n=some (v,H',n')):
 fL P W η H n w (do pure (.value (←Instr.sliceAt t (ax tmps x) (lo.map (ax tmps)) (hi.map (ax tmps)) (mx.map (ax tmps))))) v H' n':=by
 simp only[en]at hc;split at hc
 case h_2=>cases hc
 rename_i i x' wb mU A0 DK hx fV oi xg;cases hb:(A0.isSome&&mU.isNone) with
 | true=>rw[hb]at hc;cases hc
 | false=>
  rw[hb]at hc;simp only[cond_false]at hc;have hm:A0.isSome=true->mU.isSome=true:=by intro h;rw[h]at hb;cases mU<;>simp_all
  have dK:=(aW.ok _ _ DK).desc;have abr:A0=none->mx=none:=by
   rintro rfl;cases mx with
   | none=>rfl
   | some y=>simp only[uG]at xg;split at xg<;>cases xg
  have key:∀k,simple (.sli k x' wb mU A0) T H n=some (v,H',n')->∃u,nq k T u wb mU A0=some v/\H'=H/\n'=n/\aC η u (ax tmps x):=λk hk=>by
   simp only[simple]at hk;split at hk
   ·rename_i u hu;obtain⟨h1,h2,h3⟩:=lG hk;exact⟨u,h1,h2,h3,cS hT hG hx hu⟩
   ·cases hk
  split at hc
  ·
   rename_i hd;injection hc with hc;subst hc;rw[hd]at dK;obtain⟨u,hu,rfl,rfl,hr⟩:=key _ hs;obtain⟨l,m,p,q,rfl,rfl,e1,e2,i1,i2,rfl⟩:=abn hu;obtain rfl:=abr rfl;generalize ax tmps x=y at hr;cases hr with
   | s _ _ DT=>
    refine gM (Δ (bS dK ?_));refine Δ (bS dK ?_);refine Δ ?_;rw[uI];refine(KG (w:=w) hT hG fV oi xg hm e1 e2 (m:=l) U i1 i2 (Γ _) false).mono ?_;rintro r w' ⟨rfl,rfl⟩;obtain⟨g1,g2⟩:=extract_eq i1 i2 DT;refine an ⟨η,.refl hH,?_⟩;rw[g1];exact .s _ _ g2
  ·
   rename_i e hd;split at hc
   case h_2=>cases hc
   rename_i j hj;injection hc with hc;subst hc;rw[hd]at dK;obtain⟨u,hu,rfl,rfl,hr⟩:=key _ hs;have fin:∀(A:Option Addr) (len cap p q m:Nat),ax tmps x=.slice A len cap->dA T 0 wb=some p->dA T len mU=some q->dA T cap A0=some m->p<=q->q<=m->m<=cap->aC η v (.slice (if m=p then A else A.map (·.add (p*j.size))) (q - p) (m - p))->fL P W η H' n' w (do pure (.value (←Instr.sliceAt t (ax tmps x) (lo.map (ax tmps)) (hi.map (ax tmps)) (mx.map (ax tmps))))) v H' n':=by intro A len cap p q m ex e1 e2 e3 i1 i2 i3 hv;rw[ex];refine gM (Δ (bS dK ?_));refine Δ (bS dK ?_);refine Δ ?_;refine(KG (w:=w) hT hG fV oi xg hm e1 e2 e3 i1 i2 i3 true).mono ?_;rintro r w' ⟨rfl,rfl⟩;refine Δ (mQ (aW.ok _ _ hj) ?_);exact an ⟨η,.refl hH,hv⟩
   generalize hy:ax tmps x=y at hr;rcases abp hu with ⟨rfl,e1,e2,e3,rfl⟩ | ⟨b,o,l,c,p,q,m,rfl,e1,e2,e3,i1,i2,i3,rfl⟩ | ⟨b,o,l,p,q,rfl,rfl,e1,e2,i1,i2,rfl⟩ | ⟨b,o,l,p,q,m,y',rfl,rfl,e1,e2,e3,i1,i2,i3,rfl⟩
   ·cases hr;exact hy▸fin none 0 0 0 0 0 hy e1 e2 e3 (Γ _) (Γ _) (Γ _) .ns
   ·cases hr with
    | sl _ _ _ _ L hL=>
     refine hy▸fin _ _ _ p q m hy e1 e2 e3 i1 i2 i3 ?_;by_cases wc:m=p
     ·subst wc;rw[az rfl];have:Nat.beq m m=true:=by simp
      rw[this];exact .sl _ _ _ _ L hL
     ·rw[ai wc];have:Nat.beq m p=false:=by rw[dD];simp[wc]
      rw[this];simp only[rz,sT,cond_false];have:=aC.sl (η:=η) b (Nat.add o (Nat.mul p j.size)) (q - p) (m - p) L hL;rw[show L.off+o+p*j.size=L.off+Nat.add o (Nat.mul p j.size) from mM ..];exact this
   ·cases hr with
    | su _ _ _ _ L c hL h1 h2=>
     refine hy▸fin _ _ _ p q c hy e1 e2 rfl i1 (by omega) (Γ _) ?_;by_cases wc:c=p
     ·subst wc;rw[az rfl];have:Nat.sub q c=0:=by show q - c=0;omega
      rw[this];have:q - c=0:=by omega
      rw[this,qp];exact .se _ _ _ _ L hL
     ·rw[ai wc];simp only[rz,sT];rw[show L.off+o+p*j.size=L.off+Nat.add o (Nat.mul p j.size) from mM ..];refine aC.su b _ (q - p) _ L (c - p) hL (by omega) ?_;show o+p*j.size+(c - p)*j.size<=L.room;have:(c - p)*j.size+p*j.size=c*j.size:=by rw[←iO];congr 1;omega
      omega
    | se _ _ _ A L hL=>
     have hq:q=0:=by omega
     have hp:p=0:=by omega
     subst hq;subst hp;exact hy▸fin _ _ _ 0 0 0 hy e1 e2 rfl (Γ _) (Γ _) (Γ _) (.se _ _ _ _ L hL)
   ·cases hr with
    | su _ _ _ _ L c hL h1 h2=>
     refine hy▸fin _ _ _ p q m hy e1 e2 e3 i1 i2 (by omega) ?_;cases hl:Nat.beq l 0 with
     | true=>
      have hl:=cZ hl;have hq:q=0:=by omega
      have hp:p=0:=by omega
      have qz:m=0:=by omega
      subst hq;subst hp;subst qz;exact .se _ _ _ _ L hL
     | false=>
     simp only[cond_false];by_cases wc:m=p
     ·subst wc;rw[az rfl];have:Nat.beq m m=true:=by simp
      rw[this];exact .sl _ _ _ _ L hL
     ·rw[ai wc];have:Nat.beq m p=false:=by rw[dD];simp[wc]
      rw[this];simp only[rz,sT,cond_false];have:=aC.sl (η:=η) b (Nat.add o (Nat.mul p j.size)) (q - p) (m - p) L hL;rw[show L.off+o+p*j.size=L.off+Nat.add o (Nat.mul p j.size) from mM ..];exact this
    | se _ _ _ A L hL=>
     have hq:q=0:=by omega
     have hp:p=0:=by omega
     have qz:m=0:=by omega
     subst hq;subst hp;subst qz;exact hy▸fin _ _ _ 0 0 0 hy e1 e2 e3 (Γ _) (Γ _) (Γ _) (.se _ _ _ _ L hL)
  ·
   rename_i k e hd;split at hc
   case h_2=>cases hc
   rename_i j hj;injection hc with hc;subst hc;rw[hd]at dK;obtain⟨u,hu,rfl,rfl,hr⟩:=key _ hs;obtain⟨b,o,p,q,m,rfl,e1,e2,e3,i1,i2,i3,rfl⟩:=abo hu;generalize ax tmps x=y at hr;cases hr with
   | p _ _ L hL=>
    refine gM (Δ (bS dK ?_));refine Δ (an ?_);refine Δ ?_;refine(KG (w:=w) hT hG fV oi xg hm e1 e2 e3 i1 i2 i3 false).mono ?_;rintro r w' ⟨rfl,rfl⟩;refine Δ (mQ (aW.ok _ _ hj) ?_);refine an ⟨η,.refl hH,?_⟩;by_cases wc:m=p
    ·subst wc;rw[az rfl];have:Nat.beq m m=true:=by simp
     rw[this];exact .sl _ _ _ _ L hL
    ·rw[ai wc];have:Nat.beq m p=false:=by rw[dD];simp[wc]
     rw[this];simp only[sT,cond_false];have:=aC.sl (η:=η) b (Nat.add o (Nat.mul p j.size)) (q - p) (m - p) L hL;rw[show L.off+o+p*j.size=L.off+Nat.add o (Nat.mul p j.size) from mM ..];exact this
  ·cases hc
end ops
end
section
section ops
variable {P:Program}{ty:Ty}{W:Nat->Code->AC->Prop}{η:Env}{T:Tr V}{H H':Hp}{n n':K}{w:World}{tmps:Array Value}{v:V}
theorem KH{t:TypeId}{i:TI}{q:EK}(hi:vX P t i)(h:i.desc.key=some q)(x:Value)(e:Bool)(k:Nat){Φ:Unit->World->Prop}(hΦ:Φ () w):bA P (Instr.checkKey e (k+1) t x) w Φ:=by
 have hd:=hi.desc;unfold Instr.checkKey;generalize i.desc=d at h hd;cases d<;>first | (cases h;done) | skip
 all_goals exact Δ (bS hd (an hΦ))
theorem abt(aW:dO P ty){xs:List V}{cx:Array Value}(hx:bB η xs cx.toList)(e:Bool)(k:Nat){fs:List Field}
 {l:List (Nat×EK)}(hl:flat ty (fs.map λf=>(f.type,f.offset))=some l)(h:hasAll xs l=true):
 bA P (do
  for f in fs do
   if f.name ≠ "_" then Instr.checkKey e (k+1) f.type (←part f.type cx f.offset)) w λ_ w'=>w'=w:=by
 induction fs generalizing l with
 | nil=>exact an rfl
 | cons f fs ih=>
  simp only[ma,flat]at hl;split at hl
  case h_2=>cases hl
  rename_i i hi;split at hl
  case h_2=>cases hl
  rename_i q l' hq re;injection hl with hl;subst hl;simp only[hasAll,bG]at h;obtain⟨h1,h2⟩:=h;split at h1
  case h_2=>cases h1
  rename_i x qy;obtain⟨_,zR⟩:=zP aW hi hq;rw[List.forIn_cons];refine Δ (Δ ?_);by_cases hn:f.name ≠ "_"
  ·rw[az hn];refine Δ ((BL aW hi zR hx qy).mono ?_);rintro x' w' ⟨_,rfl⟩;refine Δ (KH (aW.ok _ _ hi) hq _ _ _ ?_);exact an (DR (ih re h2))
  ·rw[ai hn];exact an (DR (ih re h2))
theorem abu(aW:dO P ty){e:TypeId}{i:TI}(hi:ty e=some i){q:EK}(hq:i.desc.key=some q){xs:List V}{cx:Array Value}(hx:bB η xs cx.toList)(b:Bool)(k:Nat)
 {fs:List Nat}(h:hasAll xs (fs.map λi=>(i,q))=true):
 bA P (do
  for j in fs do
   Instr.checkKey b (k+1) e (←part e cx (j*(←sizeOf e)))) w λ_ w'=>w'=w:=by
 obtain⟨_,zR⟩:=zP aW hi hq
 induction fs with
 | nil=>exact an rfl
 | cons f fs ih=>
  simp only[ma,hasAll,bG]at h;obtain⟨h1,h2⟩:=h;split at h1
  case h_2=>cases h1
  rename_i x qy;rw[List.forIn_cons];refine Δ (Δ (Δ (mQ (aW.ok _ _ hi) ?_)));rw[QD aW hi hq];refine Δ ((BL aW hi zR hx (by rw[ka];exact qy)).mono ?_);rintro x' w' ⟨_,rfl⟩;refine Δ (KH (aW.ok _ _ hi) hq _ _ _ ?_);exact an (DR (ih h2))
theorem DU(aW:dO P ty){t:TypeId}{q:eH}(hq:mg ty t=some q){x:V}{x':Value}(hx:aC η x x')(h:oF q x=true)(e:Bool):
 bA P (Instr.checkKey e 10000 t x') w λ_ w'=>w'=w:=by
 unfold mg at hq;split at hq
 case h_2=>cases hq
 rename_i i hi;have hd:=(aW.ok _ _ hi).desc;split at hq
 ·rename_i fs plain oO;cases plain with
  | false=>cases hq
  | true=>
   simp only[cond_true]at hq;split at hq
   case h_2=>cases hq
   rename_i l hl;injection hq with hq;subst hq;rw[oO]at hd;obtain⟨sf,hu,vG,_,xh⟩:=hd;unfold oF at h;split at h<;>first | (rename_i he;cases he;done) | (rename_i he _;cases he;done) | (cases h;done) | skip
   rename_i l' xs he;injection he with he;subst he;cases hx with
   | a _ cx hx=>
    unfold Instr.checkKey;refine Δ (bS hu ?_);dsimp only;rw[←Array.forIn_toList];exact abt (cx:=⟨cx⟩) aW hx e 9998 (by rw[←vG];exact hl) h
 ·rename_i m e' oO;rw[oO]at hd;split at hq
  case h_2=>cases hq
  rename_i j hj;split at hq
  case h_2=>cases hq
  rename_i q' hJ;injection hq with hq;subst hq;unfold oF at h;split at h<;>first | (rename_i he;cases he;done) | (rename_i he _;cases he;done) | (cases h;done) | skip
  rename_i l' xs he;injection he with he;subst he;cases hx with
  | a _ cx hx=>
   unfold Instr.checkKey;refine Δ (bS hd ?_);dsimp only;have:=abu (w:=w) (fs:=List.range m) (cx:=⟨cx⟩) aW hj hJ hx e 9998 h;simp only[Std.Legacy.Range.forIn_eq_forIn_range',Std.Legacy.Range.size];simpa[xz]using this
 ·rename_i d h1 h2;split at hq
  case h_2=>cases hq
  rename_i q' hJ;exact KH (aW.ok _ _ hi) hJ _ _ _ rfl
theorem abw(aW:dO P ty){t:TypeId}{u:TypeDesc}(hu:P.underlying t=some u){q:eH}(hq:mg ty t=some q){x y:V}{x' y':Value}(hx:aC η x x')(hy:aC η y y'){r b:Bool}
 (h:mF q x y=some r)(hb:Instr.sameNow u x' y'=some b):b=r:=by
 obtain⟨b',w',h1,rfl,_⟩:=G7 (w:=default) aW hq hx hy h;have step:bA P (Op.equal t x' y') default λc _=>c=b:=by
  unfold Instr.sameNow at hb;split at hb
  ·rename_i k a k' b';split at hb
   ·rename_i hk;injection hb with hb;subst hb;subst hk;exact Δ (bS hu (KD rfl (an rfl)))
   ·cases hb
  ·injection hb with hb;subst hb;exact Δ (bS hu (an rfl))
  ·injection hb with hb;subst hb;exact Δ (bS hu (an rfl))
  ·cases hb
 obtain⟨c,w2,h2,h3⟩:=step;rw[h1]at h2;injection h2 with h2 _;rw[h2,h3]
def kN(q:eH)(k:V):List (V×V×Nat)->Option (Option Nat)
 | []=>some none
 | (k',_,_)::es=>match mF q k k' with
  | some true=>some (some 0)
  | some false=>match kN q k es with
   | some (some i)=>some (some (i+1))
   | some none=>some none
   | none=>none
  | none=>none
def Ot(l:List MapEntry)(j:Nat):Option Nat->Option (Nat×Value)->Prop
 | none,s=>s=none
 | some i,s=>∃e,l[i]?=some e/\s=some (j+i,e.val)
theorem QS(aW:dO P ty){t:TypeId}{u:TypeDesc}(hu:P.underlying t=some u){q:eH}(hq:mg ty t=some q){k:V}{k':Value}(hk:aC η k k'):
 ∀{es:List (V×V×Nat)} {l:List MapEntry},eP η es l->∀{r:Option Nat},kN q k es=some r->∀(j:Nat) {s:Option (Nat×Value)},Instr.findNow u k' l j=some s->Ot l j r s
 | [],[],_,r,h,j,s,hs=>by simp only[kN]at h;injection h with h;subst h;simp only[Instr.findNow]at hs;injection hs with hs;exact hs.symm
 | (k1,v1,b1)::es,e::l,he,r,h,j,s,hs=>by
  obtain⟨r1,r2,r3,r4⟩:=he;simp only[kN]at h;simp only[Instr.findNow]at hs;cases FW:mF q k k1 with
  | none=>rw[FW]at h;cases h
  | some b=>
   rw[FW]at h;cases hn:Instr.sameNow u k' e.key with
   | none=>rw[hn]at hs;cases hs
   | some c=>
    rw[hn]at hs;have:=abw aW hu hq hk r1 FW hn;subst this;cases c with
    | true=>
     injection h with h;subst h;injection hs with hs;subst hs;exact⟨e,rfl,rfl⟩
    | false=>
     simp only at h hs;cases hf:kN q k es with
     | none=>rw[hf]at h;cases h
     | some r'=>
      rw[hf]at h;have:=QS aW hu hq hk r4 hf (j+1) hs;cases r' with
      | none=>injection h with h;subst h;exact this
      | some i=>
       injection h with h;subst h;obtain⟨e',q1,q2⟩:=this;exact⟨e',by simpa using q1,by rw[q2,mM,qs 1]⟩
 | [],_::_,he,_,_,_,_,_=>he.elim
 | _::_,[],he,_,_,_,_,_=>he.elim
theorem QT(aW:dO P ty){t:TypeId}{q:eH}(hq:mg ty t=some q){k:V}{k':Value}(hk:aC η k k'):
 ∀{es:List (V×V×Nat)} {l:List MapEntry},eP η es l->∀{r:Option Nat},kN q k es=some r->∀(j:Nat) (w:World),bA P (Instr.findAsking t k' l j) w λs w'=>w'=w/\Ot l j r s
 | [],[],_,r,h,j,w=>by simp only[kN]at h;injection h with h;subst h;exact an ⟨rfl,rfl⟩
 | (k1,v1,b1)::es,e::l,he,r,h,j,w=>by
  obtain⟨r1,r2,r3,r4⟩:=he;simp only[kN]at h;cases FW:mF q k k1 with
  | none=>rw[FW]at h;cases h
  | some b=>
   rw[FW]at h;refine Δ ((G7 aW hq hk r1 FW).mono ?_);rintro b' w' ⟨rfl,rfl⟩;cases b' with
   | true=>
    injection h with h;subst h;exact an ⟨rfl,e,rfl,rfl⟩
   | false=>
    simp only at h;cases hf:kN q k es with
    | none=>rw[hf]at h;cases h
    | some r'=>
     rw[hf]at h;refine(QT aW hq hk r4 hf (j+1) w').mono ?_;rintro s xf ⟨rfl,hs⟩;refine⟨rfl,?_⟩;cases r' with
     | none=>injection h with h;subst h;exact hs
     | some i=>
      injection h with h;subst h;obtain⟨e',q1,q2⟩:=hs;exact⟨e',by simpa using q1,by rw[q2,mM,qs 1]⟩
 | [],_::_,he,_,_,_,_=>he.elim
 | _::_,[],he,_,_,_,_=>he.elim
theorem abx(aW:dO P ty){t:TypeId}{q:eH}(hq:mg ty t=some q):∃u,P.underlying t=some u:=by
 unfold mg at hq;split at hq
 case h_2=>cases hq
 rename_i i hi;have hd:=(aW.ok _ _ hi).desc;split at hq
 ·rename_i h;rw[h]at hd;obtain⟨l,h,_⟩:=hd;exact⟨_,h⟩
 ·rename_i h;rw[h]at hd;exact⟨_,hd⟩
 ·split at hq
  case h_2=>cases hq
  rename_i q' hJ;generalize i.desc=d at hJ hd;cases d<;>first | (cases hJ;done) | exact⟨_,hd⟩
theorem BN(aW:dO P ty){t:TypeId}{q:eH}(hq:mg ty t=some q){k:V}{k':Value}(hk:aC η k k'){es:List (V×V×Nat)}{l:List MapEntry}(he:eP η es l){r:Option Nat}
 (h:kN q k es=some r):bA P (Instr.findKey t k' l) w λs w'=>w'=w/\Ot l 0 r s:=by
 obtain⟨u,hu⟩:=abx aW hq;refine Δ (bS hu ?_);cases hn:Instr.findNow u k' l 0 with
 | none=>
  exact QT aW hq hk he h 0 w
 | some s=>
  exact an ⟨rfl,QS aW hu hq hk he h 0 hn⟩
theorem eP.length:∀{es:List (V×V×Nat)} {l:List MapEntry},eP η es l->es.length=l.length
 | [],[],_=>rfl
 | (_,_,_)::es,e::l,⟨_,_,_,h⟩=>by rw[fG,fG,eP.length h]
 | [],_::_,h=>h.elim
 | _::_,[],h=>h.elim
theorem eP.get:∀{es:List (V×V×Nat)} {l:List MapEntry},eP η es l->∀{i:Nat} {k v:V} {b:Nat},es[i]?=some (k,v,b)->∃e,l[i]?=some e/\aC η k e.key/\aC η v e.val/\e.born=b
 | [],[],_,i,k,v,b,hi=>by simp at hi
 | (k1,v1,b1)::es,e::l,⟨h1,h2,h3,h⟩,i,k,v,b,hi=>by
  cases i with
  | zero=>simp at hi;obtain⟨rfl,rfl,rfl⟩:=hi;exact⟨e,by simp,h1,h2,h3⟩
  | succ i=>simp at hi ⊢;exact eP.get h hi
 | [],_::_,h,_,_,_,_,_=>h.elim
 | _::_,[],h,_,_,_,_,_=>h.elim
theorem eP.append:∀{es:List (V×V×Nat)} {l:List MapEntry},eP η es l->∀{k v:V} {e:MapEntry},aC η k e.key->aC η v e.val->eP η (es++[(k,v,e.born)]) (l++[e])
 | [],[],_,k,v,e,h1,h2=>⟨h1,h2,rfl,trivial⟩
 | (k1,v1,b1)::es,e1::l,⟨h1,h2,h3,h⟩,k,v,e,g1,g2=>⟨h1,h2,h3,eP.append h g1 g2⟩
 | [],_::_,h,_,_,_,_,_=>h.elim
 | _::_,[],h,_,_,_,_,_=>h.elim
theorem eP.set:∀{es:List (V×V×Nat)} {l:List MapEntry},eP η es l->∀{k v:V} {k' v':Value} {i:Nat} {k0 v0:V} {b:Nat},es[i]?=some (k0,v0,b)->aC η k k'->aC η v v'->eP η (es.set i (k,v,b)) (l.modify i λe=>{ e with key:=k',val:=v'})
 | [],[],_,_,_,_,_,i,_,_,_,hi,_,_=>by simp at hi
 | (k1,v1,b1)::es,e1::l,⟨h1,h2,h3,h⟩,k,v,k',v',i,k0,v0,b,hi,g1,g2=>by
  cases i with
  | zero=>simp at hi;obtain⟨rfl,rfl,rfl⟩:=hi;exact⟨g1,g2,h3,h⟩
  | succ i=>simp at hi ⊢;exact⟨h1,h2,h3,eP.set h hi g1 g2⟩
 | [],_::_,h,_,_,_,_,_,_,_,_,_,_,_=>h.elim
 | _::_,[],h,_,_,_,_,_,_,_,_,_,_,_=>h.elim
theorem eP.erase:∀{es:List (V×V×Nat)} {l:List MapEntry},eP η es l->∀(i:Nat),eP η (es.eraseIdx i) (l.eraseIdx i)
 | [],[],_,i=>by simp[eP]
 | (k1,v1,b1)::es,e1::l,⟨h1,h2,h3,h⟩,i=>by
  cases i with
  | zero=>exact h
  | succ i=>exact⟨h1,h2,h3,eP.erase h i⟩
 | [],_::_,h,_=>h.elim
 | _::_,[],h,_=>h.elim
theorem QU{q:eH}{k:V}{es:List (V×V×Nat)}{r:Option V}(h:Bz q k es=some r):
 (r=none/\kN q k es=some none)\/∃v i k' b,r=some v/\kN q k es=some (some i)/\es[i]?=some (k',v,b):=by
 induction es with
 | nil=>simp only[Bz]at h;injection h with h;exact .inl ⟨h.symm,rfl⟩
 | cons e es ih=>
  obtain⟨k',v',b⟩:=e;simp only[Bz]at h;simp only[kN];cases hk:mF q k k' with
  | none=>rw[hk]at h;cases h
  | some c=>
   rw[hk]at h;cases c with
   | true=>injection h with h;exact .inr ⟨v',0,k',b,h.symm,rfl,rfl⟩
   | false=>
    rcases ih h with ⟨h1,h2⟩ | ⟨v,i,k2,b2,h1,h2,h3⟩
    ·exact .inl ⟨h1,by simp[h2]⟩
    ·exact .inr ⟨v,i+1,k2,b2,h1,by simp[h2],by simpa using h3⟩
theorem aby{q:eH}{k:V}{es r:List (V×V×Nat)}(h:Dx q k es=some r):
 (r=es/\kN q k es=some none)\/∃i,kN q k es=some (some i)/\r=es.eraseIdx i:=by
 induction es generalizing r with
 | nil=>simp only[Dx]at h;injection h with h;exact .inl ⟨h.symm,rfl⟩
 | cons e es ih=>
  obtain⟨k',v',b⟩:=e;simp only[Dx]at h;simp only[kN];cases hk:mF q k k' with
  | none=>rw[hk]at h;cases h
  | some c=>
   rw[hk]at h;cases c with
   | true=>injection h with h;exact .inr ⟨0,rfl,h.symm⟩
   | false=>
    simp only at h;split at h
    ·rename_i gL he;injection h with h;subst h;rcases ih he with ⟨h1,h2⟩ | ⟨i,h1,h2⟩
     ·exact .inl ⟨by rw[h1],by simp[h2]⟩
     ·exact .inr ⟨i+1,by simp[h1],by rw[h2];rfl⟩
    ·cases h
theorem abz{q:eH}{k v:V}{c:Nat}{es r:List (V×V×Nat)}{new:Bool}(h:Dw q k v c es=some (r,new)):
 (new=true/\r=es++[(k,v,c)]/\kN q k es=some none)\/∃i k' v' b q',new=false/\q=.one q'/\kN q k es=some (some i)/\es[i]?=some (k',v',b)/\mF q k k'=some true/\r=es.set i (k,v,b):=by
 induction es generalizing r with
 | nil=>simp only[Dw]at h;injection h with h;injection h with h1 h2;exact .inl ⟨h2.symm,by rw[←h1];rfl,rfl⟩
 | cons e es ih=>
  obtain⟨k',v',b⟩:=e;simp only[Dw]at h;simp only[kN];cases hk:mF q k k' with
  | none=>rw[hk]at h;cases h
  | some c'=>
   rw[hk]at h;cases c' with
   | true=>
    simp only at h;cases q with
    | agg l=>cases h
    | one q'=>
     injection h with h;injection h with h1 h2;exact .inr ⟨0,k',v',b,q',h2.symm,rfl,rfl,rfl,hk,h1.symm⟩
   | false=>
    simp only at h;split at h
    ·rename_i gL b' he;injection h with h;injection h with h1 h2;subst h1;subst h2;rcases ih he with ⟨h1,h2,h3⟩ | ⟨i,k2,v2,b2,q',h1,h2,h3,h4,h5,h6⟩
     ·exact .inl ⟨h1,by rw[h2];rfl,by simp[h3]⟩
     ·exact .inr ⟨i+1,k2,v2,b2,q',h1,h2,by simp[h3],by simpa using h4,h5,by rw[h6];rfl⟩
    ·cases h
end ops
end
section
section ops
variable {P:Program}{ty:Ty}{W:Nat->Code->AC->Prop}{η:Env}{T:Tr V}{H H':Hp}{n n':K}{w:World}{tmps:Array Value}{v:V}
theorem xW(hH:bM W η H n w){b:K}{es:List (V×V×Nat)}{c:Nat}(h:H.get b=some (.mp es c)){L:Loc}(hL:η b=some L):
 ∃gL,w.heap[L.blk]?=some (.map gL c)/\eP η es gL.toList:=by
 obtain⟨L',h1,h2,gL,h3,h4⟩:=hH.obj b _ h;rw[hL]at h1;injection h1 with h1;subst h1;exact⟨gL,h3,h4⟩
theorem abA(aW:dO P ty)(hT:br η T tmps)(hG:cM η ty.g)(hH:bM W η H n w){t:TypeId}{x y:Operand}{ok:Bool}{a:A}
 (hc:en ty (.lookup t x y ok)=some a)(hs:simple a T H n=some (v,H',n')):
 fL P W η H n w (do pure (.value (←Instr.lookup t (ax tmps x) (ax tmps y) ok))) v H' n':=by
 simp only[en]at hc;split at hc
 case h_2=>cases hc
 rename_i i m k hi hx hy;split at hc
 case h_2=>cases hc
 rename_i kt e hd;split at hc
 case h_2=>cases hc
 rename_i j hj;split at hc
 case h_2=>cases hc
 rename_i q hq;injection hc with hc;subst hc;have dK:=(aW.ok _ _ hi).desc;rw[hd]at dK;refine gM (Δ (bS dK ?_));simp only[simple]at hs;have tail:∀(s:Option (Nat×Value)) (v:V),(∀i y,s=some (i,y)->aC η v (if ok then .tuple #[y,.bool true] else y))->(s=none->v=zG ok j.zeroV false)->bA P (
  let jp:=λ(x:Value×Bool)=>match x with
   | (y,o)=>(pure (if ok=true then Value.tuple #[y,.bool o] else y):Sem Value)
  match s with
  | some (_,y)=>do
   let x←pure (y,true)
   jp x
  | none=>do
   let z←zeroValue e
   let x←pure (z,false)
   jp x) w λy w'=>∃η',Trans W η H n w η' H n w'/\aC η' v y:=by
  intro s v h1 h2;cases s with
  | none=>
   rw[h2 rfl];refine Δ (sU (aW.ok _ _ hj) λz _ hz _ _=>Δ (an ?_));exact an ⟨η,.refl hH,Kw (hz η)⟩
  | some p=>
   obtain⟨i,y⟩:=p;exact Δ (an (an ⟨η,.refl hH,h1 i y rfl⟩))
 split at hs
 ·rename_i k' hm hk;cases jH:oF q k' with
  | false=>rw[jH]at hs;cases hs
  | true=>
   rw[jH]at hs;obtain⟨rfl,rfl,rfl⟩:=eo hs;have eR:=cS hT hG hx hm;have fQ:=cS hT hG hy hk;generalize ax tmps x=x' at eR;cases eR;refine Δ (an ?_);refine Δ ((DU aW hq fQ jH _).mono ?_);rintro _ w' rfl;have:=BN (w:=w') aW hq fQ (es:=[]) (l:=[]) trivial (r:=none) U;refine Δ (this.mono ?_);rintro s w' ⟨rfl,hs⟩;have hs:s=none:=hs;subst hs;exact tail none _ (λ_ _ h=>by cases h) (λ_=>rfl)
 ·rename_i b k' hm hk;cases jH:oF q k' with
  | false=>rw[jH]at hs;cases hs
  | true=>
   rw[jH]at hs;simp only[cond_true]at hs;have eR:=cS hT hG hx hm;have fQ:=cS hT hG hy hk;generalize ax tmps x=x' at eR;cases eR with
   | m _ L hL=>
    split at hs
    case h_2=>cases hs
    rename_i es c hb;obtain⟨gL,g1,g2⟩:=xW hH hb hL;have:∃r,kN q k' es=some r/\H'=H/\n'=n/\∀s,Ot gL.toList 0 r s->(∀i y,s=some (i,y)->aC η v (if ok then .tuple #[y,.bool true] else y))/\(s=none->v=zG ok j.zeroV false):=by
     split at hs
     ·rename_i vv hf;obtain⟨rfl,rfl,rfl⟩:=eo hs;rcases QU hf with ⟨h,_⟩ | ⟨v',i',k2,b2,h1,h2,h3⟩
      ·cases h
      ·injection h1 with h1;subst h1;obtain⟨e',q1,q2,q3,q4⟩:=g2.get h3;refine⟨_,h2,rfl,rfl,λs hs=>?_⟩;obtain⟨e2,p1,rfl⟩:=hs;rw[q1]at p1;injection p1 with p1;subst p1;refine⟨λi y h=>?_,λh=>by cases h⟩;injection h with h;injection h with _ h;subst h;exact Kw q3
     ·rename_i hf;obtain⟨rfl,rfl,rfl⟩:=eo hs;rcases QU hf with ⟨_,h⟩ | ⟨v',i',k2,b2,h1,_⟩
      ·refine⟨_,h,rfl,rfl,λs hs=>?_⟩;have hs:s=none:=hs;subst hs;exact⟨λ_ _ h=>(by cases h),λ_=>rfl⟩
      ·cases h1
     ·cases hs
    obtain⟨r,hr,rfl,rfl,kf⟩:=this;refine Δ (xP g1 (by intro _ _ _ h;cases h) (Δ (an ?_)));refine Δ ((DU aW hq fQ jH _).mono ?_);rintro _ w' rfl;refine Δ ((BN (w:=w') aW hq fQ g2 hr).mono ?_);rintro s w' ⟨rfl,hs⟩;exact tail s _ (kf s hs).1 (kf s hs).2
 ·cases hs
theorem abB{x y:V}{r:Bool}(h:dX .bool x y=some r):∃a b,x=.b a/\y=.b b/\r=(a==b):=by
 cases x<;>try (cases h;done)
 cases y<;>try (cases h;done)
 injection h with h;exact⟨_,_,rfl,rfl,h.symm⟩
theorem abC{x y:V}{r:Bool}(h:dX .int x y=some r):∃k a b,x=.i k a/\y=.i k b/\r=(a==b):=by
 cases x<;>try (cases h;done)
 cases y<;>try (cases h;done)
 rename_i k a k' b;simp only[dX]at h;cases hk:Nat.beq (kn k) (kn k') with
 | false=>rw[hk]at h;cases h
 | true=>
  rw[hk]at h;simp only[cond_true]at h;obtain rfl:=G2 hk;injection h with h;exact⟨_,_,_,rfl,rfl,by rw[←BJ];exact h.symm⟩
theorem abD{x y:V}{r:Bool}(h:dX .str x y=some r):∃l m l' m',x=.s l m/\y=.s l' m'/\r=(Nat.beq l l'&&Nat.beq m m'):=by
 cases x<;>try (cases h;done)
 cases y<;>try (cases h;done)
 injection h with h;exact⟨_,_,_,_,rfl,rfl,h.symm⟩
theorem abE{q:EK}(hq:∃i:TI,i.desc.key=some q){x y:V}{x' y':Value}(hx:aC η x x')(hy:aC η y y')(h:dX q x y=some true):x'=y'/\Instr.sameBits 10000 x' x'=true:=by
 obtain⟨i,hi⟩:=hq;have:q=.bool\/q=.int\/q=.str:=by generalize i.desc=d at hi;cases d<;>first | (cases hi;done) | (injection hi with hi;subst hi;simp)
 rcases this with rfl | rfl | rfl
 ·obtain⟨a,b,rfl,rfl,e⟩:=abB h;cases hx;cases hy;have:a=b:=by cases a<;>cases b<;>simp_all
  subst this;exact⟨rfl,by simp[Instr.sameBits]⟩
 ·obtain⟨k,a,b,rfl,rfl,e⟩:=abC h;cases hx;cases hy;have:a=b:=by simpa using e.symm
  subst this;exact⟨rfl,by simp[Instr.sameBits]⟩
 ·obtain⟨l,m,l',m',rfl,rfl,e⟩:=abD h;cases hx with
  | s _ _ hx=>
  cases hy;have e:=e.symm;rw[bG]at e;have e1:=cZ e.1;have e2:=cZ e.2;subst e1;subst e2;exact⟨rfl,by unfold Instr.sameBits;rw[QC hx hx];simp⟩
theorem QV(aW:dO P ty)(hT:br η T tmps)(hG:cM η ty.g)(hH:bM W η H n w){t:TypeId}{x y z:Operand}{a:A}
 (hc:en ty (.mapUpdate t x y z)=some a)(hs:simple a T H n=some (v,H',n')):
 fL P W η H n w (do Instr.mapUpdate t (ax tmps x) (ax tmps y) (ax tmps z);pure .skip) v H' n':=by
 simp only[en]at hc;split at hc
 case h_2=>cases hc
 rename_i i m k z' hi hx hy hz;split at hc
 case h_2=>cases hc
 rename_i kt e hd;split at hc
 case h_2=>cases hc
 rename_i q hq;injection hc with hc;subst hc;have dK:=(aW.ok _ _ hi).desc;rw[hd]at dK;simp only[simple]at hs;split at hs
 case h_2=>cases hs
 rename_i b k' v' hm hk hv;cases jH:oF q k' with
 | false=>rw[jH]at hs;cases hs
 | true=>
  rw[jH]at hs;simp only[cond_true]at hs;have eR:=cS hT hG hx hm;have fQ:=cS hT hG hy hk;have A2:=cS hT hG hz hv;generalize ax tmps x=x' at eR;cases eR with
  | m _ L hL=>
   split at hs
   case h_2=>cases hs
   rename_i es c hb;split at hs
   case h_2=>cases hs
   rename_i es2 new hu;obtain⟨rfl,rfl,rfl⟩:=eo hs;obtain⟨gL,g1,g2⟩:=xW hH hb hL;refine oku (Δ (bS dK ?_));refine Δ (xP g1 (by intro _ _ _ h;cases h) ?_);refine Δ ((DU aW hq fQ jH _).mono ?_);rintro _ w' rfl;rcases abz hu with ⟨rfl,rfl,h3⟩ | ⟨i,k0,v0,b0,q',rfl,rfl,h3,h4,h5,rfl⟩
   ·refine Δ ((BN (w:=w') aW hq fQ g2 h3).mono ?_);rintro s w' ⟨rfl,hs⟩;have hs:s=none:=hs;subst hs;refine DG g1 (by intro _ _ _ h;cases h) ⟨η,?_⟩;refine Trans.write (o':=.mp _ _) hH hb rfl hL ⟨_,rfl,?_⟩ rfl;have:=g2.append (e:={ key:=ax tmps y,val:=ax tmps z,born:=c}) fQ A2;simpa using this
   ·refine Δ ((BN (w:=w') aW hq fQ g2 h3).mono ?_);rintro s w' ⟨rfl,hs⟩;obtain⟨e',q1,rfl⟩:=hs;obtain⟨e2,p1,p2,p3,p4⟩:=g2.get h4;rw[q1]at p1;injection p1 with p1;subst p1;have FX:∃i:TI,i.desc.key=some q':=by
     unfold mg at hq;split at hq
     case h_2=>cases hq
     rename_i i0 KA;split at hq
     ·rename_i fs pl _;cases pl with
      | false=>cases hq
      | true=>simp only[cond_true]at hq;split at hq<;>cases hq
     ·split at hq
      ·split at hq<;>cases hq
      ·cases hq
     ·split at hq
      ·rename_i q2 CO;injection hq with hq;injection hq with hq;subst hq;exact⟨i0,CO⟩
      ·cases hq
    obtain⟨r1,r2⟩:=abE FX fQ p2 h5;have:(gL[0+i]?.map (·.key)).getD (ax tmps y)=ax tmps y:=by rw[hY,←nK,q1];exact r1.symm
    refine Δ ?_;rw[this];unfold Instr.keyThatStays;rw[az r2];refine an (DG g1 (by intro _ _ _ h;cases h) ⟨η,?_⟩);refine Trans.write (o':=.mp _ _) hH hb rfl hL ⟨_,rfl,?_⟩ rfl;have:=g2.set h4 fQ A2;rw[hY,Array.toList_modify];exact this
theorem abF(aW:dO P ty)(hT:br η T tmps)(hG:cM η ty.g)(hH:bM W η H n w){t:TypeId}{i:TI}{x y:Operand}{m k:aJ}{kt e:Nat}{q:eH}{rt:TypeId}{ts:Array TypeId}
 (oj:ts[0]?=some t)(hi:ty t=some i)(hd:i.desc=.map kt e)(hx:cr ty x=some m)(hy:cr ty y=some k)(hq:mg ty kt=some q)
 (hs:simple (.del q m k) T H n=some (v,H',n')):
 bA P (Builtin.delete_ ts rt #[ax tmps x,ax tmps y]) w λy w'=>∃η',Trans W η H n w η' H' n' w'/\aC η' v y:=by
 have dK:=(aW.ok _ _ hi).desc;rw[hd]at dK;unfold Builtin.delete_;simp only[oj,Bl,xq,rn];refine Δ (bS dK ?_);simp only[simple]at hs;split at hs
 ·rename_i k' hm hk;cases jH:oF q k' with
  | false=>rw[jH]at hs;cases hs
  | true=>
   rw[jH]at hs;obtain⟨rfl,rfl,rfl⟩:=eo hs;have eR:=cS hT hG hx hm;have fQ:=cS hT hG hy hk;generalize ax tmps x=x' at eR;cases eR;refine Δ ((DU aW hq fQ jH _).mono ?_);rintro _ w' rfl;exact an ⟨η,.refl hH,.u _ _ .nil⟩
 ·rename_i b k' hm hk;cases jH:oF q k' with
  | false=>rw[jH]at hs;cases hs
  | true=>
   rw[jH]at hs;simp only[cond_true]at hs;have eR:=cS hT hG hx hm;have fQ:=cS hT hG hy hk;generalize ax tmps x=x' at eR;cases eR with
   | m _ L hL=>
    split at hs
    case h_2=>cases hs
    rename_i es c hb;split at hs
    case h_2=>cases hs
    rename_i es2 hu;obtain⟨rfl,rfl,rfl⟩:=eo hs;obtain⟨gL,g1,g2⟩:=xW hH hb hL;refine Δ (xP g1 (by intro _ _ _ h;cases h) ?_);refine Δ ((DU aW hq fQ jH _).mono ?_);rintro _ w' rfl;rcases aby hu with ⟨rfl,h3⟩ | ⟨i,h3,rfl⟩
    ·refine Δ ((BN (w:=w') aW hq fQ g2 h3).mono ?_);rintro s w' ⟨rfl,hs⟩;have hs:s=none:=hs;subst hs;refine Δ (DG g1 (by intro _ _ _ h;cases h) (an ⟨η,?_,.u _ _ .nil⟩));exact Trans.write (o':=.mp _ _) hH hb rfl hL ⟨_,rfl,g2⟩ rfl
    ·refine Δ ((BN (w:=w') aW hq fQ g2 h3).mono ?_);rintro s w' ⟨rfl,hs⟩;obtain⟨e',q1,rfl⟩:=hs;refine Δ (DG g1 (by intro _ _ _ h;cases h) (an ⟨η,?_,.u _ _ .nil⟩));refine Trans.write (o':=.mp _ _) hH hb rfl hL ⟨_,rfl,?_⟩ rfl;have:=g2.erase i;rw[hY];have ψ:i<gL.size:=by have:=(nL.1 q1).1;simpa using this
     simpa[Array.eraseIdxIfInBounds,ψ]using this
 ·cases hs
end ops
end
section
section trans
variable {W:Nat->Code->AC->Prop}{η:Env}{H:Hp}{n:K}{w:World}
theorem Trans.less(h:bM W η H n w)(k:K):Trans W η H n w η (H.put none k) n w:=
 have hs:∀k' o,(H.put none k).get k'=some o->H.get k'=some o:=λk' o hk=>by
  rw[Tr.gb]at hk;split at hk
  ·cases hk
  ·exact hk
 ⟨.refl _,Γ _,h.less hs,.refl _ _,λm b ⟨k',o,L,h1,h2,h3,h4⟩=>.inl ⟨k',o,L,hs _ _ h1,h2,h3,h4⟩,λ_ _=>rfl⟩
theorem Trans.move(h:bM W η H n w){k:K}{o o':O}{L L':Loc}{ob:Obj}(hk:H.get k=some o)(hm:o.mut=true)(hL:η k=some L)(KI:L'.blk=L.blk)
 (ho:∀η',η.le η'->ic W η' o' L' (some ob)){w':World}(hw:w'={ w with heap:=w.heap.setIfInBounds L.blk ob})(hl:o.DH=false:=by rfl):
 ∃η',Trans W η H n w η' ((H.put none k).put (some o') n) n.succ w'/\η' n=some L':=by
 subst hw;obtain⟨L0,og,ψ,_⟩:=h.obj k o hk;rw[hL]at og;injection og with og;subst og;have hn:η n=none:=h.free n (Γ _);have sQ:k≠n:=λe=>by rw[e,hn]at hL;cases hL
 let η':Env:=λq=>if q=n then some L' else η q
 have hle:η.le η':=λq M hq=>by
  show(if q=n then _ else η q)=_
  rw[ai (λe=>by rw[e,hn]at hq;cases hq)];exact hq
 have oJ:η' n=some L':=az rfl;have hold:∀q,q≠n->η' q=η q:=λq hq=>ai hq;have get:∀q o1,((H.put none k).put (some o') n).get q=some o1->(q=n/\o1=o')\/(q≠n/\q≠k/\H.get q=some o1):=by
  intro q o1 hq;rw[Tr.gb]at hq;split at hq
  ·rename_i e;injection hq with hq;exact .inl ⟨e,hq.symm⟩
  ·rename_i e;rw[Tr.gb]at hq;split at hq
   ·cases hq
   ·rename_i e2;exact .inr ⟨e,e2,hq⟩
 refine⟨η',⟨hle,by rw[K.fH];omega,⟨?_,?_,?_⟩,⟨rfl,rfl,rfl,by simp,λb hb hF=>?_,λb r hb=>?_⟩,?_,λq hq=>hold q λe=>by rw[e]at hq;omega⟩,oJ⟩
 ·intro q o1 hq;rcases get q o1 hq with ⟨rfl,rfl⟩ | ⟨h1,h2,h3⟩
  ·exact⟨L',oJ,by rw[KI];simpa using ψ,by rw[KI];simpa[gO,ψ]using ho η' hle⟩
  ·obtain⟨M,g1,g2,g3⟩:=h.obj q o1 h3;refine⟨M,by rw[hold q h1];exact g1,by simpa using g2,?_⟩;have bC:=h.sep k q o o1 L M (λe=>h2 e.symm) hk hm h3 hL g1;rw[gO,ai bC];exact g3.mono hle
 ·intro q1 q2 o1 o2 M1 M2 bC h1 tY h2 FY DV;rcases get q1 o1 h1 with ⟨rfl,rfl⟩ | ⟨a1,a2,a3⟩
  ·rcases get q2 o2 h2 with ⟨rfl,rfl⟩ | ⟨b1,b2,b3⟩
   ·exact absurd rfl bC
   ·rw[oJ]at FY;injection FY with FY;subst FY;rw[hold q2 b1]at DV;rw[KI];exact h.sep k q2 o o2 L M2 (λe=>b2 e.symm) hk hm b3 hL DV
  ·rw[hold q1 a1]at FY;rcases get q2 o2 h2 with ⟨rfl,rfl⟩ | ⟨b1,b2,b3⟩
   ·rw[oJ]at DV;injection DV with DV;subst DV;rw[KI];exact h.sep q1 k o1 o M1 L a2 a3 tY hk FY hL
   ·rw[hold q2 b1]at DV;exact h.sep q1 q2 o1 o2 M1 M2 bC a3 tY b3 FY DV
 ·intro q hq;rw[K.fH]at hq;have:q≠n:=λe=>by rw[e]at hq;omega
  rw[hold q this];exact h.free q (by omega)
 ·rw[gO,ai];intro e;exact hF ⟨k,o,L,hk,λ_=>hm,hL,e⟩
 ·obtain⟨L0,og,_,hr⟩:=h.obj k o hk;rw[hL]at og;injection og with og;subst og;have bC:L.blk≠b:=by
   intro e;rw[e,hb]at hr;cases o with
   | lp _ _ _ _ _ _=>cases hl
   | c _ _ _=>obtain⟨_,_,h1,_⟩:=hr;cases h1
   | r _=>obtain⟨_,_,_,h1,_⟩:=hr;cases h1
   | mp _ _=>obtain⟨_,h1,_⟩:=hr;cases h1
   | mi _ _=>obtain⟨_,_,_,h1⟩:=hr;cases h1
   | me _ _ _=>obtain⟨_,_,_,_,_,h1,_⟩:=hr;cases h1
   | it _ _ _=>obtain⟨_,h1,_⟩:=hr;cases h1
   | b _ _ _=>obtain⟨_,_,_,h1,_⟩:=hr;cases h1
  exact⟨r,by show(w.heap.setIfInBounds L.blk ob)[b]?=_;rw[gO,ai bC];exact hb⟩
 ·rintro m b ⟨q,o1,M,hq,tY,hM,hb⟩;rcases get q o1 hq with ⟨rfl,rfl⟩ | ⟨a1,a2,a3⟩
  ·rw[oJ]at hM;injection hM with hM;subst hM;exact .inl ⟨k,o,L,hk,λ_=>hm,hL,by rw[←hb,KI]⟩
  ·rw[hold q a1]at hM;exact .inl ⟨q,o1,M,a3,tY,hM,hb⟩
end trans
theorem abG(cU c:Nat)(h:¬ cU<=c):Builtin.nextslicecap cU c<=2*cU+1000:=by
 unfold Builtin.nextslicecap;split
 ·omega
 ·split
  ·omega
  ·have:∀(r c:Nat),c<=2*cU+1000->Builtin.growBy cU r c<=2*cU+1000:=by
    intro r
    induction r with
    | zero=>intro c hc;exact hc
    | succ r ih=>
     intro c hc;unfold Builtin.growBy;split
     ·exact hc
     ·exact ih _ (by omega)
   exact this _ _ (by omega)
section ops
variable {P:Program}{ty:Ty}{W:Nat->Code->AC->Prop}{η:Env}{T:Tr V}{H H':Hp}{n n':K}{w:World}{tmps:Array Value}{v:V}
theorem abH(aW:dO P ty){t:TypeId}{i:TI}(hi:ty t=some i)(h:i.desc≠.other):∃d,P.underlying t=some d/\(d matches .int _)=(match i.desc with | .int _=>true | _=>false):=by have hd:=(aW.ok _ _ hi).desc;generalize i.desc=d at h hd;cases d<;>first | exact absurd rfl h | exact⟨_,hd,rfl⟩ | (obtain⟨_,h1,_⟩:=hd;exact⟨_,h1,rfl⟩) | (obtain⟨_,_,_,h1⟩:=hd;exact⟨_,h1,rfl⟩) | (obtain⟨_,h1⟩:=hd;exact⟨_,h1,rfl⟩)
theorem QW{e z bytes m:Nat}{s:V}{new:List V}(h:ra H n e z bytes s m new=some (v,H',n')):
 (s.len+m)*bytes<=1000000000/\bytes<=100000/\s.len+m<=1000000000/\((s=.ns/\m=0/\v=.ns/\H'=H/\n'=n)\/
  (s=.ns/\m≠0/\j4 H n (.c new e 0) (.su n 0 m z)=some (v,H',n'))\/
  (∃b o l c,s=.sl b o l c/\l+m<=c/\m=0/\v=s/\H'=H/\n'=n)\/
  (∃b o l c,s=.sl b o l c/\l+m<=c/\m≠0/\iP H b (o+l*z) new=some H'/\v=.sl b o (l+m) c/\n'=n)\/
  (∃b o l c ef k,s=.sl b o l c/\¬ l+m<=c/\elems H z s=some (k,ef)/\j4 H n (.c (ef++new) e 0) (.su n 0 (l+m) z)=some (v,H',n'))\/
  (∃b o l z',s=.su b o l z'/\m=0/\v=s/\H'=H/\n'=n)\/
  (∃b o l r fz ef,s=.su b o l z/\m≠0/\H.get b=some (.c r e fz)/\fz<=o+l*z/\bN new=true/\dt r o (l*z)=some ef/\j4 (H.put none b) n (.c (ef++new) e (fz - o)) (.su n 0 (l+m) z)=some (v,H',n'))):=by
 unfold ra at h;cases hb:(Nat.ble (Nat.mul (Nat.add s.len m) bytes) 1000000000&&Nat.ble bytes 100000&&Nat.ble (Nat.add s.len m) 1000000000) with
 | false=>rw[hb]at h;cases h
 | true=>
  rw[hb]at h;simp only[Bool.not_true,cond_false]at h;simp only[jV,bG,bT]at hb;refine⟨hb.1.1,hb.1.2,hb.2,?_⟩;split at h
  ·cases hm:Nat.beq m 0 with
   | true=>
    rw[hm]at h;obtain⟨rfl,rfl,rfl⟩:=eo h;exact .inl ⟨rfl,cZ hm,rfl,rfl,rfl⟩
   | false=>
    rw[hm]at h;exact .inr (.inl ⟨rfl,(λe=>by rw[e]at hm;cases hm),h⟩)
  ·rename_i b o l c;cases hl:Nat.ble (Nat.add l m) c with
   | true=>
    rw[hl]at h;have hl:l+m<=c:=nJ hl;cases hm:Nat.beq m 0 with
    | true=>
     rw[hm]at h;obtain⟨rfl,rfl,rfl⟩:=eo h;exact .inr (.inr (.inl ⟨b,o,l,c,rfl,hl,cZ hm,rfl,rfl,rfl⟩))
    | false=>
     rw[hm]at h;simp only[cond_true,cond_false]at h;split at h
     ·rename_i H1 dP;obtain⟨rfl,rfl,rfl⟩:=eo h;exact .inr (.inr (.inr (.inl ⟨b,o,l,c,rfl,hl,(λe=>by rw[e]at hm;cases hm),dP,rfl,rfl⟩)))
     ·cases h
   | false=>
    rw[hl]at h;simp only[cond_false]at h;split at h
    ·rename_i k ef he;exact .inr (.inr (.inr (.inr (.inl ⟨b,o,l,c,ef,k,rfl,λe=>by rw[jV]at hl;simp at hl;exact absurd e (by omega),he,h⟩))))
    ·cases h
  ·rename_i b o l z';cases hm:Nat.beq m 0 with
   | true=>
    rw[hm]at h;obtain⟨rfl,rfl,rfl⟩:=eo h;exact .inr (.inr (.inr (.inr (.inr (.inl ⟨b,o,l,z',rfl,cZ hm,rfl,rfl,rfl⟩)))))
   | false=>
    rw[hm]at h;simp only[cond_false]at h;split at h
    ·rename_i r e' fz fM;cases hq:(Nat.beq e e'&&Nat.beq z z'&&Nat.ble fz (Nat.add o (Nat.mul l z))&&bN new) with
     | false=>rw[hq]at h;cases h
     | true=>
      rw[hq]at h;simp only[cond_true]at h;simp only[jV,dD,bG,bT]at hq;obtain⟨⟨⟨q1,q2⟩,q3⟩,q4⟩:=hq;subst q1;subst q2;split at h
      ·rename_i ef ho;exact .inr (.inr (.inr (.inr (.inr (.inr ⟨b,o,l,r,fz,ef,rfl,(λe=>by rw[e]at hm;cases hm),fM,q3,q4,ho,h⟩)))))
      ·cases h
    ·cases h
  ·cases h
theorem abI(aW:dO P ty)(hT:br η T tmps)(hG:cM η ty.g)(hH:bM W η H n w){t u:TypeId}{i j k:TI}{x y:Operand}{s a:aJ}{e:Nat}{rt:TypeId}{ts:Array TypeId}
 (oj:ts[0]?=some t)(abJ:ts[1]?=some u)(hi:ty t=some i)(hd:i.desc=.slice e)(hj:ty u=some j)(hjd:j.desc≠.other)(hk:ty e=some k)(hx:cr ty x=some s)(hy:cr ty y=some a)
 (hs:simple (.app e k.size k.bytes k.zero (match j.desc with | .int _=>true | _=>false) s a) T H n=some (v,H',n')):
 bA P (Builtin.append_ ts rt #[ax tmps x,ax tmps y]) w λy w'=>∃η',Trans W η H n w η' H' n' w'/\aC η' v y:=by
 have dK:=(aW.ok _ _ hi).desc;rw[hd]at dK;obtain⟨ud,hud,hz⟩:=abH aW hj hjd;generalize hzz:(match j.desc with | .int _=>true | _=>false)=xE at hs hz
 simp only[simple]at hs;split at hs
 case h_2=>cases hs
 rename_i sv xv YC KE;have eR:=cS hT hG hx YC;have fQ:=cS hT hG hy KE;generalize ax tmps x=s' at eR;generalize ax tmps y=x' at fQ;obtain⟨ti,zv,h1,h2,h3,h4,h5,h6,h7,h8,h9⟩:=(aW.ok _ _ hk).info;have hm:∃m new,ra H n e k.size k.bytes sv m new=some (v,H',n')/\new.length=m*k.size/\(∀d,bA P (if (!xE)=true then Builtin.firstCells k.size m x' else if m*k.size=0 then pure #[] else do pure (Builtin.zeroCells (←zeroValue e).cells m)) { w with drawn:=d}
  λr w'=>bB η new r.toList/\w'={ w with drawn:=d})/\(xE=false->Builtin.lenOf x'=pure m)/\(xE=true->∃k',x'=.int k' (Int.ofNat m)):=by
  cases xE with
  | true=>
   simp only[cond_true]at hs;split at hs
   case h_2=>cases hs
   rename_i k' m;cases fQ;refine⟨m,_,hs,by rw[xR,h8],λd=>?_,(λh=>by cases h),λ_=>⟨_,rfl⟩⟩;simp only[Bool.not_true,zt,if_false];by_cases h0:m*k.size=0
   ·rw[az h0];refine an ⟨?_,rfl⟩;have:gu k.zero m=[]:=by rw[←nM,xR,h8,h0]
    rw[this];exact .nil
   ·rw[ai h0];refine Δ (sU (aW.ok _ _ hk) λz hz _ _ eQ=>an ⟨?_,rfl⟩);exact G1 (hz η) m _ rfl
  | false=>
   simp only[cond_false]at hs;split at hs
   case h_2=>cases hs
   rename_i m new he;obtain⟨q1,q2,q3⟩:=xV (P:=P) hH fQ he;refine⟨m,new,hs,q1,λd=>?_,λ_=>q2,λh=>by cases h⟩;simp only[Bool.not_false,if_true];have:=(xV (P:=P) (hH.drawn d) fQ he).2.2 m (Γ _);rw[pF (by omega)]at this;exact this
 obtain⟨m,new,hap,hlen,hA,sh,vW⟩:=hm;obtain⟨b1,b2,b3,ke⟩:=QW hap;have sY:∃base gx oQ,s'=.slice base gx oQ/\gx=sv.len:=by
  rcases ke with ⟨rfl,_⟩ | ⟨rfl,_⟩ | ⟨_,_,_,_,rfl,_⟩ | ⟨_,_,_,_,rfl,_⟩ | ⟨_,_,_,_,_,_,rfl,_⟩ | ⟨_,_,_,_,rfl,_⟩ | ⟨_,_,_,_,_,_,rfl,_⟩<;>
   (cases eR<;>exact⟨_,_,_,rfl,rfl⟩)
 obtain⟨base,gx,oQ,rfl,Ou⟩:=sY;unfold Builtin.append_;simp (config:={ zeta:=false}) only[oj,abJ,Bl,xq,rn];refine Δ (bS dK ?_);refine Δ (mQ (aW.ok _ _ hk) ?_);refine Δ (bS hud ?_);refine Δ (bA.mono (Φ:=λz w'=>z=xE/\w'=w) (an ⟨hz,rfl⟩) ?_);rintro z w' ⟨e1,e2⟩;rw[e2];clear e2 w';subst e1;dsimp (config:={ zeta:=false}) only
 extract_lets jp0 jp
 have i64:IntKind.i64.max=9223372036854775807:=rfl;have YB:(2:Int) ^ 48=281474976710656:=rfl;have abK:(2:Nat) ^ 48=281474976710656:=rfl
 suffices hjp:bA P (jp m) w λy w'=>∃η',Trans W η H n w η' H' n' w'/\aC η' v y by
  cases z with
  | true=>
   obtain⟨k',rfl⟩:=vW rfl;refine Δ (Δ (an (an ?_)));have e1:IntKind.i64.wrap (Int.ofNat m)=m:=wrap_i64 (sI _) (by show((m:Nat):Int)<=_;omega)
   extract_lets l j1 j2
   have hl:l=(m:Int):=e1;rw[ai (by rw[hl];omega)];show bA P (j2 ()) w _;refine Δ (xQ h1 ?_);have gG:¬ l*(ti.bytes:Int)>2 ^ 48:=by rw[hl,h3,YB,←Int.natCast_mul];have:m*k.bytes<=(sv.len+m)*k.bytes:=iw _ (by omega);omega
   rw[ai gG];refine Δ (an ?_);rw[hl];exact hjp
  | false=>
   rw[sh rfl];exact hjp
 simp (config:={ zeta:=false}) only[jp]
 extract_lets+onlyGivenNames app cU
 have hA:∀d,bA P app { w with drawn:=d} λr w'=>bB η new r.toList/\w'={ w with drawn:=d}:=hA;have hA0:bA P app w λr w'=>bB η new r.toList/\w'=w:=hA w.drawn;have oR:cU=sv.len+m:=by show gx+m=_;rw[Ou]
 clear_value app cU
 by_cases hn:cU<=oQ
 ·rw[az hn];refine Δ (hA0.mono ?_);rintro r w' ⟨hr,hw⟩;rw[hw];have oP:r.toList.length=m*k.size:=by rw[←hr.length,hlen]
  rcases ke with ⟨rfl,rfl,rfl,rfl,rfl⟩ | ⟨rfl,qz,_⟩ | ⟨b,o,l,c,rfl,KJ,rfl,rfl,rfl,rfl⟩ | ⟨b,o,l,c,rfl,KJ,qz,dP,rfl,rfl⟩ | ⟨b,o,l,c,ef,q,rfl,KJ,_⟩ | ⟨b,o,l,z',rfl,rfl,rfl,rfl,rfl⟩ | ⟨b,o,l,rr,fz,ef,rfl,qz,hb,Kq,jo,hold,om⟩
  ·cases eR;have:cU=0:=by simpa[V.len]using oR
   rw[this];exact an ⟨η,.refl hH,.ns⟩
  ·cases eR;have:cU=m:=by simpa[V.len]using oR
   omega
  ·cases eR with
   | sl _ _ _ _ L hL=>
    have h0:r.toList=[]:=by rw[←nM,oP];simp
    rw[h0];have:cU=gx:=by simpa[V.len]using oR
    rw[this];exact Δ (an (an ⟨η,.refl hH,.sl _ _ _ _ L hL⟩))
  ·cases eR with
   | sl _ _ _ _ L hL=>
    obtain⟨L',g1,g2⟩:=GZ (P:=P) hH hr dP;rw[hL]at g1;injection g1 with g1;subst g1;have ue:cU=gx+m:=by simpa[V.len]using oR
    rw[ue];simp (config:={ zeta:=false}) only[sT];rw[mM L.off];refine Δ (g2.mono ?_);intro _ w' xi;exact an ⟨η,xi,.sl _ _ _ _ L hL⟩
  ·cases eR;have:cU=gx+m:=by simpa[V.len]using oR
   omega
  ·have h0:r.toList=[]:=by rw[←nM,oP];simp
   have ue:cU=l:=by simpa[V.len]using oR
   rw[h0,ue];cases eR with
   | su _ _ _ _ L c hL q1 q2=>exact Δ (an (an ⟨η,.refl hH,.su _ _ _ _ L _ hL q1 q2⟩))
   | se _ _ _ A L hL=>exact Δ (an (an ⟨η,.refl hH,.se _ _ _ A L hL⟩))
  ·have ue:cU=l+m:=by simpa[V.len]using oR
   cases eR with
   | se _ _ _ A L hL=>omega
   | su _ _ _ _ L c hL q1 q2=>
    obtain⟨rfl,rfl,rfl⟩:=pM om;obtain⟨L',g1,g2,cs,fr,g3,g4,g5,g6,g7⟩:=hH.obj b _ hb;rw[hL]at g1;injection g1 with g1;subst g1;have ap8:o+(gx+m)*k.size<=L.room:=by have:(gx+m)*k.size<=oQ*k.size:=iw _ (by omega);omega
    have ap9:(gx+m)*k.size=gx*k.size+m*k.size:=iO ..;obtain⟨KK,aqa⟩:=oI hold;simp (config:={ zeta:=false}) only[sT];have eF:∀y∈r.toList,y.sP=true:=hr.one jo;refine Δ ((Km r.toList 0 g3 (by rw[oP];omega) (by omega) eF).mono ?_);rintro _ w2 uf;obtain⟨η',t1,t2⟩:=Trans.move (w':=w2) (L':=⟨L.blk,L.off+o,L.room - o⟩) (o':=.c (ef++new) e (fz - o)) hH hb rfl hL rfl (λη' hle=>by
     refine⟨_,fr,rfl,by rw[GW];show L.off+o+(L.room - o)=_;omega,?_,?_,?_⟩
     ·show(ef++new).length<=L.room - o;rw[gX,hlen,KK,qn,sK];omega
     ·intro i v hi;show ∃y,(mP cs (L.off+o+gx*k.size+0) r.toList)[L.off+o+i]?=some y/\aC η' v y;rw[GX _ _ _ (by rw[oP];omega)];have zO:ef.length=gx*k.size:=by rw[KK,qn,sK];omega
      by_cases Yw:i<ef.length
      ·rw[uD Yw]at hi;rw[ai (by omega)];rw[KK,List.getElem?_take]at hi;rw[az (by omega),Bs]at hi;obtain⟨y,y1,y2⟩:=g6 (o+i) v hi;exact⟨y,by rw[mM];exact y1,y2.mono hle⟩
      ·rw[xu (by omega)]at hi;obtain⟨y,y1,y2⟩:=hr.get hi;have ψ:=(nL.1 y1).1;rw[az (by omega)];exact⟨y,by rw[←y1];congr 1;omega,y2.mono hle⟩
     ·rcases g7 with g7 | g7
      ·exact .inl g7
      ·right;show fr.2<=L.off+o+(fz - o);omega) uf
    refine an ⟨η',t1,?_⟩;rw[ue];exact aC.su n 0 (gx+m) k.size _ oQ t2 (by omega) (by show 0+oQ*k.size<=L.room - o;omega)
 ·rw[ai hn];have grow:∀(H0:Hp) (ef:List V) (fz:Nat),bM W η H0 n w->Trans W η H n w η H0 n w->(∀d,bA P (Builtin.firstCells k.size gx (.slice base gx oQ)) { w with drawn:=d} λr w'=>bB η ef r.toList/\w'={ w with drawn:=d})->j4 H0 n (.c (ef++new) e fz) (.su n 0 cU k.size)=some (v,H',n')->ef.length=gx*k.size->bA P (do
   let KL←choose (.appendCap cU oQ e)
   askRoom (KL*(←typeInfo e).bytes)
   let ef←Builtin.firstCells k.size gx (.slice base gx oQ)
   let new←app
   let rest:=Builtin.zeroCells (←zeroValue e).cells (KL - cU)
   pure (Value.slice (some (←newRow e (ef++new++rest))) cU KL)) w λy w'=>∃η',Trans W η H n w η' H' n' w'/\aC η' v y:=by
   intro H0 ef fz Jq zS hold om abM;obtain⟨rfl,rfl,rfl⟩:=pM om;refine Δ (PJ (λt d _=>?_) (λh=>by cases h));generalize sZ:(Question.appendCap cU oQ e).cut t=cap;have zb:cU<=cap:=by rw[←sZ];simp only[Question.cut];omega
   refine Δ (xQ h1 (Δ (QR ?_)));refine Δ ((hold d).mono ?_);rintro r1 w1 ⟨QX,DW⟩;rw[DW];refine Δ ((hA d).mono ?_);rintro r2 w2 ⟨QY,uf⟩;rw[uf];refine Δ (sU (aW.ok _ _ hk) λz _ _ _ eQ=>?_);refine Δ (Δ (vV (an (an ?_))));have abN:(Builtin.zeroCells z.cells (cap - cU)).size=(cap - cU)*k.size:=by simp[Builtin.zeroCells,eQ]
   have s1:r1.size=gx*k.size:=by rw[←Bq,←QX.length,abM]
   have s2:r2.size=m*k.size:=by rw[←Bq,←QY.length,hlen]
   have QZ:bB η (ef++new) (r1++r2).toList:=by rw[Array.toList_append];exact QX.append QY
   obtain⟨η',k1,k2⟩:=Trans.new (room:=(r1++r2++Builtin.zeroCells z.cells (cap - cU)).size) (o:=.c (ef++new) e fz) (ob:=.cells (r1++r2++Builtin.zeroCells z.cells (cap - cU)) e) (Jq.drawn d) (λη' hle=>
    ⟨_,(0,0),rfl,by simp,by rw[zy];show(ef++new).length<=_;rw[QZ.length];simp,λi v hi=>by obtain⟨y,y1,y2⟩:=QZ.get hi;refine⟨y,?_,y2.mono hle⟩;have ψ:=(nL.1 y1).1;show(r1++r2++Builtin.zeroCells z.cells (cap - cU))[0+i]?=_;rw[hY,Array.getElem?_append_left (by simpa using ψ),←nK];exact y1,.inl U⟩)
   refine⟨η',?_,?_⟩
   ·exact(zS.drawn d).trans k1
   ·refine aC.su n 0 cU k.size _ cap k2 zb ?_;show 0+cap*k.size<=(r1++r2++Builtin.zeroCells z.cells (cap - cU)).size;rw[zy,zy,s1,s2,abN,←iO,←iO,hY];apply iw;omega
  refine Δ (xQ h1 ?_);have abO:¬ ((cU:Int)>IntKind.i64.max/\(z=true\/ti.bytes=0)):=by rw[i64];omega
  rw[ai abO];refine Δ (xQ h1 ?_);have sZ:¬ (Builtin.nextslicecap cU oQ*ti.bytes>2 ^ 48):=by
   rw[h3,abK];have g1:=abG cU oQ hn;have g2:Builtin.nextslicecap cU oQ*k.bytes<=(2*cU+1000)*k.bytes:=iw _ g1;have g3:(2*cU+1000)*k.bytes=2*((sv.len+m)*k.bytes)+1000*k.bytes:=by rw[oR,iO,iX]
   omega
  rw[ai sZ];have first:∀(ef:List V) (q:Nat) (H0:Hp) (s0:V),bM W η H0 n w->aC η s0 (.slice base gx oQ)->elems H0 k.size s0=some (q,ef)->q=gx->ef.length=gx*k.size/\∀d,bA P (Builtin.firstCells k.size gx (.slice base gx oQ)) { w with drawn:=d} λr w'=>bB η ef r.toList/\w'={ w with drawn:=d}:=by intro ef q H0 s0 Jq DX he hq;obtain⟨q1,_,_⟩:=xV (P:=P) Jq DX he;refine⟨by rw[q1,hq],λd=>?_⟩;have:=(xV (P:=P) (Jq.drawn d) DX he).2.2 gx (by omega);rw[pF (by rw[q1,hq];exact Γ _)]at this;exact this
  rcases ke with ⟨rfl,rfl,rfl,rfl,rfl⟩ | ⟨rfl,qz,om⟩ | ⟨b,o,l,c,rfl,KJ,rfl,rfl,rfl,rfl⟩ | ⟨b,o,l,c,rfl,KJ,qz,dP,rfl,rfl⟩ | ⟨b,o,l,c,ef,q,rfl,KJ,we,om⟩ | ⟨b,o,l,z',rfl,rfl,rfl,rfl,rfl⟩ | ⟨b,o,l,rr,fz,ef,rfl,qz,hb,Kq,jo,hold,om⟩
  ·cases eR;have:cU=0:=by simpa[V.len]using oR
   omega
  ·have ue:cU=m:=by simpa[V.len]using oR
   obtain⟨f1,f2⟩:=first [] 0 H .ns hH eR rfl (by cases eR;rfl)
   exact grow H [] 0 hH (.refl hH) f2 (by rw[ue];exact om) f1
  ·cases eR;have:cU=gx:=by simpa[V.len]using oR
   omega
  ·cases eR;have:cU=gx+m:=by simpa[V.len]using oR
   omega
  ·have ue:cU=l+m:=by simpa[V.len]using oR
   have hq:q=gx:=by have:=(xV (P:=P) hH eR we).2.1;have:=congrArg (λs:Sem Nat=>s.run P w) this;simpa[Builtin.lenOf,Sem.run,pure,eq_comm]using this
   obtain⟨f1,f2⟩:=first ef q H _ hH eR we hq
   exact grow H ef 0 hH (.refl hH) f2 (by rw[ue];exact om) f1
  ·have ue:cU=l:=by simpa[V.len]using oR
   cases eR<;>omega
  ·have ue:cU=l+m:=by simpa[V.len]using oR
   have we:elems H k.size (.su b o l k.size)=some (l,ef):=by
    unfold elems;have:Nat.beq k.size k.size=true:=by simp
    simp only[this,cond_true];cases h0:Nat.beq l 0 with
    | true=>
     have:=cZ h0;subst this;have abP:=(oI hold).1;have:ef=[]:=by rw[abP];simp
     rw[this];rfl
    | false=>
     have:rowAt H b=some rr:=by unfold rowAt;rw[hb];rfl
     simp only[cond_false,this];have hold:dt rr o (Nat.mul l k.size)=some ef:=hold;rw[hold]
   obtain⟨f1,f2⟩:=first ef l H _ hH eR we (by rw[Ou];rfl)
   exact grow (H.put none b) ef (fz - o) (Trans.less hH b).rep (Trans.less hH b) f2 (by rw[ue];exact om) f1
end ops
end
section
section ops
variable {P:Program}{ty:Ty}{W:Nat->Code->AC->Prop}{η:Env}{T:Tr V}{H H':Hp}{n n':K}{w:World}{tmps:Array Value}{v:V}
theorem abQ(aW:dO P ty)(hT:br η T tmps)(hG:cM η ty.g)(hH:bM W η H n w){t:TypeId}{i k:TI}{x y:Operand}{s a:aJ}{e:Nat}{rt:TypeId}{ts:Array TypeId}
 (oj:ts[0]?=some t)(hi:ty t=some i)(hd:i.desc=.slice e)(hk:ty e=some k)(hx:cr ty x=some s)(hy:cr ty y=some a)
 (hs:simple (.zD k.size s a) T H n=some (v,H',n')):
 bA P (Builtin.copy_ ts rt #[ax tmps x,ax tmps y]) w λy w'=>∃η',Trans W η H n w η' H' n' w'/\aC η' v y:=by
 have dK:=(aW.ok _ _ hi).desc;rw[hd]at dK;simp only[simple]at hs;split at hs
 case h_1=>cases hs
 case h_3=>cases hs
 rename_i dv xv DS YD KE;have eR:=cS hT hG hx YD;have fQ:=cS hT hG hy KE;generalize ax tmps x=d' at eR;generalize ax tmps y=x' at fQ;split at hs
 case h_2=>cases hs
 rename_i ld dvs lx vs CN Jo;obtain⟨q1,q2,q3⟩:=xV (P:=P) hH eR CN;obtain⟨p1,p2,p3⟩:=xV (P:=P) hH fQ Jo;generalize hm:(bif Nat.ble lx ld then lx else ld)=m at hs
 have xS:m=Nat.min lx ld:=by
  rw[←hm,jV];show _=min lx ld;by_cases h:lx<=ld
  ·rw[qo h];simp[xD h]
  ·rw[gj h];simp[Nat.min_eq_right (Nat.le_of_not_le h)]
 have tY:m<=lx:=by rw[xS];exact Nat.min_le_left ..
 have Jr:m<=ld:=by rw[xS];exact Nat.min_le_right ..
 have sY:∃base c,d'=.slice base ld c:=by
  have mV:∃base l c,d'=.slice base l c:=by
   cases eR<;>first
    | exact⟨_,_,_,rfl⟩
    | (cases CN;done)
    | (exact absurd rfl (DS _ _))
  obtain⟨base,l,c,rfl⟩:=mV;have:=congrArg (λs:Sem Nat=>s.run P w) q2;have:l=ld:=by simpa[Builtin.lenOf,Sem.run,pure]using this
  exact⟨base,c,by rw[this]⟩
 obtain⟨base,c,rfl⟩:=sY;unfold Builtin.copy_;simp (config:={ zeta:=false}) only[oj,Bl,xq,rn];refine Δ (bS dK ?_);rw[p2];refine Δ (an ?_);rw[←xS];refine Δ (mQ (aW.ok _ _ hk) ?_);refine Δ ((p3 m tY).mono ?_);rintro r w' ⟨hr,hw⟩;rw[hw];cases h0:Nat.beq m 0 with
 | true=>
  have h0:=cZ h0;subst h0;obtain⟨rfl,rfl,rfl⟩:=eo hs;have DX:r.toList=[]:=by rw[←nM,←hr.length];simp
  rw[DX];cases base with
  | none=>exact an ⟨η,.refl hH,.i _ _⟩
  | some A=>exact Δ (an (an ⟨η,.refl hH,.i _ _⟩))
 | false=>
  rw[h0]at hs;simp only[cond_false]at hs;have bC:m≠0:=λe=>by rw[e]at h0;cases h0
  have fin:∀(b:K) (o:Nat) (L:Loc) (DI:List V),base=some ⟨L.blk,L.off+o,none⟩->η b=some L->takeN (Nat.mul m k.size) vs=some DI->(match iP H b o DI with | some H=>(some (.i .i64 (Int.ofNat m),H,n):gC) | none=>none)=some (v,H',n')->bA P (do
   match base with
   | some a=>storeCells a r.toList
   | _=>pure ()
   pure (goInt m)) w λy w'=>∃η',Trans W η H n w η' H' n' w'/\aC η' v y:=by
   intro b o L DI hb hL ht dP;split at dP
   ·rename_i H1 DY;obtain⟨rfl,rfl,rfl⟩:=eo dP;obtain⟨rfl,_⟩:=GU ht;obtain⟨L',g1,g2⟩:=GZ (P:=P) hH hr DY;rw[hL]at g1;injection g1 with g1;subst g1;subst hb;refine Δ (g2.mono ?_);intro _ w' xi;exact an ⟨η,xi,.i _ _⟩
   ·cases dP
  split at hs
  ·rename_i DI b o l c' ht;cases eR with
   | sl _ _ _ _ L hL=>exact fin b o L _ rfl hL ht hs
  ·rename_i DI b o l e' ht;cases eR with
   | su _ _ _ _ L c hL _ _=>exact fin b o L _ rfl hL ht hs
   | se=>omega
  ·cases hs
theorem KM(aW:dO P ty)(hT:br η T tmps)(hG:cM η ty.g)(hH:bM W η H n w){t:TypeId}{i:TI}{x:Operand}{s:aJ}{rt:TypeId}{ts:Array TypeId}{k:Nat}
 (oj:ts[0]?=some t)(hi:ty t=some i)(hd:(k=0/\i.desc=.str)\/(k=1/\∃e,i.desc=.slice e)\/(k=2/\∃k e,i.desc=.map k e))(hx:cr ty x=some s)
 (hs:simple (.len k s) T H n=some (v,H',n')):
 bA P (Builtin.len_ ts rt #[ax tmps x]) w λy w'=>∃η',Trans W η H n w η' H' n' w'/\aC η' v y:=by
 have dK:=(aW.ok _ _ hi).desc;simp only[simple]at hs;unfold Builtin.len_;simp (config:={ zeta:=false}) only[oj,Bl,xq];cases hv:aI T s with
 | none=>rw[hv]at hs;rcases hd with ⟨rfl,hd⟩ | ⟨rfl,e,hd⟩ | ⟨rfl,k,e,hd⟩<;>cases hs
 | some u=>
  rw[hv]at hs;have hr:=cS hT hG hx hv;generalize ax tmps x=y at hr;have fin:∀m:Nat,some (V.i .i64 (Int.ofNat m),H,n)=some (v,H',n')->∃η',Trans W η H n w η' H' n' w/\aC η' v (goInt m):=λm h=>by obtain⟨rfl,rfl,rfl⟩:=eo h;exact⟨η,.refl hH,.i _ _⟩
  rcases hd with ⟨rfl,hd⟩ | ⟨rfl,e,hd⟩ | ⟨rfl,k,e,hd⟩
  ·rw[hd]at dK;refine Δ (bS dK ?_);cases u<;>try (cases hs;done)
   cases hr;exact an (by rw[uI];exact fin _ hs)
  ·rw[hd]at dK;refine Δ (bS dK ?_);cases u<;>try (cases hs;done)
   ·cases hr;exact an (fin _ hs)
   ·cases hr;exact an (fin _ hs)
   ·cases hr<;>exact an (fin _ hs)
  ·rw[hd]at dK;refine Δ (bS dK ?_);cases u<;>try (cases hs;done)
   ·cases hr;exact an (fin _ hs)
   ·rename_i b;cases hr with
    | m _ L hL=>
     simp only at hs;split at hs
     ·rename_i es c hb;obtain⟨gL,g1,g2⟩:=xW hH hb hL;refine Δ (xP g1 (by intro _ _ _ h;cases h) (an ?_));have:=g2.length;simp at this;rw[←this];exact fin _ hs
     ·cases hs
theorem abR(aW:dO P ty)(hT:br η T tmps)(hG:cM η ty.g)(hH:bM W η H n w){t:TypeId}{i:TI}{x:Operand}{s:aJ}{e:Nat}{rt:TypeId}{ts:Array TypeId}
 (oj:ts[0]?=some t)(hi:ty t=some i)(hd:i.desc=.slice e)(hx:cr ty x=some s)
 (hs:simple (.cap none s) T H n=some (v,H',n')):
 bA P (Builtin.cap_ ts rt #[ax tmps x]) w λy w'=>∃η',Trans W η H n w η' H' n' w'/\aC η' v y:=by
 have dK:=(aW.ok _ _ hi).desc;rw[hd]at dK;simp only[simple]at hs;unfold Builtin.cap_;simp (config:={ zeta:=false}) only[oj,Bl,xq];refine Δ (bS dK ?_);split at hs
 ·rename_i hv;have hr:=cS hT hG hx hv;obtain⟨rfl,rfl,rfl⟩:=eo hs;generalize ax tmps x=y at hr;cases hr;exact an ⟨η,.refl hH,.i _ _⟩
 ·rename_i hv;have hr:=cS hT hG hx hv;obtain⟨rfl,rfl,rfl⟩:=eo hs;generalize ax tmps x=y at hr;cases hr;exact an ⟨η,.refl hH,.i _ _⟩
 ·cases hs
theorem Q0{f:Value->Value->Sem Value}{mx:Bool}(hf:∀k x k' y,f (.int k x) (.int k' y)=pure (.int k (if (if mx then y>x else y<x) then y else x))){vs:List V}{xs:List Value}(h:bB η vs xs){a r:V}{a':Value}
 (ha:aC η a a')(hr:BA (Ol mx) a vs=some r):bA P (xs.foldlM f a') w λy w'=>aC η r y/\w'=w:=by
 induction vs generalizing xs a a' with
 | nil=>cases h;simp only[BA]at hr;injection hr with hr;subst hr;exact an ⟨ha,rfl⟩
 | cons b vs ih=>
  cases h with
  | cons _ b' _ xs h1 h2=>
   simp only[BA]at hr;split at hr
   case h_2=>cases hr
   rename_i a2 h3;unfold Ol at h3;split at h3
   case h_2=>cases h3
   rename_i k x k' y;injection h3 with h3;subst h3;cases ha;cases h1;rw[List.foldlM_cons,hf];refine Δ (an ?_);refine ih h2 ?_ hr;have e:(bif (bif mx then xd x y else xd y x) then y else x)=(if (if mx then y>x else y<x) then y else x):=by
    cases mx
    ·simp only[cond_false,DL,iW,bT,zt,if_false]
    ·simp only[cond_true,DL,iW,bT,if_true,gt_iff_lt]
   rw[←e];exact .i _ _
theorem Q2(hT:br η T tmps)(hG:cM η ty.g)(hH:bM W η H n w){l:List Operand}{l':List aJ}(hl:pK ty l=some l'){mx:Bool}{rt:TypeId}{ts:Array TypeId}
 (hs:simple (.mm mx l') T H n=some (v,H',n')):
 bA P ((if mx then Builtin.max_ else Builtin.min_) ts rt (l.map (ax tmps)).toArray) w λy w'=>∃η',Trans W η H n w η' H' n' w'/\aC η' v y:=by
 simp only[simple]at hs;split at hs
 case h_2=>cases hs
 rename_i a vs hv;obtain⟨h1,rfl,rfl⟩:=lG hs;have hr:=BH hT hG hl hv;generalize l.map (ax tmps)=xs at hr;cases hr with
 | cons _ a' _ xs ha hx=>
  cases mx
  ·show bA P (xs.foldlM Builtin.min2 a') w _;refine(Q0 (mx:=false) (λk x k' y=>by simp[Builtin.min2]) hx ha h1).mono ?_;rintro y w' ⟨h,rfl⟩;exact⟨η,.refl hH,h⟩
  ·show bA P (xs.foldlM Builtin.max2 a') w _;refine(Q0 (mx:=true) (λk x k' y=>by simp[Builtin.max2]) hx ha h1).mono ?_;rintro y w' ⟨h,rfl⟩;exact⟨η,.refl hH,h⟩
theorem abS(aW:dO P ty)(hT:br η T tmps)(hG:cM η ty.g)(hH:bM W η H n w){t:TypeId}{i k:TI}{x:Operand}{s:aJ}{e:Nat}{rt:TypeId}{ts:Array TypeId}
 (oj:ts[0]?=some t)(hi:ty t=some i)(hd:i.desc=.slice e)(hk:ty e=some k)(hx:cr ty x=some s)
 (hs:simple (.Ji k.zero s) T H n=some (v,H',n')):
 bA P (Builtin.clear_ ts rt #[ax tmps x]) w λy w'=>∃η',Trans W η H n w η' H' n' w'/\aC η' v y:=by
 have dK:=(aW.ok _ _ hi).desc;rw[hd]at dK;simp only[simple]at hs;unfold Builtin.clear_;simp (config:={ zeta:=false}) only[oj,Bl,xq];refine Δ (bS dK ?_);cases hv:aI T s with
 | none=>rw[hv]at hs;cases hs
 | some u=>
  rw[hv]at hs;have hr:=cS hT hG hx hv;generalize ax tmps x=y at hr;have wr:∀(b:K) (o l:Nat) (L:Loc) (c:Nat),η b=some L->l≠0->qt n (iP H b o (gu k.zero l))=some (v,H',n')->bA P (do
   storeCells ⟨L.blk,L.off+o,none⟩ (Builtin.zeroCells (←zeroValue e).cells l).toList
   pure (Value.tuple #[])) w λy w'=>∃η',Trans W η H n w η' H' n' w'/\aC η' v y:=by
   intro b o l L c hL hl dP;cases DY:iP H b o (gu k.zero l) with
   | none=>rw[DY]at dP;cases dP
   | some H1=>
    rw[DY]at dP;obtain⟨rfl,rfl,rfl⟩:=eo dP;refine Δ (sU (aW.ok _ _ hk) λz hz _ _ eQ=>?_);obtain⟨L',g1,g2⟩:=GZ (P:=P) hH (G1 (hz η) l _ rfl) DY;rw[hL]at g1;injection g1 with g1;subst g1;refine Δ (g2.mono ?_);intro _ w' xi;exact an ⟨η,xi,.u _ _ .nil⟩
  cases u<;>try (cases hs;done)
  ·obtain⟨rfl,rfl,rfl⟩:=eo hs;cases hr;exact an ⟨η,.refl hH,.u _ _ .nil⟩
  ·rename_i b o l c;simp only at hs;cases hr with
   | sl _ _ _ _ L hL=>
    cases h0:Nat.beq l 0 with
    | true=>
     rw[h0]at hs;obtain⟨rfl,rfl,rfl⟩:=eo hs;obtain rfl:=cZ h0;exact an ⟨η,.refl hH,.u _ _ .nil⟩
    | false=>
     rw[h0]at hs;cases l with
     | zero=>cases h0
     | succ l=>exact wr b o (l+1) L c hL (by omega) hs
  ·rename_i b o l e';simp only at hs;cases h0:Nat.beq l 0 with
   | true=>
    rw[h0]at hs;obtain⟨rfl,rfl,rfl⟩:=eo hs;obtain rfl:=cZ h0;cases hr<;>exact an ⟨η,.refl hH,.u _ _ .nil⟩
   | false=>
    rw[h0]at hs;cases l with
    | zero=>cases h0
    | succ l=>
     cases hr with
     | su _ _ _ _ L c hL _ _=>exact wr b o (l+1) L c hL (by omega) hs
  ·obtain⟨rfl,rfl,rfl⟩:=eo hs;cases hr;exact an ⟨η,.refl hH,.u _ _ .nil⟩
end ops
end
section
section ops
variable {P:Program}{ty:Ty}{W:Nat->Code->AC->Prop}{η:Env}{T:Tr V}{H H':Hp}{n n':K}{w:World}{tmps:Array Value}{v:V}
theorem abT(hT:br η T tmps)(hG:cM η ty.g)(hH:bM W η H n w){x:Operand}{x':aJ}(hx:cr ty x=some x'){at_:Array TypeId}{rt:TypeId}(hs:simple (.Jg x') T H n=some (v,H',n')):
 bA P (Builtin.unsafeSliceData_ at_ rt #[ax tmps x]) w λy w'=>∃η',Trans W η H n w η' H' n' w'/\aC η' v y:=by
 simp only[simple]at hs;cases hv:aI T x' with
 | none=>rw[hv]at hs;cases hs
 | some u=>
  rw[hv]at hs;have hr:=cS hT hG hx hv;generalize ax tmps x=y at hr;cases u<;>try (cases hs;done)
  ·obtain⟨rfl,rfl,rfl⟩:=eo hs;cases hr;exact an ⟨η,.refl hH,.np⟩
  ·rename_i b o l c;cases hc:Nat.beq c 0 with
   | true=>simp only[hc,cond_true]at hs;cases hs
   | false=>
    simp only[hc,cond_false]at hs;obtain⟨rfl,rfl,rfl⟩:=eo hs;cases hr with
    | sl _ _ _ _ L hL=>
     have bC:c≠0:=λe=>by rw[e]at hc;cases hc
     refine⟨.pointer (some ⟨L.blk,L.off+o,none⟩),w,?_,η,.refl hH,.p _ _ _ hL⟩;show Sem.run P (if c≠0 then _ else _) w=_
     rw[az bC];rfl
  ·rename_i b o l e;cases hc:Nat.beq l 0 with
   | true=>simp only[hc,cond_true]at hs;cases hs
   | false=>
    simp only[hc,cond_false]at hs;obtain⟨rfl,rfl,rfl⟩:=eo hs;have bC:l≠0:=λe=>by rw[e]at hc;cases hc
    cases hr with
    | su _ _ _ _ L c hL h1 h2=>
     have hnc:c≠0:=by omega
     refine⟨.pointer (some ⟨L.blk,L.off+o,none⟩),w,?_,η,.refl hH,.p _ _ _ hL⟩;show Sem.run P (if c≠0 then _ else _) w=_
     rw[az hnc];rfl
    | se=>exact absurd rfl bC
theorem abU{b:Nat}{c:Array Value}{e:TypeId}{fr:Nat×Nat}(h:w.heap[b]?=some (.cells c e fr)):∀(bs:List UInt8) (o:Nat) (acc:ByteArray),(c.toList.drop o).take bs.length=bs.map (λb=>Value.int .u8 b.toNat)->bA P (loadBytes ⟨b,o,none⟩ acc bs.length) w λr w'=>r.data.toList=acc.data.toList++bs/\w'=w:=by
 intro bs
 induction bs with
 | nil=>intro o acc _;exact an ⟨by simp,rfl⟩
 | cons x bs ih=>
  intro o acc hc;have ψ:o<c.size:=by
   rcases jR o c.size with h1 | h1
   ·exact h1
   ·rw[ql (by simpa using h1)]at hc;simp at hc
  rw[gi (by simpa using ψ)]at hc;simp only[fG,sG,ma,List.cons.injEq]at hc;obtain⟨h1,h2⟩:=hc;show bA P (do match←load ⟨b,o,none⟩ with
   | .int .u8 b'=>loadBytes (Addr.add ⟨b,o,none⟩ 1) (acc.push b'.toNat.toUInt8) bs.length
   | _=>stuck "a byte variable that holds no byte") w _
  refine Δ (Kj (v:=.int .u8 x.toNat) ?_ ?_)
  ·rw[GY h,nI ψ];have:c[o]=c.toList[o]'(by simpa using ψ):=by simp
   rw[this,h1]
  ·dsimp only;refine(ih (o+1) (acc.push (Int.toNat (x.toNat:Int)).toUInt8) h2).mono ?_;rintro r w' ⟨g1,rfl⟩;refine⟨?_,rfl⟩;rw[g1];simp
theorem abV{e:TypeId}{count off m:Nat}(hs:P.cellsOf e=1)(h:off+m<=count):liesAt P P.depth e count off e m=true:=by
 have hd:∃d,P.depth=d+1:=⟨2*(P.types.size+Made.depth)+1,rfl⟩;obtain⟨d,hd⟩:=hd;have Q3:sameLayout P P.depth e e=true:=by rw[hd];simp[sameLayout]
 have iS:Go.rowAt P (sameLayout P P.depth · e) P.depth e count off m=true:=by rw[hd]at Q3 ⊢;simp only[Go.rowAt,hs,Nat.div_one,Nat.mod_one,Q3];simp[h]
 rw[hd]at iS ⊢;simp only[liesAt];rw[hd,iS];rfl
theorem abW{t:TypeId}{ts:Array TypeId}{rt:TypeId}{A:Addr}{kk:IntKind}{m:Nat}(oj:ts[0]?=some t)(h0:m≠0)(hm:m<=9223372036854775807):
 Builtin.unsafeString_ ts rt #[.pointer (some A),.int kk (Int.ofNat m)]=
  (do
   if←variablesAt A (←elemOf t) (Int.ofNat m).toNat then do
    let s←loadBytes A .empty (Int.ofNat m).toNat
    freeze A (Int.ofNat m).toNat
    pure (.string s)
   else unsupported (.unsafePointer "String: not so many bytes at ptr")):=by
 have mR:¬ (m:Int)<0:=by omega
 have DN:IntKind.i64.max=9223372036854775807:=by decide
 have hmi:¬ (m:Int)>IntKind.i64.max:=by rw[DN];omega
 have hz:¬ (m:Int)=0:=by omega
 show(do
  let n←asInt (.int kk (m:Int))
  let some pt:=ts[0]? | stuck "unsafe.String: no argument types"
  if n<0 then runtimePanic (.error "unsafe.String: len out of range")
  if n>IntKind.i64.max then unsupported (.unsafePointer "String: a length above the largest int")
  if n=0 then pure (.string .empty)
  else if←variablesAt A (←elemOf pt) n.toNat then do
   let s←loadBytes A .empty n.toNat
   freeze A n.toNat
   pure (.string s)
  else unsupported (.unsafePointer "String: not so many bytes at ptr"):Sem Value)=_
 rw[oj];show(do
  if (m:Int)<0 then runtimePanic (.error "unsafe.String: len out of range")
  if (m:Int)>IntKind.i64.max then unsupported (.unsafePointer "String: a length above the largest int")
  if (m:Int)=0 then pure (.string .empty)
  else if←variablesAt A (←elemOf t) (m:Int).toNat then do
   let s←loadBytes A .empty (m:Int).toNat
   freeze A (m:Int).toNat
   pure (.string s)
  else unsupported (.unsafePointer "String: not so many bytes at ptr"):Sem Value)=_
 rw[ai mR,ai hmi,ai hz];rfl
theorem abX(aW:dO P ty)(hT:br η T tmps)(hG:cM η ty.g)(hH:bM W η H n w){t u:TypeId}{i k:TI}{p l:Operand}{p' l':aJ}{ts:Array TypeId}(oj:ts[0]?=some t)(hi:ty t=some i)(hd:i.desc=.ptr u)(hk:ty u=some k)(nw:k.size=1)
 (hp:cr ty p=some p')(hl:cr ty l=some l'){rt:TypeId}(hs:simple (.zC u p' l') T H n=some (v,H',n')):
 bA P (Builtin.unsafeString_ ts rt #[ax tmps p,ax tmps l]) w λy w'=>∃η',Trans W η H n w η' H' n' w'/\aC η' v y:=by
 simp only[simple]at hs;have dK:=(aW.ok _ _ hi).desc;rw[hd]at dK;have Q4:P.cellsOf u=1:=by obtain⟨ti,z,h1,h2,_⟩:=(aW.ok _ _ hk).info;simp[Program.cellsOf,h1,h2,nw]
 cases hv:aI T p' with
 | none=>rw[hv]at hs;cases hs
 | some a=>
  cases hw:aI T l' with
  | none=>rw[hv,hw]at hs;cases a<;>cases hs
  | some q=>
   rw[hv,hw]at hs;have YE:=cS hT hG hp hv;have oP:=cS hT hG hl hw;generalize ax tmps p=y at YE;generalize ax tmps l=z at oP;have empty:aC η (.s 0 0) (.string .empty):=by have:=aC.s (η:=η) 0 0 (by simp);exact this
   cases a<;>try (cases hs;done)
   ·
    cases q<;>try (cases hs;done)
    rename_i kk m;cases m with
    | negSucc=>cases hs
    | ofNat m=>
     cases m with
     | succ m=>cases hs
     | zero=>
      obtain⟨rfl,rfl,rfl⟩:=eo hs;cases YE;cases oP;unfold Builtin.unsafeString_;refine Δ (an ?_);simp only[oj];refine Δ (an ?_);exact an ⟨η,.refl hH,empty⟩
   ·
    rename_i b o;cases q<;>try (cases hs;done)
    rename_i kk m;cases m with
    | negSucc=>cases hs
    | ofNat m=>
     cases YE with
     | p _ _ L hL=>
     cases oP;cases qz:Nat.beq m 0 with
     | true=>
      simp only[qz,cond_true]at hs;obtain⟨rfl,rfl,rfl⟩:=eo hs;have:=cZ qz;subst this;unfold Builtin.unsafeString_;refine Δ (an ?_);simp only[oj];refine Δ (an ?_);exact an ⟨η,.refl hH,empty⟩
     | false=>
      have KN:m≠0:=λe=>by rw[e]at qz;cases qz
      simp only[qz,cond_false]at hs;split at hs
      case h_2=>cases hs
      rename_i r e fz hb;cases uK:(Nat.beq e u&&Nat.ble m 9223372036854775807) with
      | false=>rw[uK]at hs;cases hs
      | true=>
       rw[uK]at hs;simp only[cond_true]at hs;rw[bG]at uK;have he:=cZ uK.1;have hm:=nJ uK.2;subst he;split at hs
       case h_2=>cases hs
       rename_i vs kg;split at hs
       case h_2=>cases hs
       rename_i qq KB;obtain⟨rfl,rfl,rfl⟩:=eo hs;obtain⟨L',h1,h2,cs,fr,h3,h4,h5,h6,h7⟩:=hH.obj b _ hb;rw[hL]at h1;injection h1 with h1;subst h1;obtain⟨FU,hlen⟩:=oI kg;have ug:vs.length=m:=by rw[FU,qn,sK];omega
       have iS:Ev.rowAt H b=some r:=by simp[Ev.rowAt,hb,O.row]
       obtain⟨L2,cs2,e2,Ov,k1,k2,k3,k4⟩:=Ko hH iS kg;rw[hL]at k1;injection k1 with k1;subst k1;rw[h3]at k2;injection k2 with k2;injection k2 with k2 Js abY;subst k2;subst Js;subst abY;obtain⟨o1,o2⟩:=QI KB k4;rw[ug]at o1 o2;have iL:(cH m qq).length=m:=rG m qq;have eQ:L.off+o+m<=cs.size:=by rcases k3 with k3 | k3;exact absurd k3 KN;exact k3
       rw[abW oj KN hm];have abZ:w.shape? L.blk=some (e,cs.size):=by simp[World.shape?,h3]
       have hva:(variablesAt ⟨L.blk,L.off+o,none⟩ e (Int.ofNat m).toNat).run P w=.ok true w:=by simp only[variablesAt,program,shape,bind,Sem.bind,Sem.run,abZ,pure,Q4,Nat.div_one];rw[abV Q4 (by show L.off+o+m<=cs.size;exact eQ)]
       refine Δ (Δ (bS dK (an ?_)));refine Δ ⟨true,w,hva,?_⟩
       ·simp only[if_true];have hmt:Int.toNat (Int.ofNat m)=(cH m qq).length:=by rw[iL];rfl
        rw[hmt];refine Δ ((abU h3 (cH m qq) (L.off+o) .empty (by rw[iL];exact o1)).mono ?_);rintro s w' ⟨g1,rfl⟩;have KO:s=strOf m qq:=by
         have:s.data=(cH m qq).toArray:=by apply j9;rw[g1];simp
         show s=(⟨(cH m qq).toArray⟩:ByteArray);rw[←this]
        subst KO;have YF:w'.freeze ⟨L.blk,L.off+o,none⟩ (cH m qq).length={ w' with heap:=w'.heap.setIfInBounds L.blk (.cells cs e (if fr.1==fr.2 then (L.off+o,L.off+o+m) else (min fr.1 (L.off+o),max fr.2 (L.off+o+m))))}:=by
         unfold World.freeze;rw[iL,ai KN];congr 1;apply Array.ext
         ·simp
         ·intro j Ox qA;have hj:j<w'.heap.size:=by simpa using Ox
          rw[Array.getElem_modify,Array.getElem_setIfInBounds hj];by_cases YG:L.blk=j
          ·subst YG;rw[az rfl,az rfl];have:w'.heap[L.blk]=.cells cs e fr:=by
            rw[nI hj]at h3;injection h3
           rw[this]
          ·rw[ai YG,ai YG]
        refine⟨.string (strOf m qq),w'.freeze ⟨L.blk,L.off+o,none⟩ (cH m qq).length,rfl,?_⟩;refine⟨η,?_,.s _ _ o2⟩;refine Trans.write (o':=.c r e (bif Nat.ble fz (Nat.add o m) then Nat.add o m else fz)) (ob:=.cells cs e (if fr.1==fr.2 then (L.off+o,L.off+o+m) else (min fr.1 (L.off+o),max fr.2 (L.off+o+m)))) hH hb rfl hL ?_ YF
        refine⟨cs,_,rfl,h4,h5,h6,.inr ?_⟩;have Kq:fz<=(bif Nat.ble fz (Nat.add o m) then Nat.add o m else fz)/\o+m<=(bif Nat.ble fz (Nat.add o m) then Nat.add o m else fz):=by
         cases hq:Nat.ble fz (Nat.add o m) with
         | true=>have:=nJ hq;simp only[cond_true];exact⟨this,Γ _⟩
         | false=>
          have:¬ fz<=o+m:=λh=>by have h':Nat.ble fz (o+m)=true:=jE h;have A3:Nat.ble fz (o+m)=false:=hq;rw[h']at A3;cases A3
          simp only[cond_false];omega
        generalize (bif Nat.ble fz (Nat.add o m) then Nat.add o m else fz)=F at Kq
        by_cases YH:fr.1=fr.2
        ·rw[az (by simpa using YH)];show L.off+o+m<=L.off+F;omega
        ·rw[ai (by simpa using YH)];show max fr.2 (L.off+o+m)<=L.off+F;rcases h7 with h7 | h7
         ·exact absurd h7.symm YH
         ·omega
end ops
end
section
section ops
variable {P:Program}{ty:Ty}{W:Nat->Code->AC->Prop}{η:Env}{T:Tr V}{H H':Hp}{n n':K}{w:World}{tmps:Array Value}{v:V}
theorem ab0(aW:dO P ty)(hT:br η T tmps)(hG:cM η ty.g)(hH:bM W η H n w){t:TypeId}{x:Operand}{a:A}
 (hc:en ty (.range t x)=some a)(hs:simple a T H n=some (v,H',n')):
 fL P W η H n w (do pure (.value (←Instr.range t (ax tmps x)))) v H' n':=by
 simp only[en]at hc;split at hc
 case h_2=>cases hc
 rename_i i x' hi hx;have dK:=(aW.ok _ _ hi).desc;refine gM ?_;have new:∀{o:O} {ob:Obj},j4 H n o (.p n 0)=some (v,H',n')->(∀η',η.le η'->ic W η' o ⟨w.heap.size,0,0⟩ (some ob))->bA P (do pure (Value.pointer (some ⟨←newObj ob,0,none⟩))) w λy w'=>∃η',Trans W η H n w η' H' n' w'/\aC η' v y:=by intro o ob om ho;obtain⟨rfl,rfl,rfl⟩:=pM om;obtain⟨η',h1,h2⟩:=Trans.new hH ho;exact Δ (vV (an ⟨η',h1,aC.p (η:=η') n 0 _ h2⟩))
 split at hc
 ·rename_i hd;injection hc with hc;subst hc;rw[hd]at dK;simp only[simple]at hs;cases hv:aI T x' with
  | none=>rw[hv]at hs;cases hs
  | some u=>
   rw[hv]at hs;have hr:=cS hT hG hx hv;generalize ax tmps x=y at hr;cases u<;>try (cases hs;done)
   cases hr with
   | s _ _ hm=>
    refine Δ (bS dK (Δ (an ?_)));exact new hs λη' _=>⟨rfl,rfl,hm⟩
 ·rename_i k e hd;injection hc with hc;subst hc;rw[hd]at dK;simp only[simple]at hs;cases hv:aI T x' with
  | none=>rw[hv]at hs;cases hs
  | some u=>
   rw[hv]at hs;have hr:=cS hT hG hx hv;generalize ax tmps x=y at hr;cases u<;>try (cases hs;done)
   rename_i b;cases hr with
   | m _ L hL=>
    simp only at hs;split at hs
    ·rename_i es c hb;obtain⟨gL,g1,g2⟩:=xW hH hb hL;refine Δ (bS dK ?_);refine Δ (xP g1 (by intro _ _ _ h;cases h) (Δ (an ?_)));exact new hs λη' hle=>⟨rfl,L,hle _ _ hL,rfl⟩
    ·cases hs
 ·cases hc
theorem ab1(hT:br η T tmps)(hG:cM η ty.g)(hH:bM W η H n w){x:Operand}{b:Bool}{a:A}{rt:TypeId}
 (hc:en ty (.next x b)=some a)(hs:simple a T H n=some (v,H',n')):
 fL P W η H n w (do pure (.value (←Instr.next (ax tmps x) b rt))) v H' n':=by
 simp only[en]at hc;split at hc
 case h_2=>cases hc
 rename_i x' hx;cases b with
 | false=>cases hc
 | true=>
  simp only[cond_true]at hc;injection hc with hc;subst hc;simp only[simple]at hs;refine gM ?_;cases hv:aI T x' with
  | none=>rw[hv]at hs;cases hs
  | some u=>
   rw[hv]at hs;have hr:=cS hT hG hx hv;generalize ax tmps x=y at hr;cases u<;>try (cases hs;done)
   rename_i k o;cases o with
   | succ o=>cases hs
   | zero=>
    simp only at hs;split at hs
    case h_2=>cases hs
    rename_i l m pos hb;cases hr with
    | p _ _ L hL=>
     obtain⟨L',g1,g2,g0,g3,g4⟩:=hH.obj k _ hb;rw[hL]at g1;injection g1 with g1;subst g1;rw[g0];refine Δ (xP g3 (by intro _ _ _ h;cases h) ?_);dsimp only;rw[uI];cases hp:Nat.blt pos l with
     | false=>
      rw[hp]at hs;obtain⟨rfl,rfl,rfl⟩:=eo hs;have:¬ pos<l:=by rw[gf]at hp;simpa using hp
      rw[ai this];exact an ⟨η,.refl hH,.u _ _ (.cons _ _ _ _ (.b _) .nil)⟩
     | true=>
      rw[hp]at hs;obtain⟨rfl,rfl,rfl⟩:=eo hs;have:pos<l:=by rw[gf]at hp;simpa using hp
      rw[az this,QH g4];refine Δ (DG g3 (by intro _ _ _ h;cases h) (an ⟨η,?_,?_⟩))
      ·exact Trans.write (o':=.it _ _ _) hH hb rfl hL ⟨g0,rfl,g4⟩ rfl
      ·exact .u _ _ (.cons _ _ _ _ (.b _) (.cons _ _ _ _ (.i _ _) (.cons _ _ _ _ (.i _ _) .nil)))
theorem find_born:∀{es:List (V×V×Nat)} {l:List MapEntry},eP η es l->∀{t:Nat} {k v:V},GL t es=some (k,v)->∃e,l.find? (·.born==t)=some e/\aC η k e.key/\aC η v e.val
 | [],[],_,t,k,v,h=>by cases h
 | (k1,v1,b1)::es,e::l,⟨h1,h2,h3,h4⟩,t,k,v,h=>by
  simp only[GL]at h;rw[List.find?_cons];cases hb:Nat.beq b1 t with
  | true=>
   rw[hb]at h;simp only[cond_true]at h;injection h with h;injection h with q1 q2;subst q1;subst q2;have:(e.born==t)=true:=by rw[h3];simpa using cZ hb
   rw[this];exact⟨e,rfl,h1,h2⟩
  | false=>
   rw[hb]at h;have:(e.born==t)=false:=by rw[h3,Bool.eq_false_iff];intro hq;rw[beq_iff_eq]at hq;subst hq;simp at hb
   rw[this];exact find_born h4 h
 | [],_::_,h,_,_,_,_=>h.elim
 | _::_,[],h,_,_,_,_=>h.elim
theorem ab2(hT:br η T tmps)(hG:cM η ty.g)(hH:bM W η H n w){x:Operand}{a:A}
 (hc:en ty (.entry x)=some a)(hs:simple a T H n=some (v,H',n')):
 fL P W η H n w (do pure (.value (←Instr.entry (ax tmps x)))) v H' n':=by
 simp only[en]at hc;split at hc
 case h_2=>cases hc
 rename_i x' hx;injection hc with hc;subst hc;simp only[simple]at hs;refine gM ?_;cases hv:aI T x' with
 | none=>rw[hv]at hs;cases hs
 | some u=>
  rw[hv]at hs;have hr:=cS hT hG hx hv;generalize ax tmps x=y at hr;cases u<;>try (cases hs;done)
  rename_i k o;cases o with
  | succ o=>cases hs
  | zero=>
   simp only at hs;split at hs
   case h_2=>cases hs
   rename_i m c t hb;split at hs
   case h_2=>cases hs
   rename_i es c' hm;cases tZ:Nat.beq c c' with
   | false=>rw[tZ]at hs;cases hs
   | true=>
    rw[tZ]at hs;simp only[cond_true]at hs;split at hs
    case h_2=>cases hs
    rename_i kk vv hf;obtain⟨rfl,rfl,rfl⟩:=eo hs;obtain rfl:=cZ tZ;cases hr with
    | p _ _ L hL=>
     obtain⟨L',g1,g2,g0,Lm,since,seen,g3,g4,g5⟩:=hH.obj k _ hb;rw[hL]at g1;injection g1 with g1;subst g1;obtain⟨gL,q1,q2⟩:=xW hH hm g3;rw[g0];obtain⟨e,p1,p2,p3⟩:=find_born q2 hf;refine Δ (xP g4 (by intro _ _ _ h;cases h) ?_);dsimp only;rw[g5];refine Δ (xP q1 (by intro _ _ _ h;cases h) ?_);dsimp only;rw[ai (by simp)];have:gL.find? (·.born==t)=some e:=by rw[←Array.find?_toList];exact p1
     rw[this];exact an ⟨η,.refl hH,.u _ _ (.cons _ _ _ _ p2 (.cons _ _ _ _ p3 .nil))⟩
theorem ab3(aW:dO P ty)(hT:br η T tmps)(hG:cM η ty.g)(hH:bM W η H n w){c:Call}{b:Builtin}(hb:c.callee=.builtin b){rt:TypeId}{a:A}
 (hc:sO ty c=some a)(hs:simple a T H n=some (v,H',n'))(cs:Array Bool):
 fL P W η H n w (builtin b c.argTypes rt cs (c.args.map (ax tmps))) v H' n':=by
 obtain⟨callee,⟨args⟩,⟨argTypes⟩⟩:=c;simp only at hb;subst hb;rw[show(Array.map (ax tmps) ⟨args⟩)=(args.map (ax tmps)).toArray by simp];simp only[sO]at hc;split at hc
 ·rename_i s x t u tl;split at hc
  case h_2=>cases hc
  rename_i i j s' x' hi hj sj oN;split at hc
  ·cases hc
  ·rename_i jd e hd jn;split at hc
   ·rename_i k hk;injection hc with hc;subst hc;exact gM (abI aW hT hG hH rfl rfl hi (by simpa using hd) hj (by simpa using jn) hk sj oN hs)
   ·cases hc
  ·cases hc
 ·rename_i x t tl;split at hc
  case h_2=>cases hc
  rename_i i x' hi oN;split at hc
  case h_2=>cases hc
  injection hc with hc;subst hc;exact gM (abT hT hG hH oN hs)
 ·rename_i p l t tl;split at hc
  case h_2=>cases hc
  rename_i i p' l' hi KP re;split at hc
  case h_2=>cases hc
  rename_i u hd;split at hc
  case h_2=>cases hc
  rename_i _ _ hk;injection hc with hc;subst hc;exact gM (abX aW hT hG hH (ts:=(t::tl).toArray) U hi (by simpa using hd) hk rfl KP re hs)
 ·rename_i d x t tl;split at hc
  case h_2=>cases hc
  rename_i i d' x' hi CL oN;split at hc
  case h_2=>cases hc
  rename_i e hd;split at hc
  case h_2=>cases hc
  rename_i k hk;injection hc with hc;subst hc;exact gM (abQ aW hT hG hH rfl hi hd hk CL oN hs)
 ·rename_i x t tl;split at hc
  case h_2=>cases hc
  rename_i i x' hi oN;have dK:=(aW.ok _ _ hi).desc;split at hc
  ·rename_i m e hd;injection hc with hc;subst hc;rw[hd]at dK;obtain⟨rfl,rfl,rfl⟩:=eo (a:=.i .i64 (Int.ofNat m)) (b:=H) (c:=n) hs;refine gM ?_;exact Δ (bS dK (an ⟨η,.refl hH,.i _ _⟩))
  ·rename_i e hd;rw[hd]at dK;split at hc
   ·rename_i m e2 _ _ _ hk;injection hc with hc;subst hc;have KQ:=(aW.ok _ _ hk).desc;obtain⟨rfl,rfl,rfl⟩:=eo (a:=.i .i64 (Int.ofNat m)) (b:=H) (c:=n) hs;refine gM ?_;exact Δ (bS dK (Δ (bS KQ (an ⟨η,.refl hH,.i _ _⟩))))
   ·cases hc
  ·rename_i hd;injection hc with hc;subst hc;exact gM (KM aW hT hG hH rfl hi (.inl ⟨rfl,hd⟩) oN hs)
  ·rename_i e hd;injection hc with hc;subst hc;exact gM (KM aW hT hG hH rfl hi (.inr (.inl ⟨rfl,e,hd⟩)) oN hs)
  ·rename_i k e hd;injection hc with hc;subst hc;exact gM (KM aW hT hG hH rfl hi (.inr (.inr ⟨rfl,k,e,hd⟩)) oN hs)
  ·cases hc
 ·rename_i x t tl;split at hc
  case h_2=>cases hc
  rename_i i x' hi oN;split at hc
  case h_2=>cases hc
  rename_i e hd;injection hc with hc;subst hc;exact gM (abR aW hT hG hH rfl hi hd oN hs)
 ·rename_i m k t tl;split at hc
  case h_2=>cases hc
  rename_i i m' k' hi Kx gD;split at hc
  case h_2=>cases hc
  rename_i kt e hd;split at hc
  case h_2=>cases hc
  rename_i q hq;injection hc with hc;subst hc;exact gM (abF aW hT hG hH rfl hi hd Kx gD hq hs)
 ·skip
  split at hc
  case h_2=>cases hc
  rename_i l' hl;injection hc with hc;subst hc;have:=Q2 (mx:=true) (rt:=rt) (ts:=⟨argTypes⟩) (P:=P) (w:=w) hT hG hH hl hs;exact gM (by simpa using this)
 ·skip
  split at hc
  case h_2=>cases hc
  rename_i l' hl;injection hc with hc;subst hc;have:=Q2 (mx:=false) (rt:=rt) (ts:=⟨argTypes⟩) (P:=P) (w:=w) hT hG hH hl hs;exact gM (by simpa using this)
 ·rename_i x t tl;split at hc
  case h_2=>cases hc
  rename_i i x' hi oN;split at hc
  case h_2=>cases hc
  rename_i e hd;split at hc
  case h_2=>cases hc
  rename_i k hk;injection hc with hc;subst hc;exact gM (abS aW hT hG hH rfl hi hd hk oN hs)
 ·cases hc
theorem ab4(aW:dO P ty)(hT:br η T tmps)(hG:cM η ty.g)(hH:bM W η H n w){o:Oper}{a:A}(hc:en ty o.op=some a)
 (hs:simple a T H n=some (v,H',n')):fL P W η H n w (execOp (ax tmps) o) v H' n':=by
 obtain⟨dst,op,rt,pos,after,gd⟩:=o;simp only at hc;cases op with
 | move x=>
  have tc:=hc;simp only[en]at hc;split at hc
  ·rename_i x' hx;injection hc with hc;subst hc;exact PU hT hG hH hx hs
  ·cases hc
 | assign x=>
  have tc:=hc;simp only[en]at hc;split at hc
  ·rename_i x' hx;injection hc with hc;subst hc;exact PU hT hG hH hx hs
  ·cases hc
 | pick c x y=>exact aao hT hG hH hc hs
 | alloc e=>exact aah aW hH hc hs
 | box e x=>exact aai hT hG hH hc hs
 | build t ps=>exact aan aW hT hG hH hc hs
 | buildSlice t l ps=>exact aap aW hT hG hH hc hs
 | load t x=>exact aaf aW hT hG hH hc hs
 | store t x y=>exact aag aW hT hG hH hc hs
 | nilCheck x=>exact aaq hT hG hH hc hs _ rfl
 | binOp op t x y u=>exact abb aW hT hG hH hc hs
 | unOp op t x=>exact abc hT hG hH hc hs
 | convert s d x=>exact abk aW hT hG hH hc hs
 | makeInterface t x=>exact aar aW hT hG hH hc hs
 | makeFunc f x c=>exact aas hT hG hH hc hs
 | makeMap t r=>exact aat aW hH hc hs
 | makeSlice t l c=>exact abm aW hT hG hH hc hs
 | slice t x lo hi mx=>exact abq aW hT hG hH hc hs
 | fieldAddr s x f=>exact aau aW hT hG hH hc hs
 | field s x f=>exact aav aW hT hG hH hc hs
 | indexAddr t x i=>exact aaw aW hT hG hH hc hs
 | index t x i=>exact aay aW hT hG hH hc hs
 | lookup t x i ok=>exact abA aW hT hG hH hc hs
 | mapUpdate t m k x=>exact QV aW hT hG hH hc hs
 | insert t m k x=>exact QV aW hT hG hH hc hs
 | range t x=>exact ab0 aW hT hG hH hc hs
 | next x s=>exact ab1 hT hG hH hc hs
 | entry x=>exact ab2 hT hG hH hc hs
 | typeAssert x xt t ok=>exact aaA aW hT hG hH hc hs
 | extract x i=>exact aaz hT hG hH hc hs
 | call c=>
  have hc:sO ty c=some a:=hc;cases tZ:c.callee with
  | value f=>
   simp only[sO,tZ]at hc;split at hc
   ·injection hc with hc;subst hc;cases hs
   ·cases hc
  | invoke r m=>simp only[sO,tZ]at hc;cases hc
  | builtin b=>
   have:=ab3 (rt:=rt) (w:=w) (P:=P) aW hT hG hH tZ hc hs (c.args.map fun | .const _=>true | _=>false);show fL P W η H n w (do let d←resolve (ax tmps) c rt;Go.invoke d.target d.args) v H' n';unfold resolve;simp only[tZ];exact this
 | panic x=>
  simp only[en]at hc;split at hc
  ·injection hc with hc;subst hc;cases hs
  ·cases hc
 | _=>cases hc
end ops
end
end Go.Ev
