/- A part of the proof. -/
import Derived.Lib.DecodeN
import Derived.Lib.Builder
import Derived.Test.YtapmaobjhilnfaaGreatDoorA
set_option linter.all false
namespace Go.Ev
open Go
section
section ops
variable {P:Program}{ty:Ty}{W:Nat->Code->AC->Prop}{η:Env}{T:Tr V}{H H':Hp}{n n':K}{w:World}{tmps:Array Value}{v:V}
def Km(P:Program)(t:TypeId):EK->Prop
 | .bool=>P.underlying t=some .bool
 | .int=>∃k,P.underlying t=some (.int k)
 | .str=>P.underlying t=some .string
 | .ptr=>∃e i,P.underlying t=some (.pointer e)/\wH P e i/\i.size≠0
 | .slice=>∃e,P.underlying t=some (.slice e)
 | .map=>∃k e,P.underlying t=some (.map k e)
 | .func=>∃a b c,P.underlying t=some (.func a b c)
 | .iface=>∃ms,P.underlying t=some (.interface ms)
theorem Qg{l m l' m':Nat}(h:m<256 ^ l)(h':m'<256 ^ l'):(strOf l m==strOf l' m')=(Nat.beq l l'&&Nat.beq m m'):=by
 rw[←PE h h'];show((strOf l m).data==(strOf l' m').data)=_;rw[sG];simp only[beq_iff_eq,strOf];constructor
 ·intro e;have:=congrArg Array.toList e;simpa using this
 ·intro e;rw[e]
theorem BS{t:TypeId}{q:EK}(hq:Km P t q){x y:V}{x' y':Value}(hx:al η x x')(hy:al η y y'){r:Bool}(h:da q x y=some r)(k:Nat):
 aZ P (Op.equalIn (k+1) t x' y') w λb w'=>b=r/\w'=w:=by
 unfold da at h;split at h
 ·cases hx;cases hy;injection h with h;subst h;exact ψ (br hq (aa ⟨rfl,rfl⟩))
 ·cases hx;cases hy;rename_i k1 a k2 b;cases hb:Nat.beq (kn k1) (kn k2) with
  | false=>rw[hb]at h;cases h
  | true=>
   rw[hb]at h;injection h with h;subst h;have e:=Ha hb;obtain⟨kk,hu⟩:=hq;refine ψ (br hu ?_);simp only[e,if_true];exact aa ⟨(BR _ _).symm,rfl⟩
 ·cases hx with
  | s _ _ h1=>cases hy with
   | s _ _ h2=>
    injection h with h;subst h;exact ψ (br hq (aa ⟨Qg h1 h2,rfl⟩))
 ·cases hx;cases hy;injection h with h;subst h;obtain⟨e,i,hu,_⟩:=hq;exact ψ (br hu (aa ⟨rfl,rfl⟩))
 ·cases hx;cases hy;injection h with h;subst h;obtain⟨e,i,hu,_⟩:=hq;exact ψ (br hu (aa ⟨rfl,rfl⟩))
 ·cases hx;cases hy;injection h with h;subst h;obtain⟨e,i,hu,_⟩:=hq;exact ψ (br hu (aa ⟨rfl,rfl⟩))
 ·rename_i b o b' o';cases hb:K.beq b b' with
  | false=>rw[hb]at h;cases h
  | true=>
   rw[hb]at h;injection h with h;subst h;have e:=K.beq_eq hb;subst e;cases hx with
   | p _ _ L hL=>cases hy with
    | p _ _ L' iZ=>
     rw[hL]at iZ;injection iZ with iZ;subst iZ;obtain⟨e,i,hu,hi,aR⟩:=hq;refine ψ (br hu ?_);refine ψ (mH hi ?_);simp only[ne_eq,aR,not_false_eq_true,if_true];unfold sameAddr;simp only[beq_self_eq_true,if_true];refine aa ⟨?_,rfl⟩;rw[sG];simp only[beq_iff_eq,Addr.mk.injEq,true_and,and_true,Nat.beq_eq];omega
 ·cases hx;cases hy;injection h with h;subst h;obtain⟨e,hu⟩:=hq;exact ψ (br hu (aa ⟨rfl,rfl⟩))
 ·cases hx;cases hy;injection h with h;subst h;obtain⟨e,hu⟩:=hq;exact ψ (br hu (aa ⟨rfl,rfl⟩))
 ·cases hx;injection h with h;subst h;obtain⟨e,hu⟩:=hq;cases hy<;>exact ψ (br hu (aa ⟨rfl,rfl⟩))
 ·cases hx;cases hy;injection h with h;subst h;obtain⟨e,hu⟩:=hq;exact ψ (br hu (aa ⟨rfl,rfl⟩))
 ·cases hy;injection h with h;subst h;obtain⟨e,hu⟩:=hq;cases hx<;>exact ψ (br hu (aa ⟨rfl,rfl⟩))
 ·cases hx;cases hy;injection h with h;subst h;obtain⟨e,f,hu⟩:=hq;exact ψ (br hu (aa ⟨rfl,rfl⟩))
 ·cases hx;cases hy;injection h with h;subst h;obtain⟨e,f,hu⟩:=hq;exact ψ (br hu (aa ⟨rfl,rfl⟩))
 ·cases hx;cases hy;injection h with h;subst h;obtain⟨e,f,hu⟩:=hq;exact ψ (br hu (aa ⟨rfl,rfl⟩))
 ·cases hx;cases hy;injection h with h;subst h;obtain⟨a,b,c,hu⟩:=hq;exact ψ (br hu (aa ⟨rfl,rfl⟩))
 ·cases hx;cases hy;injection h with h;subst h;obtain⟨a,b,c,hu⟩:=hq;exact ψ (br hu (aa ⟨rfl,rfl⟩))
 ·cases hx;cases hy;injection h with h;subst h;obtain⟨a,b,c,hu⟩:=hq;exact ψ (br hu (aa ⟨rfl,rfl⟩))
 ·cases hx;cases hy;injection h with h;subst h;obtain⟨ms,hu⟩:=hq;exact ψ (br hu (aa ⟨rfl,rfl⟩))
 ·cases hx;cases hy;injection h with h;subst h;obtain⟨ms,hu⟩:=hq;exact ψ (br hu (aa ⟨rfl,rfl⟩))
 ·cases hx;cases hy;injection h with h;subst h;obtain⟨ms,hu⟩:=hq;exact ψ (br hu (aa ⟨rfl,rfl⟩))
 ·cases h
theorem zS(aI:dI P ty){t:TypeId}{i:TI}(hi:ty t=some i){q:EK}(h:i.desc.key=some q):Km P t q/\i.desc.agg=false:=by
 have hd:=(aI.ok _ _ hi).desc;obtain⟨d,sz,by_,z⟩:=i;cases d<;>simp only[TD.key]at h<;>first | (cases h;done) | (injection h with h;subst h)
 ·exact⟨hd,rfl⟩
 ·exact⟨⟨_,hd⟩,rfl⟩
 ·exact⟨hd,rfl⟩
theorem BT(aI:dI P ty){t:TypeId}{i:TI}(hi:ty t=some i)(hg:i.desc.agg=false){l:List V}{cs:Array Value}(hl:bc η l cs.toList){o:Nat}{v:V}(h:nth l o=some v):
 aZ P (part t cs o) w λy w'=>al η v y/\w'=w:=
 Kf (aI.ok _ _ hi) hl (by rw[hg];exact h)
theorem D3{α β:Type}{x:Sem α}{f:α->Sem β}{Φ:β->World->Prop}(h:aZ P (x >>=f) w Φ):aZ P x w λa w'=>aZ P (f a) w' Φ:=by
 obtain⟨b,xp,h1,h2⟩:=h;have nj:(Sem.bind x f).run P w=.ok b xp:=h1;rw[Sem.run_bind']at nj;cases hx:x.run P w with
 | ok a w'=>rw[hx]at nj;exact⟨a,w',hx,b,xp,nj,h2⟩
 | halt e w'=>rw[hx]at nj;cases nj
theorem aaA(aI:dI P ty){xs ys:List V}{cx cy:Array Value}(hx:bc η xs cx.toList)(hy:bc η ys cy.toList)(k:Nat){fs:List Field}(hn:∀f∈fs,f.name ≠ "_")
 {l:List (Nat×EK)}(hl:flat ty (fs.map λf=>(f.type,f.offset))=some l){r:Bool}(h:CW xs ys l=some r):
 aZ P (do
  for f in fs do
   if f.name ≠ "_" then
    if !(←Op.equalIn (k+1) f.type (←part f.type cx f.offset) (←part f.type cy f.offset)) then return false
  pure true) w λb w'=>b=r/\w'=w:=by
 induction fs generalizing l with
 | nil=>
  simp only[List.map_nil,flat]at hl;injection hl with hl;subst hl;simp only[CW]at h;injection h with h;subst h;exact ψ (aa (aa ⟨rfl,rfl⟩))
 | cons f fs ih=>
  simp only[lP,flat]at hl;split at hl
  case h_2=>cases hl
  rename_i i hi;split at hl
  case h_2=>cases hl
  rename_i q l' hq qT;injection hl with hl;subst hl;simp only[CW]at h;split at h
  case h_2=>cases h
  rename_i x y h1 h2;obtain⟨zT,zU⟩:=zS aI hi hq;have aR:=hn f (by simp);rw[List.forIn_cons];simp only[ne_eq,aR,not_false_eq_true,if_true];refine ψ (ψ (ψ ((BT aI hi zU hx h1).mono ?_)));rintro x' w' ⟨jV,rfl⟩;refine ψ ((BT aI hi zU hy h2).mono ?_);rintro y' w' ⟨Ba,rfl⟩;refine ψ ?_;cases hv:da q x y with
  | none=>rw[hv]at h;cases h
  | some b=>
   rw[hv]at h;refine(BS zT jV Ba hv k).mono ?_;rintro b' w' ⟨rfl,rfl⟩;cases b' with
   | false=>
    injection h with h;subst h;exact aa (aa (aa ⟨rfl,rfl⟩))
   | true=>
    refine aa ?_;exact D3 (ih (λf hf=>hn f (by simp[hf])) qT h)
theorem aaB(aI:dI P ty){e:TypeId}{i:TI}(hi:ty e=some i){q:EK}(hq:i.desc.key=some q){xs ys:List V}{cx cy:Array Value}(hx:bc η xs cx.toList)(hy:bc η ys cy.toList)(k:Nat)
 {fs:List Nat}{r:Bool}(h:CW xs ys (fs.map λi=>(i,q))=some r):
 aZ P (do
  for j in fs do
   if !(←Op.equalIn (k+1) e (←part e cx (j*1)) (←part e cy (j*1))) then return false
  pure true) w λb w'=>b=r/\w'=w:=by
 obtain⟨zT,zU⟩:=zS aI hi hq
 induction fs with
 | nil=>
  simp only[List.map_nil,CW]at h;injection h with h;subst h;exact ψ (aa (aa ⟨rfl,rfl⟩))
 | cons f fs ih=>
  simp only[lP,CW]at h;split at h
  case h_2=>cases h
  rename_i x y h1 h2;rw[List.forIn_cons];refine ψ (ψ (ψ ((BT aI hi zU hx (by rw[lQ];exact h1)).mono ?_)));rintro x' w' ⟨jV,rfl⟩;refine ψ ((BT aI hi zU hy (by rw[lQ];exact h2)).mono ?_);rintro y' w' ⟨Ba,rfl⟩;refine ψ ?_;cases hv:da q x y with
  | none=>rw[hv]at h;cases h
  | some b=>
   rw[hv]at h;refine(BS zT jV Ba hv k).mono ?_;rintro b' w' ⟨rfl,rfl⟩;cases b' with
   | false=>
    injection h with h;subst h;exact aa (aa (aa ⟨rfl,rfl⟩))
   | true=>
    refine aa ?_;exact D3 (ih h)
theorem Qh(aI:dI P ty){t:TypeId}{i:TI}(hi:ty t=some i){q:EK}(h:i.desc.key=some q):i.size=1:=by
 obtain⟨_,zU⟩:=zS aI hi h;obtain⟨ti,z,_,_,_,_,h5,_,h7,h8,_⟩:=(aI.ok _ _ hi).info;have hz:=h7 zU;have hc:z.cells=#[z]:=by cases z<;>first | rfl | (simp[Value.sL]at hz)
 have:=(wI (λ_=>none) h5).length;rw[hc]at this;rw[←h8,this];rfl
theorem Hh(aI:dI P ty){t:TypeId}{q:ey}(hq:lU ty t=some q){x y:V}{x' y':Value}(hx:al η x x')(hy:al η y y'){r:Bool}(h:mw q x y=some r):
 aZ P (Op.equal t x' y') w λb w'=>b=r/\w'=w:=by
 unfold lU at hq;split at hq
 case h_2=>cases hq
 rename_i i hi;have hd:=(aI.ok _ _ hi).desc;split at hq
 ·rename_i fs plain oz;cases plain with
  | false=>cases hq
  | true=>
   simp only[cond_true]at hq;split at hq
   case h_2=>cases hq
   rename_i l hl;injection hq with hq;subst hq;rw[oz]at hd;obtain⟨sf,hu,wJ,_,tN⟩:=hd;obtain⟨p1,p2,_⟩:=tN rfl;simp only[mw]at h;split at h
   case h_2=>cases h
   rename_i xs ys;cases hx with
   | a _ cx hx=>cases hy with
    | a _ cy hy=>
     refine ψ (br hu ?_);refine ψ (DQ ?_);simp only[p2,mC,if_false];rw[←Array.forIn_toList];exact aaA (cx:=⟨cx⟩) (cy:=⟨cy⟩) aI hx hy 9998 (λf hf=>p1 f (by simpa using hf)) (by rw[←wJ];exact hl) h
 ·rename_i m e oz;rw[oz]at hd;split at hq
  case h_2=>cases hq
  rename_i j hj;split at hq
  case h_2=>cases hq
  rename_i q' gU;injection hq with hq;subst hq;simp only[mw]at h;split at h
  case h_2=>cases h
  rename_i xs ys;cases hx with
  | a _ cx hx=>cases hy with
   | a _ cy hy=>
    refine ψ (br hd ?_);refine ψ (mH (aI.ok _ _ hj) ?_);rw[Qh aI hj gU];have:=aaB (w:=w) (fs:=List.range m) (cx:=⟨cx⟩) (cy:=⟨cy⟩) aI hj gU hx hy 9998 h;simp only[Std.Legacy.Range.forIn_eq_forIn_range',Std.Legacy.Range.size];simpa[xL]using this
 ·rename_i d h1 h2;split at hq
  case h_2=>cases hq
  rename_i q' gU;injection hq with hq;subst hq;exact BS (zS aI hi gU).1 hx hy h 9999
end ops
end
section
section ops
variable {P:Program}{ty:Ty}{W:Nat->Code->AC->Prop}{η:Env}{T:Tr V}{H H':Hp}{n n':K}{w:World}{tmps:Array Value}{v:V}
def isConst:Operand->Bool
 | .const _=>true
 | _=>false
theorem Kn{α:Type}{c:Prop}[Decidable c]{s s':Sem α}{Φ:α->World->Prop}(hc:c)(h:aZ P s w Φ):aZ P (if c then s else s') w Φ:=by rw[au hc];exact h
theorem Qi(aI:dI P ty){t:TypeId}{a b:Operand}{q:ey}(hq:I9 ty t a b=some q){x y:V}{x' y':Value}(hx:al η x x')(hy:al η y y'){r:Bool}(h:mw q x y=some r):
 aZ P (Op.equal t x' y') w λb w'=>b=r/\w'=w:=by
 unfold I9 at hq;split at hq
 case h_2=>cases hq
 rename_i i hi;have hd:=(aI.ok _ _ hi).desc;split at hq
 ·exact Hh aI hq hx hy h
 ·exact Hh aI hq hx hy h
 ·rename_i oz;rw[oz]at hd;cases hb:(xX a||xX b) with
  | false=>rw[hb]at hq;cases hq
  | true=>
   rw[hb]at hq;injection hq with hq;subst hq;exact BS (q:=.iface) hd hx hy h 9999
 ·rename_i e oz;rw[oz]at hd;split at hq
  case h_2=>cases hq
  rename_i j hj;cases hb:Nat.beq j.size 0 with
  | true=>rw[hb]at hq;cases hq
  | false=>
   rw[hb]at hq;injection hq with hq;subst hq;exact BS (q:=.ptr) ⟨e,j,hd,aI.ok _ _ hj,λe0=>by rw[e0]at hb;cases hb⟩ hx hy h 9999
 ·rename_i d h1 h2 h3 h4;split at hq
  case h_2=>cases hq
  rename_i q' gU;injection hq with hq;subst hq;have:Km P t q':=by
   generalize i.desc=d at*;cases d<;>simp only[TD.ek]at gU<;>first | (cases gU;done) | (injection gU with gU;subst gU)
   ·exact hd
   ·exact⟨_,hd⟩
   ·exact hd
   ·exact absurd rfl (h4 _)
   ·exact⟨_,hd⟩
   ·exact⟨_,_,hd⟩
   ·exact hd
  exact BS this hx hy h 9999
theorem BU(aI:dI P ty){op:BinOp}{t:TypeId}{a b:Operand}{q:ey}(hq:isEq op=true->I9 ty t a b=some q){x y:V}{x' y':Value}(hx:al η x x')(hy:al η y y')
 (hv:isEq op=true->(∃r,mw q x y=some r)\/(∃k n k' n',x=.i k n/\y=.i k' n')\/∃l n l' n',x=.s l n/\y=.s l' n'){Φ:Unit->World->Prop}(h:Φ () w):aZ P (eqGuard op t a b x' y') w Φ:=by
 unfold eqGuard;cases he:isEq op with
 | false=>cases op<;>first | (cases he;done) | exact aa h
 | true=>
  have hq:=hq he;have eW:op=.eql\/op=.neq:=by cases op<;>first | exact .inl U | exact .inr U | cases he
  suffices hG:aZ P (match x',y' with
   | .nilIface,.nilIface=>do
    if (a matches .const _)||(b matches .const _) then return
    if←Op.eqGuardIn Op.maxDepth t x' y' then unsupported (.noEntry "binop/eql: two nil values of an interface type with methods, neither of them the literal nil")
   | .agg _,.agg _=>do
    if !(←program).eqGuardType (←program).depth t then return
    if←Op.eqGuardIn Op.maxDepth t x' y' then unsupported (.noEntry "binop/eql: two nil values of an interface type with methods, in a part of a struct or an array")
   | _,_=>pure ()) w Φ by
   rcases eW with rfl | rfl<;>exact hG
  rcases hv he with ⟨r,hr⟩ | ⟨k,m,k',m',rfl,rfl⟩ | ⟨l,m,l',m',rfl,rfl⟩
  ·unfold I9 at hq;split at hq
   case h_2=>cases hq
   rename_i i hi;have hd:=(aI.ok _ _ hi).desc;have pass:(∀c c',¬ (x'=.agg c/\y'=.agg c'))->¬ (x'=.nilIface/\y'=.nilIface)->aZ P (match x',y' with
    | .nilIface,.nilIface=>do
     if (a matches .const _)||(b matches .const _) then return
     if←Op.eqGuardIn Op.maxDepth t x' y' then unsupported (.noEntry "binop/eql: two nil values of an interface type with methods, neither of them the literal nil")
    | .agg _,.agg _=>do
     if !(←program).eqGuardType (←program).depth t then return
     if←Op.eqGuardIn Op.maxDepth t x' y' then unsupported (.noEntry "binop/eql: two nil values of an interface type with methods, in a part of a struct or an array")
    | _,_=>pure ()) w Φ:=by
    intro h1 h2;split
    ·exact absurd ⟨rfl,rfl⟩ h2
    ·exact absurd ⟨rfl,rfl⟩ (h1 _ _)
    ·exact aa h
   have Qj:P.eqGuardType P.depth t=false->∀c c',x'=.agg c->y'=.agg c'->aZ P (match x',y' with
    | .nilIface,.nilIface=>do
     if (a matches .const _)||(b matches .const _) then return
     if←Op.eqGuardIn Op.maxDepth t x' y' then unsupported (.noEntry "binop/eql: two nil values of an interface type with methods, neither of them the literal nil")
    | .agg _,.agg _=>do
     if !(←program).eqGuardType (←program).depth t then return
     if←Op.eqGuardIn Op.maxDepth t x' y' then unsupported (.noEntry "binop/eql: two nil values of an interface type with methods, in a part of a struct or an array")
    | _,_=>pure ()) w Φ:=by
    rintro hg c c' rfl rfl;refine ψ (DQ (ψ (DQ ?_)));simp only[hg,Bool.not_false,if_true];exact aa h
   have one:∀q',q=.one q'->q'≠.iface->aZ P (match x',y' with
    | .nilIface,.nilIface=>do
     if (a matches .const _)||(b matches .const _) then return
     if←Op.eqGuardIn Op.maxDepth t x' y' then unsupported (.noEntry "binop/eql: two nil values of an interface type with methods, neither of them the literal nil")
    | .agg _,.agg _=>do
     if !(←program).eqGuardType (←program).depth t then return
     if←Op.eqGuardIn Op.maxDepth t x' y' then unsupported (.noEntry "binop/eql: two nil values of an interface type with methods, in a part of a struct or an array")
    | _,_=>pure ()) w Φ:=by
    rintro q' rfl aR;refine pass ?_ ?_
    ·rintro c c' ⟨rfl,rfl⟩;simp only[mw]at hr;cases hx<;>cases hy<;>cases q'<;>simp[da]at hr
    ·rintro⟨rfl,rfl⟩;simp only[mw]at hr;cases hx<;>cases hy<;>cases q'<;>first | exact aR rfl | (simp[da]at hr)
   split at hq
   ·rename_i fs plain oz;rw[oz]at hd;unfold lU at hq;simp only[hi,oz]at hq;cases plain with
    | false=>cases hq
    | true=>
     simp only[cond_true]at hq;split at hq
     case h_2=>cases hq
     injection hq with hq;subst hq;obtain⟨sf,_,_,_,tN⟩:=hd;simp only[mw]at hr;split at hr
     case h_2=>cases hr
     cases hx with
     | a _ cx _=>cases hy with
      | a _ cy _=>exact Qj (tN rfl).2.2 _ _ rfl rfl
   ·rename_i m e oz;rw[oz]at hd;unfold lU at hq;simp only[hi,oz]at hq;split at hq
    case h_2=>cases hq
    rename_i j hj;split at hq
    case h_2=>cases hq
    rename_i q' gU;injection hq with hq;subst hq;simp only[mw]at hr;split at hr
    case h_2=>cases hr
    cases hx with
    | a _ cx _=>cases hy with
     | a _ cy _=>
      refine Qj ?_ _ _ rfl rfl;obtain⟨d,aaC⟩:∃d,P.depth=d+1+1:=⟨2*(P.types.size+Made.depth),rfl⟩;rw[aaC];obtain⟨zT,_⟩:=zS aI hj gU;have qg:P.eqGuardType (d+1) e=false:=by
       unfold Go.Program.eqGuardType;cases q' with
       | bool=>rw[show P.underlying e=_ from zT]
       | int=>obtain⟨k,hk⟩:=zT;rw[hk]
       | str=>rw[show P.underlying e=_ from zT]
       | ptr=>obtain⟨_,_,hk,_⟩:=zT;rw[hk]
       | slice=>obtain⟨_,hk⟩:=zT;rw[hk]
       | map=>obtain⟨_,_,hk⟩:=zT;rw[hk]
       | func=>obtain⟨_,_,_,hk⟩:=zT;rw[hk]
       | iface=>
        exfalso;generalize j.desc=jd at gU;cases jd<;>simp[TD.key]at gU
      unfold Go.Program.eqGuardType;rw[show P.underlying t=_ from hd];exact qg
   ·rename_i oz;cases hb:(xX a||xX b) with
    | false=>rw[hb]at hq;cases hq
    | true=>
     rw[hb]at hq;injection hq with hq;subst hq;have aaD:(isConst a||isConst b)=true:=by
      rw[qa]at hb ⊢;rcases hb with hb | hb
      ·left;unfold xX at hb;split at hb<;>first | rfl | cases hb
      ·right;unfold xX at hb;split at hb<;>first | rfl | cases hb
     simp only[mw]at hr;cases hx<;>cases hy<;>first | (simp[da]at hr;done) | exact aa h | exact Kn aaD (aa h)
   ·rename_i e oz;split at hq
    case h_2=>cases hq
    rename_i j hj;cases hb:Nat.beq j.size 0 with
    | true=>rw[hb]at hq;cases hq
    | false=>
     rw[hb]at hq;injection hq with hq;subst hq;exact one .ptr U (λe=>by cases e)
   ·rename_i d h1 h2 h3 h4;split at hq
    case h_2=>cases hq
    rename_i q' gU;injection hq with hq;subst hq;refine one q' rfl ?_;rintro rfl;generalize i.desc=d at gU;cases d<;>simp[TD.ek]at gU
  ·cases hx;cases hy;exact aa h
  ·cases hx;cases hy;exact aa h
theorem Qk{t:TypeId}{x y:V}{x' y':Value}(hx:al η x x')(hy:al η y y'){q:ey}{r:Bool}(h:mw q x y=some r)
 (h1:∀k m k' m',¬ (x=.i k m/\y=.i k' m'))(h2:∀l m l' m',¬ (x=.s l m/\y=.s l' m')):
 binOp .eql t x' y'=(do pure (.bool (←Op.equal t x' y')))/\binOp .neq t x' y'=(do pure (.bool (!(←Op.equal t x' y')))):=by
 cases q with
 | agg l=>
  simp only[mw]at h;split at h
  case h_2=>cases h
  cases hx;cases hy;exact⟨rfl,rfl⟩
 | one q=>
  simp only[mw]at h;unfold da at h;split at h
  case h_22=>cases h
  case h_2=>exact absurd ⟨rfl,rfl⟩ (h1 _ _ _ _)
  case h_3=>exact absurd ⟨rfl,rfl⟩ (h2 _ _ _ _)
  all_goals (cases hx<;>cases hy<;>exact⟨rfl,rfl⟩)
theorem aaE(aI:dI P ty)(hT:aW η T tmps)(hG:ch η ty.g)(hH:bk W η H n w){op:BinOp}{t u:TypeId}{x y:Operand}{a:A}(hc:dZ ty (.binOp op t x y u)=some a)
 (hs:simple a T H n=some (v,H',n')):fw P W η H n w (do pure (.value (←(do eqGuard op t x y (ai tmps x) (ai tmps y);binOp op t (ai tmps x) (ai tmps y))))) v H' n':=by
 simp only[dZ]at hc;split at hc
 case h_2=>cases hc
 rename_i x1 y1 qh F8;obtain⟨q,rfl,hq⟩:∃q,a=.bin op q x1 y1/\(isEq op=true->I9 ty t x y=some q):=by
  cases he:isEq op with
  | false=>rw[he]at hc;injection hc with hc;exact⟨_,hc.symm,λe=>by cases e⟩
  | true=>
   rw[he]at hc;simp only[cond_true]at hc;split at hc
   case h_2=>cases hc
   rename_i q hq;injection hc with hc;exact⟨q,hc.symm,λ_=>hq⟩
 simp only[simple]at hs;split at hs
 case h_2=>cases hs
 rename_i xv yv Ko hyv;obtain⟨hb,rfl,rfl⟩:=lf hs;have rx:=cw hT hG qh Ko;have ry:=cw hT hG F8 hyv;generalize ai tmps x=x' at rx;generalize ai tmps y=y' at ry;refine gz (uB.ok hH ?_);unfold pk at hb;split at hb
 ·rename_i k m yk m';refine ψ (BU (q:=q) aI hq rx ry (λe=>by cases e) ?_);cases rx;cases ry;show uB P w η (Op.shift .shl k m yk m') v;exact PD hb
 ·rename_i k m yk m';refine ψ (BU (q:=q) aI hq rx ry (λe=>by cases e) ?_);cases rx;cases ry;show uB P w η (Op.shift .shr k m yk m') v;exact PD hb
 ·rename_i k m k' m' dS iL;refine ψ (BU (q:=q) aI hq rx ry (λ_=>.inr (.inl ⟨_,_,_,_,rfl,rfl⟩)) ?_);cases hk:Nat.beq (kn k) (kn k') with
  | false=>rw[hk]at hb;cases hb
  | true=>
   rw[hk]at hb;have e:=Ha hk;subst e;cases rx;cases ry;have eW:op≠.shl/\op≠.shr:=⟨λe=>dS e,λe=>iL e⟩;have:=PC (P:=P) (w:=w) (η:=η) hb eW;have eq:binOp op t (.int k m) (.int k m')=DW op k m m':=by cases op<;>first | exact absurd rfl eW.1 | exact absurd rfl eW.2 | (simp[binOp,DW])
   rw[eq];exact this
 ·rename_i l m l' m';refine ψ (BU (q:=q) aI hq rx ry (λ_=>.inr (.inr ⟨_,_,_,_,rfl,rfl⟩)) ?_);cases rx with
  | s _ _ h1=>cases ry with
   | s _ _ h2=>
    have:=Z7 (P:=P) (w:=w) (η:=η) h1 h2 hb;have eq:binOp op t (.string (strOf l m)) (.string (strOf l' m'))=Op.stringOp op (strOf l m) (strOf l' m'):=by cases op<;>rfl
    rw[eq];exact this
 ·rename_i n1 n2;split at hb
  case h_2=>cases hb
  rename_i r hr;injection hb with hb;subst hb;refine ψ (BU (q:=q) aI hq rx ry (λ_=>.inl ⟨r,hr⟩) ?_);obtain⟨e1,_⟩:=Qk (t:=t) rx ry hr (λk m k' m' h=>n1 _ _ _ _ h.1 h.2) (λl m l' m' h=>n2 _ _ _ _ h.1 h.2);rw[e1];refine ψ ((Qi aI (hq rfl) rx ry hr).mono ?_);rintro b w' ⟨rfl,rfl⟩;exact jt (.b _)
 ·rename_i n1 n2;split at hb
  case h_2=>cases hb
  rename_i r hr;injection hb with hb;subst hb;refine ψ (BU (q:=q) aI hq rx ry (λ_=>.inl ⟨r,hr⟩) ?_);obtain⟨_,e1⟩:=Qk (t:=t) rx ry hr (λk m k' m' h=>n1 _ _ _ _ h.1 h.2) (λl m l' m' h=>n2 _ _ _ _ h.1 h.2);rw[e1];refine ψ ((Qi aI (hq rfl) rx ry hr).mono ?_);rintro b w' ⟨rfl,rfl⟩;exact jt (.b _)
 ·cases hb
theorem aaF(hT:aW η T tmps)(hG:ch η ty.g)(hH:bk W η H n w){op:UnOp}{t:TypeId}{x:Operand}{a:A}(hc:dZ ty (.unOp op t x)=some a)
 (hs:simple a T H n=some (v,H',n')):fw P W η H n w (do pure (.value (←Op.unary op (ai tmps x)))) v H' n':=by
 simp only[dZ]at hc;split at hc
 case h_2=>cases hc
 rename_i x' hx;injection hc with hc;subst hc;simp only[simple]at hs;split at hs
 case h_2=>cases hs
 rename_i u hu;obtain⟨hb,rfl,rfl⟩:=lf hs;have rx:=cw hT hG hx hu;generalize ai tmps x=y at rx;refine gz (uB.ok hH ?_);unfold JW at hb;split at hb
 ·injection hb with hb;subst hb;cases rx;rw[sQ];exact jt (.i _ _)
 ·injection hb with hb;subst hb;cases rx;exact jt (.b _)
 ·cases rx;exact PC (op:=.xor) hb ⟨λe=>(by cases e),λe=>(by cases e)⟩
 ·cases hb
end ops
end
section
section ops
variable {P:Program}{ty:Ty}{W:Nat->Code->AC->Prop}{η:Env}{T:Tr V}{H H':Hp}{n n':K}{w:World}{tmps:Array Value}{v:V}
theorem aaG(l m i:Nat)(hm:m<256 ^ l):((strOf l m).get! i).toNat=m / 256 ^ i % 256:=by
 have e:(strOf l m).get! i=(bU l m).toArray[i]!:=rfl;rw[e];by_cases h:i<l
 ·have hb:=Pk l m i h;rw[getElem!_pos _ _ (by simpa[rz]using h)];have:(bU l m).toArray[i]'(by simpa[rz]using h)=UInt8.ofNat (m / 256 ^ i % 256):=by
   rw[fO (by rw[rz];exact h)]at hb;simpa using hb
  rw[this];simp
 ·rw[getElem!_neg _ _ (by simpa[rz]using h)];have:m / 256 ^ i=0:=Nat.div_eq_of_lt (fk hm (zA (by omega) (by omega)));rw[this];rfl
theorem fJ(a b:Nat):Nat.blt a b=decide (a<b):=by rw[sG];simp[Nat.blt];omega
theorem jF(a b:Nat):Nat.ble a b=decide (a<=b):=by rw[sG];simp
theorem dD(a b:Nat):Nat.beq a b=decide (a=b):=by rw[sG];simp[Nat.beq_eq]
theorem aaH(l n:Nat):rune l n=Lib.decodeN l (n % 256) (n / 256 % 256) (n / 65536 % 256) (n / 16777216 % 256):=by have hw:∀c:Nat,(65536<=c/\(c<55296\/(57344<=c/\c<=1114111)))=(65536<=c/\c<=1114111):=λc=>propext ⟨λh=>by omega,λh=>by omega⟩;have hd:∀a b:Nat,Nat.div a b=a / b:=λ_ _=>rfl;have hm:∀a b:Nat,Nat.mod a b=a % b:=λ_ _=>rfl;simp only[rune,Lib.decodeN,iD,fJ,jF,dD,bh,qa,bA,ge_iff_le,and_assoc,hw,hd,hm]
theorem Ql{l m i:Nat}(hm:m<256 ^ l):Utf8.decode (strOf l m) i=rune (l - i) (m / 256 ^ i):=by
 have g:∀k,((strOf l m).get! (i+k)).toNat=m / 256 ^ i / 256 ^ k % 256:=λk=>by rw[aaG _ _ _ hm,Nat.pow_add,Dx]
 have g0:=g 0;rw[Lib.decode_at,aaH,g 1,g 2,g 3,uz];simp only[Nat.pow_zero,Nat.div_one,kF]at g0;rw[g0,Nat.pow_one,show 256 ^ 2=65536 from rfl,show 256 ^ 3=16777216 from rfl]
theorem aaI(η:Env)(l m:Nat):bc η (BF l m) ((bU l m).map λb=>Value.int .u8 b.toNat):=by
 induction l generalizing m with
 | zero=>exact .nil
 | succ l ih=>
  simp only[BF,bU,lP];refine .cons _ _ _ _ ?_ (ih _);have:(UInt8.ofNat (m % 256)).toNat=m % 256:=by simp
  rw[this];exact .i _ _
theorem aaJ(l m:Nat):(BF l m).length=l:=by
 induction l generalizing m with
 | zero=>rfl
 | succ l ih=>simp[BF,ih]
theorem yi(hH:bk W η H n w){z l:Nat}{x:V}{y:Value}{vs:List V}(hx:al η x y)(h:elems H z x=some (l,vs)):
 vs.length=l*z/\Builtin.lenOf y=pure l/\∀m,m<=l->aZ P (Builtin.firstCells z m y) w λr w'=>bc η (vs.take (m*z)) r.toList/\w'=w:=by
 have row:∀(b:K) (o:Nat) (L:Loc) (c:Nat),η b=some L->(match rowAt H b with
  | some r=>match db r o (Nat.mul l z) with | some vs=>some (l,vs) | none=>none
  | none=>none)=some (l,vs)->vs.length=l*z/\∀m,m<=l->aZ P (Builtin.firstCells z m (.slice (some ⟨L.blk,L.off+o,none⟩) l c)) w λr w'=>bc η (vs.take (m*z)) r.toList/\w'=w:=by
  intro b o L c hL h;split at h
  ·rename_i r hr;split at h
   ·rename_i DT hv;injection h with h;injection h with _ h;subst h;obtain⟨rfl,hn⟩:=ow hv;have hn:o+l*z<=r.length:=hn;have hlen:((r.drop o).take (Nat.mul l z)).length=l*z:=by
     rw[ri,uv];show min (l*z) _=_;omega
    refine⟨hlen,λm hm=>?_⟩;have hmz:m*z<=l*z:=gX z hm;have nW:db r o (m*z)=some ((r.drop o).take (m*z)):=by
     cases e:db r o (m*z) with
     | some q=>rw[(ow e).1]
     | none=>
      exfalso;have hd:∀(k:Nat) (q:List V),k<=q.length->pj k q=some (q.drop k):=by
       intro k
       induction k with
       | zero=>intro q _;rfl
       | succ k ih=>intro q hq;cases q with | nil=>simp at hq | cons a q=>simp only[pj,DB];exact ih q (by simpa using hq)
      have ht:∀(k:Nat) (q:List V),k<=q.length->takeN k q=some (q.take k):=by
       intro k
       induction k with
       | zero=>intro q _;rfl
       | succ k ih=>intro q hq;cases q with | nil=>simp at hq | cons a q=>simp only[takeN,ih q (by simpa using hq),sD]
      unfold db at e;rw[hd o r (by omega)]at e;simp only at e;rw[ht (m*z) (r.drop o) (by rw[uv];omega)]at e;cases e
    have aaK:((r.drop o).take (Nat.mul l z)).take (m*z)=(r.drop o).take (m*z):=by rw[List.take_take];congr 1;show min (m*z) (l*z)=_;omega
    rw[aaK];obtain⟨L',cs,e,fr,h1,h2,h3,h4⟩:=Ka hH hr nW;rw[hL]at h1;injection h1 with h1;subst h1;show aZ P (loadCells _ (m*z)) w _;rcases h3 with h3 | h3
    ·rw[h3];exact aa ⟨.nil,rfl⟩
    ·refine(Pq h2 (m*z) h3).mono ?_;rintro r' w' ⟨rfl,rfl⟩;exact⟨h4,rfl⟩
   ·cases h
  ·cases h
 unfold elems at h;split at h
 ·injection h with h;injection h with h1 h2;subst h1;subst h2;cases hx;exact⟨by simp,rfl,λm _=>aa ⟨by simpa using bc.nil,rfl⟩⟩
 ·rename_i b o l' c;cases hx with
  | sl _ _ _ _ L hL=>
   have hl:l'=l:=by
    split at h
    ·split at h
     ·injection h with h;injection h
     ·cases h
    ·cases h
   subst hl;obtain⟨h1,h2⟩:=row b o L c hL h;exact⟨h1,rfl,h2⟩
 ·rename_i b o l' e;cases he:Nat.beq e z with
  | false=>rw[he]at h;cases h
  | true=>
   rw[he]at h;simp only[cond_true]at h;cases h0:Nat.beq l' 0 with
   | true=>
    rw[h0]at h;simp only[cond_true]at h;injection h with h;injection h with h1 h2;subst h1;subst h2;have:l'=0:=cL h0;subst this;refine⟨by simp,by cases hx<;>rfl,λm hm=>?_⟩;have:m=0:=by omega
    subst this;cases hx<;>(simp only[Builtin.firstCells,Nat.zero_mul];exact aa ⟨.nil,rfl⟩)
   | false=>
    rw[h0]at h;simp only[cond_false]at h;have hl:l'=l:=by
     split at h
     ·split at h
      ·injection h with h;injection h
      ·cases h
     ·cases h
    subst hl;cases hx with
    | su _ _ _ _ L c hL _ _=>
     obtain⟨h1,h2⟩:=row b o L c hL h;exact⟨h1,rfl,h2⟩
    | se=>cases h0
 ·rename_i l' m;cases hz:Nat.beq z 1 with
  | false=>rw[hz]at h;cases h
  | true=>
   rw[hz]at h;simp only[cond_true]at h;injection h with h;injection h with h1 h2;subst h1;subst h2;have:z=1:=cL hz;subst this;cases hx with
   | s _ _ hm=>
    refine⟨by rw[aaJ];simp,?_,λk hk=>?_⟩
    ·show(pure (strOf l' m).size:Sem Nat)=_;rw[uz]
    ·refine aa ⟨?_,rfl⟩;rw[lQ];have e:(((strOf l' m).extract 0 k).data.map λb=>Value.int .u8 b.toNat).toList=((bU l' m).map λb=>Value.int .u8 b.toNat).take k:=by
      simp[strOf,ByteArray.extract,ByteArray.copySlice,List.map_take]
     rw[e];exact(aaI η l' m).sub 0 k
 ·cases h
end ops
end
section
section ops
variable {P:Program}{ty:Ty}{W:Nat->Code->AC->Prop}{η:Env}{T:Tr V}{H H':Hp}{n n':K}{w:World}{tmps:Array Value}{v:V}
theorem aaL(l:List Value)(s:ByteArray){bs:List UInt8}(h:l=bs.map λb=>Value.int .u8 b.toNat):
 aZ P (forIn l s (λc s=>do
  let .int .u8 n:=c | stuck "bytesToString: byte expected"
  pure (ForInStep.yield (s.push (UInt8.ofNat n.toNat))))) w λr w'=>r.data.toList=s.data.toList++bs/\w'=w:=by
 induction bs generalizing l s with
 | nil=>subst h;exact aa ⟨by simp,rfl⟩
 | cons b bs ih=>
  subst h;rw[lP,List.forIn_cons];refine ψ (aa ?_);have e:(UInt8.ofNat (Int.ofNat b.toNat).toNat)=b:=by simp
  refine aZ.mono (s:=forIn _ (s.push (UInt8.ofNat (Int.ofNat b.toNat).toNat)) _) (ih _ _ rfl) ?_;rintro r w' ⟨h1,rfl⟩;refine⟨?_,rfl⟩;rw[h1,e];simp
theorem Qm{l:List V}{m:Nat}(h:ofBytes l=some m){l':List Value}(hl:bc η l l'):l'=(bU l.length m).map (λb=>Value.int .u8 b.toNat)/\m<256 ^ l.length:=by
 induction l generalizing m l' with
 | nil=>simp only[ofBytes]at h;injection h with h;subst h;cases hl;exact⟨rfl,by simp⟩
 | cons a l ih=>
  unfold ofBytes at h;split at h
  ·rename_i he;cases he
  ·rename_i b l1 he;injection he with wL yZ;subst wL;subst yZ;split at h
   ·rename_i n hn;cases hb:Nat.blt b 256 with
    | false=>rw[hb]at h;cases h
    | true=>
     rw[hb]at h;simp only[cond_true]at h;injection h with h;subst h;have ω:b<256:=by rw[fJ]at hb;simpa using hb
     cases hl with
     | cons _ v' _ l' h1 h2=>
      cases h1;obtain⟨e1,e2⟩:=ih hn h2;have q1:Nat.add b (Nat.mul 256 n) % 256=b:=by show(b+256*n) % 256=b;omega
      have q2:Nat.add b (Nat.mul 256 n) / 256=n:=by show(b+256*n) / 256=n;omega
      refine⟨?_,?_⟩
      ·rw[fH,bU,lP,q1,q2,←e1];congr 1;have:(UInt8.ofNat b).toNat=b:=by simp;omega
       rw[this];rfl
      ·rw[fH,gI];show b+256*n<_;omega
   ·cases h
  ·cases h
theorem aaM(η:Env){l m:Nat}(hm:m<256 ^ l)(f i:Nat)(acc:Array Value):
 ∃xs,(Conv.runesFrom (strOf l m) f i acc).toList=acc.toList++xs/\bc η (wD f (l - i) (m / 256 ^ i)) xs:=by
 induction f generalizing i acc with
 | zero=>exact⟨[],by simp[Conv.runesFrom],.nil⟩
 | succ f ih=>
  unfold Conv.runesFrom wD;rw[uz];by_cases h:i<l
  ·rw[au h];have:Nat.beq (l - i) 0=false:=by cases hb:Nat.beq (l - i) 0 with | false=>rfl | true=>have:=cL hb;omega
   rw[this];simp only[cond_false];rw[Ql hm];generalize hr:rune (l - i) (m / 256 ^ i)=r;obtain⟨xs,h1,h2⟩:=ih (i+r.2) (acc.push (.int .i32 (Int.ofNat r.1)));refine⟨.int .i32 (Int.ofNat r.1)::xs,by simp only[h1];simp,.cons _ _ _ _ (.i _ _) ?_⟩;have e1:Nat.sub (l - i) r.2=l - (i+r.2):=by show l - i - r.2=_;omega
   have e2:Nat.div (m / 256 ^ i) (Nat.pow 256 r.2)=m / 256 ^ (i+r.2):=by show m / 256 ^ i / 256 ^ r.2=_;rw[Dx,Nat.pow_add]
   rw[e1,e2];exact h2
  ·rw[Ξ h];have:l - i=0:=by omega
   rw[this];exact⟨[],by simp,.nil⟩
theorem Qn{k:IntKind}{x:V}{r:V×Hp×K}(h:qR H n (.toInt k) x=some r):∃k' m,x=.i k' m/\r=(.i k (wr k m),H,n):=by cases x<;>first | (cases h;done) | (injection h with h;exact⟨_,_,rfl,h.symm⟩)
theorem Qo{x:V}{r:V×Hp×K}(h:qR H n .same x=some r):∃l m,x=.s l m/\r=(.s l m,H,n):=by cases x<;>first | (cases h;done) | (injection h with h;exact⟨_,_,rfl,h.symm⟩)
theorem Qp{x:V}{r:V×Hp×K}(h:qR H n .zE x=some r):(∀l m,x≠.s l m)/\∃l vs m,elems H 1 x=some (l,vs)/\ofBytes vs=some m/\r=(.s l m,H,n):=by
 unfold qR at h;split at h<;>first | (rename_i he;cases he;done) | (rename_i he _;cases he;done) | (cases h;done) | skip
 rename_i hx;refine⟨λl m e=>hx l m e,?_⟩;split at h
 ·rename_i l vs he;split at h
  ·rename_i m hm;injection h with h;exact⟨l,vs,m,he,hm,h.symm⟩
  ·cases h
 ·cases h
theorem Qq{e:Nat}{x:V}{r:V×Hp×K}(h:qR H n (.JO e) x=some r):∃l m,x=.s l m/\kp H n (.c (wD l l m) e 0) (.su n 0 (wD l l m).length 1)=some r:=by cases x<;>first | (cases h;done) | exact⟨_,_,rfl,h⟩
theorem Qr{x:V}{r:V×Hp×K}(h:qR H n .zF x=some r):∃k m,x=.i k (.ofNat m)/\sH m=true/\r=(.s (pn m) (sI m),H,n):=by
 unfold qR at h;split at h<;>first | (rename_i he;cases he;done) | (rename_i he _;cases he;done) | (cases h;done) | skip
 rename_i k m _;cases hb:sH m with
 | false=>rw[hb]at h;cases h
 | true=>
  rw[hb]at h;simp only[cond_true]at h;injection h with h;exact⟨k,m,rfl,hb,h.symm⟩
theorem dg(a X:Nat)(ha:a<256):(a+256*X) % 256=a % 256/\(a+256*X) / 256=X:=⟨by omega,by omega⟩
theorem Kq{m:Nat}(h:sH m=true):Utf8.encode (Int.ofNat m)=strOf (pn m) (sI m)/\sI m<256 ^ pn m:=by
 simp only[sH,fJ,jF,qa,bh,bA]at h;have hv:Utf8.valid (m:Int)=true:=by simp only[Utf8.valid,qa,bh,bA];omega
 have u8:∀{a b:Nat},a % 256=b % 256->UInt8.ofNat a=UInt8.ofNat b:=λh=>by apply UInt8.toNat.inj;simpa using h
 unfold Utf8.encode pn sI;simp only[hv,if_true,Int.ofNat_eq_natCast,Int.toNat_natCast,fJ];by_cases h1:m<128
 ·simp only[h1,if_true,decide_true,cond_true];refine⟨?_,by omega⟩;simp only[strOf,bU];rw[show UInt8.ofNat (m % 256)=UInt8.ofNat m from u8 (by omega)]
 ·simp only[h1,if_false,decide_false,cond_false];by_cases h2:m<2048
  ·simp only[h2,if_true,decide_true,cond_true];refine⟨?_,by omega⟩;obtain⟨e1,e2⟩:=dg (192+m / 64) (128+m % 64) (by omega);simp only[strOf,bU,e1,e2];rw[u8 (a:=(192+m / 64) % 256) (b:=0xC0+m / 64) (by omega),u8 (a:=(128+m % 64) % 256) (b:=0x80+m % 64) (by omega)]
  ·simp only[h2,if_false,decide_false,cond_false];by_cases h3:m<65536
   ·simp only[h3,if_true,decide_true,cond_true];refine⟨?_,by omega⟩;obtain⟨e1,e2⟩:=dg (224+m / 4096) (128+m / 64 % 64+256*(128+m % 64)) (by omega);obtain⟨e3,e4⟩:=dg (128+m / 64 % 64) (128+m % 64) (by omega);simp only[strOf,bU,e1,e2,e3,e4];rw[u8 (a:=(224+m / 4096) % 256) (b:=0xE0+m / 4096) (by omega),u8 (a:=(128+m / 64 % 64) % 256) (b:=0x80+m / 64 % 64) (by omega),u8 (a:=(128+m % 64) % 256) (b:=0x80+m % 64) (by omega)]
   ·simp only[h3,if_false,decide_false,cond_false];refine⟨?_,by omega⟩;obtain⟨e1,e2⟩:=dg (240+m / 262144) (128+m / 4096 % 64+256*(128+m / 64 % 64+256*(128+m % 64))) (by omega);obtain⟨e3,e4⟩:=dg (128+m / 4096 % 64) (128+m / 64 % 64+256*(128+m % 64)) (by omega);obtain⟨e5,e6⟩:=dg (128+m / 64 % 64) (128+m % 64) (by omega);simp only[strOf,bU,e1,e2,e3,e4,e5,e6];rw[u8 (a:=(240+m / 262144) % 256) (b:=0xF0+m / 262144) (by omega),u8 (a:=(128+m / 4096 % 64) % 256) (b:=0x80+m / 4096 % 64) (by omega),u8 (a:=(128+m / 64 % 64) % 256) (b:=0x80+m / 64 % 64) (by omega),u8 (a:=(128+m % 64) % 256) (b:=0x80+m % 64) (by omega)]
theorem Qs{x:V}{r:V×Hp×K}(h:qR H n .IY x=some r):(x=.np/\r=(.np,H,n))\/∃b p q e,x=.p b 0/\H.get b=some (.b p q e)/\r=(.p b 0,H,n):=by
 unfold qR at h;split at h<;>first | (rename_i he;cases he;done) | (rename_i he _;cases he;done) | (cases h;done) | skip
 ·injection h with h;exact .inl ⟨rfl,h.symm⟩
 ·rename_i b _;split at h
  ·rename_i p q e hb;injection h with h;exact .inr ⟨b,p,q,e,rfl,hb,h.symm⟩
  ·cases h
theorem Qt{u:Nat}{x:V}{r:V×Hp×K}(h:qR H n (.IZ u) x=some r):(x=.np/\r=(.np,H,n))\/∃b p q,x=.p b 0/\H.get b=some (.b p q u)/\r=(.p b 0,H,n):=by
 unfold qR at h;split at h<;>first | (rename_i he;cases he;done) | (rename_i he _;cases he;done) | (cases h;done) | skip
 ·injection h with h;exact .inl ⟨rfl,h.symm⟩
 ·rename_i u' b he;injection he with he;subst he;split at h
  ·rename_i p q e hb;cases hq:Nat.beq e u with
   | false=>rw[hq]at h;cases h
   | true=>
    rw[hq]at h;injection h with h;have:=cL hq;subst this;exact .inr ⟨b,p,q,rfl,hb,h.symm⟩
  ·cases h
theorem Qu(hH:bk W η H n w){b:K}{p q:V}{e:Nat}(h:H.get b=some (.b p q e)){L:Loc}(hL:η b=some L):L.off=0/\w.shape? L.blk=some (e,2):=by obtain⟨L',h1,_,h0,u,v,h3,_⟩:=hH.obj b _ h;rw[hL]at h1;injection h1 with h1;subst h1;refine⟨h0,?_⟩;simp[World.shape?,h3]
theorem aaN(aI:dI P ty)(hT:aW η T tmps)(hG:ch η ty.g)(hH:bk W η H n w){s d:TypeId}{x:Operand}{a:A}(hc:dZ ty (.convert s d x)=some a)
 (hs:simple a T H n=some (v,H',n')):fw P W η H n w (do pure (.value (←convert s d (ai tmps x)))) v H' n':=by
 simp only[dZ]at hc;split at hc
 case h_2=>cases hc
 rename_i i j x' hi hj hx;have sc:=(aI.ok _ _ hi).desc;have tO:=(aI.ok _ _ hj).desc;refine gz ?_;unfold convert;have key:∀k,simple (.cv k x') T H n=some (v,H',n')->∃u,qR H n k u=some (v,H',n')/\al η u (ai tmps x):=λk hk=>by
  simp only[simple]at hk;split at hk
  ·rename_i u hu;exact⟨u,hk,cw hT hG hx hu⟩
  ·cases hk
 split at hc
 ·rename_i k1 k2 e1 e2;injection hc with hc;subst hc;rw[e1]at sc;rw[e2]at tO;obtain⟨u,hu,hr⟩:=key _ hs;obtain⟨k',m,rfl,he⟩:=Qn hu;injection he with h1 h2;injection h2 with h2 h3;subst h1;subst h2;subst h3;generalize ai tmps x=y at hr;cases hr;refine ψ (br sc (ψ (br tO ?_)));refine aa ⟨η,.refl hH,?_⟩;rw[sQ];exact .i _ _
 ·rename_i e1 e2;injection hc with hc;subst hc;rw[e1]at sc;rw[e2]at tO;obtain⟨u,hu,hr⟩:=key _ hs;obtain⟨l,m,rfl,he⟩:=Qo hu;injection he with h1 h2;injection h2 with h2 h3;subst h1;subst h2;subst h3;refine ψ (br sc (ψ (br tO ?_)));generalize ai tmps x=y at hr;cases hr with
  | s _ _ hm=>exact aa ⟨η,.refl hH,.s _ _ hm⟩
 ·rename_i k1 e1 e2;injection hc with hc;subst hc;rw[e1]at sc;rw[e2]at tO;obtain⟨u,hu,hr⟩:=key _ hs;obtain⟨k,m,rfl,hm,he⟩:=Qr hu;injection he with h1 h2;injection h2 with h2 h3;subst h1;subst h2;subst h3;refine ψ (br sc (ψ (br tO ?_)));generalize ai tmps x=y at hr;cases hr;refine aa ⟨η,.refl hH,?_⟩;rw[(Kq hm).1];exact .s _ _ (Kq hm).2
 ·rename_i e e1 e2;cases hb:Nat.beq e ty.b with
  | false=>rw[hb]at hc;cases hc
  | true=>
   rw[hb]at hc;simp only[cond_true]at hc;injection hc with hc;subst hc;rw[e1]at sc;rw[e2]at tO;obtain⟨u,hu,hr⟩:=key _ hs;change aZ P (convert s d (ai tmps x)) w _;have he:=cL hb;obtain⟨ti,y5,Jc⟩:=Option.map_eq_some_iff.1 aI.ZE;rcases Qs hu with ⟨rfl,hq⟩ | ⟨b,p,q,e',rfl,ku,hq⟩
   ·injection hq with h1 h2;injection h2 with h2 h3;subst h1;subst h2;subst h3;generalize ai tmps x=y at hr;cases hr;refine⟨.pointer none,w,?_,η,.refl hH,.np⟩;simp[convert,run_underlying sc,run_underlying tO,Conv.unsafePointer]
   ·injection hq with h1 h2;injection h2 with h2 h3;subst h1;subst h2;subst h3;generalize ai tmps x=y at hr;cases hr with
    | p _ _ L hL=>
     obtain⟨s1,s2⟩:=Qu hH ku hL;exact⟨_,w,Go.Lib.run_to_unsafe (P:=P) (w:=w) ⟨L.blk,L.off+0,none⟩ sc tO (by rw[he];exact y5) (by rw[Jc];decide) s2 (by show L.off+0<2;omega),η,.refl hH,.p _ _ _ hL⟩
 ·rename_i e e1 e2;cases hb:Nat.beq e ty.b with
  | false=>rw[hb]at hc;cases hc
  | true=>
   rw[hb]at hc;simp only[cond_true]at hc;injection hc with hc;subst hc;rw[e1]at sc;rw[e2]at tO;obtain⟨u,hu,hr⟩:=key _ hs;change aZ P (convert s d (ai tmps x)) w _;have he:=cL hb;obtain⟨ti,y5,Jc⟩:=Option.map_eq_some_iff.1 aI.ZE;rcases Qt hu with ⟨rfl,hq⟩ | ⟨b,p,q,rfl,ku,hq⟩
   ·injection hq with h1 h2;injection h2 with h2 h3;subst h1;subst h2;subst h3;generalize ai tmps x=y at hr;cases hr;refine⟨.pointer none,w,?_,η,.refl hH,.np⟩;simp[convert,run_underlying sc,run_underlying tO,Conv.unsafePointer]
   ·injection hq with h1 h2;injection h2 with h2 h3;subst h1;subst h2;subst h3;generalize ai tmps x=y at hr;cases hr with
    | p _ _ L hL=>
     obtain⟨s1,s2⟩:=Qu hH ku hL;exact⟨_,w,Go.Lib.run_from_unsafe (P:=P) (w:=w) ⟨L.blk,L.off+0,none⟩ sc tO (by rw[he];exact y5) s2 (by rw[he,s1];exact aI.ZF),η,.refl hH,.p _ _ _ hL⟩
 ·rename_i e e1 e2;split at hc
  ·rename_i j' _ _ _ eN;injection hc with hc;subst hc;rw[e1]at sc;rw[e2]at tO;have X5:=(aI.ok _ _ eN).desc;obtain⟨u,hu,hr⟩:=key _ hs;obtain⟨D4,l,vs,m,he,hb,hq⟩:=Qp hu;injection hq with h1 h2;injection h2 with h2 h3;subst h1;subst h2;subst h3;obtain⟨q1,q2,q3⟩:=yi (P:=P) hH hr he;have q3:=q3 l (χ _);rw[pZ (by omega)]at q3;refine ψ (br sc (ψ (br tO ?_)));generalize ai tmps x=y at hr q2 q3;have wM:∃A l' c,y=.slice A l' c:=by
    cases hr<;>first | exact⟨_,_,_,rfl⟩ | (exact absurd rfl (D4 _ _)) | (cases he;done)
   obtain⟨A,l',c,rfl⟩:=wM;refine ψ (br X5 ?_);have hl:l'=l:=by have:=congrArg (λs:Sem Nat=>s.run P w) q2;simpa[Builtin.lenOf,Sem.run,pure]using this
   subst hl;cases A with
   | none=>
    obtain⟨r,w',g1,g2,_⟩:=q3;have g1:(Result.ok #[] w:Result (Array Value))=.ok r w':=g1;injection g1 with g1 _;subst g1;cases g2;have qi:m=0:=by simp only[ofBytes]at hb;injection hb with hb;exact hb.symm
    have gH:l'=0:=by simpa using q1.symm
    subst qi;subst gH;exact aa ⟨η,.refl hH,.s 0 0 (by simp)⟩
   | some A=>
    have q3:aZ P (loadCells A (l'*1)) w λr w'=>bc η vs r.toList/\w'=w:=q3;rw[lQ]at q3;refine ψ (q3.mono ?_);rintro r w' ⟨g1,rfl⟩;obtain⟨o1,o2⟩:=Qm hb g1;rw[←Array.forIn_toList];have hlen:vs.length=l':=by omega
    rw[hlen]at o1 o2;refine ψ (aZ.mono (aaL r.toList .empty o1) ?_);rintro r' w' ⟨g2,rfl⟩;refine aa ⟨η,.refl hH,?_⟩;have:r'=strOf l' m:=by
     show r'=(⟨(bU l' m).toArray⟩:ByteArray);have:r'.data=(bU l' m).toArray:=by apply jP;rw[g2];simp
     rw[←this]
    rw[this];exact .s _ _ o2
  ·cases hc
 ·rename_i e e1 e2;split at hc
  ·rename_i j' _ _ _ eN;injection hc with hc;subst hc;rw[e1]at sc;rw[e2]at tO;have X5:=(aI.ok _ _ eN).desc;obtain⟨u,hu,hr⟩:=key _ hs;obtain⟨l,m,rfl,he⟩:=Qq hu;obtain⟨rfl,rfl,rfl⟩:=pv he;generalize ai tmps x=y at hr;cases hr with
   | s _ _ hm=>
    refine ψ (br sc (ψ (br tO ?_)));refine ψ (br X5 ?_);obtain⟨xs,g1,g2⟩:=aaM η hm l 0 #[];simp only[qb,Nat.pow_zero,Nat.div_one]at g2;unfold Conv.stringToRunes;rw[uz];have eF:(Conv.runesFrom (strOf l m) l 0 #[]).size=xs.length:=by rw[←Bt,g1];simp
    have oA:xs.length=(wD l l m).length:=g2.length.symm;have fin:∀(w1:World) (d:Nat),w1={ w with drawn:=d}->∀t,aZ P (do
     let a←newRow e (Conv.runesFrom (strOf l m) l 0 #[]++Array.replicate ((Question.appendCap (Conv.runesFrom (strOf l m) l 0 #[]).size 0 e).cut t - (Conv.runesFrom (strOf l m) l 0 #[]).size) (.int .i32 0))
     pure (Value.slice (some a) (Conv.runesFrom (strOf l m) l 0 #[]).size ((Question.appendCap (Conv.runesFrom (strOf l m) l 0 #[]).size 0 e).cut t))) w1
     λy w'=>∃η',Trans W η H n w η' (H.put (some (.c (wD l l m) e 0)) n) n.succ w'/\al η' (.su n 0 (wD l l m).length 1) y:=by
     rintro w1 d rfl t;rw[eF];generalize sV:(Question.appendCap xs.length 0 e).cut t=cap;have D5:xs.length<=cap:=by rw[←sV];simp only[Question.cut];omega
     refine ψ (ψ (wG (aa (aa ?_))));obtain⟨η',k1,k2⟩:=G8 (hH.drawn d) e g2 (List.replicate (cap - xs.length) (Value.int .i32 0));have mJ:Conv.runesFrom (strOf l m) l 0 #[]++Array.replicate (cap - xs.length) (Value.int .i32 0)=(xs++List.replicate (cap - xs.length) (Value.int .i32 0)).toArray:=by apply jP;rw[Array.toList_append,g1];simp
     refine⟨η',?_,?_⟩
     ·rw[mJ];exact⟨k1.ext,k1.le,k1.rep,⟨k1.kept.os,k1.kept.tape,k1.kept.output,k1.kept.size,k1.kept.block,k1.kept.loops⟩,k1.kZ,k1.dR⟩
     ·rw[oA];have:=al.su (η:=η') n 0 xs.length 1 _ cap k2 D5 (by simp;omega);rw[oA]at this;exact this
    refine ψ (Po (λt d _=>?_) (λh=>by cases h));exact fin _ d rfl t
  ·cases hc
 ·cases hc
end ops
end
section
section ops
variable {P:Program}{ty:Ty}{W:Nat->Code->AC->Prop}{η:Env}{T:Tr V}{H H':Hp}{n n':K}{w:World}{tmps:Array Value}{v:V}
theorem aaO{m:Mark}{Φ:Unit->World->Prop}(h:Φ () w):aZ P (mark m) w Φ:=⟨(),w,rfl,h⟩
theorem Qv{b:Nat}{Φ:Unit->World->Prop}(h:Φ () w):aZ P (askRoom b) w Φ:=by
 unfold askRoom;split
 ·exact aaO h
 ·exact aa h
theorem aaP(aI:dI P ty)(hT:aW η T tmps)(hG:ch η ty.g)(hH:bk W η H n w){t:TypeId}{x y:Operand}{a:A}
 (hc:dZ ty (.makeSlice t x y)=some a)(hs:simple a T H n=some (v,H',n')):
 fw P W η H n w (do pure (.value (←Instr.makeSlice t (ai tmps x) (ai tmps y)))) v H' n':=by
 simp only[dZ]at hc;split at hc
 case h_2=>cases hc
 rename_i i l c hi hx hy;split at hc
 case h_2=>cases hc
 rename_i e hd;split at hc
 case h_2=>cases hc
 rename_i j hj;injection hc with hc;subst hc;simp only[simple]at hs;split at hs
 case h_2=>cases hs
 rename_i k1 l' k2 c' hl sW;have Kc:=cw hT hG hx hl;have Ob:=cw hT hG hy sW;cases hb:(Nat.ble l' c'&&Nat.ble (Nat.mul c' j.bytes) 140737488355328&&Nat.ble c' 9223372036854775807) with
 | false=>rw[hb]at hs;cases hs
 | true=>
  rw[hb]at hs;simp only[cond_true]at hs;simp only[jF,bh,bA]at hb;obtain⟨⟨b1,b2⟩,b3⟩:=hb;have b2:c'*j.bytes<=140737488355328:=b2;obtain⟨rfl,rfl,rfl⟩:=pv hs;have dw:=(aI.ok _ _ hi).desc;rw[hd]at dw;generalize ai tmps x=x' at Kc;generalize ai tmps y=y' at Ob;cases Kc;cases Ob;obtain⟨ti,z,h1,h2,h3,h4,h5,h6,h7,h8,h9⟩:=(aI.ok _ _ hj).info;refine gz (ψ (br dw ?_));refine ψ (ψ (aa (aa ?_)));refine ψ (ψ (aa (aa ?_)));refine ψ (yf h1 ?_);have e1:IntKind.i64.wrap (Int.ofNat l')=l':=wrap_i64 (sE _) (by show((_:Nat):Int)<=_;omega);have e2:IntKind.i64.wrap (Int.ofNat c')=c':=wrap_i64 (sE _) (by show((_:Nat):Int)<=_;omega);simp only[e1,e2];have X6:(2:Int) ^ 48=281474976710656:=rfl;have q1:¬ ((c':Int)<0):=by omega
  have q2:¬ ((ti.bytes:Int)*(c':Int)>2 ^ 48):=by
   rw[h3,X6];have:(j.bytes:Int)*(c':Int)<=140737488355328:=by rw[Int.mul_comm,←Int.natCast_mul];exact Int.ofNat_le.2 b2
   omega
  have q3:¬ ((l':Int)<0):=by omega
  have q4:¬ ((l':Int)>(c':Int)):=by omega
  rw[Ξ (by
   rw[qa,qa,qa,bA,bA,bA,bA];rintro(((h | h) | h) | h)
   ·exact q1 h
   ·exact q2 h
   ·exact q3 h
   ·exact q4 h)]
  refine ψ (Qv ?_);refine ψ (mH (aI.ok _ _ hj) ?_);simp only[Int.toNat_natCast];have jR:∀zc:Array Value,(∀η,bc η (iw j.zero c') ((Array.range (c'*j.size)).map (zc[· % zc.size]!)).toList)->aZ P (do
   let a←newRow e ((Array.range (c'*j.size)).map (zc[· % zc.size]!))
   pure (Value.slice (some a) l' c')) w λy w'=>∃η',Trans W η H n w η' (H.put (some (.c (iw j.zero c') e 0)) n) n.succ w'/\al η' (.sl n 0 l' c') y:=by
   intro zc hz;obtain⟨η',g1,g2⟩:=G8 hH e (hz η) [];refine ψ (ψ (wG (aa (aa ⟨η',?_,?_⟩))))
   ·simpa only[List.append_nil,Array.toArray_toList]using g1
   ·exact al.sl (η:=η') n 0 l' c' _ g2
  by_cases h0:c'*j.size=0
  ·rw[au h0];exact ψ (aa (jR #[] (λη=>by
    have:iw j.zero c'=[]:=by rw[←xG,BP,h8,h0]
    rw[this,h0];have e0:Array.range 0=#[]:=rfl;rw[e0,Array.map_empty];exact .nil)))
  ·rw[Ξ h0];refine ψ (sP (aI.ok _ _ hj) λz hz _ _ eF=>ψ (aa ?_));exact jR z.cells (λη=>G9 (hz η) c' _ (by rw[eF]))
theorem Hi{x:Operand}(hT:aW η T tmps)(hG:ch η ty.g){a:ax}{p d cap:Nat}{code:BoundsCode}(hx:bK ty x=some a)(h:dH T d (some a)=some p)(hp:p<=cap)
 {Φ:Nat->World->Prop}(k:Φ p w):aZ P (Instr.sliceBound (ai tmps x) cap code) w Φ:=by
 simp only[dH]at h;split at h
 ·rename_i u hu;have hr:=cw hT hG hx hu;unfold JX at h;split at h
  ·rename_i k' m;injection h with h;subst h;generalize ai tmps x=y at hr;cases hr;refine ψ (aa ?_);refine Kn ⟨by simp,by simpa using hp⟩ (aa ?_);simpa using k
  ·cases h
 ·cases h
theorem Kr(hT:aW η T tmps)(hG:ch η ty.g){lo hi mx:Option Operand}{zV kS Bb:Option ax}(h1:ux ty lo=some zV)(h2:ux ty hi=some kS)(h3:ux ty mx=some Bb)
 (hm:Bb.isSome=true->kS.isSome=true){len cap p q m:Nat}(e1:dH T 0 zV=some p)(e2:dH T len kS=some q)(e3:dH T cap Bb=some m)(i1:p<=q)(i2:q<=m)(i3:m<=cap)(b:Bool):
 aZ P (Instr.sliceBounds b len cap (lo.map (ai tmps)) (hi.map (ai tmps)) (mx.map (ai tmps))) w λr w'=>r=(p,q,m)/\w'=w:=by
 have co:∀{x:Option Operand} {x':Option ax},ux ty x=some x'->(x=none/\x'=none)\/∃y y',x=some y/\x'=some y'/\bK ty y=some y':=by
  intro x x' h;cases x with
  | none=>simp only[ux]at h;injection h with h;exact .inl ⟨rfl,h.symm⟩
  | some y=>
   simp only[ux]at h;split at h
   ·rename_i y' hy;injection h with h;exact .inr ⟨y,y',rfl,h.symm,hy⟩
   ·cases h
 have low:∀(c:BoundsCode) (jp:Nat->Sem (Nat×Nat×Nat)) (Φ:Nat×Nat×Nat->World->Prop),aZ P (jp p) w Φ->aZ P (match lo.map (ai tmps) with
  | some v=>do
   let l←Instr.sliceBound v q c
   jp l
  | none=>do
   let l←pure 0
   jp l) w Φ:=by
  intro c jp Φ hj;rcases co h1 with ⟨rfl,rfl⟩ | ⟨y,y',rfl,rfl,hy⟩
  ·simp only[dH]at e1;injection e1 with e1;subst e1;exact ψ (aa hj)
  ·exact ψ (Hi hT hG hy e1 i1 hj)
 unfold Instr.sliceBounds;rcases co h3 with ⟨rfl,rfl⟩ | ⟨y,y',rfl,rfl,hy⟩
 ·simp only[dH]at e3;injection e3 with e3;subst e3;refine ψ (aa ?_);rcases co h2 with ⟨rfl,rfl⟩ | ⟨z,z',rfl,rfl,hz⟩
  ·simp only[dH]at e2;injection e2 with e2;subst e2;refine ψ (aa ?_);exact low _ _ _ (aa ⟨rfl,rfl⟩)
  ·refine ψ (Hi hT hG hz e2 i2 ?_);exact low _ _ _ (aa ⟨rfl,rfl⟩)
 ·refine ψ (Hi hT hG hy e3 i3 ?_);rcases co h2 with ⟨rfl,rfl⟩ | ⟨z,z',rfl,rfl,hz⟩
  ·cases hm rfl
  ·refine ψ (Hi hT hG hz e2 i2 ?_);exact low _ _ _ (aa ⟨rfl,rfl⟩)
theorem aaQ{lo hi mx:Option ax}{x:V}(h:oq .str T x lo hi mx=some v):
 ∃l m p q,x=.s l m/\mx=none/\dH T 0 lo=some p/\dH T l hi=some q/\p<=q/\q<=l/\v=.s (Nat.sub q p) (DG m p q):=by
 cases x<;>try (cases h;done)
 rename_i l m;simp only[oq]at h;split at h
 case h_2=>cases h
 rename_i p q e1 e2;cases hb:(Nat.ble p q&&Nat.ble q l) with
 | false=>rw[hb]at h;cases h
 | true=>
  rw[hb]at h;simp only[cond_true]at h;injection h with h;simp only[jF,bh,bA]at hb;exact⟨l,m,p,q,rfl,rfl,e1,e2,hb.1,hb.2,h.symm⟩
theorem aaR{z k:Nat}{lo hi mx:Option ax}{x:V}(h:oq (.arr k z) T x lo hi mx=some v):
 ∃b o p q m,x=.p b o/\dH T 0 lo=some p/\dH T k hi=some q/\dH T k mx=some m/\p<=q/\q<=m/\m<=k/\v=.sl b (bif Nat.beq m p then o else Nat.add o (Nat.mul p z)) (Nat.sub q p) (Nat.sub m p):=by
 cases x<;>try (cases h;done)
 rename_i b o;simp only[oq]at h;split at h
 case h_2=>cases h
 rename_i p q m e1 e2 e3;cases hb:(Nat.ble p q&&Nat.ble q m&&Nat.ble m k) with
 | false=>rw[hb]at h;cases h
 | true=>
  rw[hb]at h;simp only[cond_true]at h;injection h with h;simp only[jF,bh,bA]at hb;exact⟨b,o,p,q,m,rfl,e1,e2,e3,hb.1.1,hb.1.2,hb.2,h.symm⟩
theorem aaS{z:Nat}{lo hi mx:Option ax}{x:V}(h:oq (.sl z) T x lo hi mx=some v):
 (x=.ns/\dH T 0 lo=some 0/\dH T 0 hi=some 0/\dH T 0 mx=some 0/\v=.ns)\/
 (∃b o l c p q m,x=.sl b o l c/\dH T 0 lo=some p/\dH T l hi=some q/\dH T c mx=some m/\p<=q/\q<=m/\m<=c/\v=.sl b (bif Nat.beq m p then o else Nat.add o (Nat.mul p z)) (Nat.sub q p) (Nat.sub m p))\/
 (∃b o l p q,x=.su b o l z/\mx=none/\dH T 0 lo=some p/\dH T l hi=some q/\p<=q/\q<=l/\v=.su b (Nat.add o (Nat.mul p z)) (Nat.sub q p) z)\/
 (∃b o l p q m y,x=.su b o l z/\mx=some y/\dH T 0 lo=some p/\dH T l hi=some q/\dH T 0 (some y)=some m/\p<=q/\q<=m/\m<=l/\v=(bif Nat.beq l 0 then .su b o 0 z else .sl b (bif Nat.beq m p then o else Nat.add o (Nat.mul p z)) (Nat.sub q p) (Nat.sub m p))):=by
 cases x<;>try (cases h;done)
 ·simp only[oq]at h;split at h
  ·rename_i e1 e2 e3;injection h with h;exact .inl ⟨rfl,e1,e2,e3,h.symm⟩
  ·cases h
 ·rename_i b o l c;simp only[oq]at h;split at h
  case h_2=>cases h
  rename_i p q m e1 e2 e3;cases hb:(Nat.ble p q&&Nat.ble q m&&Nat.ble m c) with
  | false=>rw[hb]at h;cases h
  | true=>
   rw[hb]at h;simp only[cond_true]at h;injection h with h;simp only[jF,bh,bA]at hb;exact .inr (.inl ⟨b,o,l,c,p,q,m,rfl,e1,e2,e3,hb.1.1,hb.1.2,hb.2,h.symm⟩)
 ·rename_i b o l e;cases mx with
  | none=>
   simp only[oq]at h;split at h
   case h_2=>cases h
   rename_i p q e1 e2;cases hb:(Nat.ble p q&&Nat.ble q l&&Nat.beq z e) with
   | false=>rw[hb]at h;cases h
   | true=>
    rw[hb]at h;simp only[cond_true]at h;injection h with h;simp only[jF,dD,bh,bA]at hb;obtain⟨⟨qU,fM⟩,y8⟩:=hb;subst y8;exact .inr (.inr (.inl ⟨b,o,l,p,q,rfl,rfl,e1,e2,qU,fM,h.symm⟩))
  | some y=>
   simp only[oq]at h;split at h
   case h_2=>cases h
   rename_i p q m e1 e2 e3;cases hb:(Nat.ble p q&&Nat.ble q m&&Nat.ble m l&&Nat.beq z e) with
   | false=>rw[hb]at h;cases h
   | true=>
    rw[hb]at h;simp only[cond_true]at h;have ku:=hb;simp only[jF,dD,bh,bA]at ku;obtain⟨⟨⟨qU,fM⟩,y8⟩,zW⟩:=ku;subst zW;refine .inr (.inr (.inr ⟨b,o,l,p,q,m,y,rfl,rfl,e1,e2,e3,qU,fM,y8,?_⟩));cases hl:Nat.beq l 0 with
    | true=>rw[hl]at h;injection h with h;exact h.symm
    | false=>rw[hl]at h;injection h with h;exact h.symm
theorem extract_eq{l m p q:Nat}(h1:p<=q)(h2:q<=l)(hm:m<256 ^ l):(strOf l m).extract p q=strOf (Nat.sub q p) (DG m p q)/\DG m p q<256 ^ (Nat.sub q p):=by
 refine⟨?_,lS _ (xJ λe=>by simp at e)⟩;have e:((strOf l m).extract p q).data=(bU (q - p) (m / 256 ^ p % 256 ^ (q - p))).toArray:=by
  apply jP;have:((strOf l m).extract p q).data.toList=((bU l m).drop p).take (q - p):=by simp[strOf,ByteArray.extract,ByteArray.copySlice]
  rw[this,Zu _ _ _ (by omega),Zv _ _ _ (by omega)]
 show(strOf l m).extract p q=⟨(bU (q - p) (m / 256 ^ p % 256 ^ (q - p))).toArray⟩;rw[←e]
theorem aaT(aI:dI P ty)(hT:aW η T tmps)(hG:ch η ty.g)(hH:bk W η H n w){t:TypeId}{x:Operand}{lo hi mx:Option Operand}{a:A}
 (hc:dZ ty (.slice t x lo hi mx)=some a)(hs:simple a T H n=some (v,H',n')):
 fw P W η H n w (do pure (.value (←Instr.sliceAt t (ai tmps x) (lo.map (ai tmps)) (hi.map (ai tmps)) (mx.map (ai tmps))))) v H' n':=by
 simp only[dZ]at hc;split at hc
 case h_2=>cases hc
 rename_i i x' zV kS Bb DU hx gg nX xq;cases hb:(Bb.isSome&&kS.isNone) with
 | true=>rw[hb]at hc;cases hc
 | false=>
  rw[hb]at hc;simp only[cond_false]at hc;have hm:Bb.isSome=true->kS.isSome=true:=by intro h;rw[h]at hb;cases kS<;>simp_all
  have dw:=(aI.ok _ _ DU).desc;have aaU:Bb=none->mx=none:=by
   rintro rfl;cases mx with
   | none=>rfl
   | some y=>simp only[ux]at xq;split at xq<;>cases xq
  have key:∀k,simple (.sli k x' zV kS Bb) T H n=some (v,H',n')->∃u,oq k T u zV kS Bb=some v/\H'=H/\n'=n/\al η u (ai tmps x):=λk hk=>by
   simp only[simple]at hk;split at hk
   ·rename_i u hu;obtain⟨h1,h2,h3⟩:=lf hk;exact⟨u,h1,h2,h3,cw hT hG hx hu⟩
   ·cases hk
  split at hc
  ·
   rename_i hd;injection hc with hc;subst hc;rw[hd]at dw;obtain⟨u,hu,rfl,rfl,hr⟩:=key _ hs;obtain⟨l,m,p,q,rfl,rfl,e1,e2,i1,i2,rfl⟩:=aaQ hu;obtain rfl:=aaU rfl;generalize ai tmps x=y at hr;cases hr with
   | s _ _ Ks=>
    refine gz (ψ (br dw ?_));refine ψ (br dw ?_);refine ψ ?_;rw[uz];refine(Kr (w:=w) hT hG gg nX xq hm e1 e2 (m:=l) U i1 i2 (χ _) false).mono ?_;rintro r w' ⟨rfl,rfl⟩;obtain⟨g1,g2⟩:=extract_eq i1 i2 Ks;refine aa ⟨η,.refl hH,?_⟩;rw[g1];exact .s _ _ g2
  ·
   rename_i e hd;split at hc
   case h_2=>cases hc
   rename_i j hj;injection hc with hc;subst hc;rw[hd]at dw;obtain⟨u,hu,rfl,rfl,hr⟩:=key _ hs;have fin:∀(A:Option Addr) (len cap p q m:Nat),ai tmps x=.slice A len cap->dH T 0 zV=some p->dH T len kS=some q->dH T cap Bb=some m->p<=q->q<=m->m<=cap->al η v (.slice (if m=p then A else A.map (·.add (p*j.size))) (q - p) (m - p))->fw P W η H' n' w (do pure (.value (←Instr.sliceAt t (ai tmps x) (lo.map (ai tmps)) (hi.map (ai tmps)) (mx.map (ai tmps))))) v H' n':=by intro A len cap p q m ex e1 e2 e3 i1 i2 i3 hv;rw[ex];refine gz (ψ (br dw ?_));refine ψ (br dw ?_);refine ψ ?_;refine(Kr (w:=w) hT hG gg nX xq hm e1 e2 e3 i1 i2 i3 true).mono ?_;rintro r w' ⟨rfl,rfl⟩;refine ψ (mH (aI.ok _ _ hj) ?_);exact aa ⟨η,.refl hH,hv⟩
   generalize hy:ai tmps x=y at hr;rcases aaS hu with ⟨rfl,e1,e2,e3,rfl⟩ | ⟨b,o,l,c,p,q,m,rfl,e1,e2,e3,i1,i2,i3,rfl⟩ | ⟨b,o,l,p,q,rfl,rfl,e1,e2,i1,i2,rfl⟩ | ⟨b,o,l,p,q,m,y',rfl,rfl,e1,e2,e3,i1,i2,i3,rfl⟩
   ·cases hr;exact hy▸fin none 0 0 0 0 0 hy e1 e2 e3 (χ _) (χ _) (χ _) .ns
   ·cases hr with
    | sl _ _ _ _ L hL=>
     refine hy▸fin _ _ _ p q m hy e1 e2 e3 i1 i2 i3 ?_;by_cases wN:m=p
     ·subst wN;rw[au rfl];have:Nat.beq m m=true:=by simp
      rw[this];exact .sl _ _ _ _ L hL
     ·rw[Ξ wN];have:Nat.beq m p=false:=by rw[dD];simp[wN]
      rw[this];simp only[rk,sO,cond_false];have:=al.sl (η:=η) b (Nat.add o (Nat.mul p j.size)) (q - p) (m - p) L hL;rw[show L.off+o+p*j.size=L.off+Nat.add o (Nat.mul p j.size) from mE ..];exact this
   ·cases hr with
    | su _ _ _ _ L c hL h1 h2=>
     refine hy▸fin _ _ _ p q c hy e1 e2 rfl i1 (by omega) (χ _) ?_;by_cases wN:c=p
     ·subst wN;rw[au rfl];have:Nat.sub q c=0:=by show q - c=0;omega
      rw[this];have:q - c=0:=by omega
      rw[this,qc];exact .se _ _ _ _ L hL
     ·rw[Ξ wN];simp only[rk,sO];rw[show L.off+o+p*j.size=L.off+Nat.add o (Nat.mul p j.size) from mE ..];refine al.su b _ (q - p) _ L (c - p) hL (by omega) ?_;show o+p*j.size+(c - p)*j.size<=L.room;have:(c - p)*j.size+p*j.size=c*j.size:=by rw[←iJ];congr 1;omega
      omega
    | se _ _ _ A L hL=>
     have hq:q=0:=by omega
     have hp:p=0:=by omega
     subst hq;subst hp;exact hy▸fin _ _ _ 0 0 0 hy e1 e2 rfl (χ _) (χ _) (χ _) (.se _ _ _ _ L hL)
   ·cases hr with
    | su _ _ _ _ L c hL h1 h2=>
     refine hy▸fin _ _ _ p q m hy e1 e2 e3 i1 i2 (by omega) ?_;cases hl:Nat.beq l 0 with
     | true=>
      have hl:=cL hl;have hq:q=0:=by omega
      have hp:p=0:=by omega
      have qi:m=0:=by omega
      subst hq;subst hp;subst qi;exact .se _ _ _ _ L hL
     | false=>
     simp only[cond_false];by_cases wN:m=p
     ·subst wN;rw[au rfl];have:Nat.beq m m=true:=by simp
      rw[this];exact .sl _ _ _ _ L hL
     ·rw[Ξ wN];have:Nat.beq m p=false:=by rw[dD];simp[wN]
      rw[this];simp only[rk,sO,cond_false];have:=al.sl (η:=η) b (Nat.add o (Nat.mul p j.size)) (q - p) (m - p) L hL;rw[show L.off+o+p*j.size=L.off+Nat.add o (Nat.mul p j.size) from mE ..];exact this
    | se _ _ _ A L hL=>
     have hq:q=0:=by omega
     have hp:p=0:=by omega
     have qi:m=0:=by omega
     subst hq;subst hp;subst qi;exact hy▸fin _ _ _ 0 0 0 hy e1 e2 e3 (χ _) (χ _) (χ _) (.se _ _ _ _ L hL)
  ·
   rename_i k e hd;split at hc
   case h_2=>cases hc
   rename_i j hj;injection hc with hc;subst hc;rw[hd]at dw;obtain⟨u,hu,rfl,rfl,hr⟩:=key _ hs;obtain⟨b,o,p,q,m,rfl,e1,e2,e3,i1,i2,i3,rfl⟩:=aaR hu;generalize ai tmps x=y at hr;cases hr with
   | p _ _ L hL=>
    refine gz (ψ (br dw ?_));refine ψ (aa ?_);refine ψ ?_;refine(Kr (w:=w) hT hG gg nX xq hm e1 e2 e3 i1 i2 i3 false).mono ?_;rintro r w' ⟨rfl,rfl⟩;refine ψ (mH (aI.ok _ _ hj) ?_);refine aa ⟨η,.refl hH,?_⟩;by_cases wN:m=p
    ·subst wN;rw[au rfl];have:Nat.beq m m=true:=by simp
     rw[this];exact .sl _ _ _ _ L hL
    ·rw[Ξ wN];have:Nat.beq m p=false:=by rw[dD];simp[wN]
     rw[this];simp only[sO,cond_false];have:=al.sl (η:=η) b (Nat.add o (Nat.mul p j.size)) (q - p) (m - p) L hL;rw[show L.off+o+p*j.size=L.off+Nat.add o (Nat.mul p j.size) from mE ..];exact this
  ·cases hc
end ops
end
section
section ops
variable {P:Program}{ty:Ty}{W:Nat->Code->AC->Prop}{η:Env}{T:Tr V}{H H':Hp}{n n':K}{w:World}{tmps:Array Value}{v:V}
theorem Kt{t:TypeId}{i:TI}{q:EK}(hi:wH P t i)(h:i.desc.key=some q)(x:Value)(e:Bool)(k:Nat){Φ:Unit->World->Prop}(hΦ:Φ () w):aZ P (Instr.checkKey e (k+1) t x) w Φ:=by
 have hd:=hi.desc;unfold Instr.checkKey;generalize i.desc=d at h hd;cases d<;>first | (cases h;done) | skip
 all_goals exact ψ (br hd (aa hΦ))
theorem aaV(aI:dI P ty){xs:List V}{cx:Array Value}(hx:bc η xs cx.toList)(e:Bool)(k:Nat){fs:List Field}
 {l:List (Nat×EK)}(hl:flat ty (fs.map λf=>(f.type,f.offset))=some l)(h:hasAll xs l=true):
 aZ P (do
  for f in fs do
   if f.name ≠ "_" then Instr.checkKey e (k+1) f.type (←part f.type cx f.offset)) w λ_ w'=>w'=w:=by
 induction fs generalizing l with
 | nil=>exact aa rfl
 | cons f fs ih=>
  simp only[lP,flat]at hl;split at hl
  case h_2=>cases hl
  rename_i i hi;split at hl
  case h_2=>cases hl
  rename_i q l' hq qT;injection hl with hl;subst hl;simp only[hasAll,bh]at h;obtain⟨h1,h2⟩:=h;split at h1
  case h_2=>cases h1
  rename_i x qh;obtain⟨_,zU⟩:=zS aI hi hq;rw[List.forIn_cons];refine ψ (ψ ?_);by_cases hn:f.name ≠ "_"
  ·rw[au hn];refine ψ ((BT aI hi zU hx qh).mono ?_);rintro x' w' ⟨_,rfl⟩;refine ψ (Kt (aI.ok _ _ hi) hq _ _ _ ?_);exact aa (D3 (ih qT h2))
  ·rw[Ξ hn];exact aa (D3 (ih qT h2))
theorem aaW(aI:dI P ty){e:TypeId}{i:TI}(hi:ty e=some i){q:EK}(hq:i.desc.key=some q){xs:List V}{cx:Array Value}(hx:bc η xs cx.toList)(b:Bool)(k:Nat)
 {fs:List Nat}(h:hasAll xs (fs.map λi=>(i,q))=true):
 aZ P (do
  for j in fs do
   Instr.checkKey b (k+1) e (←part e cx (j*(←sizeOf e)))) w λ_ w'=>w'=w:=by
 obtain⟨_,zU⟩:=zS aI hi hq
 induction fs with
 | nil=>exact aa rfl
 | cons f fs ih=>
  simp only[lP,hasAll,bh]at h;obtain⟨h1,h2⟩:=h;split at h1
  case h_2=>cases h1
  rename_i x qh;rw[List.forIn_cons];refine ψ (ψ (ψ (mH (aI.ok _ _ hi) ?_)));rw[Qh aI hi hq];refine ψ ((BT aI hi zU hx (by rw[lQ];exact qh)).mono ?_);rintro x' w' ⟨_,rfl⟩;refine ψ (Kt (aI.ok _ _ hi) hq _ _ _ ?_);exact aa (D3 (ih h2))
theorem D6(aI:dI P ty){t:TypeId}{q:ey}(hq:lU ty t=some q){x:V}{x':Value}(hx:al η x x')(h:ot q x=true)(e:Bool):
 aZ P (Instr.checkKey e 10000 t x') w λ_ w'=>w'=w:=by
 unfold lU at hq;split at hq
 case h_2=>cases hq
 rename_i i hi;have hd:=(aI.ok _ _ hi).desc;split at hq
 ·rename_i fs plain oz;cases plain with
  | false=>cases hq
  | true=>
   simp only[cond_true]at hq;split at hq
   case h_2=>cases hq
   rename_i l hl;injection hq with hq;subst hq;rw[oz]at hd;obtain⟨sf,hu,wJ,_,tN⟩:=hd;unfold ot at h;split at h<;>first | (rename_i he;cases he;done) | (rename_i he _;cases he;done) | (cases h;done) | skip
   rename_i l' xs he;injection he with he;subst he;cases hx with
   | a _ cx hx=>
    unfold Instr.checkKey;refine ψ (br hu ?_);dsimp only;rw[←Array.forIn_toList];exact aaV (cx:=⟨cx⟩) aI hx e 9998 (by rw[←wJ];exact hl) h
 ·rename_i m e' oz;rw[oz]at hd;split at hq
  case h_2=>cases hq
  rename_i j hj;split at hq
  case h_2=>cases hq
  rename_i q' gU;injection hq with hq;subst hq;unfold ot at h;split at h<;>first | (rename_i he;cases he;done) | (rename_i he _;cases he;done) | (cases h;done) | skip
  rename_i l' xs he;injection he with he;subst he;cases hx with
  | a _ cx hx=>
   unfold Instr.checkKey;refine ψ (br hd ?_);dsimp only;have:=aaW (w:=w) (fs:=List.range m) (cx:=⟨cx⟩) aI hj gU hx e 9998 h;simp only[Std.Legacy.Range.forIn_eq_forIn_range',Std.Legacy.Range.size];simpa[xL]using this
 ·rename_i d h1 h2;split at hq
  case h_2=>cases hq
  rename_i q' gU;exact Kt (aI.ok _ _ hi) gU _ _ _ rfl
theorem aaX(aI:dI P ty){t:TypeId}{u:TypeDesc}(hu:P.underlying t=some u){q:ey}(hq:lU ty t=some q){x y:V}{x' y':Value}(hx:al η x x')(hy:al η y y'){r b:Bool}
 (h:mw q x y=some r)(hb:Instr.sameNow u x' y'=some b):b=r:=by
 obtain⟨b',w',h1,rfl,_⟩:=Hh (w:=default) aI hq hx hy h;have step:aZ P (Op.equal t x' y') default λc _=>c=b:=by
  unfold Instr.sameNow at hb;split at hb
  ·rename_i k a k' b';split at hb
   ·rename_i hk;injection hb with hb;subst hb;subst hk;exact ψ (br hu (Kn rfl (aa rfl)))
   ·cases hb
  ·injection hb with hb;subst hb;exact ψ (br hu (aa rfl))
  ·injection hb with hb;subst hb;exact ψ (br hu (aa rfl))
  ·cases hb
 obtain⟨c,w2,h2,h3⟩:=step;rw[h1]at h2;injection h2 with h2 _;rw[h2,h3]
def kH(q:ey)(k:V):List (V×V×Nat)->Option (Option Nat)
 | []=>some none
 | (k',_,_)::es=>match mw q k k' with
  | some true=>some (some 0)
  | some false=>match kH q k es with
   | some (some i)=>some (some (i+1))
   | some none=>some none
   | none=>none
  | none=>none
def Od(l:List MapEntry)(j:Nat):Option Nat->Option (Nat×Value)->Prop
 | none,s=>s=none
 | some i,s=>∃e,l[i]?=some e/\s=some (j+i,e.val)
theorem Qw(aI:dI P ty){t:TypeId}{u:TypeDesc}(hu:P.underlying t=some u){q:ey}(hq:lU ty t=some q){k:V}{k':Value}(hk:al η k k'):
 ∀{es:List (V×V×Nat)} {l:List MapEntry},eE η es l->∀{r:Option Nat},kH q k es=some r->∀(j:Nat) {s:Option (Nat×Value)},Instr.findNow u k' l j=some s->Od l j r s
 | [],[],_,r,h,j,s,hs=>by simp only[kH]at h;injection h with h;subst h;simp only[Instr.findNow]at hs;injection hs with hs;exact hs.symm
 | (k1,v1,b1)::es,e::l,he,r,h,j,s,hs=>by
  obtain⟨r1,r2,r3,r4⟩:=he;simp only[kH]at h;simp only[Instr.findNow]at hs;cases F9:mw q k k1 with
  | none=>rw[F9]at h;cases h
  | some b=>
   rw[F9]at h;cases hn:Instr.sameNow u k' e.key with
   | none=>rw[hn]at hs;cases hs
   | some c=>
    rw[hn]at hs;have:=aaX aI hu hq hk r1 F9 hn;subst this;cases c with
    | true=>
     injection h with h;subst h;injection hs with hs;subst hs;exact⟨e,rfl,rfl⟩
    | false=>
     simp only at h hs;cases hf:kH q k es with
     | none=>rw[hf]at h;cases h
     | some r'=>
      rw[hf]at h;have:=Qw aI hu hq hk r4 hf (j+1) hs;cases r' with
      | none=>injection h with h;subst h;exact this
      | some i=>
       injection h with h;subst h;obtain⟨e',q1,q2⟩:=this;exact⟨e',by simpa using q1,by rw[q2,mE,rm 1]⟩
 | [],_::_,he,_,_,_,_,_=>he.elim
 | _::_,[],he,_,_,_,_,_=>he.elim
theorem Qx(aI:dI P ty){t:TypeId}{q:ey}(hq:lU ty t=some q){k:V}{k':Value}(hk:al η k k'):
 ∀{es:List (V×V×Nat)} {l:List MapEntry},eE η es l->∀{r:Option Nat},kH q k es=some r->∀(j:Nat) (w:World),aZ P (Instr.findAsking t k' l j) w λs w'=>w'=w/\Od l j r s
 | [],[],_,r,h,j,w=>by simp only[kH]at h;injection h with h;subst h;exact aa ⟨rfl,rfl⟩
 | (k1,v1,b1)::es,e::l,he,r,h,j,w=>by
  obtain⟨r1,r2,r3,r4⟩:=he;simp only[kH]at h;cases F9:mw q k k1 with
  | none=>rw[F9]at h;cases h
  | some b=>
   rw[F9]at h;refine ψ ((Hh aI hq hk r1 F9).mono ?_);rintro b' w' ⟨rfl,rfl⟩;cases b' with
   | true=>
    injection h with h;subst h;exact aa ⟨rfl,e,rfl,rfl⟩
   | false=>
    simp only at h;cases hf:kH q k es with
    | none=>rw[hf]at h;cases h
    | some r'=>
     rw[hf]at h;refine(Qx aI hq hk r4 hf (j+1) w').mono ?_;rintro s xp ⟨rfl,hs⟩;refine⟨rfl,?_⟩;cases r' with
     | none=>injection h with h;subst h;exact hs
     | some i=>
      injection h with h;subst h;obtain⟨e',q1,q2⟩:=hs;exact⟨e',by simpa using q1,by rw[q2,mE,rm 1]⟩
 | [],_::_,he,_,_,_,_=>he.elim
 | _::_,[],he,_,_,_,_=>he.elim
theorem aaY(aI:dI P ty){t:TypeId}{q:ey}(hq:lU ty t=some q):∃u,P.underlying t=some u:=by
 unfold lU at hq;split at hq
 case h_2=>cases hq
 rename_i i hi;have hd:=(aI.ok _ _ hi).desc;split at hq
 ·rename_i h;rw[h]at hd;obtain⟨l,h,_⟩:=hd;exact⟨_,h⟩
 ·rename_i h;rw[h]at hd;exact⟨_,hd⟩
 ·split at hq
  case h_2=>cases hq
  rename_i q' gU;generalize i.desc=d at gU hd;cases d<;>first | (cases gU;done) | exact⟨_,hd⟩
theorem BV(aI:dI P ty){t:TypeId}{q:ey}(hq:lU ty t=some q){k:V}{k':Value}(hk:al η k k'){es:List (V×V×Nat)}{l:List MapEntry}(he:eE η es l){r:Option Nat}
 (h:kH q k es=some r):aZ P (Instr.findKey t k' l) w λs w'=>w'=w/\Od l 0 r s:=by
 obtain⟨u,hu⟩:=aaY aI hq;refine ψ (br hu ?_);cases hn:Instr.findNow u k' l 0 with
 | none=>
  exact Qx aI hq hk he h 0 w
 | some s=>
  exact aa ⟨rfl,Qw aI hu hq hk he h 0 hn⟩
theorem eE.length:∀{es:List (V×V×Nat)} {l:List MapEntry},eE η es l->es.length=l.length
 | [],[],_=>rfl
 | (_,_,_)::es,e::l,⟨_,_,_,h⟩=>by rw[fH,fH,eE.length h]
 | [],_::_,h=>h.elim
 | _::_,[],h=>h.elim
theorem eE.get:∀{es:List (V×V×Nat)} {l:List MapEntry},eE η es l->∀{i:Nat} {k v:V} {b:Nat},es[i]?=some (k,v,b)->∃e,l[i]?=some e/\al η k e.key/\al η v e.val/\e.born=b
 | [],[],_,i,k,v,b,hi=>by simp at hi
 | (k1,v1,b1)::es,e::l,⟨h1,h2,h3,h⟩,i,k,v,b,hi=>by
  cases i with
  | zero=>simp at hi;obtain⟨rfl,rfl,rfl⟩:=hi;exact⟨e,by simp,h1,h2,h3⟩
  | succ i=>simp at hi ⊢;exact eE.get h hi
 | [],_::_,h,_,_,_,_,_=>h.elim
 | _::_,[],h,_,_,_,_,_=>h.elim
theorem eE.append:∀{es:List (V×V×Nat)} {l:List MapEntry},eE η es l->∀{k v:V} {e:MapEntry},al η k e.key->al η v e.val->eE η (es++[(k,v,e.born)]) (l++[e])
 | [],[],_,k,v,e,h1,h2=>⟨h1,h2,rfl,trivial⟩
 | (k1,v1,b1)::es,e1::l,⟨h1,h2,h3,h⟩,k,v,e,g1,g2=>⟨h1,h2,h3,eE.append h g1 g2⟩
 | [],_::_,h,_,_,_,_,_=>h.elim
 | _::_,[],h,_,_,_,_,_=>h.elim
theorem eE.set:∀{es:List (V×V×Nat)} {l:List MapEntry},eE η es l->∀{k v:V} {k' v':Value} {i:Nat} {k0 v0:V} {b:Nat},es[i]?=some (k0,v0,b)->al η k k'->al η v v'->eE η (es.set i (k,v,b)) (l.modify i λe=>{ e with key:=k',val:=v'})
 | [],[],_,_,_,_,_,i,_,_,_,hi,_,_=>by simp at hi
 | (k1,v1,b1)::es,e1::l,⟨h1,h2,h3,h⟩,k,v,k',v',i,k0,v0,b,hi,g1,g2=>by
  cases i with
  | zero=>simp at hi;obtain⟨rfl,rfl,rfl⟩:=hi;exact⟨g1,g2,h3,h⟩
  | succ i=>simp at hi ⊢;exact⟨h1,h2,h3,eE.set h hi g1 g2⟩
 | [],_::_,h,_,_,_,_,_,_,_,_,_,_,_=>h.elim
 | _::_,[],h,_,_,_,_,_,_,_,_,_,_,_=>h.elim
theorem eE.erase:∀{es:List (V×V×Nat)} {l:List MapEntry},eE η es l->∀(i:Nat),eE η (es.eraseIdx i) (l.eraseIdx i)
 | [],[],_,i=>by simp[eE]
 | (k1,v1,b1)::es,e1::l,⟨h1,h2,h3,h⟩,i=>by
  cases i with
  | zero=>exact h
  | succ i=>exact⟨h1,h2,h3,eE.erase h i⟩
 | [],_::_,h,_=>h.elim
 | _::_,[],h,_=>h.elim
theorem Qy{q:ey}{k:V}{es:List (V×V×Nat)}{r:Option V}(h:BG q k es=some r):
 (r=none/\kH q k es=some none)\/∃v i k' b,r=some v/\kH q k es=some (some i)/\es[i]?=some (k',v,b):=by
 induction es with
 | nil=>simp only[BG]at h;injection h with h;exact .inl ⟨h.symm,rfl⟩
 | cons e es ih=>
  obtain⟨k',v',b⟩:=e;simp only[BG]at h;simp only[kH];cases hk:mw q k k' with
  | none=>rw[hk]at h;cases h
  | some c=>
   rw[hk]at h;cases c with
   | true=>injection h with h;exact .inr ⟨v',0,k',b,h.symm,rfl,rfl⟩
   | false=>
    rcases ih h with ⟨h1,h2⟩ | ⟨v,i,k2,b2,h1,h2,h3⟩
    ·exact .inl ⟨h1,by simp[h2]⟩
    ·exact .inr ⟨v,i+1,k2,b2,h1,by simp[h2],by simpa using h3⟩
theorem aaZ{q:ey}{k:V}{es r:List (V×V×Nat)}(h:DI q k es=some r):
 (r=es/\kH q k es=some none)\/∃i,kH q k es=some (some i)/\r=es.eraseIdx i:=by
 induction es generalizing r with
 | nil=>simp only[DI]at h;injection h with h;exact .inl ⟨h.symm,rfl⟩
 | cons e es ih=>
  obtain⟨k',v',b⟩:=e;simp only[DI]at h;simp only[kH];cases hk:mw q k k' with
  | none=>rw[hk]at h;cases h
  | some c=>
   rw[hk]at h;cases c with
   | true=>injection h with h;exact .inr ⟨0,rfl,h.symm⟩
   | false=>
    simp only at h;split at h
    ·rename_i gw he;injection h with h;subst h;rcases ih he with ⟨h1,h2⟩ | ⟨i,h1,h2⟩
     ·exact .inl ⟨by rw[h1],by simp[h2]⟩
     ·exact .inr ⟨i+1,by simp[h1],by rw[h2];rfl⟩
    ·cases h
theorem aa0{q:ey}{k v:V}{c:Nat}{es r:List (V×V×Nat)}{new:Bool}(h:DH q k v c es=some (r,new)):
 (new=true/\r=es++[(k,v,c)]/\kH q k es=some none)\/∃i k' v' b q',new=false/\q=.one q'/\kH q k es=some (some i)/\es[i]?=some (k',v',b)/\mw q k k'=some true/\r=es.set i (k,v,b):=by
 induction es generalizing r with
 | nil=>simp only[DH]at h;injection h with h;injection h with h1 h2;exact .inl ⟨h2.symm,by rw[←h1];rfl,rfl⟩
 | cons e es ih=>
  obtain⟨k',v',b⟩:=e;simp only[DH]at h;simp only[kH];cases hk:mw q k k' with
  | none=>rw[hk]at h;cases h
  | some c'=>
   rw[hk]at h;cases c' with
   | true=>
    simp only at h;cases q with
    | agg l=>cases h
    | one q'=>
     injection h with h;injection h with h1 h2;exact .inr ⟨0,k',v',b,q',h2.symm,rfl,rfl,rfl,hk,h1.symm⟩
   | false=>
    simp only at h;split at h
    ·rename_i gw b' he;injection h with h;injection h with h1 h2;subst h1;subst h2;rcases ih he with ⟨h1,h2,h3⟩ | ⟨i,k2,v2,b2,q',h1,h2,h3,h4,h5,h6⟩
     ·exact .inl ⟨h1,by rw[h2];rfl,by simp[h3]⟩
     ·exact .inr ⟨i+1,k2,v2,b2,q',h1,h2,by simp[h3],by simpa using h4,h5,by rw[h6];rfl⟩
    ·cases h
end ops
end
section
section ops
variable {P:Program}{ty:Ty}{W:Nat->Code->AC->Prop}{η:Env}{T:Tr V}{H H':Hp}{n n':K}{w:World}{tmps:Array Value}{v:V}
theorem yj(hH:bk W η H n w){b:K}{es:List (V×V×Nat)}{c:Nat}(h:H.get b=some (.mp es c)){L:Loc}(hL:η b=some L):
 ∃gw,w.heap[L.blk]?=some (.map gw c)/\eE η es gw.toList:=by
 obtain⟨L',h1,h2,gw,h3,h4⟩:=hH.obj b _ h;rw[hL]at h1;injection h1 with h1;subst h1;exact⟨gw,h3,h4⟩
theorem aa1(aI:dI P ty)(hT:aW η T tmps)(hG:ch η ty.g)(hH:bk W η H n w){t:TypeId}{x y:Operand}{ok:Bool}{a:A}
 (hc:dZ ty (.lookup t x y ok)=some a)(hs:simple a T H n=some (v,H',n')):
 fw P W η H n w (do pure (.value (←Instr.lookup t (ai tmps x) (ai tmps y) ok))) v H' n':=by
 simp only[dZ]at hc;split at hc
 case h_2=>cases hc
 rename_i i m k hi hx hy;split at hc
 case h_2=>cases hc
 rename_i kt e hd;split at hc
 case h_2=>cases hc
 rename_i j hj;split at hc
 case h_2=>cases hc
 rename_i q hq;injection hc with hc;subst hc;have dw:=(aI.ok _ _ hi).desc;rw[hd]at dw;refine gz (ψ (br dw ?_));simp only[simple]at hs;have tail:∀(s:Option (Nat×Value)) (v:V),(∀i y,s=some (i,y)->al η v (if ok then .tuple #[y,.bool true] else y))->(s=none->v=zJ ok j.zeroV false)->aZ P (
  let jp:=λ(x:Value×Bool)=>match x with
   | (y,o)=>(pure (if ok=true then Value.tuple #[y,.bool o] else y):Sem Value)
  match s with
  | some (_,y)=>do
   let x←pure (y,true)
   jp x
  | none=>do
   let z←zeroValue e
   let x←pure (z,false)
   jp x) w λy w'=>∃η',Trans W η H n w η' H n w'/\al η' v y:=by
  intro s v h1 h2;cases s with
  | none=>
   rw[h2 rfl];refine ψ (sP (aI.ok _ _ hj) λz _ hz _ _=>ψ (aa ?_));exact aa ⟨η,.refl hH,Kh (hz η)⟩
  | some p=>
   obtain⟨i,y⟩:=p;exact ψ (aa (aa ⟨η,.refl hH,h1 i y rfl⟩))
 split at hs
 ·rename_i k' hm hk;cases mK:ot q k' with
  | false=>rw[mK]at hs;cases hs
  | true=>
   rw[mK]at hs;obtain⟨rfl,rfl,rfl⟩:=ea hs;have eG:=cw hT hG hx hm;have fE:=cw hT hG hy hk;generalize ai tmps x=x' at eG;cases eG;refine ψ (aa ?_);refine ψ ((D6 aI hq fE mK _).mono ?_);rintro _ w' rfl;have:=BV (w:=w') aI hq fE (es:=[]) (l:=[]) trivial (r:=none) U;refine ψ (this.mono ?_);rintro s w' ⟨rfl,hs⟩;have hs:s=none:=hs;subst hs;exact tail none _ (λ_ _ h=>by cases h) (λ_=>rfl)
 ·rename_i b k' hm hk;cases mK:ot q k' with
  | false=>rw[mK]at hs;cases hs
  | true=>
   rw[mK]at hs;simp only[cond_true]at hs;have eG:=cw hT hG hx hm;have fE:=cw hT hG hy hk;generalize ai tmps x=x' at eG;cases eG with
   | m _ L hL=>
    split at hs
    case h_2=>cases hs
    rename_i es c hb;obtain⟨gw,g1,g2⟩:=yj hH hb hL;have:∃r,kH q k' es=some r/\H'=H/\n'=n/\∀s,Od gw.toList 0 r s->(∀i y,s=some (i,y)->al η v (if ok then .tuple #[y,.bool true] else y))/\(s=none->v=zJ ok j.zeroV false):=by
     split at hs
     ·rename_i vv hf;obtain⟨rfl,rfl,rfl⟩:=ea hs;rcases Qy hf with ⟨h,_⟩ | ⟨v',i',k2,b2,h1,h2,h3⟩
      ·cases h
      ·injection h1 with h1;subst h1;obtain⟨e',q1,q2,q3,q4⟩:=g2.get h3;refine⟨_,h2,rfl,rfl,λs hs=>?_⟩;obtain⟨e2,p1,rfl⟩:=hs;rw[q1]at p1;injection p1 with p1;subst p1;refine⟨λi y h=>?_,λh=>by cases h⟩;injection h with h;injection h with _ h;subst h;exact Kh q3
     ·rename_i hf;obtain⟨rfl,rfl,rfl⟩:=ea hs;rcases Qy hf with ⟨_,h⟩ | ⟨v',i',k2,b2,h1,_⟩
      ·refine⟨_,h,rfl,rfl,λs hs=>?_⟩;have hs:s=none:=hs;subst hs;exact⟨λ_ _ h=>(by cases h),λ_=>rfl⟩
      ·cases h1
     ·cases hs
    obtain⟨r,hr,rfl,rfl,jR⟩:=this;refine ψ (ye g1 (by intro _ _ _ h;cases h) (ψ (aa ?_)));refine ψ ((D6 aI hq fE mK _).mono ?_);rintro _ w' rfl;refine ψ ((BV (w:=w') aI hq fE g2 hr).mono ?_);rintro s w' ⟨rfl,hs⟩;exact tail s _ (jR s hs).1 (jR s hs).2
 ·cases hs
theorem aa2{x y:V}{r:Bool}(h:da .bool x y=some r):∃a b,x=.b a/\y=.b b/\r=(a==b):=by
 cases x<;>try (cases h;done)
 cases y<;>try (cases h;done)
 injection h with h;exact⟨_,_,rfl,rfl,h.symm⟩
theorem aa3{x y:V}{r:Bool}(h:da .int x y=some r):∃k a b,x=.i k a/\y=.i k b/\r=(a==b):=by
 cases x<;>try (cases h;done)
 cases y<;>try (cases h;done)
 rename_i k a k' b;simp only[da]at h;cases hk:Nat.beq (kn k) (kn k') with
 | false=>rw[hk]at h;cases h
 | true=>
  rw[hk]at h;simp only[cond_true]at h;obtain rfl:=Ha hk;injection h with h;exact⟨_,_,_,rfl,rfl,by rw[←BR];exact h.symm⟩
theorem aa4{x y:V}{r:Bool}(h:da .str x y=some r):∃l m l' m',x=.s l m/\y=.s l' m'/\r=(Nat.beq l l'&&Nat.beq m m'):=by
 cases x<;>try (cases h;done)
 cases y<;>try (cases h;done)
 injection h with h;exact⟨_,_,_,_,rfl,rfl,h.symm⟩
theorem aa5{q:EK}(hq:∃i:TI,i.desc.key=some q){x y:V}{x' y':Value}(hx:al η x x')(hy:al η y y')(h:da q x y=some true):x'=y'/\Instr.sameBits 10000 x' x'=true:=by
 obtain⟨i,hi⟩:=hq;have:q=.bool\/q=.int\/q=.str:=by generalize i.desc=d at hi;cases d<;>first | (cases hi;done) | (injection hi with hi;subst hi;simp)
 rcases this with rfl | rfl | rfl
 ·obtain⟨a,b,rfl,rfl,e⟩:=aa2 h;cases hx;cases hy;have:a=b:=by cases a<;>cases b<;>simp_all
  subst this;exact⟨rfl,by simp[Instr.sameBits]⟩
 ·obtain⟨k,a,b,rfl,rfl,e⟩:=aa3 h;cases hx;cases hy;have:a=b:=by simpa using e.symm
  subst this;exact⟨rfl,by simp[Instr.sameBits]⟩
 ·obtain⟨l,m,l',m',rfl,rfl,e⟩:=aa4 h;cases hx with
  | s _ _ hx=>
  cases hy;have e:=e.symm;rw[bh]at e;have e1:=cL e.1;have e2:=cL e.2;subst e1;subst e2;exact⟨rfl,by unfold Instr.sameBits;rw[Qg hx hx];simp⟩
theorem Qz(aI:dI P ty)(hT:aW η T tmps)(hG:ch η ty.g)(hH:bk W η H n w){t:TypeId}{x y z:Operand}{a:A}
 (hc:dZ ty (.mapUpdate t x y z)=some a)(hs:simple a T H n=some (v,H',n')):
 fw P W η H n w (do Instr.mapUpdate t (ai tmps x) (ai tmps y) (ai tmps z);pure .skip) v H' n':=by
 simp only[dZ]at hc;split at hc
 case h_2=>cases hc
 rename_i i m k z' hi hx hy hz;split at hc
 case h_2=>cases hc
 rename_i kt e hd;split at hc
 case h_2=>cases hc
 rename_i q hq;injection hc with hc;subst hc;have dw:=(aI.ok _ _ hi).desc;rw[hd]at dw;simp only[simple]at hs;split at hs
 case h_2=>cases hs
 rename_i b k' v' hm hk hv;cases mK:ot q k' with
 | false=>rw[mK]at hs;cases hs
 | true=>
  rw[mK]at hs;simp only[cond_true]at hs;have eG:=cw hT hG hx hm;have fE:=cw hT hG hy hk;have Bc:=cw hT hG hz hv;generalize ai tmps x=x' at eG;cases eG with
  | m _ L hL=>
   split at hs
   case h_2=>cases hs
   rename_i es c hb;split at hs
   case h_2=>cases hs
   rename_i es2 new hu;obtain⟨rfl,rfl,rfl⟩:=ea hs;obtain⟨gw,g1,g2⟩:=yj hH hb hL;refine ZG (ψ (br dw ?_));refine ψ (ye g1 (by intro _ _ _ h;cases h) ?_);refine ψ ((D6 aI hq fE mK _).mono ?_);rintro _ w' rfl;rcases aa0 hu with ⟨rfl,rfl,h3⟩ | ⟨i,k0,v0,b0,q',rfl,rfl,h3,h4,h5,rfl⟩
   ·refine ψ ((BV (w:=w') aI hq fE g2 h3).mono ?_);rintro s w' ⟨rfl,hs⟩;have hs:s=none:=hs;subst hs;refine DR g1 (by intro _ _ _ h;cases h) ⟨η,?_⟩;refine Trans.write (o':=.mp _ _) hH hb rfl hL ⟨_,rfl,?_⟩ rfl;have:=g2.append (e:={ key:=ai tmps y,val:=ai tmps z,born:=c}) fE Bc;simpa using this
   ·refine ψ ((BV (w:=w') aI hq fE g2 h3).mono ?_);rintro s w' ⟨rfl,hs⟩;obtain⟨e',q1,rfl⟩:=hs;obtain⟨e2,p1,p2,p3,p4⟩:=g2.get h4;rw[q1]at p1;injection p1 with p1;subst p1;have Jd:∃i:TI,i.desc.key=some q':=by
     unfold lU at hq;split at hq
     case h_2=>cases hq
     rename_i i0 X3;split at hq
     ·rename_i fs pl _;cases pl with
      | false=>cases hq
      | true=>simp only[cond_true]at hq;split at hq<;>cases hq
     ·split at hq
      ·split at hq<;>cases hq
      ·cases hq
     ·split at hq
      ·rename_i q2 Oe;injection hq with hq;injection hq with hq;subst hq;exact⟨i0,Oe⟩
      ·cases hq
    obtain⟨r1,r2⟩:=aa5 Jd fE p2 h5;have:(gw[0+i]?.map (·.key)).getD (ai tmps y)=ai tmps y:=by rw[iI,←nE,q1];exact r1.symm
    refine ψ ?_;rw[this];unfold Instr.keyThatStays;rw[au r2];refine aa (DR g1 (by intro _ _ _ h;cases h) ⟨η,?_⟩);refine Trans.write (o':=.mp _ _) hH hb rfl hL ⟨_,rfl,?_⟩ rfl;have:=g2.set h4 fE Bc;rw[iI,Array.toList_modify];exact this
theorem aa6(aI:dI P ty)(hT:aW η T tmps)(hG:ch η ty.g)(hH:bk W η H n w){t:TypeId}{i:TI}{x y:Operand}{m k:ax}{kt e:Nat}{q:ey}{rt:TypeId}{ts:Array TypeId}
 (qV:ts[0]?=some t)(hi:ty t=some i)(hd:i.desc=.map kt e)(hx:bK ty x=some m)(hy:bK ty y=some k)(hq:lU ty kt=some q)
 (hs:simple (.del q m k) T H n=some (v,H',n')):
 aZ P (Builtin.delete_ ts rt #[ai tmps x,ai tmps y]) w λy w'=>∃η',Trans W η H n w η' H' n' w'/\al η' v y:=by
 have dw:=(aI.ok _ _ hi).desc;rw[hd]at dw;unfold Builtin.delete_;simp only[qV,Br,xH,rf];refine ψ (br dw ?_);simp only[simple]at hs;split at hs
 ·rename_i k' hm hk;cases mK:ot q k' with
  | false=>rw[mK]at hs;cases hs
  | true=>
   rw[mK]at hs;obtain⟨rfl,rfl,rfl⟩:=ea hs;have eG:=cw hT hG hx hm;have fE:=cw hT hG hy hk;generalize ai tmps x=x' at eG;cases eG;refine ψ ((D6 aI hq fE mK _).mono ?_);rintro _ w' rfl;exact aa ⟨η,.refl hH,.u _ _ .nil⟩
 ·rename_i b k' hm hk;cases mK:ot q k' with
  | false=>rw[mK]at hs;cases hs
  | true=>
   rw[mK]at hs;simp only[cond_true]at hs;have eG:=cw hT hG hx hm;have fE:=cw hT hG hy hk;generalize ai tmps x=x' at eG;cases eG with
   | m _ L hL=>
    split at hs
    case h_2=>cases hs
    rename_i es c hb;split at hs
    case h_2=>cases hs
    rename_i es2 hu;obtain⟨rfl,rfl,rfl⟩:=ea hs;obtain⟨gw,g1,g2⟩:=yj hH hb hL;refine ψ (ye g1 (by intro _ _ _ h;cases h) ?_);refine ψ ((D6 aI hq fE mK _).mono ?_);rintro _ w' rfl;rcases aaZ hu with ⟨rfl,h3⟩ | ⟨i,h3,rfl⟩
    ·refine ψ ((BV (w:=w') aI hq fE g2 h3).mono ?_);rintro s w' ⟨rfl,hs⟩;have hs:s=none:=hs;subst hs;refine ψ (DR g1 (by intro _ _ _ h;cases h) (aa ⟨η,?_,.u _ _ .nil⟩));exact Trans.write (o':=.mp _ _) hH hb rfl hL ⟨_,rfl,g2⟩ rfl
    ·refine ψ ((BV (w:=w') aI hq fE g2 h3).mono ?_);rintro s w' ⟨rfl,hs⟩;obtain⟨e',q1,rfl⟩:=hs;refine ψ (DR g1 (by intro _ _ _ h;cases h) (aa ⟨η,?_,.u _ _ .nil⟩));refine Trans.write (o':=.mp _ _) hH hb rfl hL ⟨_,rfl,?_⟩ rfl;have:=g2.erase i;rw[iI];have ω:i<gw.size:=by have:=(oj.1 q1).1;simpa using this
     simpa[Array.eraseIdxIfInBounds,ω]using this
 ·cases hs
end ops
end
section
section trans
variable {W:Nat->Code->AC->Prop}{η:Env}{H:Hp}{n:K}{w:World}
theorem Trans.less(h:bk W η H n w)(k:K):Trans W η H n w η (H.put none k) n w:=
 have hs:∀k' o,(H.put none k).get k'=some o->H.get k'=some o:=λk' o hk=>by
  rw[Tr.fI]at hk;split at hk
  ·cases hk
  ·exact hk
 ⟨.refl _,χ _,h.less hs,.refl _ _,λm b ⟨k',o,L,h1,h2,h3,h4⟩=>.inl ⟨k',o,L,hs _ _ h1,h2,h3,h4⟩,λ_ _=>rfl⟩
theorem Trans.move(h:bk W η H n w){k:K}{o o':O}{L L':Loc}{ob:Obj}(hk:H.get k=some o)(hm:o.mut=true)(hL:η k=some L)(Ku:L'.blk=L.blk)
 (ho:∀η',η.le η'->gO W η' o' L' (some ob)){w':World}(hw:w'={ w with heap:=w.heap.setIfInBounds L.blk ob})(hl:o.DS=false:=by rfl):
 ∃η',Trans W η H n w η' ((H.put none k).put (some o') n) n.succ w'/\η' n=some L':=by
 subst hw;obtain⟨L0,nV,ω,_⟩:=h.obj k o hk;rw[hL]at nV;injection nV with nV;subst nV;have hn:η n=none:=h.free n (χ _);have sM:k≠n:=λe=>by rw[e,hn]at hL;cases hL
 let η':Env:=λq=>if q=n then some L' else η q
 have hle:η.le η':=λq M hq=>by
  show(if q=n then _ else η q)=_
  rw[Ξ (λe=>by rw[e,hn]at hq;cases hq)];exact hq
 have qS:η' n=some L':=au rfl;have hold:∀q,q≠n->η' q=η q:=λq hq=>Ξ hq;have get:∀q o1,((H.put none k).put (some o') n).get q=some o1->(q=n/\o1=o')\/(q≠n/\q≠k/\H.get q=some o1):=by
  intro q o1 hq;rw[Tr.fI]at hq;split at hq
  ·rename_i e;injection hq with hq;exact .inl ⟨e,hq.symm⟩
  ·rename_i e;rw[Tr.fI]at hq;split at hq
   ·cases hq
   ·rename_i e2;exact .inr ⟨e,e2,hq⟩
 refine⟨η',⟨hle,by rw[K.fQ];omega,⟨?_,?_,?_⟩,⟨rfl,rfl,rfl,by simp,λb hb hF=>?_,λb r hb=>?_⟩,?_,λq hq=>hold q λe=>by rw[e]at hq;omega⟩,qS⟩
 ·intro q o1 hq;rcases get q o1 hq with ⟨rfl,rfl⟩ | ⟨h1,h2,h3⟩
  ·exact⟨L',qS,by rw[Ku];simpa using ω,by rw[Ku];simpa[gB,ω]using ho η' hle⟩
  ·obtain⟨M,g1,g2,g3⟩:=h.obj q o1 h3;refine⟨M,by rw[hold q h1];exact g1,by simpa using g2,?_⟩;have aR:=h.sep k q o o1 L M (λe=>h2 e.symm) hk hm h3 hL g1;rw[gB,Ξ aR];exact g3.mono hle
 ·intro q1 q2 o1 o2 M1 M2 aR h1 sN h2 Ga D7;rcases get q1 o1 h1 with ⟨rfl,rfl⟩ | ⟨a1,a2,a3⟩
  ·rcases get q2 o2 h2 with ⟨rfl,rfl⟩ | ⟨b1,b2,b3⟩
   ·exact absurd rfl aR
   ·rw[qS]at Ga;injection Ga with Ga;subst Ga;rw[hold q2 b1]at D7;rw[Ku];exact h.sep k q2 o o2 L M2 (λe=>b2 e.symm) hk hm b3 hL D7
  ·rw[hold q1 a1]at Ga;rcases get q2 o2 h2 with ⟨rfl,rfl⟩ | ⟨b1,b2,b3⟩
   ·rw[qS]at D7;injection D7 with D7;subst D7;rw[Ku];exact h.sep q1 k o1 o M1 L a2 a3 sN hk Ga hL
   ·rw[hold q2 b1]at D7;exact h.sep q1 q2 o1 o2 M1 M2 aR a3 sN b3 Ga D7
 ·intro q hq;rw[K.fQ]at hq;have:q≠n:=λe=>by rw[e]at hq;omega
  rw[hold q this];exact h.free q (by omega)
 ·rw[gB,Ξ];intro e;exact hF ⟨k,o,L,hk,λ_=>hm,hL,e⟩
 ·obtain⟨L0,nV,_,hr⟩:=h.obj k o hk;rw[hL]at nV;injection nV with nV;subst nV;have aR:L.blk≠b:=by
   intro e;rw[e,hb]at hr;cases o with
   | lp _ _ _ _ _ _=>cases hl
   | c _ _ _=>obtain⟨_,_,h1,_⟩:=hr;cases h1
   | r _=>obtain⟨_,_,_,h1,_⟩:=hr;cases h1
   | mp _ _=>obtain⟨_,h1,_⟩:=hr;cases h1
   | mi _ _=>obtain⟨_,_,_,h1⟩:=hr;cases h1
   | me _ _ _=>obtain⟨_,_,_,_,_,h1,_⟩:=hr;cases h1
   | it _ _ _=>obtain⟨_,h1,_⟩:=hr;cases h1
   | b _ _ _=>obtain⟨_,_,_,h1,_⟩:=hr;cases h1
  exact⟨r,by show(w.heap.setIfInBounds L.blk ob)[b]?=_;rw[gB,Ξ aR];exact hb⟩
 ·rintro m b ⟨q,o1,M,hq,sN,hM,hb⟩;rcases get q o1 hq with ⟨rfl,rfl⟩ | ⟨a1,a2,a3⟩
  ·rw[qS]at hM;injection hM with hM;subst hM;exact .inl ⟨k,o,L,hk,λ_=>hm,hL,by rw[←hb,Ku]⟩
  ·rw[hold q a1]at hM;exact .inl ⟨q,o1,M,a3,sN,hM,hb⟩
end trans
theorem aa7(cA c:Nat)(h:¬ cA<=c):Builtin.nextslicecap cA c<=2*cA+1000:=by
 unfold Builtin.nextslicecap;split
 ·omega
 ·split
  ·omega
  ·have:∀(r c:Nat),c<=2*cA+1000->Builtin.growBy cA r c<=2*cA+1000:=by
    intro r
    induction r with
    | zero=>intro c hc;exact hc
    | succ r ih=>
     intro c hc;unfold Builtin.growBy;split
     ·exact hc
     ·exact ih _ (by omega)
   exact this _ _ (by omega)
section ops
variable {P:Program}{ty:Ty}{W:Nat->Code->AC->Prop}{η:Env}{T:Tr V}{H H':Hp}{n n':K}{w:World}{tmps:Array Value}{v:V}
theorem aa8(aI:dI P ty){t:TypeId}{i:TI}(hi:ty t=some i)(h:i.desc≠.other):∃d,P.underlying t=some d/\(d matches .int _)=(match i.desc with | .int _=>true | _=>false):=by have hd:=(aI.ok _ _ hi).desc;generalize i.desc=d at h hd;cases d<;>first | exact absurd rfl h | exact⟨_,hd,rfl⟩ | (obtain⟨_,h1,_⟩:=hd;exact⟨_,h1,rfl⟩) | (obtain⟨_,_,_,h1⟩:=hd;exact⟨_,h1,rfl⟩) | (obtain⟨_,h1⟩:=hd;exact⟨_,h1,rfl⟩)
theorem QA{e z bytes m:Nat}{s:V}{new:List V}(h:wC H n e z bytes s m new=some (v,H',n')):
 (s.len+m)*bytes<=1000000000/\bytes<=100000/\s.len+m<=1000000000/\((s=.ns/\m=0/\v=.ns/\H'=H/\n'=n)\/
  (s=.ns/\m≠0/\kp H n (.c new e 0) (.su n 0 m z)=some (v,H',n'))\/
  (∃b o l c,s=.sl b o l c/\l+m<=c/\m=0/\v=s/\H'=H/\n'=n)\/
  (∃b o l c,s=.sl b o l c/\l+m<=c/\m≠0/\iu H b (o+l*z) new=some H'/\v=.sl b o (l+m) c/\n'=n)\/
  (∃b o l c dR k,s=.sl b o l c/\¬ l+m<=c/\elems H z s=some (k,dR)/\kp H n (.c (dR++new) e 0) (.su n 0 (l+m) z)=some (v,H',n'))\/
  (∃b o l z',s=.su b o l z'/\m=0/\v=s/\H'=H/\n'=n)\/
  (∃b o l r fz dR,s=.su b o l z/\m≠0/\H.get b=some (.c r e fz)/\fz<=o+l*z/\bE new=true/\db r o (l*z)=some dR/\kp (H.put none b) n (.c (dR++new) e (fz - o)) (.su n 0 (l+m) z)=some (v,H',n'))):=by
 unfold wC at h;cases hb:(Nat.ble (Nat.mul (Nat.add s.len m) bytes) 1000000000&&Nat.ble bytes 100000&&Nat.ble (Nat.add s.len m) 1000000000) with
 | false=>rw[hb]at h;cases h
 | true=>
  rw[hb]at h;simp only[Bool.not_true,cond_false]at h;simp only[jF,bh,bA]at hb;refine⟨hb.1.1,hb.1.2,hb.2,?_⟩;split at h
  ·cases hm:Nat.beq m 0 with
   | true=>
    rw[hm]at h;obtain⟨rfl,rfl,rfl⟩:=ea h;exact .inl ⟨rfl,cL hm,rfl,rfl,rfl⟩
   | false=>
    rw[hm]at h;exact .inr (.inl ⟨rfl,(λe=>by rw[e]at hm;cases hm),h⟩)
  ·rename_i b o l c;cases hl:Nat.ble (Nat.add l m) c with
   | true=>
    rw[hl]at h;have hl:l+m<=c:=nD hl;cases hm:Nat.beq m 0 with
    | true=>
     rw[hm]at h;obtain⟨rfl,rfl,rfl⟩:=ea h;exact .inr (.inr (.inl ⟨b,o,l,c,rfl,hl,cL hm,rfl,rfl,rfl⟩))
    | false=>
     rw[hm]at h;simp only[cond_true,cond_false]at h;split at h
     ·rename_i H1 dJ;obtain⟨rfl,rfl,rfl⟩:=ea h;exact .inr (.inr (.inr (.inl ⟨b,o,l,c,rfl,hl,(λe=>by rw[e]at hm;cases hm),dJ,rfl,rfl⟩)))
     ·cases h
   | false=>
    rw[hl]at h;simp only[cond_false]at h;split at h
    ·rename_i k dR he;exact .inr (.inr (.inr (.inr (.inl ⟨b,o,l,c,dR,k,rfl,λe=>by rw[jF]at hl;simp at hl;exact absurd e (by omega),he,h⟩))))
    ·cases h
  ·rename_i b o l z';cases hm:Nat.beq m 0 with
   | true=>
    rw[hm]at h;obtain⟨rfl,rfl,rfl⟩:=ea h;exact .inr (.inr (.inr (.inr (.inr (.inl ⟨b,o,l,z',rfl,cL hm,rfl,rfl,rfl⟩)))))
   | false=>
    rw[hm]at h;simp only[cond_false]at h;split at h
    ·rename_i r e' fz fM;cases hq:(Nat.beq e e'&&Nat.beq z z'&&Nat.ble fz (Nat.add o (Nat.mul l z))&&bE new) with
     | false=>rw[hq]at h;cases h
     | true=>
      rw[hq]at h;simp only[cond_true]at h;simp only[jF,dD,bh,bA]at hq;obtain⟨⟨⟨q1,q2⟩,q3⟩,q4⟩:=hq;subst q1;subst q2;split at h
      ·rename_i dR ho;exact .inr (.inr (.inr (.inr (.inr (.inr ⟨b,o,l,r,fz,dR,rfl,(λe=>by rw[e]at hm;cases hm),fM,q3,q4,ho,h⟩)))))
      ·cases h
    ·cases h
  ·cases h
theorem aa9(aI:dI P ty)(hT:aW η T tmps)(hG:ch η ty.g)(hH:bk W η H n w){t u:TypeId}{i j k:TI}{x y:Operand}{s a:ax}{e:Nat}{rt:TypeId}{ts:Array TypeId}
 (qV:ts[0]?=some t)(aba:ts[1]?=some u)(hi:ty t=some i)(hd:i.desc=.slice e)(hj:ty u=some j)(hjd:j.desc≠.other)(hk:ty e=some k)(hx:bK ty x=some s)(hy:bK ty y=some a)
 (hs:simple (.app e k.size k.bytes k.zero (match j.desc with | .int _=>true | _=>false) s a) T H n=some (v,H',n')):
 aZ P (Builtin.append_ ts rt #[ai tmps x,ai tmps y]) w λy w'=>∃η',Trans W η H n w η' H' n' w'/\al η' v y:=by
 have dw:=(aI.ok _ _ hi).desc;rw[hd]at dw;obtain⟨ud,hud,hz⟩:=aa8 aI hj hjd;generalize hzz:(match j.desc with | .int _=>true | _=>false)=xT at hs hz
 simp only[simple]at hs;split at hs
 case h_2=>cases hs
 rename_i sv xv X7 Ko;have eG:=cw hT hG hx X7;have fE:=cw hT hG hy Ko;generalize ai tmps x=s' at eG;generalize ai tmps y=x' at fE;obtain⟨ti,zv,h1,h2,h3,h4,h5,h6,h7,h8,h9⟩:=(aI.ok _ _ hk).info;have hm:∃m new,wC H n e k.size k.bytes sv m new=some (v,H',n')/\new.length=m*k.size/\(∀d,aZ P (if (!xT)=true then Builtin.firstCells k.size m x' else if m*k.size=0 then pure #[] else do pure (Builtin.zeroCells (←zeroValue e).cells m)) { w with drawn:=d}
  λr w'=>bc η new r.toList/\w'={ w with drawn:=d})/\(xT=false->Builtin.lenOf x'=pure m)/\(xT=true->∃k',x'=.int k' (Int.ofNat m)):=by
  cases xT with
  | true=>
   simp only[cond_true]at hs;split at hs
   case h_2=>cases hs
   rename_i k' m;cases fE;refine⟨m,_,hs,by rw[BP,h8],λd=>?_,(λh=>by cases h),λ_=>⟨_,rfl⟩⟩;simp only[Bool.not_true,mC,if_false];by_cases h0:m*k.size=0
   ·rw[au h0];refine aa ⟨?_,rfl⟩;have:iw k.zero m=[]:=by rw[←xG,BP,h8,h0]
    rw[this];exact .nil
   ·rw[Ξ h0];refine ψ (sP (aI.ok _ _ hk) λz hz _ _ eF=>aa ⟨?_,rfl⟩);exact G9 (hz η) m _ rfl
  | false=>
   simp only[cond_false]at hs;split at hs
   case h_2=>cases hs
   rename_i m new he;obtain⟨q1,q2,q3⟩:=yi (P:=P) hH fE he;refine⟨m,new,hs,q1,λd=>?_,λ_=>q2,λh=>by cases h⟩;simp only[Bool.not_false,if_true];have:=(yi (P:=P) (hH.drawn d) fE he).2.2 m (χ _);rw[pZ (by omega)]at this;exact this
 obtain⟨m,new,hap,hlen,hA,tK,yW⟩:=hm;obtain⟨b1,b2,b3,jQ⟩:=QA hap;have wM:∃base gf oB,s'=.slice base gf oB/\gf=sv.len:=by
  rcases jQ with ⟨rfl,_⟩ | ⟨rfl,_⟩ | ⟨_,_,_,_,rfl,_⟩ | ⟨_,_,_,_,rfl,_⟩ | ⟨_,_,_,_,_,_,rfl,_⟩ | ⟨_,_,_,_,rfl,_⟩ | ⟨_,_,_,_,_,_,rfl,_⟩<;>
   (cases eG<;>exact⟨_,_,_,rfl,rfl⟩)
 obtain⟨base,gf,oB,rfl,Of⟩:=wM;unfold Builtin.append_;simp (config:={ zeta:=false}) only[qV,aba,Br,xH,rf];refine ψ (br dw ?_);refine ψ (mH (aI.ok _ _ hk) ?_);refine ψ (br hud ?_);refine ψ (aZ.mono (Φ:=λz w'=>z=xT/\w'=w) (aa ⟨hz,rfl⟩) ?_);rintro z w' ⟨e1,e2⟩;rw[e2];clear e2 w';subst e1;dsimp (config:={ zeta:=false}) only
 extract_lets jp0 jp
 have i64:IntKind.i64.max=9223372036854775807:=rfl;have X6:(2:Int) ^ 48=281474976710656:=rfl;have abb:(2:Nat) ^ 48=281474976710656:=rfl
 suffices hjp:aZ P (jp m) w λy w'=>∃η',Trans W η H n w η' H' n' w'/\al η' v y by
  cases z with
  | true=>
   obtain⟨k',rfl⟩:=yW rfl;refine ψ (ψ (aa (aa ?_)));have e1:IntKind.i64.wrap (Int.ofNat m)=m:=wrap_i64 (sE _) (by show((m:Nat):Int)<=_;omega)
   extract_lets l j1 j2
   have hl:l=(m:Int):=e1;rw[Ξ (by rw[hl];omega)];show aZ P (j2 ()) w _;refine ψ (yf h1 ?_);have gp:¬ l*(ti.bytes:Int)>2 ^ 48:=by rw[hl,h3,X6,←Int.natCast_mul];have:m*k.bytes<=(sv.len+m)*k.bytes:=gX _ (by omega);omega
   rw[Ξ gp];refine ψ (aa ?_);rw[hl];exact hjp
  | false=>
   rw[tK rfl];exact hjp
 simp (config:={ zeta:=false}) only[jp]
 extract_lets+onlyGivenNames app cA
 have hA:∀d,aZ P app { w with drawn:=d} λr w'=>bc η new r.toList/\w'={ w with drawn:=d}:=hA;have hA0:aZ P app w λr w'=>bc η new r.toList/\w'=w:=hA w.drawn;have oC:cA=sv.len+m:=by show gf+m=_;rw[Of]
 clear_value app cA
 by_cases hn:cA<=oB
 ·rw[au hn];refine ψ (hA0.mono ?_);rintro r w' ⟨hr,hw⟩;rw[hw];have oA:r.toList.length=m*k.size:=by rw[←hr.length,hlen]
  rcases jQ with ⟨rfl,rfl,rfl,rfl,rfl⟩ | ⟨rfl,qi,_⟩ | ⟨b,o,l,c,rfl,Kv,rfl,rfl,rfl,rfl⟩ | ⟨b,o,l,c,rfl,Kv,qi,dJ,rfl,rfl⟩ | ⟨b,o,l,c,dR,q,rfl,Kv,_⟩ | ⟨b,o,l,z',rfl,rfl,rfl,rfl,rfl⟩ | ⟨b,o,l,rr,fz,dR,rfl,qi,hb,Kb,jc,hold,nY⟩
  ·cases eG;have:cA=0:=by simpa[V.len]using oC
   rw[this];exact aa ⟨η,.refl hH,.ns⟩
  ·cases eG;have:cA=m:=by simpa[V.len]using oC
   omega
  ·cases eG with
   | sl _ _ _ _ L hL=>
    have h0:r.toList=[]:=by rw[←xG,oA];simp
    rw[h0];have:cA=gf:=by simpa[V.len]using oC
    rw[this];exact ψ (aa (aa ⟨η,.refl hH,.sl _ _ _ _ L hL⟩))
  ·cases eG with
   | sl _ _ _ _ L hL=>
    obtain⟨L',g1,g2⟩:=G7 (P:=P) hH hr dJ;rw[hL]at g1;injection g1 with g1;subst g1;have tP:cA=gf+m:=by simpa[V.len]using oC
    rw[tP];simp (config:={ zeta:=false}) only[sO];rw[mE L.off];refine ψ (g2.mono ?_);intro _ w' xr;exact aa ⟨η,xr,.sl _ _ _ _ L hL⟩
  ·cases eG;have:cA=gf+m:=by simpa[V.len]using oC
   omega
  ·have h0:r.toList=[]:=by rw[←xG,oA];simp
   have tP:cA=l:=by simpa[V.len]using oC
   rw[h0,tP];cases eG with
   | su _ _ _ _ L c hL q1 q2=>exact ψ (aa (aa ⟨η,.refl hH,.su _ _ _ _ L _ hL q1 q2⟩))
   | se _ _ _ A L hL=>exact ψ (aa (aa ⟨η,.refl hH,.se _ _ _ A L hL⟩))
  ·have tP:cA=l+m:=by simpa[V.len]using oC
   cases eG with
   | se _ _ _ A L hL=>omega
   | su _ _ _ _ L c hL q1 q2=>
    obtain⟨rfl,rfl,rfl⟩:=pv nY;obtain⟨L',g1,g2,cs,fr,g3,g4,g5,g6,g7⟩:=hH.obj b _ hb;rw[hL]at g1;injection g1 with g1;subst g1;have aui:o+(gf+m)*k.size<=L.room:=by have:(gf+m)*k.size<=oB*k.size:=gX _ (by omega);omega
    have auj:(gf+m)*k.size=gf*k.size+m*k.size:=iJ ..;obtain⟨Kw,auk⟩:=ow hold;simp (config:={ zeta:=false}) only[sO];have gK:∀y∈r.toList,y.sL=true:=hr.one jc;refine ψ ((J8 r.toList 0 g3 (by rw[oA];omega) (by omega) gK).mono ?_);rintro _ w2 tQ;obtain⟨η',t1,t2⟩:=Trans.move (w':=w2) (L':=⟨L.blk,L.off+o,L.room - o⟩) (o':=.c (dR++new) e (fz - o)) hH hb rfl hL rfl (λη' hle=>by
     refine⟨_,fr,rfl,by rw[G4];show L.off+o+(L.room - o)=_;omega,?_,?_,?_⟩
     ·show(dR++new).length<=L.room - o;rw[oi,hlen,Kw,ri,uv];omega
     ·intro i v hi;show ∃y,(mG cs (L.off+o+gf*k.size+0) r.toList)[L.off+o+i]?=some y/\al η' v y;rw[G5 _ _ _ (by rw[oA];omega)];have A9:dR.length=gf*k.size:=by rw[Kw,ri,uv];omega
      by_cases X0:i<dR.length
      ·rw[wu X0]at hi;rw[Ξ (by omega)];rw[Kw,List.getElem?_take]at hi;rw[au (by omega),Bw]at hi;obtain⟨y,y1,y2⟩:=g6 (o+i) v hi;exact⟨y,by rw[mE];exact y1,y2.mono hle⟩
      ·rw[zw (by omega)]at hi;obtain⟨y,y1,y2⟩:=hr.get hi;have ω:=(oj.1 y1).1;rw[au (by omega)];exact⟨y,by rw[←y1];congr 1;omega,y2.mono hle⟩
     ·rcases g7 with g7 | g7
      ·exact .inl g7
      ·right;show fr.2<=L.off+o+(fz - o);omega) tQ
    refine aa ⟨η',t1,?_⟩;rw[tP];exact al.su n 0 (gf+m) k.size _ oB t2 (by omega) (by show 0+oB*k.size<=L.room - o;omega)
 ·rw[Ξ hn];have grow:∀(H0:Hp) (dR:List V) (fz:Nat),bk W η H0 n w->Trans W η H n w η H0 n w->(∀d,aZ P (Builtin.firstCells k.size gf (.slice base gf oB)) { w with drawn:=d} λr w'=>bc η dR r.toList/\w'={ w with drawn:=d})->kp H0 n (.c (dR++new) e fz) (.su n 0 cA k.size)=some (v,H',n')->dR.length=gf*k.size->aZ P (do
   let Kx←choose (.appendCap cA oB e)
   askRoom (Kx*(←typeInfo e).bytes)
   let dR←Builtin.firstCells k.size gf (.slice base gf oB)
   let new←app
   let rest:=Builtin.zeroCells (←zeroValue e).cells (Kx - cA)
   pure (Value.slice (some (←newRow e (dR++new++rest))) cA Kx)) w λy w'=>∃η',Trans W η H n w η' H' n' w'/\al η' v y:=by
   intro H0 dR fz Je zX hold nY abd;obtain⟨rfl,rfl,rfl⟩:=pv nY;refine ψ (Po (λt d _=>?_) (λh=>by cases h));generalize sV:(Question.appendCap cA oB e).cut t=cap;have D5:cA<=cap:=by rw[←sV];simp only[Question.cut];omega
   refine ψ (yf h1 (ψ (Qv ?_)));refine ψ ((hold d).mono ?_);rintro r1 w1 ⟨QB,D8⟩;rw[D8];refine ψ ((hA d).mono ?_);rintro r2 w2 ⟨QC,tQ⟩;rw[tQ];refine ψ (sP (aI.ok _ _ hk) λz _ _ _ eF=>?_);refine ψ (ψ (wG (aa (aa ?_))));have abe:(Builtin.zeroCells z.cells (cap - cA)).size=(cap - cA)*k.size:=by simp[Builtin.zeroCells,eF]
   have s1:r1.size=gf*k.size:=by rw[←Bt,←QB.length,abd]
   have s2:r2.size=m*k.size:=by rw[←Bt,←QC.length,hlen]
   have QD:bc η (dR++new) (r1++r2).toList:=by rw[Array.toList_append];exact QB.append QC
   obtain⟨η',k1,k2⟩:=Trans.new (room:=(r1++r2++Builtin.zeroCells z.cells (cap - cA)).size) (o:=.c (dR++new) e fz) (ob:=.cells (r1++r2++Builtin.zeroCells z.cells (cap - cA)) e) (Je.drawn d) (λη' hle=>
    ⟨_,(0,0),rfl,by simp,by rw[zD];show(dR++new).length<=_;rw[QD.length];simp,λi v hi=>by obtain⟨y,y1,y2⟩:=QD.get hi;refine⟨y,?_,y2.mono hle⟩;have ω:=(oj.1 y1).1;show(r1++r2++Builtin.zeroCells z.cells (cap - cA))[0+i]?=_;rw[iI,Array.getElem?_append_left (by simpa using ω),←nE];exact y1,.inl U⟩)
   refine⟨η',?_,?_⟩
   ·exact(zX.drawn d).trans k1
   ·refine al.su n 0 cA k.size _ cap k2 D5 ?_;show 0+cap*k.size<=(r1++r2++Builtin.zeroCells z.cells (cap - cA)).size;rw[zD,zD,s1,s2,abe,←iJ,←iJ,iI];apply gX;omega
  refine ψ (yf h1 ?_);have abf:¬ ((cA:Int)>IntKind.i64.max/\(z=true\/ti.bytes=0)):=by rw[i64];omega
  rw[Ξ abf];refine ψ (yf h1 ?_);have sV:¬ (Builtin.nextslicecap cA oB*ti.bytes>2 ^ 48):=by
   rw[h3,abb];have g1:=aa7 cA oB hn;have g2:Builtin.nextslicecap cA oB*k.bytes<=(2*cA+1000)*k.bytes:=gX _ g1;have g3:(2*cA+1000)*k.bytes=2*((sv.len+m)*k.bytes)+1000*k.bytes:=by rw[oC,iJ,iE]
   omega
  rw[Ξ sV];have first:∀(dR:List V) (q:Nat) (H0:Hp) (s0:V),bk W η H0 n w->al η s0 (.slice base gf oB)->elems H0 k.size s0=some (q,dR)->q=gf->dR.length=gf*k.size/\∀d,aZ P (Builtin.firstCells k.size gf (.slice base gf oB)) { w with drawn:=d} λr w'=>bc η dR r.toList/\w'={ w with drawn:=d}:=by intro dR q H0 s0 Je Ky he hq;obtain⟨q1,_,_⟩:=yi (P:=P) Je Ky he;refine⟨by rw[q1,hq],λd=>?_⟩;have:=(yi (P:=P) (Je.drawn d) Ky he).2.2 gf (by omega);rw[pZ (by rw[q1,hq];exact χ _)]at this;exact this
  rcases jQ with ⟨rfl,rfl,rfl,rfl,rfl⟩ | ⟨rfl,qi,nY⟩ | ⟨b,o,l,c,rfl,Kv,rfl,rfl,rfl,rfl⟩ | ⟨b,o,l,c,rfl,Kv,qi,dJ,rfl,rfl⟩ | ⟨b,o,l,c,dR,q,rfl,Kv,zY,nY⟩ | ⟨b,o,l,z',rfl,rfl,rfl,rfl,rfl⟩ | ⟨b,o,l,rr,fz,dR,rfl,qi,hb,Kb,jc,hold,nY⟩
  ·cases eG;have:cA=0:=by simpa[V.len]using oC
   omega
  ·have tP:cA=m:=by simpa[V.len]using oC
   obtain⟨f1,f2⟩:=first [] 0 H .ns hH eG rfl (by cases eG;rfl)
   exact grow H [] 0 hH (.refl hH) f2 (by rw[tP];exact nY) f1
  ·cases eG;have:cA=gf:=by simpa[V.len]using oC
   omega
  ·cases eG;have:cA=gf+m:=by simpa[V.len]using oC
   omega
  ·have tP:cA=l+m:=by simpa[V.len]using oC
   have hq:q=gf:=by have:=(yi (P:=P) hH eG zY).2.1;have:=congrArg (λs:Sem Nat=>s.run P w) this;simpa[Builtin.lenOf,Sem.run,pure,eq_comm]using this
   obtain⟨f1,f2⟩:=first dR q H _ hH eG zY hq
   exact grow H dR 0 hH (.refl hH) f2 (by rw[tP];exact nY) f1
  ·have tP:cA=l:=by simpa[V.len]using oC
   cases eG<;>omega
  ·have tP:cA=l+m:=by simpa[V.len]using oC
   have zY:elems H k.size (.su b o l k.size)=some (l,dR):=by
    unfold elems;have:Nat.beq k.size k.size=true:=by simp
    simp only[this,cond_true];cases h0:Nat.beq l 0 with
    | true=>
     have:=cL h0;subst this;have abg:=(ow hold).1;have:dR=[]:=by rw[abg];simp
     rw[this];rfl
    | false=>
     have:rowAt H b=some rr:=by unfold rowAt;rw[hb];rfl
     simp only[cond_false,this];have hold:db rr o (Nat.mul l k.size)=some dR:=hold;rw[hold]
   obtain⟨f1,f2⟩:=first dR l H _ hH eG zY (by rw[Of];rfl)
   exact grow (H.put none b) dR (fz - o) (Trans.less hH b).rep (Trans.less hH b) f2 (by rw[tP];exact nY) f1
end ops
end
section
section ops
variable {P:Program}{ty:Ty}{W:Nat->Code->AC->Prop}{η:Env}{T:Tr V}{H H':Hp}{n n':K}{w:World}{tmps:Array Value}{v:V}
theorem abh(aI:dI P ty)(hT:aW η T tmps)(hG:ch η ty.g)(hH:bk W η H n w){t:TypeId}{i k:TI}{x y:Operand}{s a:ax}{e:Nat}{rt:TypeId}{ts:Array TypeId}
 (qV:ts[0]?=some t)(hi:ty t=some i)(hd:i.desc=.slice e)(hk:ty e=some k)(hx:bK ty x=some s)(hy:bK ty y=some a)
 (hs:simple (.A8 k.size s a) T H n=some (v,H',n')):
 aZ P (Builtin.copy_ ts rt #[ai tmps x,ai tmps y]) w λy w'=>∃η',Trans W η H n w η' H' n' w'/\al η' v y:=by
 have dw:=(aI.ok _ _ hi).desc;rw[hd]at dw;simp only[simple]at hs;split at hs
 case h_1=>cases hs
 case h_3=>cases hs
 rename_i dv xv D4 X8 Ko;have eG:=cw hT hG hx X8;have fE:=cw hT hG hy Ko;generalize ai tmps x=d' at eG;generalize ai tmps y=x' at fE;split at hs
 case h_2=>cases hs
 rename_i ld dvs lx vs wL yZ;obtain⟨q1,q2,q3⟩:=yi (P:=P) hH eG wL;obtain⟨p1,p2,p3⟩:=yi (P:=P) hH fE yZ;generalize hm:(bif Nat.ble lx ld then lx else ld)=m at hs
 have yg:m=Nat.min lx ld:=by
  rw[←hm,jF];show _=min lx ld;by_cases h:lx<=ld
  ·rw[rj h];simp[xR h]
  ·rw[gj h];simp[Nat.min_eq_right (Nat.le_of_not_le h)]
 have sN:m<=lx:=by rw[yg];exact Nat.min_le_left ..
 have Jf:m<=ld:=by rw[yg];exact Nat.min_le_right ..
 have wM:∃base c,d'=.slice base ld c:=by
  have kz:∃base l c,d'=.slice base l c:=by
   cases eG<;>first
    | exact⟨_,_,_,rfl⟩
    | (cases wL;done)
    | (exact absurd rfl (D4 _ _))
  obtain⟨base,l,c,rfl⟩:=kz;have:=congrArg (λs:Sem Nat=>s.run P w) q2;have:l=ld:=by simpa[Builtin.lenOf,Sem.run,pure]using this
  exact⟨base,c,by rw[this]⟩
 obtain⟨base,c,rfl⟩:=wM;unfold Builtin.copy_;simp (config:={ zeta:=false}) only[qV,Br,xH,rf];refine ψ (br dw ?_);rw[p2];refine ψ (aa ?_);rw[←yg];refine ψ (mH (aI.ok _ _ hk) ?_);refine ψ ((p3 m sN).mono ?_);rintro r w' ⟨hr,hw⟩;rw[hw];cases h0:Nat.beq m 0 with
 | true=>
  have h0:=cL h0;subst h0;obtain⟨rfl,rfl,rfl⟩:=ea hs;have Ky:r.toList=[]:=by rw[←xG,←hr.length];simp
  rw[Ky];cases base with
  | none=>exact aa ⟨η,.refl hH,.i _ _⟩
  | some A=>exact ψ (aa (aa ⟨η,.refl hH,.i _ _⟩))
 | false=>
  rw[h0]at hs;simp only[cond_false]at hs;have aR:m≠0:=λe=>by rw[e]at h0;cases h0
  have fin:∀(b:K) (o:Nat) (L:Loc) (DT:List V),base=some ⟨L.blk,L.off+o,none⟩->η b=some L->takeN (Nat.mul m k.size) vs=some DT->(match iu H b o DT with | some H=>(some (.i .i64 (Int.ofNat m),H,n):gm) | none=>none)=some (v,H',n')->aZ P (do
   match base with
   | some a=>storeCells a r.toList
   | _=>pure ()
   pure (goInt m)) w λy w'=>∃η',Trans W η H n w η' H' n' w'/\al η' v y:=by
   intro b o L DT hb hL ht dJ;split at dJ
   ·rename_i H1 D9;obtain⟨rfl,rfl,rfl⟩:=ea dJ;obtain⟨rfl,_⟩:=G2 ht;obtain⟨L',g1,g2⟩:=G7 (P:=P) hH hr D9;rw[hL]at g1;injection g1 with g1;subst g1;subst hb;refine ψ (g2.mono ?_);intro _ w' xr;exact aa ⟨η,xr,.i _ _⟩
   ·cases dJ
  split at hs
  ·rename_i DT b o l c' ht;cases eG with
   | sl _ _ _ _ L hL=>exact fin b o L _ rfl hL ht hs
  ·rename_i DT b o l e' ht;cases eG with
   | su _ _ _ _ L c hL _ _=>exact fin b o L _ rfl hL ht hs
   | se=>omega
  ·cases hs
theorem Kz(aI:dI P ty)(hT:aW η T tmps)(hG:ch η ty.g)(hH:bk W η H n w){t:TypeId}{i:TI}{x:Operand}{s:ax}{rt:TypeId}{ts:Array TypeId}{k:Nat}
 (qV:ts[0]?=some t)(hi:ty t=some i)(hd:(k=0/\i.desc=.str)\/(k=1/\∃e,i.desc=.slice e)\/(k=2/\∃k e,i.desc=.map k e))(hx:bK ty x=some s)
 (hs:simple (.len k s) T H n=some (v,H',n')):
 aZ P (Builtin.len_ ts rt #[ai tmps x]) w λy w'=>∃η',Trans W η H n w η' H' n' w'/\al η' v y:=by
 have dw:=(aI.ok _ _ hi).desc;simp only[simple]at hs;unfold Builtin.len_;simp (config:={ zeta:=false}) only[qV,Br,xH];cases hv:aq T s with
 | none=>rw[hv]at hs;rcases hd with ⟨rfl,hd⟩ | ⟨rfl,e,hd⟩ | ⟨rfl,k,e,hd⟩<;>cases hs
 | some u=>
  rw[hv]at hs;have hr:=cw hT hG hx hv;generalize ai tmps x=y at hr;have fin:∀m:Nat,some (V.i .i64 (Int.ofNat m),H,n)=some (v,H',n')->∃η',Trans W η H n w η' H' n' w/\al η' v (goInt m):=λm h=>by obtain⟨rfl,rfl,rfl⟩:=ea h;exact⟨η,.refl hH,.i _ _⟩
  rcases hd with ⟨rfl,hd⟩ | ⟨rfl,e,hd⟩ | ⟨rfl,k,e,hd⟩
  ·rw[hd]at dw;refine ψ (br dw ?_);cases u<;>try (cases hs;done)
   cases hr;exact aa (by rw[uz];exact fin _ hs)
  ·rw[hd]at dw;refine ψ (br dw ?_);cases u<;>try (cases hs;done)
   ·cases hr;exact aa (fin _ hs)
   ·cases hr;exact aa (fin _ hs)
   ·cases hr<;>exact aa (fin _ hs)
  ·rw[hd]at dw;refine ψ (br dw ?_);cases u<;>try (cases hs;done)
   ·cases hr;exact aa (fin _ hs)
   ·rename_i b;cases hr with
    | m _ L hL=>
     simp only at hs;split at hs
     ·rename_i es c hb;obtain⟨gw,g1,g2⟩:=yj hH hb hL;refine ψ (ye g1 (by intro _ _ _ h;cases h) (aa ?_));have:=g2.length;simp at this;rw[←this];exact fin _ hs
     ·cases hs
theorem abi(aI:dI P ty)(hT:aW η T tmps)(hG:ch η ty.g)(hH:bk W η H n w){t:TypeId}{i:TI}{x:Operand}{s:ax}{e:Nat}{rt:TypeId}{ts:Array TypeId}
 (qV:ts[0]?=some t)(hi:ty t=some i)(hd:i.desc=.slice e)(hx:bK ty x=some s)
 (hs:simple (.cap none s) T H n=some (v,H',n')):
 aZ P (Builtin.cap_ ts rt #[ai tmps x]) w λy w'=>∃η',Trans W η H n w η' H' n' w'/\al η' v y:=by
 have dw:=(aI.ok _ _ hi).desc;rw[hd]at dw;simp only[simple]at hs;unfold Builtin.cap_;simp (config:={ zeta:=false}) only[qV,Br,xH];refine ψ (br dw ?_);split at hs
 ·rename_i hv;have hr:=cw hT hG hx hv;obtain⟨rfl,rfl,rfl⟩:=ea hs;generalize ai tmps x=y at hr;cases hr;exact aa ⟨η,.refl hH,.i _ _⟩
 ·rename_i hv;have hr:=cw hT hG hx hv;obtain⟨rfl,rfl,rfl⟩:=ea hs;generalize ai tmps x=y at hr;cases hr;exact aa ⟨η,.refl hH,.i _ _⟩
 ·cases hs
theorem QE{f:Value->Value->Sem Value}{mx:Bool}(hf:∀k x k' y,f (.int k x) (.int k' y)=pure (.int k (if (if mx then y>x else y<x) then y else x))){vs:List V}{xs:List Value}(h:bc η vs xs){a r:V}{a':Value}
 (ha:al η a a')(hr:BH (N9 mx) a vs=some r):aZ P (xs.foldlM f a') w λy w'=>al η r y/\w'=w:=by
 induction vs generalizing xs a a' with
 | nil=>cases h;simp only[BH]at hr;injection hr with hr;subst hr;exact aa ⟨ha,rfl⟩
 | cons b vs ih=>
  cases h with
  | cons _ b' _ xs h1 h2=>
   simp only[BH]at hr;split at hr
   case h_2=>cases hr
   rename_i a2 h3;unfold N9 at h3;split at h3
   case h_2=>cases h3
   rename_i k x k' y;injection h3 with h3;subst h3;cases ha;cases h1;rw[List.foldlM_cons,hf];refine ψ (aa ?_);refine ih h2 ?_ hr;have e:(bif (bif mx then xo x y else xo y x) then y else x)=(if (if mx then y>x else y<x) then y else x):=by
    cases mx
    ·simp only[cond_false,DV,iD,bA,mC,if_false]
    ·simp only[cond_true,DV,iD,bA,if_true,gt_iff_lt]
   rw[←e];exact .i _ _
theorem QF(hT:aW η T tmps)(hG:ch η ty.g)(hH:bk W η H n w){l:List Operand}{l':List ax}(hl:po ty l=some l'){mx:Bool}{rt:TypeId}{ts:Array TypeId}
 (hs:simple (.mm mx l') T H n=some (v,H',n')):
 aZ P ((if mx then Builtin.max_ else Builtin.min_) ts rt (l.map (ai tmps)).toArray) w λy w'=>∃η',Trans W η H n w η' H' n' w'/\al η' v y:=by
 simp only[simple]at hs;split at hs
 case h_2=>cases hs
 rename_i a vs hv;obtain⟨h1,rfl,rfl⟩:=lf hs;have hr:=BO hT hG hl hv;generalize l.map (ai tmps)=xs at hr;cases hr with
 | cons _ a' _ xs ha hx=>
  cases mx
  ·show aZ P (xs.foldlM Builtin.min2 a') w _;refine(QE (mx:=false) (λk x k' y=>by simp[Builtin.min2]) hx ha h1).mono ?_;rintro y w' ⟨h,rfl⟩;exact⟨η,.refl hH,h⟩
  ·show aZ P (xs.foldlM Builtin.max2 a') w _;refine(QE (mx:=true) (λk x k' y=>by simp[Builtin.max2]) hx ha h1).mono ?_;rintro y w' ⟨h,rfl⟩;exact⟨η,.refl hH,h⟩
theorem abj(aI:dI P ty)(hT:aW η T tmps)(hG:ch η ty.g)(hH:bk W η H n w){t:TypeId}{i k:TI}{x:Operand}{s:ax}{e:Nat}{rt:TypeId}{ts:Array TypeId}
 (qV:ts[0]?=some t)(hi:ty t=some i)(hd:i.desc=.slice e)(hk:ty e=some k)(hx:bK ty x=some s)
 (hs:simple (.I5 k.zero s) T H n=some (v,H',n')):
 aZ P (Builtin.clear_ ts rt #[ai tmps x]) w λy w'=>∃η',Trans W η H n w η' H' n' w'/\al η' v y:=by
 have dw:=(aI.ok _ _ hi).desc;rw[hd]at dw;simp only[simple]at hs;unfold Builtin.clear_;simp (config:={ zeta:=false}) only[qV,Br,xH];refine ψ (br dw ?_);cases hv:aq T s with
 | none=>rw[hv]at hs;cases hs
 | some u=>
  rw[hv]at hs;have hr:=cw hT hG hx hv;generalize ai tmps x=y at hr;have wr:∀(b:K) (o l:Nat) (L:Loc) (c:Nat),η b=some L->l≠0->qd n (iu H b o (iw k.zero l))=some (v,H',n')->aZ P (do
   storeCells ⟨L.blk,L.off+o,none⟩ (Builtin.zeroCells (←zeroValue e).cells l).toList
   pure (Value.tuple #[])) w λy w'=>∃η',Trans W η H n w η' H' n' w'/\al η' v y:=by
   intro b o l L c hL hl dJ;cases D9:iu H b o (iw k.zero l) with
   | none=>rw[D9]at dJ;cases dJ
   | some H1=>
    rw[D9]at dJ;obtain⟨rfl,rfl,rfl⟩:=ea dJ;refine ψ (sP (aI.ok _ _ hk) λz hz _ _ eF=>?_);obtain⟨L',g1,g2⟩:=G7 (P:=P) hH (G9 (hz η) l _ rfl) D9;rw[hL]at g1;injection g1 with g1;subst g1;refine ψ (g2.mono ?_);intro _ w' xr;exact aa ⟨η,xr,.u _ _ .nil⟩
  cases u<;>try (cases hs;done)
  ·obtain⟨rfl,rfl,rfl⟩:=ea hs;cases hr;exact aa ⟨η,.refl hH,.u _ _ .nil⟩
  ·rename_i b o l c;simp only at hs;cases hr with
   | sl _ _ _ _ L hL=>
    cases h0:Nat.beq l 0 with
    | true=>
     rw[h0]at hs;obtain⟨rfl,rfl,rfl⟩:=ea hs;obtain rfl:=cL h0;exact aa ⟨η,.refl hH,.u _ _ .nil⟩
    | false=>
     rw[h0]at hs;cases l with
     | zero=>cases h0
     | succ l=>exact wr b o (l+1) L c hL (by omega) hs
  ·rename_i b o l e';simp only at hs;cases h0:Nat.beq l 0 with
   | true=>
    rw[h0]at hs;obtain⟨rfl,rfl,rfl⟩:=ea hs;obtain rfl:=cL h0;cases hr<;>exact aa ⟨η,.refl hH,.u _ _ .nil⟩
   | false=>
    rw[h0]at hs;cases l with
    | zero=>cases h0
    | succ l=>
     cases hr with
     | su _ _ _ _ L c hL _ _=>exact wr b o (l+1) L c hL (by omega) hs
  ·obtain⟨rfl,rfl,rfl⟩:=ea hs;cases hr;exact aa ⟨η,.refl hH,.u _ _ .nil⟩
end ops
end
section
section ops
variable {P:Program}{ty:Ty}{W:Nat->Code->AC->Prop}{η:Env}{T:Tr V}{H H':Hp}{n n':K}{w:World}{tmps:Array Value}{v:V}
theorem abk(hT:aW η T tmps)(hG:ch η ty.g)(hH:bk W η H n w){x:Operand}{x':ax}(hx:bK ty x=some x'){at_:Array TypeId}{rt:TypeId}(hs:simple (.I3 x') T H n=some (v,H',n')):
 aZ P (Builtin.unsafeSliceData_ at_ rt #[ai tmps x]) w λy w'=>∃η',Trans W η H n w η' H' n' w'/\al η' v y:=by
 simp only[simple]at hs;cases hv:aq T x' with
 | none=>rw[hv]at hs;cases hs
 | some u=>
  rw[hv]at hs;have hr:=cw hT hG hx hv;generalize ai tmps x=y at hr;cases u<;>try (cases hs;done)
  ·obtain⟨rfl,rfl,rfl⟩:=ea hs;cases hr;exact aa ⟨η,.refl hH,.np⟩
  ·rename_i b o l c;cases hc:Nat.beq c 0 with
   | true=>simp only[hc,cond_true]at hs;cases hs
   | false=>
    simp only[hc,cond_false]at hs;obtain⟨rfl,rfl,rfl⟩:=ea hs;cases hr with
    | sl _ _ _ _ L hL=>
     have aR:c≠0:=λe=>by rw[e]at hc;cases hc
     refine⟨.pointer (some ⟨L.blk,L.off+o,none⟩),w,?_,η,.refl hH,.p _ _ _ hL⟩;show Sem.run P (if c≠0 then _ else _) w=_
     rw[au aR];rfl
  ·rename_i b o l e;cases hc:Nat.beq l 0 with
   | true=>simp only[hc,cond_true]at hs;cases hs
   | false=>
    simp only[hc,cond_false]at hs;obtain⟨rfl,rfl,rfl⟩:=ea hs;have aR:l≠0:=λe=>by rw[e]at hc;cases hc
    cases hr with
    | su _ _ _ _ L c hL h1 h2=>
     have hnc:c≠0:=by omega
     refine⟨.pointer (some ⟨L.blk,L.off+o,none⟩),w,?_,η,.refl hH,.p _ _ _ hL⟩;show Sem.run P (if c≠0 then _ else _) w=_
     rw[au hnc];rfl
    | se=>exact absurd rfl aR
theorem abl{b:Nat}{c:Array Value}{e:TypeId}{fr:Nat×Nat}(h:w.heap[b]?=some (.cells c e fr)):∀(bs:List UInt8) (o:Nat) (acc:ByteArray),(c.toList.drop o).take bs.length=bs.map (λb=>Value.int .u8 b.toNat)->aZ P (loadBytes ⟨b,o,none⟩ acc bs.length) w λr w'=>r.data.toList=acc.data.toList++bs/\w'=w:=by
 intro bs
 induction bs with
 | nil=>intro o acc _;exact aa ⟨by simp,rfl⟩
 | cons x bs ih=>
  intro o acc hc;have ω:o<c.size:=by
   rcases jC o c.size with h1 | h1
   ·exact h1
   ·rw[re (by simpa using h1)]at hc;simp at hc
  rw[fC (by simpa using ω)]at hc;simp only[fH,sD,lP,List.cons.injEq]at hc;obtain⟨h1,h2⟩:=hc;show aZ P (do match←load ⟨b,o,none⟩ with
   | .int .u8 b'=>loadBytes (Addr.add ⟨b,o,none⟩ 1) (acc.push b'.toNat.toUInt8) bs.length
   | _=>stuck "a byte variable that holds no byte") w _
  refine ψ (J5 (v:=.int .u8 x.toNat) ?_ ?_)
  ·rw[G6 h,nz ω];have:c[o]=c.toList[o]'(by simpa using ω):=by simp
   rw[this,h1]
  ·dsimp only;refine(ih (o+1) (acc.push (Int.toNat (x.toNat:Int)).toUInt8) h2).mono ?_;rintro r w' ⟨g1,rfl⟩;refine⟨?_,rfl⟩;rw[g1];simp
theorem abm{e:TypeId}{count off m:Nat}(hs:P.cellsOf e=1)(h:off+m<=count):liesAt P P.depth e count off e m=true:=by
 have hd:∃d,P.depth=d+1:=⟨2*(P.types.size+Made.depth)+1,rfl⟩;obtain⟨d,hd⟩:=hd;have QG:sameLayout P P.depth e e=true:=by rw[hd];simp[sameLayout]
 have mJ:Go.rowAt P (sameLayout P P.depth · e) P.depth e count off m=true:=by rw[hd]at QG ⊢;simp only[Go.rowAt,hs,Nat.div_one,Nat.mod_one,QG];simp[h]
 rw[hd]at mJ ⊢;simp only[liesAt];rw[hd,mJ];rfl
theorem abn{t:TypeId}{ts:Array TypeId}{rt:TypeId}{A:Addr}{kk:IntKind}{m:Nat}(qV:ts[0]?=some t)(h0:m≠0)(hm:m<=9223372036854775807):
 Builtin.unsafeString_ ts rt #[.pointer (some A),.int kk (Int.ofNat m)]=
  (do
   if←variablesAt A (←elemOf t) (Int.ofNat m).toNat then do
    let s←loadBytes A .empty (Int.ofNat m).toNat
    freeze A (Int.ofNat m).toNat
    pure (.string s)
   else unsupported (.unsafePointer "String: not so many bytes at ptr")):=by
 have uA:¬ (m:Int)<0:=by omega
 have DX:IntKind.i64.max=9223372036854775807:=by decide
 have hmi:¬ (m:Int)>IntKind.i64.max:=by rw[DX];omega
 have hz:¬ (m:Int)=0:=by omega
 show(do
  let n←asInt (.int kk (m:Int))
  let some pt:=ts[0]? | stuck "unsafe.String: no argument types"
  if n<0 then runtimePanic (.error "unsafe.String: len out of range")
  if n>IntKind.i64.max then unsupported (.unsafePointer "String: a length above the largest int")
  if n=0 then pure (.string .empty)
  else if←variablesAt A (←elemOf pt) n.toNat then do
   let s←loadBytes A .empty n.toNat
   freeze A n.toNat
   pure (.string s)
  else unsupported (.unsafePointer "String: not so many bytes at ptr"):Sem Value)=_
 rw[qV];show(do
  if (m:Int)<0 then runtimePanic (.error "unsafe.String: len out of range")
  if (m:Int)>IntKind.i64.max then unsupported (.unsafePointer "String: a length above the largest int")
  if (m:Int)=0 then pure (.string .empty)
  else if←variablesAt A (←elemOf t) (m:Int).toNat then do
   let s←loadBytes A .empty (m:Int).toNat
   freeze A (m:Int).toNat
   pure (.string s)
  else unsupported (.unsafePointer "String: not so many bytes at ptr"):Sem Value)=_
 rw[Ξ uA,Ξ hmi,Ξ hz];rfl
theorem abo(aI:dI P ty)(hT:aW η T tmps)(hG:ch η ty.g)(hH:bk W η H n w){t u:TypeId}{i k:TI}{p l:Operand}{p' l':ax}{ts:Array TypeId}(qV:ts[0]?=some t)(hi:ty t=some i)(hd:i.desc=.ptr u)(hk:ty u=some k)(nk:k.size=1)
 (hp:bK ty p=some p')(hl:bK ty l=some l'){rt:TypeId}(hs:simple (.zG u p' l') T H n=some (v,H',n')):
 aZ P (Builtin.unsafeString_ ts rt #[ai tmps p,ai tmps l]) w λy w'=>∃η',Trans W η H n w η' H' n' w'/\al η' v y:=by
 simp only[simple]at hs;have dw:=(aI.ok _ _ hi).desc;rw[hd]at dw;have QH:P.cellsOf u=1:=by obtain⟨ti,z,h1,h2,_⟩:=(aI.ok _ _ hk).info;simp[Program.cellsOf,h1,h2,nk]
 cases hv:aq T p' with
 | none=>rw[hv]at hs;cases hs
 | some a=>
  cases hw:aq T l' with
  | none=>rw[hv,hw]at hs;cases a<;>cases hs
  | some q=>
   rw[hv,hw]at hs;have X9:=cw hT hG hp hv;have oA:=cw hT hG hl hw;generalize ai tmps p=y at X9;generalize ai tmps l=z at oA;have empty:al η (.s 0 0) (.string .empty):=by have:=al.s (η:=η) 0 0 (by simp);exact this
   cases a<;>try (cases hs;done)
   ·
    cases q<;>try (cases hs;done)
    rename_i kk m;cases m with
    | negSucc=>cases hs
    | ofNat m=>
     cases m with
     | succ m=>cases hs
     | zero=>
      obtain⟨rfl,rfl,rfl⟩:=ea hs;cases X9;cases oA;unfold Builtin.unsafeString_;refine ψ (aa ?_);simp only[qV];refine ψ (aa ?_);exact aa ⟨η,.refl hH,empty⟩
   ·
    rename_i b o;cases q<;>try (cases hs;done)
    rename_i kk m;cases m with
    | negSucc=>cases hs
    | ofNat m=>
     cases X9 with
     | p _ _ L hL=>
     cases oA;cases qi:Nat.beq m 0 with
     | true=>
      simp only[qi,cond_true]at hs;obtain⟨rfl,rfl,rfl⟩:=ea hs;have:=cL qi;subst this;unfold Builtin.unsafeString_;refine ψ (aa ?_);simp only[qV];refine ψ (aa ?_);exact aa ⟨η,.refl hH,empty⟩
     | false=>
      have KA:m≠0:=λe=>by rw[e]at qi;cases qi
      simp only[qi,cond_false]at hs;split at hs
      case h_2=>cases hs
      rename_i r e fz hb;cases uF:(Nat.beq e u&&Nat.ble m 9223372036854775807) with
      | false=>rw[uF]at hs;cases hs
      | true=>
       rw[uF]at hs;simp only[cond_true]at hs;rw[bh]at uF;have he:=cL uF.1;have hm:=nD uF.2;subst he;split at hs
       case h_2=>cases hs
       rename_i vs jT;split at hs
       case h_2=>cases hs
       rename_i qq Kl;obtain⟨rfl,rfl,rfl⟩:=ea hs;obtain⟨L',h1,h2,cs,fr,h3,h4,h5,h6,h7⟩:=hH.obj b _ hb;rw[hL]at h1;injection h1 with h1;subst h1;obtain⟨F7,hlen⟩:=ow jT;have sd:vs.length=m:=by rw[F7,ri,uv];omega
       have mJ:Ev.rowAt H b=some r:=by simp[Ev.rowAt,hb,O.row]
       obtain⟨L2,cs2,e2,Og,k1,k2,k3,k4⟩:=Ka hH mJ jT;rw[hL]at k1;injection k1 with k1;subst k1;rw[h3]at k2;injection k2 with k2;injection k2 with k2 Ea abp;subst k2;subst Ea;subst abp;obtain⟨o1,o2⟩:=Qm Kl k4;rw[sd]at o1 o2;have hK:(bU m qq).length=m:=rz m qq;have eF:L.off+o+m<=cs.size:=by rcases k3 with k3 | k3;exact absurd k3 KA;exact k3
       rw[abn qV KA hm];have abq:w.shape? L.blk=some (e,cs.size):=by simp[World.shape?,h3]
       have hva:(variablesAt ⟨L.blk,L.off+o,none⟩ e (Int.ofNat m).toNat).run P w=.ok true w:=by simp only[variablesAt,program,shape,bind,Sem.bind,Sem.run,abq,pure,QH,Nat.div_one];rw[abm QH (by show L.off+o+m<=cs.size;exact eF)]
       refine ψ (ψ (br dw (aa ?_)));refine ψ ⟨true,w,hva,?_⟩
       ·simp only[if_true];have hmt:Int.toNat (Int.ofNat m)=(bU m qq).length:=by rw[hK];rfl
        rw[hmt];refine ψ ((abl h3 (bU m qq) (L.off+o) .empty (by rw[hK];exact o1)).mono ?_);rintro s w' ⟨g1,rfl⟩;have Gb:s=strOf m qq:=by
         have:s.data=(bU m qq).toArray:=by apply jP;rw[g1];simp
         show s=(⟨(bU m qq).toArray⟩:ByteArray);rw[←this]
        subst Gb;have Ya:w'.freeze ⟨L.blk,L.off+o,none⟩ (bU m qq).length={ w' with heap:=w'.heap.setIfInBounds L.blk (.cells cs e (if fr.1==fr.2 then (L.off+o,L.off+o+m) else (min fr.1 (L.off+o),max fr.2 (L.off+o+m))))}:=by
         unfold World.freeze;rw[hK,Ξ KA];congr 1;apply Array.ext
         ·simp
         ·intro j Oh y9;have hj:j<w'.heap.size:=by simpa using Oh
          rw[Array.getElem_modify,Array.getElem_setIfInBounds hj];by_cases Yb:L.blk=j
          ·subst Yb;rw[au rfl,au rfl];have:w'.heap[L.blk]=.cells cs e fr:=by
            rw[nz hj]at h3;injection h3
           rw[this]
          ·rw[Ξ Yb,Ξ Yb]
        refine⟨.string (strOf m qq),w'.freeze ⟨L.blk,L.off+o,none⟩ (bU m qq).length,rfl,?_⟩;refine⟨η,?_,.s _ _ o2⟩;refine Trans.write (o':=.c r e (bif Nat.ble fz (Nat.add o m) then Nat.add o m else fz)) (ob:=.cells cs e (if fr.1==fr.2 then (L.off+o,L.off+o+m) else (min fr.1 (L.off+o),max fr.2 (L.off+o+m)))) hH hb rfl hL ?_ Ya
        refine⟨cs,_,rfl,h4,h5,h6,.inr ?_⟩;have Kb:fz<=(bif Nat.ble fz (Nat.add o m) then Nat.add o m else fz)/\o+m<=(bif Nat.ble fz (Nat.add o m) then Nat.add o m else fz):=by
         cases hq:Nat.ble fz (Nat.add o m) with
         | true=>have:=nD hq;simp only[cond_true];exact⟨this,χ _⟩
         | false=>
          have:¬ fz<=o+m:=λh=>by have h':Nat.ble fz (o+m)=true:=jB h;have Be:Nat.ble fz (o+m)=false:=hq;rw[h']at Be;cases Be
          simp only[cond_false];omega
        generalize (bif Nat.ble fz (Nat.add o m) then Nat.add o m else fz)=F at Kb
        by_cases Yc:fr.1=fr.2
        ·rw[au (by simpa using Yc)];show L.off+o+m<=L.off+F;omega
        ·rw[Ξ (by simpa using Yc)];show max fr.2 (L.off+o+m)<=L.off+F;rcases h7 with h7 | h7
         ·exact absurd h7.symm Yc
         ·omega
end ops
end
section
section ops
variable {P:Program}{ty:Ty}{W:Nat->Code->AC->Prop}{η:Env}{T:Tr V}{H H':Hp}{n n':K}{w:World}{tmps:Array Value}{v:V}
theorem abr(aI:dI P ty)(hT:aW η T tmps)(hG:ch η ty.g)(hH:bk W η H n w){t:TypeId}{x:Operand}{a:A}
 (hc:dZ ty (.range t x)=some a)(hs:simple a T H n=some (v,H',n')):
 fw P W η H n w (do pure (.value (←Instr.range t (ai tmps x)))) v H' n':=by
 simp only[dZ]at hc;split at hc
 case h_2=>cases hc
 rename_i i x' hi hx;have dw:=(aI.ok _ _ hi).desc;refine gz ?_;have new:∀{o:O} {ob:Obj},kp H n o (.p n 0)=some (v,H',n')->(∀η',η.le η'->gO W η' o ⟨w.heap.size,0,0⟩ (some ob))->aZ P (do pure (Value.pointer (some ⟨←newObj ob,0,none⟩))) w λy w'=>∃η',Trans W η H n w η' H' n' w'/\al η' v y:=by intro o ob nY ho;obtain⟨rfl,rfl,rfl⟩:=pv nY;obtain⟨η',h1,h2⟩:=Trans.new hH ho;exact ψ (wG (aa ⟨η',h1,al.p (η:=η') n 0 _ h2⟩))
 split at hc
 ·rename_i hd;injection hc with hc;subst hc;rw[hd]at dw;simp only[simple]at hs;cases hv:aq T x' with
  | none=>rw[hv]at hs;cases hs
  | some u=>
   rw[hv]at hs;have hr:=cw hT hG hx hv;generalize ai tmps x=y at hr;cases u<;>try (cases hs;done)
   cases hr with
   | s _ _ hm=>
    refine ψ (br dw (ψ (aa ?_)));exact new hs λη' _=>⟨rfl,rfl,hm⟩
 ·rename_i k e hd;injection hc with hc;subst hc;rw[hd]at dw;simp only[simple]at hs;cases hv:aq T x' with
  | none=>rw[hv]at hs;cases hs
  | some u=>
   rw[hv]at hs;have hr:=cw hT hG hx hv;generalize ai tmps x=y at hr;cases u<;>try (cases hs;done)
   rename_i b;cases hr with
   | m _ L hL=>
    simp only at hs;split at hs
    ·rename_i es c hb;obtain⟨gw,g1,g2⟩:=yj hH hb hL;refine ψ (br dw ?_);refine ψ (ye g1 (by intro _ _ _ h;cases h) (ψ (aa ?_)));exact new hs λη' hle=>⟨rfl,L,hle _ _ hL,rfl⟩
    ·cases hs
 ·cases hc
theorem abt(hT:aW η T tmps)(hG:ch η ty.g)(hH:bk W η H n w){x:Operand}{b:Bool}{a:A}{rt:TypeId}
 (hc:dZ ty (.next x b)=some a)(hs:simple a T H n=some (v,H',n')):
 fw P W η H n w (do pure (.value (←Instr.next (ai tmps x) b rt))) v H' n':=by
 simp only[dZ]at hc;split at hc
 case h_2=>cases hc
 rename_i x' hx;cases b with
 | false=>cases hc
 | true=>
  simp only[cond_true]at hc;injection hc with hc;subst hc;simp only[simple]at hs;refine gz ?_;cases hv:aq T x' with
  | none=>rw[hv]at hs;cases hs
  | some u=>
   rw[hv]at hs;have hr:=cw hT hG hx hv;generalize ai tmps x=y at hr;cases u<;>try (cases hs;done)
   rename_i k o;cases o with
   | succ o=>cases hs
   | zero=>
    simp only at hs;split at hs
    case h_2=>cases hs
    rename_i l m pos hb;cases hr with
    | p _ _ L hL=>
     obtain⟨L',g1,g2,g0,g3,g4⟩:=hH.obj k _ hb;rw[hL]at g1;injection g1 with g1;subst g1;rw[g0];refine ψ (ye g3 (by intro _ _ _ h;cases h) ?_);dsimp only;rw[uz];cases hp:Nat.blt pos l with
     | false=>
      rw[hp]at hs;obtain⟨rfl,rfl,rfl⟩:=ea hs;have:¬ pos<l:=by rw[fJ]at hp;simpa using hp
      rw[Ξ this];exact aa ⟨η,.refl hH,.u _ _ (.cons _ _ _ _ (.b _) .nil)⟩
     | true=>
      rw[hp]at hs;obtain⟨rfl,rfl,rfl⟩:=ea hs;have:pos<l:=by rw[fJ]at hp;simpa using hp
      rw[au this,Ql g4];refine ψ (DR g3 (by intro _ _ _ h;cases h) (aa ⟨η,?_,?_⟩))
      ·exact Trans.write (o':=.it _ _ _) hH hb rfl hL ⟨g0,rfl,g4⟩ rfl
      ·exact .u _ _ (.cons _ _ _ _ (.b _) (.cons _ _ _ _ (.i _ _) (.cons _ _ _ _ (.i _ _) .nil)))
theorem find_born:∀{es:List (V×V×Nat)} {l:List MapEntry},eE η es l->∀{t:Nat} {k v:V},GU t es=some (k,v)->∃e,l.find? (·.born==t)=some e/\al η k e.key/\al η v e.val
 | [],[],_,t,k,v,h=>by cases h
 | (k1,v1,b1)::es,e::l,⟨h1,h2,h3,h4⟩,t,k,v,h=>by
  simp only[GU]at h;rw[List.find?_cons];cases hb:Nat.beq b1 t with
  | true=>
   rw[hb]at h;simp only[cond_true]at h;injection h with h;injection h with q1 q2;subst q1;subst q2;have:(e.born==t)=true:=by rw[h3];simpa using cL hb
   rw[this];exact⟨e,rfl,h1,h2⟩
  | false=>
   rw[hb]at h;have:(e.born==t)=false:=by rw[h3,Bool.eq_false_iff];intro hq;rw[beq_iff_eq]at hq;subst hq;simp at hb
   rw[this];exact find_born h4 h
 | [],_::_,h,_,_,_,_=>h.elim
 | _::_,[],h,_,_,_,_=>h.elim
theorem abu(hT:aW η T tmps)(hG:ch η ty.g)(hH:bk W η H n w){x:Operand}{a:A}
 (hc:dZ ty (.entry x)=some a)(hs:simple a T H n=some (v,H',n')):
 fw P W η H n w (do pure (.value (←Instr.entry (ai tmps x)))) v H' n':=by
 simp only[dZ]at hc;split at hc
 case h_2=>cases hc
 rename_i x' hx;injection hc with hc;subst hc;simp only[simple]at hs;refine gz ?_;cases hv:aq T x' with
 | none=>rw[hv]at hs;cases hs
 | some u=>
  rw[hv]at hs;have hr:=cw hT hG hx hv;generalize ai tmps x=y at hr;cases u<;>try (cases hs;done)
  rename_i k o;cases o with
  | succ o=>cases hs
  | zero=>
   simp only at hs;split at hs
   case h_2=>cases hs
   rename_i m c t hb;split at hs
   case h_2=>cases hs
   rename_i es c' hm;cases tL:Nat.beq c c' with
   | false=>rw[tL]at hs;cases hs
   | true=>
    rw[tL]at hs;simp only[cond_true]at hs;split at hs
    case h_2=>cases hs
    rename_i kk vv hf;obtain⟨rfl,rfl,rfl⟩:=ea hs;obtain rfl:=cL tL;cases hr with
    | p _ _ L hL=>
     obtain⟨L',g1,g2,g0,Lm,since,seen,g3,g4,g5⟩:=hH.obj k _ hb;rw[hL]at g1;injection g1 with g1;subst g1;obtain⟨gw,q1,q2⟩:=yj hH hm g3;rw[g0];obtain⟨e,p1,p2,p3⟩:=find_born q2 hf;refine ψ (ye g4 (by intro _ _ _ h;cases h) ?_);dsimp only;rw[g5];refine ψ (ye q1 (by intro _ _ _ h;cases h) ?_);dsimp only;rw[Ξ (by simp)];have:gw.find? (·.born==t)=some e:=by rw[←Array.find?_toList];exact p1
     rw[this];exact aa ⟨η,.refl hH,.u _ _ (.cons _ _ _ _ p2 (.cons _ _ _ _ p3 .nil))⟩
theorem abv(aI:dI P ty)(hT:aW η T tmps)(hG:ch η ty.g)(hH:bk W η H n w){c:Call}{b:Builtin}(hb:c.callee=.builtin b){rt:TypeId}{a:A}
 (hc:sK ty c=some a)(hs:simple a T H n=some (v,H',n'))(cs:Array Bool):
 fw P W η H n w (builtin b c.argTypes rt cs (c.args.map (ai tmps))) v H' n':=by
 obtain⟨callee,⟨args⟩,⟨argTypes⟩⟩:=c;simp only at hb;subst hb;rw[show(Array.map (ai tmps) ⟨args⟩)=(args.map (ai tmps)).toArray by simp];simp only[sK]at hc;split at hc
 ·rename_i s x t u tl;split at hc
  case h_2=>cases hc
  rename_i i j s' x' hi hj tR jV;split at hc
  ·cases hc
  ·rename_i jd e hd hU;split at hc
   ·rename_i k hk;injection hc with hc;subst hc;exact gz (aa9 aI hT hG hH rfl rfl hi (by simpa using hd) hj (by simpa using hU) hk tR jV hs)
   ·cases hc
  ·cases hc
 ·rename_i x t tl;split at hc
  case h_2=>cases hc
  rename_i i x' hi jV;split at hc
  case h_2=>cases hc
  injection hc with hc;subst hc;exact gz (abk hT hG hH jV hs)
 ·rename_i p l t tl;split at hc
  case h_2=>cases hc
  rename_i i p' l' hi KB qT;split at hc
  case h_2=>cases hc
  rename_i u hd;split at hc
  case h_2=>cases hc
  rename_i _ _ hk;injection hc with hc;subst hc;exact gz (abo aI hT hG hH (ts:=(t::tl).toArray) U hi (by simpa using hd) hk rfl KB qT hs)
 ·rename_i d x t tl;split at hc
  case h_2=>cases hc
  rename_i i d' x' hi CZ jV;split at hc
  case h_2=>cases hc
  rename_i e hd;split at hc
  case h_2=>cases hc
  rename_i k hk;injection hc with hc;subst hc;exact gz (abh aI hT hG hH rfl hi hd hk CZ jV hs)
 ·rename_i x t tl;split at hc
  case h_2=>cases hc
  rename_i i x' hi jV;have dw:=(aI.ok _ _ hi).desc;split at hc
  ·rename_i m e hd;injection hc with hc;subst hc;rw[hd]at dw;obtain⟨rfl,rfl,rfl⟩:=ea (a:=.i .i64 (Int.ofNat m)) (b:=H) (c:=n) hs;refine gz ?_;exact ψ (br dw (aa ⟨η,.refl hH,.i _ _⟩))
  ·rename_i e hd;rw[hd]at dw;split at hc
   ·rename_i m e2 _ _ _ hk;injection hc with hc;subst hc;have KC:=(aI.ok _ _ hk).desc;obtain⟨rfl,rfl,rfl⟩:=ea (a:=.i .i64 (Int.ofNat m)) (b:=H) (c:=n) hs;refine gz ?_;exact ψ (br dw (ψ (br KC (aa ⟨η,.refl hH,.i _ _⟩))))
   ·cases hc
  ·rename_i hd;injection hc with hc;subst hc;exact gz (Kz aI hT hG hH rfl hi (.inl ⟨rfl,hd⟩) jV hs)
  ·rename_i e hd;injection hc with hc;subst hc;exact gz (Kz aI hT hG hH rfl hi (.inr (.inl ⟨rfl,e,hd⟩)) jV hs)
  ·rename_i k e hd;injection hc with hc;subst hc;exact gz (Kz aI hT hG hH rfl hi (.inr (.inr ⟨rfl,k,e,hd⟩)) jV hs)
  ·cases hc
 ·rename_i x t tl;split at hc
  case h_2=>cases hc
  rename_i i x' hi jV;split at hc
  case h_2=>cases hc
  rename_i e hd;injection hc with hc;subst hc;exact gz (abi aI hT hG hH rfl hi hd jV hs)
 ·rename_i m k t tl;split at hc
  case h_2=>cases hc
  rename_i i m' k' hi Ki gJ;split at hc
  case h_2=>cases hc
  rename_i kt e hd;split at hc
  case h_2=>cases hc
  rename_i q hq;injection hc with hc;subst hc;exact gz (aa6 aI hT hG hH rfl hi hd Ki gJ hq hs)
 ·skip
  split at hc
  case h_2=>cases hc
  rename_i l' hl;injection hc with hc;subst hc;have:=QF (mx:=true) (rt:=rt) (ts:=⟨argTypes⟩) (P:=P) (w:=w) hT hG hH hl hs;exact gz (by simpa using this)
 ·skip
  split at hc
  case h_2=>cases hc
  rename_i l' hl;injection hc with hc;subst hc;have:=QF (mx:=false) (rt:=rt) (ts:=⟨argTypes⟩) (P:=P) (w:=w) hT hG hH hl hs;exact gz (by simpa using this)
 ·rename_i x t tl;split at hc
  case h_2=>cases hc
  rename_i i x' hi jV;split at hc
  case h_2=>cases hc
  rename_i e hd;split at hc
  case h_2=>cases hc
  rename_i k hk;injection hc with hc;subst hc;exact gz (abj aI hT hG hH rfl hi hd hk jV hs)
 ·cases hc
theorem abw(aI:dI P ty)(hT:aW η T tmps)(hG:ch η ty.g)(hH:bk W η H n w){o:Oper}{a:A}(hc:dZ ty o.op=some a)
 (hs:simple a T H n=some (v,H',n')):fw P W η H n w (execOp (ai tmps) o) v H' n':=by
 obtain⟨dst,op,rt,pos,after,gd⟩:=o;simp only at hc;cases op with
 | move x=>
  have sW:=hc;simp only[dZ]at hc;split at hc
  ·rename_i x' hx;injection hc with hc;subst hc;exact Px hT hG hH hx hs
  ·cases hc
 | assign x=>
  have sW:=hc;simp only[dZ]at hc;split at hc
  ·rename_i x' hx;injection hc with hc;subst hc;exact Px hT hG hH hx hs
  ·cases hc
 | pick c x y=>exact ZQ hT hG hH hc hs
 | alloc e=>exact ZJ aI hH hc hs
 | box e x=>exact ZK hT hG hH hc hs
 | build t ps=>exact ZP aI hT hG hH hc hs
 | buildSlice t l ps=>exact ZR aI hT hG hH hc hs
 | load t x=>exact ZH aI hT hG hH hc hs
 | store t x y=>exact ZI aI hT hG hH hc hs
 | nilCheck x=>exact ZS hT hG hH hc hs _ rfl
 | binOp op t x y u=>exact aaE aI hT hG hH hc hs
 | unOp op t x=>exact aaF hT hG hH hc hs
 | convert s d x=>exact aaN aI hT hG hH hc hs
 | makeInterface t x=>exact ZT aI hT hG hH hc hs
 | makeFunc f x c=>exact ZU hT hG hH hc hs
 | makeMap t r=>exact ZV aI hH hc hs
 | makeSlice t l c=>exact aaP aI hT hG hH hc hs
 | slice t x lo hi mx=>exact aaT aI hT hG hH hc hs
 | fieldAddr s x f=>exact ZW aI hT hG hH hc hs
 | field s x f=>exact ZX aI hT hG hH hc hs
 | indexAddr t x i=>exact ZY aI hT hG hH hc hs
 | index t x i=>exact Z0 aI hT hG hH hc hs
 | lookup t x i ok=>exact aa1 aI hT hG hH hc hs
 | mapUpdate t m k x=>exact Qz aI hT hG hH hc hs
 | insert t m k x=>exact Qz aI hT hG hH hc hs
 | range t x=>exact abr aI hT hG hH hc hs
 | next x s=>exact abt hT hG hH hc hs
 | entry x=>exact abu hT hG hH hc hs
 | typeAssert x xt t ok=>exact Z2 aI hT hG hH hc hs
 | extract x i=>exact Z1 hT hG hH hc hs
 | call c=>
  have hc:sK ty c=some a:=hc;cases tL:c.callee with
  | value f=>
   simp only[sK,tL]at hc;split at hc
   ·injection hc with hc;subst hc;cases hs
   ·cases hc
  | invoke r m=>simp only[sK,tL]at hc;cases hc
  | builtin b=>
   have:=abv (rt:=rt) (w:=w) (P:=P) aI hT hG hH tL hc hs (c.args.map fun | .const _=>true | _=>false);show fw P W η H n w (do let d←resolve (ai tmps) c rt;Go.invoke d.target d.args) v H' n';unfold resolve;simp only[tL];exact this
 | panic x=>
  simp only[dZ]at hc;split at hc
  ·injection hc with hc;subst hc;cases hs
  ·cases hc
 | _=>cases hc
end ops
end
end Go.Ev
