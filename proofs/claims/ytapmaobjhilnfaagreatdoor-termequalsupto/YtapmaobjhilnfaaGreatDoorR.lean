/- A part of the proof. -/
import Derived.WideShapes
import Derived.ChangeShapes
import Derived.RowKit
import Derived.ReadAgain
import Derived.Test.YtapmaobjhilnfaaGreatDoorCards
import Derived.Test.YtapmaobjhilnfaaGreatDoorTie
import Derived.OpenShut
import Derived.Deep.DeepHandedRow
import Derived.LaidHandle
import Derived.ProofKit
import Derived.Test.YtapmaobjhilnfaaGreatDoorV
set_option linter.all false
section
set_option maxRecDepth 1000000
namespace Go.Proofs.YtapmaobjhilnfaaGreatDoor
open Go Go.Ev Go.ChangeShapes Go.WideShapes Go.Proofs.Tryz
theorem called{A:Type}{enc:TypeId×Value->A}{W:World}(hL:laidMetH prog Rows.termEqualsUptoRow.laid W){y0 y1:Value}{f0 f1:Nat}{x0 x1:DataW A×List MemPlace}
 (h0:DataW.trod enc prog W 0 (λ_=>true) true f0 23 [y0]=some x0)(h1:DataW.trod enc prog W 0 (λ_=>true) true f1 23 [y1]=some x1)(b0:Rows.uptoBulk x0.1<=1048576)(b1:Rows.uptoBulk x1.1<=1048576):
 Calls prog 3 [y0,y1].toArray W λe w'=>e=.returned (.bool true)/\w'.os=W.os/\w'.output=W.output/\W.heap.size<=w'.heap.size/\∀i,i<W.heap.size->w'.heap[i]?=W.heap[i]?:=by
 obtain⟨s,ga⟩:=start hL;obtain⟨η1,H1,n1,v1,t1,a1,a2,a3,a4,a5,a6⟩:=Xi XS s (xn (by omega:0<7)) (ga _ _ F3).1 F3 h0;have Zn:=ga.ext a3;obtain⟨η2,H2,n2,v2,t2,c1,c2,c3,c4,c5,c6⟩:=Xi XS a2 (a1 _ _ (xn (by omega:0<7))) (Zn _ _ F3).1 (Zn _ _ F3).2 h1;have key:=aoo c2.rep (aoE.mono (a1.trans c1)) (.cons _ _ _ _ (a5.mono c1) (.cons _ _ _ _ c5 .nil)) (Zn.ext c3) (XU a6 b0) (XU c6 b1) (a4.ext c3) c4;intro cs;obtain⟨e,w',fr,⟨he,η',H',n',ht⟩,h2⟩:=key cs;refine⟨e,w',fr,⟨he,ht.kept.os,ht.kept.output,ht.kept.size,λi hi=>ht.kept.block i hi ?_⟩,h2⟩;rintro⟨k,o,L,q1,q2,_,_⟩;obtain⟨l,rfl⟩:=c2.ro k o q1;have:=q2 rfl;cases this
theorem aoF{W W':World}(hk:∀i,i<W.heap.size->W'.heap[i]?=W.heap[i]?){p:MemPlace}(hp:p.block<W.heap.size):W.sameAt W' p:=by
 cases p with
 | cell b o=>
  show W'.cell? _=W.cell? _;unfold World.cell?;rw[hk b hp]
 | map b=>
  show W'.heap[b]?=W.heap[b]?;exact hk b hp
theorem opened{H:Type}{enc:TypeId×Value->H}{W:World}{base:Nat}{args:Array Value}{ds gs:List (DataW H)}{before:List MemPlace}
 (mV:∀(j:Nat) t v,f3.params[j]?=some t->args[j]?=some v->Value.okWide prog W .any base t v)
 (hW:DataW.Whole enc prog f3.params.toList Rows.termEqualsSpec.vars false W args.toList ds gs before):
 ∃v0 v1 d0 d1 p0 p1 f0 f1,args=#[v0,v1]/\ds=[d0,d1]/\gs=[]/\before=p0++p1/\DataW.trod enc prog W 0 (λ_=>true) true f0 23 [v0]=some (d0,p0)/\DataW.trod enc prog W 0 (λ_=>true) true f1 23 [v1]=some (d1,p1)/\v0.cells.toList=[v0]/\v1.cells.toList=[v1]:=by
 obtain⟨p,q,hA,hV,rfl,Kb,oX⟩:=hW;rw[params3]at hA mV;obtain⟨v0,vs0,d0,ds0,p0,q0,jI,rfl,rfl,h0,r0⟩:=trodAll_cons hA;obtain⟨v1,vs1,d1,Jg,p1,q1,rfl,rfl,rfl,h1,r1⟩:=trodAll_cons r0;obtain⟨rfl,rfl,rfl⟩:=trodAll_nil r1;obtain⟨rfl,rfl⟩:=trodVars_none hV;obtain rfl:args=#[v0,v1]:=by cases args;simp_all
 obtain⟨a0,l0,c0,rfl⟩:=okWide_slice underlying23 (mV 0 23 v0 rfl rfl);obtain⟨a1,l1,c1,rfl⟩:=okWide_slice underlying23 (mV 1 23 v1 rfl rfl);obtain⟨f0,g0⟩:=h0;obtain⟨f1,g1⟩:=h1;exact⟨_,_,d0,d1,p0,p1,f0,f1,rfl,rfl,rfl,by simp,g0,g1,rfl,rfl⟩
end Go.Proofs.YtapmaobjhilnfaaGreatDoor
end
section
set_option maxRecDepth 1000000
namespace Go.Proofs.YtapmaobjhilnfaaGreatDoor
open Go Go.Ev Go.ChangeShapes Go.WideShapes Go.RowKit Go.Proofs.Tryz
theorem kids:Kids prog (· <prog.types.size):=kids_rows (by kernel_rfl) (by kernel_rfl)
theorem full:∀t e,t<prog.types.size->prog.underlying t=some (.slice e)->0<prog.cellsOf e:=slices_full_of prog (by kernel_rfl)
theorem aoG(H:Type)(enc:TypeId×Value->H)(W:World)(base:Nat)(args:Array Value)(ds gs:List (DataW H))(before:List MemPlace)
 (mV:∀(j:Nat) t v,f3.params[j]?=some t->args[j]?=some v->Value.okWide prog W .any base t v)
 (hW:DataW.Whole enc prog f3.params.toList Rows.termEqualsSpec.vars false W args.toList ds gs before)(hb:Rows.uptoSmall H (ds++gs)=true)(hL:laidMetH prog Rows.termEqualsUptoRow.laid W):
 Calls prog 3 args W λe W'=>∃v,e=.returned v/\Rows.termEqualsSpec.post enc prog f3 false true false false W args v W':=by
 have ω:=λp hp=>hW.lt p hp;obtain⟨v0,v1,d0,d1,p0,p1,f0,f1,rfl,rfl,rfl,rfl,g0,g1,k0,k1⟩:=opened mV hW;have ku:Rows.uptoBulk d0<=1048576/\Rows.uptoBulk d1<=1048576:=by
  have:Rows.uptoBulkAll [d0,d1]<=1048576:=by simpa[Rows.uptoSmall]using hb
  simp only[Rows.uptoBulkAll]at this;omega
 intro cs;obtain⟨e,W',fr,⟨he,ho,hu,hs,hk⟩,st⟩:=called hL g0 g1 ku.1 ku.2 cs;have same:∀p∈p0++p1,W.sameAt W' p:=λp hp=>aoF hk (ω p hp);have g0':=DataW.trod_carry _ _ _ _ g0 (λp hp=>same p (List.mem_append_left _ hp));have xy:=DataW.trod_carry _ _ _ _ g1 (λp hp=>same p (Bx _ hp));have hA:DataW.TrodAll enc prog W' 0 (λ_=>true) true [23,23] [v0,v1] [d0,d1] (p0++p1):=⟨p0,p1,⟨f0,by rw[k0];exact g0'⟩,⟨p1,[],⟨f1,by rw[k1];exact xy⟩,rfl,by simp⟩,rfl⟩;have A0:=DataW.TrodAll.respare (spare':=λb=>decide (b<W.heap.size)) kids full (by decide+kernel) hA (λp hp=>by simpa using ω p hp);refine⟨e,W',fr,⟨.bool true,he,[d0,d1],[],p0++p1,[],p0++p1,[],hW,?_,?_,rfl,⟨ho,hu,λi hi=>?_⟩,λh=>by cases h⟩,st⟩
 ·exact trodAll_cons_mk (shut_bool underlying4 true) trodAll_mk0
 ·rw[params3];exact A0
 ·rw[hk i hi];split
  ·rename_i h1 h2;rw[h1]at h2;injection h2 with h2;injection h2 with h3 h4 h5;subst h3;subst h4;subst h5;exact⟨rfl,rfl,rfl,λ_ _=>rfl⟩
  ·rename_i h1 h2;rw[h1]at h2;injection h2 with h2;injection h2 with h3 h4;exact Or.inr ⟨h3.symm,h4.symm⟩
  ·rfl
end Go.Proofs.YtapmaobjhilnfaaGreatDoor
end
section
set_option maxRecDepth 1000000
namespace Go.Proofs.YtapmaobjhilnfaaGreatDoor
open Go Go.Ev Go.ChangeShapes Go.WideShapes Go.ChangeAt Go.RowKit Go.Proofs.Tryz
theorem own:ownKnob prog.godebug=none:=by kernel_rfl
def aoH:V->Value
 | .i k n=>.int k n
 | .s l n=>.string (strOf l n)
 | .f g _ _=>.func (.func g) #[] #[]
 | _=>.nilFunc
noncomputable def CU(q:Nat):Array Value:=((rowAt (cz q)).map aoH).toArray
def CV(cs:Array Value):Obj->Obj
 | .cells _ t frozen=>.cells cs t frozen
 | o=>o
noncomputable def N7(os:Os):World:=
 {World.holding prog os ⟨#[],#[],[]⟩ with heap:=((((((World.holding prog os ⟨#[],#[],[]⟩).heap.modify 0 (CV (CU 0))).modify 1 (CV (CU 1))).modify 2 (CV (CU 2))).modify 4 (CV (CU 4))).modify 5 (CV (CU 5))).modify 6 (CV (CU 6))}
theorem aoI(os:Os):laidMetH prog Rows.termEqualsUptoRow.laid ((N7 os).forCall (λ_ _=>0) ⟨#[],#[.slice none 0 0,.slice none 0 0],[]⟩).memory:=
 laidMetH_of_parts3 (fuel:=8) (laidMet_of_run' 8 (by kernel_rfl) (by kernel_rfl)) (by kernel_rfl) (by kernel_rfl)
theorem reads(os:Os){H:Type}(enc:TypeId×Value->H):∃places,DataW.whole enc prog ((N7 os).forCall (λ_ _=>0) ⟨#[],#[.slice none 0 0,.slice none 0 0],[]⟩).memory f3.params.toList Rows.termEqualsSpec.vars false #[Value.slice none 0 0,Value.slice none 0 0].toList 8=some ([.nil,.nil],[],places):=
 ⟨[],by kernel_rfl⟩
theorem aoJ(os:Os)(started:os.Started)(H:Type)(enc:TypeId×Value->H)(F:Stop.Interp):
 ReturnsInHanded {} checked os 3 .any ((Rows.OpenSpec.upto Rows.termEqualsSpec).preRow enc prog f3 Rows.termEqualsUptoRow.domain false Rows.termEqualsUptoRow.laid) (((Rows.OpenSpec.upto Rows.termEqualsSpec).at F).post enc prog f3 false true false false):=by
 obtain⟨places,hx⟩:=reads os enc;refine returnsInHanded_of_row (C:=checked) (s:=Rows.OpenSpec.upto Rows.termEqualsSpec) own started (by kernel_rfl) func3
  (witness_row_at (enc:=enc) (C:=checked) false (N7 os) #[.slice none 0 0,.slice none 0 0] rfl (by kernel_rfl) (by kernel_rfl) (by kernel_rfl)
   (OpenSpec.preRow_of_cond 8 hx (by kernel_rfl) (λk hk=>by cases hk;kernel_rfl) (by kernel_rfl) (aoI os))) ?_
 intro W base args ds gs before mV hW _ uF _ hL _ _;exact aoG H enc W base args ds gs before mV hW (uF _ rfl) hL
end Go.Proofs.YtapmaobjhilnfaaGreatDoor
end
