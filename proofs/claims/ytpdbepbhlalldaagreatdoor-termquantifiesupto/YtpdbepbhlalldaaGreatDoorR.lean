/- A part of the proof. -/
import Derived.WideShapes
import Derived.ChangeShapes
import Derived.RowKit
import Derived.ReadAgain
import Derived.Test.YtpdbepbhlalldaaGreatDoorCards
import Derived.Test.YtpdbepbhlalldaaGreatDoorTie
import Derived.OpenShut
import Derived.Deep.DeepHandedRow
import Derived.LaidHandle
import Derived.ProofKit
import Derived.Test.YtpdbepbhlalldaaGreatDoorV
set_option linter.all false
section
set_option maxRecDepth 1000000
namespace Go.Proofs.YtpdbepbhlalldaaGreatDoor
open Go Go.Ev Go.ChangeShapes Go.WideShapes Go.Proofs.Tryz
theorem called{A:Type}{enc:TypeId×Value->A}{W:World}(hL:laidMetH prog Rows.termQuantifiesUptoRow.laid W){y0 y1 y2:Value}{f0 f1 f2:Nat}{x0 x1 x2:DataW A×List MemPlace}
 (h0:DataW.trod enc prog W 0 (λ_=>true) true f0 3 [y0]=some x0)(h1:DataW.trod enc prog W 0 (λ_=>true) true f1 28 [y1]=some x1)(h2:DataW.trod enc prog W 0 (λ_=>true) true f2 47 [y2]=some x2)(b1:Rows.uptoBulk x1.1<=1048576)(b2:Rows.uptoBulk x2.1<=1048576):
 Calls prog 4 [y0,y1,y2].toArray W λe w'=>e=.returned (.bool true)/\w'.os=W.os/\w'.output=W.output/\W.heap.size<=w'.heap.size/\∀i,i<W.heap.size->w'.heap[i]?=W.heap[i]?:=by
 obtain⟨s,ga⟩:=start hL;obtain⟨op,k0,_,_⟩:=DataW.trod_int underlying3 h0;injection k0 with k0;subst k0;obtain⟨η1,H1,n1,v1,t1,a1,a2,a3,a4,a5,a6⟩:=XO s (xc (by omega:0<7)) (ga _ _ FP).1 FP vE.u3 vE.up vE.cp vE.ZM vE.ZN vE.ZO vE.ZP vE.ZQ vE.ZR h1;have ZV:=ga.ext a3;obtain⟨η2,H2,n2,v2,t2,c1,c2,c3,c4,c5,c6⟩:=al0 a2 (a1 _ _ (xc (by omega:0<7))) (ZV _ _ FP).1 (ZV _ _ FP).2 h2;have key:=alU (op:=op) (args:=[.int .i64 op,y1,y2]) c2.rep (ame.mono (a1.trans c1)) (.cons _ _ _ _ (.i _ _) (.cons _ _ _ _ (a5.mono c1) (.cons _ _ _ _ c5 .nil))) (ZV.ext c3) (alZ a6 b1) (alY c6 b2) (X.ρ.ext a4 c3) c4;intro cs;obtain⟨e,w',fr,⟨he,η',H',n',ht⟩,h2⟩:=key cs;refine⟨e,w',fr,⟨he,ht.kept.os,ht.kept.output,ht.kept.size,λi hi=>ht.kept.block i hi ?_⟩,h2⟩;rintro⟨k,o,L,q1,q2,_,_⟩;obtain⟨l,rfl⟩:=c2.ro k o q1;have:=q2 rfl;cases this
theorem amf{W W':World}(hk:∀i,i<W.heap.size->W'.heap[i]?=W.heap[i]?){p:MemPlace}(hp:p.block<W.heap.size):W.sameAt W' p:=by
 cases p with
 | cell b o=>
  show W'.cell? _=W.cell? _;unfold World.cell?;rw[hk b hp]
 | map b=>
  show W'.heap[b]?=W.heap[b]?;exact hk b hp
theorem opened{H:Type}{enc:TypeId×Value->H}{W:World}{base:Nat}{args:Array Value}{ds gs:List (DataW H)}{before:List MemPlace}
 (my:∀(j:Nat) t v,f4.params[j]?=some t->args[j]?=some v->Value.okWide prog W .any base t v)
 (hW:DataW.Whole enc prog f4.params.toList Rows.termQuantifiesSpec.vars false W args.toList ds gs before):
 ∃v0 v1 v2 d0 d1 d2 p0 p1 p2 f0 f1 f2,args=#[v0,v1,v2]/\ds=[d0,d1,d2]/\gs=[]/\before=p0++(p1++p2)/\DataW.trod enc prog W 0 (λ_=>true) true f0 3 [v0]=some (d0,p0)/\DataW.trod enc prog W 0 (λ_=>true) true f1 28 [v1]=some (d1,p1)/\DataW.trod enc prog W 0 (λ_=>true) true f2 47 [v2]=some (d2,p2)/\v0.cells.toList=[v0]/\v1.cells.toList=[v1]/\v2.cells.toList=[v2]:=by
 obtain⟨p,q,hA,hV,rfl,Kq,pr⟩:=hW;rw[params4]at hA my;obtain⟨v0,vs0,d0,ds0,p0,q0,jY,rfl,rfl,h0,r0⟩:=trodAll_cons hA;obtain⟨v1,vs1,d1,Jt,p1,q1,rfl,rfl,rfl,h1,r1⟩:=trodAll_cons r0;obtain⟨v2,vs2,d2,ds2,p2,q2,rfl,rfl,rfl,h2,r2⟩:=trodAll_cons r1;obtain⟨rfl,rfl,rfl⟩:=trodAll_nil r2;obtain⟨rfl,rfl⟩:=trodVars_none hV;obtain rfl:args=#[v0,v1,v2]:=by cases args;simp_all
 obtain⟨a0,rfl⟩:=okWide_int underlying3 (my 0 3 v0 rfl rfl);obtain⟨a1,l1,c1,rfl⟩:=okWide_slice underlying28 (my 1 28 v1 rfl rfl);obtain⟨a2,l2,c2,rfl⟩:=okWide_slice underlying47 (my 2 47 v2 rfl rfl);obtain⟨f0,g0⟩:=h0;obtain⟨f1,g1⟩:=h1;obtain⟨f2,g2⟩:=h2;exact⟨_,_,_,d0,d1,d2,p0,p1,p2,f0,f1,f2,rfl,rfl,rfl,by simp,g0,g1,g2,rfl,rfl,rfl⟩
end Go.Proofs.YtpdbepbhlalldaaGreatDoor
end
section
set_option maxRecDepth 1000000
namespace Go.Proofs.YtpdbepbhlalldaaGreatDoor
open Go Go.Ev Go.ChangeShapes Go.WideShapes Go.RowKit Go.Proofs.Tryz
theorem kids:Kids prog (· <prog.types.size):=kids_rows (by kernel_rfl) (by kernel_rfl)
theorem full:∀t e,t<prog.types.size->prog.underlying t=some (.slice e)->0<prog.cellsOf e:=slices_full_of prog (by kernel_rfl)
theorem amg(H:Type)(enc:TypeId×Value->H)(W:World)(base:Nat)(args:Array Value)(ds gs:List (DataW H))(before:List MemPlace)
 (my:∀(j:Nat) t v,f4.params[j]?=some t->args[j]?=some v->Value.okWide prog W .any base t v)
 (hW:DataW.Whole enc prog f4.params.toList Rows.termQuantifiesSpec.vars false W args.toList ds gs before)(hb:Rows.uptoSmall H (ds++gs)=true)(hL:laidMetH prog Rows.termQuantifiesUptoRow.laid W):
 Calls prog 4 args W λe W'=>∃v,e=.returned v/\Rows.termQuantifiesSpec.post enc prog f4 false true false false W args v W':=by
 have ψ:=λp hp=>hW.lt p hp;obtain⟨v0,v1,v2,d0,d1,d2,p0,p1,p2,f0,f1,f2,rfl,rfl,rfl,rfl,g0,g1,g2,k0,k1,k2⟩:=opened my hW;have jO:Rows.uptoBulk d1<=1048576/\Rows.uptoBulk d2<=1048576:=by
  have:Rows.uptoBulkAll [d0,d1,d2]<=1048576:=by simpa[Rows.uptoSmall]using hb
  simp only[Rows.uptoBulkAll]at this;omega
 intro cs;obtain⟨e,W',fr,⟨he,ho,hu,hs,hk⟩,st⟩:=called hL g0 g1 g2 jO.1 jO.2 cs;have same:∀p∈p0++(p1++p2),W.sameAt W' p:=λp hp=>amf hk (ψ p hp);have g0':=DataW.trod_carry _ _ _ _ g0 (λp hp=>same p (by simp[hp]));have xk:=DataW.trod_carry _ _ _ _ g1 (λp hp=>same p (by simp[hp]));have N5:=DataW.trod_carry _ _ _ _ g2 (λp hp=>same p (by simp[hp]));have hA:DataW.TrodAll enc prog W' 0 (λ_=>true) true [3,28,47] [v0,v1,v2] [d0,d1,d2] (p0++(p1++p2)):=⟨p0,p1++p2,⟨f0,by rw[k0];exact g0'⟩,⟨p1,p2,⟨f1,by rw[k1];exact xk⟩,⟨p2,[],⟨f2,by rw[k2];exact N5⟩,rfl,by simp⟩,rfl⟩,rfl⟩;have wX:=DataW.TrodAll.respare (spare':=λb=>decide (b<W.heap.size)) kids full (by decide+kernel) hA (λp hp=>by simpa using ψ p hp);refine⟨e,W',fr,⟨.bool true,he,[d0,d1,d2],[],p0++(p1++p2),[],p0++(p1++p2),[],hW,?_,?_,rfl,⟨ho,hu,λi hi=>?_⟩,λh=>by cases h⟩,st⟩
 ·exact trodAll_cons_mk (shut_bool underlying4 true) trodAll_mk0
 ·rw[params4];exact wX
 ·rw[hk i hi];split
  ·rename_i h1 h2;rw[h1]at h2;injection h2 with h2;injection h2 with h3 h4 h5;subst h3;subst h4;subst h5;exact⟨rfl,rfl,rfl,λ_ _=>rfl⟩
  ·rename_i h1 h2;rw[h1]at h2;injection h2 with h2;injection h2 with h3 h4;exact Or.inr ⟨h3.symm,h4.symm⟩
  ·rfl
end Go.Proofs.YtpdbepbhlalldaaGreatDoor
end
section
set_option maxRecDepth 1000000
namespace Go.Proofs.YtpdbepbhlalldaaGreatDoor
open Go Go.Ev Go.ChangeShapes Go.WideShapes Go.ChangeAt Go.RowKit Go.Proofs.Tryz
theorem own:ownKnob prog.godebug=none:=by kernel_rfl
def amh:V->Value
 | .i k n=>.int k n
 | .s l n=>.string (strOf l n)
 | .f g _ _=>.func (.func g) #[] #[]
 | _=>.nilFunc
noncomputable def CG(q:Nat):Array Value:=((rowAt (cT q)).map amh).toArray
def CH(cs:Array Value):Obj->Obj
 | .cells _ t frozen=>.cells cs t frozen
 | o=>o
noncomputable def Oh(os:Os):World:=
 {World.holding prog os ⟨#[],#[],[]⟩ with heap:=((((((World.holding prog os ⟨#[],#[],[]⟩).heap.modify 0 (CH (CG 0))).modify 1 (CH (CG 1))).modify 2 (CH (CG 2))).modify 4 (CH (CG 4))).modify 5 (CH (CG 5))).modify 6 (CH (CG 6))}
theorem ami(os:Os):laidMetH prog Rows.termQuantifiesUptoRow.laid ((Oh os).forCall (λ_ _=>0) ⟨#[],#[.int .i64 0,.slice none 0 0,.slice none 0 0],[]⟩).memory:=
 laidMetH_of_parts3 (fuel:=8) (laidMet_of_run' 8 (by kernel_rfl) (by kernel_rfl)) (by kernel_rfl) (by kernel_rfl)
theorem reads(os:Os){H:Type}(enc:TypeId×Value->H):∃places,DataW.whole enc prog ((Oh os).forCall (λ_ _=>0) ⟨#[],#[.int .i64 0,.slice none 0 0,.slice none 0 0],[]⟩).memory f4.params.toList Rows.termQuantifiesSpec.vars false #[Value.int .i64 0,Value.slice none 0 0,Value.slice none 0 0].toList 8=some ([.lit (.int .i64 0),.nil,.nil],[],places):=
 ⟨[],by kernel_rfl⟩
theorem amj(os:Os)(started:os.Started)(H:Type)(enc:TypeId×Value->H)(F:Stop.Interp):
 ReturnsInHanded {} checked os 4 .any ((Rows.OpenSpec.upto Rows.termQuantifiesSpec).preRow enc prog f4 Rows.termQuantifiesUptoRow.domain false Rows.termQuantifiesUptoRow.laid) (((Rows.OpenSpec.upto Rows.termQuantifiesSpec).at F).post enc prog f4 false true false false):=by
 obtain⟨places,hx⟩:=reads os enc;refine returnsInHanded_of_row (C:=checked) (s:=Rows.OpenSpec.upto Rows.termQuantifiesSpec) own started (by kernel_rfl) func4
  (witness_row_at (enc:=enc) (C:=checked) false (Oh os) #[.int .i64 0,.slice none 0 0,.slice none 0 0] rfl (by kernel_rfl) (by kernel_rfl) (by kernel_rfl)
   (OpenSpec.preRow_of_cond 8 hx (by kernel_rfl) (λk hk=>by cases hk;kernel_rfl) (by kernel_rfl) (ami os))) ?_
 intro W base args ds gs before my hW _ uK _ hL _ _;exact amg H enc W base args ds gs before my hW (uK _ rfl) hL
end Go.Proofs.YtpdbepbhlalldaaGreatDoor
end
