/- A part of the proof. -/
import Derived.WideShapes
import Derived.ChangeShapes
import Derived.RowKit
import Derived.ReadAgain
import Derived.Test.YtpdbepbhlalldaaGreatDoorCards
import Derived.Test.YtpdbepbhlalldaaGreatDoorTie
import Derived.OpenShut
import Derived.Deep.DeepHandedRow
import Derived.LaidHandle
import Derived.ProofKit
import Derived.Test.YtpdbepbhlalldaaGreatDoorV
set_option linter.all false
section
set_option maxRecDepth 1000000
namespace Go.Proofs.YtpdbepbhlalldaaGreatDoor
open Go Go.Ev Go.ChangeShapes Go.WideShapes Go.Proofs.Tryz
def called{A:Type}{enc:TypeId×Value->A}{W:World}(g:laidMetH prog Rows.termSubstitutesUptoRow.laid W){a b:Value}{f1 f2:Nat}{x1 x2:DataW A×List MemPlace}
 (h1:DataW.trod enc prog W 0 (λ_=>true) true f1 23 [a]=some x1)(h2:DataW.trod enc prog W 0 (λ_=>true) true f2 24 [b]=some x2)(b1:Rows.uptoBulk x1.1<=1048576)(b2:Rows.uptoBulk x2.1<=1048576):
 Calls prog 3 [a,b].toArray W λe w'=>e=.returned (.bool true)/\w'.os=W.os/\w'.output=W.output/\W.heap.size<=w'.heap.size/\∀i,i<W.heap.size->w'.heap[i]?=W.heap[i]?:=by
 obtain⟨s,d⟩:=start g;obtain⟨η1,H1,n1,v1,t1,f,h,j,m,n,p⟩:=rdT s (tF (by omega:0<7)) (d _ _ Ct).1 Ct h1;have c:=d.ext j;obtain⟨t,H2,u,v,t2,c1,c2,c3,c4,c5,c6⟩:=amt h (f _ _ (tF (by omega:0<7))) (c _ _ Ct).1 (c _ _ Ct).2 h2;have key:=amn (args:=[a,b]) c2.rep (amH.mono (f.trans c1)) (.cons _ _ _ _ (n.mono c1) (.cons _ _ _ _ c5 .nil)) (c.ext c3) (Vv p b1) (Vw c6 b2).1 (Vw c6 b2).2 (m.ext c3) c4;intro cs;obtain⟨e,w',fr,⟨he,η',H',n',ht⟩,h2⟩:=key cs;refine⟨e,w',fr,⟨he,ht.kept.os,ht.kept.output,ht.kept.size,λi hi=>ht.kept.block i hi ?_⟩,h2⟩;rintro⟨k,o,L,q,r,_,_⟩;obtain⟨l,rfl⟩:=c2.ro k o q;have:=r rfl;cases this
def amI{W W':World}(a:∀i,i<W.heap.size->W'.heap[i]?=W.heap[i]?){p:MemPlace}(hp:p.block<W.heap.size):W.sameAt W' p:=by
 cases p with
 | cell b o=>
  show W'.cell? _=W.cell? _;unfold World.cell?;rw[a b hp]
 | map b=>
  show W'.heap[b]?=W.heap[b]?;exact a b hp
def opened{H:Type}{enc:TypeId×Value->H}{W:World}{base:Nat}{args:Array Value}{ds gs:List (DataW H)}{before:List MemPlace}
 (f:∀(j:Nat) t v,f3.params[j]?=some t->args[j]?=some v->Value.okWide prog W .any base t v)
 (h:DataW.Whole enc prog f3.params.toList Rows.termSubstitutesSpec.vars false W args.toList ds gs before):
 ∃v1 a b c d e f1 f2,args=#[v1,a]/\ds=[b,c]/\gs=[]/\before=d++e/\DataW.trod enc prog W 0 (λ_=>true) true f1 23 [v1]=some (b,d)/\DataW.trod enc prog W 0 (λ_=>true) true f2 24 [a]=some (c,e)/\v1.cells.toList=[v1]/\a.cells.toList=[a]:=by
 obtain⟨p,q,g,i,rfl,l,m⟩:=h;rw[params3]at g f;obtain⟨v1,n,b,o,d,r,s,rfl,rfl,h1,r1⟩:=trodAll_cons g;obtain⟨a,u,c,w,e,x,rfl,rfl,rfl,h2,r2⟩:=trodAll_cons r1;obtain⟨rfl,rfl,rfl⟩:=trodAll_nil r2;obtain⟨rfl,rfl⟩:=trodVars_none i;obtain rfl:args=#[v1,a]:=by cases args;simp_all
 obtain⟨y,l1,c1,rfl⟩:=okWide_slice underlying23 (f 0 23 v1 rfl rfl);obtain⟨z,l2,c2,rfl⟩:=okWide_slice underlying24 (f 1 24 a rfl rfl);obtain⟨f1,g1⟩:=h1;obtain⟨f2,k⟩:=h2;exact⟨_,_,b,c,d,e,f1,f2,rfl,rfl,rfl,by simp,g1,k,rfl,rfl⟩
end Go.Proofs.YtpdbepbhlalldaaGreatDoor
end
section
set_option maxRecDepth 1000000
namespace Go.Proofs.YtpdbepbhlalldaaGreatDoor
open Go Go.Ev Go.ChangeShapes Go.WideShapes Go.RowKit Go.Proofs.Tryz
def kids:Kids prog (· <prog.types.size):=kids_rows (by kernel_rfl) (by kernel_rfl)
def full:∀t e,t<prog.types.size->prog.underlying t=some (.slice e)->0<prog.cellsOf e:=slices_full_of prog (by kernel_rfl)
def amJ(H:Type)(enc:TypeId×Value->H)(W:World)(base:Nat)(args:Array Value)(ds gs:List (DataW H))(before:List MemPlace)
 (o:∀(j:Nat) t v,f3.params[j]?=some t->args[j]?=some v->Value.okWide prog W .any base t v)
 (g:DataW.Whole enc prog f3.params.toList Rows.termSubstitutesSpec.vars false W args.toList ds gs before)(hb:Rows.uptoSmall H (ds++gs)=true)(q:laidMetH prog Rows.termSubstitutesUptoRow.laid W):
 Calls prog 3 args W λe W'=>∃v,e=.returned v/\Rows.termSubstitutesSpec.post enc prog f3 false true false false W args v W':=by
 have k:=λp hp=>g.lt p hp;obtain⟨v1,r,d,f,c,a,f1,f2,rfl,rfl,rfl,rfl,g1,l,k1,k2⟩:=opened o g;have m:Rows.uptoBulk d<=1048576/\Rows.uptoBulk f<=1048576:=by
  have:Rows.uptoBulkAll [d,f]<=1048576:=by simpa[Rows.uptoSmall]using hb
  simp only[Rows.uptoBulkAll]at this;omega
 intro cs;obtain⟨e,W',fr,⟨he,s,u,hs,n⟩,st⟩:=called q g1 l m.1 m.2 cs;have same:∀p∈c++a,W.sameAt W' p:=λp hp=>amI n (k p hp);have w:=DataW.trod_carry _ _ _ _ g1 (λp hp=>same p (by simp[hp]));have x:=DataW.trod_carry _ _ _ _ l (λp hp=>same p (by simp[hp]));have y:DataW.TrodAll enc prog W' 0 (λ_=>true) true [23,24] [v1,r] [d,f] (c++a):=⟨c,a,⟨f1,by rw[k1];exact w⟩,⟨a,[],⟨f2,by rw[k2];exact x⟩,rfl,by simp⟩,rfl⟩;have z:=DataW.TrodAll.respare (spare':=λb=>decide (b<W.heap.size)) kids full (by decide+kernel) y (λp hp=>by simpa using k p hp);refine⟨e,W',fr,⟨.bool true,he,[d,f],[],c++a,[],c++a,[],g,?_,?_,rfl,⟨s,u,λi hi=>?_⟩,λh=>by cases h⟩,st⟩
 ·exact trodAll_cons_mk (shut_bool underlying4 true) trodAll_mk0
 ·rw[params3];exact z
 ·rw[n i hi];split
  ·rename_i h1 h2;rw[h1]at h2;injection h2 with h2;injection h2 with h3 h4 h5;subst h3;subst h4;subst h5;exact⟨rfl,rfl,rfl,λ_ _=>rfl⟩
  ·rename_i h1 h2;rw[h1]at h2;injection h2 with h2;injection h2 with h3 h4;exact Or.inr ⟨h3.symm,h4.symm⟩
  ·rfl
end Go.Proofs.YtpdbepbhlalldaaGreatDoor
end
section
set_option maxRecDepth 1000000
namespace Go.Proofs.YtpdbepbhlalldaaGreatDoor
open Go Go.Ev Go.ChangeShapes Go.WideShapes Go.ChangeAt Go.RowKit Go.Proofs.Tryz
def own:ownKnob prog.godebug=none:=by kernel_rfl
def amK:V->Value
 | .i k n=>.int k n
 | .s l n=>.string (strOf l n)
 | .f g _ _=>.func (.func g) #[] #[]
 | _=>.nilFunc
noncomputable def yV(q:Nat):Array Value:=((rowAt (bL q)).map amK).toArray
def yW(cs:Array Value):Obj->Obj
 | .cells _ t frozen=>.cells cs t frozen
 | o=>o
noncomputable def Lz(os:Os):World:=
 {World.holding prog os ⟨#[],#[],[]⟩ with heap:=((((((World.holding prog os ⟨#[],#[],[]⟩).heap.modify 0 (yW (yV 0))).modify 1 (yW (yV 1))).modify 2 (yW (yV 2))).modify 4 (yW (yV 4))).modify 5 (yW (yV 5))).modify 6 (yW (yV 6))}
def amL(os:Os):laidMetH prog Rows.termSubstitutesUptoRow.laid ((Lz os).forCall (λ_ _=>0) ⟨#[],#[.slice none 0 0,.slice none 0 0],[]⟩).memory:=
 laidMetH_of_parts3 (fuel:=8) (laidMet_of_run' 8 (by kernel_rfl) (by kernel_rfl)) (by kernel_rfl) (by kernel_rfl)
def reads(os:Os){H:Type}(enc:TypeId×Value->H):∃places,DataW.whole enc prog ((Lz os).forCall (λ_ _=>0) ⟨#[],#[.slice none 0 0,.slice none 0 0],[]⟩).memory f3.params.toList Rows.termSubstitutesSpec.vars false #[Value.slice none 0 0,Value.slice none 0 0].toList 8=some ([.nil,.nil],[],places):=
 ⟨[],by kernel_rfl⟩
def amM(os:Os)(started:os.Started)(H:Type)(enc:TypeId×Value->H)(F:Stop.Interp):
 ReturnsInHanded {} checked os 3 .any ((Rows.OpenSpec.upto Rows.termSubstitutesSpec).preRow enc prog f3 Rows.termSubstitutesUptoRow.domain false Rows.termSubstitutesUptoRow.laid) (((Rows.OpenSpec.upto Rows.termSubstitutesSpec).at F).post enc prog f3 false true false false):=by
 obtain⟨places,a⟩:=reads os enc;refine returnsInHanded_of_row (C:=checked) (s:=Rows.OpenSpec.upto Rows.termSubstitutesSpec) own started (by kernel_rfl) func3
  (witness_row_at (enc:=enc) (C:=checked) false (Lz os) #[.slice none 0 0,.slice none 0 0] rfl (by kernel_rfl) (by kernel_rfl) (by kernel_rfl)
   (OpenSpec.preRow_of_cond 8 a (by kernel_rfl) (λk b=>by cases b;kernel_rfl) (by kernel_rfl) (amL os))) ?_
 intro W base args ds gs before c d _ e _ f _ _;exact amJ H enc W base args ds gs before c d (e _ rfl) f
end Go.Proofs.YtpdbepbhlalldaaGreatDoor
end
