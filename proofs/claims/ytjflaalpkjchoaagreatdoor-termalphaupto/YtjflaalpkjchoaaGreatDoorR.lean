/- A part of the proof. -/
import Derived.WideShapes
import Derived.ChangeShapes
import Derived.RowKit
import Derived.ReadAgain
import Derived.Test.YtjflaalpkjchoaaGreatDoorCards
import Derived.Test.YtjflaalpkjchoaaGreatDoorTie
import Derived.OpenShut
import Derived.Deep.DeepHandedRow
import Derived.LaidHandle
import Derived.ProofKit
import Derived.Test.YtjflaalpkjchoaaGreatDoorV
set_option linter.all false
section
set_option maxRecDepth 1000000
namespace Go.Proofs.YtjflaalpkjchoaaGreatDoor
open Go Go.Ev Go.ChangeShapes Go.WideShapes Go.Proofs.Tryz
def called{A:Type}{enc:TypeId×Value->A}{W:World}(h:laidMetH prog Rows.termAlphaUptoRow.laid W){a b:Value}{f1 f2:Nat}{d x2:DataW A×List MemPlace}
 (h1:DataW.trod enc prog W 0 (λ_=>true) true f1 23 [a]=some d)(h2:DataW.trod enc prog W 0 (λ_=>true) true f2 24 [b]=some x2)(b1:Rows.uptoBulk d.1<=1048576)(b2:Rows.uptoBulk x2.1<=1048576):
 Calls prog 3 [a,b].toArray W λe w'=>e=.returned (.bool true)/\w'.os=W.os/\w'.output=W.output/\W.heap.size<=w'.heap.size/\∀i,i<W.heap.size->w'.heap[i]?=W.heap[i]?:=by
 obtain⟨s,f⟩:=start h;obtain⟨η1,H1,n1,v1,t1,g,j,m,n,p,q⟩:=rdT s (u9 (by omega:0<7)) (f _ _ DA).1 DA h1;have c:=f.ext m;obtain⟨u,H2,v,w,t2,c1,c2,c3,c4,c5,c6⟩:=ao0 j (g _ _ (u9 (by omega:0<7))) (c _ _ DA).1 (c _ _ DA).2 h2;have key:=aoU (args:=[a,b]) c2.rep (ape.mono (g.trans c1)) (.cons _ _ _ _ (p.mono c1) (.cons _ _ _ _ c5 .nil)) (c.ext c3) (XN q b1) (XO c6 b2).1 (XO c6 b2).2 (n.ext c3) c4;intro cs;obtain⟨e,w',fr,⟨he,η',H',n',ht⟩,h2⟩:=key cs;refine⟨e,w',fr,⟨he,ht.kept.os,ht.kept.output,ht.kept.size,λi hi=>ht.kept.block i hi ?_⟩,h2⟩;rintro⟨k,o,L,r,t,_,_⟩;obtain⟨l,rfl⟩:=c2.ro k o r;have:=t rfl;cases this
def apf{W W':World}(a:∀i,i<W.heap.size->W'.heap[i]?=W.heap[i]?){p:MemPlace}(hp:p.block<W.heap.size):W.sameAt W' p:=by
 cases p with
 | cell b o=>
  show W'.cell? _=W.cell? _;unfold World.cell?;rw[a b hp]
 | map b=>
  show W'.heap[b]?=W.heap[b]?;exact a b hp
def opened{H:Type}{enc:TypeId×Value->H}{W:World}{base:Nat}{args:Array Value}{ds gs:List (DataW H)}{before:List MemPlace}
 (f:∀(j:Nat) t v,f3.params[j]?=some t->args[j]?=some v->Value.okWide prog W .any base t v)
 (h:DataW.Whole enc prog f3.params.toList Rows.termAlphaSpec.vars false W args.toList ds gs before):
 ∃v1 a b c d e f1 f2,args=#[v1,a]/\ds=[b,c]/\gs=[]/\before=d++e/\DataW.trod enc prog W 0 (λ_=>true) true f1 23 [v1]=some (b,d)/\DataW.trod enc prog W 0 (λ_=>true) true f2 24 [a]=some (c,e)/\v1.cells.toList=[v1]/\a.cells.toList=[a]:=by
 obtain⟨p,q,g,i,rfl,l,m⟩:=h;rw[params3]at g f;obtain⟨v1,n,b,o,d,r,s,rfl,rfl,h1,r1⟩:=trodAll_cons g;obtain⟨a,u,c,w,e,x,rfl,rfl,rfl,h2,r2⟩:=trodAll_cons r1;obtain⟨rfl,rfl,rfl⟩:=trodAll_nil r2;obtain⟨rfl,rfl⟩:=trodVars_none i;obtain rfl:args=#[v1,a]:=by cases args;simp_all
 obtain⟨y,l1,c1,rfl⟩:=okWide_slice underlying23 (f 0 23 v1 rfl rfl);obtain⟨z,l2,c2,rfl⟩:=okWide_slice underlying24 (f 1 24 a rfl rfl);obtain⟨f1,g1⟩:=h1;obtain⟨f2,k⟩:=h2;exact⟨_,_,b,c,d,e,f1,f2,rfl,rfl,rfl,by simp,g1,k,rfl,rfl⟩
end Go.Proofs.YtjflaalpkjchoaaGreatDoor
end
section
set_option maxRecDepth 1000000
namespace Go.Proofs.YtjflaalpkjchoaaGreatDoor
open Go Go.Ev Go.ChangeShapes Go.WideShapes Go.RowKit Go.Proofs.Tryz
def kids:Kids prog (· <prog.types.size):=kids_rows (by kernel_rfl) (by kernel_rfl)
def full:∀t e,t<prog.types.size->prog.underlying t=some (.slice e)->0<prog.cellsOf e:=slices_full_of prog (by kernel_rfl)
def apg(H:Type)(enc:TypeId×Value->H)(W:World)(base:Nat)(args:Array Value)(ds gs:List (DataW H))(before:List MemPlace)
 (o:∀(j:Nat) t v,f3.params[j]?=some t->args[j]?=some v->Value.okWide prog W .any base t v)
 (g:DataW.Whole enc prog f3.params.toList Rows.termAlphaSpec.vars false W args.toList ds gs before)(hb:Rows.uptoSmall H (ds++gs)=true)(q:laidMetH prog Rows.termAlphaUptoRow.laid W):
 Calls prog 3 args W λe W'=>∃v,e=.returned v/\Rows.termAlphaSpec.post enc prog f3 false true false false W args v W':=by
 have k:=λp hp=>g.lt p hp;obtain⟨v1,r,d,f,c,a,f1,f2,rfl,rfl,rfl,rfl,g1,l,k1,k2⟩:=opened o g;have m:Rows.uptoBulk d<=1048576/\Rows.uptoBulk f<=1048576:=by
  have:Rows.uptoBulkAll [d,f]<=1048576:=by simpa[Rows.uptoSmall]using hb
  simp only[Rows.uptoBulkAll]at this;omega
 intro cs;obtain⟨e,W',fr,⟨he,s,u,hs,n⟩,st⟩:=called q g1 l m.1 m.2 cs;have same:∀p∈c++a,W.sameAt W' p:=λp hp=>apf n (k p hp);have w:=DataW.trod_carry _ _ _ _ g1 (λp hp=>same p (by simp[hp]));have x:=DataW.trod_carry _ _ _ _ l (λp hp=>same p (by simp[hp]));have y:DataW.TrodAll enc prog W' 0 (λ_=>true) true [23,24] [v1,r] [d,f] (c++a):=⟨c,a,⟨f1,by rw[k1];exact w⟩,⟨a,[],⟨f2,by rw[k2];exact x⟩,rfl,by simp⟩,rfl⟩;have z:=DataW.TrodAll.respare (spare':=λb=>decide (b<W.heap.size)) kids full (by decide+kernel) y (λp hp=>by simpa using k p hp);refine⟨e,W',fr,⟨.bool true,he,[d,f],[],c++a,[],c++a,[],g,?_,?_,rfl,⟨s,u,λi hi=>?_⟩,λh=>by cases h⟩,st⟩
 ·exact trodAll_cons_mk (shut_bool underlying4 true) trodAll_mk0
 ·rw[params3];exact z
 ·rw[n i hi];split
  ·rename_i h1 h2;rw[h1]at h2;injection h2 with h2;injection h2 with h3 h4 h5;subst h3;subst h4;subst h5;exact⟨rfl,rfl,rfl,λ_ _=>rfl⟩
  ·rename_i h1 h2;rw[h1]at h2;injection h2 with h2;injection h2 with h3 h4;exact Or.inr ⟨h3.symm,h4.symm⟩
  ·rfl
end Go.Proofs.YtjflaalpkjchoaaGreatDoor
end
section
set_option maxRecDepth 1000000
namespace Go.Proofs.YtjflaalpkjchoaaGreatDoor
open Go Go.Ev Go.ChangeShapes Go.WideShapes Go.ChangeAt Go.RowKit Go.Proofs.Tryz
def own:ownKnob prog.godebug=none:=by kernel_rfl
def aph:V->Value
 | .i k n=>.int k n
 | .s l n=>.string (strOf l n)
 | .f g _ _=>.func (.func g) #[] #[]
 | _=>.nilFunc
noncomputable def AJ(q:Nat):Array Value:=((rowAt (bF q)).map aph).toArray
def AK(cs:Array Value):Obj->Obj
 | .cells _ t frozen=>.cells cs t frozen
 | o=>o
noncomputable def MS(os:Os):World:=
 {World.holding prog os ⟨#[],#[],[]⟩ with heap:=((((((World.holding prog os ⟨#[],#[],[]⟩).heap.modify 0 (AK (AJ 0))).modify 1 (AK (AJ 1))).modify 2 (AK (AJ 2))).modify 4 (AK (AJ 4))).modify 5 (AK (AJ 5))).modify 6 (AK (AJ 6))}
def api(os:Os):laidMetH prog Rows.termAlphaUptoRow.laid ((MS os).forCall (λ_ _=>0) ⟨#[],#[.slice none 0 0,.slice none 0 0],[]⟩).memory:=
 laidMetH_of_parts3 (fuel:=8) (laidMet_of_run' 8 (by kernel_rfl) (by kernel_rfl)) (by kernel_rfl) (by kernel_rfl)
def reads(os:Os){H:Type}(enc:TypeId×Value->H):∃places,DataW.whole enc prog ((MS os).forCall (λ_ _=>0) ⟨#[],#[.slice none 0 0,.slice none 0 0],[]⟩).memory f3.params.toList Rows.termAlphaSpec.vars false #[Value.slice none 0 0,Value.slice none 0 0].toList 8=some ([.nil,.nil],[],places):=
 ⟨[],by kernel_rfl⟩
def apj(os:Os)(started:os.Started)(H:Type)(enc:TypeId×Value->H)(F:Stop.Interp):
 ReturnsInHanded {} checked os 3 .any ((Rows.OpenSpec.upto Rows.termAlphaSpec).preRow enc prog f3 Rows.termAlphaUptoRow.domain false Rows.termAlphaUptoRow.laid) (((Rows.OpenSpec.upto Rows.termAlphaSpec).at F).post enc prog f3 false true false false):=by
 obtain⟨places,a⟩:=reads os enc;refine returnsInHanded_of_row (C:=checked) (s:=Rows.OpenSpec.upto Rows.termAlphaSpec) own started (by kernel_rfl) func3
  (witness_row_at (enc:=enc) (C:=checked) false (MS os) #[.slice none 0 0,.slice none 0 0] rfl (by kernel_rfl) (by kernel_rfl) (by kernel_rfl)
   (OpenSpec.preRow_of_cond 8 a (by kernel_rfl) (λk b=>by cases b;kernel_rfl) (by kernel_rfl) (api os))) ?_
 intro W base args ds gs before c d _ e _ f _ _;exact apg H enc W base args ds gs before c d (e _ rfl) f
end Go.Proofs.YtjflaalpkjchoaaGreatDoor
end
