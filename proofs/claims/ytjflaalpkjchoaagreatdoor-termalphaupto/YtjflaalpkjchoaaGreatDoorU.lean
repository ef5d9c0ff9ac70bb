/-
  PROVED: TermAlpha of package entaillaw09 returns true, and leaves its arguments as they were, for every slice of nodes and every slice of bindings that hold together at most 1048576 values and letters (the second form's tied card, Rows.TermAlphaUptoCardSaid). Conditions: the row's own cells and the card's tie of the listed package-level variables to the program's text (a pruned copy: PRUNED.txt of the seat). The texts of this claim are printed small by a program of the author's; the readable ones lie in wip/.
-/
import Derived.Test.YtjflaalpkjchoaaGreatDoorR
import Derived.Test.YtjflaalpkjchoaaGreatDoorS
import Derived.Test.YtjflaalpkjchoaaGreatDoorT
set_option linter.all false
section
set_option maxRecDepth 1000000
namespace Go.Proofs.YtjflaalpkjchoaaGreatDoor
open Go Go.Ev Go.ChangeShapes Go.WideShapes Go.ChangeAt Go.RowKit Go.Proofs.Tryz
def XS:prog.funcNamed "entail/entaillaw09.TermAlpha" =some 3:=by kernel_rfl
def apH:f3.isInstance prog JC.origin JC.targs:=of_decide_eq_true (by kernel_rfl)
def apI:f3.isWrapper prog JC.wrapper JC.mainSum:=by unfold Func.isWrapper;first | (rw[ab (by decide+kernel)];kernel_rfl) | (rw[Γ (by decide+kernel)];exact⟨rfl,rfl⟩)
def apJ:Rows.TermAlphaUptoSaid:=
 OpenClaim.holds_of_cond 3 f3 rfl rfl rfl rfl rfl rfl rfl ⟨rfl,rfl,rfl,rfl,rfl⟩ rfl rfl rfl rfl rfl XS func3 jf apH apI
  (λos started H enc _ F=>by rw[OpenClaim.pre_eq_preRow];exact apj os started H enc F)
def plain(f:FuncId)(fn:Func)(hf:Tryz.pinned.checked.prog.funcNamed "entail/entaillaw09.TermAlpha" =some f)(a:Tryz.pinned.checked.prog.funcs[f]?=some fn):
 true=Tryz.pinned.checked.prog.looks []/\∀(j:Nat) t,fn.params[j]?=some t->Tryz.pinned.checked.prog.wantsStandIn t=false:=by
 obtain rfl:f=3:=Option.some.inj (XS.symm.trans hf) |>.symm;obtain rfl:fn=f3:=(Option.some.inj (func3.symm.trans a)).symm;refine⟨apL,λj t ht=>?_⟩;rw[params3]at ht;have:t=23\/t=24:=by simpa using Array.mem_of_getElem? ht
 rcases this with rfl | rfl
 ·exact XT.1
 ·exact XT.2
theorem termAlphaUpto_proved:Rows.TermAlphaUptoCardSaid:=
 Claim7.holds_tied_plain_at .later [] _ _ _ _ apJ (λ_ h=>by cases h) kwf (λ_ h=>by cases h) termAlphaUpto_row_tie rfl ⟨rfl,rfl⟩ apK rfl plain apM
end Go.Proofs.YtjflaalpkjchoaaGreatDoor
end
