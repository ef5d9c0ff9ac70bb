/-
  PROVED: TermEquals of package entaillaw09 returns true, and leaves its arguments as they were, for every two slices of terms that hold together at most 1048576 values and letters (the second form's tied card, Rows.TermEqualsUptoCardSaid). Conditions: the row's own cells and the card's tie of the listed package-level variables to the program's text. The texts of this claim are printed small by a program of the author's; the readable ones lie in wip/.
-/
import Derived.Test.YtapmaobjhilnfaaGreatDoorR
import Derived.Test.YtapmaobjhilnfaaGreatDoorS
import Derived.Test.YtapmaobjhilnfaaGreatDoorT
set_option linter.all false
section
set_option maxRecDepth 1000000
namespace Go.Proofs.YtapmaobjhilnfaaGreatDoor
open Go Go.Ev Go.ChangeShapes Go.WideShapes Go.ChangeAt Go.RowKit Go.Proofs.Tryz
theorem XY:prog.funcNamed "entail/entaillaw09.TermEquals" =some 3:=by kernel_rfl
theorem ao6:f3.isInstance prog JC.origin JC.targs:=of_decide_eq_true (by kernel_rfl)
theorem ao7:f3.isWrapper prog JC.wrapper JC.mainSum:=by unfold Func.isWrapper;first | (rw[au (by decide+kernel)];kernel_rfl) | (rw[Ξ (by decide+kernel)];exact⟨rfl,rfl⟩)
theorem ao8:Rows.TermEqualsUptoSaid:=
 OpenClaim.holds_of_cond 3 f3 rfl rfl rfl rfl rfl rfl rfl ⟨rfl,rfl,rfl,rfl,rfl⟩ rfl rfl rfl rfl rfl XY func3 jf ao6 ao7
  (λos started H enc _ F=>by rw[OpenClaim.pre_eq_preRow];exact aoJ os started H enc F)
theorem plain(f:FuncId)(fn:Func)(hf:Tryz.pinned.checked.prog.funcNamed "entail/entaillaw09.TermEquals" =some f)(nZ:Tryz.pinned.checked.prog.funcs[f]?=some fn):
 true=Tryz.pinned.checked.prog.looks []/\∀(j:Nat) t,fn.params[j]?=some t->Tryz.pinned.checked.prog.wantsStandIn t=false:=by
 obtain rfl:f=3:=Option.some.inj (XY.symm.trans hf) |>.symm;obtain rfl:fn=f3:=(Option.some.inj (func3.symm.trans nZ)).symm;refine⟨apa,λj t ht=>?_⟩;rw[params3]at ht;obtain rfl:t=23:=by simpa using Array.mem_of_getElem? ht
 exact apb
theorem termEqualsUpto_proved:Rows.TermEqualsUptoCardSaid:=
 Claim7.holds_tied_plain_at .later [] _ _ _ _ ao8 (λ_ h=>by cases h) kwf (λ_ h=>by cases h) termEqualsUpto_row_tie rfl ⟨rfl,rfl⟩ ao9 rfl plain apc
end Go.Proofs.YtapmaobjhilnfaaGreatDoor
end
