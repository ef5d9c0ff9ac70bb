/-
  PROVED: TermQuantifies of package entaillaw09 returns true, and leaves its arguments as they were, for every integer, every slice of variables and every slice of slices of terms that hold together at most 1048576 values and letters (the second form's tied card, Rows.TermQuantifiesUptoCardSaid). Conditions: the row's own cells and the card's tie of the listed package-level variables to the program's text (a pruned copy: PRUNED.txt of the seat). The texts of this claim are printed small by a program of the author's; the readable ones lie in wip/.
-/
import Derived.Test.YtpdbepbhlalldaaGreatDoorR
import Derived.Test.YtpdbepbhlalldaaGreatDoorS
import Derived.Test.YtpdbepbhlalldaaGreatDoorT
set_option linter.all false
section
set_option maxRecDepth 1000000
namespace Go.Proofs.YtpdbepbhlalldaaGreatDoor
open Go Go.Ev Go.ChangeShapes Go.WideShapes Go.ChangeAt Go.RowKit Go.Proofs.Tryz
theorem Yu:prog.funcNamed "entail/entaillaw09.TermQuantifies" =some 4:=by kernel_rfl
theorem amG:f4.isInstance prog JC.origin JC.targs:=of_decide_eq_true (by kernel_rfl)
theorem amH:f4.isWrapper prog JC.wrapper JC.mainSum:=by unfold Func.isWrapper;first | (rw[az (by decide+kernel)];kernel_rfl) | (rw[ai (by decide+kernel)];exact⟨rfl,rfl⟩)
theorem amI:Rows.TermQuantifiesUptoSaid:=
 OpenClaim.holds_of_cond 4 f4 rfl rfl rfl rfl rfl rfl rfl ⟨rfl,rfl,rfl,rfl,rfl⟩ rfl rfl rfl rfl rfl Yu func4 jf amG amH
  (λos started H enc _ F=>by rw[OpenClaim.pre_eq_preRow];exact amj os started H enc F)
theorem plain(f:FuncId)(fn:Func)(hf:Tryz.pinned.checked.prog.funcNamed "entail/entaillaw09.TermQuantifies" =some f)(oo:Tryz.pinned.checked.prog.funcs[f]?=some fn):
 true=Tryz.pinned.checked.prog.looks []/\∀(j:Nat) t,fn.params[j]?=some t->Tryz.pinned.checked.prog.wantsStandIn t=false:=by
 obtain rfl:f=4:=Option.some.inj (Yu.symm.trans hf) |>.symm;obtain rfl:fn=f4:=(Option.some.inj (func4.symm.trans oo)).symm;refine⟨amK,λj t ht=>?_⟩;rw[params4]at ht;have:t=3\/t=28\/t=47:=by simpa using Array.mem_of_getElem? ht
 rcases this with rfl | rfl | rfl
 ·exact Oi.1
 ·exact Oi.2.1
 ·exact Oi.2.2
theorem termQuantifiesUpto_proved:Rows.TermQuantifiesUptoCardSaid:=
 Claim7.holds_tied_plain_at .later [] _ _ _ _ amI (λ_ h=>by cases h) kwf (λ_ h=>by cases h) termQuantifiesUpto_row_tie rfl ⟨rfl,rfl⟩ amJ rfl plain amL
end Go.Proofs.YtpdbepbhlalldaaGreatDoor
end
