/- A part of the proof. -/
import Derived.Test.YtapmaobjhilnfaaGreatDoorS
set_option linter.all false
section
set_option maxRecDepth 1000000
namespace Go.Proofs.YtapmaobjhilnfaaGreatDoor
open Go Go.Ev Go.ChangeShapes Go.WideShapes Go.ChangeAt Go.RowKit Go.Proofs.Tryz
theorem kwf:JC.wfByText (Rows.OpenSpec.upto Rows.termEqualsSpec)=true:=by kernel_rfl
theorem ao9:prog.mainIs=some (true, "16b8b2fd03fb4bb080d5d21f5c6cb886b7a8d5bf5e4ef0120237c9145cca36e8".toList):=by kernel_rfl
theorem apa:true=prog.looks []:=by kernel_rfl
theorem apb:prog.wantsStandIn 23=false:=by kernel_rfl
theorem apc:false=JC.goesBy prog:=by kernel_rfl
end Go.Proofs.YtapmaobjhilnfaaGreatDoor
end
