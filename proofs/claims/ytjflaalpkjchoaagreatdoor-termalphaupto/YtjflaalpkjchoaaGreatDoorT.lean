/- A part of the proof. -/
import Derived.Test.YtjflaalpkjchoaaGreatDoorS
set_option linter.all false
section
set_option maxRecDepth 1000000
namespace Go.Proofs.YtjflaalpkjchoaaGreatDoor
open Go Go.Ev Go.ChangeShapes Go.WideShapes Go.ChangeAt Go.RowKit Go.Proofs.Tryz
def kwf:JC.wfByText (Rows.OpenSpec.upto Rows.termAlphaSpec)=true:=by kernel_rfl
def apK:prog.mainIs=some (true, "0333ab9648334eece7a31328f4097fa1f2a97cd7965b190f2368d5164004a7b0".toList):=by kernel_rfl
def apL:true=prog.looks []:=by kernel_rfl
def XT:prog.wantsStandIn 23=false/\prog.wantsStandIn 24=false:=⟨by kernel_rfl,by kernel_rfl⟩
def apM:false=JC.goesBy prog:=by kernel_rfl
end Go.Proofs.YtjflaalpkjchoaaGreatDoor
end
