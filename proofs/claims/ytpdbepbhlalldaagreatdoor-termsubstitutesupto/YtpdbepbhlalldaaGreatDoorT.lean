/- A part of the proof. -/
import Derived.Test.YtpdbepbhlalldaaGreatDoorS
set_option linter.all false
section
set_option maxRecDepth 1000000
namespace Go.Proofs.YtpdbepbhlalldaaGreatDoor
open Go Go.Ev Go.ChangeShapes Go.WideShapes Go.ChangeAt Go.RowKit Go.Proofs.Tryz
def kwf:JC.wfByText (Rows.OpenSpec.upto Rows.termSubstitutesSpec)=true:=by kernel_rfl
def ane:prog.mainIs=some (true, "de2b4beee22c08c8570994d1f5946ba3ca7321749edbded79745a2023d950404".toList):=by kernel_rfl
def anf:true=prog.looks []:=by kernel_rfl
def VB:prog.wantsStandIn 23=false/\prog.wantsStandIn 24=false:=⟨by kernel_rfl,by kernel_rfl⟩
def ang:false=JC.goesBy prog:=by kernel_rfl
end Go.Proofs.YtpdbepbhlalldaaGreatDoor
end
