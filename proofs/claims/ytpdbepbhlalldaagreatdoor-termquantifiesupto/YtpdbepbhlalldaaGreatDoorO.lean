/- A part of the proof. -/
import Derived.Test.YtpdbepbhlalldaaGreatDoorK
set_option linter.all false
section
set_option maxRecDepth 1000000
namespace Go.Proofs.YtpdbepbhlalldaaGreatDoor
open Go Go.Ev Go.Proofs.Tryz
theorem t22:Px.Ok prog ty 28:=TE.ok (fuel:=100000) gV given (by rw[←F.gI];kernel_rfl)
theorem t23:Py.Ok prog ty 25:=TE.ok (fuel:=100000) gV given (by rw[←F.gI];kernel_rfl)
theorem t24:Pz.Ok prog ty 8:=TE.ok (fuel:=100000) gV given (by rw[←F.gI];kernel_rfl)
theorem t25:PA.Ok prog ty 25:=TE.ok (fuel:=100000) gV given (by rw[←F.gI];kernel_rfl)
theorem t26:PC.Ok prog ty 25:=TE.ok (fuel:=100000) gV given (by rw[←F.gI];kernel_rfl)
theorem t27:PD.Ok prog ty 32:=TE.ok (fuel:=100000) gV given (by rw[←F.gI];kernel_rfl)
theorem t28:PE.Ok prog ty 33:=TE.ok (fuel:=100000) gV given (by rw[←F.gI];kernel_rfl)
theorem t29:PF.Ok prog ty 33:=TE.ok (fuel:=100000) gV given (by rw[←F.gI];kernel_rfl)
end Go.Proofs.YtpdbepbhlalldaaGreatDoor
end
