/- A part of the proof. -/
import Derived.Test.YtpdbepbhlalldaaGreatDoorK
set_option linter.all false
section
set_option maxRecDepth 1000000
namespace Go.Proofs.YtpdbepbhlalldaaGreatDoor
open Go Go.Ev Go.Proofs.Tryz
theorem t15:lY.Ok prog ty 30:=TE.ok (fuel:=100000) gV given (by rw[←F.gI];kernel_rfl)
theorem t16:Ps.Ok prog ty 28:=TE.ok (fuel:=100000) gV given (by rw[←F.gI];kernel_rfl)
theorem t17:JB.Ok prog ty 25:=TE.ok (fuel:=100000) gV given (by rw[←F.gI];kernel_rfl)
theorem t18:Pt.Ok prog ty 31:=TE.ok (fuel:=100000) gV given (by rw[←F.gI];kernel_rfl)
theorem t19:Pu.Ok prog ty 28:=TE.ok (fuel:=100000) gV given (by rw[←F.gI];kernel_rfl)
theorem t20:Pv.Ok prog ty 25:=TE.ok (fuel:=100000) gV given (by rw[←F.gI];kernel_rfl)
theorem t21:Pw.Ok prog ty 31:=TE.ok (fuel:=100000) gV given (by rw[←F.gI];kernel_rfl)
end Go.Proofs.YtpdbepbhlalldaaGreatDoor
end
