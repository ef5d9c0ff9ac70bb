/- A part of the proof. -/
import Derived.Test.YtpdbepbhlalldaaGreatDoorK
set_option linter.all false
section
set_option maxRecDepth 1000000
namespace Go.Proofs.YtpdbepbhlalldaaGreatDoor
open Go Go.Ev Go.Proofs.Tryz
theorem t8:e8.Ok prog ty 25:=TE.ok (fuel:=100000) gV given (by rw[←F.gI];kernel_rfl)
theorem t9:e9.Ok prog ty 27:=TE.ok (fuel:=100000) gV given (by rw[←F.gI];kernel_rfl)
theorem t10:nG.Ok prog ty 12:=TE.ok (fuel:=100000) gV given (by rw[←F.gI];kernel_rfl)
theorem t11:zk.Ok prog ty 28:=TE.ok (fuel:=100000) gV given (by rw[←F.gI];kernel_rfl)
theorem t12:mI.Ok prog ty 25:=TE.ok (fuel:=100000) gV given (by rw[←F.gI];kernel_rfl)
theorem t13:kL.Ok prog ty 29:=TE.ok (fuel:=100000) gV given (by rw[←F.gI];kernel_rfl)
theorem t14:uq.Ok prog ty 28:=TE.ok (fuel:=100000) gV given (by rw[←F.gI];kernel_rfl)
end Go.Proofs.YtpdbepbhlalldaaGreatDoor
end
