/- A part of the proof. -/
import Derived.Test.YtapmaobjhilnfaaGreatDoorK
set_option linter.all false
section
set_option maxRecDepth 1000000
namespace Go.Proofs.YtapmaobjhilnfaaGreatDoor
open Go Go.Ev Go.Proofs.Tryz
theorem t8:e8.Ok prog ty 13:=TE.ok (fuel:=100000) gG given (by rw[←F.gq];kernel_rfl)
theorem t9:e9.Ok prog ty 16:=TE.ok (fuel:=100000) gG given (by rw[←F.gq];kernel_rfl)
theorem t10:oT.Ok prog ty 15:=TE.ok (fuel:=100000) gG given (by rw[←F.gq];kernel_rfl)
theorem t11:uf.Ok prog ty 17:=TE.ok (fuel:=100000) gG given (by rw[←F.gq];kernel_rfl)
theorem t12:iU.Ok prog ty 13:=TE.ok (fuel:=100000) gG given (by rw[←F.gq];kernel_rfl)
theorem t13:kD.Ok prog ty 18:=TE.ok (fuel:=100000) gG given (by rw[←F.gq];kernel_rfl)
theorem t14:ue.Ok prog ty 17:=TE.ok (fuel:=100000) gG given (by rw[←F.gq];kernel_rfl)
end Go.Proofs.YtapmaobjhilnfaaGreatDoor
end
