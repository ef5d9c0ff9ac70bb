/- A part of the proof. -/
import Derived.Test.YtapmaobjhilnfaaGreatDoorK
set_option linter.all false
section
set_option maxRecDepth 1000000
namespace Go.Proofs.YtapmaobjhilnfaaGreatDoor
open Go Go.Ev Go.Proofs.Tryz
theorem t15:lN.Ok prog ty 19:=TE.ok (fuel:=100000) gG given (by rw[←F.gq];kernel_rfl)
theorem t16:Fw.Ok prog ty 17:=TE.ok (fuel:=100000) gG given (by rw[←F.gq];kernel_rfl)
theorem t17:Jq.Ok prog ty 13:=TE.ok (fuel:=100000) gG given (by rw[←F.gq];kernel_rfl)
theorem t18:O7.Ok prog ty 20:=TE.ok (fuel:=100000) gG given (by rw[←F.gq];kernel_rfl)
theorem t19:O8.Ok prog ty 17:=TE.ok (fuel:=100000) gG given (by rw[←F.gq];kernel_rfl)
theorem t20:O9.Ok prog ty 13:=TE.ok (fuel:=100000) gG given (by rw[←F.gq];kernel_rfl)
theorem t21:Pa.Ok prog ty 20:=TE.ok (fuel:=100000) gG given (by rw[←F.gq];kernel_rfl)
end Go.Proofs.YtapmaobjhilnfaaGreatDoor
end
