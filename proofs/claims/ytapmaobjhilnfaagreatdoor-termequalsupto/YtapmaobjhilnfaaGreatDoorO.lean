/- A part of the proof. -/
import Derived.Test.YtapmaobjhilnfaaGreatDoorK
set_option linter.all false
section
set_option maxRecDepth 1000000
namespace Go.Proofs.YtapmaobjhilnfaaGreatDoor
open Go Go.Ev Go.Proofs.Tryz
theorem t22:Pb.Ok prog ty 17:=TE.ok (fuel:=100000) gG given (by rw[←F.gq];kernel_rfl)
theorem t23:Pc.Ok prog ty 13:=TE.ok (fuel:=100000) gG given (by rw[←F.gq];kernel_rfl)
theorem t24:Pd.Ok prog ty 21:=TE.ok (fuel:=100000) gG given (by rw[←F.gq];kernel_rfl)
theorem t25:Pe.Ok prog ty 13:=TE.ok (fuel:=100000) gG given (by rw[←F.gq];kernel_rfl)
theorem t26:Jx.Ok prog ty 13:=TE.ok (fuel:=100000) gG given (by rw[←F.gq];kernel_rfl)
theorem t27:Pf.Ok prog ty 6:=TE.ok (fuel:=100000) gG given (by rw[←F.gq];kernel_rfl)
theorem t28:Pg.Ok prog ty 22:=TE.ok (fuel:=100000) gG given (by rw[←F.gq];kernel_rfl)
theorem t29:Ph.Ok prog ty 22:=TE.ok (fuel:=100000) gG given (by rw[←F.gq];kernel_rfl)
end Go.Proofs.YtapmaobjhilnfaaGreatDoor
end
