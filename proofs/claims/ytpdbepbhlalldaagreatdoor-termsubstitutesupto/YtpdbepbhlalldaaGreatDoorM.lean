/- A part of the proof. -/
import Derived.Test.YtpdbepbhlalldaaGreatDoorK
set_option linter.all false
section
set_option maxRecDepth 1000000
namespace Go.Proofs.YtpdbepbhlalldaaGreatDoor
open Go Go.Ev Go.Proofs.Tryz
def t8:e8.Ok prog ty 25:=TE.ok (fuel:=100000) fF given (by rw[←F.fj];kernel_rfl)
def t9:e9.Ok prog ty 27:=TE.ok (fuel:=100000) fF given (by rw[←F.fj];kernel_rfl)
def t10:fI.Ok prog ty 12:=TE.ok (fuel:=100000) fF given (by rw[←F.fj];kernel_rfl)
def t11:qT.Ok prog ty 28:=TE.ok (fuel:=100000) fF given (by rw[←F.fj];kernel_rfl)
def t12:gm.Ok prog ty 25:=TE.ok (fuel:=100000) fF given (by rw[←F.fj];kernel_rfl)
def t13:iD.Ok prog ty 29:=TE.ok (fuel:=100000) fF given (by rw[←F.fj];kernel_rfl)
def t14:oV.Ok prog ty 28:=TE.ok (fuel:=100000) fF given (by rw[←F.fj];kernel_rfl)
end Go.Proofs.YtpdbepbhlalldaaGreatDoor
end
