/- A part of the proof. -/
import Derived.Test.YtpdbepbhlalldaaGreatDoorK
set_option linter.all false
section
set_option maxRecDepth 1000000
namespace Go.Proofs.YtpdbepbhlalldaaGreatDoor
open Go Go.Ev Go.Proofs.Tryz
def t15:jK.Ok prog ty 30:=TE.ok (fuel:=100000) fF given (by rw[←F.fj];kernel_rfl)
def t16:M4.Ok prog ty 28:=TE.ok (fuel:=100000) fF given (by rw[←F.fj];kernel_rfl)
def t17:F3.Ok prog ty 25:=TE.ok (fuel:=100000) fF given (by rw[←F.fj];kernel_rfl)
def t18:M5.Ok prog ty 31:=TE.ok (fuel:=100000) fF given (by rw[←F.fj];kernel_rfl)
def t19:M6.Ok prog ty 28:=TE.ok (fuel:=100000) fF given (by rw[←F.fj];kernel_rfl)
def t20:M7.Ok prog ty 25:=TE.ok (fuel:=100000) fF given (by rw[←F.fj];kernel_rfl)
def t21:M8.Ok prog ty 31:=TE.ok (fuel:=100000) fF given (by rw[←F.fj];kernel_rfl)
end Go.Proofs.YtpdbepbhlalldaaGreatDoor
end
