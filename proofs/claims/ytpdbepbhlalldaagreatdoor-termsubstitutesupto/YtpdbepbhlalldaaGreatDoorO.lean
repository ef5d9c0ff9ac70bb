/- A part of the proof. -/
import Derived.Test.YtpdbepbhlalldaaGreatDoorK
set_option linter.all false
section
set_option maxRecDepth 1000000
namespace Go.Proofs.YtpdbepbhlalldaaGreatDoor
open Go Go.Ev Go.Proofs.Tryz
def t22:M9.Ok prog ty 28:=TE.ok (fuel:=100000) fF given (by rw[←F.fj];kernel_rfl)
def t23:Na.Ok prog ty 25:=TE.ok (fuel:=100000) fF given (by rw[←F.fj];kernel_rfl)
def t24:Nb.Ok prog ty 8:=TE.ok (fuel:=100000) fF given (by rw[←F.fj];kernel_rfl)
def t25:Nc.Ok prog ty 25:=TE.ok (fuel:=100000) fF given (by rw[←F.fj];kernel_rfl)
def t26:Nf.Ok prog ty 25:=TE.ok (fuel:=100000) fF given (by rw[←F.fj];kernel_rfl)
def t27:Ng.Ok prog ty 32:=TE.ok (fuel:=100000) fF given (by rw[←F.fj];kernel_rfl)
def t28:Nh.Ok prog ty 33:=TE.ok (fuel:=100000) fF given (by rw[←F.fj];kernel_rfl)
def t29:Ni.Ok prog ty 33:=TE.ok (fuel:=100000) fF given (by rw[←F.fj];kernel_rfl)
end Go.Proofs.YtpdbepbhlalldaaGreatDoor
end
