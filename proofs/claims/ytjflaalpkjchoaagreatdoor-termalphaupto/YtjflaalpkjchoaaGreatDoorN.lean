/- A part of the proof. -/
import Derived.Test.YtjflaalpkjchoaaGreatDoorK
set_option linter.all false
section
set_option maxRecDepth 1000000
namespace Go.Proofs.YtjflaalpkjchoaaGreatDoor
open Go Go.Ev Go.Proofs.Tryz
def t15:rS.Ok prog ty 31:=TE.ok (fuel:=100000) gw given (by rw[←F.fW];kernel_rfl)
def t16:OH.Ok prog ty 29:=TE.ok (fuel:=100000) gw given (by rw[←F.fW];kernel_rfl)
def t17:OI.Ok prog ty 26:=TE.ok (fuel:=100000) gw given (by rw[←F.fW];kernel_rfl)
def t18:OJ.Ok prog ty 32:=TE.ok (fuel:=100000) gw given (by rw[←F.fW];kernel_rfl)
def t19:OK.Ok prog ty 29:=TE.ok (fuel:=100000) gw given (by rw[←F.fW];kernel_rfl)
def t20:OL.Ok prog ty 26:=TE.ok (fuel:=100000) gw given (by rw[←F.fW];kernel_rfl)
def t21:OM.Ok prog ty 32:=TE.ok (fuel:=100000) gw given (by rw[←F.fW];kernel_rfl)
end Go.Proofs.YtjflaalpkjchoaaGreatDoor
end
