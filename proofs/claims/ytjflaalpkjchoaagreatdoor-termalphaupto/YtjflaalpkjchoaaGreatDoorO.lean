/- A part of the proof. -/
import Derived.Test.YtjflaalpkjchoaaGreatDoorK
set_option linter.all false
section
set_option maxRecDepth 1000000
namespace Go.Proofs.YtjflaalpkjchoaaGreatDoor
open Go Go.Ev Go.Proofs.Tryz
def t22:ON.Ok prog ty 29:=TE.ok (fuel:=100000) gw given (by rw[←F.fW];kernel_rfl)
def t23:Bp.Ok prog ty 26:=TE.ok (fuel:=100000) gw given (by rw[←F.fW];kernel_rfl)
def t24:OO.Ok prog ty 33:=TE.ok (fuel:=100000) gw given (by rw[←F.fW];kernel_rfl)
def t25:OP.Ok prog ty 26:=TE.ok (fuel:=100000) gw given (by rw[←F.fW];kernel_rfl)
def t26:OQ.Ok prog ty 26:=TE.ok (fuel:=100000) gw given (by rw[←F.fW];kernel_rfl)
def t27:OR.Ok prog ty 11:=TE.ok (fuel:=100000) gw given (by rw[←F.fW];kernel_rfl)
def t28:OS.Ok prog ty 18:=TE.ok (fuel:=100000) gw given (by rw[←F.fW];kernel_rfl)
def t29:OT.Ok prog ty 18:=TE.ok (fuel:=100000) gw given (by rw[←F.fW];kernel_rfl)
end Go.Proofs.YtjflaalpkjchoaaGreatDoor
end
