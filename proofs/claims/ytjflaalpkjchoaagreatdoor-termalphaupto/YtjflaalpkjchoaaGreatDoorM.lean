/- A part of the proof. -/
import Derived.Test.YtjflaalpkjchoaaGreatDoorK
set_option linter.all false
section
set_option maxRecDepth 1000000
namespace Go.Proofs.YtjflaalpkjchoaaGreatDoor
open Go Go.Ev Go.Proofs.Tryz
def t8:e8.Ok prog ty 26:=TE.ok (fuel:=100000) gw given (by rw[←F.fW];kernel_rfl)
def t9:e9.Ok prog ty 28:=TE.ok (fuel:=100000) gw given (by rw[←F.fW];kernel_rfl)
def t10:hX.Ok prog ty 12:=TE.ok (fuel:=100000) gw given (by rw[←F.fW];kernel_rfl)
def t11:yX.Ok prog ty 29:=TE.ok (fuel:=100000) gw given (by rw[←F.fW];kernel_rfl)
def t12:mf.Ok prog ty 26:=TE.ok (fuel:=100000) gw given (by rw[←F.fW];kernel_rfl)
def t13:nZ.Ok prog ty 30:=TE.ok (fuel:=100000) gw given (by rw[←F.fW];kernel_rfl)
def t14:xf.Ok prog ty 29:=TE.ok (fuel:=100000) gw given (by rw[←F.fW];kernel_rfl)
end Go.Proofs.YtjflaalpkjchoaaGreatDoor
end
