/- A part of the proof. -/
import Derived.Test.YtjflaalpkjchoaaGreatDoorK
set_option linter.all false
section
set_option maxRecDepth 1000000
namespace Go.Proofs.YtjflaalpkjchoaaGreatDoor
open Go Go.Ev Go.Proofs.Tryz
def t0:e0.Ok prog ty 24:=TE.ok (fuel:=100000) gw given (by rw[←F.fW];kernel_rfl)
def t1:e1.Ok prog ty 26:=TE.ok (fuel:=100000) gw given (by rw[←F.fW];kernel_rfl)
def t2:e2.Ok prog ty 25:=TE.ok (fuel:=100000) gw given (by rw[←F.fW];kernel_rfl)
def t3:e3.Ok prog ty 26:=TE.ok (fuel:=100000) gw given (by rw[←F.fW];kernel_rfl)
def t4:e4.Ok prog ty 25:=TE.ok (fuel:=100000) gw given (by rw[←F.fW];kernel_rfl)
def t5:e5.Ok prog ty 27:=TE.ok (fuel:=100000) gw given (by rw[←F.fW];kernel_rfl)
def t6:e6.Ok prog ty 27:=TE.ok (fuel:=100000) gw given (by rw[←F.fW];kernel_rfl)
def t7:e7.Ok prog ty 27:=TE.ok (fuel:=100000) gw given (by rw[←F.fW];kernel_rfl)
end Go.Proofs.YtjflaalpkjchoaaGreatDoor
end
