/- A part of the proof. -/
import Derived.Test.YtjflaalpkjchoaaGreatDoorL
import Derived.Test.YtjflaalpkjchoaaGreatDoorM
import Derived.Test.YtjflaalpkjchoaaGreatDoorN
import Derived.Test.YtjflaalpkjchoaaGreatDoorO
import Derived.Test.YtjflaalpkjchoaaGreatDoorK
import Derived.Test.YtjflaalpkjchoaaGreatDoorD
set_option linter.all false
section
set_option maxRecDepth 1000000
namespace Go.Proofs.YtjflaalpkjchoaaGreatDoor
open Go Go.Ev Go.Proofs.Tryz
noncomputable def XJ:List (Nat×aE):=[(5,uB prog ty 5),(24,.pm (.jw [e0])),(26,.pm (.jw [e1,e3,e8,mf,OI,OL,Bp,OP,OQ])),(25,.pm (.jw [e2,e4])),(27,.pm (.jw [e5,e6,e7])),(28,.pm (.jw [e9])),(12,.pm (.jw [hX])),(29,.pm (.jw [yX,xf,OH,OK,ON])),(30,.pm (.jw [nZ])),(31,.pm (.jw [rS])),(32,.pm (.jw [OJ,OM])),(33,.pm (.jw [OO])),(11,.pm (.jw [OR])),(18,.pm (.jw [OS,OT]))]
noncomputable def C2(g:Nat):Option aE:=(laid XJ).get (bF g)
def oh(Q:TE->Prop):List TE->Prop
 | []=>True
 | e::l=>Q e/\oh Q l
def pN{Q:TE->Prop}{l:List TE}(h:oh Q l):∀e∈l,Q e:=by
 induction l with
 | nil=>intro e he;cases he
 | cons a l ih=>
  intro e he;cases he with
  | head=>exact h.1
  | tail _ he=>exact ih h.2 e he
def aow:fV prog ty 24 (.pm (.jw [e0])):=pN (show oh (λe=>TE.Ok prog ty 24 e) [e0] from⟨t0,trivial⟩)
def aox:fV prog ty 26 (.pm (.jw [e1,e3,e8,mf,OI,OL,Bp,OP,OQ])):=pN (show oh (λe=>TE.Ok prog ty 26 e) [e1,e3,e8,mf,OI,OL,Bp,OP,OQ] from⟨t1,t3,t8,t12,t17,t20,t23,t25,t26,trivial⟩)
def aoy:fV prog ty 25 (.pm (.jw [e2,e4])):=pN (show oh (λe=>TE.Ok prog ty 25 e) [e2,e4] from⟨t2,t4,trivial⟩)
def aoz:fV prog ty 27 (.pm (.jw [e5,e6,e7])):=pN (show oh (λe=>TE.Ok prog ty 27 e) [e5,e6,e7] from⟨t5,t6,t7,trivial⟩)
def aoA:fV prog ty 28 (.pm (.jw [e9])):=pN (show oh (λe=>TE.Ok prog ty 28 e) [e9] from⟨t9,trivial⟩)
def aoB:fV prog ty 12 (.pm (.jw [hX])):=pN (show oh (λe=>TE.Ok prog ty 12 e) [hX] from⟨t10,trivial⟩)
def aoC:fV prog ty 29 (.pm (.jw [yX,xf,OH,OK,ON])):=pN (show oh (λe=>TE.Ok prog ty 29 e) [yX,xf,OH,OK,ON] from⟨t11,t14,t16,t19,t22,trivial⟩)
def aoD:fV prog ty 30 (.pm (.jw [nZ])):=pN (show oh (λe=>TE.Ok prog ty 30 e) [nZ] from⟨t13,trivial⟩)
def aoE:fV prog ty 31 (.pm (.jw [rS])):=pN (show oh (λe=>TE.Ok prog ty 31 e) [rS] from⟨t15,trivial⟩)
def aoF:fV prog ty 32 (.pm (.jw [OJ,OM])):=pN (show oh (λe=>TE.Ok prog ty 32 e) [OJ,OM] from⟨t18,t21,trivial⟩)
def aoG:fV prog ty 33 (.pm (.jw [OO])):=pN (show oh (λe=>TE.Ok prog ty 33 e) [OO] from⟨t24,trivial⟩)
def aoH:fV prog ty 11 (.pm (.jw [OR])):=pN (show oh (λe=>TE.Ok prog ty 11 e) [OR] from⟨t27,trivial⟩)
def aoI:fV prog ty 18 (.pm (.jw [OS,OT])):=pN (show oh (λe=>TE.Ok prog ty 18 e) [OS,OT] from⟨t28,t29,trivial⟩)
def XK:Each (fV prog ty) XJ:=⟨FH (by kernel_rfl),aow,aox,aoy,aoz,aoA,aoB,aoC,aoD,aoE,aoF,aoG,aoH,aoI,trivial⟩
noncomputable def aw:TE:=⟨[],Dx,iT,.b true,.e,XI⟩
def aoJ:aw.Ok prog ty 5:=TE.ok (fuel:=1000) (J4 Mw mixed XK) (J5 XK) (C:=C2) (by rw[←F.fW];kernel_rfl)
def gs:List Nat:=[3,6,7,8,9,10,11,12,13,28,34,35,36,37,38,39,40,41,42,43,44,45,46,47,48,49,50,51,52,53,90,98,99,100,101,102,103,104,105,106,107,108,109,110,111,112,113,114,115,116,117,118,119,120,121,122,126,137,152,178,179,180,181,182,183,184,185,186,187,188,189,190,191,192,193,194,195,196,197,198,199,200,201,205,219,246,247,248,249,250,251,252,253,254,255,256,257,285,286,287,288,289,290,291,292,293,294,295,296,298,299,300,313,314,315]
def xs:List AF:=[X.f3,X.f6,X.f7,X.f8,X.f9,X.f10,X.f11,X.f12,X.f13,X.f28,X.f34,X.f35,X.f36,X.f37,X.f38,X.f39,X.f40,X.f41,X.f42,X.f43,X.f44,X.f45,X.f46,X.f47,X.f48,X.f49,X.f50,X.f51,X.f52,X.f53,X.f90,X.f98,X.f99,X.f100,X.f101,X.f102,X.f103,X.f104,X.f105,X.f106,X.f107,X.f108,X.f109,X.f110,X.f111,X.f112,X.f113,X.f114,X.f115,X.f116,X.f117,X.f118,X.f119,X.f120,X.f121,X.f122,X.f126,X.f137,X.f152,X.f178,X.f179,X.f180,X.f181,X.f182,X.f183,X.f184,X.f185,X.f186,X.f187,X.f188,X.f189,X.f190,X.f191,X.f192,X.f193,X.f194,X.f195,X.f196,X.f197,X.f198,X.f199,X.f200,X.f201,X.f205,X.f219,X.f246,X.f247,X.f248,X.f249,X.f250,X.f251,X.f252,X.f253,X.f254,X.f255,X.f256,X.f257,X.f285,X.f286,X.f287,X.f288,X.f289,X.f290,X.f291,X.f292,X.f293,X.f294,X.f295,X.f296,X.f298,X.f299,X.f300,X.f313,X.f314,X.f315]
def aoK:gs.map (wv prog ty)=xs.map some:=by kernel_rfl
end Go.Proofs.YtjflaalpkjchoaaGreatDoor
end
