/- A part of the proof. -/
import Derived.Test.YtpdbepbhlalldaaGreatDoorL
import Derived.Test.YtpdbepbhlalldaaGreatDoorM
import Derived.Test.YtpdbepbhlalldaaGreatDoorN
import Derived.Test.YtpdbepbhlalldaaGreatDoorO
import Derived.Test.YtpdbepbhlalldaaGreatDoorK
import Derived.Test.YtpdbepbhlalldaaGreatDoorD
set_option linter.all false
section
set_option maxRecDepth 1000000
namespace Go.Proofs.YtpdbepbhlalldaaGreatDoor
open Go Go.Ev Go.Proofs.Tryz
noncomputable def Ym:List (Nat×bP):=[(5,EH prog ty 5),(23,.pm (.kI [e0])),(25,.pm (.kI [e1,e3,e8,mI,JB,Pv,Py,PA,PC])),(24,.pm (.kI [e2,e4])),(26,.pm (.kI [e5,e6,e7])),(27,.pm (.kI [e9])),(12,.pm (.kI [nG])),(28,.pm (.kI [zk,uq,Ps,Pu,Px])),(29,.pm (.kI [kL])),(30,.pm (.kI [lY])),(31,.pm (.kI [Pt,Pw])),(8,.pm (.kI [Pz])),(32,.pm (.kI [PD])),(33,.pm (.kI [PE,PF]))]
noncomputable def C2(g:Nat):Option bP:=(laid Ym).get (cT g)
def pn(Q:TE->Prop):List TE->Prop
 | []=>True
 | e::l=>Q e/\pn Q l
theorem qZ{Q:TE->Prop}{l:List TE}(h:pn Q l):∀e∈l,Q e:=by
 induction l with
 | nil=>intro e he;cases he
 | cons a l ih=>
  intro e he;cases he with
  | head=>exact h.1
  | tail _ he=>exact ih h.2 e he
theorem alw:iJ prog ty 23 (.pm (.kI [e0])):=qZ (show pn (λe=>TE.Ok prog ty 23 e) [e0] from⟨t0,trivial⟩)
theorem alx:iJ prog ty 25 (.pm (.kI [e1,e3,e8,mI,JB,Pv,Py,PA,PC])):=qZ (show pn (λe=>TE.Ok prog ty 25 e) [e1,e3,e8,mI,JB,Pv,Py,PA,PC] from⟨t1,t3,t8,t12,t17,t20,t23,t25,t26,trivial⟩)
theorem aly:iJ prog ty 24 (.pm (.kI [e2,e4])):=qZ (show pn (λe=>TE.Ok prog ty 24 e) [e2,e4] from⟨t2,t4,trivial⟩)
theorem alz:iJ prog ty 26 (.pm (.kI [e5,e6,e7])):=qZ (show pn (λe=>TE.Ok prog ty 26 e) [e5,e6,e7] from⟨t5,t6,t7,trivial⟩)
theorem alA:iJ prog ty 27 (.pm (.kI [e9])):=qZ (show pn (λe=>TE.Ok prog ty 27 e) [e9] from⟨t9,trivial⟩)
theorem alB:iJ prog ty 12 (.pm (.kI [nG])):=qZ (show pn (λe=>TE.Ok prog ty 12 e) [nG] from⟨t10,trivial⟩)
theorem alC:iJ prog ty 28 (.pm (.kI [zk,uq,Ps,Pu,Px])):=qZ (show pn (λe=>TE.Ok prog ty 28 e) [zk,uq,Ps,Pu,Px] from⟨t11,t14,t16,t19,t22,trivial⟩)
theorem alD:iJ prog ty 29 (.pm (.kI [kL])):=qZ (show pn (λe=>TE.Ok prog ty 29 e) [kL] from⟨t13,trivial⟩)
theorem alE:iJ prog ty 30 (.pm (.kI [lY])):=qZ (show pn (λe=>TE.Ok prog ty 30 e) [lY] from⟨t15,trivial⟩)
theorem alF:iJ prog ty 31 (.pm (.kI [Pt,Pw])):=qZ (show pn (λe=>TE.Ok prog ty 31 e) [Pt,Pw] from⟨t18,t21,trivial⟩)
theorem alG:iJ prog ty 8 (.pm (.kI [Pz])):=qZ (show pn (λe=>TE.Ok prog ty 8 e) [Pz] from⟨t24,trivial⟩)
theorem alH:iJ prog ty 32 (.pm (.kI [PD])):=qZ (show pn (λe=>TE.Ok prog ty 32 e) [PD] from⟨t27,trivial⟩)
theorem alI:iJ prog ty 33 (.pm (.kI [PE,PF])):=qZ (show pn (λe=>TE.Ok prog ty 33 e) [PE,PF] from⟨t28,t29,trivial⟩)
theorem Yn:wN (iJ prog ty) Ym:=⟨VK (by kernel_rfl),alw,alx,aly,alz,alA,alB,alC,alD,alE,alF,alG,alH,alI,trivial⟩
noncomputable def aw:TE:=⟨[],FK,eM,.b true,.e,Yl⟩
theorem alJ:aw.Ok prog ty 5:=TE.ok (fuel:=1000) (Mh N8 mixed Yn) (Mi Yn) (C:=C2) (by rw[←F.gI];kernel_rfl)
def gs:List Nat:=[6,34,35,9,19,38,32,36,42,41,82,165,97,186,245,102,98,56,99,187,246,294,325,247,248,188,221,277,312,209,306,339,355,249,295,250,251,296,326,298,327,328,297,252,253,299,319,347,330,349,329,321,331,320,254,44,118,195,261,145,305,262,263,264,100,106,191,181,241,101,189,103,86,173,239,174,39,49,48,107,109,108,110,66,111,192,193,256,302,194,257,260,304,259,303,332,350,351,362,352,333,335,334,353,336,354,258,50,130,112,117,113,114,68,136,70,131,171,229,230,279,280,4,16,17,18,57,138,58,59,139,60,61,62,63,64,140,119,196,124,65,20,67,15,55,11,137,21,69,22]
def xs:List AF:=[X.f6,X.f34,X.f35,X.f9,X.f19,X.f38,X.f32,X.f36,X.f42,X.f41,X.f82,X.f165,X.f97,X.f186,X.f245,X.f102,X.f98,X.f56,X.f99,X.f187,X.f246,X.f294,X.f325,X.f247,X.f248,X.f188,X.f221,X.f277,X.f312,X.f209,X.f306,X.f339,X.f355,X.f249,X.f295,X.f250,X.f251,X.f296,X.f326,X.f298,X.f327,X.f328,X.f297,X.f252,X.f253,X.f299,X.f319,X.f347,X.f330,X.f349,X.f329,X.f321,X.f331,X.f320,X.f254,X.f44,X.f118,X.f195,X.f261,X.f145,X.f305,X.f262,X.f263,X.f264,X.f100,X.f106,X.f191,X.f181,X.f241,X.f101,X.f189,X.f103,X.f86,X.f173,X.f239,X.f174,X.f39,X.f49,X.f48,X.f107,X.f109,X.f108,X.f110,X.f66,X.f111,X.f192,X.f193,X.f256,X.f302,X.f194,X.f257,X.f260,X.f304,X.f259,X.f303,X.f332,X.f350,X.f351,X.f362,X.f352,X.f333,X.f335,X.f334,X.f353,X.f336,X.f354,X.f258,X.f50,X.f130,X.f112,X.f117,X.f113,X.f114,X.f68,X.f136,X.f70,X.f131,X.f171,X.f229,X.f230,X.f279,X.f280,X.f4,X.f16,X.f17,X.f18,X.f57,X.f138,X.f58,X.f59,X.f139,X.f60,X.f61,X.f62,X.f63,X.f64,X.f140,X.f119,X.f196,X.f124,X.f65,X.f20,X.f67,X.f15,X.f55,X.f11,X.f137,X.f21,X.f69,X.f22]
theorem alK:gs.map (It prog ty)=xs.map some:=by kernel_rfl
end Go.Proofs.YtpdbepbhlalldaaGreatDoor
end
