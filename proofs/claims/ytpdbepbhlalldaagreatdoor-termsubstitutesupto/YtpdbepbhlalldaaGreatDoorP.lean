/- A part of the proof. -/
import Derived.Test.YtpdbepbhlalldaaGreatDoorL
import Derived.Test.YtpdbepbhlalldaaGreatDoorM
import Derived.Test.YtpdbepbhlalldaaGreatDoorN
import Derived.Test.YtpdbepbhlalldaaGreatDoorO
import Derived.Test.YtpdbepbhlalldaaGreatDoorK
import Derived.Test.YtpdbepbhlalldaaGreatDoorD
set_option linter.all false
section
set_option maxRecDepth 1000000
namespace Go.Proofs.YtpdbepbhlalldaaGreatDoor
open Go Go.Ev Go.Proofs.Tryz
noncomputable def Vr:List (Nat×aI):=[(5,sP prog ty 5),(23,.pm (.iV [e0])),(25,.pm (.iV [e1,e3,e8,gm,F3,M7,Na,Nc,Nf])),(24,.pm (.iV [e2,e4])),(26,.pm (.iV [e5,e6,e7])),(27,.pm (.iV [e9])),(12,.pm (.iV [fI])),(28,.pm (.iV [qT,oV,M4,M6,M9])),(29,.pm (.iV [iD])),(30,.pm (.iV [jK])),(31,.pm (.iV [M5,M8])),(8,.pm (.iV [Nb])),(32,.pm (.iV [Ng])),(33,.pm (.iV [Nh,Ni]))]
noncomputable def C2(g:Nat):Option aI:=(laid Vr).get (bL g)
def nq(Q:TE->Prop):List TE->Prop
 | []=>True
 | e::l=>Q e/\nq Q l
def oR{Q:TE->Prop}{l:List TE}(h:nq Q l):∀e∈l,Q e:=by
 induction l with
 | nil=>intro e he;cases he
 | cons a l ih=>
  intro e he;cases he with
  | head=>exact h.1
  | tail _ he=>exact ih h.2 e he
def alZ:fi prog ty 23 (.pm (.iV [e0])):=oR (show nq (λe=>TE.Ok prog ty 23 e) [e0] from⟨t0,trivial⟩)
def al0:fi prog ty 25 (.pm (.iV [e1,e3,e8,gm,F3,M7,Na,Nc,Nf])):=oR (show nq (λe=>TE.Ok prog ty 25 e) [e1,e3,e8,gm,F3,M7,Na,Nc,Nf] from⟨t1,t3,t8,t12,t17,t20,t23,t25,t26,trivial⟩)
def al1:fi prog ty 24 (.pm (.iV [e2,e4])):=oR (show nq (λe=>TE.Ok prog ty 24 e) [e2,e4] from⟨t2,t4,trivial⟩)
def al2:fi prog ty 26 (.pm (.iV [e5,e6,e7])):=oR (show nq (λe=>TE.Ok prog ty 26 e) [e5,e6,e7] from⟨t5,t6,t7,trivial⟩)
def al3:fi prog ty 27 (.pm (.iV [e9])):=oR (show nq (λe=>TE.Ok prog ty 27 e) [e9] from⟨t9,trivial⟩)
def al4:fi prog ty 12 (.pm (.iV [fI])):=oR (show nq (λe=>TE.Ok prog ty 12 e) [fI] from⟨t10,trivial⟩)
def al5:fi prog ty 28 (.pm (.iV [qT,oV,M4,M6,M9])):=oR (show nq (λe=>TE.Ok prog ty 28 e) [qT,oV,M4,M6,M9] from⟨t11,t14,t16,t19,t22,trivial⟩)
def al6:fi prog ty 29 (.pm (.iV [iD])):=oR (show nq (λe=>TE.Ok prog ty 29 e) [iD] from⟨t13,trivial⟩)
def al7:fi prog ty 30 (.pm (.iV [jK])):=oR (show nq (λe=>TE.Ok prog ty 30 e) [jK] from⟨t15,trivial⟩)
def al8:fi prog ty 31 (.pm (.iV [M5,M8])):=oR (show nq (λe=>TE.Ok prog ty 31 e) [M5,M8] from⟨t18,t21,trivial⟩)
def al9:fi prog ty 8 (.pm (.iV [Nb])):=oR (show nq (λe=>TE.Ok prog ty 8 e) [Nb] from⟨t24,trivial⟩)
def ama:fi prog ty 32 (.pm (.iV [Ng])):=oR (show nq (λe=>TE.Ok prog ty 32 e) [Ng] from⟨t27,trivial⟩)
def amb:fi prog ty 33 (.pm (.iV [Nh,Ni])):=oR (show nq (λe=>TE.Ok prog ty 33 e) [Nh,Ni] from⟨t28,t29,trivial⟩)
def Vs:Each (fi prog ty) Vr:=⟨Ez (by kernel_rfl),alZ,al0,al1,al2,al3,al4,al5,al6,al7,al8,al9,ama,amb,trivial⟩
noncomputable def aw:TE:=⟨[],Cq,gU,.b true,.e,Vq⟩
def amc:aw.Ok prog ty 5:=TE.ok (fuel:=1000) (IV Lc mixed Vs) (IW Vs) (C:=C2) (by rw[←F.fj];kernel_rfl)
def gs:List Nat:=[6,34,35,9,19,38,36,42,41,82,165,97,186,245,102,98,56,99,187,246,294,325,247,248,188,221,277,312,209,306,339,355,249,295,250,251,296,326,298,327,328,297,252,253,299,319,347,330,349,329,321,331,320,254,44,118,195,261,145,305,262,263,264,100,106,191,181,241,101,189,103,39,49,48,107,109,108,110,66,111,192,193,256,302,194,257,260,304,259,303,332,350,351,362,352,333,335,334,353,336,354,258,50,130,112,117,113,114,68,136,70,131,61,64,140,119,196,124,67,15,55,11,137,69,3,7,8,37,104,190,255,300,301,105,10,40,115,116,13,12,43,45,47,120,198,197,122,123,121,199,125,201,200,127,126,202,27,129,128,46,14,51,52,53,132,133,134,135,54]
def xs:List AF:=[X.f6,X.f34,X.f35,X.f9,X.f19,X.f38,X.f36,X.f42,X.f41,X.f82,X.f165,X.f97,X.f186,X.f245,X.f102,X.f98,X.f56,X.f99,X.f187,X.f246,X.f294,X.f325,X.f247,X.f248,X.f188,X.f221,X.f277,X.f312,X.f209,X.f306,X.f339,X.f355,X.f249,X.f295,X.f250,X.f251,X.f296,X.f326,X.f298,X.f327,X.f328,X.f297,X.f252,X.f253,X.f299,X.f319,X.f347,X.f330,X.f349,X.f329,X.f321,X.f331,X.f320,X.f254,X.f44,X.f118,X.f195,X.f261,X.f145,X.f305,X.f262,X.f263,X.f264,X.f100,X.f106,X.f191,X.f181,X.f241,X.f101,X.f189,X.f103,X.f39,X.f49,X.f48,X.f107,X.f109,X.f108,X.f110,X.f66,X.f111,X.f192,X.f193,X.f256,X.f302,X.f194,X.f257,X.f260,X.f304,X.f259,X.f303,X.f332,X.f350,X.f351,X.f362,X.f352,X.f333,X.f335,X.f334,X.f353,X.f336,X.f354,X.f258,X.f50,X.f130,X.f112,X.f117,X.f113,X.f114,X.f68,X.f136,X.f70,X.f131,X.f61,X.f64,X.f140,X.f119,X.f196,X.f124,X.f67,X.f15,X.f55,X.f11,X.f137,X.f69,X.f3,X.f7,X.f8,X.f37,X.f104,X.f190,X.f255,X.f300,X.f301,X.f105,X.f10,X.f40,X.f115,X.f116,X.f13,X.f12,X.f43,X.f45,X.f47,X.f120,X.f198,X.f197,X.f122,X.f123,X.f121,X.f199,X.f125,X.f201,X.f200,X.f127,X.f126,X.f202,X.f27,X.f129,X.f128,X.f46,X.f14,X.f51,X.f52,X.f53,X.f132,X.f133,X.f134,X.f135,X.f54]
def amd:gs.map (uF prog ty)=xs.map some:=by kernel_rfl
end Go.Proofs.YtpdbepbhlalldaaGreatDoor
end
