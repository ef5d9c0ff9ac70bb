/- A part of the proof. -/
import Derived.Test.YtjflaalpkjchoaaGreatDoorR
set_option linter.all false
section
set_option maxRecDepth 1000000
namespace Go.Proofs.YtjflaalpkjchoaaGreatDoor
open Go Go.Ev Go.ChangeShapes Go.WideShapes Go.ChangeAt Go.RowKit Go.Proofs.Tryz
noncomputable abbrev JC:OpenClaim:=Rows.termAlphaUptoRow
noncomputable abbrev JS:ChangeSpec:=(Rows.OpenSpec.upto Rows.termAlphaSpec).bare
def jf0:(JC.wf (OpenSpec.ofChange JS))=true:=by kernel_rfl
def jf1:(laidOutB prog)=true:=by kernel_rfl
def jf2:(mapsRowed prog)=true:=by kernel_rfl
def jf3:(f3.params.all (prog.readableRec ·))=true:=by kernel_rfl
def jf4:(namedTie prog JC.named JS.vars)=true:=by kernel_rfl
def jf5:((JC.stops==[]))=true:=by kernel_rfl
def jf6:((prog.stops==[]))=true:=by kernel_rfl
def jf7:((JC.knobs==[]))=true:=by kernel_rfl
def jf8:((prog.stopKnobs==[]))=true:=by kernel_rfl
def jf9:((JC.inPlace==prog.inPlace 3))=true:=by kernel_rfl
def apk:((JC.unfollowed==prog.unfollowed 3))=true:=by kernel_rfl
def apl:((JC.recurses==prog.recurses 3))=true:=by kernel_rfl
def apm:((JC.named==prog.varsNamed 3))=true:=by kernel_rfl
def apn:((JC.maps==(f3.params.toList++JS.plain.varTypes prog).any (prog.mapsRec ·)))=true:=by kernel_rfl
def apo:((JC.ifaces==(f3.params.toList++JS.plain.varTypes prog).any (prog.ifacesRec ·)))=true:=by kernel_rfl
def apq:((JC.mapsOut==prog.mapsAmong f3.resultTypes.toList))=true:=by kernel_rfl
def apr:((JC.loops==(f3.params.toList++JS.plain.varTypes prog).any (prog.loopsFrom ·)))=true:=by kernel_rfl
def aps:((JC.wideKeys==(f3.params.toList++JS.plain.varTypes prog++f3.resultTypes.toList).any (prog.wideKeysFrom ·)))=true:=by kernel_rfl
def apt:(JS.vars.all (prog.varReadable ·))=true:=by kernel_rfl
def apu:(f3.resultTypes.all (λt=>prog.readableRec t&&decide (t<prog.types.size)))=true:=by kernel_rfl
def apv:((JC.ifacesOut==f3.resultTypes.toList.any (prog.ifacesRec ·)))=true:=by kernel_rfl
def apw:((JC.loopsOut==f3.resultTypes.toList.any (prog.loopsFrom ·)))=true:=by kernel_rfl
def apx:((JC.plainKeys==prog.plainKeys))=true:=by kernel_rfl
def apy:(JC.shortTexts.isNone)=true:=by kernel_rfl
def apz:(prog.stopsHeard)=true:=by kernel_rfl
def apA:(prog.mayEnter)=true:=by kernel_rfl
def apB:((JC.lifted==prog.liftsFinal))=true:=by kernel_rfl
def apC:((prog.make==some JC.make))=true:=by kernel_rfl
def apD:((JC.kinds==(if JC.domain.isEmpty then [] else f3.params.toList.map λt=>match prog.underlying t with | some (.int k)=>some k | _=>none)))=true:=by kernel_rfl
def apE:((JC.pinned==JC.pinnedBy))=true:=by kernel_rfl
def apF:((JC.veiled==(f3.params.toList++JS.plain.varTypes prog++f3.resultTypes.toList).any (prog.veiledRec ·)))=true:=by kernel_rfl
def apG:(JC.veiledFits prog f3.params.toList (f3.params.toList++JS.plain.varTypes prog++f3.resultTypes.toList))=true:=by kernel_rfl
def jf:joinedFacts prog 3 f3 JS JC=true:=by unfold joinedFacts;simp only[aD];exact⟨⟨⟨⟨⟨⟨⟨⟨⟨⟨⟨⟨⟨⟨⟨⟨⟨⟨⟨⟨⟨⟨⟨⟨⟨⟨⟨⟨⟨⟨⟨jf0,jf1⟩,jf2⟩,jf3⟩,jf4⟩,jf5⟩,jf6⟩,jf7⟩,jf8⟩,jf9⟩,apk⟩,apl⟩,apm⟩,apn⟩,apo⟩,apq⟩,apr⟩,aps⟩,apt⟩,apu⟩,apv⟩,apw⟩,apx⟩,apy⟩,apz⟩,apA⟩,apB⟩,apC⟩,apD⟩,apE⟩,apF⟩,apG⟩
end Go.Proofs.YtjflaalpkjchoaaGreatDoor
end
