/- A part of the proof. -/
import Derived.Test.YtpdbepbhlalldaaGreatDoorR
set_option linter.all false
section
set_option maxRecDepth 1000000
namespace Go.Proofs.YtpdbepbhlalldaaGreatDoor
open Go Go.Ev Go.ChangeShapes Go.WideShapes Go.ChangeAt Go.RowKit Go.Proofs.Tryz
noncomputable abbrev JC:OpenClaim:=Rows.termSubstitutesUptoRow
noncomputable abbrev JS:ChangeSpec:=(Rows.OpenSpec.upto Rows.termSubstitutesSpec).bare
def jf0:(JC.wf (OpenSpec.ofChange JS))=true:=by kernel_rfl
def jf1:(laidOutB prog)=true:=by kernel_rfl
def jf2:(mapsRowed prog)=true:=by kernel_rfl
def jf3:(f3.params.all (prog.readableRec ·))=true:=by kernel_rfl
def jf4:(namedTie prog JC.named JS.vars)=true:=by kernel_rfl
def jf5:((JC.stops==[]))=true:=by kernel_rfl
def jf6:((prog.stops==[]))=true:=by kernel_rfl
def jf7:((JC.knobs==[]))=true:=by kernel_rfl
def jf8:((prog.stopKnobs==[]))=true:=by kernel_rfl
def jf9:((JC.inPlace==prog.inPlace 3))=true:=by kernel_rfl
def amN:((JC.unfollowed==prog.unfollowed 3))=true:=by kernel_rfl
def amO:((JC.recurses==prog.recurses 3))=true:=by kernel_rfl
def amP:((JC.named==prog.varsNamed 3))=true:=by kernel_rfl
def amQ:((JC.maps==(f3.params.toList++JS.plain.varTypes prog).any (prog.mapsRec ·)))=true:=by kernel_rfl
def amR:((JC.ifaces==(f3.params.toList++JS.plain.varTypes prog).any (prog.ifacesRec ·)))=true:=by kernel_rfl
def amS:((JC.mapsOut==prog.mapsAmong f3.resultTypes.toList))=true:=by kernel_rfl
def amT:((JC.loops==(f3.params.toList++JS.plain.varTypes prog).any (prog.loopsFrom ·)))=true:=by kernel_rfl
def amU:((JC.wideKeys==(f3.params.toList++JS.plain.varTypes prog++f3.resultTypes.toList).any (prog.wideKeysFrom ·)))=true:=by kernel_rfl
def amV:(JS.vars.all (prog.varReadable ·))=true:=by kernel_rfl
def amW:(f3.resultTypes.all (λt=>prog.readableRec t&&decide (t<prog.types.size)))=true:=by kernel_rfl
def amX:((JC.ifacesOut==f3.resultTypes.toList.any (prog.ifacesRec ·)))=true:=by kernel_rfl
def amY:((JC.loopsOut==f3.resultTypes.toList.any (prog.loopsFrom ·)))=true:=by kernel_rfl
def amZ:((JC.plainKeys==prog.plainKeys))=true:=by kernel_rfl
def am0:(JC.shortTexts.isNone)=true:=by kernel_rfl
def am1:(prog.stopsHeard)=true:=by kernel_rfl
def am2:(prog.mayEnter)=true:=by kernel_rfl
def am3:((JC.lifted==prog.liftsFinal))=true:=by kernel_rfl
def am4:((prog.make==some JC.make))=true:=by kernel_rfl
def am5:((JC.kinds==(if JC.domain.isEmpty then [] else f3.params.toList.map λt=>match prog.underlying t with | some (.int k)=>some k | _=>none)))=true:=by kernel_rfl
def am6:((JC.pinned==JC.pinnedBy))=true:=by kernel_rfl
def am7:((JC.veiled==(f3.params.toList++JS.plain.varTypes prog++f3.resultTypes.toList).any (prog.veiledRec ·)))=true:=by kernel_rfl
def am8:(JC.veiledFits prog f3.params.toList (f3.params.toList++JS.plain.varTypes prog++f3.resultTypes.toList))=true:=by kernel_rfl
def jf:joinedFacts prog 3 f3 JS JC=true:=by unfold joinedFacts;simp only[aK];exact⟨⟨⟨⟨⟨⟨⟨⟨⟨⟨⟨⟨⟨⟨⟨⟨⟨⟨⟨⟨⟨⟨⟨⟨⟨⟨⟨⟨⟨⟨⟨jf0,jf1⟩,jf2⟩,jf3⟩,jf4⟩,jf5⟩,jf6⟩,jf7⟩,jf8⟩,jf9⟩,amN⟩,amO⟩,amP⟩,amQ⟩,amR⟩,amS⟩,amT⟩,amU⟩,amV⟩,amW⟩,amX⟩,amY⟩,amZ⟩,am0⟩,am1⟩,am2⟩,am3⟩,am4⟩,am5⟩,am6⟩,am7⟩,am8⟩
end Go.Proofs.YtpdbepbhlalldaaGreatDoor
end
