/- A part of the proof. -/
import Derived.Test.YtpdbepbhlalldaaGreatDoorR
set_option linter.all false
section
set_option maxRecDepth 1000000
namespace Go.Proofs.YtpdbepbhlalldaaGreatDoor
open Go Go.Ev Go.ChangeShapes Go.WideShapes Go.ChangeAt Go.RowKit Go.Proofs.Tryz
noncomputable abbrev JC:OpenClaim:=Rows.termQuantifiesUptoRow
noncomputable abbrev JS:ChangeSpec:=(Rows.OpenSpec.upto Rows.termQuantifiesSpec).bare
theorem jf0:(JC.wf (OpenSpec.ofChange JS))=true:=by kernel_rfl
theorem jf1:(laidOutB prog)=true:=by kernel_rfl
theorem jf2:(mapsRowed prog)=true:=by kernel_rfl
theorem jf3:(f4.params.all (prog.readableRec ·))=true:=by kernel_rfl
theorem jf4:(namedTie prog JC.named JS.vars)=true:=by kernel_rfl
theorem jf5:((JC.stops==[]))=true:=by kernel_rfl
theorem jf6:((prog.stops==[]))=true:=by kernel_rfl
theorem jf7:((JC.knobs==[]))=true:=by kernel_rfl
theorem jf8:((prog.stopKnobs==[]))=true:=by kernel_rfl
theorem jf9:((JC.inPlace==prog.inPlace 4))=true:=by kernel_rfl
theorem amk:((JC.unfollowed==prog.unfollowed 4))=true:=by kernel_rfl
theorem aml:((JC.recurses==prog.recurses 4))=true:=by kernel_rfl
theorem amm:((JC.named==prog.varsNamed 4))=true:=by kernel_rfl
theorem amn:((JC.maps==(f4.params.toList++JS.plain.varTypes prog).any (prog.mapsRec ·)))=true:=by kernel_rfl
theorem amo:((JC.ifaces==(f4.params.toList++JS.plain.varTypes prog).any (prog.ifacesRec ·)))=true:=by kernel_rfl
theorem amp:((JC.mapsOut==prog.mapsAmong f4.resultTypes.toList))=true:=by kernel_rfl
theorem amq:((JC.loops==(f4.params.toList++JS.plain.varTypes prog).any (prog.loopsFrom ·)))=true:=by kernel_rfl
theorem amr:((JC.wideKeys==(f4.params.toList++JS.plain.varTypes prog++f4.resultTypes.toList).any (prog.wideKeysFrom ·)))=true:=by kernel_rfl
theorem ams:(JS.vars.all (prog.varReadable ·))=true:=by kernel_rfl
theorem amt:(f4.resultTypes.all (λt=>prog.readableRec t&&decide (t<prog.types.size)))=true:=by kernel_rfl
theorem amu:((JC.ifacesOut==f4.resultTypes.toList.any (prog.ifacesRec ·)))=true:=by kernel_rfl
theorem amv:((JC.loopsOut==f4.resultTypes.toList.any (prog.loopsFrom ·)))=true:=by kernel_rfl
theorem amw:((JC.plainKeys==prog.plainKeys))=true:=by kernel_rfl
theorem amx:(JC.shortTexts.isNone)=true:=by kernel_rfl
theorem amy:(prog.stopsHeard)=true:=by kernel_rfl
theorem amz:(prog.mayEnter)=true:=by kernel_rfl
theorem amA:((JC.lifted==prog.liftsFinal))=true:=by kernel_rfl
theorem amB:((prog.make==some JC.make))=true:=by kernel_rfl
theorem amC:((JC.kinds==(if JC.domain.isEmpty then [] else f4.params.toList.map λt=>match prog.underlying t with | some (.int k)=>some k | _=>none)))=true:=by kernel_rfl
theorem amD:((JC.pinned==JC.pinnedBy))=true:=by kernel_rfl
theorem amE:((JC.veiled==(f4.params.toList++JS.plain.varTypes prog++f4.resultTypes.toList).any (prog.veiledRec ·)))=true:=by kernel_rfl
theorem amF:(JC.veiledFits prog f4.params.toList (f4.params.toList++JS.plain.varTypes prog++f4.resultTypes.toList))=true:=by kernel_rfl
theorem jf:joinedFacts prog 4 f4 JS JC=true:=by unfold joinedFacts;simp only[bG];exact⟨⟨⟨⟨⟨⟨⟨⟨⟨⟨⟨⟨⟨⟨⟨⟨⟨⟨⟨⟨⟨⟨⟨⟨⟨⟨⟨⟨⟨⟨⟨jf0,jf1⟩,jf2⟩,jf3⟩,jf4⟩,jf5⟩,jf6⟩,jf7⟩,jf8⟩,jf9⟩,amk⟩,aml⟩,amm⟩,amn⟩,amo⟩,amp⟩,amq⟩,amr⟩,ams⟩,amt⟩,amu⟩,amv⟩,amw⟩,amx⟩,amy⟩,amz⟩,amA⟩,amB⟩,amC⟩,amD⟩,amE⟩,amF⟩
end Go.Proofs.YtpdbepbhlalldaaGreatDoor
end
