/- A part of the proof. -/
import Derived.Test.YtapmaobjhilnfaaGreatDoorR
set_option linter.all false
section
set_option maxRecDepth 1000000
namespace Go.Proofs.YtapmaobjhilnfaaGreatDoor
open Go Go.Ev Go.ChangeShapes Go.WideShapes Go.ChangeAt Go.RowKit Go.Proofs.Tryz
noncomputable abbrev JC:OpenClaim:=Rows.termEqualsUptoRow
noncomputable abbrev JS:ChangeSpec:=(Rows.OpenSpec.upto Rows.termEqualsSpec).bare
theorem jf0:(JC.wf (OpenSpec.ofChange JS))=true:=by kernel_rfl
theorem jf1:(laidOutB prog)=true:=by kernel_rfl
theorem jf2:(mapsRowed prog)=true:=by kernel_rfl
theorem jf3:(f3.params.all (prog.readableRec ·))=true:=by kernel_rfl
theorem jf4:(namedTie prog JC.named JS.vars)=true:=by kernel_rfl
theorem jf5:((JC.stops==[]))=true:=by kernel_rfl
theorem jf6:((prog.stops==[]))=true:=by kernel_rfl
theorem jf7:((JC.knobs==[]))=true:=by kernel_rfl
theorem jf8:((prog.stopKnobs==[]))=true:=by kernel_rfl
theorem jf9:((JC.inPlace==prog.inPlace 3))=true:=by kernel_rfl
theorem aoK:((JC.unfollowed==prog.unfollowed 3))=true:=by kernel_rfl
theorem aoL:((JC.recurses==prog.recurses 3))=true:=by kernel_rfl
theorem aoM:((JC.named==prog.varsNamed 3))=true:=by kernel_rfl
theorem aoN:((JC.maps==(f3.params.toList++JS.plain.varTypes prog).any (prog.mapsRec ·)))=true:=by kernel_rfl
theorem aoO:((JC.ifaces==(f3.params.toList++JS.plain.varTypes prog).any (prog.ifacesRec ·)))=true:=by kernel_rfl
theorem aoP:((JC.mapsOut==prog.mapsAmong f3.resultTypes.toList))=true:=by kernel_rfl
theorem aoQ:((JC.loops==(f3.params.toList++JS.plain.varTypes prog).any (prog.loopsFrom ·)))=true:=by kernel_rfl
theorem aoR:((JC.wideKeys==(f3.params.toList++JS.plain.varTypes prog++f3.resultTypes.toList).any (prog.wideKeysFrom ·)))=true:=by kernel_rfl
theorem aoS:(JS.vars.all (prog.varReadable ·))=true:=by kernel_rfl
theorem aoT:(f3.resultTypes.all (λt=>prog.readableRec t&&decide (t<prog.types.size)))=true:=by kernel_rfl
theorem aoU:((JC.ifacesOut==f3.resultTypes.toList.any (prog.ifacesRec ·)))=true:=by kernel_rfl
theorem aoV:((JC.loopsOut==f3.resultTypes.toList.any (prog.loopsFrom ·)))=true:=by kernel_rfl
theorem aoW:((JC.plainKeys==prog.plainKeys))=true:=by kernel_rfl
theorem aoX:(JC.shortTexts.isNone)=true:=by kernel_rfl
theorem aoY:(prog.stopsHeard)=true:=by kernel_rfl
theorem aoZ:(prog.mayEnter)=true:=by kernel_rfl
theorem ao0:((JC.lifted==prog.liftsFinal))=true:=by kernel_rfl
theorem ao1:((prog.make==some JC.make))=true:=by kernel_rfl
theorem ao2:((JC.kinds==(if JC.domain.isEmpty then [] else f3.params.toList.map λt=>match prog.underlying t with | some (.int k)=>some k | _=>none)))=true:=by kernel_rfl
theorem ao3:((JC.pinned==JC.pinnedBy))=true:=by kernel_rfl
theorem ao4:((JC.veiled==(f3.params.toList++JS.plain.varTypes prog++f3.resultTypes.toList).any (prog.veiledRec ·)))=true:=by kernel_rfl
theorem ao5:(JC.veiledFits prog f3.params.toList (f3.params.toList++JS.plain.varTypes prog++f3.resultTypes.toList))=true:=by kernel_rfl
theorem jf:joinedFacts prog 3 f3 JS JC=true:=by unfold joinedFacts;simp only[bh];exact⟨⟨⟨⟨⟨⟨⟨⟨⟨⟨⟨⟨⟨⟨⟨⟨⟨⟨⟨⟨⟨⟨⟨⟨⟨⟨⟨⟨⟨⟨⟨jf0,jf1⟩,jf2⟩,jf3⟩,jf4⟩,jf5⟩,jf6⟩,jf7⟩,jf8⟩,jf9⟩,aoK⟩,aoL⟩,aoM⟩,aoN⟩,aoO⟩,aoP⟩,aoQ⟩,aoR⟩,aoS⟩,aoT⟩,aoU⟩,aoV⟩,aoW⟩,aoX⟩,aoY⟩,aoZ⟩,ao0⟩,ao1⟩,ao2⟩,ao3⟩,ao4⟩,ao5⟩
end Go.Proofs.YtapmaobjhilnfaaGreatDoor
end
