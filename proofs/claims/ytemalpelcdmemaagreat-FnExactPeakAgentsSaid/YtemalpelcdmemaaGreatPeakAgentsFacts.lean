/- The closed facts of the row of FnExactPeakAgents. -/
import Derived.Test.YtemalpelcdmemaaGreatRows
import Derived.JoinedOf
set_option linter.unusedSimpArgs false
set_option linter.unusedVariables false
namespace Go.Proofs.YtemalpelcdmemaaGreat.peakAgents_
open Go
theorem bN{a b:Bool}(h:a=true)(k:b=true):(a&&b)=true:=by rw[h,k];rfl
theorem cl0:(Rows.fnExactPeakAgentsRow.wf (OpenSpec.ofChange Rows.fnExactPeakAgentsSpec))=true:=by kernel_rfl
theorem cl1:(laidOutB Tryz.pinned.checked.prog)=true:=by kernel_rfl
theorem cl2:(mapsRowed Tryz.pinned.checked.prog)=true:=by kernel_rfl
theorem cl3:(Tryz.f9.params.all (Tryz.pinned.checked.prog.readableRec ·))=true:=by kernel_rfl
theorem cl4:(namedTie Tryz.pinned.checked.prog Rows.fnExactPeakAgentsRow.named Rows.fnExactPeakAgentsSpec.vars)=true:=by kernel_rfl
theorem cl5:((Rows.fnExactPeakAgentsRow.stops==[]))=true:=by kernel_rfl
theorem cl6:((Tryz.pinned.checked.prog.stops==[]))=true:=by kernel_rfl
theorem cl7:((Rows.fnExactPeakAgentsRow.knobs==[]))=true:=by kernel_rfl
theorem cl8:((Tryz.pinned.checked.prog.stopKnobs==[]))=true:=by kernel_rfl
theorem cl9:((Rows.fnExactPeakAgentsRow.inPlace==Tryz.pinned.checked.prog.inPlace 9))=true:=by kernel_rfl
theorem cl10:((Rows.fnExactPeakAgentsRow.unfollowed==Tryz.pinned.checked.prog.unfollowed 9))=true:=by kernel_rfl
theorem cl11:((Rows.fnExactPeakAgentsRow.recurses==Tryz.pinned.checked.prog.recurses 9))=true:=by kernel_rfl
theorem cl12:((Rows.fnExactPeakAgentsRow.named==Tryz.pinned.checked.prog.varsNamed 9))=true:=by kernel_rfl
theorem cl13:((Rows.fnExactPeakAgentsRow.maps==(Tryz.f9.params.toList++Rows.fnExactPeakAgentsSpec.plain.varTypes Tryz.pinned.checked.prog).any (Tryz.pinned.checked.prog.mapsRec ·)))=true:=by kernel_rfl
theorem cl14:((Rows.fnExactPeakAgentsRow.ifaces==(Tryz.f9.params.toList++Rows.fnExactPeakAgentsSpec.plain.varTypes Tryz.pinned.checked.prog).any (Tryz.pinned.checked.prog.ifacesRec ·)))=true:=by kernel_rfl
theorem cl15:((Rows.fnExactPeakAgentsRow.mapsOut==Tryz.pinned.checked.prog.mapsAmong Tryz.f9.resultTypes.toList))=true:=by kernel_rfl
theorem cl16:((Rows.fnExactPeakAgentsRow.loops==(Tryz.f9.params.toList++Rows.fnExactPeakAgentsSpec.plain.varTypes Tryz.pinned.checked.prog).any (Tryz.pinned.checked.prog.loopsFrom ·)))=true:=by kernel_rfl
theorem cl17:((Rows.fnExactPeakAgentsRow.wideKeys==(Tryz.f9.params.toList++Rows.fnExactPeakAgentsSpec.plain.varTypes Tryz.pinned.checked.prog++Tryz.f9.resultTypes.toList).any (Tryz.pinned.checked.prog.wideKeysFrom ·)))=true:=by kernel_rfl
theorem cl18:(Rows.fnExactPeakAgentsSpec.vars.all (Tryz.pinned.checked.prog.varReadable ·))=true:=by kernel_rfl
theorem cl19:(Tryz.f9.resultTypes.all (fun t=>Tryz.pinned.checked.prog.readableRec t&&decide (t<Tryz.pinned.checked.prog.types.size)))=true:=by kernel_rfl
theorem cl20:((Rows.fnExactPeakAgentsRow.ifacesOut==Tryz.f9.resultTypes.toList.any (Tryz.pinned.checked.prog.ifacesRec ·)))=true:=by kernel_rfl
theorem cl21:((Rows.fnExactPeakAgentsRow.loopsOut==Tryz.f9.resultTypes.toList.any (Tryz.pinned.checked.prog.loopsFrom ·)))=true:=by kernel_rfl
theorem cl22:((Rows.fnExactPeakAgentsRow.plainKeys==Tryz.pinned.checked.prog.plainKeys))=true:=by kernel_rfl
theorem cl23:(Rows.fnExactPeakAgentsRow.shortTexts.isNone)=true:=by kernel_rfl
theorem cl24:(Tryz.pinned.checked.prog.stopsHeard)=true:=by kernel_rfl
theorem cl25:(Tryz.pinned.checked.prog.mayEnter)=true:=by kernel_rfl
theorem cl26:((Rows.fnExactPeakAgentsRow.lifted==Tryz.pinned.checked.prog.liftsFinal))=true:=by kernel_rfl
theorem cl27:((Tryz.pinned.checked.prog.make==some Rows.fnExactPeakAgentsRow.make))=true:=by kernel_rfl
theorem cl28:((Rows.fnExactPeakAgentsRow.kinds==(if Rows.fnExactPeakAgentsRow.domain.isEmpty then[]else Tryz.f9.params.toList.map fun t=>match Tryz.pinned.checked.prog.underlying t with|some (.int k)=>some k|_=>none)))=true:=by kernel_rfl
theorem cl29:((Rows.fnExactPeakAgentsRow.pinned==Rows.fnExactPeakAgentsRow.pinnedBy))=true:=by kernel_rfl
theorem cl30:((Rows.fnExactPeakAgentsRow.veiled==(Tryz.f9.params.toList++Rows.fnExactPeakAgentsSpec.plain.varTypes Tryz.pinned.checked.prog++Tryz.f9.resultTypes.toList).any (Tryz.pinned.checked.prog.veiledRec ·)))=true:=by kernel_rfl
theorem cl31:(Rows.fnExactPeakAgentsRow.veiledFits Tryz.pinned.checked.prog Tryz.f9.params.toList (Tryz.f9.params.toList++Rows.fnExactPeakAgentsSpec.plain.varTypes Tryz.pinned.checked.prog++Tryz.f9.resultTypes.toList))=true:=by kernel_rfl
set_option maxRecDepth 100000 in
theorem closed:joinedFacts Tryz.pinned.checked.prog 9 Tryz.f9 Rows.fnExactPeakAgentsSpec Rows.fnExactPeakAgentsRow=true:=
  (bN (bN (bN (bN (bN (bN (bN (bN (bN (bN (bN (bN (bN (bN (bN (bN (bN (bN (bN (bN (bN (bN (bN (bN (bN (bN (bN (bN (bN (bN (bN cl0 cl1) cl2) cl3) cl4) cl5) cl6) cl7) cl8) cl9) cl10) cl11) cl12) cl13) cl14) cl15) cl16) cl17) cl18) cl19) cl20) cl21) cl22) cl23) cl24) cl25) cl26) cl27) cl28) cl29) cl30) cl31)
end Go.Proofs.YtemalpelcdmemaaGreat.peakAgents_
