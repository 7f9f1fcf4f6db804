/- The closed facts of the row of FnExactClassTrace. -/
import Derived.Test.YtemalpelcdmemaaGreatRows
import Derived.JoinedOf
set_option linter.unusedSimpArgs false
set_option linter.unusedVariables false
namespace Go.Proofs.YtemalpelcdmemaaGreat.classTrace_
open Go
theorem bN{a b:Bool}(h:a=true)(k:b=true):(a&&b)=true:=by rw[h,k];rfl
theorem cl0:(Rows.fnExactClassTraceRow.wf (OpenSpec.ofChange Rows.fnExactClassTraceSpec))=true:=by kernel_rfl
theorem cl1:(laidOutB Tryz.pinned.checked.prog)=true:=by kernel_rfl
theorem cl2:(mapsRowed Tryz.pinned.checked.prog)=true:=by kernel_rfl
theorem cl3:(Tryz.f8.params.all (Tryz.pinned.checked.prog.readableRec ·))=true:=by kernel_rfl
theorem cl4:(namedTie Tryz.pinned.checked.prog Rows.fnExactClassTraceRow.named Rows.fnExactClassTraceSpec.vars)=true:=by kernel_rfl
theorem cl5:((Rows.fnExactClassTraceRow.stops==[]))=true:=by kernel_rfl
theorem cl6:((Tryz.pinned.checked.prog.stops==[]))=true:=by kernel_rfl
theorem cl7:((Rows.fnExactClassTraceRow.knobs==[]))=true:=by kernel_rfl
theorem cl8:((Tryz.pinned.checked.prog.stopKnobs==[]))=true:=by kernel_rfl
theorem cl9:((Rows.fnExactClassTraceRow.inPlace==Tryz.pinned.checked.prog.inPlace 8))=true:=by kernel_rfl
theorem cl10:((Rows.fnExactClassTraceRow.unfollowed==Tryz.pinned.checked.prog.unfollowed 8))=true:=by kernel_rfl
theorem cl11:((Rows.fnExactClassTraceRow.recurses==Tryz.pinned.checked.prog.recurses 8))=true:=by kernel_rfl
theorem cl12:((Rows.fnExactClassTraceRow.named==Tryz.pinned.checked.prog.varsNamed 8))=true:=by kernel_rfl
theorem cl13:((Rows.fnExactClassTraceRow.maps==(Tryz.f8.params.toList++Rows.fnExactClassTraceSpec.plain.varTypes Tryz.pinned.checked.prog).any (Tryz.pinned.checked.prog.mapsRec ·)))=true:=by kernel_rfl
theorem cl14:((Rows.fnExactClassTraceRow.ifaces==(Tryz.f8.params.toList++Rows.fnExactClassTraceSpec.plain.varTypes Tryz.pinned.checked.prog).any (Tryz.pinned.checked.prog.ifacesRec ·)))=true:=by kernel_rfl
theorem cl15:((Rows.fnExactClassTraceRow.mapsOut==Tryz.pinned.checked.prog.mapsAmong Tryz.f8.resultTypes.toList))=true:=by kernel_rfl
theorem cl16:((Rows.fnExactClassTraceRow.loops==(Tryz.f8.params.toList++Rows.fnExactClassTraceSpec.plain.varTypes Tryz.pinned.checked.prog).any (Tryz.pinned.checked.prog.loopsFrom ·)))=true:=by kernel_rfl
theorem cl17:((Rows.fnExactClassTraceRow.wideKeys==(Tryz.f8.params.toList++Rows.fnExactClassTraceSpec.plain.varTypes Tryz.pinned.checked.prog++Tryz.f8.resultTypes.toList).any (Tryz.pinned.checked.prog.wideKeysFrom ·)))=true:=by kernel_rfl
theorem cl18:(Rows.fnExactClassTraceSpec.vars.all (Tryz.pinned.checked.prog.varReadable ·))=true:=by kernel_rfl
theorem cl19:(Tryz.f8.resultTypes.all (fun t=>Tryz.pinned.checked.prog.readableRec t&&decide (t<Tryz.pinned.checked.prog.types.size)))=true:=by kernel_rfl
theorem cl20:((Rows.fnExactClassTraceRow.ifacesOut==Tryz.f8.resultTypes.toList.any (Tryz.pinned.checked.prog.ifacesRec ·)))=true:=by kernel_rfl
theorem cl21:((Rows.fnExactClassTraceRow.loopsOut==Tryz.f8.resultTypes.toList.any (Tryz.pinned.checked.prog.loopsFrom ·)))=true:=by kernel_rfl
theorem cl22:((Rows.fnExactClassTraceRow.plainKeys==Tryz.pinned.checked.prog.plainKeys))=true:=by kernel_rfl
theorem cl23:(Rows.fnExactClassTraceRow.shortTexts.isNone)=true:=by kernel_rfl
theorem cl24:(Tryz.pinned.checked.prog.stopsHeard)=true:=by kernel_rfl
theorem cl25:(Tryz.pinned.checked.prog.mayEnter)=true:=by kernel_rfl
theorem cl26:((Rows.fnExactClassTraceRow.lifted==Tryz.pinned.checked.prog.liftsFinal))=true:=by kernel_rfl
theorem cl27:((Tryz.pinned.checked.prog.make==some Rows.fnExactClassTraceRow.make))=true:=by kernel_rfl
theorem cl28:((Rows.fnExactClassTraceRow.kinds==(if Rows.fnExactClassTraceRow.domain.isEmpty then[]else Tryz.f8.params.toList.map fun t=>match Tryz.pinned.checked.prog.underlying t with|some (.int k)=>some k|_=>none)))=true:=by kernel_rfl
theorem cl29:((Rows.fnExactClassTraceRow.pinned==Rows.fnExactClassTraceRow.pinnedBy))=true:=by kernel_rfl
theorem cl30:((Rows.fnExactClassTraceRow.veiled==(Tryz.f8.params.toList++Rows.fnExactClassTraceSpec.plain.varTypes Tryz.pinned.checked.prog++Tryz.f8.resultTypes.toList).any (Tryz.pinned.checked.prog.veiledRec ·)))=true:=by kernel_rfl
theorem cl31:(Rows.fnExactClassTraceRow.veiledFits Tryz.pinned.checked.prog Tryz.f8.params.toList (Tryz.f8.params.toList++Rows.fnExactClassTraceSpec.plain.varTypes Tryz.pinned.checked.prog++Tryz.f8.resultTypes.toList))=true:=by kernel_rfl
set_option maxRecDepth 100000 in
theorem closed:joinedFacts Tryz.pinned.checked.prog 8 Tryz.f8 Rows.fnExactClassTraceSpec Rows.fnExactClassTraceRow=true:=
  (bN (bN (bN (bN (bN (bN (bN (bN (bN (bN (bN (bN (bN (bN (bN (bN (bN (bN (bN (bN (bN (bN (bN (bN (bN (bN (bN (bN (bN (bN (bN cl0 cl1) cl2) cl3) cl4) cl5) cl6) cl7) cl8) cl9) cl10) cl11) cl12) cl13) cl14) cl15) cl16) cl17) cl18) cl19) cl20) cl21) cl22) cl23) cl24) cl25) cl26) cl27) cl28) cl29) cl30) cl31)
end Go.Proofs.YtemalpelcdmemaaGreat.classTrace_
