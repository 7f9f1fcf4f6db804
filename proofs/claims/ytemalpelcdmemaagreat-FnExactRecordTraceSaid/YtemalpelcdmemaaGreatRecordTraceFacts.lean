/- The closed facts of the row of FnExactRecordTrace. -/
import Derived.Test.YtemalpelcdmemaaGreatRows
import Derived.JoinedOf
set_option linter.unusedSimpArgs false
set_option linter.unusedVariables false
namespace Go.Proofs.YtemalpelcdmemaaGreat.recordTrace_
open Go
theorem oC{a b:Bool}(h:a=true)(k:b=true):(a&&b)=true:=by rw[h,k];rfl
theorem cl0:(Rows.fnExactRecordTraceRow.wf (OpenSpec.ofChange Rows.fnExactRecordTraceSpec))=true:=by kernel_rfl
theorem cl1:(laidOutB Tryz.pinned.checked.prog)=true:=by kernel_rfl
theorem cl2:(mapsRowed Tryz.pinned.checked.prog)=true:=by kernel_rfl
theorem cl3:(Tryz.f5.params.all (Tryz.pinned.checked.prog.readableRec ·))=true:=by kernel_rfl
theorem cl4:(namedTie Tryz.pinned.checked.prog Rows.fnExactRecordTraceRow.named Rows.fnExactRecordTraceSpec.vars)=true:=by kernel_rfl
theorem cl5:((Rows.fnExactRecordTraceRow.stops==[]))=true:=by kernel_rfl
theorem cl6:((Tryz.pinned.checked.prog.stops==[]))=true:=by kernel_rfl
theorem cl7:((Rows.fnExactRecordTraceRow.knobs==[]))=true:=by kernel_rfl
theorem cl8:((Tryz.pinned.checked.prog.stopKnobs==[]))=true:=by kernel_rfl
theorem cl9:((Rows.fnExactRecordTraceRow.inPlace==Tryz.pinned.checked.prog.inPlace 5))=true:=by kernel_rfl
theorem cl10:((Rows.fnExactRecordTraceRow.unfollowed==Tryz.pinned.checked.prog.unfollowed 5))=true:=by kernel_rfl
theorem cl11:((Rows.fnExactRecordTraceRow.recurses==Tryz.pinned.checked.prog.recurses 5))=true:=by kernel_rfl
theorem cl12:((Rows.fnExactRecordTraceRow.named==Tryz.pinned.checked.prog.varsNamed 5))=true:=by kernel_rfl
theorem cl13:((Rows.fnExactRecordTraceRow.maps==(Tryz.f5.params.toList++Rows.fnExactRecordTraceSpec.plain.varTypes Tryz.pinned.checked.prog).any (Tryz.pinned.checked.prog.mapsRec ·)))=true:=by kernel_rfl
theorem cl14:((Rows.fnExactRecordTraceRow.ifaces==(Tryz.f5.params.toList++Rows.fnExactRecordTraceSpec.plain.varTypes Tryz.pinned.checked.prog).any (Tryz.pinned.checked.prog.ifacesRec ·)))=true:=by kernel_rfl
theorem cl15:((Rows.fnExactRecordTraceRow.mapsOut==Tryz.pinned.checked.prog.mapsAmong Tryz.f5.resultTypes.toList))=true:=by kernel_rfl
theorem cl16:((Rows.fnExactRecordTraceRow.loops==(Tryz.f5.params.toList++Rows.fnExactRecordTraceSpec.plain.varTypes Tryz.pinned.checked.prog).any (Tryz.pinned.checked.prog.loopsFrom ·)))=true:=by kernel_rfl
theorem cl17:((Rows.fnExactRecordTraceRow.wideKeys==(Tryz.f5.params.toList++Rows.fnExactRecordTraceSpec.plain.varTypes Tryz.pinned.checked.prog++Tryz.f5.resultTypes.toList).any (Tryz.pinned.checked.prog.wideKeysFrom ·)))=true:=by kernel_rfl
theorem cl18:(Rows.fnExactRecordTraceSpec.vars.all (Tryz.pinned.checked.prog.varReadable ·))=true:=by kernel_rfl
theorem cl19:(Tryz.f5.resultTypes.all (fun t=>Tryz.pinned.checked.prog.readableRec t&&decide (t<Tryz.pinned.checked.prog.types.size)))=true:=by kernel_rfl
theorem cl20:((Rows.fnExactRecordTraceRow.ifacesOut==Tryz.f5.resultTypes.toList.any (Tryz.pinned.checked.prog.ifacesRec ·)))=true:=by kernel_rfl
theorem cl21:((Rows.fnExactRecordTraceRow.loopsOut==Tryz.f5.resultTypes.toList.any (Tryz.pinned.checked.prog.loopsFrom ·)))=true:=by kernel_rfl
theorem cl22:((Rows.fnExactRecordTraceRow.plainKeys==Tryz.pinned.checked.prog.plainKeys))=true:=by kernel_rfl
theorem cl23:(Rows.fnExactRecordTraceRow.shortTexts.isNone)=true:=by kernel_rfl
theorem cl24:(Tryz.pinned.checked.prog.stopsHeard)=true:=by kernel_rfl
theorem cl25:(Tryz.pinned.checked.prog.mayEnter)=true:=by kernel_rfl
theorem cl26:((Rows.fnExactRecordTraceRow.lifted==Tryz.pinned.checked.prog.liftsFinal))=true:=by kernel_rfl
theorem cl27:((Tryz.pinned.checked.prog.make==some Rows.fnExactRecordTraceRow.make))=true:=by kernel_rfl
theorem cl28:((Rows.fnExactRecordTraceRow.kinds==(if Rows.fnExactRecordTraceRow.domain.isEmpty then[]else Tryz.f5.params.toList.map fun t=>match Tryz.pinned.checked.prog.underlying t with|some (.int k)=>some k|_=>none)))=true:=by kernel_rfl
theorem cl29:((Rows.fnExactRecordTraceRow.pinned==Rows.fnExactRecordTraceRow.pinnedBy))=true:=by kernel_rfl
theorem cl30:((Rows.fnExactRecordTraceRow.veiled==(Tryz.f5.params.toList++Rows.fnExactRecordTraceSpec.plain.varTypes Tryz.pinned.checked.prog++Tryz.f5.resultTypes.toList).any (Tryz.pinned.checked.prog.veiledRec ·)))=true:=by kernel_rfl
theorem cl31:(Rows.fnExactRecordTraceRow.veiledFits Tryz.pinned.checked.prog Tryz.f5.params.toList (Tryz.f5.params.toList++Rows.fnExactRecordTraceSpec.plain.varTypes Tryz.pinned.checked.prog++Tryz.f5.resultTypes.toList))=true:=by kernel_rfl
set_option maxRecDepth 100000 in
theorem closed:joinedFacts Tryz.pinned.checked.prog 5 Tryz.f5 Rows.fnExactRecordTraceSpec Rows.fnExactRecordTraceRow=true:=
  (oC (oC (oC (oC (oC (oC (oC (oC (oC (oC (oC (oC (oC (oC (oC (oC (oC (oC (oC (oC (oC (oC (oC (oC (oC (oC (oC (oC (oC (oC (oC cl0 cl1) cl2) cl3) cl4) cl5) cl6) cl7) cl8) cl9) cl10) cl11) cl12) cl13) cl14) cl15) cl16) cl17) cl18) cl19) cl20) cl21) cl22) cl23) cl24) cl25) cl26) cl27) cl28) cl29) cl30) cl31)
end Go.Proofs.YtemalpelcdmemaaGreat.recordTrace_
