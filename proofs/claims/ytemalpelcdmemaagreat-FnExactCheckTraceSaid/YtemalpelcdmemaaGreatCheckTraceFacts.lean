/- The closed facts of the row of FnExactCheckTrace. -/
import Derived.Test.YtemalpelcdmemaaGreatRows
import Derived.JoinedOf
set_option linter.unusedSimpArgs false
set_option linter.unusedVariables false
namespace Go.Proofs.YtemalpelcdmemaaGreat.checkTrace_
open Go
theorem iI{a b:Bool}(h:a=true)(k:b=true):(a&&b)=true:=by rw[h,k];rfl
theorem cl0:(Rows.fnExactCheckTraceRow.wf (OpenSpec.ofChange Rows.fnExactCheckTraceSpec))=true:=by kernel_rfl
theorem cl1:(laidOutB Tryz.pinned.checked.prog)=true:=by kernel_rfl
theorem cl2:(mapsRowed Tryz.pinned.checked.prog)=true:=by kernel_rfl
theorem cl3:(Tryz.f4.params.all (Tryz.pinned.checked.prog.readableRec ·))=true:=by kernel_rfl
theorem cl4:(namedTie Tryz.pinned.checked.prog Rows.fnExactCheckTraceRow.named Rows.fnExactCheckTraceSpec.vars)=true:=by kernel_rfl
theorem cl5:((Rows.fnExactCheckTraceRow.stops==[]))=true:=by kernel_rfl
theorem cl6:((Tryz.pinned.checked.prog.stops==[]))=true:=by kernel_rfl
theorem cl7:((Rows.fnExactCheckTraceRow.knobs==[]))=true:=by kernel_rfl
theorem cl8:((Tryz.pinned.checked.prog.stopKnobs==[]))=true:=by kernel_rfl
theorem cl9:((Rows.fnExactCheckTraceRow.inPlace==Tryz.pinned.checked.prog.inPlace 4))=true:=by kernel_rfl
theorem Tc:((Rows.fnExactCheckTraceRow.unfollowed==Tryz.pinned.checked.prog.unfollowed 4))=true:=by kernel_rfl
theorem Td:((Rows.fnExactCheckTraceRow.recurses==Tryz.pinned.checked.prog.recurses 4))=true:=by kernel_rfl
theorem Te:((Rows.fnExactCheckTraceRow.named==Tryz.pinned.checked.prog.varsNamed 4))=true:=by kernel_rfl
theorem Tf:((Rows.fnExactCheckTraceRow.maps==(Tryz.f4.params.toList++Rows.fnExactCheckTraceSpec.plain.varTypes Tryz.pinned.checked.prog).any (Tryz.pinned.checked.prog.mapsRec ·)))=true:=by kernel_rfl
theorem Tg:((Rows.fnExactCheckTraceRow.ifaces==(Tryz.f4.params.toList++Rows.fnExactCheckTraceSpec.plain.varTypes Tryz.pinned.checked.prog).any (Tryz.pinned.checked.prog.ifacesRec ·)))=true:=by kernel_rfl
theorem Ti:((Rows.fnExactCheckTraceRow.mapsOut==Tryz.pinned.checked.prog.mapsAmong Tryz.f4.resultTypes.toList))=true:=by kernel_rfl
theorem Tj:((Rows.fnExactCheckTraceRow.loops==(Tryz.f4.params.toList++Rows.fnExactCheckTraceSpec.plain.varTypes Tryz.pinned.checked.prog).any (Tryz.pinned.checked.prog.loopsFrom ·)))=true:=by kernel_rfl
theorem Tk:((Rows.fnExactCheckTraceRow.wideKeys==(Tryz.f4.params.toList++Rows.fnExactCheckTraceSpec.plain.varTypes Tryz.pinned.checked.prog++Tryz.f4.resultTypes.toList).any (Tryz.pinned.checked.prog.wideKeysFrom ·)))=true:=by kernel_rfl
theorem Tm:(Rows.fnExactCheckTraceSpec.vars.all (Tryz.pinned.checked.prog.varReadable ·))=true:=by kernel_rfl
theorem Tn:(Tryz.f4.resultTypes.all (fun t=>Tryz.pinned.checked.prog.readableRec t&&decide (t<Tryz.pinned.checked.prog.types.size)))=true:=by kernel_rfl
theorem Tp:((Rows.fnExactCheckTraceRow.ifacesOut==Tryz.f4.resultTypes.toList.any (Tryz.pinned.checked.prog.ifacesRec ·)))=true:=by kernel_rfl
theorem Tq:((Rows.fnExactCheckTraceRow.loopsOut==Tryz.f4.resultTypes.toList.any (Tryz.pinned.checked.prog.loopsFrom ·)))=true:=by kernel_rfl
theorem Tt:((Rows.fnExactCheckTraceRow.plainKeys==Tryz.pinned.checked.prog.plainKeys))=true:=by kernel_rfl
theorem Tv:(Rows.fnExactCheckTraceRow.shortTexts.isNone)=true:=by kernel_rfl
theorem Tw:(Tryz.pinned.checked.prog.stopsHeard)=true:=by kernel_rfl
theorem Tx:(Tryz.pinned.checked.prog.mayEnter)=true:=by kernel_rfl
theorem Tz:((Rows.fnExactCheckTraceRow.lifted==Tryz.pinned.checked.prog.liftsFinal))=true:=by kernel_rfl
theorem TA:((Tryz.pinned.checked.prog.make==some Rows.fnExactCheckTraceRow.make))=true:=by kernel_rfl
theorem TB:((Rows.fnExactCheckTraceRow.kinds==(if Rows.fnExactCheckTraceRow.domain.isEmpty then[]else Tryz.f4.params.toList.map fun t=>match Tryz.pinned.checked.prog.underlying t with|some (.int k)=>some k|_=>none)))=true:=by kernel_rfl
theorem TD:((Rows.fnExactCheckTraceRow.pinned==Rows.fnExactCheckTraceRow.pinnedBy))=true:=by kernel_rfl
theorem TF:((Rows.fnExactCheckTraceRow.veiled==(Tryz.f4.params.toList++Rows.fnExactCheckTraceSpec.plain.varTypes Tryz.pinned.checked.prog++Tryz.f4.resultTypes.toList).any (Tryz.pinned.checked.prog.veiledRec ·)))=true:=by kernel_rfl
theorem TG:(Rows.fnExactCheckTraceRow.veiledFits Tryz.pinned.checked.prog Tryz.f4.params.toList (Tryz.f4.params.toList++Rows.fnExactCheckTraceSpec.plain.varTypes Tryz.pinned.checked.prog++Tryz.f4.resultTypes.toList))=true:=by kernel_rfl
set_option maxRecDepth 100000 in
theorem closed:joinedFacts Tryz.pinned.checked.prog 4 Tryz.f4 Rows.fnExactCheckTraceSpec Rows.fnExactCheckTraceRow=true:=
  (iI (iI (iI (iI (iI (iI (iI (iI (iI (iI (iI (iI (iI (iI (iI (iI (iI (iI (iI (iI (iI (iI (iI (iI (iI (iI (iI (iI (iI (iI (iI cl0 cl1) cl2) cl3) cl4) cl5) cl6) cl7) cl8) cl9) Tc) Td) Te) Tf) Tg) Ti) Tj) Tk) Tm) Tn) Tp) Tq) Tt) Tv) Tw) Tx) Tz) TA) TB) TD) TF) TG)
end Go.Proofs.YtemalpelcdmemaaGreat.checkTrace_
