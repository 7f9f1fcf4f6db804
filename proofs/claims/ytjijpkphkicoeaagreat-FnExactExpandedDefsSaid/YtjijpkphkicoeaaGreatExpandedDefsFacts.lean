/- The closed facts of the row of FnExactExpandedDefs. -/
import Derived.Test.YtjijpkphkicoeaaGreatRows
import Derived.JoinedOf
set_option linter.unusedSimpArgs false
set_option linter.unusedVariables false
namespace Go.Proofs.YtjijpkphkicoeaaGreat.expandedDefs_
open Go
theorem lg{a b:Bool}(h:a=true)(k:b=true):(a&&b)=true:=by rw[h,k];rfl
theorem cl0:(Rows.fnExactExpandedDefsRow.wf (OpenSpec.ofChange Rows.fnExactExpandedDefsSpec))=true:=by kernel_rfl
theorem cl1:(laidOutB Tryz.pinned.checked.prog)=true:=by kernel_rfl
theorem cl2:(mapsRowed Tryz.pinned.checked.prog)=true:=by kernel_rfl
theorem cl3:(Tryz.f5.params.all (Tryz.pinned.checked.prog.readableRec ·))=true:=by kernel_rfl
theorem cl4:(namedTie Tryz.pinned.checked.prog Rows.fnExactExpandedDefsRow.named Rows.fnExactExpandedDefsSpec.vars)=true:=by kernel_rfl
theorem cl5:((Rows.fnExactExpandedDefsRow.stops==[]))=true:=by kernel_rfl
theorem cl6:((Tryz.pinned.checked.prog.stops==[]))=true:=by kernel_rfl
theorem cl7:((Rows.fnExactExpandedDefsRow.knobs==[]))=true:=by kernel_rfl
theorem cl8:((Tryz.pinned.checked.prog.stopKnobs==[]))=true:=by kernel_rfl
theorem cl9:((Rows.fnExactExpandedDefsRow.inPlace==Tryz.pinned.checked.prog.inPlace 5))=true:=by kernel_rfl
theorem Z0:((Rows.fnExactExpandedDefsRow.unfollowed==Tryz.pinned.checked.prog.unfollowed 5))=true:=by kernel_rfl
theorem Z4:((Rows.fnExactExpandedDefsRow.recurses==Tryz.pinned.checked.prog.recurses 5))=true:=by kernel_rfl
theorem Z5:((Rows.fnExactExpandedDefsRow.named==Tryz.pinned.checked.prog.varsNamed 5))=true:=by kernel_rfl
theorem Z6:((Rows.fnExactExpandedDefsRow.maps==(Tryz.f5.params.toList++Rows.fnExactExpandedDefsSpec.plain.varTypes Tryz.pinned.checked.prog).any (Tryz.pinned.checked.prog.mapsRec ·)))=true:=by kernel_rfl
theorem Z7:((Rows.fnExactExpandedDefsRow.ifaces==(Tryz.f5.params.toList++Rows.fnExactExpandedDefsSpec.plain.varTypes Tryz.pinned.checked.prog).any (Tryz.pinned.checked.prog.ifacesRec ·)))=true:=by kernel_rfl
theorem Z8:((Rows.fnExactExpandedDefsRow.mapsOut==Tryz.pinned.checked.prog.mapsAmong Tryz.f5.resultTypes.toList))=true:=by kernel_rfl
theorem Z9:((Rows.fnExactExpandedDefsRow.loops==(Tryz.f5.params.toList++Rows.fnExactExpandedDefsSpec.plain.varTypes Tryz.pinned.checked.prog).any (Tryz.pinned.checked.prog.loopsFrom ·)))=true:=by kernel_rfl
theorem cl17:((Rows.fnExactExpandedDefsRow.wideKeys==(Tryz.f5.params.toList++Rows.fnExactExpandedDefsSpec.plain.varTypes Tryz.pinned.checked.prog++Tryz.f5.resultTypes.toList).any (Tryz.pinned.checked.prog.wideKeysFrom ·)))=true:=by kernel_rfl
theorem cl18:(Rows.fnExactExpandedDefsSpec.vars.all (Tryz.pinned.checked.prog.varReadable ·))=true:=by kernel_rfl
theorem cl19:(Tryz.f5.resultTypes.all (fun t=>Tryz.pinned.checked.prog.readableRec t&&decide (t<Tryz.pinned.checked.prog.types.size)))=true:=by kernel_rfl
theorem cl20:((Rows.fnExactExpandedDefsRow.ifacesOut==Tryz.f5.resultTypes.toList.any (Tryz.pinned.checked.prog.ifacesRec ·)))=true:=by kernel_rfl
theorem cl21:((Rows.fnExactExpandedDefsRow.loopsOut==Tryz.f5.resultTypes.toList.any (Tryz.pinned.checked.prog.loopsFrom ·)))=true:=by kernel_rfl
theorem cl22:((Rows.fnExactExpandedDefsRow.plainKeys==Tryz.pinned.checked.prog.plainKeys))=true:=by kernel_rfl
theorem cl23:(Rows.fnExactExpandedDefsRow.shortTexts.isNone)=true:=by kernel_rfl
theorem cl24:(Tryz.pinned.checked.prog.stopsHeard)=true:=by kernel_rfl
theorem cl25:(Tryz.pinned.checked.prog.mayEnter)=true:=by kernel_rfl
theorem cl26:((Rows.fnExactExpandedDefsRow.lifted==Tryz.pinned.checked.prog.liftsFinal))=true:=by kernel_rfl
theorem cl27:((Tryz.pinned.checked.prog.make==some Rows.fnExactExpandedDefsRow.make))=true:=by kernel_rfl
theorem cl28:((Rows.fnExactExpandedDefsRow.kinds==(if Rows.fnExactExpandedDefsRow.domain.isEmpty then[]else Tryz.f5.params.toList.map fun t=>match Tryz.pinned.checked.prog.underlying t with|some (.int k)=>some k|_=>none)))=true:=by kernel_rfl
theorem cl29:((Rows.fnExactExpandedDefsRow.pinned==Rows.fnExactExpandedDefsRow.pinnedBy))=true:=by kernel_rfl
theorem cl30:((Rows.fnExactExpandedDefsRow.veiled==(Tryz.f5.params.toList++Rows.fnExactExpandedDefsSpec.plain.varTypes Tryz.pinned.checked.prog++Tryz.f5.resultTypes.toList).any (Tryz.pinned.checked.prog.veiledRec ·)))=true:=by kernel_rfl
theorem cl31:(Rows.fnExactExpandedDefsRow.veiledFits Tryz.pinned.checked.prog Tryz.f5.params.toList (Tryz.f5.params.toList++Rows.fnExactExpandedDefsSpec.plain.varTypes Tryz.pinned.checked.prog++Tryz.f5.resultTypes.toList))=true:=by kernel_rfl
set_option maxRecDepth 100000 in
theorem closed:joinedFacts Tryz.pinned.checked.prog 5 Tryz.f5 Rows.fnExactExpandedDefsSpec Rows.fnExactExpandedDefsRow=true:=
  (lg (lg (lg (lg (lg (lg (lg (lg (lg (lg (lg (lg (lg (lg (lg (lg (lg (lg (lg (lg (lg (lg (lg (lg (lg (lg (lg (lg (lg (lg (lg cl0 cl1) cl2) cl3) cl4) cl5) cl6) cl7) cl8) cl9) Z0) Z4) Z5) Z6) Z7) Z8) Z9) cl17) cl18) cl19) cl20) cl21) cl22) cl23) cl24) cl25) cl26) cl27) cl28) cl29) cl30) cl31)
end Go.Proofs.YtjijpkphkicoeaaGreat.expandedDefs_
