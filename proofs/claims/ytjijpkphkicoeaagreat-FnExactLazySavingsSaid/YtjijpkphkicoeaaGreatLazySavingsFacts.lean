/- The closed facts of the row of FnExactLazySavings. -/
import Derived.Test.YtjijpkphkicoeaaGreatRows
import Derived.JoinedOf
set_option linter.unusedSimpArgs false
set_option linter.unusedVariables false
namespace Go.Proofs.YtjijpkphkicoeaaGreat.lazySavings_
open Go
theorem lg{a b:Bool}(h:a=true)(k:b=true):(a&&b)=true:=by rw[h,k];rfl
theorem cl0:(Rows.fnExactLazySavingsRow.wf (OpenSpec.ofChange Rows.fnExactLazySavingsSpec))=true:=by kernel_rfl
theorem cl1:(laidOutB Tryz.pinned.checked.prog)=true:=by kernel_rfl
theorem cl2:(mapsRowed Tryz.pinned.checked.prog)=true:=by kernel_rfl
theorem cl3:(Tryz.f11.params.all (Tryz.pinned.checked.prog.readableRec ·))=true:=by kernel_rfl
theorem cl4:(namedTie Tryz.pinned.checked.prog Rows.fnExactLazySavingsRow.named Rows.fnExactLazySavingsSpec.vars)=true:=by kernel_rfl
theorem cl5:((Rows.fnExactLazySavingsRow.stops==[]))=true:=by kernel_rfl
theorem cl6:((Tryz.pinned.checked.prog.stops==[]))=true:=by kernel_rfl
theorem cl7:((Rows.fnExactLazySavingsRow.knobs==[]))=true:=by kernel_rfl
theorem cl8:((Tryz.pinned.checked.prog.stopKnobs==[]))=true:=by kernel_rfl
theorem cl9:((Rows.fnExactLazySavingsRow.inPlace==Tryz.pinned.checked.prog.inPlace 11))=true:=by kernel_rfl
theorem Z0:((Rows.fnExactLazySavingsRow.unfollowed==Tryz.pinned.checked.prog.unfollowed 11))=true:=by kernel_rfl
theorem Z4:((Rows.fnExactLazySavingsRow.recurses==Tryz.pinned.checked.prog.recurses 11))=true:=by kernel_rfl
theorem Z5:((Rows.fnExactLazySavingsRow.named==Tryz.pinned.checked.prog.varsNamed 11))=true:=by kernel_rfl
theorem Z6:((Rows.fnExactLazySavingsRow.maps==(Tryz.f11.params.toList++Rows.fnExactLazySavingsSpec.plain.varTypes Tryz.pinned.checked.prog).any (Tryz.pinned.checked.prog.mapsRec ·)))=true:=by kernel_rfl
theorem Z7:((Rows.fnExactLazySavingsRow.ifaces==(Tryz.f11.params.toList++Rows.fnExactLazySavingsSpec.plain.varTypes Tryz.pinned.checked.prog).any (Tryz.pinned.checked.prog.ifacesRec ·)))=true:=by kernel_rfl
theorem Z8:((Rows.fnExactLazySavingsRow.mapsOut==Tryz.pinned.checked.prog.mapsAmong Tryz.f11.resultTypes.toList))=true:=by kernel_rfl
theorem Z9:((Rows.fnExactLazySavingsRow.loops==(Tryz.f11.params.toList++Rows.fnExactLazySavingsSpec.plain.varTypes Tryz.pinned.checked.prog).any (Tryz.pinned.checked.prog.loopsFrom ·)))=true:=by kernel_rfl
theorem cl17:((Rows.fnExactLazySavingsRow.wideKeys==(Tryz.f11.params.toList++Rows.fnExactLazySavingsSpec.plain.varTypes Tryz.pinned.checked.prog++Tryz.f11.resultTypes.toList).any (Tryz.pinned.checked.prog.wideKeysFrom ·)))=true:=by kernel_rfl
theorem cl18:(Rows.fnExactLazySavingsSpec.vars.all (Tryz.pinned.checked.prog.varReadable ·))=true:=by kernel_rfl
theorem cl19:(Tryz.f11.resultTypes.all (fun t=>Tryz.pinned.checked.prog.readableRec t&&decide (t<Tryz.pinned.checked.prog.types.size)))=true:=by kernel_rfl
theorem cl20:((Rows.fnExactLazySavingsRow.ifacesOut==Tryz.f11.resultTypes.toList.any (Tryz.pinned.checked.prog.ifacesRec ·)))=true:=by kernel_rfl
theorem cl21:((Rows.fnExactLazySavingsRow.loopsOut==Tryz.f11.resultTypes.toList.any (Tryz.pinned.checked.prog.loopsFrom ·)))=true:=by kernel_rfl
theorem cl22:((Rows.fnExactLazySavingsRow.plainKeys==Tryz.pinned.checked.prog.plainKeys))=true:=by kernel_rfl
theorem cl23:(Rows.fnExactLazySavingsRow.shortTexts.isNone)=true:=by kernel_rfl
theorem cl24:(Tryz.pinned.checked.prog.stopsHeard)=true:=by kernel_rfl
theorem cl25:(Tryz.pinned.checked.prog.mayEnter)=true:=by kernel_rfl
theorem cl26:((Rows.fnExactLazySavingsRow.lifted==Tryz.pinned.checked.prog.liftsFinal))=true:=by kernel_rfl
theorem cl27:((Tryz.pinned.checked.prog.make==some Rows.fnExactLazySavingsRow.make))=true:=by kernel_rfl
theorem cl28:((Rows.fnExactLazySavingsRow.kinds==(if Rows.fnExactLazySavingsRow.domain.isEmpty then[]else Tryz.f11.params.toList.map fun t=>match Tryz.pinned.checked.prog.underlying t with|some (.int k)=>some k|_=>none)))=true:=by kernel_rfl
theorem cl29:((Rows.fnExactLazySavingsRow.pinned==Rows.fnExactLazySavingsRow.pinnedBy))=true:=by kernel_rfl
theorem cl30:((Rows.fnExactLazySavingsRow.veiled==(Tryz.f11.params.toList++Rows.fnExactLazySavingsSpec.plain.varTypes Tryz.pinned.checked.prog++Tryz.f11.resultTypes.toList).any (Tryz.pinned.checked.prog.veiledRec ·)))=true:=by kernel_rfl
theorem cl31:(Rows.fnExactLazySavingsRow.veiledFits Tryz.pinned.checked.prog Tryz.f11.params.toList (Tryz.f11.params.toList++Rows.fnExactLazySavingsSpec.plain.varTypes Tryz.pinned.checked.prog++Tryz.f11.resultTypes.toList))=true:=by kernel_rfl
set_option maxRecDepth 100000 in
theorem closed:joinedFacts Tryz.pinned.checked.prog 11 Tryz.f11 Rows.fnExactLazySavingsSpec Rows.fnExactLazySavingsRow=true:=
  (lg (lg (lg (lg (lg (lg (lg (lg (lg (lg (lg (lg (lg (lg (lg (lg (lg (lg (lg (lg (lg (lg (lg (lg (lg (lg (lg (lg (lg (lg (lg cl0 cl1) cl2) cl3) cl4) cl5) cl6) cl7) cl8) cl9) Z0) Z4) Z5) Z6) Z7) Z8) Z9) cl17) cl18) cl19) cl20) cl21) cl22) cl23) cl24) cl25) cl26) cl27) cl28) cl29) cl30) cl31)
end Go.Proofs.YtjijpkphkicoeaaGreat.lazySavings_
