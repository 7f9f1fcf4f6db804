/- The closed facts of the row of FnExactRecordLazy. -/
import Derived.Test.YtcjhkgfmklgikaaGreatRows
import Derived.JoinedOf
set_option linter.unusedSimpArgs false
set_option linter.unusedVariables false
namespace Go.Proofs.YtcjhkgfmklgikaaGreat.recordLazy_
open Go
theorem lg{a b:Bool}(h:a=true)(k:b=true):(a&&b)=true:=by rw[h,k];rfl
theorem cl0:(Rows.fnExactRecordLazyRow.wf (OpenSpec.ofChange Rows.fnExactRecordLazySpec))=true:=by kernel_rfl
theorem cl1:(laidOutB Tryz.pinned.checked.prog)=true:=by kernel_rfl
theorem cl2:(mapsRowed Tryz.pinned.checked.prog)=true:=by kernel_rfl
theorem cl3:(Tryz.f4.params.all (Tryz.pinned.checked.prog.readableRec ·))=true:=by kernel_rfl
theorem cl4:(namedTie Tryz.pinned.checked.prog Rows.fnExactRecordLazyRow.named Rows.fnExactRecordLazySpec.vars)=true:=by kernel_rfl
theorem cl5:((Rows.fnExactRecordLazyRow.stops==[]))=true:=by kernel_rfl
theorem cl6:((Tryz.pinned.checked.prog.stops==[]))=true:=by kernel_rfl
theorem cl7:((Rows.fnExactRecordLazyRow.knobs==[]))=true:=by kernel_rfl
theorem cl8:((Tryz.pinned.checked.prog.stopKnobs==[]))=true:=by kernel_rfl
theorem cl9:((Rows.fnExactRecordLazyRow.inPlace==Tryz.pinned.checked.prog.inPlace 4))=true:=by kernel_rfl
theorem YN:((Rows.fnExactRecordLazyRow.unfollowed==Tryz.pinned.checked.prog.unfollowed 4))=true:=by kernel_rfl
theorem YO:((Rows.fnExactRecordLazyRow.recurses==Tryz.pinned.checked.prog.recurses 4))=true:=by kernel_rfl
theorem YP:((Rows.fnExactRecordLazyRow.named==Tryz.pinned.checked.prog.varsNamed 4))=true:=by kernel_rfl
theorem YQ:((Rows.fnExactRecordLazyRow.maps==(Tryz.f4.params.toList++Rows.fnExactRecordLazySpec.plain.varTypes Tryz.pinned.checked.prog).any (Tryz.pinned.checked.prog.mapsRec ·)))=true:=by kernel_rfl
theorem YR:((Rows.fnExactRecordLazyRow.ifaces==(Tryz.f4.params.toList++Rows.fnExactRecordLazySpec.plain.varTypes Tryz.pinned.checked.prog).any (Tryz.pinned.checked.prog.ifacesRec ·)))=true:=by kernel_rfl
theorem YS:((Rows.fnExactRecordLazyRow.mapsOut==Tryz.pinned.checked.prog.mapsAmong Tryz.f4.resultTypes.toList))=true:=by kernel_rfl
theorem YT:((Rows.fnExactRecordLazyRow.loops==(Tryz.f4.params.toList++Rows.fnExactRecordLazySpec.plain.varTypes Tryz.pinned.checked.prog).any (Tryz.pinned.checked.prog.loopsFrom ·)))=true:=by kernel_rfl
theorem YU:((Rows.fnExactRecordLazyRow.wideKeys==(Tryz.f4.params.toList++Rows.fnExactRecordLazySpec.plain.varTypes Tryz.pinned.checked.prog++Tryz.f4.resultTypes.toList).any (Tryz.pinned.checked.prog.wideKeysFrom ·)))=true:=by kernel_rfl
theorem YV:(Rows.fnExactRecordLazySpec.vars.all (Tryz.pinned.checked.prog.varReadable ·))=true:=by kernel_rfl
theorem YW:(Tryz.f4.resultTypes.all (fun t=>Tryz.pinned.checked.prog.readableRec t&&decide (t<Tryz.pinned.checked.prog.types.size)))=true:=by kernel_rfl
theorem YX:((Rows.fnExactRecordLazyRow.ifacesOut==Tryz.f4.resultTypes.toList.any (Tryz.pinned.checked.prog.ifacesRec ·)))=true:=by kernel_rfl
theorem YZ:((Rows.fnExactRecordLazyRow.loopsOut==Tryz.f4.resultTypes.toList.any (Tryz.pinned.checked.prog.loopsFrom ·)))=true:=by kernel_rfl
theorem Y0:((Rows.fnExactRecordLazyRow.plainKeys==Tryz.pinned.checked.prog.plainKeys))=true:=by kernel_rfl
theorem Y1:(Rows.fnExactRecordLazyRow.shortTexts.isNone)=true:=by kernel_rfl
theorem Y3:(Tryz.pinned.checked.prog.stopsHeard)=true:=by kernel_rfl
theorem Y4:(Tryz.pinned.checked.prog.mayEnter)=true:=by kernel_rfl
theorem Y5:((Rows.fnExactRecordLazyRow.lifted==Tryz.pinned.checked.prog.liftsFinal))=true:=by kernel_rfl
theorem Y6:((Tryz.pinned.checked.prog.make==some Rows.fnExactRecordLazyRow.make))=true:=by kernel_rfl
theorem Y7:((Rows.fnExactRecordLazyRow.kinds==(if Rows.fnExactRecordLazyRow.domain.isEmpty then[]else Tryz.f4.params.toList.map fun t=>match Tryz.pinned.checked.prog.underlying t with|some (.int k)=>some k|_=>none)))=true:=by kernel_rfl
theorem Y8:((Rows.fnExactRecordLazyRow.pinned==Rows.fnExactRecordLazyRow.pinnedBy))=true:=by kernel_rfl
theorem Y9:((Rows.fnExactRecordLazyRow.veiled==(Tryz.f4.params.toList++Rows.fnExactRecordLazySpec.plain.varTypes Tryz.pinned.checked.prog++Tryz.f4.resultTypes.toList).any (Tryz.pinned.checked.prog.veiledRec ·)))=true:=by kernel_rfl
theorem Za:(Rows.fnExactRecordLazyRow.veiledFits Tryz.pinned.checked.prog Tryz.f4.params.toList (Tryz.f4.params.toList++Rows.fnExactRecordLazySpec.plain.varTypes Tryz.pinned.checked.prog++Tryz.f4.resultTypes.toList))=true:=by kernel_rfl
set_option maxRecDepth 100000 in
theorem closed:joinedFacts Tryz.pinned.checked.prog 4 Tryz.f4 Rows.fnExactRecordLazySpec Rows.fnExactRecordLazyRow=true:=
  (lg (lg (lg (lg (lg (lg (lg (lg (lg (lg (lg (lg (lg (lg (lg (lg (lg (lg (lg (lg (lg (lg (lg (lg (lg (lg (lg (lg (lg (lg (lg cl0 cl1) cl2) cl3) cl4) cl5) cl6) cl7) cl8) cl9) YN) YO) YP) YQ) YR) YS) YT) YU) YV) YW) YX) YZ) Y0) Y1) Y3) Y4) Y5) Y6) Y7) Y8) Y9) Za)
end Go.Proofs.YtcjhkgfmklgikaaGreat.recordLazy_
