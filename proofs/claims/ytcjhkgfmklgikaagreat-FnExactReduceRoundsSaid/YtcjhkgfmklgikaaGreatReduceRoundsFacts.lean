/- The closed facts of the row of FnExactReduceRounds. -/
import Derived.Test.YtcjhkgfmklgikaaGreatRows
import Derived.JoinedOf
set_option linter.unusedSimpArgs false
set_option linter.unusedVariables false
namespace Go.Proofs.YtcjhkgfmklgikaaGreat.reduceRounds_
open Go
theorem lg{a b:Bool}(h:a=true)(k:b=true):(a&&b)=true:=by rw[h,k];rfl
theorem cl0:(Rows.fnExactReduceRoundsRow.wf (OpenSpec.ofChange Rows.fnExactReduceRoundsSpec))=true:=by kernel_rfl
theorem cl1:(laidOutB Tryz.pinned.checked.prog)=true:=by kernel_rfl
theorem cl2:(mapsRowed Tryz.pinned.checked.prog)=true:=by kernel_rfl
theorem cl3:(Tryz.f3.params.all (Tryz.pinned.checked.prog.readableRec ·))=true:=by kernel_rfl
theorem cl4:(namedTie Tryz.pinned.checked.prog Rows.fnExactReduceRoundsRow.named Rows.fnExactReduceRoundsSpec.vars)=true:=by kernel_rfl
theorem cl5:((Rows.fnExactReduceRoundsRow.stops==[]))=true:=by kernel_rfl
theorem cl6:((Tryz.pinned.checked.prog.stops==[]))=true:=by kernel_rfl
theorem cl7:((Rows.fnExactReduceRoundsRow.knobs==[]))=true:=by kernel_rfl
theorem cl8:((Tryz.pinned.checked.prog.stopKnobs==[]))=true:=by kernel_rfl
theorem cl9:((Rows.fnExactReduceRoundsRow.inPlace==Tryz.pinned.checked.prog.inPlace 3))=true:=by kernel_rfl
theorem YN:((Rows.fnExactReduceRoundsRow.unfollowed==Tryz.pinned.checked.prog.unfollowed 3))=true:=by kernel_rfl
theorem YO:((Rows.fnExactReduceRoundsRow.recurses==Tryz.pinned.checked.prog.recurses 3))=true:=by kernel_rfl
theorem YP:((Rows.fnExactReduceRoundsRow.named==Tryz.pinned.checked.prog.varsNamed 3))=true:=by kernel_rfl
theorem YQ:((Rows.fnExactReduceRoundsRow.maps==(Tryz.f3.params.toList++Rows.fnExactReduceRoundsSpec.plain.varTypes Tryz.pinned.checked.prog).any (Tryz.pinned.checked.prog.mapsRec ·)))=true:=by kernel_rfl
theorem YR:((Rows.fnExactReduceRoundsRow.ifaces==(Tryz.f3.params.toList++Rows.fnExactReduceRoundsSpec.plain.varTypes Tryz.pinned.checked.prog).any (Tryz.pinned.checked.prog.ifacesRec ·)))=true:=by kernel_rfl
theorem YS:((Rows.fnExactReduceRoundsRow.mapsOut==Tryz.pinned.checked.prog.mapsAmong Tryz.f3.resultTypes.toList))=true:=by kernel_rfl
theorem YT:((Rows.fnExactReduceRoundsRow.loops==(Tryz.f3.params.toList++Rows.fnExactReduceRoundsSpec.plain.varTypes Tryz.pinned.checked.prog).any (Tryz.pinned.checked.prog.loopsFrom ·)))=true:=by kernel_rfl
theorem YU:((Rows.fnExactReduceRoundsRow.wideKeys==(Tryz.f3.params.toList++Rows.fnExactReduceRoundsSpec.plain.varTypes Tryz.pinned.checked.prog++Tryz.f3.resultTypes.toList).any (Tryz.pinned.checked.prog.wideKeysFrom ·)))=true:=by kernel_rfl
theorem YV:(Rows.fnExactReduceRoundsSpec.vars.all (Tryz.pinned.checked.prog.varReadable ·))=true:=by kernel_rfl
theorem YW:(Tryz.f3.resultTypes.all (fun t=>Tryz.pinned.checked.prog.readableRec t&&decide (t<Tryz.pinned.checked.prog.types.size)))=true:=by kernel_rfl
theorem YX:((Rows.fnExactReduceRoundsRow.ifacesOut==Tryz.f3.resultTypes.toList.any (Tryz.pinned.checked.prog.ifacesRec ·)))=true:=by kernel_rfl
theorem YZ:((Rows.fnExactReduceRoundsRow.loopsOut==Tryz.f3.resultTypes.toList.any (Tryz.pinned.checked.prog.loopsFrom ·)))=true:=by kernel_rfl
theorem Y0:((Rows.fnExactReduceRoundsRow.plainKeys==Tryz.pinned.checked.prog.plainKeys))=true:=by kernel_rfl
theorem Y1:(Rows.fnExactReduceRoundsRow.shortTexts.isNone)=true:=by kernel_rfl
theorem Y3:(Tryz.pinned.checked.prog.stopsHeard)=true:=by kernel_rfl
theorem Y4:(Tryz.pinned.checked.prog.mayEnter)=true:=by kernel_rfl
theorem Y5:((Rows.fnExactReduceRoundsRow.lifted==Tryz.pinned.checked.prog.liftsFinal))=true:=by kernel_rfl
theorem Y6:((Tryz.pinned.checked.prog.make==some Rows.fnExactReduceRoundsRow.make))=true:=by kernel_rfl
theorem Y7:((Rows.fnExactReduceRoundsRow.kinds==(if Rows.fnExactReduceRoundsRow.domain.isEmpty then[]else Tryz.f3.params.toList.map fun t=>match Tryz.pinned.checked.prog.underlying t with|some (.int k)=>some k|_=>none)))=true:=by kernel_rfl
theorem Y8:((Rows.fnExactReduceRoundsRow.pinned==Rows.fnExactReduceRoundsRow.pinnedBy))=true:=by kernel_rfl
theorem Y9:((Rows.fnExactReduceRoundsRow.veiled==(Tryz.f3.params.toList++Rows.fnExactReduceRoundsSpec.plain.varTypes Tryz.pinned.checked.prog++Tryz.f3.resultTypes.toList).any (Tryz.pinned.checked.prog.veiledRec ·)))=true:=by kernel_rfl
theorem Za:(Rows.fnExactReduceRoundsRow.veiledFits Tryz.pinned.checked.prog Tryz.f3.params.toList (Tryz.f3.params.toList++Rows.fnExactReduceRoundsSpec.plain.varTypes Tryz.pinned.checked.prog++Tryz.f3.resultTypes.toList))=true:=by kernel_rfl
set_option maxRecDepth 100000 in
theorem closed:joinedFacts Tryz.pinned.checked.prog 3 Tryz.f3 Rows.fnExactReduceRoundsSpec Rows.fnExactReduceRoundsRow=true:=
  (lg (lg (lg (lg (lg (lg (lg (lg (lg (lg (lg (lg (lg (lg (lg (lg (lg (lg (lg (lg (lg (lg (lg (lg (lg (lg (lg (lg (lg (lg (lg cl0 cl1) cl2) cl3) cl4) cl5) cl6) cl7) cl8) cl9) YN) YO) YP) YQ) YR) YS) YT) YU) YV) YW) YX) YZ) Y0) Y1) Y3) Y4) Y5) Y6) Y7) Y8) Y9) Za)
end Go.Proofs.YtcjhkgfmklgikaaGreat.reduceRounds_
