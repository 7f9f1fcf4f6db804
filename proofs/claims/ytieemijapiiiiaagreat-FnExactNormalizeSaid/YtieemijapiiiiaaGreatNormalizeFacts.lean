/- The closed facts of the row of FnExactNormalize. -/
import Derived.Test.YtieemijapiiiiaaGreatRows
import Derived.JoinedOf
set_option linter.unusedSimpArgs false
set_option linter.unusedVariables false
namespace Go.Proofs.YtieemijapiiiiaaGreat.normalize_
open Go
theorem band {a b : Bool} (h : a = true) (k : b = true) : (a && b) = true := by rw [h, k]; rfl
theorem cl0 : (Rows.fnExactNormalizeRow.wf (OpenSpec.ofChange Rows.fnExactNormalizeSpec)) = true := by kernel_rfl
theorem cl1 : (laidOutB Tryz.pinned.checked.prog) = true := by kernel_rfl
theorem cl2 : (mapsRowed Tryz.pinned.checked.prog) = true := by kernel_rfl
theorem cl3 : (Tryz.f4.params.all (Tryz.pinned.checked.prog.readableRec ·)) = true := by kernel_rfl
theorem cl4 : (namedTie Tryz.pinned.checked.prog Rows.fnExactNormalizeRow.named Rows.fnExactNormalizeSpec.vars) = true := by kernel_rfl
theorem cl5 : ((Rows.fnExactNormalizeRow.stops == [])) = true := by kernel_rfl
theorem cl6 : ((Tryz.pinned.checked.prog.stops == [])) = true := by kernel_rfl
theorem cl7 : ((Rows.fnExactNormalizeRow.knobs == [])) = true := by kernel_rfl
theorem cl8 : ((Tryz.pinned.checked.prog.stopKnobs == [])) = true := by kernel_rfl
theorem cl9 : ((Rows.fnExactNormalizeRow.inPlace == Tryz.pinned.checked.prog.inPlace 4)) = true := by kernel_rfl
theorem cl10 : ((Rows.fnExactNormalizeRow.unfollowed == Tryz.pinned.checked.prog.unfollowed 4)) = true := by kernel_rfl
theorem cl11 : ((Rows.fnExactNormalizeRow.recurses == Tryz.pinned.checked.prog.recurses 4)) = true := by kernel_rfl
theorem cl12 : ((Rows.fnExactNormalizeRow.named == Tryz.pinned.checked.prog.varsNamed 4)) = true := by kernel_rfl
theorem cl13 : ((Rows.fnExactNormalizeRow.maps == (Tryz.f4.params.toList ++ Rows.fnExactNormalizeSpec.plain.varTypes Tryz.pinned.checked.prog).any (Tryz.pinned.checked.prog.mapsRec ·))) = true := by kernel_rfl
theorem cl14 : ((Rows.fnExactNormalizeRow.ifaces == (Tryz.f4.params.toList ++ Rows.fnExactNormalizeSpec.plain.varTypes Tryz.pinned.checked.prog).any (Tryz.pinned.checked.prog.ifacesRec ·))) = true := by kernel_rfl
theorem cl15 : ((Rows.fnExactNormalizeRow.mapsOut == Tryz.pinned.checked.prog.mapsAmong Tryz.f4.resultTypes.toList)) = true := by kernel_rfl
theorem cl16 : ((Rows.fnExactNormalizeRow.loops == (Tryz.f4.params.toList ++ Rows.fnExactNormalizeSpec.plain.varTypes Tryz.pinned.checked.prog).any (Tryz.pinned.checked.prog.loopsFrom ·))) = true := by kernel_rfl
theorem cl17 : ((Rows.fnExactNormalizeRow.wideKeys == (Tryz.f4.params.toList ++ Rows.fnExactNormalizeSpec.plain.varTypes Tryz.pinned.checked.prog ++ Tryz.f4.resultTypes.toList).any (Tryz.pinned.checked.prog.wideKeysFrom ·))) = true := by kernel_rfl
theorem cl18 : (Rows.fnExactNormalizeSpec.vars.all (Tryz.pinned.checked.prog.varReadable ·)) = true := by kernel_rfl
theorem cl19 : (Tryz.f4.resultTypes.all (fun t => Tryz.pinned.checked.prog.readableRec t && decide (t < Tryz.pinned.checked.prog.types.size))) = true := by kernel_rfl
theorem cl20 : ((Rows.fnExactNormalizeRow.ifacesOut == Tryz.f4.resultTypes.toList.any (Tryz.pinned.checked.prog.ifacesRec ·))) = true := by kernel_rfl
theorem cl21 : ((Rows.fnExactNormalizeRow.loopsOut == Tryz.f4.resultTypes.toList.any (Tryz.pinned.checked.prog.loopsFrom ·))) = true := by kernel_rfl
theorem cl22 : ((Rows.fnExactNormalizeRow.plainKeys == Tryz.pinned.checked.prog.plainKeys)) = true := by kernel_rfl
theorem cl23 : (Rows.fnExactNormalizeRow.shortTexts.isNone) = true := by kernel_rfl
theorem cl24 : (Tryz.pinned.checked.prog.stopsHeard) = true := by kernel_rfl
theorem cl25 : (Tryz.pinned.checked.prog.mayEnter) = true := by kernel_rfl
theorem cl26 : ((Rows.fnExactNormalizeRow.lifted == Tryz.pinned.checked.prog.liftsFinal)) = true := by kernel_rfl
theorem cl27 : ((Tryz.pinned.checked.prog.make == some Rows.fnExactNormalizeRow.make)) = true := by kernel_rfl
theorem cl28 : ((Rows.fnExactNormalizeRow.kinds == (if Rows.fnExactNormalizeRow.domain.isEmpty then [] else Tryz.f4.params.toList.map fun t => match Tryz.pinned.checked.prog.underlying t with | some (.int k) => some k | _ => none))) = true := by kernel_rfl
theorem cl29 : ((Rows.fnExactNormalizeRow.pinned == Rows.fnExactNormalizeRow.pinnedBy)) = true := by kernel_rfl
theorem cl30 : ((Rows.fnExactNormalizeRow.veiled == (Tryz.f4.params.toList ++ Rows.fnExactNormalizeSpec.plain.varTypes Tryz.pinned.checked.prog ++ Tryz.f4.resultTypes.toList).any (Tryz.pinned.checked.prog.veiledRec ·))) = true := by kernel_rfl
theorem cl31 : (Rows.fnExactNormalizeRow.veiledFits Tryz.pinned.checked.prog Tryz.f4.params.toList (Tryz.f4.params.toList ++ Rows.fnExactNormalizeSpec.plain.varTypes Tryz.pinned.checked.prog ++ Tryz.f4.resultTypes.toList)) = true := by kernel_rfl
set_option maxRecDepth 100000 in
theorem closed : joinedFacts Tryz.pinned.checked.prog 4 Tryz.f4 Rows.fnExactNormalizeSpec Rows.fnExactNormalizeRow = true :=
  (band (band (band (band (band (band (band (band (band (band (band (band (band (band (band (band (band (band (band (band (band (band (band (band (band (band (band (band (band (band (band cl0 cl1) cl2) cl3) cl4) cl5) cl6) cl7) cl8) cl9) cl10) cl11) cl12) cl13) cl14) cl15) cl16) cl17) cl18) cl19) cl20) cl21) cl22) cl23) cl24) cl25) cl26) cl27) cl28) cl29) cl30) cl31)
end Go.Proofs.YtieemijapiiiiaaGreat.normalize_
