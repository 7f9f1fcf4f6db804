/- The program's Normalize answers what the reference's does, for all arguments, leaves them as they were, and hands back memory of its own. No condition. -/
import Derived.Test.YtieemijapiiiiaaGreatRows
import Derived.Test.YtieemijapiiiiaaGreatNormalizeFacts
import Derived.Test.YtieemijapiiiiaaGreatNormalizeLaw
import Derived.Test.YtieemijapiiiiaaGreatECr
import Derived.Test.YtieemijapiiiiaaGreatDec
set_option linter.unusedSimpArgs false
set_option linter.unusedVariables false
namespace Go.Proofs.YtieemijapiiiiaaGreat.normalize_
open Go.ChangeShapes Go.WideShapes Go.ChangeAt Go.RowKit Go.Tr Go.Deep

theorem own : ownKnob Tryz.prog.godebug = none := by kernel_rfl

set_option maxRecDepth 100000 in
theorem lifted (os : Os) (started : os.Started) (H : Type) (enc : TypeId × Value → H) :
    ReturnsInHanded {} Tryz.checked os 4 .any (Rows.fnExactNormalizeSpec.pre6 enc Tryz.prog Tryz.f4 Rows.fnExactNormalizeRow.domain false) (Rows.fnExactNormalizeSpec.post enc Tryz.prog Tryz.f4 false true false false) := by
  refine returnsInHanded_of_change (C := Tryz.checked) own started (by kernel_rfl) Tryz.func4
    (ChangeSpec.witness6 (enc := enc) (C := Tryz.checked) false ⟨#[], #[.agg #[.slice none 0 0], .agg #[.int .i64 0, .int .i64 0, .slice none 0 0, .slice none 0 0], .int .i64 0], []⟩ 8 (by kernel_rfl) (by kernel_rfl) (by kernel_rfl) (by kernel_rfl)) ?_
  intro W base args ds gs before hval0 hW hcnd _
  have hval : ∀ (j : Nat) t v, Tryz.f4.params[j]? = some t → args[j]? = some v → Value.okWide Tryz.prog W .any base t v := hval0
  have hW' := hW
  obtain ⟨p, q, hA0, hV, rfl, hfz, hnd⟩ := hW
  have hA : DataW.TrodAll enc Tryz.prog W 0 (fun _ => true) true Tryz.f4.params.toList args.toList ds p := hA0
  rw [Tryz.params4] at hA hval
  obtain ⟨v0, vs0, d0, ds0, p0, q0, hargs, rfl, rfl, h0, r0⟩ := trodAll_cons hA
  obtain ⟨v1, vs1, d1, ds1, p1, q1, rfl, rfl, rfl, h1, r1⟩ := trodAll_cons r0
  obtain ⟨v2, vs2, d2, ds2, p2, q2, rfl, rfl, rfl, h2, r2⟩ := trodAll_cons r1
  obtain ⟨rfl, rfl, rfl⟩ := trodAll_nil r2
  obtain rfl : args = #[v0, v1, v2] := by cases args; simp_all
  obtain ⟨f0, h0⟩ := h0
  have c0 := agg_of Tryz.underlying24 (hval 0 24 v0 rfl rfl)
  obtain ⟨a0, b0, t0⟩ := decBook _ _ _ h0
  generalize v0.cells.toList = us0 at c0 t0
  subst c0
  obtain ⟨f1, h1⟩ := h1
  have c1 := agg_of Tryz.underlying27 (hval 1 27 v1 rfl rfl)
  obtain ⟨a1, b1, t1⟩ := decCore _ _ _ h1
  generalize v1.cells.toList = us1 at c1 t1
  subst c1
  obtain ⟨f2, h2⟩ := h2
  rw [int_of Tryz.underlying2 (hval 2 2 v2 rfl rfl)] at h2
  obtain ⟨a2, e2, _, k2⟩ := DataW.trod_int Tryz.underlying2 h2
  obtain rfl : v2 = .int .i64 a2 := by simpa using e2
  clear hA0 hval0
  refine (lawNormalize a0 a1 a2 W t0 t1 ).mono fun e W' ⟨he, hb⟩ => ?_
  subst he
  exact ⟨_, rfl, law_post (tb := 4) (by kernel_rfl) (by kernel_rfl) hW' (by obtain ⟨rfl, rfl⟩ := trodVars_none hV; rfl) rfl rfl Tryz.underlying4 hb⟩

theorem over : Rows.fnExactNormalizeRow.holds Tryz.pinned (OpenSpec.ofChange Rows.fnExactNormalizeSpec) :=
  OpenClaim.holds_of_wide 4 Tryz.f4 rfl rfl rfl rfl rfl rfl rfl ⟨rfl, rfl, rfl, rfl, rfl⟩ rfl rfl rfl rfl rfl (by kernel_rfl) Tryz.func4 closed
    (of_decide_eq_true (by kernel_rfl)) (by unfold Func.isWrapper; first | (rw [if_pos (by decide +kernel)]; kernel_rfl) | (rw [if_neg (by decide +kernel)]; exact ⟨rfl, rfl⟩))
    (fun os started H enc _ => lifted os started H enc)

theorem proved : Rows.FnExactNormalizeSaid :=
  over
#print axioms proved
end Go.Proofs.YtieemijapiiiiaaGreat.normalize_
