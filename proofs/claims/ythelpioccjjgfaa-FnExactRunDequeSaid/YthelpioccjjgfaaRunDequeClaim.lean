/- The program's RunDeque answers what the reference's does, for all arguments, leaves them as they were, and hands back memory of its own. No condition. -/
import Derived.Test.YthelpioccjjgfaaRows
import Derived.Test.YthelpioccjjgfaaRunDequeLaw
import Derived.Test.YthelpioccjjgfaaEDq
import Derived.Test.YthelpioccjjgfaaDec
import Derived.Test.YthelpioccjjgfaaLaw
set_option linter.unusedSimpArgs false
set_option linter.unusedVariables false
namespace Go.Proofs.Ythelpioccjjgfaa.runDeque_
open Go.ChangeShapes Go.WideShapes Go.ChangeAt Go.RowKit Go.Tr Go.Deep

theorem own : ownKnob Try.prog.godebug = none := by kernel_rfl

set_option maxRecDepth 100000 in
theorem lifted (os : Os) (started : os.Started) (H : Type) (enc : TypeId × Value → H) :
    ReturnsInHanded {} Try.checked os 10 .any (Rows.fnExactRunDequeSpec.pre6 enc Try.prog Try.f10 Rows.fnExactRunDequeRow.domain false) (Rows.fnExactRunDequeSpec.post enc Try.prog Try.f10 false true false false) := by
  refine returnsInHanded_of_change (C := Try.checked) own started (by kernel_rfl) Try.func10
    (ChangeSpec.witness6 (enc := enc) (C := Try.checked) false ⟨#[], #[.agg #[.int .i64 0, .int .i64 0, .slice none 0 0, .slice none 0 0, .slice none 0 0, .slice none 0 0], .slice none 0 0], []⟩ 8 (by kernel_rfl) (by kernel_rfl) (by kernel_rfl) (by kernel_rfl)) ?_
  intro W base args ds gs before hval0 hW hcnd _
  have hval : ∀ (j : Nat) t v, Try.f10.params[j]? = some t → args[j]? = some v → Value.okWide Try.prog W .any base t v := hval0
  have hW' := hW
  obtain ⟨p, q, hA0, hV, rfl, hfz, hnd⟩ := hW
  have hA : DataW.TrodAll enc Try.prog W 0 (fun _ => true) true Try.f10.params.toList args.toList ds p := hA0
  rw [Try.params10] at hA hval
  obtain ⟨v0, vs0, d0, ds0, p0, q0, hargs, rfl, rfl, h0, r0⟩ := trodAll_cons hA
  obtain ⟨v1, vs1, d1, ds1, p1, q1, rfl, rfl, rfl, h1, r1⟩ := trodAll_cons r0
  obtain ⟨rfl, rfl, rfl⟩ := trodAll_nil r1
  obtain rfl : args = #[v0, v1] := by cases args; simp_all
  obtain ⟨f0, h0⟩ := h0
  have c0 := agg_of Try.underlying102 (hval 0 102 v0 rfl rfl)
  obtain ⟨a0, b0, t0⟩ := decDeque _ _ _ h0
  generalize v0.cells.toList = us0 at c0 t0
  subst c0
  obtain ⟨f1, h1⟩ := h1
  rw [one_cell Try.underlying24 (hval 1 24 v1 rfl rfl)] at h1
  obtain ⟨A1, n1, c1, a1, b1, e1, hn1, _, _, t1⟩ := slice_dec intE 1 (by omega) Try.underlying24 (by kernel_rfl) (dec_int Try.underlying2) h1
  obtain rfl : v1 = .slice A1 n1 c1 := by simpa using e1
  subst hn1
  clear hA0 hval0
  refine (lawRunDeque a0 a1 W t0 t1).mono fun e W' ⟨he, hb⟩ => ?_
  subst he
  exact ⟨_, rfl, law_post (tb := 4) (by kernel_rfl) (by kernel_rfl) hW' (by obtain ⟨rfl, rfl⟩ := trodVars_none hV; rfl) rfl rfl Try.underlying4 hb⟩

theorem over : Rows.fnExactRunDequeRow.holds Try.pinned (OpenSpec.ofChange Rows.fnExactRunDequeSpec) :=
  OpenClaim.holds_of_wide 10 Try.f10 rfl rfl rfl rfl rfl rfl rfl ⟨rfl, rfl, rfl, rfl, rfl⟩ rfl rfl rfl rfl rfl (by kernel_rfl) Try.func10 (by kernel_rfl)
    (of_decide_eq_true (by kernel_rfl)) (by unfold Func.isWrapper; first | (rw [if_pos (by decide +kernel)]; kernel_rfl) | (rw [if_neg (by decide +kernel)]; exact ⟨rfl, rfl⟩))
    (fun os started H enc _ => lifted os started H enc)

theorem proved : Rows.FnExactRunDequeSaid :=
  over
#print axioms proved
end Go.Proofs.Ythelpioccjjgfaa.runDeque_
