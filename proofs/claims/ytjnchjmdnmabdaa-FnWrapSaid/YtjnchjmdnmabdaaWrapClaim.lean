/- Sums and differences of wrapped integers undo each other, and a quotient and its remainder make up the dividend, for all bytes from which the numbers are drawn. No condition. -/
import Derived.Test.YtjnchjmdnmabdaaRows
import Derived.Test.YtjnchjmdnmabdaaWrapLaw
import Derived.Test.YtjnchjmdnmabdaaLaw
namespace Go.Proofs.Ytjnchjmdnmabdaa.fnWrap
open Go.ChangeShapes Go.WideShapes Go.ChangeAt Go.RowKit Go.Tr Go.Deep

theorem own : ownKnob Try.prog.godebug = none := by kernel_rfl

set_option maxRecDepth 100000 in
theorem lifted (os : Os) (started : os.Started) (H : Type) (enc : TypeId × Value → H) :
    ReturnsInHanded {} Try.checked os 4 .any (Rows.fnWrapSpec.pre6 enc Try.prog Try.f4 Rows.fnWrapRow.domain false) (Rows.fnWrapSpec.post enc Try.prog Try.f4 false true false false) := by
  refine returnsInHanded_of_change (C := Try.checked) own started (by kernel_rfl) Try.func4
    (ChangeSpec.witness6 (enc := enc) (C := Try.checked) false ⟨#[], #[.slice none 0 0, .slice none 0 0], []⟩ 8 (by kernel_rfl) (by kernel_rfl) (by kernel_rfl) (by kernel_rfl)) ?_
  intro W base args ds gs before hval0 hW hcnd _
  have hval : ∀ (j : Nat) t v, Try.f4.params[j]? = some t → args[j]? = some v → Value.okWide Try.prog W .any base t v := hval0
  have hW' := hW
  obtain ⟨p, q, hA0, hV, rfl, hfz, hnd⟩ := hW
  have hA : DataW.TrodAll enc Try.prog W 0 (fun _ => true) true Try.f4.params.toList args.toList ds p := hA0
  rw [Try.params4] at hA hval
  obtain ⟨v0, vs0, d0, ds0, p0, q0, hargs, rfl, rfl, h0, r0⟩ := trodAll_cons hA
  obtain ⟨v1, vs1, d1, ds1, p1, q1, rfl, rfl, rfl, h1, r1⟩ := trodAll_cons r0
  obtain ⟨rfl, rfl, rfl⟩ := trodAll_nil r1
  obtain rfl : args = #[v0, v1] := by cases args; simp_all
  have c0 := one_cell Try.underlying28 (hval 0 28 v0 rfl rfl)
  have c1 := one_cell Try.underlying28 (hval 1 28 v1 rfl rfl)
  obtain ⟨f0, h0⟩ := h0
  obtain ⟨f1, h1⟩ := h1
  rw [c0] at h0
  rw [c1] at h1
  obtain ⟨A, n, c, e0, hnc, hc, t0⟩ := bytes_dec Try.underlying28 Try.underlying5 (by kernel_rfl) h0
  obtain ⟨B, m, d, e1, hmd, hd, t1⟩ := bytes_dec Try.underlying28 Try.underlying5 (by kernel_rfl) h1
  obtain rfl : v0 = .slice A n c := by simpa using e0
  obtain rfl : v1 = .slice B m d := by simpa using e1
  clear hA0 hval0
  refine (wrap_walk A B n m c d W t0 t1).mono fun e W' ⟨he, hb⟩ => ?_
  subst he
  exact ⟨_, rfl, law_post (tb := 4) (by kernel_rfl) (by kernel_rfl) hW' (by obtain ⟨rfl, rfl⟩ := trodVars_none hV; rfl) rfl rfl Try.underlying4 hb⟩

theorem over : Rows.fnWrapRow.holds Try.pinned (OpenSpec.ofChange Rows.fnWrapSpec) :=
  OpenClaim.holds_of_wide 4 Try.f4 rfl rfl rfl rfl rfl rfl rfl ⟨rfl, rfl, rfl, rfl, rfl⟩ rfl rfl rfl rfl rfl (by kernel_rfl) Try.func4 (by kernel_rfl)
    (of_decide_eq_true (by kernel_rfl)) (by unfold Func.isWrapper; first | (rw [if_pos (by decide +kernel)]; kernel_rfl) | (rw [if_neg (by decide +kernel)]; exact ⟨rfl, rfl⟩))
    (fun os started H enc _ => lifted os started H enc)

theorem proved : Rows.FnWrapSaid :=
  over
#print axioms proved
end Go.Proofs.Ytjnchjmdnmabdaa.fnWrap
