/- The program's comparison of two lists of events answers what the reference's does, for all lists, and leaves them as they were. No condition. -/
import Derived.Test.YtjnchjmdnmabdaaRows
import Derived.Test.YtjnchjmdnmabdaaTrace
import Derived.Test.YtjnchjmdnmabdaaLaw
namespace Go.Proofs.Ytjnchjmdnmabdaa.sameTrace
open Go.ChangeShapes Go.WideShapes Go.ChangeAt Go.RowKit Go.Tr Go.Deep

theorem own : ownKnob Try.prog.godebug = none := by kernel_rfl

theorem ev_dec {H : Type} {enc : TypeId × Value → H} {w : World} {spare : Nat → Bool} {held : Bool} (fuel : Nat) (cs : List Value) (x : DataW H × List MemPlace) (h : DataW.trod enc Try.prog w 0 spare held fuel 39 cs = some x) :
    ∃ (e : Ev) (bs : List Nat), TN w e.enc bs cs := by
  obtain ⟨is, hl, rfl, _⟩ := ints_dec Try.underlying39 (by kernel_rfl) (by kernel_rfl) (ti := 2) (by kernel_rfl) Try.underlying2 h
  match is, hl with
  | [a, b, c, d, e], _ => exact ⟨⟨a, b, c, d, e⟩, [], TN.scalars rfl⟩

theorem evs_dec {H : Type} {enc : TypeId × Value → H} {w : World} {spare : Nat → Bool} {held : Bool} {fuel : Nat} {cs : List Value} {x : DataW H × List MemPlace} (h : DataW.trod enc Try.prog w 0 spare held fuel 22 cs = some x) :
    ∃ (A : Option Addr) (n c : Nat) (xs : List Ev) (bs : List Nat), cs = [.slice A n c] ∧ Hid (xs.length = n) ∧ n ≤ c ∧ c ≤ maxLen ∧ T1 w (.sl n (xs.flatMap Ev.enc)) bs (.slice A n c) :=
  slice_dec Ev.enc 5 (by omega) Try.underlying22 (by kernel_rfl) ev_dec h

theorem one_cell {w : World} {base : Nat} {v : Value} {t e : TypeId} (ht : Try.prog.underlying t = some (.slice e)) (h : Value.okWide Try.prog w .any base t v) : v.cells.toList = [v] := by
  cases v with
  | agg cs => simp [Value.okWide, ht, Cell.okWide, Cell.ok] at h
  | _ => rfl

set_option maxRecDepth 100000 in
theorem lifted (os : Os) (started : os.Started) (H : Type) (enc : TypeId × Value → H) :
    ReturnsInHanded {} Try.checked os 3 .any (Rows.fnExactSameTraceSpec.pre6 enc Try.prog Try.f3 Rows.fnExactSameTraceRow.domain false) (Rows.fnExactSameTraceSpec.post enc Try.prog Try.f3 false true false false) := by
  refine returnsInHanded_of_change (C := Try.checked) own started (by kernel_rfl) Try.func3
    (ChangeSpec.witness6 (enc := enc) (C := Try.checked) false ⟨#[], #[.slice none 0 0, .slice none 0 0], []⟩ 8 (by kernel_rfl) (by kernel_rfl) (by kernel_rfl) (by kernel_rfl)) ?_
  intro W base args ds gs before hval0 hW hcnd _
  have hval : ∀ (j : Nat) t v, Try.f3.params[j]? = some t → args[j]? = some v → Value.okWide Try.prog W .any base t v := hval0
  have hW' := hW
  obtain ⟨p, q, hA0, hV, rfl, hfz, hnd⟩ := hW
  have hA : DataW.TrodAll enc Try.prog W 0 (fun _ => true) true Try.f3.params.toList args.toList ds p := hA0
  rw [Try.params3] at hA hval
  obtain ⟨v0, vs0, d0, ds0, p0, q0, hargs, rfl, rfl, h0, r0⟩ := trodAll_cons hA
  obtain ⟨v1, vs1, d1, ds1, p1, q1, rfl, rfl, rfl, h1, r1⟩ := trodAll_cons r0
  obtain ⟨rfl, rfl, rfl⟩ := trodAll_nil r1
  obtain rfl : args = #[v0, v1] := by cases args; simp_all
  have c0 := one_cell Try.underlying22 (hval 0 22 v0 rfl rfl)
  have c1 := one_cell Try.underlying22 (hval 1 22 v1 rfl rfl)
  obtain ⟨f0, h0⟩ := h0
  obtain ⟨f1, h1⟩ := h1
  rw [c0] at h0
  rw [c1] at h1
  obtain ⟨A, n, c, xs, b0, e0, hn, hnc, hc, t0⟩ := evs_dec h0
  obtain ⟨B, m, d, ys, b1, e1, hm, hmd, hd, t1⟩ := evs_dec h1
  obtain rfl : v0 = .slice A n c := by simpa using e0
  obtain rfl : v1 = .slice B m d := by simpa using e1
  clear hA0 hval0
  refine (law_walk A B n m c d xs ys b0 b1 W t0 t1 hn hm (Nat.le_trans hnc hc) (Nat.le_trans hmd hd)).mono fun e W' ⟨he, hb⟩ => ?_
  subst he
  exact ⟨_, rfl, law_post (tb := 4) (by kernel_rfl) (by kernel_rfl) hW' (by obtain ⟨rfl, rfl⟩ := trodVars_none hV; rfl) rfl rfl Try.underlying4 hb⟩

theorem over : Rows.fnExactSameTraceRow.holds Try.pinned (OpenSpec.ofChange Rows.fnExactSameTraceSpec) :=
  OpenClaim.holds_of_wide 3 Try.f3 rfl rfl rfl rfl rfl rfl rfl ⟨rfl, rfl, rfl, rfl, rfl⟩ rfl rfl rfl rfl rfl (by kernel_rfl) Try.func3 (by kernel_rfl)
    (of_decide_eq_true (by kernel_rfl)) (by unfold Func.isWrapper; first | (rw [if_pos (by decide +kernel)]; kernel_rfl) | (rw [if_neg (by decide +kernel)]; exact ⟨rfl, rfl⟩))
    (fun os started H enc _ => lifted os started H enc)

theorem proved : Rows.FnExactSameTraceSaid :=
  over
#print axioms proved
end Go.Proofs.Ytjnchjmdnmabdaa.sameTrace
