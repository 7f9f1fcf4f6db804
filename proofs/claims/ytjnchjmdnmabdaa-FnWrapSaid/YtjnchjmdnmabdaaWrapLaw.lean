/- The law of wrapped sums, quotients and remainders, walked. -/
import Derived.Test.YtjnchjmdnmabdaaWrap
namespace Go.Proofs.Ytjnchjmdnmabdaa
open Go Go.RowKit Go.Proofs Go.Tr
set_option maxHeartbeats 1000000 in
theorem wrap_walk (A B : Option Addr) (n m c d: Nat) (w : World) (hA : Bytes w A n) (hB : Bytes w B m) :
    Calls Try.prog 4 #[.slice A n c, .slice B m d] w fun e w' => e = .returned (.bool true) ∧ Below w.heap.size w w' := by
  by_cases h0 : 3000 < n ∨ 3000 < m
  · go_enter Try.func4, Try.ntmps4
    go_wp2_with fail
    refine (a2Long_yes _ _ _ _ _ _ _ h0).mono ?_
    rintro e w1 ⟨rfl, rfl⟩
    go_wp2_with fail
    go_ret
    exact ⟨rfl, Below.refl _ _⟩
  have hn : n ≤ 3000 := by omega
  have hm : m ≤ 3000 := by omega
  go_enter Try.func4, Try.ntmps4
  go_wp2_with fail
  refine (a2Long_no _ _ _ _ _ _ _ hn hm).mono ?_
  rintro e w1 ⟨rfl, rfl⟩
  go_wp2_with fail
  refine (drawOperate_any A n c _ (by omega) hA).mono ?_
  rintro e w1 ⟨o, a, b, rfl, ho0, ho1, ha, hb, hb1⟩
  go_wp2_with fail
  refine (drawOperate_any B m d _ (by omega) (hB.below hb1)).mono ?_
  rintro e w2 ⟨o2, x, y, rfl, _, _, hx, hy, hb2⟩
  have hbb := hb1.trans (hb2.mono hb1.size)
  clear hb1 hb2 hA hB h0
  go_wp2_with fail
  refine (specWrap32_any _ _).mono ?_
  rintro e w3 ⟨rfl, rfl⟩
  go_wp2_with fail
  refine (specWrap32_any _ _).mono ?_
  rintro e w3 ⟨rfl, rfl⟩
  have h3 := w32_in a
  have h4 := w32_in b
  generalize w32 a = a' at *
  generalize w32 b = b' at *
  obtain ⟨h5, h6⟩ := h3
  obtain ⟨h7, h8⟩ := h4
  go_wp2_with fail
  refine (operate_any _ _ _ _).mono ?_
  rintro e w3 ⟨rfl, rfl⟩
  go_wp2_with fail
  refine (operate_any _ _ _ _).mono ?_
  rintro e w3 ⟨rfl, rfl⟩
  have f1 := f_addsub (a := a') (b := b') h5 h6
  go_wp2_with fail
  refine (implWrap32_any _ _).mono ?_
  rintro e w3 ⟨rfl, rfl⟩
  have f2 := f_wrap (a := a') (x := x) h5 h6
  go_wp2_with fail
  refine (operate_any _ _ _ _).mono ?_
  rintro e w3 ⟨rfl, rfl⟩
  go_wp2_with fail
  refine (operate_any _ _ _ _).mono ?_
  rintro e w3 ⟨rfl, rfl⟩
  have f3 := f_mul a' b'
  have HE : Hid (∃ u v z : Bool, opv 5 a' b' = b2i u ∧ opv 5 b' a' = b2i v ∧ opv 6 a' b' = b2i z ∧ decide (a' < b') = u ∧ ((u = true ∧ v = false ∧ z = false) ∨ (u = false ∧ v = true ∧ z = false) ∨ (u = false ∧ v = false ∧ z = true))) := by
    obtain ⟨l1, l2, l3⟩ := less_facts h5 h6 h7 h8
    exact ⟨_, _, _, l1, l2, l3, rfl, three a' b'⟩
  by_cases hz : b' = 0
  · subst hz
    go_wp2_with fail
    refine (operate_any _ _ _ _).mono ?_
    rintro e w3 ⟨rfl, rfl⟩
    rw [q_zero]
    go_wp2_with fail
    refine (operate_any _ _ _ _).mono ?_
    rintro e w3 ⟨rfl, rfl⟩
    go_wp2_with fail
    refine (operate_any _ _ _ _).mono ?_
    rintro e w3 ⟨rfl, rfl⟩
    rw [r_zero h5 h6]
    obtain ⟨u, v, z, e1, e2, e3, e4, hh⟩ := HE.out
    have E1 := Lib.hid e1
    have E2 := Lib.hid e2
    have E3 := Lib.hid e3
    clear e1 e2 e3 HE
    rcases hh with ⟨rfl, rfl, rfl⟩ | ⟨rfl, rfl, rfl⟩ | ⟨rfl, rfl, rfl⟩
    all_goals
      simp only [b2i_t, b2i_f] at E1 E2 E3
      go_wp2_with fail
      refine (operate_any _ _ _ _).mono ?_
      rintro e w3 ⟨rfl, rfl⟩
      rw [E1.out]
      go_wp2_with fail
      refine (operate_any _ _ _ _).mono ?_
      rintro e w3 ⟨rfl, rfl⟩
      rw [E2.out]
      go_wp2_with fail
      refine (operate_any _ _ _ _).mono ?_
      rintro e w3 ⟨rfl, rfl⟩
      rw [E3.out]
      go_wp2_with fail
      refine (implOpText_any _ _).mono ?_
      rintro e w3 ⟨rfl, rfl⟩
      go_wp2_with fail
      refine (implOperatorOf_any _ _).mono ?_
      rintro e w3 ⟨rfl, rfl⟩
      go_wp2_with fail
      refine (specOpText_any _ _).mono ?_
      rintro e w3 ⟨rfl, hb3⟩
      go_wp2_with fail
      refine (specOperatorOf_any _ _).mono ?_
      rintro e w4 ⟨rfl, hb4⟩
      go_wp2_with fail
      refine (operate_any _ _ _ _).mono ?_
      rintro e w5 ⟨rfl, rfl⟩
      go_wp2_with fail
      refine (operate_any _ _ _ _).mono ?_
      rintro e w6 ⟨rfl, rfl⟩
      have f9 := f_add x y
      go_wp2_with fail
      go_ret
      exact ⟨rfl, (hbb.trans (hb3.mono hbb.size)).trans (hb4.mono (Nat.le_trans hbb.size hb3.size))⟩
  have hz1 : (b' == 0) = false := by simpa using hz
  have hz2 : (b' != 0) = true := by simpa using hz
  go_wp2_with fail
  refine (operate_any _ _ _ _).mono ?_
  rintro e w3 ⟨rfl, rfl⟩
  go_wp2_with fail
  refine (operate_any _ _ _ _).mono ?_
  rintro e w3 ⟨rfl, rfl⟩
  go_wp2_with fail
  refine (operate_any _ _ _ _).mono ?_
  rintro e w3 ⟨rfl, rfl⟩
  rw [r_is h5 h6 h7 h8 hz]
  obtain ⟨t1, t2, t3⟩ := tmod_in a' b' hz
  generalize a'.tmod b' = r at *
  by_cases hr : r = 0
  · subst hr
    have hd : decide (b' ≤ 0) = false ∨ decide (-b' ≤ 0) = false := by simp only [decide_eq_false_iff_not]; omega
    by_cases hs : 0 < b'
    all_goals
      obtain ⟨u, v, z, e1, e2, e3, e4, hh⟩ := HE.out
      have E1 := Lib.hid e1
      have E2 := Lib.hid e2
      have E3 := Lib.hid e3
      clear e1 e2 e3 HE
      rcases hh with ⟨rfl, rfl, rfl⟩ | ⟨rfl, rfl, rfl⟩ | ⟨rfl, rfl, rfl⟩
      all_goals
        simp only [b2i_t, b2i_f] at E1 E2 E3
        go_wp2_with fail
        refine (operate_any _ _ _ _).mono ?_
        rintro e w3 ⟨rfl, rfl⟩
        rw [E1.out]
        go_wp2_with fail
        refine (operate_any _ _ _ _).mono ?_
        rintro e w3 ⟨rfl, rfl⟩
        rw [E2.out]
        go_wp2_with fail
        refine (operate_any _ _ _ _).mono ?_
        rintro e w3 ⟨rfl, rfl⟩
        rw [E3.out]
        go_wp2_with fail
        refine (implOpText_any _ _).mono ?_
        rintro e w3 ⟨rfl, rfl⟩
        go_wp2_with fail
        refine (implOperatorOf_any _ _).mono ?_
        rintro e w3 ⟨rfl, rfl⟩
        go_wp2_with fail
        refine (specOpText_any _ _).mono ?_
        rintro e w3 ⟨rfl, hb3⟩
        go_wp2_with fail
        refine (specOperatorOf_any _ _).mono ?_
        rintro e w4 ⟨rfl, hb4⟩
        go_wp2_with fail
        refine (operate_any _ _ _ _).mono ?_
        rintro e w5 ⟨rfl, rfl⟩
        go_wp2_with fail
        refine (operate_any _ _ _ _).mono ?_
        rintro e w6 ⟨rfl, rfl⟩
        have f9 := f_add x y
        go_wp2_with fail
        go_ret
        exact ⟨rfl, (hbb.trans (hb3.mono hbb.size)).trans (hb4.mono (Nat.le_trans hbb.size hb3.size))⟩
  have hr2 : (r != 0) = true := by simpa using hr
  by_cases hs : 0 < b'
  · by_cases hs2 : 0 < r
    · skip
      have d1 : decide (b' ≤ r) = false := by simp only [decide_eq_false_iff_not]; omega
      have d2 : decide (r < 0) = false := by simp only [decide_eq_false_iff_not]; omega
      have d3 : decide (a' < 0) = false := by simp only [decide_eq_false_iff_not]; omega
      obtain ⟨u, v, z, e1, e2, e3, e4, hh⟩ := HE.out
      have E1 := Lib.hid e1
      have E2 := Lib.hid e2
      have E3 := Lib.hid e3
      clear e1 e2 e3 HE
      rcases hh with ⟨rfl, rfl, rfl⟩ | ⟨rfl, rfl, rfl⟩ | ⟨rfl, rfl, rfl⟩
      all_goals
        simp only [b2i_t, b2i_f] at E1 E2 E3
        go_wp2_with fail
        refine (operate_any _ _ _ _).mono ?_
        rintro e w3 ⟨rfl, rfl⟩
        rw [E1.out]
        go_wp2_with fail
        refine (operate_any _ _ _ _).mono ?_
        rintro e w3 ⟨rfl, rfl⟩
        rw [E2.out]
        go_wp2_with fail
        refine (operate_any _ _ _ _).mono ?_
        rintro e w3 ⟨rfl, rfl⟩
        rw [E3.out]
        go_wp2_with fail
        refine (implOpText_any _ _).mono ?_
        rintro e w3 ⟨rfl, rfl⟩
        go_wp2_with fail
        refine (implOperatorOf_any _ _).mono ?_
        rintro e w3 ⟨rfl, rfl⟩
        go_wp2_with fail
        refine (specOpText_any _ _).mono ?_
        rintro e w3 ⟨rfl, hb3⟩
        go_wp2_with fail
        refine (specOperatorOf_any _ _).mono ?_
        rintro e w4 ⟨rfl, hb4⟩
        go_wp2_with fail
        refine (operate_any _ _ _ _).mono ?_
        rintro e w5 ⟨rfl, rfl⟩
        go_wp2_with fail
        refine (operate_any _ _ _ _).mono ?_
        rintro e w6 ⟨rfl, rfl⟩
        have f9 := f_add x y
        go_wp2_with fail
        go_ret
        exact ⟨rfl, (hbb.trans (hb3.mono hbb.size)).trans (hb4.mono (Nat.le_trans hbb.size hb3.size))⟩
    · skip
      have d1 : decide (b' ≤ -r) = false := by simp only [decide_eq_false_iff_not]; omega
      have d2 : decide (r < 0) = true := by simp only [decide_eq_true_eq]; omega
      have d3 : decide (a' < 0) = true := by simp only [decide_eq_true_eq]; omega
      obtain ⟨u, v, z, e1, e2, e3, e4, hh⟩ := HE.out
      have E1 := Lib.hid e1
      have E2 := Lib.hid e2
      have E3 := Lib.hid e3
      clear e1 e2 e3 HE
      rcases hh with ⟨rfl, rfl, rfl⟩ | ⟨rfl, rfl, rfl⟩ | ⟨rfl, rfl, rfl⟩
      all_goals
        simp only [b2i_t, b2i_f] at E1 E2 E3
        go_wp2_with fail
        refine (operate_any _ _ _ _).mono ?_
        rintro e w3 ⟨rfl, rfl⟩
        rw [E1.out]
        go_wp2_with fail
        refine (operate_any _ _ _ _).mono ?_
        rintro e w3 ⟨rfl, rfl⟩
        rw [E2.out]
        go_wp2_with fail
        refine (operate_any _ _ _ _).mono ?_
        rintro e w3 ⟨rfl, rfl⟩
        rw [E3.out]
        go_wp2_with fail
        refine (implOpText_any _ _).mono ?_
        rintro e w3 ⟨rfl, rfl⟩
        go_wp2_with fail
        refine (implOperatorOf_any _ _).mono ?_
        rintro e w3 ⟨rfl, rfl⟩
        go_wp2_with fail
        refine (specOpText_any _ _).mono ?_
        rintro e w3 ⟨rfl, hb3⟩
        go_wp2_with fail
        refine (specOperatorOf_any _ _).mono ?_
        rintro e w4 ⟨rfl, hb4⟩
        go_wp2_with fail
        refine (operate_any _ _ _ _).mono ?_
        rintro e w5 ⟨rfl, rfl⟩
        go_wp2_with fail
        refine (operate_any _ _ _ _).mono ?_
        rintro e w6 ⟨rfl, rfl⟩
        have f9 := f_add x y
        go_wp2_with fail
        go_ret
        exact ⟨rfl, (hbb.trans (hb3.mono hbb.size)).trans (hb4.mono (Nat.le_trans hbb.size hb3.size))⟩
  · by_cases hs2 : 0 < r
    · skip
      have d1 : decide (-b' ≤ r) = false := by simp only [decide_eq_false_iff_not]; omega
      have d2 : decide (r < 0) = false := by simp only [decide_eq_false_iff_not]; omega
      have d3 : decide (a' < 0) = false := by simp only [decide_eq_false_iff_not]; omega
      obtain ⟨u, v, z, e1, e2, e3, e4, hh⟩ := HE.out
      have E1 := Lib.hid e1
      have E2 := Lib.hid e2
      have E3 := Lib.hid e3
      clear e1 e2 e3 HE
      rcases hh with ⟨rfl, rfl, rfl⟩ | ⟨rfl, rfl, rfl⟩ | ⟨rfl, rfl, rfl⟩
      all_goals
        simp only [b2i_t, b2i_f] at E1 E2 E3
        go_wp2_with fail
        refine (operate_any _ _ _ _).mono ?_
        rintro e w3 ⟨rfl, rfl⟩
        rw [E1.out]
        go_wp2_with fail
        refine (operate_any _ _ _ _).mono ?_
        rintro e w3 ⟨rfl, rfl⟩
        rw [E2.out]
        go_wp2_with fail
        refine (operate_any _ _ _ _).mono ?_
        rintro e w3 ⟨rfl, rfl⟩
        rw [E3.out]
        go_wp2_with fail
        refine (implOpText_any _ _).mono ?_
        rintro e w3 ⟨rfl, rfl⟩
        go_wp2_with fail
        refine (implOperatorOf_any _ _).mono ?_
        rintro e w3 ⟨rfl, rfl⟩
        go_wp2_with fail
        refine (specOpText_any _ _).mono ?_
        rintro e w3 ⟨rfl, hb3⟩
        go_wp2_with fail
        refine (specOperatorOf_any _ _).mono ?_
        rintro e w4 ⟨rfl, hb4⟩
        go_wp2_with fail
        refine (operate_any _ _ _ _).mono ?_
        rintro e w5 ⟨rfl, rfl⟩
        go_wp2_with fail
        refine (operate_any _ _ _ _).mono ?_
        rintro e w6 ⟨rfl, rfl⟩
        have f9 := f_add x y
        go_wp2_with fail
        go_ret
        exact ⟨rfl, (hbb.trans (hb3.mono hbb.size)).trans (hb4.mono (Nat.le_trans hbb.size hb3.size))⟩
    · skip
      have d1 : decide (-b' ≤ -r) = false := by simp only [decide_eq_false_iff_not]; omega
      have d0 : decide (r ≤ b') = false := by simp only [decide_eq_false_iff_not]; omega
      have d2 : decide (r < 0) = true := by simp only [decide_eq_true_eq]; omega
      have d3 : decide (a' < 0) = true := by simp only [decide_eq_true_eq]; omega
      obtain ⟨u, v, z, e1, e2, e3, e4, hh⟩ := HE.out
      have E1 := Lib.hid e1
      have E2 := Lib.hid e2
      have E3 := Lib.hid e3
      clear e1 e2 e3 HE
      rcases hh with ⟨rfl, rfl, rfl⟩ | ⟨rfl, rfl, rfl⟩ | ⟨rfl, rfl, rfl⟩
      all_goals
        simp only [b2i_t, b2i_f] at E1 E2 E3
        go_wp2_with fail
        refine (operate_any _ _ _ _).mono ?_
        rintro e w3 ⟨rfl, rfl⟩
        rw [E1.out]
        go_wp2_with fail
        refine (operate_any _ _ _ _).mono ?_
        rintro e w3 ⟨rfl, rfl⟩
        rw [E2.out]
        go_wp2_with fail
        refine (operate_any _ _ _ _).mono ?_
        rintro e w3 ⟨rfl, rfl⟩
        rw [E3.out]
        go_wp2_with fail
        refine (implOpText_any _ _).mono ?_
        rintro e w3 ⟨rfl, rfl⟩
        go_wp2_with fail
        refine (implOperatorOf_any _ _).mono ?_
        rintro e w3 ⟨rfl, rfl⟩
        go_wp2_with fail
        refine (specOpText_any _ _).mono ?_
        rintro e w3 ⟨rfl, hb3⟩
        go_wp2_with fail
        refine (specOperatorOf_any _ _).mono ?_
        rintro e w4 ⟨rfl, hb4⟩
        go_wp2_with fail
        refine (operate_any _ _ _ _).mono ?_
        rintro e w5 ⟨rfl, rfl⟩
        go_wp2_with fail
        refine (operate_any _ _ _ _).mono ?_
        rintro e w6 ⟨rfl, rfl⟩
        have f9 := f_add x y
        go_wp2_with fail
        go_ret
        exact ⟨rfl, (hbb.trans (hb3.mono hbb.size)).trans (hb4.mono (Nat.le_trans hbb.size hb3.size))⟩
end Go.Proofs.Ytjnchjmdnmabdaa
