/- Kinds, levels and classes of agents: what the program's functions and the reference's return. -/
import Derived.Test.YthciaodffkbljaaGreatProg
import Derived.Test.YthciaodffkbljaaGreatKinds
set_option linter.unusedSimpArgs false
set_option linter.unusedVariables false
namespace Go.Proofs.YthciaodffkbljaaGreat
open Go Go.RowKit Go.Proofs Go.Tr

set_option maxHeartbeats 400000 in
theorem l00In_any (n lo hi : Int) (w : World) : Calls Tryz.prog 51 #[.int .i64 n, .int .i64 lo, .int .i64 hi] w fun e w' => e = .returned (.bool (inB n lo hi)) ∧ w = w' := by
  by_cases h1 : lo ≤ n
  · have e1 : inB n lo hi = decide (n ≤ hi) := by simp [inB, h1]
    have E1 := Lib.hid e1
    clear e1
    go_enter Tryz.func51, Tryz.ntmps51
    go_wp2
    go_ret
    simp [E1.out]
  · have e1 : inB n lo hi = false := by simp [inB, h1]
    have E1 := Lib.hid e1
    clear e1
    have h2 : decide (lo ≤ n) = false := by simpa using h1
    go_enter Tryz.func51, Tryz.ntmps51
    go_wp2
    go_ret
    simp [E1.out]
set_option maxHeartbeats 400000 in
theorem isKind_any (n : Int) (w : World) : Calls Tryz.prog 196 #[.int .i64 n] w fun e w' => e = .returned (.bool (kindB n)) ∧ w = w' := by
  by_cases h1 : 1 ≤ n
  · have e1 : kindB n = decide (n ≤ 12) := by simp [kindB, inB, h1]
    have E1 := Lib.hid e1
    clear e1
    go_enter Tryz.func196, Tryz.ntmps196
    go_wp2
    go_ret
    simp [E1.out]
  · have e1 : kindB n = false := by simp [kindB, inB, h1]
    have E1 := Lib.hid e1
    clear e1
    have h2 : decide (1 ≤ n) = false := by simpa using h1
    go_enter Tryz.func196, Tryz.ntmps196
    go_wp2
    go_ret
    simp [E1.out]
set_option maxHeartbeats 400000 in
theorem isLevel_any (n : Int) (w : World) : Calls Tryz.prog 198 #[.int .i64 n] w fun e w' => e = .returned (.bool (levB n)) ∧ w = w' := by
  by_cases h1 : 0 ≤ n
  · have e1 : levB n = decide (n ≤ 8) := by simp [levB, inB, h1]
    have E1 := Lib.hid e1
    clear e1
    go_enter Tryz.func198, Tryz.ntmps198
    go_wp2
    go_ret
    simp [E1.out]
  · have e1 : levB n = false := by simp [levB, inB, h1]
    have E1 := Lib.hid e1
    clear e1
    have h2 : decide (0 ≤ n) = false := by simpa using h1
    go_enter Tryz.func198, Tryz.ntmps198
    go_wp2
    go_ret
    simp [E1.out]
set_option maxHeartbeats 400000 in
theorem implHasLevel_any (n : Int) (w : World) : Calls Tryz.prog 197 #[.int .i64 n] w fun e w' => e = .returned (.bool (hasLevB n)) ∧ w = w' := by
  cases hk : kindB n
  · rw [hasLev_of_kind_f hk]
    go_enter Tryz.func197, Tryz.ntmps197
    go_wp2_with fail
    refine (isKind_any _ _).mono ?_
    rintro e w1 ⟨rfl, rfl⟩
    go_wp2_with fail
    go_ret
    exact ⟨rfl, rfl⟩
  · rcases kind_cases hk with rfl | rfl | rfl | rfl | rfl | rfl | rfl | rfl | rfl | rfl | rfl | rfl
    all_goals
      go_enter Tryz.func197, Tryz.ntmps197
      go_wp2_with fail
      refine (isKind_any _ _).mono ?_
      rintro e w1 ⟨rfl, rfl⟩
      go_wp2_with fail
      go_ret
      exact ⟨rfl, rfl⟩
set_option maxHeartbeats 400000 in
theorem specHasLevel_any (n : Int) (w : World) : Calls Tryz.prog 199 #[.int .i64 n] w fun e w' => e = .returned (.bool (hasLevB n)) ∧ w = w' := by
  cases hk : kindB n
  · rw [hasLev_of_kind_f hk]
    have h := inB_f hk
    go_enter Tryz.func199, Tryz.ntmps199
    go_wp2
    all_goals go_ret
    all_goals first | exact ⟨rfl, rfl⟩ | (exfalso; omega)
  · rcases kind_cases hk with rfl | rfl | rfl | rfl | rfl | rfl | rfl | rfl | rfl | rfl | rfl | rfl
    all_goals
      go_enter Tryz.func199, Tryz.ntmps199
      go_wp2
      go_ret
      exact ⟨rfl, rfl⟩
set_option maxHeartbeats 400000 in
theorem isAllowed_any (k l : Int) (w : World) : Calls Tryz.prog 183 #[.int .i64 k, .int .i64 l] w fun e w' => e = .returned (.bool (allowB k l)) ∧ w = w' := by
  cases hk : kindB k
  · have E := Lib.hid (allow_of_kind_f (l := l) hk)
    go_enter Tryz.func183, Tryz.ntmps183
    go_wp2_with (first | (go_at_call 196; refine (isKind_any _ _).mono ?_; rintro e w1 ⟨rfl, rfl⟩))
    go_ret
    exact ⟨by rw [E.out]; rfl, rfl⟩
  cases h0 : (l == 0)
  · cases hh : hasLevB k
    · have E := Lib.hid (show allowB k l = false by simp only [allowB, hk, h0, hh]; rfl)
      go_enter Tryz.func183, Tryz.ntmps183
      go_wp2_with (first | (go_at_call 196; refine (isKind_any _ _).mono ?_; rintro e w1 ⟨rfl, rfl⟩) | (go_at_call 197; refine (implHasLevel_any _ _).mono ?_; rintro e w1 ⟨rfl, rfl⟩))
      go_ret
      exact ⟨by rw [E.out]; rfl, rfl⟩
    · have E := Lib.hid (show allowB k l = levB l by simp only [allowB, hk, h0, hh, Bool.true_and, Bool.false_or])
      go_enter Tryz.func183, Tryz.ntmps183
      go_wp2_with (first | (go_at_call 196; refine (isKind_any _ _).mono ?_; rintro e w1 ⟨rfl, rfl⟩) | (go_at_call 197; refine (implHasLevel_any _ _).mono ?_; rintro e w1 ⟨rfl, rfl⟩) | (go_at_call 198; refine (isLevel_any _ _).mono ?_; rintro e w1 ⟨rfl, rfl⟩))
      go_ret
      exact ⟨by rw [E.out]; rfl, rfl⟩
  · have E := Lib.hid (show allowB k l = true by simp only [allowB, hk, h0]; rfl)
    go_enter Tryz.func183, Tryz.ntmps183
    go_wp2_with (first | (go_at_call 196; refine (isKind_any _ _).mono ?_; rintro e w1 ⟨rfl, rfl⟩))
    go_ret
    exact ⟨by rw [E.out]; rfl, rfl⟩

set_option maxHeartbeats 400000 in
theorem l10Kind_any (n : Int) (w : World) : Calls Tryz.prog 200 #[.int .i64 n] w fun e w' => e = .returned (.bool (kindB n)) ∧ w = w' := by
  go_enter Tryz.func200, Tryz.ntmps200
  go_wp2_with (first | (go_at_call 51; refine (l00In_any _ _ _ _).mono ?_; rintro e w1 ⟨rfl, rfl⟩))
  go_ret
  exact ⟨rfl, rfl⟩

set_option maxHeartbeats 400000 in
theorem l10Level_any (k l : Int) (w : World) : Calls Tryz.prog 194 #[.int .i64 k, .int .i64 l] w fun e w' => e = .returned (.bool (allowB k l)) ∧ w = w' := by
  cases hh : hasLevB k
  · cases hk : kindB k
    · have E := Lib.hid (allow_of_kind_f (l := l) hk)
      go_enter Tryz.func194, Tryz.ntmps194
      go_wp2_with (first | (go_at_call 199; refine (specHasLevel_any _ _).mono ?_; rintro e w1 ⟨rfl, rfl⟩) | (go_at_call 200; refine (l10Kind_any _ _).mono ?_; rintro e w1 ⟨rfl, rfl⟩))
      go_ret
      exact ⟨by rw [E.out]; rfl, rfl⟩
    · have E := Lib.hid (show allowB k l = (l == 0) by simp only [allowB, hk, hh, Bool.true_and, Bool.false_and, Bool.or_false])
      go_enter Tryz.func194, Tryz.ntmps194
      go_wp2_with (first | (go_at_call 199; refine (specHasLevel_any _ _).mono ?_; rintro e w1 ⟨rfl, rfl⟩) | (go_at_call 200; refine (l10Kind_any _ _).mono ?_; rintro e w1 ⟨rfl, rfl⟩))
      go_ret
      exact ⟨by rw [E.out]; rfl, rfl⟩
  · have hk : kindB k = true := by
      cases hk : kindB k
      · rw [hasLev_of_kind_f hk] at hh; cases hh
      · rfl
    have E := Lib.hid (show allowB k l = inB l 0 8 by
      simp only [allowB, hk, hh, Bool.true_and, levB]
      cases h0 : (l == 0)
      · rfl
      · have : l = 0 := by simpa using h0
        subst this; rfl)
    go_enter Tryz.func194, Tryz.ntmps194
    go_wp2_with (first | (go_at_call 199; refine (specHasLevel_any _ _).mono ?_; rintro e w1 ⟨rfl, rfl⟩) | (go_at_call 51; refine (l00In_any _ _ _ _).mono ?_; rintro e w1 ⟨rfl, rfl⟩))
    go_ret
    exact ⟨by rw [E.out]; rfl, rfl⟩

end Go.Proofs.YthciaodffkbljaaGreat
