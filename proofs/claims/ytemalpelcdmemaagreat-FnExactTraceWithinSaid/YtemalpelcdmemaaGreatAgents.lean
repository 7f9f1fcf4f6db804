
/- Kinds, levels and classes of agents: what the program's functions and the reference's return. -/
import Derived.Test.YtemalpelcdmemaaGreatProg
import Derived.Test.YtemalpelcdmemaaGreatValid
set_option linter.unusedSimpArgs false
set_option linter.unusedVariables false
namespace Go.Proofs.YtemalpelcdmemaaGreat
open Go Go.RowKit Go.Proofs Go.Tr
set_option maxHeartbeats 400000 in
theorem l00In_any (n lo hi : Int) (w : World) : Calls Tryz.prog 81 #[.int .i64 n, .int .i64 lo, .int .i64 hi] w fun e w' => e = .returned (.bool (inB n lo hi)) ∧ w = w' := by
 by_cases h1 : lo ≤ n
 ·have e1 : inB n lo hi = decide (n ≤ hi) := by simp [inB, h1]
  have E1 := Lib.hid e1; clear e1
  go_enter Tryz.func81, Tryz.ntmps81
  go_wp2
  go_ret; simp [E1.out]
 ·have e1 : inB n lo hi = false := by simp [inB, h1]
  have E1 := Lib.hid e1; clear e1; have h2 : decide (lo ≤ n) = false := by simpa using h1
  go_enter Tryz.func81, Tryz.ntmps81
  go_wp2
  go_ret; simp [E1.out]
set_option maxHeartbeats 400000 in
theorem isKind_any (n : Int) (w : World) : Calls Tryz.prog 220 #[.int .i64 n] w fun e w' => e = .returned (.bool (kindB n)) ∧ w = w' := by
 by_cases h1 : 1 ≤ n
 ·have e1 : kindB n = decide (n ≤ 12) := by simp [kindB, inB, h1]
  have E1 := Lib.hid e1; clear e1
  go_enter Tryz.func220, Tryz.ntmps220
  go_wp2
  go_ret; simp [E1.out]
 ·have e1 : kindB n = false := by simp [kindB, inB, h1]
  have E1 := Lib.hid e1; clear e1; have h2 : decide (1 ≤ n) = false := by simpa using h1
  go_enter Tryz.func220, Tryz.ntmps220
  go_wp2
  go_ret; simp [E1.out]
set_option maxHeartbeats 400000 in
theorem isLevel_any (n : Int) (w : World) : Calls Tryz.prog 222 #[.int .i64 n] w fun e w' => e = .returned (.bool (levB n)) ∧ w = w' := by
 by_cases h1 : 0 ≤ n
 ·have e1 : levB n = decide (n ≤ 8) := by simp [levB, inB, h1]
  have E1 := Lib.hid e1; clear e1
  go_enter Tryz.func222, Tryz.ntmps222
  go_wp2
  go_ret; simp [E1.out]
 ·have e1 : levB n = false := by simp [levB, inB, h1]
  have E1 := Lib.hid e1; clear e1; have h2 : decide (0 ≤ n) = false := by simpa using h1
  go_enter Tryz.func222, Tryz.ntmps222
  go_wp2
  go_ret; simp [E1.out]
set_option maxHeartbeats 400000 in
theorem implHasLevel_any (n : Int) (w : World) : Calls Tryz.prog 221 #[.int .i64 n] w fun e w' => e = .returned (.bool (hasLevB n)) ∧ w = w' := by
 cases hk : kindB n
 ·rw [hasLev_of_kind_f hk]
  go_enter Tryz.func221, Tryz.ntmps221
  go_wp2_with fail
  refine (isKind_any _ _).mono ?_; rintro e w1 ⟨rfl, rfl⟩
  go_wp2_with fail
  go_ret; exact ⟨rfl, rfl⟩
 ·rcases kind_cases hk with rfl | rfl | rfl | rfl | rfl | rfl | rfl | rfl | rfl | rfl | rfl | rfl
  all_goals
   go_enter Tryz.func221, Tryz.ntmps221
   go_wp2_with fail
   refine (isKind_any _ _).mono ?_; rintro e w1 ⟨rfl, rfl⟩
   go_wp2_with fail
   go_ret; exact ⟨rfl, rfl⟩
set_option maxHeartbeats 400000 in
theorem specHasLevel_any (n : Int) (w : World) : Calls Tryz.prog 219 #[.int .i64 n] w fun e w' => e = .returned (.bool (hasLevB n)) ∧ w = w' := by
 cases hk : kindB n
 ·rw [hasLev_of_kind_f hk]; have h := inB_f hk
  go_enter Tryz.func219, Tryz.ntmps219
  go_wp2
  all_goals go_ret
  all_goals first | exact ⟨rfl, rfl⟩ | (exfalso; omega)
 ·rcases kind_cases hk with rfl | rfl | rfl | rfl | rfl | rfl | rfl | rfl | rfl | rfl | rfl | rfl
  all_goals
   go_enter Tryz.func219, Tryz.ntmps219
   go_wp2
   go_ret; exact ⟨rfl, rfl⟩
set_option maxHeartbeats 400000 in
theorem isAllowed_any (k l : Int) (w : World) : Calls Tryz.prog 196 #[.int .i64 k, .int .i64 l] w fun e w' => e = .returned (.bool (allowB k l)) ∧ w = w' := by
 cases hk : kindB k
 ·have E := Lib.hid (allow_of_kind_f (l := l) hk)
  go_enter Tryz.func196, Tryz.ntmps196
  go_wp2_with (first | (go_at_call 220; refine (isKind_any _ _).mono ?_; rintro e w1 ⟨rfl, rfl⟩))
  go_ret; exact ⟨by rw [E.out]; rfl, rfl⟩
 cases h0 : (l == 0)
 ·cases hh : hasLevB k
  ·have E := Lib.hid (show allowB k l = false by simp only [allowB, hk, h0, hh]; rfl)
   go_enter Tryz.func196, Tryz.ntmps196
   go_wp2_with (first | (go_at_call 220; refine (isKind_any _ _).mono ?_; rintro e w1 ⟨rfl, rfl⟩) | (go_at_call 221; refine (implHasLevel_any _ _).mono ?_; rintro e w1 ⟨rfl, rfl⟩))
   go_ret; exact ⟨by rw [E.out]; rfl, rfl⟩
  ·have E := Lib.hid (show allowB k l = levB l by simp only [allowB, hk, h0, hh, Bool.true_and, Bool.false_or])
   go_enter Tryz.func196, Tryz.ntmps196
   go_wp2_with (first | (go_at_call 220; refine (isKind_any _ _).mono ?_; rintro e w1 ⟨rfl, rfl⟩) | (go_at_call 221; refine (implHasLevel_any _ _).mono ?_; rintro e w1 ⟨rfl, rfl⟩) | (go_at_call 222; refine (isLevel_any _ _).mono ?_; rintro e w1 ⟨rfl, rfl⟩))
   go_ret; exact ⟨by rw [E.out]; rfl, rfl⟩
 ·have E := Lib.hid (show allowB k l = true by simp only [allowB, hk, h0]; rfl)
  go_enter Tryz.func196, Tryz.ntmps196
  go_wp2_with (first | (go_at_call 220; refine (isKind_any _ _).mono ?_; rintro e w1 ⟨rfl, rfl⟩))
  go_ret; exact ⟨by rw [E.out]; rfl, rfl⟩
set_option maxHeartbeats 400000 in
theorem l10Kind_any (n : Int) (w : World) : Calls Tryz.prog 239 #[.int .i64 n] w fun e w' => e = .returned (.bool (kindB n)) ∧ w = w' := by
 go_enter Tryz.func239, Tryz.ntmps239
 go_wp2_with (first | (go_at_call 81; refine (l00In_any _ _ _ _).mono ?_; rintro e w1 ⟨rfl, rfl⟩))
 go_ret; exact ⟨rfl, rfl⟩
set_option maxHeartbeats 400000 in
theorem l10Level_any (k l : Int) (w : World) : Calls Tryz.prog 227 #[.int .i64 k, .int .i64 l] w fun e w' => e = .returned (.bool (allowB k l)) ∧ w = w' := by
 cases hh : hasLevB k
 ·cases hk : kindB k
  ·have E := Lib.hid (allow_of_kind_f (l := l) hk)
   go_enter Tryz.func227, Tryz.ntmps227
   go_wp2_with (first | (go_at_call 219; refine (specHasLevel_any _ _).mono ?_; rintro e w1 ⟨rfl, rfl⟩) | (go_at_call 239; refine (l10Kind_any _ _).mono ?_; rintro e w1 ⟨rfl, rfl⟩))
   go_ret; exact ⟨by rw [E.out]; rfl, rfl⟩
  ·have E := Lib.hid (show allowB k l = (l == 0) by simp only [allowB, hk, hh, Bool.true_and, Bool.false_and, Bool.or_false])
   go_enter Tryz.func227, Tryz.ntmps227
   go_wp2_with (first | (go_at_call 219; refine (specHasLevel_any _ _).mono ?_; rintro e w1 ⟨rfl, rfl⟩) | (go_at_call 239; refine (l10Kind_any _ _).mono ?_; rintro e w1 ⟨rfl, rfl⟩))
   go_ret; exact ⟨by rw [E.out]; rfl, rfl⟩
 ·have hk : kindB k = true := by
   cases hk : kindB k
   ·rw [hasLev_of_kind_f hk] at hh; cases hh
   ·rfl
  have E := Lib.hid (show allowB k l = inB l 0 8 by
   simp only [allowB, hk, hh, Bool.true_and, levB]; cases h0 : (l == 0)
   ·rfl
   ·have : l = 0 := by simpa using h0
    subst this; rfl)
  go_enter Tryz.func227, Tryz.ntmps227
  go_wp2_with (first | (go_at_call 219; refine (specHasLevel_any _ _).mono ?_; rintro e w1 ⟨rfl, rfl⟩) | (go_at_call 81; refine (l00In_any _ _ _ _).mono ?_; rintro e w1 ⟨rfl, rfl⟩))
  go_ret; exact ⟨by rw [E.out]; rfl, rfl⟩
set_option maxHeartbeats 1000000 in
theorem implIsConsumer_any (k : Int) (w : World) : Calls Tryz.prog 224 #[.int .i64 k] w fun e w' => e = .returned (.bool (consB k)) ∧ w = w' := by
 by_cases h : k = 3 ∨ k = 7 ∨ k = 8 ∨ k = 10 ∨ k = 11
 ·rcases h with rfl | rfl | rfl | rfl | rfl
  all_goals
   go_enter Tryz.func224, Tryz.ntmps224
   go_wp2
   go_ret; exact ⟨rfl, rfl⟩
 ·have e1 : (k == 3) = false := by simp; omega
  have e2 : (k == 7) = false := by simp; omega
  have e3 : (k == 8) = false := by simp; omega
  have e4 : (k == 10) = false := by simp; omega
  have e5 : (k == 11) = false := by simp; omega
  have E := Lib.hid (show consB k = false by simp only [consB, e1, e2, e3, e4, e5]; rfl); clear h
  go_enter Tryz.func224, Tryz.ntmps224
  go_wp2
  go_ret; exact ⟨by rw [E.out]; rfl, rfl⟩
set_option maxHeartbeats 1000000 in
theorem specIsConsumer_any (k : Int) (w : World) : Calls Tryz.prog 236 #[.int .i64 k] w fun e w' => e = .returned (.bool (consB k)) ∧ w = w' := by
 by_cases h : k = 3 ∨ k = 7 ∨ k = 8 ∨ k = 10 ∨ k = 11
 ·rcases h with rfl | rfl | rfl | rfl | rfl
  all_goals
   go_enter Tryz.func236, Tryz.ntmps236
   go_wp2
   go_ret; exact ⟨rfl, rfl⟩
 ·have e1 : (k == 3) = false := by simp; omega
  have e2 : (k == 7) = false := by simp; omega
  have e3 : (k == 8) = false := by simp; omega
  have e4 : (k == 10) = false := by simp; omega
  have e5 : (k == 11) = false := by simp; omega
  have E := Lib.hid (show consB k = false by simp only [consB, e1, e2, e3, e4, e5]; rfl); clear h
  go_enter Tryz.func236, Tryz.ntmps236
  go_wp2
  go_ret; exact ⟨by rw [E.out]; rfl, rfl⟩
set_option maxHeartbeats 1000000 in
theorem implDuplicates_any (t k l : Int) (w : World) : Calls Tryz.prog 223 #[.int .i64 t, .int .i64 k, .int .i64 l] w fun e w' => e = .returned (.bool (dupB t k l)) ∧ w = w' := by
 cases ht : levB t
 ·have E := Lib.hid (show dupB t k l = false by simp only [dupB, levB]; simp only [levB] at ht; simp [ht])
  go_enter Tryz.func223, Tryz.ntmps223
  go_wp2_with (first | (go_at_call 222; refine (isLevel_any _ _).mono ?_; rintro e w1 ⟨rfl, rfl⟩) | (go_at_call 196; refine (isAllowed_any _ _ _).mono ?_; rintro e w1 ⟨rfl, rfl⟩) | (go_at_call 221; refine (implHasLevel_any _ _).mono ?_; rintro e w1 ⟨rfl, rfl⟩))
  go_ret; exact ⟨by rw [E.out]; rfl, rfl⟩
 cases ha : allowB k l
 ·have E := Lib.hid (show dupB t k l = false by simp [dupB, ha])
  go_enter Tryz.func223, Tryz.ntmps223
  go_wp2_with (first | (go_at_call 222; refine (isLevel_any _ _).mono ?_; rintro e w1 ⟨rfl, rfl⟩) | (go_at_call 196; refine (isAllowed_any _ _ _).mono ?_; rintro e w1 ⟨rfl, rfl⟩) | (go_at_call 221; refine (implHasLevel_any _ _).mono ?_; rintro e w1 ⟨rfl, rfl⟩))
  go_ret; exact ⟨by rw [E.out]; rfl, rfl⟩
 have ht' : levB t = true := ht; cases h6 : (k == 6)
 case true =>
  have E := Lib.hid (show dupB t k l = true by simp [dupB, ha, ht', h6])
  go_enter Tryz.func223, Tryz.ntmps223
  go_wp2_with (first | (go_at_call 222; refine (isLevel_any _ _).mono ?_; rintro e w1 ⟨rfl, rfl⟩) | (go_at_call 196; refine (isAllowed_any _ _ _).mono ?_; rintro e w1 ⟨rfl, rfl⟩) | (go_at_call 221; refine (implHasLevel_any _ _).mono ?_; rintro e w1 ⟨rfl, rfl⟩))
  go_ret; exact ⟨by rw [E.out]; rfl, rfl⟩
 cases h12 : (k == 12)
 case true =>
  have E := Lib.hid (show dupB t k l = true by simp [dupB, ha, ht', h12])
  go_enter Tryz.func223, Tryz.ntmps223
  go_wp2_with (first | (go_at_call 222; refine (isLevel_any _ _).mono ?_; rintro e w1 ⟨rfl, rfl⟩) | (go_at_call 196; refine (isAllowed_any _ _ _).mono ?_; rintro e w1 ⟨rfl, rfl⟩) | (go_at_call 221; refine (implHasLevel_any _ _).mono ?_; rintro e w1 ⟨rfl, rfl⟩))
  go_ret; exact ⟨by rw [E.out]; rfl, rfl⟩
 cases hh : hasLevB k
 ·have E := Lib.hid (show dupB t k l = false by simp [dupB, ha, ht', h6, h12, hh]); clear ht'
  go_enter Tryz.func223, Tryz.ntmps223
  go_wp2_with (first | (go_at_call 222; refine (isLevel_any _ _).mono ?_; rintro e w1 ⟨rfl, rfl⟩) | (go_at_call 196; refine (isAllowed_any _ _ _).mono ?_; rintro e w1 ⟨rfl, rfl⟩) | (go_at_call 221; refine (implHasLevel_any _ _).mono ?_; rintro e w1 ⟨rfl, rfl⟩))
  go_ret; exact ⟨by rw [E.out]; rfl, rfl⟩
 ·have E := Lib.hid (show dupB t k l = decide (t < l) by simp [dupB, ha, ht', h6, h12, hh]); clear ht'
  go_enter Tryz.func223, Tryz.ntmps223
  go_wp2_with (first | (go_at_call 222; refine (isLevel_any _ _).mono ?_; rintro e w1 ⟨rfl, rfl⟩) | (go_at_call 196; refine (isAllowed_any _ _ _).mono ?_; rintro e w1 ⟨rfl, rfl⟩) | (go_at_call 221; refine (implHasLevel_any _ _).mono ?_; rintro e w1 ⟨rfl, rfl⟩))
  go_ret; exact ⟨by rw [E.out]; rfl, rfl⟩
set_option maxHeartbeats 1000000 in
theorem specDuplicates_any (t k l : Int) (w : World) : Calls Tryz.prog 235 #[.int .i64 t, .int .i64 k, .int .i64 l] w fun e w' => e = .returned (.bool (dupB t k l)) ∧ w = w' := by
 cases ht : inB t 0 8
 ·have E := Lib.hid (show dupB t k l = false by simp only [dupB, levB, ht]; rfl)
  go_enter Tryz.func235, Tryz.ntmps235
  go_wp2_with (first | (go_at_call 81; refine (l00In_any _ _ _ _).mono ?_; rintro e w1 ⟨rfl, rfl⟩) | (go_at_call 227; refine (l10Level_any _ _ _).mono ?_; rintro e w1 ⟨rfl, rfl⟩) | (go_at_call 219; refine (specHasLevel_any _ _).mono ?_; rintro e w1 ⟨rfl, rfl⟩))
  go_ret; exact ⟨by rw [E.out]; rfl, rfl⟩
 cases ha : allowB k l
 ·have E := Lib.hid (show dupB t k l = false by simp [dupB, ha])
  go_enter Tryz.func235, Tryz.ntmps235
  go_wp2_with (first | (go_at_call 81; refine (l00In_any _ _ _ _).mono ?_; rintro e w1 ⟨rfl, rfl⟩) | (go_at_call 227; refine (l10Level_any _ _ _).mono ?_; rintro e w1 ⟨rfl, rfl⟩) | (go_at_call 219; refine (specHasLevel_any _ _).mono ?_; rintro e w1 ⟨rfl, rfl⟩))
  go_ret; exact ⟨by rw [E.out]; rfl, rfl⟩
 have ht' : levB t = true := ht; cases h6 : (k == 6)
 case true =>
  have E := Lib.hid (show dupB t k l = true by simp [dupB, ha, ht', h6])
  go_enter Tryz.func235, Tryz.ntmps235
  go_wp2_with (first | (go_at_call 81; refine (l00In_any _ _ _ _).mono ?_; rintro e w1 ⟨rfl, rfl⟩) | (go_at_call 227; refine (l10Level_any _ _ _).mono ?_; rintro e w1 ⟨rfl, rfl⟩) | (go_at_call 219; refine (specHasLevel_any _ _).mono ?_; rintro e w1 ⟨rfl, rfl⟩))
  go_ret; exact ⟨by rw [E.out]; rfl, rfl⟩
 cases h12 : (k == 12)
 case true =>
  have E := Lib.hid (show dupB t k l = true by simp [dupB, ha, ht', h12])
  go_enter Tryz.func235, Tryz.ntmps235
  go_wp2_with (first | (go_at_call 81; refine (l00In_any _ _ _ _).mono ?_; rintro e w1 ⟨rfl, rfl⟩) | (go_at_call 227; refine (l10Level_any _ _ _).mono ?_; rintro e w1 ⟨rfl, rfl⟩) | (go_at_call 219; refine (specHasLevel_any _ _).mono ?_; rintro e w1 ⟨rfl, rfl⟩))
  go_ret; exact ⟨by rw [E.out]; rfl, rfl⟩
 cases hh : hasLevB k
 ·have E := Lib.hid (show dupB t k l = false by simp [dupB, ha, ht', h6, h12, hh]); clear ht'
  go_enter Tryz.func235, Tryz.ntmps235
  go_wp2_with (first | (go_at_call 81; refine (l00In_any _ _ _ _).mono ?_; rintro e w1 ⟨rfl, rfl⟩) | (go_at_call 227; refine (l10Level_any _ _ _).mono ?_; rintro e w1 ⟨rfl, rfl⟩) | (go_at_call 219; refine (specHasLevel_any _ _).mono ?_; rintro e w1 ⟨rfl, rfl⟩))
  go_ret; exact ⟨by rw [E.out]; rfl, rfl⟩
 ·have E := Lib.hid (show dupB t k l = decide (t < l) by simp [dupB, ha, ht', h6, h12, hh]); clear ht'
  go_enter Tryz.func235, Tryz.ntmps235
  go_wp2_with (first | (go_at_call 81; refine (l00In_any _ _ _ _).mono ?_; rintro e w1 ⟨rfl, rfl⟩) | (go_at_call 227; refine (l10Level_any _ _ _).mono ?_; rintro e w1 ⟨rfl, rfl⟩) | (go_at_call 219; refine (specHasLevel_any _ _).mono ?_; rintro e w1 ⟨rfl, rfl⟩))
  go_ret; exact ⟨by rw [E.out]; rfl, rfl⟩
set_option maxHeartbeats 2000000 in
theorem classOf_any (ka la kb lb : Int) (w : World) : Calls Tryz.prog 197 #[.int .i64 ka, .int .i64 la, .int .i64 kb, .int .i64 lb] w fun e w' => e = .returned (.int .i64 (rule ka la kb lb)) ∧ w = w' := by
 by_cases h5 : ka = 5
 ·subst h5; have E := Lib.hid (show rule 5 la kb lb = 4 from rfl)
  go_enter Tryz.func197, Tryz.ntmps197
  go_wp2_with (first | (go_at_call 223; refine (implDuplicates_any _ _ _ _).mono ?_; rintro e w1 ⟨rfl, rfl⟩) | (go_at_call 224; refine (implIsConsumer_any _ _).mono ?_; rintro e w1 ⟨rfl, rfl⟩))
  go_ret; exact ⟨by rw [E.out]; rfl, rfl⟩
 by_cases h4 : ka = 4
 ·subst h4; cases h : (kb == 4)
  ·cases hd : dupB la kb lb
   ·have E := Lib.hid (show rule 4 la kb lb = 0 by simp [rule, h, hd])
    go_enter Tryz.func197, Tryz.ntmps197
    go_wp2_with (first | (go_at_call 223; refine (implDuplicates_any _ _ _ _).mono ?_; rintro e w1 ⟨rfl, rfl⟩) | (go_at_call 224; refine (implIsConsumer_any _ _).mono ?_; rintro e w1 ⟨rfl, rfl⟩))
    go_ret; exact ⟨by rw [E.out]; rfl, rfl⟩
   ·have E := Lib.hid (show rule 4 la kb lb = 3 by simp [rule, h, hd])
    go_enter Tryz.func197, Tryz.ntmps197
    go_wp2_with (first | (go_at_call 223; refine (implDuplicates_any _ _ _ _).mono ?_; rintro e w1 ⟨rfl, rfl⟩) | (go_at_call 224; refine (implIsConsumer_any _ _).mono ?_; rintro e w1 ⟨rfl, rfl⟩))
    go_ret; exact ⟨by rw [E.out]; rfl, rfl⟩
  ·cases he : (la == lb)
   ·cases hd : dupB la kb lb
    ·have E := Lib.hid (show rule 4 la kb lb = 0 by simp [rule, h, hd, he])
     go_enter Tryz.func197, Tryz.ntmps197
     go_wp2_with (first | (go_at_call 223; refine (implDuplicates_any _ _ _ _).mono ?_; rintro e w1 ⟨rfl, rfl⟩) | (go_at_call 224; refine (implIsConsumer_any _ _).mono ?_; rintro e w1 ⟨rfl, rfl⟩))
     go_ret; exact ⟨by rw [E.out]; rfl, rfl⟩
    ·have E := Lib.hid (show rule 4 la kb lb = 3 by simp [rule, h, hd, he])
     go_enter Tryz.func197, Tryz.ntmps197
     go_wp2_with (first | (go_at_call 223; refine (implDuplicates_any _ _ _ _).mono ?_; rintro e w1 ⟨rfl, rfl⟩) | (go_at_call 224; refine (implIsConsumer_any _ _).mono ?_; rintro e w1 ⟨rfl, rfl⟩))
     go_ret; exact ⟨by rw [E.out]; rfl, rfl⟩
   ·have E := Lib.hid (show rule 4 la kb lb = 2 by simp [rule, h, he])
    go_enter Tryz.func197, Tryz.ntmps197
    go_wp2_with (first | (go_at_call 223; refine (implDuplicates_any _ _ _ _).mono ?_; rintro e w1 ⟨rfl, rfl⟩) | (go_at_call 224; refine (implIsConsumer_any _ _).mono ?_; rintro e w1 ⟨rfl, rfl⟩))
    go_ret; exact ⟨by rw [E.out]; rfl, rfl⟩
 by_cases h2 : ka = 2
 ·subst h2; cases h : (kb == 3)
  ·have E := Lib.hid (show rule 2 la kb lb = 0 by simp [rule, h])
   go_enter Tryz.func197, Tryz.ntmps197
   go_wp2_with (first | (go_at_call 223; refine (implDuplicates_any _ _ _ _).mono ?_; rintro e w1 ⟨rfl, rfl⟩) | (go_at_call 224; refine (implIsConsumer_any _ _).mono ?_; rintro e w1 ⟨rfl, rfl⟩))
   go_ret; exact ⟨by rw [E.out]; rfl, rfl⟩
  ·cases he : (la == lb)
   ·have E := Lib.hid (show rule 2 la kb lb = 0 by simp [rule, h, he])
    go_enter Tryz.func197, Tryz.ntmps197
    go_wp2_with (first | (go_at_call 223; refine (implDuplicates_any _ _ _ _).mono ?_; rintro e w1 ⟨rfl, rfl⟩) | (go_at_call 224; refine (implIsConsumer_any _ _).mono ?_; rintro e w1 ⟨rfl, rfl⟩))
    go_ret; exact ⟨by rw [E.out]; rfl, rfl⟩
   ·have E := Lib.hid (show rule 2 la kb lb = 1 by simp [rule, h, he])
    go_enter Tryz.func197, Tryz.ntmps197
    go_wp2_with (first | (go_at_call 223; refine (implDuplicates_any _ _ _ _).mono ?_; rintro e w1 ⟨rfl, rfl⟩) | (go_at_call 224; refine (implIsConsumer_any _ _).mono ?_; rintro e w1 ⟨rfl, rfl⟩))
    go_ret; exact ⟨by rw [E.out]; rfl, rfl⟩
 by_cases h6 : ka = 6
 ·subst h6; cases h7 : (kb == 7)
  case true =>
   have E := Lib.hid (show rule 6 la kb lb = 5 by simp [rule, h7])
   go_enter Tryz.func197, Tryz.ntmps197
   go_wp2_with (first | (go_at_call 223; refine (implDuplicates_any _ _ _ _).mono ?_; rintro e w1 ⟨rfl, rfl⟩) | (go_at_call 224; refine (implIsConsumer_any _ _).mono ?_; rintro e w1 ⟨rfl, rfl⟩))
   go_ret; exact ⟨by rw [E.out]; rfl, rfl⟩
  cases h8 : (kb == 8)
  case true =>
   have E := Lib.hid (show rule 6 la kb lb = 5 by simp [rule, h7, h8])
   go_enter Tryz.func197, Tryz.ntmps197
   go_wp2_with (first | (go_at_call 223; refine (implDuplicates_any _ _ _ _).mono ?_; rintro e w1 ⟨rfl, rfl⟩) | (go_at_call 224; refine (implIsConsumer_any _ _).mono ?_; rintro e w1 ⟨rfl, rfl⟩))
   go_ret; exact ⟨by rw [E.out]; rfl, rfl⟩
  cases h11 : (kb == 11)
  ·have E := Lib.hid (show rule 6 la kb lb = 0 by simp [rule, h7, h8, h11])
   go_enter Tryz.func197, Tryz.ntmps197
   go_wp2_with (first | (go_at_call 223; refine (implDuplicates_any _ _ _ _).mono ?_; rintro e w1 ⟨rfl, rfl⟩) | (go_at_call 224; refine (implIsConsumer_any _ _).mono ?_; rintro e w1 ⟨rfl, rfl⟩))
   go_ret; exact ⟨by rw [E.out]; rfl, rfl⟩
  ·have E := Lib.hid (show rule 6 la kb lb = 6 by simp [rule, h7, h8, h11])
   go_enter Tryz.func197, Tryz.ntmps197
   go_wp2_with (first | (go_at_call 223; refine (implDuplicates_any _ _ _ _).mono ?_; rintro e w1 ⟨rfl, rfl⟩) | (go_at_call 224; refine (implIsConsumer_any _ _).mono ?_; rintro e w1 ⟨rfl, rfl⟩))
   go_ret; exact ⟨by rw [E.out]; rfl, rfl⟩
 by_cases h9 : ka = 9
 ·subst h9; cases h : (kb == 10)
  ·have E := Lib.hid (show rule 9 la kb lb = 0 by simp [rule, h])
   go_enter Tryz.func197, Tryz.ntmps197
   go_wp2_with (first | (go_at_call 223; refine (implDuplicates_any _ _ _ _).mono ?_; rintro e w1 ⟨rfl, rfl⟩) | (go_at_call 224; refine (implIsConsumer_any _ _).mono ?_; rintro e w1 ⟨rfl, rfl⟩))
   go_ret; exact ⟨by rw [E.out]; rfl, rfl⟩
  ·have E := Lib.hid (show rule 9 la kb lb = 6 by simp [rule, h])
   go_enter Tryz.func197, Tryz.ntmps197
   go_wp2_with (first | (go_at_call 223; refine (implDuplicates_any _ _ _ _).mono ?_; rintro e w1 ⟨rfl, rfl⟩) | (go_at_call 224; refine (implIsConsumer_any _ _).mono ?_; rintro e w1 ⟨rfl, rfl⟩))
   go_ret; exact ⟨by rw [E.out]; rfl, rfl⟩
 by_cases h12 : ka = 12
 ·subst h12; cases h : consB kb
  ·have E := Lib.hid (show rule 12 la kb lb = 0 by simp [rule, h])
   go_enter Tryz.func197, Tryz.ntmps197
   go_wp2_with (first | (go_at_call 223; refine (implDuplicates_any _ _ _ _).mono ?_; rintro e w1 ⟨rfl, rfl⟩) | (go_at_call 224; refine (implIsConsumer_any _ _).mono ?_; rintro e w1 ⟨rfl, rfl⟩))
   go_ret; exact ⟨by rw [E.out]; rfl, rfl⟩
  ·have E := Lib.hid (show rule 12 la kb lb = 7 by simp [rule, h])
   go_enter Tryz.func197, Tryz.ntmps197
   go_wp2_with (first | (go_at_call 223; refine (implDuplicates_any _ _ _ _).mono ?_; rintro e w1 ⟨rfl, rfl⟩) | (go_at_call 224; refine (implIsConsumer_any _ _).mono ?_; rintro e w1 ⟨rfl, rfl⟩))
   go_ret; exact ⟨by rw [E.out]; rfl, rfl⟩
 have e5 : (ka == 5) = false := by simpa using h5
 have e4 : (ka == 4) = false := by simpa using h4
 have e2 : (ka == 2) = false := by simpa using h2
 have e6 : (ka == 6) = false := by simpa using h6
 have e9 : (ka == 9) = false := by simpa using h9
 have e12 : (ka == 12) = false := by simpa using h12
 have E := Lib.hid (show rule ka la kb lb = 0 by simp [rule, h5, h4, h2, h6, h9, h12]); clear h5 h4 h2 h6 h9 h12
 go_enter Tryz.func197, Tryz.ntmps197
 go_wp2_with (first | (go_at_call 223; refine (implDuplicates_any _ _ _ _).mono ?_; rintro e w1 ⟨rfl, rfl⟩) | (go_at_call 224; refine (implIsConsumer_any _ _).mono ?_; rintro e w1 ⟨rfl, rfl⟩))
 go_ret; exact ⟨by rw [E.out]; rfl, rfl⟩
set_option maxHeartbeats 2000000 in
theorem l10Rule_any (ka la kb lb : Int) (w : World) : Calls Tryz.prog 213 #[.int .i64 ka, .int .i64 la, .int .i64 kb, .int .i64 lb] w fun e w' => e = .returned (.int .i64 (rule ka la kb lb)) ∧ w = w' := by
 by_cases h5 : ka = 5
 ·subst h5; have E := Lib.hid (show rule 5 la kb lb = 4 from rfl)
  go_enter Tryz.func213, Tryz.ntmps213
  go_wp2_with (first | (go_at_call 235; refine (specDuplicates_any _ _ _ _).mono ?_; rintro e w1 ⟨rfl, rfl⟩) | (go_at_call 236; refine (specIsConsumer_any _ _).mono ?_; rintro e w1 ⟨rfl, rfl⟩))
  go_ret; exact ⟨by rw [E.out]; rfl, rfl⟩
 by_cases h4 : ka = 4
 ·subst h4; cases h : (kb == 4)
  ·cases hd : dupB la kb lb
   ·have E := Lib.hid (show rule 4 la kb lb = 0 by simp [rule, h, hd])
    go_enter Tryz.func213, Tryz.ntmps213
    go_wp2_with (first | (go_at_call 235; refine (specDuplicates_any _ _ _ _).mono ?_; rintro e w1 ⟨rfl, rfl⟩) | (go_at_call 236; refine (specIsConsumer_any _ _).mono ?_; rintro e w1 ⟨rfl, rfl⟩))
    go_ret; exact ⟨by rw [E.out]; rfl, rfl⟩
   ·have E := Lib.hid (show rule 4 la kb lb = 3 by simp [rule, h, hd])
    go_enter Tryz.func213, Tryz.ntmps213
    go_wp2_with (first | (go_at_call 235; refine (specDuplicates_any _ _ _ _).mono ?_; rintro e w1 ⟨rfl, rfl⟩) | (go_at_call 236; refine (specIsConsumer_any _ _).mono ?_; rintro e w1 ⟨rfl, rfl⟩))
    go_ret; exact ⟨by rw [E.out]; rfl, rfl⟩
  ·cases he : (la == lb)
   ·cases hd : dupB la kb lb
    ·have E := Lib.hid (show rule 4 la kb lb = 0 by simp [rule, h, hd, he])
     go_enter Tryz.func213, Tryz.ntmps213
     go_wp2_with (first | (go_at_call 235; refine (specDuplicates_any _ _ _ _).mono ?_; rintro e w1 ⟨rfl, rfl⟩) | (go_at_call 236; refine (specIsConsumer_any _ _).mono ?_; rintro e w1 ⟨rfl, rfl⟩))
     go_ret; exact ⟨by rw [E.out]; rfl, rfl⟩
    ·have E := Lib.hid (show rule 4 la kb lb = 3 by simp [rule, h, hd, he])
     go_enter Tryz.func213, Tryz.ntmps213
     go_wp2_with (first | (go_at_call 235; refine (specDuplicates_any _ _ _ _).mono ?_; rintro e w1 ⟨rfl, rfl⟩) | (go_at_call 236; refine (specIsConsumer_any _ _).mono ?_; rintro e w1 ⟨rfl, rfl⟩))
     go_ret; exact ⟨by rw [E.out]; rfl, rfl⟩
   ·have E := Lib.hid (show rule 4 la kb lb = 2 by simp [rule, h, he])
    go_enter Tryz.func213, Tryz.ntmps213
    go_wp2_with (first | (go_at_call 235; refine (specDuplicates_any _ _ _ _).mono ?_; rintro e w1 ⟨rfl, rfl⟩) | (go_at_call 236; refine (specIsConsumer_any _ _).mono ?_; rintro e w1 ⟨rfl, rfl⟩))
    go_ret; exact ⟨by rw [E.out]; rfl, rfl⟩
 by_cases h2 : ka = 2
 ·subst h2; cases h : (kb == 3)
  ·have E := Lib.hid (show rule 2 la kb lb = 0 by simp [rule, h])
   go_enter Tryz.func213, Tryz.ntmps213
   go_wp2_with (first | (go_at_call 235; refine (specDuplicates_any _ _ _ _).mono ?_; rintro e w1 ⟨rfl, rfl⟩) | (go_at_call 236; refine (specIsConsumer_any _ _).mono ?_; rintro e w1 ⟨rfl, rfl⟩))
   go_ret; exact ⟨by rw [E.out]; rfl, rfl⟩
  ·cases he : (la == lb)
   ·have E := Lib.hid (show rule 2 la kb lb = 0 by simp [rule, h, he])
    go_enter Tryz.func213, Tryz.ntmps213
    go_wp2_with (first | (go_at_call 235; refine (specDuplicates_any _ _ _ _).mono ?_; rintro e w1 ⟨rfl, rfl⟩) | (go_at_call 236; refine (specIsConsumer_any _ _).mono ?_; rintro e w1 ⟨rfl, rfl⟩))
    go_ret; exact ⟨by rw [E.out]; rfl, rfl⟩
   ·have E := Lib.hid (show rule 2 la kb lb = 1 by simp [rule, h, he])
    go_enter Tryz.func213, Tryz.ntmps213
    go_wp2_with (first | (go_at_call 235; refine (specDuplicates_any _ _ _ _).mono ?_; rintro e w1 ⟨rfl, rfl⟩) | (go_at_call 236; refine (specIsConsumer_any _ _).mono ?_; rintro e w1 ⟨rfl, rfl⟩))
    go_ret; exact ⟨by rw [E.out]; rfl, rfl⟩
 by_cases h6 : ka = 6
 ·subst h6; cases h7 : (kb == 7)
  case true =>
   have E := Lib.hid (show rule 6 la kb lb = 5 by simp [rule, h7])
   go_enter Tryz.func213, Tryz.ntmps213
   go_wp2_with (first | (go_at_call 235; refine (specDuplicates_any _ _ _ _).mono ?_; rintro e w1 ⟨rfl, rfl⟩) | (go_at_call 236; refine (specIsConsumer_any _ _).mono ?_; rintro e w1 ⟨rfl, rfl⟩))
   go_ret; exact ⟨by rw [E.out]; rfl, rfl⟩
  cases h8 : (kb == 8)
  case true =>
   have E := Lib.hid (show rule 6 la kb lb = 5 by simp [rule, h7, h8])
   go_enter Tryz.func213, Tryz.ntmps213
   go_wp2_with (first | (go_at_call 235; refine (specDuplicates_any _ _ _ _).mono ?_; rintro e w1 ⟨rfl, rfl⟩) | (go_at_call 236; refine (specIsConsumer_any _ _).mono ?_; rintro e w1 ⟨rfl, rfl⟩))
   go_ret; exact ⟨by rw [E.out]; rfl, rfl⟩
  cases h11 : (kb == 11)
  ·have E := Lib.hid (show rule 6 la kb lb = 0 by simp [rule, h7, h8, h11])
   go_enter Tryz.func213, Tryz.ntmps213
   go_wp2_with (first | (go_at_call 235; refine (specDuplicates_any _ _ _ _).mono ?_; rintro e w1 ⟨rfl, rfl⟩) | (go_at_call 236; refine (specIsConsumer_any _ _).mono ?_; rintro e w1 ⟨rfl, rfl⟩))
   go_ret; exact ⟨by rw [E.out]; rfl, rfl⟩
  ·have E := Lib.hid (show rule 6 la kb lb = 6 by simp [rule, h7, h8, h11])
   go_enter Tryz.func213, Tryz.ntmps213
   go_wp2_with (first | (go_at_call 235; refine (specDuplicates_any _ _ _ _).mono ?_; rintro e w1 ⟨rfl, rfl⟩) | (go_at_call 236; refine (specIsConsumer_any _ _).mono ?_; rintro e w1 ⟨rfl, rfl⟩))
   go_ret; exact ⟨by rw [E.out]; rfl, rfl⟩
 by_cases h9 : ka = 9
 ·subst h9; cases h : (kb == 10)
  ·have E := Lib.hid (show rule 9 la kb lb = 0 by simp [rule, h])
   go_enter Tryz.func213, Tryz.ntmps213
   go_wp2_with (first | (go_at_call 235; refine (specDuplicates_any _ _ _ _).mono ?_; rintro e w1 ⟨rfl, rfl⟩) | (go_at_call 236; refine (specIsConsumer_any _ _).mono ?_; rintro e w1 ⟨rfl, rfl⟩))
   go_ret; exact ⟨by rw [E.out]; rfl, rfl⟩
  ·have E := Lib.hid (show rule 9 la kb lb = 6 by simp [rule, h])
   go_enter Tryz.func213, Tryz.ntmps213
   go_wp2_with (first | (go_at_call 235; refine (specDuplicates_any _ _ _ _).mono ?_; rintro e w1 ⟨rfl, rfl⟩) | (go_at_call 236; refine (specIsConsumer_any _ _).mono ?_; rintro e w1 ⟨rfl, rfl⟩))
   go_ret; exact ⟨by rw [E.out]; rfl, rfl⟩
 by_cases h12 : ka = 12
 ·subst h12; cases h : consB kb
  ·have E := Lib.hid (show rule 12 la kb lb = 0 by simp [rule, h])
   go_enter Tryz.func213, Tryz.ntmps213
   go_wp2_with (first | (go_at_call 235; refine (specDuplicates_any _ _ _ _).mono ?_; rintro e w1 ⟨rfl, rfl⟩) | (go_at_call 236; refine (specIsConsumer_any _ _).mono ?_; rintro e w1 ⟨rfl, rfl⟩))
   go_ret; exact ⟨by rw [E.out]; rfl, rfl⟩
  ·have E := Lib.hid (show rule 12 la kb lb = 7 by simp [rule, h])
   go_enter Tryz.func213, Tryz.ntmps213
   go_wp2_with (first | (go_at_call 235; refine (specDuplicates_any _ _ _ _).mono ?_; rintro e w1 ⟨rfl, rfl⟩) | (go_at_call 236; refine (specIsConsumer_any _ _).mono ?_; rintro e w1 ⟨rfl, rfl⟩))
   go_ret; exact ⟨by rw [E.out]; rfl, rfl⟩
 have e5 : (ka == 5) = false := by simpa using h5
 have e4 : (ka == 4) = false := by simpa using h4
 have e2 : (ka == 2) = false := by simpa using h2
 have e6 : (ka == 6) = false := by simpa using h6
 have e9 : (ka == 9) = false := by simpa using h9
 have e12 : (ka == 12) = false := by simpa using h12
 have E := Lib.hid (show rule ka la kb lb = 0 by simp [rule, h5, h4, h2, h6, h9, h12]); clear h5 h4 h2 h6 h9 h12
 go_enter Tryz.func213, Tryz.ntmps213
 go_wp2_with (first | (go_at_call 235; refine (specDuplicates_any _ _ _ _).mono ?_; rintro e w1 ⟨rfl, rfl⟩) | (go_at_call 236; refine (specIsConsumer_any _ _).mono ?_; rintro e w1 ⟨rfl, rfl⟩))
 go_ret; exact ⟨by rw [E.out]; rfl, rfl⟩
set_option maxHeartbeats 2000000 in
theorem pairOf_any (ka la kb lb : Int) (w : World) : Calls Tryz.prog 153 #[.int .i64 ka, .int .i64 la, .int .i64 kb, .int .i64 lb] w fun e w' => e = .returned (.tuple #[.int .i64 (pairClass ka la kb lb), .int .i64 (pairFirst ka la kb lb)]) ∧ w = w' := by
 cases h1 : (ka == 1)
 case true =>
  have h1' : ka = 1 := by simpa using h1
  have E1 := Lib.hid (show pairClass ka la kb lb = 0 by simp [pairClass, pairB, h1']); have E2 := Lib.hid (show pairFirst ka la kb lb = 0 by simp [pairFirst, pairB, h1']); clear h1'
  go_enter Tryz.func153, Tryz.ntmps153
  go_wp2_with (first | (go_at_call 196; refine (isAllowed_any _ _ _).mono ?_; rintro e w1 ⟨rfl, rfl⟩) | (go_at_call 197; refine (classOf_any _ _ _ _ _).mono ?_; rintro e w1 ⟨rfl, rfl⟩))
  go_ret2
  exact ⟨by rw [E1.out, E2.out]; rfl, rfl⟩
 have h1' : ka ≠ 1 := by simpa using h1
 cases h2 : (kb == 1)
 case true =>
  have h2' : kb = 1 := by simpa using h2
  have E1 := Lib.hid (show pairClass ka la kb lb = 0 by simp [pairClass, pairB, h2']); have E2 := Lib.hid (show pairFirst ka la kb lb = 0 by simp [pairFirst, pairB, h2']); clear h1' h2'
  go_enter Tryz.func153, Tryz.ntmps153
  go_wp2_with (first | (go_at_call 196; refine (isAllowed_any _ _ _).mono ?_; rintro e w1 ⟨rfl, rfl⟩) | (go_at_call 197; refine (classOf_any _ _ _ _ _).mono ?_; rintro e w1 ⟨rfl, rfl⟩))
  go_ret2
  exact ⟨by rw [E1.out, E2.out]; rfl, rfl⟩
 have h2' : kb ≠ 1 := by simpa using h2
 cases ha : allowB ka la
 ·skip
  have E1 := Lib.hid (show pairClass ka la kb lb = 0 by simp [pairClass, pairB, ha]); have E2 := Lib.hid (show pairFirst ka la kb lb = 0 by simp [pairFirst, pairB, ha]); clear h1' h2'
  go_enter Tryz.func153, Tryz.ntmps153
  go_wp2_with (first | (go_at_call 196; refine (isAllowed_any _ _ _).mono ?_; rintro e w1 ⟨rfl, rfl⟩) | (go_at_call 197; refine (classOf_any _ _ _ _ _).mono ?_; rintro e w1 ⟨rfl, rfl⟩))
  go_ret2
  exact ⟨by rw [E1.out, E2.out]; rfl, rfl⟩
 cases hb : allowB kb lb
 ·skip
  have E1 := Lib.hid (show pairClass ka la kb lb = 0 by simp [pairClass, pairB, hb]); have E2 := Lib.hid (show pairFirst ka la kb lb = 0 by simp [pairFirst, pairB, hb]); clear h1' h2'
  go_enter Tryz.func153, Tryz.ntmps153
  go_wp2_with (first | (go_at_call 196; refine (isAllowed_any _ _ _).mono ?_; rintro e w1 ⟨rfl, rfl⟩) | (go_at_call 197; refine (classOf_any _ _ _ _ _).mono ?_; rintro e w1 ⟨rfl, rfl⟩))
  go_ret2
  exact ⟨by rw [E1.out, E2.out]; rfl, rfl⟩
 cases hr : (rule ka la kb lb != 0)
 case true =>
  have hr' : rule ka la kb lb ≠ 0 := by simpa using hr
  have E1 := Lib.hid (show pairClass ka la kb lb = rule ka la kb lb by simp [pairClass, pairB, h1', h2', ha, hb, hr']); have E2 := Lib.hid (show pairFirst ka la kb lb = 1 by simp [pairFirst, pairB, h1', h2', ha, hb, hr']); clear h1' h2' hr'
  go_enter Tryz.func153, Tryz.ntmps153
  go_wp2_with (first | (go_at_call 196; refine (isAllowed_any _ _ _).mono ?_; rintro e w1 ⟨rfl, rfl⟩) | (go_at_call 197; refine (classOf_any _ _ _ _ _).mono ?_; rintro e w1 ⟨rfl, rfl⟩))
  go_ret2
  exact ⟨by rw [E1.out, E2.out]; rfl, rfl⟩
 have hr' : rule ka la kb lb = 0 := by simpa using hr
 cases hq : (rule kb lb ka la != 0)
 case true =>
  have hq' : rule kb lb ka la ≠ 0 := by simpa using hq
  have E1 := Lib.hid (show pairClass ka la kb lb = rule kb lb ka la by simp [pairClass, pairB, h1', h2', ha, hb, hr', hq']); have E2 := Lib.hid (show pairFirst ka la kb lb = 2 by simp [pairFirst, pairB, h1', h2', ha, hb, hr', hq']); clear h1' h2' hr' hq'
  go_enter Tryz.func153, Tryz.ntmps153
  go_wp2_with (first | (go_at_call 196; refine (isAllowed_any _ _ _).mono ?_; rintro e w1 ⟨rfl, rfl⟩) | (go_at_call 197; refine (classOf_any _ _ _ _ _).mono ?_; rintro e w1 ⟨rfl, rfl⟩))
  go_ret2
  exact ⟨by rw [E1.out, E2.out]; rfl, rfl⟩
 have hq' : rule kb lb ka la = 0 := by simpa using hq
 have E1 := Lib.hid (show pairClass ka la kb lb = 8 by simp [pairClass, pairB, h1', h2', ha, hb, hr', hq']); have E2 := Lib.hid (show pairFirst ka la kb lb = 0 by simp [pairFirst, pairB, h1', h2', ha, hb, hr', hq']); clear h1' h2' hr' hq'
 go_enter Tryz.func153, Tryz.ntmps153
 go_wp2_with (first | (go_at_call 196; refine (isAllowed_any _ _ _).mono ?_; rintro e w1 ⟨rfl, rfl⟩) | (go_at_call 197; refine (classOf_any _ _ _ _ _).mono ?_; rintro e w1 ⟨rfl, rfl⟩))
 go_ret2
 exact ⟨by rw [E1.out, E2.out]; rfl, rfl⟩
set_option maxHeartbeats 1000000 in
theorem l10Pair_any (ka la kb lb : Int) (w : World) : Calls Tryz.prog 212 #[.int .i64 ka, .int .i64 la, .int .i64 kb, .int .i64 lb] w fun e w' => e = .returned (.bool (pairB ka la kb lb)) ∧ w = w' := by
 cases ha : allowB ka la
 ·have E := Lib.hid (show pairB ka la kb lb = false by simp [pairB, ha])
  go_enter Tryz.func212, Tryz.ntmps212
  go_wp2_with (first | (go_at_call 227; refine (l10Level_any _ _ _).mono ?_; rintro e w1 ⟨rfl, rfl⟩))
  go_ret; exact ⟨by rw [E.out]; rfl, rfl⟩
 cases hb : allowB kb lb
 ·have E := Lib.hid (show pairB ka la kb lb = false by simp [pairB, hb])
  go_enter Tryz.func212, Tryz.ntmps212
  go_wp2_with (first | (go_at_call 227; refine (l10Level_any _ _ _).mono ?_; rintro e w1 ⟨rfl, rfl⟩))
  go_ret; exact ⟨by rw [E.out]; rfl, rfl⟩
 cases h1 : (ka != 1)
 ·have E := Lib.hid (show pairB ka la kb lb = false by simp only [pairB, ha, hb, h1]; rfl)
  go_enter Tryz.func212, Tryz.ntmps212
  go_wp2_with (first | (go_at_call 227; refine (l10Level_any _ _ _).mono ?_; rintro e w1 ⟨rfl, rfl⟩))
  go_ret; exact ⟨by rw [E.out]; rfl, rfl⟩
 have E := Lib.hid (show pairB ka la kb lb = (kb != 1) by simp only [pairB, ha, hb, h1, Bool.true_and])
 go_enter Tryz.func212, Tryz.ntmps212
 go_wp2_with (first | (go_at_call 227; refine (l10Level_any _ _ _).mono ?_; rintro e w1 ⟨rfl, rfl⟩))
 go_ret; exact ⟨by rw [E.out]; rfl, rfl⟩
set_option maxHeartbeats 1000000 in
theorem specPairClass_any (ka la kb lb : Int) (w : World) : Calls Tryz.prog 181 #[.int .i64 ka, .int .i64 la, .int .i64 kb, .int .i64 lb] w fun e w' => e = .returned (.int .i64 (pairClass ka la kb lb)) ∧ w = w' := by
 cases hp : pairB ka la kb lb
 ·have E := Lib.hid (show pairClass ka la kb lb = 0 by simp [pairClass, hp])
  go_enter Tryz.func181, Tryz.ntmps181
  go_wp2_with (first | (go_at_call 212; refine (l10Pair_any _ _ _ _ _).mono ?_; rintro e w1 ⟨rfl, rfl⟩) | (go_at_call 213; refine (l10Rule_any _ _ _ _ _).mono ?_; rintro e w1 ⟨rfl, rfl⟩))
  go_ret; exact ⟨by rw [E.out]; rfl, rfl⟩
 cases hr : (rule ka la kb lb == 0)
 ·have hr' : rule ka la kb lb ≠ 0 := by simpa using hr
  have E := Lib.hid (show pairClass ka la kb lb = rule ka la kb lb by simp [pairClass, hp, hr']); clear hr'
  go_enter Tryz.func181, Tryz.ntmps181
  go_wp2_with (first | (go_at_call 212; refine (l10Pair_any _ _ _ _ _).mono ?_; rintro e w1 ⟨rfl, rfl⟩) | (go_at_call 213; refine (l10Rule_any _ _ _ _ _).mono ?_; rintro e w1 ⟨rfl, rfl⟩))
  go_ret; exact ⟨by rw [E.out]; rfl, rfl⟩
 have hr' : rule ka la kb lb = 0 := by simpa using hr
 cases hq : (rule kb lb ka la == 0)
 ·have hq' : rule kb lb ka la ≠ 0 := by simpa using hq
  have E := Lib.hid (show pairClass ka la kb lb = rule kb lb ka la by simp [pairClass, hp, hr', hq']); clear hr' hq'
  go_enter Tryz.func181, Tryz.ntmps181
  go_wp2_with (first | (go_at_call 212; refine (l10Pair_any _ _ _ _ _).mono ?_; rintro e w1 ⟨rfl, rfl⟩) | (go_at_call 213; refine (l10Rule_any _ _ _ _ _).mono ?_; rintro e w1 ⟨rfl, rfl⟩))
  go_ret; exact ⟨by rw [E.out]; rfl, rfl⟩
 have hq' : rule kb lb ka la = 0 := by simpa using hq
 have E := Lib.hid (show pairClass ka la kb lb = 8 by simp [pairClass, hp, hr', hq']); clear hr' hq'
 go_enter Tryz.func181, Tryz.ntmps181
 go_wp2_with (first | (go_at_call 212; refine (l10Pair_any _ _ _ _ _).mono ?_; rintro e w1 ⟨rfl, rfl⟩) | (go_at_call 213; refine (l10Rule_any _ _ _ _ _).mono ?_; rintro e w1 ⟨rfl, rfl⟩))
 go_ret; exact ⟨by rw [E.out]; rfl, rfl⟩
set_option maxHeartbeats 1000000 in
theorem specFirst_any (ka la kb lb : Int) (w : World) : Calls Tryz.prog 204 #[.int .i64 ka, .int .i64 la, .int .i64 kb, .int .i64 lb] w fun e w' => e = .returned (.int .i64 (pairFirst ka la kb lb)) ∧ w = w' := by
 cases hp : pairB ka la kb lb
 ·have E := Lib.hid (show pairFirst ka la kb lb = 0 by simp [pairFirst, hp])
  go_enter Tryz.func204, Tryz.ntmps204
  go_wp2_with (first | (go_at_call 212; refine (l10Pair_any _ _ _ _ _).mono ?_; rintro e w1 ⟨rfl, rfl⟩) | (go_at_call 213; refine (l10Rule_any _ _ _ _ _).mono ?_; rintro e w1 ⟨rfl, rfl⟩))
  go_ret; exact ⟨by rw [E.out]; rfl, rfl⟩
 cases hr : (rule ka la kb lb != 0)
 case true =>
  have hr' : rule ka la kb lb ≠ 0 := by simpa using hr
  have E := Lib.hid (show pairFirst ka la kb lb = 1 by simp [pairFirst, hp, hr']); clear hr'
  go_enter Tryz.func204, Tryz.ntmps204
  go_wp2_with (first | (go_at_call 212; refine (l10Pair_any _ _ _ _ _).mono ?_; rintro e w1 ⟨rfl, rfl⟩) | (go_at_call 213; refine (l10Rule_any _ _ _ _ _).mono ?_; rintro e w1 ⟨rfl, rfl⟩))
  go_ret; exact ⟨by rw [E.out]; rfl, rfl⟩
 have hr' : rule ka la kb lb = 0 := by simpa using hr
 cases hq : (rule kb lb ka la != 0)
 case true =>
  have hq' : rule kb lb ka la ≠ 0 := by simpa using hq
  have E := Lib.hid (show pairFirst ka la kb lb = 2 by simp [pairFirst, hp, hr', hq']); clear hr' hq'
  go_enter Tryz.func204, Tryz.ntmps204
  go_wp2_with (first | (go_at_call 212; refine (l10Pair_any _ _ _ _ _).mono ?_; rintro e w1 ⟨rfl, rfl⟩) | (go_at_call 213; refine (l10Rule_any _ _ _ _ _).mono ?_; rintro e w1 ⟨rfl, rfl⟩))
  go_ret; exact ⟨by rw [E.out]; rfl, rfl⟩
 have hq' : rule kb lb ka la = 0 := by simpa using hq
 have E := Lib.hid (show pairFirst ka la kb lb = 0 by simp [pairFirst, hp, hr', hq']); clear hr' hq'
 go_enter Tryz.func204, Tryz.ntmps204
 go_wp2_with (first | (go_at_call 212; refine (l10Pair_any _ _ _ _ _).mono ?_; rintro e w1 ⟨rfl, rfl⟩) | (go_at_call 213; refine (l10Rule_any _ _ _ _ _).mono ?_; rintro e w1 ⟨rfl, rfl⟩))
 go_ret; exact ⟨by rw [E.out]; rfl, rfl⟩
end Go.Proofs.YtemalpelcdmemaaGreat
