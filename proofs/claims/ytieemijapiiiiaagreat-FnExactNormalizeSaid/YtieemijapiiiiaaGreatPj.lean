/- Core terms: what fits; the reference's step with its code. -/
import Derived.Test.YtieemijapiiiiaaGreatPi
set_option linter.unusedSimpArgs false
set_option linter.unusedVariables false
namespace Go.Proofs.YtieemijapiiiiaaGreat
open Go Go.RowKit Go.Proofs Go.Tr
theorem okLeft : callOk Tryz.prog 56 = true := by kernel_rfl
set_option maxRecDepth 100000 in
theorem leftQ : ∀ (c : Cor) (n : Int), 0 ≤ n → n ≤ 1000 → QCall Tryz.prog 56 [.rp uCor c, .int .i64 n] (.int .i64 (leftV (sizT c) n)) := by
  refine Tree.ind (fun c ih => ?_)
  intro n h0 h1
  have hk := sizT_kids c
  have hln := sizT_len c
  have iv : ∀ (s : Nat) (m : Int), (leftV s m = m - s ∧ (s : Int) ≤ m) ∨ (leftV s m = -1 ∧ m < (s : Int)) := fun s m => by
    unfold leftV
    by_cases h : (s : Int) ≤ m
    · rw [decide_eq_true h]; exact Or.inl ⟨rfl, h⟩
    · rw [decide_eq_false h]; exact Or.inr ⟨rfl, by omega⟩
  refine QCall.intro (nt := 30) ti_ok mixed okLeft Tryz.func56 rfl rfl rfl rfl rfl ?_
  refine lp Nat (fun i => [(1, .int .i64 (leftV (sizL (c.kids.take i) 1) n)), (5, .int .i64 (i : Nat))]) (fun _ => []) (fun i => c.kids.length - i) (fun i => i ≤ c.kids.length) 0 (Nat.zero_le _) ?_ ?_
  · refine Go.Tr.hd [] rfl (And.intro ⟨?_, rfl⟩ (And.intro ⟨rfl, rfl⟩ trivial)) trivial
    show IntKind.i64.wrap (n - 1) = leftV (sizL (c.kids.take 0) 1) n
    rw [wrapI (by omega)]
    have e : sizL (c.kids.take 0) 1 = 1 := by simp [sizL]
    rw [e]
    rcases iv 1 n with h | h <;> omega
  intro i hi
  have hi : i ≤ c.kids.length := hi
  have hpre := sizL_pre c.kids i
  refine And.intro (fun q1 => ?_) (fun q1 => ?_)
  · obtain ⟨q2, q3⟩ := bif_t (a := decide (((i : Nat) : Int) < (c.kids.length : Nat))) (b := decide (0 ≤ leftV (sizL (c.kids.take i) 1) n)) q1
    have hlt : i < c.kids.length := by have := of_decide_eq_true q2; omega
    have hge0 := of_decide_eq_true q3
    have hil : 1 + i ≤ sizL (c.kids.take i) 1 := by have := sizL_len (c.kids.take i) 1; rw [List.length_take, Nat.min_eq_left (by omega)] at this; exact this
    have hmem := kidM hlt
    have h2 := sizL_take hlt
    have hlv : leftV (sizL (c.kids.take i) 1) n = n - (sizL (c.kids.take i) 1 : Nat) ∧ ((sizL (c.kids.take i) 1 : Nat) : Int) ≤ n := by
      rcases iv (sizL (c.kids.take i) 1) n with h | h
      · exact h
      · omega
    refine And.intro (show (0 : Int) ≤ (i : Nat) ∧ ((i : Nat) : Int) < (c.kids.length : Nat) by omega) ?_
    refine Or.inl (Exists.intro _ (And.intro (ih _ hmem (leftV (sizL (c.kids.take i) 1) n) hge0 (by omega)) ?_))
    refine lp_next (i + 1) hlt ?_ (by show c.kids.length - (i + 1) < c.kids.length - i; omega)
    refine Go.Tr.hd [] rfl (And.intro ⟨?_, rfl⟩ (And.intro ⟨wrapI (by omega), rfl⟩ trivial)) trivial
    show leftV (sizT (elt (dflt uCor) c.kids ((i : Nat) : Int))) (leftV (sizL (c.kids.take i) 1) n) = leftV (sizL (c.kids.take (i + 1)) 1) n
    rcases iv (sizT (elt (dflt uCor) c.kids ((i : Nat) : Int))) (leftV (sizL (c.kids.take i) 1) n) with h | h <;> rcases iv (sizL (c.kids.take (i + 1)) 1) n with h' | h' <;> omega
  · refine ⟨?_, rfl⟩
    show leftV (sizL (c.kids.take i) 1) n = leftV (sizT c) n
    have q2 := bif_f (a := decide (((i : Nat) : Int) < (c.kids.length : Nat))) (b := decide (0 ≤ leftV (sizL (c.kids.take i) 1) n)) q1
    by_cases hlt : i < c.kids.length
    · rw [decide_eq_true (show ((i : Nat) : Int) < (c.kids.length : Nat) by omega), Bool.true_and] at q2
      have hneg := of_decide_eq_false q2
      rcases iv (sizL (c.kids.take i) 1) n with h | h
      · omega
      · rcases iv (sizT c) n with h' | h' <;> omega
    · rw [List.take_of_length_le (by omega), ← hk]
theorem okFitS : callOk Tryz.prog 42 = true := by kernel_rfl
theorem fitS (c : Cor) : QCall Tryz.prog 42 [.rp uCor c] (.bool (fitN c)) := by
  have e : decide (0 ≤ leftV (sizT c) 400) = decide (sizT c ≤ 400) := by
    unfold leftV
    by_cases h : ((sizT c : Nat) : Int) ≤ 400
    · rw [decide_eq_true h, decide_eq_true (show sizT c ≤ 400 by omega)]
      show decide (0 ≤ (400 : Int) - (sizT c : Nat)) = true
      exact decide_eq_true (by omega)
    · rw [decide_eq_false h, decide_eq_false (show ¬ sizT c ≤ 400 by omega)]; rfl
  refine QCall.intro (nt := 11) ti_ok mixed okFitS Tryz.func42 rfl rfl rfl rfl rfl ?_
  refine Or.inl (Exists.intro _ (And.intro (leftQ c 400 (by decide) (by decide)) ?_))
  refine Or.inl (Exists.intro _ (And.intro (fun q => depS c (by
    have q' : decide (0 ≤ leftV (sizT c) 400) = true := q
    rw [e] at q'
    have := of_decide_eq_true q'
    omega)) ?_))
  show (bif decide (0 ≤ leftV (sizT c) 400) then decide (((depT c : Nat) : Int) ≤ 80) else false) = fitN c
  rw [e]
  unfold fitN
  rw [show decide (((depT c : Nat) : Int) ≤ 80) = decide (depT c ≤ 80) by rw [Bool.eq_iff_iff, decide_eq_true_eq, decide_eq_true_eq]; omega]
  cases decide (sizT c ≤ 400) <;> rfl
theorem fitF (c : Cor) : FCall Tryz.prog 42 [.ptr 10000 0] [.cel 10000 32 (cSV c)] (.bool (fitN c)) [.cel 10000 32 (cSV c)] :=
  FCall.of_q ti_ok [52] okFitS (by
    show QCall _ _ [.rp uCor (.node (cKd c, cVl c, cDt c) (Tree.kids c))] _
    rw [node_eta]
    exact fitS c) rfl
theorem okSt8 : callOk Tryz.prog 24 = true := by kernel_rfl
end Go.Proofs.YtieemijapiiiiaaGreat
