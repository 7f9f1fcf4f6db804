/- Core terms: shifts add up, are undone, and what is bound is not counted. No program in it. -/
import Derived.Test.YtieemijapiiiiaaGreatOa
set_option linter.unusedSimpArgs false
set_option linter.unusedVariables false
namespace Go.Tr
open Go Go.RowKit
mutual
theorem shT_add (a b : Int) (ha : 0 ≤ a) : ∀ (c : Cor) (f : Int), shT b (shT a c f) f = shT (a + b) c f
  | .node x l, f => by
    rw [shT, shT, shT]
    show Tree.node (x.1, (bif x.1 == 1 && decide (f ≤ (bif x.1 == 1 && decide (f ≤ x.2.1) then x.2.1 + a else x.2.1)) then (bif x.1 == 1 && decide (f ≤ x.2.1) then x.2.1 + a else x.2.1) + b else (bif x.1 == 1 && decide (f ≤ x.2.1) then x.2.1 + a else x.2.1)), x.2.2) (shL b x.1 (shL a x.1 l 0 f) 0 f) = _
    rw [shL_add a b ha]
    cases hk : (x.1 == 1) with
    | false => rfl
    | true =>
      by_cases h : f ≤ x.2.1
      · simp only [Bool.true_and, decide_eq_true h, cond_true]
        rw [decide_eq_true (by omega)]
        simp only [cond_true]
        rw [Int.add_assoc]
      · simp only [Bool.true_and, decide_eq_false h, cond_false]
theorem shL_add (a b : Int) (ha : 0 ≤ a) (k : Int) : ∀ (l : List Cor) (i : Nat) (f : Int), shL b k (shL a k l i f) i f = shL (a + b) k l i f
  | [], i, f => by simp [shL]
  | t :: l, i, f => by rw [shL, shL, shL, shT_add a b ha t, shL_add a b ha k l]
end
mutual
theorem cnt_ge (a : Int) (ha : 0 ≤ a) : ∀ (c : Cor) (f n : Int), f ≤ n → cntT (shT a c f) (n + a) = cntT c n
  | .node x l, f, n, h => by
    rw [shT, cntT, cntT]
    cases hk : (x.1 == 1) with
    | false =>
      have := cntL_ge a ha x.1 l 0 f n h
      simpa using this
    | true =>
      simp only [Bool.true_and, cond_true]
      by_cases h1 : f ≤ x.2.1
      · simp only [decide_eq_true h1, cond_true]
        rw [show (x.2.1 + a == n + a) = (x.2.1 == n) by rw [Bool.eq_iff_iff, beq_iff_eq, beq_iff_eq]; omega]
      · simp only [decide_eq_false h1, cond_false]
        rw [show (x.2.1 == n + a) = (x.2.1 == n) by rw [Bool.eq_iff_iff, beq_iff_eq, beq_iff_eq]; omega]
theorem cntL_ge (a : Int) (ha : 0 ≤ a) (k : Int) : ∀ (l : List Cor) (i : Nat) (f n : Int), f ≤ n → cntL k (shL a k l i f) i (n + a) = cntL k l i n
  | [], i, f, n, h => by simp [shL, cntL]
  | t :: l, i, f, n, h => by
    rw [shL, cntL, cntL, cntL_ge a ha k l (i + 1) f n h, show n + a + bindN k (i : Nat) = n + bindN k (i : Nat) + a by omega, cnt_ge a ha t (f + bindN k (i : Nat)) (n + bindN k (i : Nat)) (by omega)]
end
mutual
theorem cnt_lt (a : Int) (ha : 0 ≤ a) : ∀ (c : Cor) (f n : Int), n < f → cntT (shT a c f) n = cntT c n
  | .node x l, f, n, h => by
    rw [shT, cntT, cntT]
    cases hk : (x.1 == 1) with
    | false =>
      have := cntL_lt a ha x.1 l 0 f n h
      simpa using this
    | true =>
      simp only [Bool.true_and, cond_true]
      by_cases h1 : f ≤ x.2.1
      · simp only [decide_eq_true h1, cond_true]
        rw [show (x.2.1 + a == n) = (x.2.1 == n) by rw [Bool.eq_iff_iff, beq_iff_eq, beq_iff_eq]; omega]
      · simp only [decide_eq_false h1, cond_false]
theorem cntL_lt (a : Int) (ha : 0 ≤ a) (k : Int) : ∀ (l : List Cor) (i : Nat) (f n : Int), n < f → cntL k (shL a k l i f) i n = cntL k l i n
  | [], i, f, n, h => by simp [shL, cntL]
  | t :: l, i, f, n, h => by
    rw [shL, cntL, cntL, cntL_lt a ha k l (i + 1) f n h, cnt_lt a ha t (f + bindN k (i : Nat)) (n + bindN k (i : Nat)) (by omega)]
end
mutual
theorem cnt_in (a : Int) : ∀ (c : Cor) (f n : Int), f ≤ n → n < f + a → cntT (shT a c f) n = 0
  | .node x l, f, n, h1, h2 => by
    rw [shT, cntT]
    cases hk : (x.1 == 1) with
    | false =>
      have := cntL_in a x.1 l 0 f n h1 h2
      simpa using this
    | true =>
      simp only [Bool.true_and, cond_true]
      by_cases h3 : f ≤ x.2.1
      · simp only [decide_eq_true h3, cond_true]
        rw [show (x.2.1 + a == n) = false by rw [beq_eq_false_iff_ne]; omega]; rfl
      · simp only [decide_eq_false h3, cond_false]
        rw [show (x.2.1 == n) = false by rw [beq_eq_false_iff_ne]; omega]; rfl
theorem cntL_in (a k : Int) : ∀ (l : List Cor) (i : Nat) (f n : Int), f ≤ n → n < f + a → cntL k (shL a k l i f) i n = 0
  | [], i, f, n, _, _ => by simp [shL, cntL]
  | t :: l, i, f, n, h1, h2 => by
    rw [shL, cntL, cntL_in a k l (i + 1) f n h1 h2, cnt_in a t (f + bindN k (i : Nat)) (n + bindN k (i : Nat)) (by omega) (by omega)]
end
theorem hiL_mem {l : List Cor} {a : Int} {k : Cor} (h : k ∈ l) : hiT k ≤ hiL l a := by
  induction l generalizing a with
  | nil => simp at h
  | cons t l ih =>
    rw [hiL]
    rcases List.mem_cons.1 h with rfl | h
    · have := hiL_ge l (max a (hiT k)); omega
    · exact ih h
mutual
theorem good_sh (b : Int) (hb : 0 ≤ b) : ∀ (c : Cor) (f : Int), goodT c = true → hiT (shT b c f) ≤ 255 → goodT (shT b c f) = true
  | .node x l, f, hg, hh => by
    obtain ⟨h1, h2⟩ := goodT_iff.1 hg
    rw [shT] at hh ⊢
    have hh2 := hh
    rw [hiT] at hh
    refine goodT_iff.2 ⟨?_, goodL_sh b hb x.1 l 0 f h2 fun t ht => Int.le_trans (hiL_mem ht) hh⟩
    unfold nodeOk at h1 ⊢
    rw [Bool.and_eq_true] at h1 ⊢
    refine ⟨?_, h1.2⟩
    show numOk x.1 (bif x.1 == 1 && decide (f ≤ x.2.1) then x.2.1 + b else x.2.1) (shL b x.1 l 0 f).length x.2.2.length = true
    rw [shL_len]
    have h3 : numOk x.1 x.2.1 l.length x.2.2.length = true := h1.1
    cases hk : (x.1 == 1) with
    | false => exact h3
    | true =>
      rw [hk] at hh
      rw [numOk1 _ _ (eq_of_beq hk)] at h3 ⊢
      simp only [Bool.and_eq_true] at h3 ⊢
      refine ⟨⟨inC_iff.2 ?_, h3.1.2⟩, h3.2⟩
      have h4 := inC_iff.1 h3.1.1
      have h5 := hiL_ge (shL b x.1 l 0 f) (bif true && decide (f ≤ x.2.1) then x.2.1 + b else x.2.1)
      by_cases h6 : f ≤ x.2.1
      · simp only [decide_eq_true h6, Bool.true_and, cond_true] at hh h5 ⊢
        omega
      · simp only [decide_eq_false h6, Bool.and_false, cond_false]
        omega
theorem goodL_sh (b : Int) (hb : 0 ≤ b) (k : Int) : ∀ (l : List Cor) (i : Nat) (f : Int), (∀ t ∈ l, goodT t = true) → (∀ t ∈ shL b k l i f, hiT t ≤ 255) → ∀ t ∈ shL b k l i f, goodT t = true
  | [], i, f, _, _, t, ht => by simp [shL] at ht
  | s :: l, i, f, h1, h2, t, ht => by
    rw [shL] at ht h2
    rcases List.mem_cons.1 ht with e | ht
    · rw [e]
      exact good_sh b hb s _ (h1 s (by simp)) (h2 _ (by simp))
    · exact goodL_sh b hb k l (i + 1) f (fun t ht => h1 t (by simp [ht])) (fun t ht => h2 t (by simp [ht])) t ht
end
mutual
/-- A shift by one is undone by an instantiation. -/
theorem inst_sh (arg : Cor) : ∀ (c : Cor) (a : Int), goodT c = true → mapT (inV arg) (shT 1 c a) a = c
  | .node x l, a, hg => by
    cases hk : (x.1 == 1) with
    | true =>
      have hv := good_var hg hk
      have hl : l = [] := hv.2.2.2
      subst hl
      rw [mapT_var (c := shT 1 (.node x []) a) (by rw [shT]; exact hk)]
      rw [shT]
      simp only [hk, Bool.true_and, shL]
      unfold inV
      by_cases h : a ≤ x.2.1
      · simp only [decide_eq_true h, cond_true]
        show (bif x.2.1 + 1 == a then shT a arg 0 else Tree.node (x.1, (bif decide (a < x.2.1 + 1) then x.2.1 + 1 - 1 else x.2.1 + 1), x.2.2) []) = Tree.node (x.1, x.2.1, x.2.2) []
        rw [show (x.2.1 + 1 == a) = false by rw [beq_eq_false_iff_ne]; omega, decide_eq_true (by omega)]
        simp only [cond_true, cond_false]
        rw [show x.2.1 + 1 - 1 = x.2.1 by omega]
      · simp only [decide_eq_false h, cond_false]
        show (bif x.2.1 == a then shT a arg 0 else Tree.node (x.1, (bif decide (a < x.2.1) then x.2.1 - 1 else x.2.1), x.2.2) []) = Tree.node (x.1, x.2.1, x.2.2) []
        rw [show (x.2.1 == a) = false by rw [beq_eq_false_iff_ne]; omega, decide_eq_false (by omega)]
        rfl
    | false =>
      rw [mapT_kids (c := shT 1 (.node x l) a) (by rw [shT]; exact hk), shT]
      simp only [hk, Bool.false_and, cond_false]
      show Tree.node (x.1, x.2.1, x.2.2) (mapL (inV arg) x.1 (shL 1 x.1 l 0 a) 0 a) = _
      rw [instL_sh arg x.1 l 0 a (goodT_iff.1 hg).2]
theorem instL_sh (arg : Cor) (k : Int) : ∀ (l : List Cor) (i : Nat) (a : Int), (∀ t ∈ l, goodT t = true) → mapL (inV arg) k (shL 1 k l i a) i a = l
  | [], i, a, _ => by simp [shL, mapL]
  | t :: l, i, a, h => by rw [shL, mapL, inst_sh arg t _ (h t (by simp)), instL_sh arg k l (i + 1) a fun t ht => h t (by simp [ht])]
end
end Go.Tr
