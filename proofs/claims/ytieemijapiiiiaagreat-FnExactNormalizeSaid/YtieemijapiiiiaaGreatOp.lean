/- Core terms: two instantiations may be made in either order; the size of an instance. No program in it. -/
import Derived.Test.YtieemijapiiiiaaGreatOl
set_option linter.unusedSimpArgs false
set_option linter.unusedVariables false
namespace Go.Tr
open Go Go.RowKit
theorem shV1 {x : Int × Int × List Int} (hk : (x.1 == 1) = true) (b f : Int) : shT b (.node x []) f = .node (x.1, (bif decide (f ≤ x.2.1) then x.2.1 + b else x.2.1), x.2.2) [] := by
  rw [shT]; simp only [hk, Bool.true_and, shL]
theorem inV1 {x : Int × Int × List Int} (hk : (x.1 == 1) = true) (arg : Cor) (a : Int) : mapT (inV arg) (.node x []) a = (bif x.2.1 == a then shT a arg 0 else .node (x.1, (bif decide (a < x.2.1) then x.2.1 - 1 else x.2.1), x.2.2) []) := by
  rw [mapT_var (c := .node x []) hk]; rfl
theorem shV2 {k : Int} (hk : (k == 1) = true) (v : Int) (d : List Int) (b f : Int) : shT b (.node (k, v, d) []) f = .node (k, (bif decide (f ≤ v) then v + b else v), d) [] := shV1 (x := (k, v, d)) hk b f
theorem inV2 {k : Int} (hk : (k == 1) = true) (v : Int) (d : List Int) (arg : Cor) (a : Int) : mapT (inV arg) (.node (k, v, d) []) a = (bif v == a then shT a arg 0 else .node (k, (bif decide (a < v) then v - 1 else v), d) []) := inV1 (x := (k, v, d)) hk arg a
theorem shK1 {x : Int × Int × List Int} (hk : (x.1 == 1) = false) (b f : Int) (l : List Cor) : shT b (.node x l) f = .node x (shL b x.1 l 0 f) := by
  rw [shT]; simp only [hk, Bool.false_and, cond_false]
theorem inK1 {x : Int × Int × List Int} (hk : (x.1 == 1) = false) (arg : Cor) (a : Int) (l : List Cor) : mapT (inV arg) (.node x l) a = .node x (mapL (inV arg) x.1 l 0 a) := by
  rw [mapT_kids (c := .node x l) hk]; rfl
theorem bT {p : Prop} [Decidable p] {α : Type} {a b : α} (h : p) : (bif decide p then a else b) = a := by rw [decide_eq_true h]; rfl
theorem bF {p : Prop} [Decidable p] {α : Type} {a b : α} (h : ¬ p) : (bif decide p then a else b) = b := by rw [decide_eq_false h]; rfl
theorem eT {x y : Int} {α : Type} {a b : α} (h : x = y) : (bif x == y then a else b) = a := by rw [h, beq_self_eq_true]; rfl
theorem eF {x y : Int} {α : Type} {a b : α} (h : x ≠ y) : (bif x == y then a else b) = b := by rw [beq_eq_false_iff_ne.2 h]; rfl
mutual
theorem sh_sh (m n : Int) (hn : 0 ≤ n) : ∀ (c : Cor) (g f : Int), goodT c = true → g ≤ f → f ≤ g + m → shT n (shT m c g) f = shT (m + n) c g
  | .node x l, g, f, hg, h1, h2 => by
    cases hk : (x.1 == 1) with
    | true =>
      obtain rfl : l = [] := (good_var hg hk).2.2.2
      rw [shV1 hk, shV1 hk, shV2 hk]
      by_cases h : g ≤ x.2.1
      · rw [bT h, bT h, bT (show f ≤ x.2.1 + m by omega), show x.2.1 + m + n = x.2.1 + (m + n) by omega]
      · rw [bF h, bF h, bF (show ¬ f ≤ x.2.1 by omega)]
    | false => rw [shK1 hk, shK1 hk, shK1 hk, sh_shL m n hn x.1 l 0 g f (goodT_iff.1 hg).2 h1 h2]
theorem sh_shL (m n : Int) (hn : 0 ≤ n) (k : Int) : ∀ (l : List Cor) (i : Nat) (g f : Int), (∀ t ∈ l, goodT t = true) → g ≤ f → f ≤ g + m → shL n k (shL m k l i g) i f = shL (m + n) k l i g
  | [], i, g, f, _, _, _ => by simp [shL]
  | t :: l, i, g, f, hg, h1, h2 => by
    rw [shL, shL, shL, sh_sh m n hn t _ _ (hg t (by simp)) (by omega) (by omega), sh_shL m n hn k l (i + 1) g f (fun t ht => hg t (by simp [ht])) h1 h2]
end
mutual
theorem in_sh (arg : Cor) (m : Int) : ∀ (c : Cor) (f n : Int), goodT c = true → f ≤ n → n ≤ f + m → mapT (inV arg) (shT (m + 1) c f) n = shT m c f
  | .node x l, f, n, hg, h1, h2 => by
    cases hk : (x.1 == 1) with
    | true =>
      obtain rfl : l = [] := (good_var hg hk).2.2.2
      rw [shV1 hk, shV1 hk, inV2 hk]
      by_cases h : f ≤ x.2.1
      · rw [bT h, bT h]
        show (bif (x.2.1 + (m + 1)) == n then shT n arg 0 else Tree.node (x.1, (bif decide (n < x.2.1 + (m + 1)) then x.2.1 + (m + 1) - 1 else x.2.1 + (m + 1)), x.2.2) []) = _
        rw [eF (show x.2.1 + (m + 1) ≠ n by omega), bT (show n < x.2.1 + (m + 1) by omega), show x.2.1 + (m + 1) - 1 = x.2.1 + m by omega]
      · rw [bF h, bF h]
        show (bif x.2.1 == n then shT n arg 0 else Tree.node (x.1, (bif decide (n < x.2.1) then x.2.1 - 1 else x.2.1), x.2.2) []) = _
        rw [eF (show x.2.1 ≠ n by omega), bF (show ¬ n < x.2.1 by omega)]
    | false => rw [shK1 hk, shK1 hk, inK1 hk, in_shL arg m x.1 l 0 f n (goodT_iff.1 hg).2 h1 h2]
theorem in_shL (arg : Cor) (m k : Int) : ∀ (l : List Cor) (i : Nat) (f n : Int), (∀ t ∈ l, goodT t = true) → f ≤ n → n ≤ f + m → mapL (inV arg) k (shL (m + 1) k l i f) i n = shL m k l i f
  | [], i, f, n, _, _, _ => by simp [shL, mapL]
  | t :: l, i, f, n, hg, h1, h2 => by
    rw [shL, shL, mapL, in_sh arg m t _ _ (hg t (by simp)) (by omega) (by omega), in_shL arg m k l (i + 1) f n (fun t ht => hg t (by simp [ht])) h1 h2]
end
mutual
theorem sh_in (d : Cor) (hd : goodT d = true) (n j : Int) (hn : 0 ≤ n) (hj : 0 ≤ j) : ∀ (c : Cor) (f : Int), goodT c = true → 0 ≤ f → mapT (inV d) (shT n c f) (f + n + j) = shT n (mapT (inV d) c (f + j)) f
  | .node x l, f, hg, hf => by
    cases hk : (x.1 == 1) with
    | true =>
      obtain rfl : l = [] := (good_var hg hk).2.2.2
      rw [shV1 hk, inV1 hk, inV2 hk]
      show (bif (bif decide (f ≤ x.2.1) then x.2.1 + n else x.2.1) == f + n + j then shT (f + n + j) d 0 else Tree.node (x.1, (bif decide (f + n + j < (bif decide (f ≤ x.2.1) then x.2.1 + n else x.2.1)) then (bif decide (f ≤ x.2.1) then x.2.1 + n else x.2.1) - 1 else (bif decide (f ≤ x.2.1) then x.2.1 + n else x.2.1)), x.2.2) []) = _
      by_cases h : f ≤ x.2.1
      · rw [bT h]
        by_cases h2 : x.2.1 = f + j
        · rw [eT (show x.2.1 + n = f + n + j by omega), eT h2, sh_sh (f + j) n hn d 0 f hd hf (by omega), show f + n + j = f + j + n by omega]
        · rw [eF (show x.2.1 + n ≠ f + n + j by omega), eF h2, shV2 hk]
          by_cases h3 : f + j < x.2.1
          · rw [bT (show f + n + j < x.2.1 + n by omega), bT h3]
            show _ = Tree.node (x.1, (bif decide (f ≤ x.2.1 - 1) then x.2.1 - 1 + n else x.2.1 - 1), x.2.2) []
            rw [bT (show f ≤ x.2.1 - 1 by omega), show x.2.1 + n - 1 = x.2.1 - 1 + n by omega]
          · rw [bF (show ¬ f + n + j < x.2.1 + n by omega), bF h3]
            show _ = Tree.node (x.1, (bif decide (f ≤ x.2.1) then x.2.1 + n else x.2.1), x.2.2) []
            rw [bT h]
      · rw [bF h, eF (show x.2.1 ≠ f + n + j by omega), eF (show x.2.1 ≠ f + j by omega), bF (show ¬ f + n + j < x.2.1 by omega), bF (show ¬ f + j < x.2.1 by omega), shV2 hk]
        show _ = Tree.node (x.1, (bif decide (f ≤ x.2.1) then x.2.1 + n else x.2.1), x.2.2) []
        rw [bF h]
    | false => rw [shK1 hk, inK1 hk, inK1 hk, shK1 hk, sh_inL d hd n j hn hj x.1 l 0 f (goodT_iff.1 hg).2 hf]
theorem sh_inL (d : Cor) (hd : goodT d = true) (n j : Int) (hn : 0 ≤ n) (hj : 0 ≤ j) (k : Int) : ∀ (l : List Cor) (i : Nat) (f : Int), (∀ t ∈ l, goodT t = true) → 0 ≤ f → mapL (inV d) k (shL n k l i f) i (f + n + j) = shL n k (mapL (inV d) k l i (f + j)) i f
  | [], i, f, _, _ => by simp [shL, mapL]
  | t :: l, i, f, hg, hf => by
    have hb := bindN_b k (i : Nat)
    rw [shL, mapL, mapL, shL, show f + n + j + bindN k (i : Nat) = f + bindN k (i : Nat) + n + j by omega, show f + j + bindN k (i : Nat) = f + bindN k (i : Nat) + j by omega, sh_in d hd n j hn hj t _ (hg t (by simp)) (by omega), sh_inL d hd n j hn hj k l (i + 1) f (fun t ht => hg t (by simp [ht])) hf]
end
mutual
/-- Two instantiations, in either order. -/
theorem in_in (a d : Cor) (ha : goodT a = true) (hd : goodT d = true) (j : Int) (hj : 0 ≤ j) : ∀ (c : Cor) (n : Int), goodT c = true → 0 ≤ n → mapT (inV d) (mapT (inV a) c n) (n + j) = mapT (inV (mapT (inV d) a j)) (mapT (inV d) c (n + j + 1)) n
  | .node x l, n, hg, hn => by
    cases hk : (x.1 == 1) with
    | true =>
      obtain rfl : l = [] := (good_var hg hk).2.2.2
      rw [inV1 hk, inV1 hk]
      by_cases h : x.2.1 = n
      · rw [eT h, eF (show x.2.1 ≠ n + j + 1 by omega), bF (show ¬ n + j + 1 < x.2.1 by omega), inV2 hk]
        show _ = (bif x.2.1 == n then _ else _)
        rw [eT h]
        have := sh_in d hd n j hn hj a 0 ha (Int.le_refl _)
        rw [show (0 : Int) + n + j = n + j by omega, show (0 : Int) + j = j by omega] at this
        exact this
      · rw [eF h]
        by_cases h1 : n < x.2.1
        · rw [bT h1, inV2 hk]
          show (bif x.2.1 - 1 == n + j then shT (n + j) d 0 else Tree.node (x.1, (bif decide (n + j < x.2.1 - 1) then x.2.1 - 1 - 1 else x.2.1 - 1), x.2.2) []) = _
          by_cases h2 : x.2.1 = n + j + 1
          · rw [eT (show x.2.1 - 1 = n + j by omega), eT h2]
            rw [show n + j + 1 = (n + j) + 1 from rfl, in_sh _ (n + j) d 0 n hd hn (by omega)]
          · rw [eF (show x.2.1 - 1 ≠ n + j by omega), eF h2, inV2 hk]
            by_cases h3 : n + j + 1 < x.2.1
            · rw [bT (show n + j < x.2.1 - 1 by omega), bT h3]
              show _ = (bif x.2.1 - 1 == n then _ else Tree.node (x.1, (bif decide (n < x.2.1 - 1) then x.2.1 - 1 - 1 else x.2.1 - 1), x.2.2) [])
              rw [eF (show x.2.1 - 1 ≠ n by omega), bT (show n < x.2.1 - 1 by omega)]
            · rw [bF (show ¬ n + j < x.2.1 - 1 by omega), bF h3]
              show _ = (bif x.2.1 == n then _ else Tree.node (x.1, (bif decide (n < x.2.1) then x.2.1 - 1 else x.2.1), x.2.2) [])
              rw [eF h, bT h1]
        · rw [bF h1, inV2 hk, eF (show x.2.1 ≠ n + j + 1 by omega), bF (show ¬ n + j + 1 < x.2.1 by omega), inV2 hk]
          show (bif x.2.1 == n + j then _ else Tree.node (x.1, (bif decide (n + j < x.2.1) then x.2.1 - 1 else x.2.1), x.2.2) []) = (bif x.2.1 == n then _ else Tree.node (x.1, (bif decide (n < x.2.1) then x.2.1 - 1 else x.2.1), x.2.2) [])
          rw [eF (show x.2.1 ≠ n + j by omega), eF h, bF (show ¬ n + j < x.2.1 by omega), bF h1]
    | false => rw [inK1 hk, inK1 hk, inK1 hk, inK1 hk, in_inL a d ha hd j hj x.1 l 0 n (goodT_iff.1 hg).2 hn]
theorem in_inL (a d : Cor) (ha : goodT a = true) (hd : goodT d = true) (j : Int) (hj : 0 ≤ j) (k : Int) : ∀ (l : List Cor) (i : Nat) (n : Int), (∀ t ∈ l, goodT t = true) → 0 ≤ n → mapL (inV d) k (mapL (inV a) k l i n) i (n + j) = mapL (inV (mapT (inV d) a j)) k (mapL (inV d) k l i (n + j + 1)) i n
  | [], i, n, _, _ => by simp [mapL]
  | t :: l, i, n, hg, hn => by
    have hb := bindN_b k (i : Nat)
    rw [mapL, mapL, mapL, mapL, show n + j + bindN k (i : Nat) = n + bindN k (i : Nat) + j by omega, show n + j + 1 + bindN k (i : Nat) = n + bindN k (i : Nat) + j + 1 by omega, in_in a d ha hd j hj t _ (hg t (by simp)) (by omega), in_inL a d ha hd j hj k l (i + 1) n (fun t ht => hg t (by simp [ht])) hn]
end
mutual
theorem in_siz (arg : Cor) : ∀ (c : Cor) (a : Int), goodT c = true → sizT (mapT (inV arg) c a) + cntT c a = sizT c + cntT c a * sizT arg
  | .node x l, a, hg => by
    cases hk : (x.1 == 1) with
    | true =>
      obtain rfl : l = [] := (good_var hg hk).2.2.2
      rw [inV1 hk, cntT_var (c := .node x []) hk]
      show sizT (bif x.2.1 == a then _ else _) + (bif x.2.1 == a then 1 else 0) = sizT (.node x []) + (bif x.2.1 == a then 1 else 0) * sizT arg
      by_cases h : x.2.1 = a
      · rw [eT h, eT h, shT_siz, sizT_node]; simp [sizL]; omega
      · rw [eF h, eF h, sizT_node, sizT_node]; simp
    | false =>
      rw [inK1 hk, cntT_kids (c := .node x l) hk, sizT_node, sizT_node]
      have h := in_sizL arg x.1 l 0 a 1 1 0 0 (goodT_iff.1 hg).2 (by simp)
      rw [Nat.zero_add, Nat.zero_add] at h
      exact h
theorem in_sizL (arg : Cor) (k : Int) : ∀ (l : List Cor) (i : Nat) (a : Int) (p q r s : Nat), (∀ t ∈ l, goodT t = true) → p + r = q + s → sizL (mapL (inV arg) k l i a) p + (r + cntL k l i a) = sizL l q + (s + cntL k l i a * sizT arg)
  | [], i, a, p, q, r, s, _, h => by simp [mapL, sizL, cntL]; omega
  | t :: l, i, a, p, q, r, s, hg, h => by
    rw [mapL, sizL, sizL, cntL]
    have h1 := in_siz arg t (a + bindN k (i : Nat)) (hg t (by simp))
    have h2 := in_sizL arg k l (i + 1) a (p + sizT (mapT (inV arg) t (a + bindN k (i : Nat)))) (q + sizT t) (r + cntT t (a + bindN k (i : Nat))) (s + cntT t (a + bindN k (i : Nat)) * sizT arg) (fun t ht => hg t (by simp [ht])) (by omega)
    rw [Nat.add_mul]
    omega
end
mutual
theorem good_in (arg : Cor) (ha : goodT arg = true) : ∀ (c : Cor) (a : Int), 0 ≤ a → goodT c = true → hiT (mapT (inV arg) c a) ≤ 255 → goodT (mapT (inV arg) c a) = true
  | .node x l, a, h0, hg, hh => by
    cases hk : (x.1 == 1) with
    | true =>
      have hv := good_var hg hk
      obtain rfl : l = [] := hv.2.2.2
      rw [inV1 hk] at hh ⊢
      by_cases h : x.2.1 = a
      · rw [eT h] at hh ⊢
        exact good_sh a h0 arg 0 ha hh
      · rw [eF h]
        refine goodT_iff.2 ⟨?_, fun t ht => absurd (show t ∈ ([] : List Cor) from ht) (by simp)⟩
        have h3 := (goodT_iff.1 hg).1
        unfold nodeOk at h3 ⊢
        rw [Bool.and_eq_true] at h3 ⊢
        refine ⟨?_, h3.2⟩
        have h4 : numOk x.1 x.2.1 0 x.2.2.length = true := h3.1
        show numOk x.1 (bif decide (a < x.2.1) then x.2.1 - 1 else x.2.1) 0 x.2.2.length = true
        by_cases h5 : a < x.2.1
        · rw [bT h5]
          rw [numOk1 _ _ (eq_of_beq hk)] at h4 ⊢
          simp only [Bool.and_eq_true] at h4 ⊢
          have h6 := inC_iff.1 h4.1.1
          exact ⟨⟨inC_iff.2 ⟨by omega, by omega⟩, h4.1.2⟩, h4.2⟩
        · rw [bF h5]; exact h4
    | false =>
      rw [inK1 hk] at hh ⊢
      refine goodT_iff.2 ⟨?_, good_inL arg ha x.1 l 0 a h0 (goodT_iff.1 hg).2 fun t ht => Int.le_trans (hiL_mem (a := bif x.1 == 1 then x.2.1 else -1) ht) (by rw [hiT] at hh; exact hh)⟩
      have h3 := (goodT_iff.1 hg).1
      unfold nodeOk at h3 ⊢
      rw [Bool.and_eq_true] at h3 ⊢
      refine ⟨?_, h3.2⟩
      show numOk x.1 x.2.1 (mapL (inV arg) x.1 l 0 a).length x.2.2.length = true
      rw [mapL_len]; exact h3.1
theorem good_inL (arg : Cor) (ha : goodT arg = true) (k : Int) : ∀ (l : List Cor) (i : Nat) (a : Int), 0 ≤ a → (∀ t ∈ l, goodT t = true) → (∀ t ∈ mapL (inV arg) k l i a, hiT t ≤ 255) → ∀ t ∈ mapL (inV arg) k l i a, goodT t = true
  | [], i, a, _, _, _, t, ht => by simp [mapL] at ht
  | s :: l, i, a, h0, h1, h2, t, ht => by
    have hb := bindN_b k (i : Nat)
    rw [mapL] at ht h2
    rcases List.mem_cons.1 ht with e | ht
    · rw [e]
      exact good_in arg ha s _ (by omega) (h1 s (by simp)) (h2 _ (by simp))
    · exact good_inL arg ha k l (i + 1) a h0 (fun t ht => h1 t (by simp [ht])) (fun t ht => h2 t (by simp [ht])) t ht
end
end Go.Tr
