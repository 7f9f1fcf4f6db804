/- Core terms: a step of both sides; a machine state stays one. No program in it. -/
import Derived.Test.YtieemijapiiiiaaGreatPj
set_option linter.unusedSimpArgs false
set_option linter.unusedVariables false
namespace Go.Tr
open Go Go.RowKit
/-! ### tests that do not look at variables -/
structure Blind (g : Cor → Bool) : Prop where
  kids : ∀ x l m, g (.node x l) = g (.node x m)
  var : ∀ (k v w : Int) (d : List Int) (l : List Cor), (k == 1) = true → g (.node (k, v, d) l) = g (.node (k, w, d) l)
theorem boxV_blind : Blind boxV := ⟨fun _ _ _ => rfl, fun _ _ _ _ _ _ => rfl⟩
theorem farV_blind (n : Int) : Blind (farV n) := ⟨fun _ _ _ => rfl, fun k v w d l hk => by
  show ((k == 11 && decide (n ≤ v)) || d.any fun x => decide (n ≤ x)) = ((k == 11 && decide (n ≤ w)) || d.any fun x => decide (n ≤ x))
  rw [eq_of_beq hk]; rfl⟩
mutual
theorem any_sh {g : Cor → Bool} (hg : Blind g) (n : Int) : ∀ (c : Cor) (f : Int), anyT g (shT n c f) = anyT g c
  | .node (k, v, d) l, f => by
    rw [shT, anyT, anyT, any_shL hg n k l 0 f]
    cases hk : (k == 1) with
    | true =>
      congr 1
      rw [hg.kids _ _ l]
      exact hg.var k _ v d l hk
    | false =>
      congr 1
      rw [hg.kids _ _ l]
      simp [hk]
theorem any_shL {g : Cor → Bool} (hg : Blind g) (n k : Int) : ∀ (l : List Cor) (i : Nat) (f : Int), anyL g (shL n k l i f) = anyL g l
  | [], i, f => by simp [shL, anyL]
  | t :: l, i, f => by rw [shL, anyL, anyL, any_sh hg n t, any_shL hg n k l]
end
mutual
theorem any_in {g : Cor → Bool} (hg : Blind g) {arg : Cor} (ha : anyT g arg = false) : ∀ (c : Cor) (n : Int), goodT c = true → anyT g c = false → anyT g (mapT (inV arg) c n) = false
  | .node (k, v, d) l, n, hgo, h => by
    cases hk : (k == 1) with
    | true =>
      obtain rfl : l = [] := (good_var hgo hk).2.2.2
      rw [inV2 hk]
      by_cases hv : v = n
      · rw [eT hv, any_sh hg]; exact ha
      · rw [eF hv]
        rw [anyT] at h ⊢
        rw [hg.var k _ v d [] hk]; exact h
    | false =>
      rw [inK1 (x := (k, v, d)) hk]
      rw [anyT, Bool.or_eq_false_iff] at h ⊢
      exact ⟨by rw [hg.kids _ _ l]; exact h.1, any_inL hg ha k l 0 n (goodT_iff.1 hgo).2 h.2⟩
theorem any_inL {g : Cor → Bool} (hg : Blind g) {arg : Cor} (ha : anyT g arg = false) (k : Int) : ∀ (l : List Cor) (i : Nat) (n : Int), (∀ t ∈ l, goodT t = true) → anyL g l = false → anyL g (mapL (inV arg) k l i n) = false
  | [], i, n, _, _ => by simp [mapL, anyL]
  | t :: l, i, n, hgo, h => by
    rw [mapL]
    rw [anyL, Bool.or_eq_false_iff] at h ⊢
    exact ⟨any_in hg ha t _ (hgo t (by simp)) h.1, any_inL hg ha k l (i + 1) n (fun s hs => hgo s (by simp [hs])) h.2⟩
end
/-! ### free variables -/
theorem clV1 {x : Int × Int × List Int} (hk : (x.1 == 1) = true) (a : Int) : clT (.node x []) a = !decide (a ≤ x.2.1) := by
  rw [clT, hk]; simp [clL]
theorem clV2 {k : Int} (hk : (k == 1) = true) (v : Int) (d : List Int) (a : Int) : clT (.node (k, v, d) []) a = !decide (a ≤ v) := clV1 (x := (k, v, d)) hk a
theorem clK1 {x : Int × Int × List Int} (hk : (x.1 == 1) = false) (a : Int) (l : List Cor) : clT (.node x l) a = clL x.1 l 0 a := by
  rw [clT, hk]; simp
theorem nd {a v : Int} : (!decide (a ≤ v)) = true ↔ v < a := by simp
mutual
theorem cl_mono : ∀ (c : Cor) (a b : Int), a ≤ b → clT c a = true → clT c b = true
  | .node x l, a, b, hab, h => by
    rw [clT, Bool.and_eq_true] at h ⊢
    refine ⟨?_, cl_monoL x.1 l 0 a b hab h.2⟩
    have h1 := h.1
    cases hk : (x.1 == 1) with
    | false => simp
    | true =>
      rw [hk, Bool.true_and, nd] at h1
      rw [Bool.true_and, nd]; omega
theorem cl_monoL (k : Int) : ∀ (l : List Cor) (i : Nat) (a b : Int), a ≤ b → clL k l i a = true → clL k l i b = true
  | [], i, a, b, _, _ => by simp [clL]
  | t :: l, i, a, b, hab, h => by
    rw [clL, Bool.and_eq_true] at h ⊢
    exact ⟨cl_mono t _ _ (by omega) h.1, cl_monoL k l (i + 1) a b hab h.2⟩
end
mutual
theorem cl_sh (n a : Int) (hn : 0 ≤ n) : ∀ (c : Cor) (f : Int), goodT c = true → clT c (f + a) = true → clT (shT n c f) (f + n + a) = true
  | .node x l, f, hg, h => by
    cases hk : (x.1 == 1) with
    | true =>
      obtain rfl : l = [] := (good_var hg hk).2.2.2
      rw [shV1 hk, clV2 hk, nd]
      rw [clV1 hk, nd] at h
      by_cases hv : f ≤ x.2.1
      · rw [bT hv]; omega
      · rw [bF hv]; omega
    | false =>
      rw [shK1 hk, clK1 hk]
      rw [clK1 hk] at h
      exact cl_shL n a hn x.1 l 0 f (goodT_iff.1 hg).2 h
theorem cl_shL (n a : Int) (hn : 0 ≤ n) (k : Int) : ∀ (l : List Cor) (i : Nat) (f : Int), (∀ t ∈ l, goodT t = true) → clL k l i (f + a) = true → clL k (shL n k l i f) i (f + n + a) = true
  | [], i, f, _, _ => by simp [shL, clL]
  | t :: l, i, f, hg, h => by
    rw [shL, clL, Bool.and_eq_true]
    rw [clL, Bool.and_eq_true] at h
    refine ⟨?_, cl_shL n a hn k l (i + 1) f (fun s hs => hg s (by simp [hs])) h.2⟩
    have h1 := h.1
    rw [show f + a + bindN k (i : Nat) = f + bindN k (i : Nat) + a by omega] at h1
    have := cl_sh n a hn t (f + bindN k (i : Nat)) (hg t (by simp)) h1
    rw [show f + n + a + bindN k (i : Nat) = f + bindN k (i : Nat) + n + a by omega]
    exact this
end
mutual
theorem cl_in {arg : Cor} (ha : goodT arg = true) {a : Int} (h0 : 0 ≤ a) (hca : clT arg a = true) : ∀ (c : Cor) (n : Int), goodT c = true → 0 ≤ n → clT c (n + a + 1) = true → clT (mapT (inV arg) c n) (n + a) = true
  | .node x l, n, hg, hn, h => by
    cases hk : (x.1 == 1) with
    | true =>
      obtain rfl : l = [] := (good_var hg hk).2.2.2
      rw [inV1 hk]
      rw [clV1 hk, nd] at h
      by_cases hv : x.2.1 = n
      · rw [eT hv]
        have := cl_sh n a hn arg 0 ha (by rw [show (0 : Int) + a = a by omega]; exact hca)
        rw [show (0 : Int) + n + a = n + a by omega] at this
        exact this
      · rw [eF hv, clV2 hk, nd]
        by_cases hl : n < x.2.1
        · rw [bT hl]; omega
        · rw [bF hl]; omega
    | false =>
      rw [inK1 hk, clK1 hk]
      rw [clK1 hk] at h
      exact cl_inL ha h0 hca x.1 l 0 n (goodT_iff.1 hg).2 hn h
theorem cl_inL {arg : Cor} (ha : goodT arg = true) {a : Int} (h0 : 0 ≤ a) (hca : clT arg a = true) (k : Int) : ∀ (l : List Cor) (i : Nat) (n : Int), (∀ t ∈ l, goodT t = true) → 0 ≤ n → clL k l i (n + a + 1) = true → clL k (mapL (inV arg) k l i n) i (n + a) = true
  | [], i, n, _, _, _ => by simp [mapL, clL]
  | t :: l, i, n, hg, hn, h => by
    have hb := bindN_b k (i : Nat)
    rw [mapL, clL, Bool.and_eq_true]
    rw [clL, Bool.and_eq_true] at h
    refine ⟨?_, cl_inL ha h0 hca k l (i + 1) n (fun s hs => hg s (by simp [hs])) hn h.2⟩
    have h1 := h.1
    rw [show n + a + 1 + bindN k (i : Nat) = n + bindN k (i : Nat) + a + 1 by omega] at h1
    have := cl_in ha h0 hca t (n + bindN k (i : Nat)) (hg t (by simp)) (by omega) h1
    rw [show n + a + bindN k (i : Nat) = n + bindN k (i : Nat) + a by omega]
    exact this
end
mutual
theorem hi_cl : ∀ (c : Cor) (a : Int), 0 ≤ a → clT c a = true → hiT c ≤ a + depT c - 1
  | .node x l, a, h0, h => by
    rw [clT, Bool.and_eq_true] at h
    rw [hiT, depT]
    have hd := depL_ge l 1
    refine hi_clL x.1 l 0 a 1 _ (a + depL l 1 - 1) h0 h.2 (by omega) ?_
    cases hk : (x.1 == 1) with
    | false => show (-1 : Int) ≤ _; omega
    | true =>
      have h1 := h.1
      rw [hk, Bool.true_and, nd] at h1
      show x.2.1 ≤ _; omega
theorem hi_clL (k : Int) : ∀ (l : List Cor) (i : Nat) (a : Int) (m : Nat) (s b : Int), 0 ≤ a → clL k l i a = true → a + depL l m - 1 ≤ b → s ≤ b → hiL l s ≤ b
  | [], i, a, m, s, b, _, _, _, hs => by rw [hiL]; exact hs
  | t :: l, i, a, m, s, b, h0, h, hb, hs => by
    have hbn := bindN_b k (i : Nat)
    rw [clL, Bool.and_eq_true] at h
    rw [hiL]
    rw [depL] at hb
    have hd := depL_ge l (max m (depT t + 1))
    have h1 := hi_cl t (a + bindN k (i : Nat)) (by omega) h.1
    exact hi_clL k l (i + 1) a (max m (depT t + 1)) _ b h0 h.2 hb (by omega)
theorem depL_ge : ∀ (l : List Cor) (a : Nat), a ≤ depL l a
  | [], a => by rw [depL]; omega
  | t :: l, a => by
    rw [depL]
    have := depL_ge l (max a (depT t + 1))
    omega
end
theorem erT_any {c : Cor} : erT c = true ↔ anyT boxV c = false := by unfold erT; simp
theorem nmT_any {n : Int} {c : Cor} : nmT n c = true ↔ anyT (farV n) c = false := by unfold nmT; simp
/-- What is asked of a part of a state. -/
structure Prt (n : Int) (c : Cor) (a : Int) : Prop where
  g : goodT c = true
  cl : clT c a = true
  er : erT c = true
  nm : nmT n c = true
theorem Prt.kid {n : Int} {c : Cor} {a : Int} (h : Prt n c a) {i : Nat} (hi : i < c.kids.length) : Prt n (kidN c ((i : Nat) : Int)) (a + bindN (cKd c) (i : Nat)) := by
  have hm := kidM hi
  refine ⟨good_kid h.g hm, ?_, ?_, nm_kid h.nm hm⟩
  · have hc := h.cl
    rw [clT_eq, Bool.and_eq_true] at hc
    have := clL_all (cKd c) a c.kids 0 hc.2 i hi
    rw [Nat.zero_add] at this
    exact this
  · have he := h.er
    rw [erT_eq, Bool.and_eq_true, List.all_eq_true] at he
    exact he.2 _ hm
theorem clL_set (k a : Int) : ∀ (l : List Cor) (j i : Nat) (t : Cor), clL k l j a = true → (i < l.length → clT t (a + bindN k ((j + i : Nat) : Int)) = true) → clL k (l.set i t) j a = true
  | [], j, i, t, _, _ => by simp [clL]
  | s :: l, j, 0, t, h, ht => by
    rw [clL, Bool.and_eq_true] at h
    show clL k (t :: l) j a = true
    rw [clL, Bool.and_eq_true]
    exact ⟨by simpa using ht (by simp), h.2⟩
  | s :: l, j, i + 1, t, h, ht => by
    rw [clL, Bool.and_eq_true] at h
    show clL k (s :: l.set i t) j a = true
    rw [clL, Bool.and_eq_true]
    refine ⟨h.1, clL_set k a l (j + 1) i t h.2 fun hi => ?_⟩
    rw [show j + 1 + i = j + (i + 1) by omega]
    exact ht (by simpa using hi)
/-- A kid is another one. -/
theorem Prt.set {n : Int} {c : Cor} {a : Int} (h : Prt n c a) {i : Nat} {t : Cor} (hi : i < c.kids.length) (ht : Prt n t (a + bindN (cKd c) (i : Nat))) : Prt n (mkC (cKd c) (cVl c) (cDt c) (c.kids.set i t)) a := by
  have hset : ∀ s ∈ c.kids.set i t, s ∈ c.kids ∨ s = t := fun s hs => List.mem_or_eq_of_mem_set hs
  refine ⟨?_, ?_, ?_, ?_⟩
  · refine goodT_iff.2 ⟨?_, fun s hs => ?_⟩
    · have h3 := (goodT_iff.1 h.g).1
      unfold nodeOk at h3 ⊢
      rw [Bool.and_eq_true] at h3 ⊢
      refine ⟨?_, h3.2⟩
      show numOk (cKd c) (cVl c) (c.kids.set i t).length (cDt c).length = true
      rw [List.length_set]; exact h3.1
    · rcases hset s hs with h1 | rfl
      · exact good_kid h.g h1
      · exact ht.g
  · have hc := h.cl
    rw [clT_eq, Bool.and_eq_true] at hc ⊢
    exact ⟨hc.1, clL_set (cKd c) a c.kids 0 i t hc.2 fun _ => by rw [Nat.zero_add]; exact ht.cl⟩
  · have he := h.er
    rw [erT_eq, Bool.and_eq_true, List.all_eq_true] at he ⊢
    refine ⟨he.1, fun s hs => ?_⟩
    rcases hset s hs with h1 | rfl
    · exact he.2 s h1
    · exact ht.er
  · have he := h.nm
    rw [nmT_eq, Bool.and_eq_true, List.all_eq_true] at he ⊢
    refine ⟨he.1, fun s hs => ?_⟩
    rcases hset s hs with h1 | rfl
    · exact he.2 s h1
    · exact ht.nm
theorem Prt.mono {n : Int} {c : Cor} {a b : Int} (h : Prt n c a) (hab : a ≤ b) : Prt n c b := ⟨h.g, cl_mono c a b hab h.cl, h.er, h.nm⟩
theorem wi32_in (x : Int) : -2147483648 ≤ wi32 x ∧ wi32 x ≤ 2147483647 := by
  unfold wi32
  have h : -2147483648 ≤ IntKind.i32.wrap x ∧ IntKind.i32.wrap x ≤ 2147483647 := by
    simp only [IntKind.wrap, IntKind.signed, IntKind.bits]
    simp
    omega
  rw [wrapI (by omega)]
  exact h
theorem opN_in (op a b : Int) : -2147483648 ≤ opN op a b ∧ opN op a b ≤ 2147483647 := by
  have z0 : (-2147483648 : Int) ≤ 0 ∧ (0 : Int) ≤ 2147483647 := by decide
  have z1 : (-2147483648 : Int) ≤ 1 ∧ (1 : Int) ≤ 2147483647 := by decide
  unfold opN
  cases (op == 1)
  · cases (op == 2)
    · cases (op == 3)
      · cases (op == 4)
        · cases (op == 5)
          · cases (op == 6)
            · exact z0
            · cases (wi32 a == wi32 b)
              · exact z0
              · exact z1
          · cases decide (wi32 a < wi32 b)
            · exact z0
            · exact z1
        · cases (wi32 b == 0)
          · exact wi32_in _
          · exact z0
      · exact wi32_in _
    · exact wi32_in _
  · exact wi32_in _
theorem prt_num {n a v : Int} (h1 : -2147483648 ≤ v) (h2 : v ≤ 2147483647) : Prt n (numC v) a := by
  refine ⟨?_, ?_, ?_, ?_⟩
  · refine goodT_iff.2 ⟨?_, fun s hs => absurd (show s ∈ ([] : List Cor) from hs) (by simp)⟩
    unfold nodeOk
    rw [Bool.and_eq_true]
    refine ⟨?_, rfl⟩
    show numOk 2 v 0 0 = true
    rw [numOk2 _ _ rfl]
    simp only [Bool.and_eq_true]
    exact ⟨⟨inC_iff.2 ⟨h1, h2⟩, rfl⟩, rfl⟩
  · unfold numC; rw [clK1 rfl]; simp [clL]
  · unfold numC; rw [erT_eq]; rfl
  · unfold numC; rw [nmT_eq]; rfl
theorem prt_ref {n a v : Int} (h1 : 0 ≤ v) (h2 : v ≤ 23) (h3 : v < n) : Prt n (refC v) a := by
  refine ⟨?_, ?_, ?_, ?_⟩
  · refine goodT_iff.2 ⟨?_, fun s hs => absurd (show s ∈ ([] : List Cor) from hs) (by simp)⟩
    unfold nodeOk
    rw [Bool.and_eq_true]
    refine ⟨?_, rfl⟩
    show numOk 11 v 0 0 = true
    rw [numOk11 _ _ rfl]
    simp only [Bool.and_eq_true]
    exact ⟨⟨inC_iff.2 ⟨h1, h2⟩, rfl⟩, rfl⟩
  · unfold refC; rw [clK1 rfl]; simp [clL]
  · unfold refC; rw [erT_eq]; rfl
  · unfold refC
    rw [nmT_eq]
    show (!((true && decide (n ≤ v)) || false) && true) = true
    rw [decide_eq_false (by omega)]; rfl
theorem prt_app {n a : Int} {f x : Cor} (hf : Prt n f a) (hx : Prt n x a) : Prt n (appC f x) a := by
  refine ⟨?_, ?_, ?_, ?_⟩
  · refine goodT_iff.2 ⟨rfl, fun s hs => ?_⟩
    have hs : s ∈ [f, x] := hs
    simp at hs
    rcases hs with rfl | rfl
    · exact hf.g
    · exact hx.g
  · unfold appC
    rw [clK1 rfl]
    have e : ∀ i : Int, bindN 5 i = 0 := fun i => rfl
    simp only [clL, e, Int.add_zero, hf.cl, hx.cl, Bool.and_true]
  · unfold appC
    rw [erT_eq]
    show (true && (erT f && (erT x && true))) = true
    rw [hf.er, hx.er]; rfl
  · unfold appC
    rw [nmT_eq]
    show (true && (nmT n f && (nmT n x && true))) = true
    rw [hf.nm, hx.nm]; rfl
theorem prt_cho {n a d : Int} (h1 : 0 ≤ d) (h2 : d ≤ 23) (h3 : d < n) : ∀ (l : List Cor), (∀ t ∈ l, Prt n t a) → ∀ f : Cor, Prt n f a → Prt n (l.foldl appC f) a
  | [], _, f, hf => hf
  | t :: l, h, f, hf => prt_cho h1 h2 h3 l (fun s hs => h s (by simp [hs])) (appC f t) (prt_app hf (h t (by simp)))
end Go.Tr
