/- Core terms: facts on redexes and steps. No program in it. -/
import Derived.Test.YtieemijapiiiiaaGreatPd
set_option linter.unusedSimpArgs false
set_option linter.unusedVariables false
namespace Go.Tr
open Go Go.RowKit
theorem kind1 {c : Cor} (h : kindF c = 1) : (cKd c == 5) = true ∧ (cKd (kidN c 0) == 4) = true := by
  unfold kindF at h
  revert h
  cases (cKd c == 5) <;> cases (cKd (kidN c 0) == 4) <;> cases (cKd c == 3) <;> cases (cKd (kidN c 0) == 2 && cKd (kidN c 1) == 2) <;> cases (cKd (kidN c 0) == 11) <;> cases (cKd (kidN c 0) == 2 && cKd (kidN c 1) == 11) <;> cases (cKd c == 9 || cKd c == 10) <;> cases ((cKd c == 9 && (cKd (kidN c 0) == 8 && decide (cVl (kidN c 0) < ((cDt c).length : Nat)))) || (cKd c == 10 && cKd (kidN c 0) == 2)) <;> simp
theorem kind2 {c : Cor} (h : kindF c = 2) : (cKd c == 3) = true ∧ (cKd (kidN c 0) == 2) = true ∧ (cKd (kidN c 1) == 2) = true := by
  rw [← Bool.and_eq_true (cKd (kidN c 0) == 2)]
  unfold kindF at h
  revert h
  cases (cKd c == 5) <;> cases (cKd (kidN c 0) == 4) <;> cases (cKd c == 3) <;> cases (cKd (kidN c 0) == 2 && cKd (kidN c 1) == 2) <;> cases (cKd (kidN c 0) == 11) <;> cases (cKd (kidN c 0) == 2 && cKd (kidN c 1) == 11) <;> cases (cKd c == 9 || cKd c == 10) <;> cases ((cKd c == 9 && (cKd (kidN c 0) == 8 && decide (cVl (kidN c 0) < ((cDt c).length : Nat)))) || (cKd c == 10 && cKd (kidN c 0) == 2)) <;> simp
theorem kind3 {c : Cor} (h : kindF c = 3) : ((cKd c == 9) = true ∧ (cKd (kidN c 0) == 8) = true ∧ cVl (kidN c 0) < ((cDt c).length : Nat)) ∨ ((cKd c == 10) = true ∧ (cKd (kidN c 0) == 2) = true) := by
  have h2 : ((cKd c == 9 && (cKd (kidN c 0) == 8 && decide (cVl (kidN c 0) < ((cDt c).length : Nat)))) || (cKd c == 10 && cKd (kidN c 0) == 2)) = true := by
    unfold kindF at h
    revert h
    cases (cKd c == 5) <;> cases (cKd (kidN c 0) == 4) <;> cases (cKd c == 3) <;> cases (cKd (kidN c 0) == 2 && cKd (kidN c 1) == 2) <;> cases (cKd (kidN c 0) == 11) <;> cases (cKd (kidN c 0) == 2 && cKd (kidN c 1) == 11) <;> cases (cKd c == 9 || cKd c == 10) <;> cases ((cKd c == 9 && (cKd (kidN c 0) == 8 && decide (cVl (kidN c 0) < ((cDt c).length : Nat)))) || (cKd c == 10 && cKd (kidN c 0) == 2)) <;> simp
  simpa only [Bool.or_eq_true, Bool.and_eq_true, decide_eq_true_eq] using h2
theorem kind4 {c : Cor} (h : kindF c = 4) : ((cKd c == 5) = true ∧ (cKd (kidN c 0) == 11) = true) ∨ ((cKd c == 3) = true ∧ ((cKd (kidN c 0) == 11) = true ∨ ((cKd (kidN c 0) == 2) = true ∧ (cKd (kidN c 1) == 11) = true))) ∨ (((cKd c == 9) = true ∨ (cKd c == 10) = true) ∧ (cKd (kidN c 0) == 11) = true) := by
  have h2 : ((cKd c == 5 && cKd (kidN c 0) == 11) || ((cKd c == 3 && (cKd (kidN c 0) == 11 || (cKd (kidN c 0) == 2 && cKd (kidN c 1) == 11))) || ((cKd c == 9 || cKd c == 10) && cKd (kidN c 0) == 11))) = true := by
    unfold kindF at h
    revert h
    cases (cKd c == 5) <;> cases (cKd (kidN c 0) == 4) <;> cases (cKd c == 3) <;> cases (cKd (kidN c 0) == 2 && cKd (kidN c 1) == 2) <;> cases (cKd (kidN c 0) == 11) <;> cases (cKd (kidN c 0) == 2 && cKd (kidN c 1) == 11) <;> cases (cKd c == 9 || cKd c == 10) <;> cases ((cKd c == 9 && (cKd (kidN c 0) == 8 && decide (cVl (kidN c 0) < ((cDt c).length : Nat)))) || (cKd c == 10 && cKd (kidN c 0) == 2)) <;> simp
  simpa only [Bool.or_eq_true, Bool.and_eq_true] using h2
theorem kind_all (c : Cor) : kindF c = 0 ∨ kindF c = 1 ∨ kindF c = 2 ∨ kindF c = 3 ∨ kindF c = 4 := by
  unfold kindF
  cases (cKd c == 5) <;> cases (cKd (kidN c 0) == 4) <;> cases (cKd c == 3) <;> cases (cKd (kidN c 0) == 2 && cKd (kidN c 1) == 2) <;> cases (cKd (kidN c 0) == 11) <;> cases (cKd (kidN c 0) == 2 && cKd (kidN c 1) == 11) <;> cases (cKd c == 9 || cKd c == 10) <;> cases ((cKd c == 9 && (cKd (kidN c 0) == 8 && decide (cVl (kidN c 0) < ((cDt c).length : Nat)))) || (cKd c == 10 && cKd (kidN c 0) == 2)) <;> simp
theorem kidM {c : Cor} {i : Nat} (h : i < c.kids.length) : kidN c ((i : Nat) : Int) ∈ c.kids := eltM h
/-- Where the definition stands: a name, among the kids. -/
theorem at_ok {c : Cor} (hg : goodT c = true) (h : kindF c = 4) : ∃ i : Nat, atC c = (i : Nat) ∧ i < c.kids.length ∧ (cKd (kidN c ((i : Nat) : Int)) == 11) = true := by
  cases h0 : (cKd (kidN c 0) == 11) with
  | true =>
    refine ⟨0, by unfold atC; rw [h0]; rfl, ?_, h0⟩
    rcases kind4 h with ⟨a, _⟩ | ⟨a, _⟩ | ⟨a | a, _⟩
    · have := ar5 hg a; omega
    · have := ar3 hg a; omega
    · have := ar9 hg a; omega
    · have := ar10 hg a; omega
  | false =>
    refine ⟨1, by unfold atC; rw [h0]; rfl, ?_, ?_⟩
    · rcases kind4 h with ⟨_, a⟩ | ⟨a, _⟩ | ⟨_, a⟩
      · rw [h0] at a; cases a
      · have := ar3 hg a; omega
      · rw [h0] at a; cases a
    · rcases kind4 h with ⟨_, a⟩ | ⟨_, a | a⟩ | ⟨_, a⟩
      · rw [h0] at a; cases a
      · rw [h0] at a; cases a
      · exact a.2
      · rw [h0] at a; cases a
theorem nm_kid {n : Int} {c k : Cor} (h : nmT n c = true) (hk : k ∈ c.kids) : nmT n k = true := by
  rw [nmT_eq, Bool.and_eq_true, List.all_eq_true] at h
  exact h.2 k hk
theorem nm_ref {n : Int} {c : Cor} (h : nmT n c = true) (hk : (cKd c == 11) = true) : cVl c < n := by
  rw [nmT_eq, Bool.and_eq_true] at h
  have h1 := h.1
  unfold farV at h1
  rw [hk, Bool.true_and, Bool.not_eq_true', Bool.or_eq_false_iff] at h1
  have := of_decide_eq_false h1.1
  omega
theorem good_kid {c k : Cor} (h : goodT c = true) (hk : k ∈ c.kids) : goodT k = true := (goodT_iff.1 h).2 k hk
theorem okC_kid {c k : Cor} (h : okC c = true) (hk : k ∈ c.kids) : okC k = true := by
  obtain ⟨h1, h2, h3⟩ := okC_iff.1 h
  have h4 := (depT_iff.1 h2).2 k hk
  have h5 := sizT_kid hk
  exact okC_iff.2 ⟨good_kid h1 hk, by omega, by omega⟩
theorem stepL_none {b : Bok} : ∀ {l : List Cor}, (∀ t ∈ l, stepT b t = none) → stepL b l = none
  | [], _ => by rw [stepL]
  | t :: l, h => by
    rw [stepL, h t (by simp), stepL_none fun s hs => h s (by simp [hs])]
theorem stepL_some {b : Bok} : ∀ {l : List Cor} {i : Nat} {t' : Cor} {k : Int} (hi : i < l.length), (∀ t ∈ l.take i, stepT b t = none) → stepT b (elt (dflt uCor) l ((i : Nat) : Int)) = some (t', k) → stepL b l = some (l.set i t', k)
  | [], i, t', k, hi, _, _ => by simp at hi
  | t :: l, 0, t', k, hi, _, h => by
    have h : stepT b t = some (t', k) := by simpa [elt] using h
    rw [stepL, h]; rfl
  | t :: l, i + 1, t', k, hi, h1, h => by
    have hi' : i < l.length := by simpa using hi
    rw [eltN hi] at h
    have h2 := stepL_some (b := b) (l := l) (i := i) (t' := t') (k := k) hi' (fun s hs => h1 s (by rw [List.take_succ_cons]; simp [hs])) (by rw [eltN hi']; exact h)
    rw [stepL, h1 t (by rw [List.take_succ_cons]; simp), h2]; rfl
theorem stepT_red {b : Bok} {c : Cor} (h : (kindF c != 0) = true) : stepT b c = some (conC b (kindF c) c, kindF c) := by
  cases c with | node x l => rw [stepT, h]; rfl
theorem stepT_kids {b : Bok} {c : Cor} (h : (kindF c != 0) = false) : stepT b c = match stepL b c.kids with
    | some (l', k) => some (.node (cKd c, cVl c, cDt c) l', k)
    | none => none := by
  cases c with | node x l => rw [stepT, h]; rfl
mutual
theorem step_kind {b : Bok} : ∀ {c t : Cor} {k : Int}, stepT b c = some (t, k) → k = 1 ∨ k = 2 ∨ k = 3 ∨ k = 4
  | .node x l, t, k, h => by
    rw [stepT] at h
    cases hk : (kindF (.node x l) != 0) with
    | true =>
      rw [hk] at h
      have h : some (conC b (kindF (.node x l)) (.node x l), kindF (.node x l)) = some (t, k) := h
      injection h with h
      injection h with _ h
      rw [← h]
      have := kind_all (.node x l)
      have h0 : kindF (.node x l) ≠ 0 := by simpa using hk
      omega
    | false =>
      rw [hk] at h
      cases hl : stepL b l with
      | none => rw [hl] at h; cases h
      | some r =>
        obtain ⟨l', k'⟩ := r
        rw [hl] at h
        have h : some (Tree.node x l', k') = some (t, k) := h
        injection h with h
        injection h with _ h
        rw [← h]
        exact stepL_kind hl
theorem stepL_kind {b : Bok} : ∀ {l l' : List Cor} {k : Int}, stepL b l = some (l', k) → k = 1 ∨ k = 2 ∨ k = 3 ∨ k = 4
  | [], l', k, h => by rw [stepL] at h; cases h
  | t :: l, l', k, h => by
    rw [stepL] at h
    cases ht : stepT b t with
    | some r =>
      obtain ⟨t', k'⟩ := r
      rw [ht] at h
      have h : some (t' :: l, k') = some (l', k) := h
      injection h with h
      injection h with _ h
      rw [← h]
      exact step_kind ht
    | none =>
      rw [ht] at h
      cases hl : stepL b l with
      | none => rw [hl] at h; cases h
      | some r =>
        obtain ⟨m, k'⟩ := r
        rw [hl] at h
        have h : some (t :: m, k') = some (l', k) := h
        injection h with h
        injection h with _ h
        rw [← h]
        exact stepL_kind hl
end
theorem cho_take (d : Int) {l : List Cor} {i : Nat} (h : i < l.length) : choC d (l.take (i + 1)) = appC (choC d (l.take i)) (elt (dflt uCor) l ((i : Nat) : Int)) := by
  unfold choC
  rw [takeE (d := dflt uCor) h, List.foldl_append]; rfl
end Go.Tr
