/- Kinds, levels and classes of agents as plain functions. No program in it. -/
import Derived.Test.YtmmdkchhahnenaaArith
set_option linter.unusedSimpArgs false
set_option linter.unusedVariables false
namespace Go.Tr
open Go Go.RowKit

def kindB (k : Int) : Bool := inB k 1 12
def hasLevB (k : Int) : Bool := kindB k && k != 1 && k != 5 && k != 6
def levB (n : Int) : Bool := inB n 0 8
def allowB (k l : Int) : Bool := kindB k && (l == 0 || (hasLevB k && levB l))
def consB (k : Int) : Bool := k == 3 || k == 7 || k == 8 || k == 10 || k == 11
def dupB (t k l : Int) : Bool := levB t && allowB k l && (k == 6 || k == 12 || (hasLevB k && decide (t < l)))
def rule (ka la kb lb : Int) : Int :=
  if ka = 5 then 4
  else if ka = 4 then (if kb == 4 && la == lb then 2 else if dupB la kb lb then 3 else 0)
  else if ka = 2 then (if kb == 3 && la == lb then 1 else 0)
  else if ka = 6 then (if kb == 7 || kb == 8 then 5 else if kb == 11 then 6 else 0)
  else if ka = 9 then (if kb == 10 then 6 else 0)
  else if ka = 12 then (if consB kb then 7 else 0)
  else 0
def pairB (ka la kb lb : Int) : Bool := allowB ka la && allowB kb lb && ka != 1 && kb != 1
def pairClass (ka la kb lb : Int) : Int := if pairB ka la kb lb then (if rule ka la kb lb = 0 then (if rule kb lb ka la = 0 then 8 else rule kb lb ka la) else rule ka la kb lb) else 0
def pairFirst (ka la kb lb : Int) : Int := if pairB ka la kb lb then (if rule ka la kb lb = 0 then (if rule kb lb ka la = 0 then 0 else 2) else 1) else 0
def portsOf (k f : Int) : Int :=
  if k = 9 then (if inB f 0 3 then f + 1 else 0) else if f = 0 then
    (if k = 1 ∨ k = 5 ∨ k = 6 ∨ k = 12 then 1 else if k = 8 ∨ k = 10 ∨ k = 11 then 2 else if k = 2 ∨ k = 3 ∨ k = 4 ∨ k = 7 then 3 else 0) else 0

theorem kind_cases {k : Int} (h : kindB k = true) : k = 1 ∨ k = 2 ∨ k = 3 ∨ k = 4 ∨ k = 5 ∨ k = 6 ∨ k = 7 ∨ k = 8 ∨ k = 9 ∨ k = 10 ∨ k = 11 ∨ k = 12 := by
  have := inB_t h; omega
theorem allow_of_kind_f {k l : Int} (h : kindB k = false) : allowB k l = false := by simp [allowB, h]
theorem hasLev_of_kind_f {k : Int} (h : kindB k = false) : hasLevB k = false := by simp [hasLevB, h]
theorem rule_range (ka la kb lb : Int) : 0 ≤ rule ka la kb lb ∧ rule ka la kb lb ≤ 7 := by
  unfold rule; (repeat' split) <;> omega
theorem dup_fan {i k : Int} (h : dupB i 4 k = true) : i < k := by
  simp only [dupB, Bool.and_eq_true, Bool.or_eq_true] at h
  obtain ⟨_, h⟩ := h
  rcases h with (h | h) | h
  · exact absurd h (by decide)
  · exact absurd h (by decide)
  · simpa using h.2
theorem dup_kind {i b k : Int} (h : dupB i b k = true) : b ≠ 5 := by
  rintro rfl
  simp [dupB, hasLevB] at h
theorem rule_both {ka la kb lb : Int} (h1 : rule ka la kb lb ≠ 0) (h2 : rule kb lb ka la ≠ 0) : rule ka la kb lb = rule kb lb ka la ∧ (rule ka la kb lb = 2 ∨ rule ka la kb lb = 4) := by
  by_cases a5 : ka = 5
  · subst a5
    by_cases b5 : kb = 5
    · subst b5; simp [rule]
    · exfalso
      revert h2
      unfold rule
      rw [if_neg b5]
      split
      · rw [if_neg (by simp), if_neg (fun h => dup_kind h rfl)]; simp
      · simp [consB]
  by_cases b5 : kb = 5
  · subst b5
    exfalso
    revert h1
    unfold rule
    rw [if_neg a5]
    split
    · rw [if_neg (by simp), if_neg (fun h => dup_kind h rfl)]; simp
    · simp [consB]
  by_cases a4 : ka = 4
  · subst a4
    by_cases b4 : kb = 4
    · subst b4
      by_cases e : la = lb
      · subst e; simp [rule]
      · exfalso
        have e' : ¬ lb = la := fun h => e h.symm
        simp [rule, e, e'] at h1 h2
        have := dup_fan h1
        have := dup_fan h2
        omega
    · exfalso
      revert h2
      unfold rule
      simp [b5, b4, consB]
  by_cases b4 : kb = 4
  · subst b4
    exfalso
    revert h1
    unfold rule
    simp [a5, a4, consB]
  exfalso
  revert h1 h2
  unfold rule
  simp only [a5, b5, a4, b4, if_false]
  by_cases a2 : ka = 2
  · subst a2; simp [consB]
    try (intro h _; subst h; simp)
  by_cases a6 : ka = 6
  · subst a6; simp [consB]
    try
      split
      · rename_i h
        rcases h with rfl | rfl <;> simp
      · split
        · rename_i h; subst h; simp
        · simp
  by_cases a9 : ka = 9
  · subst a9; simp [consB]
    try (intro h; subst h; simp)
  by_cases a12 : ka = 12
  · subst a12
    intro h
    have hc : consB kb = true := by
      cases hc : consB kb with
      | true => rfl
      | false => simp [hc] at h
    simp only [consB, Bool.or_eq_true, beq_iff_eq] at hc
    rcases hc with (((rfl | rfl) | rfl) | rfl) | rfl <;> simp
  · simp [a2, a6, a9, a12]
theorem pairB_sym (ka la kb lb : Int) : pairB ka la kb lb = pairB kb lb ka la := by
  simp only [pairB]
  cases allowB ka la <;> cases allowB kb lb <;> cases (ka != 1) <;> cases (kb != 1) <;> rfl
theorem pairClass_sym (ka la kb lb : Int) : pairClass kb lb ka la = pairClass ka la kb lb := by
  unfold pairClass
  rw [pairB_sym kb lb ka la]
  by_cases h1 : rule ka la kb lb = 0 <;> by_cases h2 : rule kb lb ka la = 0
  · simp [h1, h2]
  · simp [h1, h2]
  · simp [h1, h2]
  · simp [h1, h2, (rule_both h1 h2).1]
theorem pair_cases (ka la kb lb : Int) : let c := pairClass ka la kb lb; let f := pairFirst ka la kb lb; let g := pairFirst kb lb ka la
    (c = 0 ∧ f = 0 ∧ g = 0) ∨ (c = 8 ∧ f = 0 ∧ g = 0) ∨ (c = 2 ∧ 1 ≤ f ∧ f ≤ 2 ∧ 1 ≤ g ∧ g ≤ 2) ∨ (c = 4 ∧ 1 ≤ f ∧ f ≤ 2 ∧ 1 ≤ g ∧ g ≤ 2) ∨ (c ≠ 0 ∧ c ≠ 8 ∧ c ≠ 2 ∧ c ≠ 4 ∧ 1 ≤ f ∧ f ≤ 2 ∧ 1 ≤ g ∧ g ≤ 2 ∧ f + g = 3) := by
  intro c f g
  have hc : c = pairClass ka la kb lb := rfl
  have hf : f = pairFirst ka la kb lb := rfl
  have hg : g = pairFirst kb lb ka la := rfl
  clear_value c f g
  unfold pairClass at hc
  unfold pairFirst at hf hg
  rw [pairB_sym kb lb ka la] at hg
  have r1 := rule_range ka la kb lb
  have r2 := rule_range kb lb ka la
  cases hp : pairB ka la kb lb
  · simp only [hp, Bool.false_eq_true, if_false] at hc hf hg
    exact .inl ⟨hc, hf, hg⟩
  · simp only [hp, if_true] at hc hf hg
    by_cases h1 : rule ka la kb lb = 0 <;> by_cases h2 : rule kb lb ka la = 0
    · simp only [h1, h2, if_true] at hc hf hg; omega
    · simp only [h1, h2, if_true, if_false] at hc hf hg; omega
    · simp only [h1, h2, if_true, if_false] at hc hf hg; omega
    · have := rule_both h1 h2
      simp only [h1, h2, if_false] at hc hf hg; omega
theorem fan_allow {i : Int} (h0 : 0 ≤ i) (h1 : i ≤ 8) : levB i = true ∧ allowB 4 i = true := by
  have : levB i = true := inB_mk h0 h1
  refine ⟨this, ?_⟩
  simp only [allowB, this, Bool.and_true]
  cases (i == 0) <;> rfl
theorem fan_dup {i k : Int} (h0 : 0 ≤ i) (h1 : i ≤ 8) (h2 : 0 ≤ k) (h3 : k ≤ 8) : dupB i 4 k = decide (i < k) := by
  simp only [dupB, (fan_allow h0 h1).1, (fan_allow h2 h3).2]
  simp [hasLevB, kindB, inB]
theorem fan_class {i k : Int} (h0 : 0 ≤ i) (h1 : i ≤ 8) (h2 : 0 ≤ k) (h3 : k ≤ 8) : pairClass 4 i 4 k = if i = k then 2 else 3 := by
  have hp : pairB 4 i 4 k = true := by simp [pairB, (fan_allow h0 h1).2, (fan_allow h2 h3).2]
  have d1 := fan_dup h0 h1 h2 h3
  have d2 := fan_dup h2 h3 h0 h1
  unfold pairClass
  rw [if_pos hp]
  by_cases e : i = k
  · subst e; simp [rule]
  · have e' : ¬ k = i := fun h => e h.symm
    by_cases hlt : i < k
    · have : ¬ k < i := by omega
      simp [rule, e, e', d1, d2, hlt, this]
    · have : k < i := by omega
      simp [rule, e, e', d1, d2, hlt, this]
end Go.Tr
