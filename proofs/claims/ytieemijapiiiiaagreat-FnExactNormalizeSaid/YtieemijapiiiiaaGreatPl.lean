/- Core terms: both sides take the same step, and what comes of it is a machine state. No program in it. -/
import Derived.Test.YtieemijapiiiiaaGreatPk
set_option linter.unusedSimpArgs false
set_option linter.unusedVariables false
namespace Go.Tr
open Go Go.RowKit
theorem dt_in {c : Cor} (hg : goodT c = true) {x : Int} (hx : x ∈ cDt c) : 0 ≤ x ∧ x ≤ 23 := by
  have h := (goodT_iff.1 hg).1
  unfold nodeOk at h
  rw [Bool.and_eq_true, List.all_eq_true] at h
  exact inC_iff.1 (h.2 x hx)
theorem dt_nm {n : Int} {c : Cor} (h : nmT n c = true) {x : Int} (hx : x ∈ cDt c) : x < n := by
  rw [nmT_eq, Bool.and_eq_true] at h
  have h1 := h.1
  unfold farV at h1
  rw [Bool.not_eq_true', Bool.or_eq_false_iff, List.any_eq_false] at h1
  have := h1.2 x hx
  simp at this
  omega
/-- The definitions of a book, in a state. -/
def BkOk (b : Bok) : Prop := ∀ d ∈ b, Prt (b.length : Nat) d 0
/-- A redex: what comes of it is a part again, or too large for both sides. -/
theorem con_rel {b : Bok} (hb : BkOk b) {c : Cor} {a : Int} (h : Prt (b.length : Nat) c a) (ha0 : 0 ≤ a) (ha : a ≤ 81) (hk : (kindF c != 0) = true) :
    ((conS b (kindF c) c) = (conC b (kindF c) c, 0) ∧ Prt (b.length : Nat) (conC b (kindF c) c) a) ∨ ((conS b (kindF c) c).2 = 4 ∧ (400 < sizT (conC b (kindF c) c) ∨ 80 < depT (conC b (kindF c) c))) := by
  have h0 : kindF c ≠ 0 := by simpa using hk
  rcases kind_all c with k | k | k | k | k
  · exact absurd k h0
  · obtain ⟨a5, b4⟩ := kind1 k
    have hl := ar5 h.g a5
    have p0 : Prt (b.length : Nat) (kidN c 0) (a + bindN (cKd c) ((0 : Nat) : Int)) := h.kid (i := 0) (by omega)
    have p1 : Prt (b.length : Nat) (kidN c 1) (a + bindN (cKd c) ((1 : Nat) : Int)) := h.kid (i := 1) (by omega)
    have e5 : ∀ i : Int, bindN (cKd c) i = 0 := fun i => by unfold bindN; rw [eq_of_beq a5]; rfl
    rw [e5, Int.add_zero] at p0 p1
    have hl4 := ar4 p0.g b4
    have p2 : Prt (b.length : Nat) (kidN (kidN c 0) 0) (a + bindN (cKd (kidN c 0)) ((0 : Nat) : Int)) := p0.kid (i := 0) (by omega)
    have e4 : bindN (cKd (kidN c 0)) ((0 : Nat) : Int) = 1 := by unfold bindN; rw [eq_of_beq b4]; rfl
    rw [e4] at p2
    rw [k]
    show ((inR (kidN (kidN c 0) 0) (kidN c 1)) = (inst (kidN (kidN c 0) 0) (kidN c 1), 0) ∧ Prt (b.length : Nat) (inst (kidN (kidN c 0) 0) (kidN c 1)) a) ∨ ((inR (kidN (kidN c 0) 0) (kidN c 1)).2 = 4 ∧ (400 < sizT (inst (kidN (kidN c 0) 0) (kidN c 1)) ∨ 80 < depT (inst (kidN (kidN c 0) 0) (kidN c 1))))
    have hcl : clT (inst (kidN (kidN c 0) 0) (kidN c 1)) a = true := by
      have := cl_in p1.g ha0 p1.cl (kidN (kidN c 0) 0) 0 p2.g (Int.le_refl _) (by rw [show (0 : Int) + a + 1 = a + 1 by omega]; exact p2.cl)
      rw [show (0 : Int) + a = a by omega] at this
      exact this
    unfold inR
    by_cases hd : depT (inst (kidN (kidN c 0) 0) (kidN c 1)) ≤ 80
    · by_cases hs : sizT (inst (kidN (kidN c 0) 0) (kidN c 1)) ≤ 400
      · have hh := hi_cl _ a ha0 hcl
        have h255 : hiT (inst (kidN (kidN c 0) 0) (kidN c 1)) ≤ 255 := by omega
        rw [decide_eq_true hd, decide_eq_true hs, decide_eq_false (show ¬ 255 < hiT (inst (kidN (kidN c 0) 0) (kidN c 1)) by omega)]
        refine Or.inl ⟨rfl, good_in _ p1.g _ 0 (Int.le_refl _) p2.g h255, hcl, ?_, ?_⟩
        · exact erT_any.2 (any_in boxV_blind (erT_any.1 p1.er) _ 0 p2.g (erT_any.1 p2.er))
        · exact nmT_any.2 (any_in (farV_blind _) (nmT_any.1 p1.nm) _ 0 p2.g (nmT_any.1 p2.nm))
      · rw [decide_eq_false hs, Bool.and_false]
        exact Or.inr ⟨rfl, Or.inl (by omega)⟩
    · rw [decide_eq_false hd, Bool.false_and]
      exact Or.inr ⟨rfl, Or.inr (by omega)⟩
  · rw [k]
    have := opN_in (cVl c) (cVl (kidN c 0)) (cVl (kidN c 1))
    exact Or.inl ⟨rfl, prt_num this.1 this.2⟩
  · rw [k]
    refine Or.inl ⟨rfl, ?_⟩
    rcases kind3 k with ⟨a9, b8, hv⟩ | ⟨a10, b2⟩
    · have hl := ar9 h.g a9
      have p0 : Prt (b.length : Nat) (kidN c 0) (a + bindN (cKd c) ((0 : Nat) : Int)) := h.kid (i := 0) (by omega)
      have e9 : bindN (cKd c) ((0 : Nat) : Int) = 0 := by unfold bindN; rw [eq_of_beq a9]; rfl
      rw [e9, Int.add_zero] at p0
      have h8 := ar8 p0.g b8
      obtain ⟨i, hi⟩ : ∃ i : Nat, cVl (kidN c 0) = (i : Nat) := ⟨(cVl (kidN c 0)).toNat, by omega⟩
      have hm : elt (0 : Int) (cDt c) ((i : Nat) : Int) ∈ cDt c := eltM (by omega)
      have h1 := dt_in h.g hm
      have h2 := dt_nm h.nm hm
      rw [show conC b 3 c = choC (elt (0 : Int) (cDt c) (cVl (kidN c 0))) (kidN c 0).kids by unfold conC; rw [a9]; rfl, hi]
      refine prt_cho h1.1 h1.2 h2 _ (fun t ht => ?_) _ (prt_ref h1.1 h1.2 h2)
      obtain ⟨j, hj, rfl⟩ := List.mem_iff_getElem.1 ht
      have pj : Prt (b.length : Nat) (kidN (kidN c 0) ((j : Nat) : Int)) (a + bindN (cKd (kidN c 0)) ((j : Nat) : Int)) := p0.kid hj
      have e8 : bindN (cKd (kidN c 0)) ((j : Nat) : Int) = 0 := by unfold bindN; rw [eq_of_beq b8]; rfl
      rw [e8, Int.add_zero, kidN, eltN hj] at pj
      exact pj
    · have hl := ar10 h.g a10
      have a9 : (cKd c == 9) = false := by rw [eq_of_beq a10]; rfl
      have key : ∀ i : Nat, i < 2 → Prt (b.length : Nat) (refC (elt (0 : Int) (cDt c) ((i : Nat) : Int))) a := fun i hi => by
        have hm : elt (0 : Int) (cDt c) ((i : Nat) : Int) ∈ cDt c := eltM (by omega)
        have h1 := dt_in h.g hm
        exact prt_ref h1.1 h1.2 (dt_nm h.nm hm)
      rw [show conC b 3 c = refC (elt (0 : Int) (cDt c) (bif cVl (kidN c 0) == 0 then 1 else 0)) by unfold conC swiC; rw [a9]; rfl]
      cases cVl (kidN c 0) == 0 with
      | true => exact key 1 (by omega)
      | false => exact key 0 (by omega)
  · rw [k]
    refine Or.inl ⟨rfl, ?_⟩
    obtain ⟨i, hi, hil, hi11⟩ := at_ok h.g k
    have pi := h.kid hil
    have hv := ar11 pi.g hi11
    have hvn := nm_ref pi.nm hi11
    obtain ⟨m, hm⟩ : ∃ m : Nat, cVl (kidN c ((i : Nat) : Int)) = (m : Nat) := ⟨(cVl (kidN c ((i : Nat) : Int))).toNat, by omega⟩
    have hmem : elt (dflt uCor) b ((m : Nat) : Int) ∈ b := eltM (by omega)
    have hbn := bindN_b (cKd c) (i : Nat)
    have := h.set (i := i) (t := elt (dflt uCor) b ((m : Nat) : Int)) hil ((hb _ hmem).mono (by omega))
    rw [show conC b 4 c = mkC (cKd c) (cVl c) (cDt c) (c.kids.set i (elt (dflt uCor) b ((m : Nat) : Int))) by unfold conC expC; rw [hi, hm]; rfl]
    exact this
theorem depT_pos (c : Cor) : 1 ≤ depT c := by cases c with | node x l => rw [depT]; exact depL_ge l 1
/-- One step of both sides. -/
theorem step_rel {b : Bok} (hb : BkOk b) : ∀ (c : Cor) (a : Int), Prt (b.length : Nat) c a → 0 ≤ a → a + depT c ≤ 81 →
    (stepT b c = none ∧ stS b c = none) ∨ ∃ t k, stepT b c = some (t, k) ∧ ((stS b c = some (t, k, 0) ∧ Prt (b.length : Nat) t a) ∨ ((∃ o, stS b c = some (o, k, 4)) ∧ (400 < sizT t ∨ 80 < depT t))) := by
  refine Tree.ind (fun c ih => ?_)
  intro a h ha0 ha
  have hd1 := depT_pos c
  cases hk : (kindF c != 0) with
  | true =>
    refine Or.inr ⟨_, _, stepT_red hk, ?_⟩
    rw [stS_red hk]
    rcases con_rel hb h ha0 (by omega) hk with ⟨h1, h2⟩ | ⟨h1, h2⟩
    · rw [h1]; exact Or.inl ⟨rfl, h2⟩
    · rw [h1]; exact Or.inr ⟨⟨_, rfl⟩, h2⟩
  | false =>
    have kidR : ∀ i : Nat, i < c.kids.length → _ := fun i hi => ih _ (kidM hi) (a + bindN (cKd c) (i : Nat)) (h.kid hi) (by have := bindN_b (cKd c) (i : Nat); omega) (by
      have hbn := bindN_b (cKd c) (i : Nat)
      have hdk := (depT_iff.1 (Nat.le_refl (depT c))).2 _ (kidM hi)
      have : ((depT (kidN c ((i : Nat) : Int)) : Nat) : Int) + 1 ≤ (depT c : Nat) := by omega
      omega)
    by_cases hall : ∀ t ∈ c.kids, stepT b t = none
    · refine Or.inl ⟨by rw [stepT_kids hk, stepL_none hall], ?_⟩
      rw [stS_kids hk, stSL_none fun t ht => ?_]
      obtain ⟨i, hi, rfl⟩ := List.mem_iff_getElem.1 ht
      rcases kidR i hi with ⟨_, h2⟩ | ⟨t', k', h1, _⟩
      · rw [kidN, eltN hi] at h2; exact h2
      · rw [kidN, eltN hi, hall _ (List.getElem_mem hi)] at h1; cases h1
    · obtain ⟨j, hj, hbef, t', k', hjs⟩ := first_some hall
      have hbefS : ∀ t ∈ c.kids.take j, stS b t = none := fun t ht => by
        obtain ⟨i, hi, rfl⟩ := List.mem_iff_getElem.1 ht
        have hi' : i < c.kids.length := by rw [List.length_take] at hi; omega
        have hn := hbef _ ht
        rw [List.getElem_take] at hn ⊢
        rcases kidR i hi' with ⟨_, h2⟩ | ⟨t', k', h1, _⟩
        · rw [kidN, eltN hi'] at h2; exact h2
        · rw [kidN, eltN hi', hn] at h1; cases h1
      refine Or.inr ⟨mkC (cKd c) (cVl c) (cDt c) (c.kids.set j t'), k', by rw [stepT_kids hk, stepL_some hj hbef hjs], ?_⟩
      rcases kidR j hj with ⟨h1, _⟩ | ⟨t2, k2, h1, h2⟩
      · rw [hjs] at h1; cases h1
      · rw [hjs] at h1
        injection h1 with h1
        injection h1 with h1 h1'
        subst h1 h1'
        rcases h2 with ⟨h2, h3⟩ | ⟨⟨o, h2⟩, h3⟩
        · refine Or.inl ⟨by rw [stS_kids hk, stSL_some hj hbefS h2], ?_⟩
          exact h.set hj h3
        · refine Or.inr ⟨⟨_, by rw [stS_kids hk, stSL_some hj hbefS h2]⟩, ?_⟩
          have hmem : t' ∈ (mkC (cKd c) (cVl c) (cDt c) (c.kids.set j t')).kids := List.mem_set hj _
          have hs := sizT_kid hmem
          have hdd := (depT_iff.1 (Nat.le_refl (depT (mkC (cKd c) (cVl c) (cDt c) (c.kids.set j t'))))).2 _ hmem
          rcases h3 with h3 | h3
          · exact Or.inl (by omega)
          · exact Or.inr (by omega)
theorem stOk_book {b : Bok} {c : Cor} (h : stOk b c = true) : BkOk b ∧ b.length ≤ 24 := by
  unfold stOk okB at h
  simp only [Bool.and_eq_true, List.all_eq_true] at h
  have hi := inC_iff.1 h.1.1.1
  refine ⟨fun d hd => ?_, by omega⟩
  have h1 := h.1.1.2 d hd
  have h2 := h.1.2 d hd
  unfold defOk at h1
  simp only [Bool.and_eq_true] at h1
  exact ⟨(okC_iff.1 h1.1).1, h1.2.1, h2.2, h1.2.2⟩
theorem stOk_term {b : Bok} {c : Cor} (h : stOk b c = true) : okC c = true ∧ Prt (b.length : Nat) c 0 := by
  unfold stOk at h
  simp only [Bool.and_eq_true] at h
  exact ⟨h.2.1, (okC_iff.1 h.2.1).1, h.2.2.1, h.2.2.2.1, h.2.2.2.2⟩
theorem stOk_next {b : Bok} {c t : Cor} (h : stOk b c = true) (ht : Prt (b.length : Nat) t 0) (ho : okC t = true) : stOk b t = true := by
  unfold stOk at h ⊢
  simp only [Bool.and_eq_true] at h ⊢
  exact ⟨h.1, ho, ht.cl, ht.er, ht.nm⟩
/-- Both sides, of a machine state. -/
theorem st_rel {b : Bok} {c : Cor} (h : stOk b c = true) : (stepR b c = (c, 0) ∧ st8 b c = (zeroC, 0, 0)) ∨
    ∃ t k, stepR b c = (t, k) ∧ (k = 1 ∨ k = 2 ∨ k = 3 ∨ k = 4) ∧ ((okC t = true ∧ st8 b c = (t, k, 0) ∧ stOk b t = true) ∨ (okC t = false ∧ st8 b c = (zeroC, 0, 4))) := by
  obtain ⟨hb, _⟩ := stOk_book h
  obtain ⟨hc, hp⟩ := stOk_term h
  have hd := (okC_iff.1 hc).2.1
  rcases step_rel hb c 0 hp (Int.le_refl _) (by omega) with ⟨h1, h2⟩ | ⟨t, k, h1, h2⟩
  · refine Or.inl ⟨by unfold stepR; rw [h1], ?_⟩
    unfold st8 innR; rw [h2]; rfl
  · have hk := step_kind h1
    have hk0 : (k != 0) = true := by rw [bne_iff_ne]; omega
    refine Or.inr ⟨t, k, by unfold stepR; rw [h1], hk, ?_⟩
    rcases h2 with ⟨h2, h3⟩ | ⟨⟨o, h2⟩, h3⟩
    · have e : st8 b c = (bif (k != 0) && !fitN t then (zeroC, 0, 4) else (t, k, 0)) := by unfold st8 innR; rw [h2]; rfl
      rw [hk0, Bool.true_and] at e
      have hof : okC t = fitN t := by
        unfold okC fitN
        rw [h3.g, Bool.true_and, Bool.and_comm]
      cases hf : fitN t with
      | true =>
        rw [hf] at e hof
        exact Or.inl ⟨hof, e, stOk_next h h3 hof⟩
      | false =>
        rw [hf] at e hof
        exact Or.inr ⟨hof, e⟩
    · refine Or.inr ⟨?_, by unfold st8 innR; rw [h2]; rfl⟩
      cases ho : okC t with
      | false => rfl
      | true =>
        obtain ⟨_, q1, q2⟩ := okC_iff.1 ho
        exfalso
        rcases h3 with h3 | h3 <;> omega
end Go.Tr
