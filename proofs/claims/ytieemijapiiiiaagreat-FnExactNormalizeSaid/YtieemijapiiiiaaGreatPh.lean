/- Core terms: contractions and a step by the program. -/
import Derived.Test.YtieemijapiiiiaaGreatPf
set_option linter.unusedSimpArgs false
set_option linter.unusedVariables false
namespace Go.Tr
open Go Go.RowKit
/-- The first kid that takes a step. -/
theorem first_some {b : Bok} : ∀ {l : List Cor}, (¬ ∀ k ∈ l, stepT b k = none) → ∃ j : Nat, j < l.length ∧ (∀ t ∈ l.take j, stepT b t = none) ∧ ∃ t' k', stepT b (elt (dflt uCor) l ((j : Nat) : Int)) = some (t', k')
  | [], h => absurd (fun k hk => by simp at hk) h
  | t :: l, h => by
    cases ht : stepT b t with
    | some r =>
      obtain ⟨t', k'⟩ := r
      exact ⟨0, by simp, by simp, t', k', by simpa [elt] using ht⟩
    | none =>
      obtain ⟨j, h1, h2, t', k', h3⟩ := first_some (b := b) (l := l) (fun hl => h fun k hk => by
        rcases List.mem_cons.1 hk with rfl | hk
        · exact ht
        · exact hl k hk)
      have h1' : j + 1 < (t :: l).length := by simpa using h1
      refine ⟨j + 1, h1', ?_, t', k', by rw [eltN h1', ← h3, eltN h1]; rfl⟩
      intro s hs
      rw [List.take_succ_cons] at hs
      rcases List.mem_cons.1 hs with rfl | hs
      · exact ht
      · exact h2 s hs
end Go.Tr
namespace Go.Proofs.YtieemijapiiiiaaGreat
open Go Go.RowKit Go.Proofs Go.Tr
set_option maxHeartbeats 1000000 in
set_option maxRecDepth 100000 in
theorem con2 (b : Bok) (c : Cor) (hg : goodT c = true) (h : kindF c = 2) : FCallG Tryz.prog 47 [.agg [.rsl uCor b], .int .i64 2, .agg (cSV c)] [] (.agg (cSV (conC b 2 c))) [] := by
  obtain ⟨a3, _, _⟩ := kind2 h
  have hl := (ar3 hg a3).1
  refine FCallG.intro (nt := 104) ti_ok mixed okCtr Tryz.func47 rfl rfl rfl rfl rfl rfl ?_
  refine And.intro (fun q => by cases q) (fun _ => ?_)
  refine And.intro (fun _ => ?_) (fun q => by cases q)
  conv => whnf
  refine And.intro (show (0 : Int) ≤ 0 ∧ (0 : Int) < (c.kids.length : Nat) by omega) ?_
  refine And.intro (show (0 : Int) ≤ 1 ∧ (1 : Int) < (c.kids.length : Nat) by omega) ?_
  conv => whnf
  refine Or.inl (Exists.intro _ (And.intro (opQ (cVl c) (cVl (kidN c 0)) (cVl (kidN c 1))) ?_))
  refine Or.inr (Or.inr (Exists.intro _ (Exists.intro _ (And.intro (numG (opN (cVl c) (cVl (kidN c 0)) (cVl (kidN c 1)))) ?_))))
  refine And.intro (by kernel_rfl) ?_
  refine fin [] (And.intro ?_ trivial)
  exact rfl
set_option maxHeartbeats 1000000 in
set_option maxRecDepth 100000 in
theorem con3 (b : Bok) (c : Cor) (hg : goodT c = true) (h : kindF c = 3) : FCallG Tryz.prog 47 [.agg [.rsl uCor b], .int .i64 3, .agg (cSV c)] [] (.agg (cSV (conC b 3 c))) [] := by
  rcases kind3 h with ⟨a9, b8, hv⟩ | ⟨a10, b2⟩
  · have hl := (ar9 hg a9).1
    have m0 : kidN c 0 ∈ c.kids := kidM (c := c) (i := 0) (by omega)
    have g0 := good_kid hg m0
    have h8 := ar8 g0 b8
    have hkl := (good_dt g0).2
    refine FCallG.intro (nt := 104) ti_ok mixed okCtr Tryz.func47 rfl rfl rfl rfl rfl rfl ?_
    refine And.intro (fun q => by cases q) (fun _ => ?_)
    refine And.intro (fun q => by cases q) (fun _ => ?_)
    refine And.intro (fun _ => ?_) (fun q => by cases q)
    refine And.intro (fun _ => ?_) (fun q => by rw [a9] at q; cases q)
    conv => whnf
    refine And.intro (show (0 : Int) ≤ 0 ∧ (0 : Int) < (c.kids.length : Nat) by omega) ?_
    refine And.intro (show (0 : Int) ≤ cVl (kidN c 0) ∧ cVl (kidN c 0) < ((cDt c).length : Nat) from ⟨h8.1, hv⟩) ?_
    refine And.intro (show (0 : Int) ≤ 0 ∧ (0 : Int) < (c.kids.length : Nat) by omega) ?_
    conv => whnf
    refine Or.inr (Or.inr (Exists.intro _ (Exists.intro _ (And.intro (choG (elt (0 : Int) (cDt c) (cVl (kidN c 0))) (kidN c 0).kids (by omega)) ?_))))
    refine And.intro (by kernel_rfl) ?_
    refine fin [] (And.intro ?_ trivial)
    show SV.agg (cSV (choC (elt (0 : Int) (cDt c) (cVl (kidN c 0))) (kidN c 0).kids)) = SV.agg (cSV (conC b 3 c))
    unfold conC; rw [a9]; rfl
  · have hl := ar10 hg a10
    have a9 : (cKd c == 9) = false := kd_no a10 rfl
    refine FCallG.intro (nt := 104) ti_ok mixed okCtr Tryz.func47 rfl rfl rfl rfl rfl rfl ?_
    refine And.intro (fun q => by cases q) (fun _ => ?_)
    refine And.intro (fun q => by cases q) (fun _ => ?_)
    refine And.intro (fun _ => ?_) (fun q => by cases q)
    refine And.intro (fun q => by rw [a9] at q; cases q) (fun _ => ?_)
    conv => whnf
    refine And.intro (show (0 : Int) ≤ 0 ∧ (0 : Int) < (c.kids.length : Nat) by omega) ?_
    conv => whnf
    refine Or.inl (Exists.intro _ (And.intro (truthQ (cVl (kidN c 0) == 0)) ?_))
    have hb : 0 ≤ (bif cVl (kidN c 0) == 0 then (1 : Int) else 0) ∧ (bif cVl (kidN c 0) == 0 then (1 : Int) else 0) < ((cDt c).length : Nat) := by rw [hl.2]; cases cVl (kidN c 0) == 0 <;> decide
    refine And.intro hb ?_
    refine Or.inr (Or.inr (Exists.intro _ (Exists.intro _ (And.intro (refG (elt (0 : Int) (cDt c) (bif cVl (kidN c 0) == 0 then (1 : Int) else 0))) ?_))))
    refine And.intro (by kernel_rfl) ?_
    refine fin [] (And.intro ?_ trivial)
    show SV.agg (cSV (refC (elt (0 : Int) (cDt c) (bif cVl (kidN c 0) == 0 then (1 : Int) else 0)))) = SV.agg (cSV (conC b 3 c))
    unfold conC swiC; rw [a9]; rfl
set_option maxHeartbeats 1000000 in
set_option maxRecDepth 100000 in
theorem con4 (b : Bok) (c : Cor) (hg : goodT c = true) (hn : nmT (b.length : Nat) c = true) (h : kindF c = 4) : FCallG Tryz.prog 47 [.agg [.rsl uCor b], .int .i64 4, .agg (cSV c)] [] (.agg (cSV (conC b 4 c))) [] := by
  obtain ⟨i, hi, hil, hi11⟩ := at_ok hg h
  have mi := kidM hil
  have gi := good_kid hg mi
  have hv := ar11 gi hi11
  have hvn := nm_ref (nm_kid hn mi) hi11
  have hkl := (good_dt hg).2
  have hne : c.kids ≠ [] := fun e => by rw [e] at hil; simp at hil
  have h0 : 0 < c.kids.length := by omega
  have ha : atC c = (bif (cKd (kidN c 0) != 11) then 1 else 0) := by unfold atC; rw [bne]; cases cKd (kidN c 0) == 11 <;> rfl
  rw [hi] at ha
  refine FCallG.fz (ts1 := [.dat 10000 32 4 uCor (c.kids.set i (elt (dflt uCor) b (cVl (kidN c ((i : Nat) : Int)))))]) (r1 := .agg [.int .i64 (cKd c), .int .i64 (cVl c), .rsl (.int .i64) (cDt c), .sl 10000]) ?_ (by
    show SV.agg (cSV (mkC (cKd c) (cVl c) (cDt c) (c.kids.set i (elt (dflt uCor) b (cVl (kidN c ((i : Nat) : Int))))))) = SV.agg (cSV (conC b 4 c))
    unfold conC expC; rw [hi]; rfl)
  refine FCallG.intro (nt := 104) ti_ok mixed okCtr Tryz.func47 rfl rfl rfl rfl rfl rfl ?_
  refine And.intro (fun q => by cases q) (fun _ => ?_)
  refine And.intro (fun q => by cases q) (fun _ => ?_)
  refine And.intro (fun q => by cases q) (fun _ => ?_)
  conv => whnf
  refine Or.inr (Or.inr (Exists.intro _ (Exists.intro _ (And.intro (cloneCG c.kids hne (by omega)) ?_))))
  refine And.intro (by kernel_rfl) ?_
  refine And.intro (show (0 : Int) ≤ 0 ∧ (0 : Int) < (c.kids.length : Nat) by omega) ?_
  refine Or.inl (Exists.intro _ (And.intro (truthQ (cKd (kidN c 0) != 11)) ?_))
  rw [← ha]
  conv => whnf
  refine And.intro (show (0 : Int) ≤ (i : Nat) ∧ ((i : Nat) : Int) < (c.kids.length : Nat) by omega) ?_
  refine And.intro (show (0 : Int) ≤ cVl (kidN c ((i : Nat) : Int)) ∧ cVl (kidN c ((i : Nat) : Int)) < (b.length : Nat) by omega) ?_
  refine And.intro (show (0 : Int) ≤ (i : Nat) ∧ ((i : Nat) : Int) < (c.kids.length : Nat) by omega) ?_
  refine And.intro (by kernel_rfl) ?_
  refine fin [(10000, 80)] (And.intro rfl ?_)
  refine ⟨?_, trivial⟩
  show c.kids.set i (.node (cKd (elt (dflt uCor) b (cVl (kidN c ((i : Nat) : Int)))), cVl (elt (dflt uCor) b (cVl (kidN c ((i : Nat) : Int)))), cDt (elt (dflt uCor) b (cVl (kidN c ((i : Nat) : Int))))) (elt (dflt uCor) b (cVl (kidN c ((i : Nat) : Int)))).kids) = _
  rw [node_eta]
theorem conG (b : Bok) (c : Cor) (hg : goodT c = true) (hs : sizT c ≤ 400) (hn : nmT (b.length : Nat) c = true) (h : (kindF c != 0) = true) : FCallG Tryz.prog 47 [.agg [.rsl uCor b], .int .i64 (kindF c), .agg (cSV c)] [] (.agg (cSV (conC b (kindF c) c))) [] := by
  have h0 : kindF c ≠ 0 := by simpa using h
  rcases kind_all c with k | k | k | k | k
  · exact absurd k h0
  · rw [k]; exact con1 b c hg hs k
  · rw [k]; exact con2 b c hg k
  · rw [k]; exact con3 b c hg k
  · rw [k]; exact con4 b c hg hn k
theorem okStep : callOk Tryz.prog 29 = true := by kernel_rfl
set_option maxHeartbeats 1000000 in
set_option maxRecDepth 100000 in
theorem stepG (b : Bok) : ∀ c : Cor, goodT c = true → sizT c ≤ 400 → nmT (b.length : Nat) c = true → FCallG Tryz.prog 29 [.agg [.rsl uCor b], .agg (cSV c)] [] (.tup [.agg (cSV (stepR b c).1), .int .i64 (stepR b c).2]) [] := by
  refine Tree.ind (fun c ih => ?_)
  intro hg hs hn
  have hkl := (good_dt hg).2
  cases hk : (kindF c != 0) with
  | true =>
    rw [show stepR b c = (conC b (kindF c) c, kindF c) by unfold stepR; rw [stepT_red hk]]
    refine FCallG.intro (nt := 56) ti_ok mixed okStep Tryz.func29 rfl rfl rfl rfl rfl rfl ?_
    refine Or.inl (Exists.intro _ (And.intro (rkQ c hg) ?_))
    refine And.intro (fun _ => ?_) (fun q => by rw [hk] at q; cases q)
    refine Or.inr (Or.inr (Exists.intro _ (Exists.intro _ (And.intro (conG b c hg hs hn hk) ?_))))
    refine fin [] (And.intro ?_ trivial)
    exact rfl
  | false =>
    have kidP : ∀ k ∈ c.kids, FCallG Tryz.prog 29 [.agg [.rsl uCor b], .agg (cSV k)] [] (.tup [.agg (cSV (stepR b k).1), .int .i64 (stepR b k).2]) [] := fun k hm => ih k hm (good_kid hg hm) (by have := sizT_kid hm; omega) (nm_kid hn hm)
    by_cases hall : ∀ k ∈ c.kids, Go.Tr.stepT b k = none
    · rw [show stepR b c = (c, 0) by unfold stepR; rw [stepT_kids hk, stepL_none hall]]
      refine FCallG.intro (nt := 56) ti_ok mixed okStep Tryz.func29 rfl rfl rfl rfl rfl rfl ?_
      refine Or.inl (Exists.intro _ (And.intro (rkQ c hg) ?_))
      refine And.intro (fun q => by rw [hk] at q; cases q) (fun _ => ?_)
      refine lp Nat (fun i => [(24, .int .i64 (i : Nat))]) (fun _ => [.cel 2 36 [.rsl uCor b], .cel 3 32 (cSV c), .cel 4 32 [.int .i64 0, .int .i64 0, .raw (.slice none 0 0), .raw (.slice none 0 0)]]) (fun i => c.kids.length - i) (fun i => i ≤ c.kids.length) 0 (Nat.zero_le _) ?_ ?_
      · exact Go.Tr.hd [] rfl (And.intro ⟨rfl, rfl⟩ trivial) ⟨trivial, ⟨rfl, trivial⟩, trivial, ⟨⟨rfl, rfl⟩, ⟨rfl, rfl⟩, rfl, rfl, trivial⟩, trivial, ⟨⟨rfl, rfl⟩, ⟨rfl, rfl⟩, rfl, rfl, trivial⟩, trivial⟩
      intro i hi
      refine And.intro (fun q1 => ?_) (fun q1 => ?_)
      · have hlt : i < c.kids.length := by have : ((i : Nat) : Int) < (c.kids.length : Nat) := of_decide_eq_true q1; omega
        have hmem := kidM hlt
        have hz : stepR b (kidN c ((i : Nat) : Int)) = (kidN c ((i : Nat) : Int), 0) := by unfold stepR; rw [hall _ hmem]
        refine And.intro (show (0 : Int) ≤ (i : Nat) ∧ ((i : Nat) : Int) < (c.kids.length : Nat) by omega) ?_
        refine Or.inr (Or.inr (Exists.intro _ (Exists.intro _ (And.intro (by
          show FCallG _ _ [_, .agg (cSV (kidN c ((i : Nat) : Int)))] _ _ _
          have h := kidP _ hmem
          rw [hz] at h
          exact h) ?_))))
        refine And.intro (fun q => by cases q) (fun _ => ?_)
        refine lp_next (i + 1) hlt ?_ (by show c.kids.length - (i + 1) < c.kids.length - i; omega)
        exact Go.Tr.hd [] rfl (And.intro ⟨wrapI (by omega), rfl⟩ trivial) ⟨trivial, ⟨rfl, trivial⟩, trivial, ⟨⟨rfl, rfl⟩, ⟨rfl, rfl⟩, rfl, rfl, trivial⟩, trivial, ⟨⟨rfl, rfl⟩, ⟨rfl, rfl⟩, rfl, rfl, trivial⟩, trivial⟩
      refine fin [] (And.intro ?_ trivial)
      exact rfl
    · obtain ⟨j, hj, hbef, t', k', hjs⟩ := first_some hall
      have hmj := kidM hj
      have hk4 := step_kind hjs
      rw [show stepR b c = (mkC (cKd c) (cVl c) (cDt c) (c.kids.set j t'), k') by unfold stepR; rw [stepT_kids hk, stepL_some hj hbef hjs]]
      refine FCallG.fz (ts1 := [.dat 10000 32 4 uCor (c.kids.set j t')]) (r1 := .tup [.agg [.int .i64 (cKd c), .int .i64 (cVl c), .rsl (.int .i64) (cDt c), .sl 10000], .int .i64 k']) ?_ rfl
      refine FCallG.intro (nt := 56) ti_ok mixed okStep Tryz.func29 rfl rfl rfl rfl rfl rfl ?_
      refine Or.inl (Exists.intro _ (And.intro (rkQ c hg) ?_))
      refine And.intro (fun q => by rw [hk] at q; cases q) (fun _ => ?_)
      refine lp Nat (fun i => [(24, .int .i64 (i : Nat))]) (fun _ => [.cel 2 36 [.rsl uCor b], .cel 3 32 (cSV c), .cel 4 32 [.int .i64 0, .int .i64 0, .raw (.slice none 0 0), .raw (.slice none 0 0)]]) (fun i => c.kids.length - i) (fun i => i ≤ j) 0 (Nat.zero_le _) ?_ ?_
      · exact Go.Tr.hd [] rfl (And.intro ⟨rfl, rfl⟩ trivial) ⟨trivial, ⟨rfl, trivial⟩, trivial, ⟨⟨rfl, rfl⟩, ⟨rfl, rfl⟩, rfl, rfl, trivial⟩, trivial, ⟨⟨rfl, rfl⟩, ⟨rfl, rfl⟩, rfl, rfl, trivial⟩, trivial⟩
      intro i hi
      refine And.intro (fun q1 => ?_) (fun q1 => ?_)
      · have hlt : i < c.kids.length := by have : ((i : Nat) : Int) < (c.kids.length : Nat) := of_decide_eq_true q1; omega
        have hmem := kidM hlt
        refine And.intro (show (0 : Int) ≤ (i : Nat) ∧ ((i : Nat) : Int) < (c.kids.length : Nat) by omega) ?_
        refine Or.inr (Or.inr (Exists.intro _ (Exists.intro _ (And.intro (by
          show FCallG _ _ [_, .agg (cSV (kidN c ((i : Nat) : Int)))] _ _ _
          exact kidP _ hmem) ?_))))
        by_cases hij : i = j
        · subst hij
          have hz : stepR b (kidN c ((i : Nat) : Int)) = (t', k') := by unfold stepR; rw [hjs]
          rw [hz]
          refine And.intro (fun _ => ?_) (fun q => ?_)
          · conv => whnf
            refine Or.inr (Or.inr (Exists.intro _ (Exists.intro _ (And.intro (cloneCG c.kids (fun e => by rw [e] at hlt; simp at hlt) (by omega)) ?_))))
            refine And.intro (by kernel_rfl) ?_
            refine And.intro (show (0 : Int) ≤ (i : Nat) ∧ ((i : Nat) : Int) < (c.kids.length : Nat) by omega) ?_
            refine fin [(10000, 45)] (And.intro rfl ?_)
            refine ⟨?_, trivial⟩
            show c.kids.set i (.node (cKd t', cVl t', cDt t') t'.kids) = _
            rw [node_eta]
          · have q' : (k' != 0) = false := q
            have : k' = 0 := by simpa using q'
            omega
        · have hz : stepR b (kidN c ((i : Nat) : Int)) = (kidN c ((i : Nat) : Int), 0) := by
            unfold stepR
            rw [hbef _ (by rw [List.mem_take_iff_getElem]; exact ⟨i, by omega, by rw [kidN, eltN hlt]⟩)]
          rw [hz]
          refine And.intro (fun q => by cases q) (fun _ => ?_)
          refine lp_next (i + 1) (by show i + 1 ≤ j; have : i ≤ j := hi; omega) ?_ (by show c.kids.length - (i + 1) < c.kids.length - i; omega)
          exact Go.Tr.hd [] rfl (And.intro ⟨wrapI (by omega), rfl⟩ trivial) ⟨trivial, ⟨rfl, trivial⟩, trivial, ⟨⟨rfl, rfl⟩, ⟨rfl, rfl⟩, rfl, rfl, trivial⟩, trivial, ⟨⟨rfl, rfl⟩, ⟨rfl, rfl⟩, rfl, rfl, trivial⟩, trivial⟩
      have hge : c.kids.length ≤ i := by have : ¬ ((i : Nat) : Int) < (c.kids.length : Nat) := of_decide_eq_false q1; omega
      exfalso
      have : i ≤ j := hi
      omega
end Go.Proofs.YtieemijapiiiiaaGreat
