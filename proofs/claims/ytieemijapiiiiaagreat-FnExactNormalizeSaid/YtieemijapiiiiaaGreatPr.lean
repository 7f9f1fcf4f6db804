/- Core terms: a step by the reference, upon a term in a variable that stays the caller's. -/
import Derived.Test.YtieemijapiiiiaaGreatPo
import Derived.Test.YtieemijapiiiiaaGreatWc
set_option linter.unusedSimpArgs false
set_option linter.unusedVariables false
namespace Go.Proofs.YtieemijapiiiiaaGreat
open Go Go.RowKit Go.Proofs Go.Tr
theorem kdK (c : Cor) (hg : goodT c = true) : FCall Tryz.prog 54 [.ptr 10000 0] [.cel 10000 32 (cSV c)] (.int .i64 (kindF c)) [.cel 10000 32 (cSV c)] :=
  FCall.of_q ti_ok [52] okKdS (by
    show QCall _ _ [.rp uCor (.node (cKd c, cVl c, cDt c) (Tree.kids c))] _
    rw [node_eta]
    exact kdS c hg) rfl
set_option maxHeartbeats 1000000 in
set_option maxRecDepth 100000 in
theorem choSK (c : Cor) (hg : goodT c = true) (h : kindF c = 3) (b : Bok) : FCallG Tryz.prog 78 [.ptr 10000 0, .rsl uCor (kidN c 0).kids] [.cel 10000 32 (cSV c)] (.agg (cSV (conC b 3 c))) [.cel 10000 32 (cSV c)] := by
  rcases kind3 h with ⟨a9, b8, hv⟩ | ⟨a10, b2⟩
  · have hl := (ar9 hg a9).1
    have a10 : (cKd c == 10) = false := kd_no a9 rfl
    have m0 : kidN c 0 ∈ c.kids := kidM (c := c) (i := 0) (by omega)
    have g0 := good_kid hg m0
    have h8 := ar8 g0 b8
    have hkl := (good_dt g0).2
    rw [show conC b 3 c = choC (elt (0 : Int) (cDt c) (cVl (kidN c 0))) (kidN c 0).kids by unfold conC; rw [a9]; rfl]
    obtain ⟨l, hll⟩ : ∃ l, l = (kidN c 0).kids := ⟨_, rfl⟩
    rw [← hll] at hkl ⊢
    refine FCallG.intro (nt := 61) ti_ok mixed okRCho Tryz.func78 rfl rfl rfl rfl rfl rfl ?_
    refine And.intro (fun q => by rw [a10] at q; cases q) (fun _ => ?_)
    conv => whnf
    refine And.intro (show (0 : Int) ≤ 0 ∧ (0 : Int) < (c.kids.length : Nat) by omega) ?_
    refine And.intro (show (0 : Int) ≤ cVl (kidN c 0) ∧ cVl (kidN c 0) < ((cDt c).length : Nat) from ⟨h8.1, hv⟩) ?_
    refine Or.inr (Or.inr (Exists.intro _ (Exists.intro _ (And.intro (refS (elt (0 : Int) (cDt c) (cVl (kidN c 0)))) ?_))))
    refine And.intro (by kernel_rfl) ?_
    conv => whnf
    refine lp Nat (fun i => [(6, .int .i64 (i : Nat))]) (fun i => [.cel 5 32 (cSV (choC (elt (0 : Int) (cDt c) (cVl (kidN c 0))) (l.take i))), .cel 4 32 [.int .i64 0, .int .i64 0, .raw (.slice none 0 0), .raw (.slice none 0 0)], .cel 10000 32 (cSV c)]) (fun i => l.length - i) (fun i => i ≤ l.length) 0 (Nat.zero_le _) ?_ ?_
    · exact hd [] rfl (And.intro ⟨rfl, rfl⟩ trivial) ⟨trivial, ⟨⟨rfl, rfl⟩, ⟨rfl, rfl⟩, rfl, rfl, trivial⟩, trivial, ⟨⟨rfl, rfl⟩, ⟨rfl, rfl⟩, rfl, rfl, trivial⟩, trivial, ⟨⟨rfl, rfl⟩, ⟨rfl, rfl⟩, rfl, rfl, trivial⟩, trivial⟩
    intro i hi
    refine And.intro (fun q1 => ?_) (fun q1 => ?_)
    · have hlt : i < l.length := by have : ((i : Nat) : Int) < (l.length : Nat) := of_decide_eq_true q1; omega
      conv => whnf
      refine And.intro (show (0 : Int) ≤ (i : Nat) ∧ ((i : Nat) : Int) < (l.length : Nat) by omega) ?_
      refine Or.inr (Or.inr (Exists.intro _ (Exists.intro _ (And.intro (appS (choC (elt (0 : Int) (cDt c) (cVl (kidN c 0))) (l.take i)) (elt (dflt uCor) l ((i : Nat) : Int))) ?_))))
      refine And.intro (by kernel_rfl) ?_
      refine lp_next (i + 1) hlt ?_ (by show l.length - (i + 1) < l.length - i; omega)
      rw [cho_take _ hlt]
      exact Go.Tr.hd [] rfl (And.intro ⟨wrapI (by omega), rfl⟩ trivial) ⟨trivial, ⟨⟨rfl, rfl⟩, ⟨rfl, rfl⟩, rfl, rfl, trivial⟩, trivial, ⟨⟨rfl, rfl⟩, ⟨rfl, rfl⟩, rfl, rfl, trivial⟩, trivial, ⟨⟨rfl, rfl⟩, ⟨rfl, rfl⟩, rfl, rfl, trivial⟩, trivial⟩
    have hge : l.length ≤ i := by have : ¬ ((i : Nat) : Int) < (l.length : Nat) := of_decide_eq_false q1; omega
    refine fin [] (And.intro ?_ ⟨trivial, ⟨⟨rfl, rfl⟩, ⟨rfl, rfl⟩, rfl, rfl, trivial⟩, trivial⟩)
    show SV.agg (cSV (choC (elt (0 : Int) (cDt c) (cVl (kidN c 0))) (l.take i))) = SV.agg (cSV (choC (elt (0 : Int) (cDt c) (cVl (kidN c 0))) l))
    rw [List.take_of_length_le hge]
  · have hl := ar10 hg a10
    have a9 : (cKd c == 9) = false := kd_no a10 rfl
    rw [show conC b 3 c = refC (elt (0 : Int) (cDt c) (bif cVl (kidN c 0) == 0 then 1 else 0)) by unfold conC swiC; rw [a9]; rfl]
    refine FCallG.intro (nt := 61) ti_ok mixed okRCho Tryz.func78 rfl rfl rfl rfl rfl rfl ?_
    refine And.intro (fun _ => ?_) (fun q => by rw [a10] at q; cases q)
    refine And.intro (show (0 : Int) ≤ 0 ∧ (0 : Int) < (c.kids.length : Nat) by omega) ?_
    refine And.intro (fun q => ?_) (fun q => ?_)
    · have q' : (cVl (kidN c 0) != 0) = true := q
      rw [show (cVl (kidN c 0) == 0) = false by revert q'; rw [bne]; cases (cVl (kidN c 0) == 0) <;> simp]
      refine And.intro (show (0 : Int) ≤ 0 ∧ (0 : Int) < ((cDt c).length : Nat) by omega) ?_
      refine Or.inr (Or.inr (Exists.intro _ (Exists.intro _ (And.intro (refS (elt (0 : Int) (cDt c) 0)) ?_))))
      refine fin [] (And.intro ?_ ⟨trivial, ⟨⟨rfl, rfl⟩, ⟨rfl, rfl⟩, rfl, rfl, trivial⟩, trivial⟩)
      exact rfl
    · have q' : (cVl (kidN c 0) != 0) = false := q
      rw [show (cVl (kidN c 0) == 0) = true by revert q'; rw [bne]; cases (cVl (kidN c 0) == 0) <;> simp]
      refine And.intro (show (0 : Int) ≤ 1 ∧ (1 : Int) < ((cDt c).length : Nat) by omega) ?_
      refine Or.inr (Or.inr (Exists.intro _ (Exists.intro _ (And.intro (refS (elt (0 : Int) (cDt c) 1)) ?_))))
      refine fin [] (And.intro ?_ ⟨trivial, ⟨⟨rfl, rfl⟩, ⟨rfl, rfl⟩, rfl, rfl, trivial⟩, trivial⟩)
      exact rfl

set_option maxHeartbeats 1000000 in
set_option maxRecDepth 100000 in
theorem expSK (b : Bok) (c : Cor) (hg : goodT c = true) (hn : nmT (b.length : Nat) c = true) (h : kindF c = 4) : FCallG Tryz.prog 79 [rpB b, .ptr 10000 0, .rsl uCor c.kids] [.cel 10000 32 (cSV c)] (.agg (cSV (conC b 4 c))) [.cel 10000 32 (cSV c)] := by
  obtain ⟨i, hi, hil, hi11⟩ := at_ok hg h
  have mi := kidM hil
  have gi := good_kid hg mi
  have hv := ar11 gi hi11
  have hvn := nm_ref (nm_kid hn mi) hi11
  have hkl := (good_dt hg).2
  have h0 : 0 < c.kids.length := by omega
  have ha : atC c = (bif (cKd (kidN c 0) != 11) then 1 else 0) := by unfold atC; rw [bne]; cases cKd (kidN c 0) == 11 <;> rfl
  rw [hi] at ha
  refine FCallG.fzT (ts1 := [.cel 10000 32 (cSV c)]) (ts2 := [.dat 10001 32 4 uCor (c.kids.set i (elt (dflt uCor) b (cVl (kidN c ((i : Nat) : Int)))))]) (r1 := .agg [.int .i64 (cKd c), .int .i64 (cVl c), .rsl (.int .i64) (cDt c), .sl 10001]) ?_ (by
    show SV.agg (cSV (mkC (cKd c) (cVl c) (cDt c) (c.kids.set i (elt (dflt uCor) b (cVl (kidN c ((i : Nat) : Int))))))) = SV.agg (cSV (conC b 4 c))
    unfold conC expC; rw [hi]; rfl)
  refine FCallG.intro (nt := 52) ti_ok mixed okExpS Tryz.func79 rfl rfl rfl rfl rfl rfl ?_
  conv => whnf
  refine And.intro (by show c.kids.length ≤ _; omega) ?_
  refine And.intro (by kernel_rfl) ?_
  refine And.intro (show (0 : Int) ≤ 0 ∧ (0 : Int) < (c.kids.length : Nat) by omega) ?_
  refine And.intro (fun q => ?_) (fun q => ?_)
  · rw [show (cKd (kidN c 0) != 11) = true from q] at ha
    have h1 : i = 1 := by have ha : ((i : Nat) : Int) = 1 := ha; omega
    subst h1
    conv => whnf
    refine And.intro (by omega) ?_
    refine And.intro ⟨hv.1, hvn⟩ ?_
    refine And.intro (by omega) ?_
    refine And.intro (by kernel_rfl) ?_
    refine fin [(10001, 23)] (And.intro rfl ?_)
    refine ⟨trivial, ⟨⟨rfl, rfl⟩, ⟨rfl, rfl⟩, rfl, rfl, trivial⟩, ?_, trivial⟩
    show c.kids.set 1 (.node (cKd (elt (dflt uCor) b (cVl (kidN c 1))), cVl (elt (dflt uCor) b (cVl (kidN c 1))), cDt (elt (dflt uCor) b (cVl (kidN c 1)))) (elt (dflt uCor) b (cVl (kidN c 1))).kids) = _
    rw [node_eta]; rfl
  · rw [show (cKd (kidN c 0) != 11) = false from q] at ha
    have h1 : i = 0 := by have ha : ((i : Nat) : Int) = 0 := ha; omega
    subst h1
    conv => whnf
    refine And.intro (by omega) ?_
    refine And.intro ⟨hv.1, hvn⟩ ?_
    refine And.intro (by omega) ?_
    refine And.intro (by kernel_rfl) ?_
    refine fin [(10001, 23)] (And.intro rfl ?_)
    refine ⟨trivial, ⟨⟨rfl, rfl⟩, ⟨rfl, rfl⟩, rfl, rfl, trivial⟩, ?_, trivial⟩
    show c.kids.set 0 (.node (cKd (elt (dflt uCor) b (cVl (kidN c 0))), cVl (elt (dflt uCor) b (cVl (kidN c 0))), cDt (elt (dflt uCor) b (cVl (kidN c 0)))) (elt (dflt uCor) b (cVl (kidN c 0))).kids) = _
    rw [node_eta]; rfl

set_option maxHeartbeats 1000000 in
set_option maxRecDepth 100000 in
theorem conSGK (b : Bok) (c : Cor) (hc : okC c = true) (hn : nmT (b.length : Nat) c = true) (h : (kindF c != 0) = true) : FCallG Tryz.prog 55 [rpB b, .ptr 10000 0, .int .i64 (kindF c)] [.cel 10000 32 (cSV c)] (.tup [.agg (cSV (conS b (kindF c) c).1), .int .i64 (conS b (kindF c) c).2]) [.cel 10000 32 (cSV c)] := by
  have hg := (okC_iff.1 hc).1
  have h0 : kindF c ≠ 0 := by simpa using h
  rcases kind_all c with k | k | k | k | k
  · exact absurd k h0
  · obtain ⟨a5, b4⟩ := kind1 k
    rw [k]
    have hl := ar5 hg a5
    have m0 : kidN c 0 ∈ c.kids := kidM (c := c) (i := 0) (by omega)
    have m1 : kidN c 1 ∈ c.kids := kidM (c := c) (i := 1) (by omega)
    have g0 := okC_kid hc m0
    have hl4 := ar4 (okC_iff.1 g0).1 b4
    have m2 : kidN (kidN c 0) 0 ∈ (kidN c 0).kids := kidM (c := kidN c 0) (i := 0) (by omega)
    rw [show conS b 1 c = inR (kidN (kidN c 0) 0) (kidN c 1) from rfl]
    refine FCallG.intro (nt := 67) ti_ok mixed okConS Tryz.func55 rfl rfl rfl rfl rfl rfl ?_
    refine And.intro (fun _ => ?_) (fun q => by cases q)
    conv => whnf
    refine And.intro (show (0 : Int) ≤ 0 ∧ (0 : Int) < (c.kids.length : Nat) by omega) ?_
    refine And.intro (show (0 : Int) ≤ 0 ∧ (0 : Int) < ((kidN c 0).kids.length : Nat) by omega) ?_
    refine And.intro (show (0 : Int) ≤ 1 ∧ (1 : Int) < (c.kids.length : Nat) by omega) ?_
    conv => whnf
    refine Or.inr (Or.inr (Exists.intro _ (Exists.intro _ (And.intro (by
      show FCallG _ _ [.rp uCor (kidN (kidN c 0) 0), .rp uCor (kidN c 1)] _ _ _
      exact instS (kidN (kidN c 0) 0) (kidN c 1) (okC_kid g0 m2) (okC_kid hc m1)) ?_))))
    refine And.intro (by kernel_rfl) ?_
    refine fin [] (And.intro ?_ ⟨trivial, ⟨⟨rfl, rfl⟩, ⟨rfl, rfl⟩, rfl, rfl, trivial⟩, trivial⟩)
    exact rfl
  · obtain ⟨a3, _, _⟩ := kind2 k
    rw [k]
    have hl := (ar3 hg a3).1
    rw [show conS b 2 c = (numC (opN (cVl c) (cVl (kidN c 0)) (cVl (kidN c 1))), 0) from rfl]
    refine FCallG.intro (nt := 67) ti_ok mixed okConS Tryz.func55 rfl rfl rfl rfl rfl rfl ?_
    refine And.intro (fun q => by cases q) (fun _ => ?_)
    refine And.intro (fun _ => ?_) (fun q => by cases q)
    conv => whnf
    refine And.intro (show (0 : Int) ≤ 0 ∧ (0 : Int) < (c.kids.length : Nat) by omega) ?_
    refine And.intro (show (0 : Int) ≤ 1 ∧ (1 : Int) < (c.kids.length : Nat) by omega) ?_
    conv => whnf
    refine Or.inl (Exists.intro _ (And.intro (opS (cVl c) (cVl (kidN c 0)) (cVl (kidN c 1))) ?_))
    refine Or.inr (Or.inr (Exists.intro _ (Exists.intro _ (And.intro (numS (opN (cVl c) (cVl (kidN c 0)) (cVl (kidN c 1)))) ?_))))
    refine And.intro (by kernel_rfl) ?_
    refine fin [] (And.intro ?_ ⟨trivial, ⟨⟨rfl, rfl⟩, ⟨rfl, rfl⟩, rfl, rfl, trivial⟩, trivial⟩)
    exact rfl
  · rw [k]
    have hl : 0 < c.kids.length := by
      rcases kind3 k with ⟨a, _⟩ | ⟨a, _⟩
      · have := ar9 hg a; omega
      · have := ar10 hg a; omega
    rw [show conS b 3 c = (conC b 3 c, 0) from rfl]
    refine FCallG.intro (nt := 67) ti_ok mixed okConS Tryz.func55 rfl rfl rfl rfl rfl rfl ?_
    refine And.intro (fun q => by cases q) (fun _ => ?_)
    refine And.intro (fun q => by cases q) (fun _ => ?_)
    refine And.intro (fun _ => ?_) (fun q => by cases q)
    refine And.intro (show (0 : Int) ≤ 0 ∧ (0 : Int) < (c.kids.length : Nat) by omega) ?_
    refine Or.inr (Or.inr (Exists.intro _ (Exists.intro _ (And.intro (choSK c hg k b) ?_))))
    refine fin [] (And.intro ?_ ⟨trivial, ⟨⟨rfl, rfl⟩, ⟨rfl, rfl⟩, rfl, rfl, trivial⟩, trivial⟩)
    exact rfl
  · rw [k]
    rw [show conS b 4 c = (conC b 4 c, 0) from rfl]
    refine FCallG.intro (nt := 67) ti_ok mixed okConS Tryz.func55 rfl rfl rfl rfl rfl rfl ?_
    refine And.intro (fun q => by cases q) (fun _ => ?_)
    refine And.intro (fun q => by cases q) (fun _ => ?_)
    refine And.intro (fun q => by cases q) (fun _ => ?_)
    refine Or.inr (Or.inr (Exists.intro _ (Exists.intro _ (And.intro (expSK b c hg hn k) ?_))))
    refine fin [] (And.intro ?_ ⟨trivial, ⟨⟨rfl, rfl⟩, ⟨rfl, rfl⟩, rfl, rfl, trivial⟩, trivial⟩)
    exact rfl

set_option maxHeartbeats 1000000 in
set_option maxRecDepth 100000 in
theorem innGK (b : Bok) : ∀ c : Cor, okC c = true → nmT (b.length : Nat) c = true → FCallG Tryz.prog 41 [rpB b, .ptr 10000 0] [.cel 10000 32 (cSV c)] (.tup [.agg (cSV (innR b c).1), .int .i64 (innR b c).2.1, .int .i64 (innR b c).2.2]) [.cel 10000 32 (cSV c)] := by
  intro c hc hn
  have hg := (okC_iff.1 hc).1
  have hkl := (good_dt hg).2
  cases hk : (kindF c != 0) with
  | true =>
    rw [show innR b c = ((conS b (kindF c) c).1, kindF c, (conS b (kindF c) c).2) by unfold innR; rw [stS_red hk]]
    refine FCallG.intro (nt := 80) ti_ok mixed okInn Tryz.func41 rfl rfl rfl rfl rfl rfl ?_
    refine Or.inr (Or.inl (Exists.intro _ (Exists.intro _ (And.intro (kdK c hg) ?_))))
    refine And.intro (fun _ => ?_) (fun q => by rw [hk] at q; cases q)
    refine Or.inr (Or.inr (Exists.intro _ (Exists.intro _ (And.intro (conSGK b c hc hn hk) ?_))))
    refine fin [] (And.intro ?_ ⟨trivial, ⟨⟨rfl, rfl⟩, ⟨rfl, rfl⟩, rfl, rfl, trivial⟩, trivial⟩)
    exact rfl
  | false =>
    have kidP : ∀ k ∈ c.kids, FCallG Tryz.prog 41 [rpB b, .rp uCor k] [] (.tup [.agg (cSV (innR b k).1), .int .i64 (innR b k).2.1, .int .i64 (innR b k).2.2]) [] := fun k hm => innG b k (okC_kid hc hm) (nm_kid hn hm)
    by_cases hall : ∀ k ∈ c.kids, Go.Tr.stS b k = none
    · rw [show innR b c = (zeroC, 0, 0) by unfold innR; rw [stS_kids hk, stSL_none hall]]
      refine FCallG.fzT (ts1 := [.cel 10000 32 (cSV c)]) (ts2 := []) (r1 := .tup [.agg [.int .i64 0, .int .i64 0, .raw (.slice none 0 0), .raw (.slice none 0 0)], .int .i64 0, .int .i64 0]) ?_ (Or.inr ⟨_, Or.inr ⟨_, rfl⟩⟩)
      refine FCallG.intro (nt := 80) ti_ok mixed okInn Tryz.func41 rfl rfl rfl rfl rfl rfl ?_
      refine Or.inr (Or.inl (Exists.intro _ (Exists.intro _ (And.intro (kdK c hg) ?_))))
      refine And.intro (fun q => by rw [hk] at q; cases q) (fun _ => ?_)
      refine lp Nat (fun i => [(10, .int .i64 (i : Nat))]) (fun _ => [.cel 4 32 [.int .i64 0, .int .i64 0, .raw (.slice none 0 0), .raw (.slice none 0 0)], .cel 10000 32 (cSV c)]) (fun i => c.kids.length - i) (fun i => i ≤ c.kids.length) 0 (Nat.zero_le _) ?_ ?_
      · exact Go.Tr.hd [] rfl (And.intro ⟨rfl, rfl⟩ trivial) ⟨trivial, ⟨⟨rfl, rfl⟩, ⟨rfl, rfl⟩, rfl, rfl, trivial⟩, trivial, ⟨⟨rfl, rfl⟩, ⟨rfl, rfl⟩, rfl, rfl, trivial⟩, trivial⟩
      intro i hi
      refine And.intro (fun q1 => ?_) (fun q1 => ?_)
      · have hlt : i < c.kids.length := by have : ((i : Nat) : Int) < (c.kids.length : Nat) := of_decide_eq_true q1; omega
        have hmem := kidM hlt
        have hz : innR b (kidN c ((i : Nat) : Int)) = (zeroC, 0, 0) := by unfold innR; rw [hall _ hmem]
        refine And.intro (show (0 : Int) ≤ (i : Nat) ∧ ((i : Nat) : Int) < (c.kids.length : Nat) by omega) ?_
        refine Or.inr (Or.inr (Exists.intro _ (Exists.intro _ (And.intro (by
          show FCallG _ _ [_, .rp uCor (kidN c ((i : Nat) : Int))] _ _ _
          have h := kidP _ hmem
          rw [hz] at h
          exact h) ?_))))
        refine And.intro (fun _ => ?_) (fun q => by cases q)
        refine lp_next (i + 1) hlt ?_ (by show c.kids.length - (i + 1) < c.kids.length - i; omega)
        exact Go.Tr.hd [] rfl (And.intro ⟨wrapI (by omega), rfl⟩ trivial) ⟨trivial, ⟨⟨rfl, rfl⟩, ⟨rfl, rfl⟩, rfl, rfl, trivial⟩, trivial, ⟨⟨rfl, rfl⟩, ⟨rfl, rfl⟩, rfl, rfl, trivial⟩, trivial⟩
      refine fin [] (And.intro ?_ ⟨trivial, ⟨⟨rfl, rfl⟩, ⟨rfl, rfl⟩, rfl, rfl, trivial⟩, trivial⟩)
      exact rfl
    · obtain ⟨j, hj, hbef, r, hjs⟩ := first_someS hall
      have hmj := kidM hj
      have hk4 := stS_kind hjs
      rw [show innR b c = (mkC (cKd c) (cVl c) (cDt c) (c.kids.set j r.1), r.2.1, r.2.2) by unfold innR; rw [stS_kids hk, stSL_some hj hbef hjs]]
      refine FCallG.fzT (ts1 := [.cel 10000 32 (cSV c)]) (ts2 := [.dat 10001 32 4 uCor (c.kids.set j r.1)]) (r1 := .tup [.agg [.int .i64 (cKd c), .int .i64 (cVl c), .rsl (.int .i64) (cDt c), .sl 10001], .int .i64 r.2.1, .int .i64 r.2.2]) ?_ rfl
      refine FCallG.intro (nt := 80) ti_ok mixed okInn Tryz.func41 rfl rfl rfl rfl rfl rfl ?_
      refine Or.inr (Or.inl (Exists.intro _ (Exists.intro _ (And.intro (kdK c hg) ?_))))
      refine And.intro (fun q => by rw [hk] at q; cases q) (fun _ => ?_)
      refine lp Nat (fun i => [(10, .int .i64 (i : Nat))]) (fun _ => [.cel 4 32 [.int .i64 0, .int .i64 0, .raw (.slice none 0 0), .raw (.slice none 0 0)], .cel 10000 32 (cSV c)]) (fun i => c.kids.length - i) (fun i => i ≤ j) 0 (Nat.zero_le _) ?_ ?_
      · exact Go.Tr.hd [] rfl (And.intro ⟨rfl, rfl⟩ trivial) ⟨trivial, ⟨⟨rfl, rfl⟩, ⟨rfl, rfl⟩, rfl, rfl, trivial⟩, trivial, ⟨⟨rfl, rfl⟩, ⟨rfl, rfl⟩, rfl, rfl, trivial⟩, trivial⟩
      intro i hi
      refine And.intro (fun q1 => ?_) (fun q1 => ?_)
      · have hlt : i < c.kids.length := by have : ((i : Nat) : Int) < (c.kids.length : Nat) := of_decide_eq_true q1; omega
        have hmem := kidM hlt
        refine And.intro (show (0 : Int) ≤ (i : Nat) ∧ ((i : Nat) : Int) < (c.kids.length : Nat) by omega) ?_
        refine Or.inr (Or.inr (Exists.intro _ (Exists.intro _ (And.intro (by
          show FCallG _ _ [_, .rp uCor (kidN c ((i : Nat) : Int))] _ _ _
          exact kidP _ hmem) ?_))))
        by_cases hij : i = j
        · subst hij
          have hz : innR b (kidN c ((i : Nat) : Int)) = r := by unfold innR; rw [hjs]
          rw [hz]
          refine And.intro (fun q => ?_) (fun _ => ?_)
          · have q' : (r.2.1 == 0) = true := q
            have : r.2.1 = 0 := by simpa using q'
            omega
          · conv => whnf
            refine And.intro (by show c.kids.length ≤ _; omega) ?_
            refine And.intro (by kernel_rfl) ?_
            refine And.intro (show (0 : Int) ≤ (i : Nat) ∧ ((i : Nat) : Int) < (c.kids.length : Nat) by omega) ?_
            refine fin [(10001, 69)] (And.intro rfl ?_)
            refine ⟨trivial, ⟨⟨rfl, rfl⟩, ⟨rfl, rfl⟩, rfl, rfl, trivial⟩, ?_, trivial⟩
            show c.kids.set i (.node (cKd r.1, cVl r.1, cDt r.1) r.1.kids) = _
            rw [node_eta]
        · have hz : innR b (kidN c ((i : Nat) : Int)) = (zeroC, 0, 0) := by
            unfold innR
            rw [hbef _ (by rw [List.mem_take_iff_getElem]; exact ⟨i, by omega, by rw [kidN, eltN hlt]⟩)]
          rw [hz]
          refine And.intro (fun _ => ?_) (fun q => by cases q)
          refine lp_next (i + 1) (by show i + 1 ≤ j; have : i ≤ j := hi; omega) ?_ (by show c.kids.length - (i + 1) < c.kids.length - i; omega)
          exact Go.Tr.hd [] rfl (And.intro ⟨wrapI (by omega), rfl⟩ trivial) ⟨trivial, ⟨⟨rfl, rfl⟩, ⟨rfl, rfl⟩, rfl, rfl, trivial⟩, trivial, ⟨⟨rfl, rfl⟩, ⟨rfl, rfl⟩, rfl, rfl, trivial⟩, trivial⟩
      have hge : c.kids.length ≤ i := by have : ¬ ((i : Nat) : Int) < (c.kids.length : Nat) := of_decide_eq_false q1; omega
      exfalso
      have : i ≤ j := hi
      omega

set_option maxHeartbeats 1000000 in
set_option maxRecDepth 100000 in
theorem st8GK (b : Bok) (c : Cor) (hc : okC c = true) (hn : nmT (b.length : Nat) c = true) : FCallG Tryz.prog 24 [rpB b, .ptr 10000 0] [.cel 10000 32 (cSV c)] (.tup [.agg (cSV (st8 b c).1), .int .i64 (st8 b c).2.1, .int .i64 (st8 b c).2.2]) [.cel 10000 32 (cSV c)] := by
  have hin := innGK b c hc hn
  obtain ⟨⟨o, k, e⟩, hr⟩ : ∃ r, r = innR b c := ⟨_, rfl⟩
  rw [← hr] at hin
  have h8 : st8 b c = (bif e != 0 then (zeroC, 0, e) else bif (k != 0) && !fitN o then (zeroC, 0, 4) else (o, k, 0)) := by unfold st8; rw [← hr]
  have zfz : ∀ v : Int, (FCallG Tryz.prog 24 [rpB b, .ptr 10000 0] [.cel 10000 32 (cSV c)] (.tup [.agg [.int .i64 0, .int .i64 0, .raw (.slice none 0 0), .raw (.slice none 0 0)], .int .i64 0, .int .i64 v]) [.cel 10000 32 (cSV c)]) → FCallG Tryz.prog 24 [rpB b, .ptr 10000 0] [.cel 10000 32 (cSV c)] (.tup [.agg (cSV zeroC), .int .i64 0, .int .i64 v]) [.cel 10000 32 (cSV c)] := fun v h => FCallG.fzT (ts1 := [.cel 10000 32 (cSV c)]) (ts2 := []) h (Or.inr ⟨_, Or.inr ⟨_, rfl⟩⟩)
  cases he : (e != 0) with
  | true =>
    have hez : (e == 0) = false := by revert he; rw [bne]; cases (e == 0) <;> simp
    rw [h8, he]
    refine zfz e ?_
    refine FCallG.intro (nt := 33) ti_ok mixed okSt8 Tryz.func24 rfl rfl rfl rfl rfl rfl ?_
    refine Or.inr (Or.inr (Exists.intro _ (Exists.intro _ (And.intro hin ?_))))
    refine Or.inr (And.intro (fun q => ?_) (fun _ => Exists.intro (.bool false) ?_))
    · have q' : (bif k != 0 then e == 0 else false) = true := q
      rw [hez] at q'
      revert q'; cases (k != 0) <;> simp
    refine And.intro (fun q => ?_) (fun _ => ?_)
    · have q' : (bif (bif k != 0 then e == 0 else false) then !false else false) = true := q
      rw [hez] at q'
      revert q'; cases (k != 0) <;> simp
    refine And.intro (fun _ => ?_) (fun q => by rw [he] at q; cases q)
    refine fin [] (And.intro ?_ ⟨trivial, ⟨⟨rfl, rfl⟩, ⟨rfl, rfl⟩, rfl, rfl, trivial⟩, trivial⟩)
    exact rfl
  | false =>
    have hez : (e == 0) = true := by revert he; rw [bne]; cases (e == 0) <;> simp
    have he0 : e = 0 := eq_of_beq hez
    subst he0
    rw [h8, he]
    cases hk : (k != 0) with
    | false =>
      show FCallG _ _ _ _ (.tup [.agg (cSV o), .int .i64 k, .int .i64 0]) _
      refine FCallG.intro (nt := 33) ti_ok mixed okSt8 Tryz.func24 rfl rfl rfl rfl rfl rfl ?_
      refine Or.inr (Or.inr (Exists.intro _ (Exists.intro _ (And.intro hin ?_))))
      refine Or.inr (And.intro (fun q => ?_) (fun _ => Exists.intro (.bool false) ?_))
      · have q' : (bif k != 0 then ((0 : Int) == 0) else false) = true := q
        rw [hk] at q'; cases q'
      refine And.intro (fun q => ?_) (fun _ => ?_)
      · have q' : (bif (bif k != 0 then ((0 : Int) == 0) else false) then !false else false) = true := q
        rw [hk] at q'; cases q'
      refine And.intro (fun q => by cases q) (fun _ => ?_)
      refine fin [] (And.intro ?_ ⟨trivial, ⟨⟨rfl, rfl⟩, ⟨rfl, rfl⟩, rfl, rfl, trivial⟩, trivial⟩)
      exact rfl
    | true =>
      cases hf : fitN o with
      | false =>
        show FCallG _ _ _ _ (.tup [.agg (cSV zeroC), .int .i64 0, .int .i64 4]) _
        refine zfz 4 ?_
        refine FCallG.intro (nt := 33) ti_ok mixed okSt8 Tryz.func24 rfl rfl rfl rfl rfl rfl ?_
        refine Or.inr (Or.inr (Exists.intro _ (Exists.intro _ (And.intro hin ?_))))
        refine Or.inr (And.intro (fun _ => Exists.intro _ (Exists.intro _ (And.intro (fitF o) ?_))) (fun q => ?_))
        rotate_left
        · have q' : (bif k != 0 then ((0 : Int) == 0) else false) = false := q
          rw [hk] at q'; cases q'
        refine And.intro (fun _ => ?_) (fun q => ?_)
        rotate_left
        · have q' : (bif (bif k != 0 then ((0 : Int) == 0) else false) then !fitN o else false) = false := q
          rw [hk, hf] at q'; cases q'
        refine And.intro (fun _ => ?_) (fun q => by cases q)
        refine fin [] (And.intro ?_ ⟨trivial, ⟨⟨rfl, rfl⟩, ⟨rfl, rfl⟩, rfl, rfl, trivial⟩, trivial⟩)
        exact rfl
      | true =>
        show FCallG _ _ _ _ (.tup [.agg (cSV o), .int .i64 k, .int .i64 0]) _
        refine FCallG.intro (nt := 33) ti_ok mixed okSt8 Tryz.func24 rfl rfl rfl rfl rfl rfl ?_
        refine Or.inr (Or.inr (Exists.intro _ (Exists.intro _ (And.intro hin ?_))))
        refine Or.inr (And.intro (fun _ => Exists.intro _ (Exists.intro _ (And.intro (fitF o) ?_))) (fun q => ?_))
        rotate_left
        · have q' : (bif k != 0 then ((0 : Int) == 0) else false) = false := q
          rw [hk] at q'; cases q'
        refine And.intro (fun q => ?_) (fun _ => ?_)
        · have q' : (bif (bif k != 0 then ((0 : Int) == 0) else false) then !fitN o else false) = true := q
          rw [hk, hf] at q'; cases q'
        refine And.intro (fun q => by cases q) (fun _ => ?_)
        refine fin [] (And.intro ?_ ⟨trivial, ⟨⟨rfl, rfl⟩, ⟨rfl, rfl⟩, rfl, rfl, trivial⟩, trivial⟩)
        exact rfl
end Go.Proofs.YtieemijapiiiiaaGreat
