/- Core terms: the reference's and the program's tests. -/
import Derived.Test.YtieemijapiiiiaaGreatOa
import Derived.Test.YtieemijapiiiiaaGreatVti
set_option linter.unusedSimpArgs false
set_option linter.unusedVariables false
namespace Go.Proofs.YtieemijapiiiiaaGreat
open Go Go.RowKit Go.Proofs Go.Tr
theorem okInC : callOk Tryz.prog 35 = true := by kernel_rfl
theorem inCQ (n lo hi : Int) : QCall Tryz.prog 35 [.int .i64 n, .int .i64 lo, .int .i64 hi] (.bool (inC n lo hi)) := by
  refine QCall.intro (nt := 15) ti_ok mixed okInC Tryz.func35 rfl rfl rfl rfl rfl ?_
  exact rfl
theorem okShapeC : callOk Tryz.prog 98 = true := by kernel_rfl
theorem shapeQ (k : Int) : QCall Tryz.prog 98 [.int .i64 k] (.tup [.int .i64 (shapeN k).1, .int .i64 (shapeN k).2.1, .int .i64 (shapeN k).2.2.1, .int .i64 (shapeN k).2.2.2]) := by
  refine QCall.intro (nt := 24) ti_ok mixed okShapeC Tryz.func98 rfl rfl rfl rfl rfl ?_
  repeat' (refine And.intro (fun _ => ?_) (fun _ => ?_))
  all_goals (conv => whnf)
  all_goals (simp_all [shapeN, Bool.cond_eq_ite])
theorem okValC : callOk Tryz.prog 99 = true := by kernel_rfl
theorem valQ (c : Cor) : QCall Tryz.prog 99 [.rp uCor c] (.bool (valN (cKd c) (cVl c))) := by
  refine QCall.intro (nt := 47) ti_ok mixed okValC Tryz.func99 rfl rfl rfl rfl rfl ?_
  unfold valN
  refine And.intro (fun q => ?_) (fun q => ?_)
  · rw [show (cKd c == 1) = true from q]
    exact Or.inl (Exists.intro _ (And.intro (inCQ _ _ _) rfl))
  rw [show (cKd c == 1) = false from q]
  refine And.intro (fun q => ?_) (fun q => ?_)
  · rw [show (cKd c == 2) = true from q]
    exact Or.inl (Exists.intro _ (And.intro (inCQ _ _ _) rfl))
  rw [show (cKd c == 2) = false from q]
  refine And.intro (fun q => ?_) (fun q => ?_)
  · rw [show (cKd c == 3) = true from q]
    exact Or.inl (Exists.intro _ (And.intro (inCQ _ _ _) rfl))
  rw [show (cKd c == 3) = false from q]
  refine And.intro (fun q => ?_) (fun q => ?_)
  · rw [show (cKd c == 8) = true from q]
    exact Or.inl (Exists.intro _ (And.intro (inCQ _ _ _) rfl))
  rw [show (cKd c == 8) = false from q]
  refine And.intro (fun q => ?_) (fun q => ?_)
  · rw [show (cKd c == 11) = true from q]
    exact Or.inl (Exists.intro _ (And.intro (inCQ _ _ _) rfl))
  rw [show (cKd c == 11) = false from q]
  exact rfl
theorem okNodesC : callOk Tryz.prog 74 = true := by kernel_rfl
theorem nodesQ : ∀ (c : Cor) (d l : Int), -1000000 ≤ d → d ≤ 1000000 → -1000000 ≤ l → l ≤ 1000000 → QCall Tryz.prog 74 [.rp uCor c, .int .i64 d, .int .i64 l] (.int .i64 (nodesV c d l)) := by
  refine Tree.ind (fun c ih => ?_)
  intro d l hd1 hd2 hl1 hl2
  have hsz := sizT_len c
  have hgi := @goodT_iff c
  have hdi := fun n => @depT_iff c n
  have hno : nodeOk c = (numOk (cKd c) (cVl c) (Tree.kids c).length (cDt c).length && (cDt c).all fun x => inC x 0 23) := rfl
  refine QCall.intro (nt := 103) ti_ok mixed okNodesC Tryz.func74 rfl rfl rfl rfl rfl ?_
  refine Or.inl (Exists.intro _ (And.intro (shapeQ (cKd c)) ?_))
  refine Or.inl (Exists.intro _ (And.intro (fun _ => inCQ _ _ _) ?_))
  refine Or.inl (Exists.intro _ (And.intro (fun _ => inCQ _ _ _) ?_))
  refine Or.inl (Exists.intro _ (And.intro (fun _ => valQ c) ?_))
  have hdep : 1 ≤ depT c := by
    have := (hdi (depT c)).1 (Nat.le_refl _)
    exact this.1
  refine And.intro (fun q => ?_) (fun q => ?_)
  · have e : nodesV c d l = -1 := nodesV_bad fun g1 g2 g3 => ?_
    · exact ⟨e.symm, rfl⟩
    have q' : (bif (bif (bif (bif decide (d < 1) then true else decide (l < 1)) then true else !inC ((Tree.kids c).length : Nat) (shapeN (cKd c)).1 (shapeN (cKd c)).2.1) then true else !inC ((cDt c).length : Nat) (shapeN (cKd c)).2.2.1 (shapeN (cKd c)).2.2.2) then true else !valN (cKd c) (cVl c)) = true := q
    have h1 := (hgi.1 g1).1
    rw [hno] at h1
    simp only [numOk, Bool.and_eq_true] at h1
    rw [decide_eq_false (show ¬ d < 1 by omega), decide_eq_false (show ¬ l < 1 by omega), h1.1.1, h1.1.2.1, h1.1.2.2] at q'
    cases q'
  have q' : (bif (bif (bif (bif decide (d < 1) then true else decide (l < 1)) then true else !inC ((Tree.kids c).length : Nat) (shapeN (cKd c)).1 (shapeN (cKd c)).2.1) then true else !inC ((cDt c).length : Nat) (shapeN (cKd c)).2.2.1 (shapeN (cKd c)).2.2.2) then true else !valN (cKd c) (cVl c)) = false := q
  obtain ⟨hd, hl, hnum⟩ : 1 ≤ d ∧ 1 ≤ l ∧ numOk (cKd c) (cVl c) (Tree.kids c).length (cDt c).length = true := by
    by_cases e1 : d < 1
    · rw [decide_eq_true e1] at q'; cases q'
    by_cases e2 : l < 1
    · rw [decide_eq_false e1, decide_eq_true e2] at q'; cases q'
    refine ⟨by omega, by omega, ?_⟩
    rw [decide_eq_false e1, decide_eq_false e2] at q'
    unfold numOk
    revert q'
    cases inC ((Tree.kids c).length : Nat) (shapeN (cKd c)).1 (shapeN (cKd c)).2.1 <;> cases inC ((cDt c).length : Nat) (shapeN (cKd c)).2.2.1 (shapeN (cKd c)).2.2.2 <;> cases valN (cKd c) (cVl c) <;> simp
  clear q q'
  obtain ⟨hkids, hlens⟩ := numOk_b hnum
  refine lp Nat (fun i => [(11, .int .i64 (i : Nat))]) (fun _ => []) (fun i => (cDt c).length - i) (fun i => i ≤ (cDt c).length ∧ ∀ x ∈ (cDt c).take i, inC x 0 23 = true) 0 ⟨Nat.zero_le _, by simp⟩ ?_ ?_
  · exact Go.Tr.hd [] rfl (And.intro ⟨rfl, rfl⟩ trivial) trivial
  rintro i ⟨hi, hall⟩
  refine And.intro (fun q1 => ?_) (fun q1 => ?_)
  · have hlt : i < (cDt c).length := by have : ((i : Nat) : Int) < ((cDt c).length : Nat) := of_decide_eq_true q1; omega
    refine And.intro (show (0 : Int) ≤ (i : Nat) ∧ ((i : Nat) : Int) < ((cDt c).length : Nat) by omega) ?_
    refine Or.inl (Exists.intro _ (And.intro (inCQ _ _ _) ?_))
    refine And.intro (fun q2 => ?_) (fun q2 => ?_)
    · have q2' : (!inC (elt 0 (cDt c) (i : Nat)) 0 23) = true := q2
      have e : nodesV c d l = -1 := nodesV_bad fun g1 g2 g3 => ?_
      · exact ⟨e.symm, rfl⟩
      have h1 := (hgi.1 g1).1
      rw [hno, Bool.and_eq_true, List.all_eq_true] at h1
      rw [h1.2 _ (eltM hlt)] at q2'
      cases q2'
    · have q2' : (!inC (elt 0 (cDt c) (i : Nat)) 0 23) = false := q2
      refine lp_next (i + 1) ⟨hlt, fun x hx => ?_⟩ ?_ (by show (cDt c).length - (i + 1) < (cDt c).length - i; omega)
      · rw [takeE (d := (0 : Int)) hlt] at hx
        rcases List.mem_append.1 hx with hx | hx
        · exact hall x hx
        · rw [List.mem_singleton.1 hx]; simpa using q2'
      · exact Go.Tr.hd [] rfl (And.intro ⟨wrapI (by omega), rfl⟩ trivial) trivial
  have hge : (cDt c).length ≤ i := by have : ¬ ((i : Nat) : Int) < ((cDt c).length : Nat) := of_decide_eq_false q1; omega
  have hnode : nodeOk c = true := by
    rw [hno, hnum, Bool.true_and, List.all_eq_true]
    intro x hx
    exact hall x (by rw [List.take_of_length_le hge]; exact hx)
  refine lp Nat (fun i => [(12, .int .i64 (sizL ((Tree.kids c).take i) 1 : Nat)), (13, .int .i64 (i : Nat))]) (fun _ => []) (fun i => (Tree.kids c).length - i) (fun i => i ≤ (Tree.kids c).length ∧ ∀ k ∈ (Tree.kids c).take i, goodT k = true ∧ (depT k : Int) ≤ d - 1 ∧ (sizL ((Tree.kids c).take i) 1 : Int) ≤ l) 0 ⟨Nat.zero_le _, by simp⟩ ?_ ?_
  · exact Go.Tr.hd [] rfl (And.intro ⟨by simp [sizL], rfl⟩ (And.intro ⟨rfl, rfl⟩ trivial)) trivial
  rintro j ⟨hj, hall2⟩
  have hnl : (sizL ((Tree.kids c).take j) 1 : Int) ≤ l := by
    rcases Nat.eq_zero_or_pos j with rfl | hp
    · simp [sizL]; omega
    · have hlt0 : 0 < (Tree.kids c).length := by omega
      exact (hall2 (elt (dflt uCor) (Tree.kids c) ((0 : Nat) : Int)) (by
        rw [List.mem_take_iff_getElem]
        exact ⟨0, by omega, by rw [eltN hlt0]⟩)).2.2
  refine And.intro (fun q3 => ?_) (fun q3 => ?_)
  · have hlt : j < (Tree.kids c).length := by have : ((j : Nat) : Int) < ((Tree.kids c).length : Nat) := of_decide_eq_true q3; omega
    have hmem := eltM (d := dflt uCor) hlt
    have hc := ih _ hmem (d - 1) (l - (sizL ((Tree.kids c).take j) 1 : Nat)) (by omega) (by omega) (by omega) (by omega)
    have hst := sizL_take hlt
    have hpre := sizL_pre (Tree.kids c) (j + 1)
    refine And.intro (show (0 : Int) ≤ (j : Nat) ∧ ((j : Nat) : Int) < ((Tree.kids c).length : Nat) by omega) ?_
    refine Or.inl (Exists.intro _ (And.intro (by
      show QCall _ _ [_, .int .i64 (IntKind.i64.wrap (d - 1)), .int .i64 (IntKind.i64.wrap (l - (sizL ((Tree.kids c).take j) 1 : Nat)))] _
      rw [wrapI (x := d - 1) (by omega), wrapI (x := l - (sizL ((Tree.kids c).take j) 1 : Nat)) (by omega)]
      exact hc) ?_))
    refine And.intro (fun q4 => ?_) (fun q4 => ?_)
    · have q4' := of_decide_eq_true (show decide (nodesV (elt (dflt uCor) (Tree.kids c) ((j : Nat) : Int)) (d - 1) (l - (sizL ((Tree.kids c).take j) 1 : Nat)) < 0) = true from q4)
      have e : nodesV c d l = -1 := nodesV_bad fun g1 g2 g3 => nodesV_neg q4' ((hgi.1 g1).2 _ hmem) ?_ ?_
      · exact ⟨e.symm, rfl⟩
      · have h9 := ((hdi d.toNat).1 (by omega)).2 _ hmem
        omega
      · rw [sizT_kids] at g3
        omega
    · have q4' := of_decide_eq_false (show decide (nodesV (elt (dflt uCor) (Tree.kids c) ((j : Nat) : Int)) (d - 1) (l - (sizL ((Tree.kids c).take j) 1 : Nat)) < 0) = false from q4)
      obtain ⟨p1, p2, p3⟩ := nodesV_pos q4'
      have p4 := nodesV_ok p1 p2 p3
      refine lp_next (j + 1) ⟨hlt, fun x hx => ?_⟩ ?_ (by show (Tree.kids c).length - (j + 1) < (Tree.kids c).length - j; omega)
      · rw [takeE (d := dflt uCor) hlt] at hx
        rcases List.mem_append.1 hx with hx | hx
        · obtain ⟨r1, r2, _⟩ := hall2 x hx
          exact ⟨r1, r2, by rw [hst]; omega⟩
        · rw [List.mem_singleton.1 hx]
          exact ⟨p1, p2, by rw [hst]; omega⟩
      · exact Go.Tr.hd [] rfl (And.intro ⟨by rw [hst, p4]; exact (wrapI (by omega)).trans (by omega), rfl⟩ (And.intro ⟨wrapI (by omega), rfl⟩ trivial)) trivial
  have hge2 : (Tree.kids c).length ≤ j := by have : ¬ ((j : Nat) : Int) < ((Tree.kids c).length : Nat) := of_decide_eq_false q3; omega
  rw [List.take_of_length_le hge2] at hnl hall2
  have e : nodesV c d l = sizT c := nodesV_ok (hgi.2 ⟨hnode, fun k hk => (hall2 k hk).1⟩) (by
    have : depT c ≤ d.toNat := (hdi d.toNat).2 ⟨by omega, fun k hk => by have := (hall2 k hk).2.1; omega⟩
    omega) (by rw [sizT_kids]; exact hnl)
  exact ⟨by rw [e, sizT_kids, List.take_of_length_le hge2], rfl⟩
theorem okOkC : callOk Tryz.prog 52 = true := by kernel_rfl
theorem okCQ (c : Cor) : QCall Tryz.prog 52 [.rp uCor c] (.bool (okC c)) := by
  refine QCall.intro (nt := 6) ti_ok mixed okOkC Tryz.func52 rfl rfl rfl rfl rfl ?_
  refine Or.inl (Exists.intro _ (And.intro (nodesQ c 80 400 (by decide) (by decide) (by decide) (by decide)) ?_))
  exact nodesV_okC c
/-! ### the program's -/
theorem okIntC : callOk Tryz.prog 94 = true := by kernel_rfl
theorem isIntQ (n : Int) : QCall Tryz.prog 94 [.int .i64 n] (.bool (inC n (-2147483648) 2147483647)) := by
  refine QCall.intro (nt := 9) ti_ok mixed okIntC Tryz.func94 rfl rfl rfl rfl rfl ?_
  exact rfl
theorem okOprC : callOk Tryz.prog 95 = true := by kernel_rfl
theorem isOprQ (n : Int) : QCall Tryz.prog 95 [.int .i64 n] (.bool (inC n 1 6)) := by
  refine QCall.intro (nt := 9) ti_ok mixed okOprC Tryz.func95 rfl rfl rfl rfl rfl ?_
  exact rfl
theorem okDefC : callOk Tryz.prog 96 = true := by kernel_rfl
theorem isDefQ (n : Int) : QCall Tryz.prog 96 [.int .i64 n] (.bool (inC n 0 23)) := by
  refine QCall.intro (nt := 9) ti_ok mixed okDefC Tryz.func96 rfl rfl rfl rfl rfl ?_
  show (bif decide (0 ≤ n) then decide (n < 24) else false) = inC n 0 23
  unfold inC
  rw [show decide (n < 24) = decide (n ≤ 23) from decide_eq_decide.2 (by omega)]
end Go.Proofs.YtieemijapiiiiaaGreat
