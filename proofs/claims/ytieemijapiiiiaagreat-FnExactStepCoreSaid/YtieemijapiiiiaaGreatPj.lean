/- Core terms: what fits; the reference's step with its code. -/
import Derived.Test.YtieemijapiiiiaaGreatPi
set_option linter.unusedSimpArgs false
set_option linter.unusedVariables false
namespace Go.Proofs.YtieemijapiiiiaaGreat
open Go Go.RowKit Go.Proofs Go.Tr
theorem okLeft : callOk Tryz.prog 56 = true := by kernel_rfl
set_option maxRecDepth 100000 in
theorem leftQ : ∀ (c : Cor) (n : Int), 0 ≤ n → n ≤ 1000 → QCall Tryz.prog 56 [.rp uCor c, .int .i64 n] (.int .i64 (leftV (sizT c) n)) := by
  refine Tree.ind (fun c ih => ?_)
  intro n h0 h1
  have hk := sizT_kids c
  have hln := sizT_len c
  have iv : ∀ (s : Nat) (m : Int), (leftV s m = m - s ∧ (s : Int) ≤ m) ∨ (leftV s m = -1 ∧ m < (s : Int)) := fun s m => by
    unfold leftV
    by_cases h : (s : Int) ≤ m
    · rw [decide_eq_true h]; exact Or.inl ⟨rfl, h⟩
    · rw [decide_eq_false h]; exact Or.inr ⟨rfl, by omega⟩
  refine QCall.intro (nt := 30) ti_ok mixed okLeft Tryz.func56 rfl rfl rfl rfl rfl ?_
  refine lp Nat (fun i => [(1, .int .i64 (leftV (sizL (c.kids.take i) 1) n)), (5, .int .i64 (i : Nat))]) (fun _ => []) (fun i => c.kids.length - i) (fun i => i ≤ c.kids.length) 0 (Nat.zero_le _) ?_ ?_
  · refine Go.Tr.hd [] rfl (And.intro ⟨?_, rfl⟩ (And.intro ⟨rfl, rfl⟩ trivial)) trivial
    show IntKind.i64.wrap (n - 1) = leftV (sizL (c.kids.take 0) 1) n
    rw [wrapI (by omega)]
    have e : sizL (c.kids.take 0) 1 = 1 := by simp [sizL]
    rw [e]
    rcases iv 1 n with h | h <;> omega
  intro i hi
  have hi : i ≤ c.kids.length := hi
  have hpre := sizL_pre c.kids i
  refine And.intro (fun q1 => ?_) (fun q1 => ?_)
  · obtain ⟨q2, q3⟩ := bif_t (a := decide (((i : Nat) : Int) < (c.kids.length : Nat))) (b := decide (0 ≤ leftV (sizL (c.kids.take i) 1) n)) q1
    have hlt : i < c.kids.length := by have := of_decide_eq_true q2; omega
    have hge0 := of_decide_eq_true q3
    have hil : 1 + i ≤ sizL (c.kids.take i) 1 := by have := sizL_len (c.kids.take i) 1; rw [List.length_take, Nat.min_eq_left (by omega)] at this; exact this
    have hmem := kidM hlt
    have h2 := sizL_take hlt
    have hlv : leftV (sizL (c.kids.take i) 1) n = n - (sizL (c.kids.take i) 1 : Nat) ∧ ((sizL (c.kids.take i) 1 : Nat) : Int) ≤ n := by
      rcases iv (sizL (c.kids.take i) 1) n with h | h
      · exact h
      · omega
    refine And.intro (show (0 : Int) ≤ (i : Nat) ∧ ((i : Nat) : Int) < (c.kids.length : Nat) by omega) ?_
    refine Or.inl (Exists.intro _ (And.intro (ih _ hmem (leftV (sizL (c.kids.take i) 1) n) hge0 (by omega)) ?_))
    refine lp_next (i + 1) hlt ?_ (by show c.kids.length - (i + 1) < c.kids.length - i; omega)
    refine Go.Tr.hd [] rfl (And.intro ⟨?_, rfl⟩ (And.intro ⟨wrapI (by omega), rfl⟩ trivial)) trivial
    show leftV (sizT (elt (dflt uCor) c.kids ((i : Nat) : Int))) (leftV (sizL (c.kids.take i) 1) n) = leftV (sizL (c.kids.take (i + 1)) 1) n
    rcases iv (sizT (elt (dflt uCor) c.kids ((i : Nat) : Int))) (leftV (sizL (c.kids.take i) 1) n) with h | h <;> rcases iv (sizL (c.kids.take (i + 1)) 1) n with h' | h' <;> omega
  · refine ⟨?_, rfl⟩
    show leftV (sizL (c.kids.take i) 1) n = leftV (sizT c) n
    have q2 := bif_f (a := decide (((i : Nat) : Int) < (c.kids.length : Nat))) (b := decide (0 ≤ leftV (sizL (c.kids.take i) 1) n)) q1
    by_cases hlt : i < c.kids.length
    · rw [decide_eq_true (show ((i : Nat) : Int) < (c.kids.length : Nat) by omega), Bool.true_and] at q2
      have hneg := of_decide_eq_false q2
      rcases iv (sizL (c.kids.take i) 1) n with h | h
      · omega
      · rcases iv (sizT c) n with h' | h' <;> omega
    · rw [List.take_of_length_le (by omega), ← hk]
theorem okFitS : callOk Tryz.prog 42 = true := by kernel_rfl
theorem fitS (c : Cor) : QCall Tryz.prog 42 [.rp uCor c] (.bool (fitN c)) := by
  have e : decide (0 ≤ leftV (sizT c) 400) = decide (sizT c ≤ 400) := by
    unfold leftV
    by_cases h : ((sizT c : Nat) : Int) ≤ 400
    · rw [decide_eq_true h, decide_eq_true (show sizT c ≤ 400 by omega)]
      show decide (0 ≤ (400 : Int) - (sizT c : Nat)) = true
      exact decide_eq_true (by omega)
    · rw [decide_eq_false h, decide_eq_false (show ¬ sizT c ≤ 400 by omega)]; rfl
  refine QCall.intro (nt := 11) ti_ok mixed okFitS Tryz.func42 rfl rfl rfl rfl rfl ?_
  refine Or.inl (Exists.intro _ (And.intro (leftQ c 400 (by decide) (by decide)) ?_))
  refine Or.inl (Exists.intro _ (And.intro (fun q => depS c (by
    have q' : decide (0 ≤ leftV (sizT c) 400) = true := q
    rw [e] at q'
    have := of_decide_eq_true q'
    omega)) ?_))
  show (bif decide (0 ≤ leftV (sizT c) 400) then decide (((depT c : Nat) : Int) ≤ 80) else false) = fitN c
  rw [e]
  unfold fitN
  rw [show decide (((depT c : Nat) : Int) ≤ 80) = decide (depT c ≤ 80) by rw [Bool.eq_iff_iff, decide_eq_true_eq, decide_eq_true_eq]; omega]
  cases decide (sizT c ≤ 400) <;> rfl
theorem fitF (c : Cor) : FCall Tryz.prog 42 [.ptr 10000 0] [.cel 10000 32 (cSV c)] (.bool (fitN c)) [.cel 10000 32 (cSV c)] :=
  FCall.of_q ti_ok [52] okFitS (by
    show QCall _ _ [.rp uCor (.node (cKd c, cVl c, cDt c) (Tree.kids c))] _
    rw [node_eta]
    exact fitS c) rfl
theorem okSt8 : callOk Tryz.prog 24 = true := by kernel_rfl
set_option maxHeartbeats 1000000 in
set_option maxRecDepth 100000 in
theorem st8G (b : Bok) (c : Cor) (hc : okC c = true) (hn : nmT (b.length : Nat) c = true) : FCallG Tryz.prog 24 [rpB b, .rp uCor c] [] (.tup [.agg (cSV (st8 b c).1), .int .i64 (st8 b c).2.1, .int .i64 (st8 b c).2.2]) [] := by
  have hin := innG b c hc hn
  obtain ⟨⟨o, k, e⟩, hr⟩ : ∃ r, r = innR b c := ⟨_, rfl⟩
  rw [← hr] at hin
  have h8 : st8 b c = (bif e != 0 then (zeroC, 0, e) else bif (k != 0) && !fitN o then (zeroC, 0, 4) else (o, k, 0)) := by unfold st8; rw [← hr]
  have zfz : ∀ v : Int, (FCallG Tryz.prog 24 [rpB b, .rp uCor c] [] (.tup [.agg [.int .i64 0, .int .i64 0, .raw (.slice none 0 0), .raw (.slice none 0 0)], .int .i64 0, .int .i64 v]) []) → FCallG Tryz.prog 24 [rpB b, .rp uCor c] [] (.tup [.agg (cSV zeroC), .int .i64 0, .int .i64 v]) [] := fun v h => FCallG.fz h (Or.inr ⟨_, Or.inr ⟨_, rfl⟩⟩)
  cases he : (e != 0) with
  | true =>
    have hez : (e == 0) = false := by revert he; rw [bne]; cases (e == 0) <;> simp
    rw [h8, he]
    refine zfz e ?_
    refine FCallG.intro (nt := 33) ti_ok mixed okSt8 Tryz.func24 rfl rfl rfl rfl rfl rfl ?_
    refine Or.inr (Or.inr (Exists.intro _ (Exists.intro _ (And.intro hin ?_))))
    refine Or.inr (And.intro (fun q => ?_) (fun _ => Exists.intro (.bool false) ?_))
    · have q' : (bif k != 0 then e == 0 else false) = true := q
      rw [hez] at q'
      revert q'; cases (k != 0) <;> simp
    refine And.intro (fun q => ?_) (fun _ => ?_)
    · have q' : (bif (bif k != 0 then e == 0 else false) then !false else false) = true := q
      rw [hez] at q'
      revert q'; cases (k != 0) <;> simp
    refine And.intro (fun _ => ?_) (fun q => by rw [he] at q; cases q)
    refine fin [] (And.intro ?_ trivial)
    exact rfl
  | false =>
    have hez : (e == 0) = true := by revert he; rw [bne]; cases (e == 0) <;> simp
    have he0 : e = 0 := eq_of_beq hez
    subst he0
    rw [h8, he]
    cases hk : (k != 0) with
    | false =>
      show FCallG _ _ _ _ (.tup [.agg (cSV o), .int .i64 k, .int .i64 0]) _
      refine FCallG.intro (nt := 33) ti_ok mixed okSt8 Tryz.func24 rfl rfl rfl rfl rfl rfl ?_
      refine Or.inr (Or.inr (Exists.intro _ (Exists.intro _ (And.intro hin ?_))))
      refine Or.inr (And.intro (fun q => ?_) (fun _ => Exists.intro (.bool false) ?_))
      · have q' : (bif k != 0 then ((0 : Int) == 0) else false) = true := q
        rw [hk] at q'; cases q'
      refine And.intro (fun q => ?_) (fun _ => ?_)
      · have q' : (bif (bif k != 0 then ((0 : Int) == 0) else false) then !false else false) = true := q
        rw [hk] at q'; cases q'
      refine And.intro (fun q => by cases q) (fun _ => ?_)
      refine fin [] (And.intro ?_ trivial)
      exact rfl
    | true =>
      cases hf : fitN o with
      | false =>
        show FCallG _ _ _ _ (.tup [.agg (cSV zeroC), .int .i64 0, .int .i64 4]) _
        refine zfz 4 ?_
        refine FCallG.intro (nt := 33) ti_ok mixed okSt8 Tryz.func24 rfl rfl rfl rfl rfl rfl ?_
        refine Or.inr (Or.inr (Exists.intro _ (Exists.intro _ (And.intro hin ?_))))
        refine Or.inr (And.intro (fun _ => Exists.intro _ (Exists.intro _ (And.intro (fitF o) ?_))) (fun q => ?_))
        rotate_left
        · have q' : (bif k != 0 then ((0 : Int) == 0) else false) = false := q
          rw [hk] at q'; cases q'
        refine And.intro (fun _ => ?_) (fun q => ?_)
        rotate_left
        · have q' : (bif (bif k != 0 then ((0 : Int) == 0) else false) then !fitN o else false) = false := q
          rw [hk, hf] at q'; cases q'
        refine And.intro (fun _ => ?_) (fun q => by cases q)
        refine fin [] (And.intro ?_ trivial)
        exact rfl
      | true =>
        show FCallG _ _ _ _ (.tup [.agg (cSV o), .int .i64 k, .int .i64 0]) _
        refine FCallG.intro (nt := 33) ti_ok mixed okSt8 Tryz.func24 rfl rfl rfl rfl rfl rfl ?_
        refine Or.inr (Or.inr (Exists.intro _ (Exists.intro _ (And.intro hin ?_))))
        refine Or.inr (And.intro (fun _ => Exists.intro _ (Exists.intro _ (And.intro (fitF o) ?_))) (fun q => ?_))
        rotate_left
        · have q' : (bif k != 0 then ((0 : Int) == 0) else false) = false := q
          rw [hk] at q'; cases q'
        refine And.intro (fun q => ?_) (fun _ => ?_)
        · have q' : (bif (bif k != 0 then ((0 : Int) == 0) else false) then !fitN o else false) = true := q
          rw [hk, hf] at q'; cases q'
        refine And.intro (fun q => by cases q) (fun _ => ?_)
        refine fin [] (And.intro ?_ trivial)
        exact rfl
end Go.Proofs.YtieemijapiiiiaaGreat
