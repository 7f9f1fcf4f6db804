/- Core terms: Normalize of the reference. -/
import Derived.Test.YtieemijapiiiiaaGreatPr
set_option linter.unusedSimpArgs false
set_option linter.unusedVariables false
namespace Go.Proofs.YtieemijapiiiiaaGreat
open Go Go.RowKit Go.Proofs Go.Tr
theorem okRun : callOk Tryz.prog 36 = true := by kernel_rfl
theorem ownQ (d : Cor) (hod : okC d = true) : FCall Tryz.prog 25 [.ptr 10000 0] [.cel 10000 32 (cSV d)] (.agg [.int .i64 (cKd d), .int .i64 (cVl d), .sl 10001, .sl 10002]) ([.row 10001 2 1 (.int .i64) (cDt d) [], .row 10002 32 4 uCor (Tree.kids d) []] ++ [.cel 10000 32 (cSV d)]) :=
  FCall.of_f (ts1 := tCop d) (r1 := .agg (cOwn d)) ti_ok [52] okOwnC (by
    show FCall _ _ [.rp uCor (.node (cKd d, cVl d, cDt d) (Tree.kids d))] _ _ _
    rw [node_eta]
    exact ownF d (okC_iff.1 hod).1 (by have := (okC_iff.1 hod).2.2; omega)) rfl rfl rfl
set_option maxHeartbeats 1000000 in
set_option maxRecDepth 100000 in
theorem runSg (b : Bok) (c : Cor) (m : Nat) (hst : stOk b c = true) (hm : m ≤ 2000) (R : Cor × List Int × Int) (hR : R = normR m b c [0, 0, 0, 0]) (hcode : R.2.2 = 0) : FCall Tryz.prog 36 [rpB b, .rp uCor c, .int .i64 (m : Nat)] [] (.tup [.agg (cOwn R.1), .sl 10002, .int .i64 R.2.2]) (tCop R.1 ++ [.row 10002 2 1 (.int .i64) R.2.1 []]) := by
  refine FCallG.f ?_ rfl
  refine FCallG.intro (nt := 53) ti_ok mixed okRun Tryz.func36 rfl rfl rfl rfl rfl rfl ?_
  refine lp (Nat × Cor × List Int) (fun s => [(9, .sl 15), (11, .int .i64 ((m - s.1 : Nat)))]) (fun s => [.cel 10 32 (cSV s.2.1), .row 15 2 1 (.int .i64) s.2.2 [], .cel 6 32 zRaw]) (fun s => s.1) (NInv b R m) (m, c, [0, 0, 0, 0]) ⟨hst, Nat.le_refl _, by show Cnt4 _ (m - m); rw [Nat.sub_self]; exact Cnt4.zero, hR.symm⟩ ?_ ?_
  · refine Go.Tr.hd [] rfl ?_ ?_
    · exact And.intro rfl (And.intro ⟨by show (0 : Int) = ((m - m : Nat) : Int); omega, rfl⟩ trivial)
    · exact ⟨trivial, ⟨⟨rfl, rfl⟩, ⟨rfl, rfl⟩, rfl, rfl, trivial⟩, ⟨rfl, List.nil_prefix⟩, trivial, ⟨⟨rfl, rfl⟩, ⟨rfl, rfl⟩, rfl, rfl, trivial⟩, trivial⟩
  rintro ⟨j, d, l⟩ hI
  obtain ⟨hod, hp⟩ := stOk_term hI.ok
  have h8 := st8GK b d hod hp.nm
  have hjm : j ≤ m := hI.le
  rcases st_rel hI.ok with ⟨h1, hs8⟩ | ⟨t, k, h1, hk, h2⟩
  · have hd := hI.done h1
    have hs8 : st8 b d = (zeroC, 0, 0) := hs8
    rw [hs8] at h8
    rw [hd]
    refine Or.inr (Or.inr (Exists.intro _ (Exists.intro _ (And.intro h8 ?_))))
    refine And.intro (fun _ => ?_) (fun q => by cases q)
    refine Or.inr (Or.inl (Exists.intro _ (Exists.intro _ (And.intro (ownQ d hod) ?_))))
    refine fin [(10000, 33), (10001, 1000033), (10002, 15)] (And.intro rfl ?_)
    exact ⟨⟨rfl, List.nil_prefix⟩, ⟨rfl, List.nil_prefix⟩, ⟨rfl, List.nil_prefix⟩, trivial⟩
  · have h1 : stepR b d = (t, k) := h1
    have hk0 : (k == 0) = false := by rw [beq_eq_false_iff_ne]; omega
    cases j with
    | zero =>
      have hd := hI.spent h1 hk
      rw [hd] at hcode; cases hcode
    | succ j =>
      have he : (((m - (j + 1) : Nat) : Int) == (m : Nat)) = false := by rw [beq_eq_false_iff_ne]; omega
      rcases h2 with ⟨h2, h4, h3⟩ | ⟨h2, h4⟩
      · have hn := hI.next h1 hk h2 h3
        have hc4 : 0 ≤ elt (0 : Int) l (k - 1) ∧ elt (0 : Int) l (k - 1) ≤ ((m - (j + 1) : Nat) : Int) := hI.cnt.at hk
        have hlen : l.length = 4 := hI.cnt.len
        have h4 : st8 b d = (t, k, 0) := h4
        rw [h4] at h8
        refine Or.inr (Or.inr (Exists.intro _ (Exists.intro _ (And.intro h8 ?_))))
        refine And.intro (fun q => by have q : (k == 0) = true := q; rw [hk0] at q; cases q) (fun _ => ?_)
        refine And.intro (fun q => by have q : (((m - (j + 1) : Nat) : Int) == (m : Nat)) = true := q; rw [he] at q; cases q) (fun _ => ?_)
        refine And.intro (fun q => by cases q) (fun _ => ?_)
        conv => whnf
        have hw : IntKind.i64.wrap ((t, k).2 - 1) = k - 1 := IntWalk.i64_in _ (by show _ ≤ k - 1 ∧ k - 1 ≤ _; omega)
        refine And.intro (by rw [show IntKind.i64.wrap (_ - 1) = k - 1 from hw]; show 0 ≤ k - 1 ∧ k - 1 < (l.length : Nat); omega) ?_
        conv => whnf
        refine And.intro (by rw [show IntKind.i64.wrap (_ - 1) = k - 1 from hw]; show 0 ≤ k - 1 ∧ k - 1 < (l.length : Nat); omega) ?_
        refine lp_next (j, t, bump l k) hn ?_ (show j < j + 1 by omega)
        have hj1 : IntKind.i64.wrap (((m - (j + 1) : Nat) : Int) + 1) = ((m - j : Nat) : Int) := by rw [IntWalk.i64_in _ (by omega)]; omega
        have hbp : l.set (IntKind.i64.wrap (k - 1)).toNat (IntKind.i64.wrap (elt (0 : Int) l (IntKind.i64.wrap (k - 1)) + 1)) = bump l k := by
          rw [show IntKind.i64.wrap (k - 1) = k - 1 from hw, IntWalk.i64_in _ (by omega)]; rfl
        exact Go.Tr.hd [] rfl (And.intro rfl (And.intro ⟨hj1, rfl⟩ trivial)) ⟨trivial, ⟨⟨rfl, rfl⟩, ⟨rfl, rfl⟩, rfl, rfl, trivial⟩, ⟨hbp, List.nil_prefix⟩, trivial, ⟨⟨rfl, rfl⟩, ⟨rfl, rfl⟩, rfl, rfl, trivial⟩, trivial⟩
      · have hd := hI.full h1 hk h2
        rw [hd] at hcode; cases hcode
set_option maxHeartbeats 1000000 in
set_option maxRecDepth 100000 in
theorem runSb (b : Bok) (c : Cor) (m : Nat) (hst : stOk b c = true) (hm : m ≤ 2000) (R : Cor × List Int × Int) (hR : R = normR m b c [0, 0, 0, 0]) (hcode : R.2.2 ≠ 0) : FCall Tryz.prog 36 [rpB b, .rp uCor c, .int .i64 (m : Nat)] [] (.tup [.agg zRaw, .sl 10000, .int .i64 R.2.2]) [.row 10000 2 1 (.int .i64) [] []] := by
  refine FCallG.f ?_ rfl
  refine FCallG.intro (nt := 53) ti_ok mixed okRun Tryz.func36 rfl rfl rfl rfl rfl rfl ?_
  refine lp (Nat × Cor × List Int) (fun s => [(9, .sl 15), (11, .int .i64 ((m - s.1 : Nat)))]) (fun s => [.cel 10 32 (cSV s.2.1), .row 15 2 1 (.int .i64) s.2.2 [], .cel 6 32 zRaw]) (fun s => s.1) (NInv b R m) (m, c, [0, 0, 0, 0]) ⟨hst, Nat.le_refl _, by show Cnt4 _ (m - m); rw [Nat.sub_self]; exact Cnt4.zero, hR.symm⟩ ?_ ?_
  · refine Go.Tr.hd [] rfl ?_ ?_
    · exact And.intro rfl (And.intro ⟨by show (0 : Int) = ((m - m : Nat) : Int); omega, rfl⟩ trivial)
    · exact ⟨trivial, ⟨⟨rfl, rfl⟩, ⟨rfl, rfl⟩, rfl, rfl, trivial⟩, ⟨rfl, List.nil_prefix⟩, trivial, ⟨⟨rfl, rfl⟩, ⟨rfl, rfl⟩, rfl, rfl, trivial⟩, trivial⟩
  rintro ⟨j, d, l⟩ hI
  obtain ⟨hod, hp⟩ := stOk_term hI.ok
  have h8 := st8GK b d hod hp.nm
  have hjm : j ≤ m := hI.le
  rcases st_rel hI.ok with ⟨h1, hs8⟩ | ⟨t, k, h1, hk, h2⟩
  · have hd := hI.done h1
    have hs8 : st8 b d = (zeroC, 0, 0) := hs8
    rw [hs8] at h8
    exact absurd (by rw [hd]) hcode
  · have h1 : stepR b d = (t, k) := h1
    have hk0 : (k == 0) = false := by rw [beq_eq_false_iff_ne]; omega
    cases j with
    | zero =>
      have hd := hI.spent h1 hk
      rw [hd]
      have he : (((m - 0 : Nat) : Int) == (m : Nat)) = true := by rw [beq_iff_eq]; omega
      rcases h2 with ⟨_, h2, _⟩ | ⟨_, h2⟩
      · have h2 : st8 b d = (t, k, 0) := h2
        rw [h2] at h8
        refine Or.inr (Or.inr (Exists.intro _ (Exists.intro _ (And.intro h8 ?_))))
        refine And.intro (fun q => by have q : (k == 0) = true := q; rw [hk0] at q; cases q) (fun _ => ?_)
        refine And.intro (fun _ => ?_) (fun q => by have q : (((m - 0 : Nat) : Int) == (m : Nat)) = false := q; rw [he] at q; cases q)
        refine fin [(10000, 39)] (And.intro rfl ?_)
        exact ⟨⟨rfl, List.nil_prefix⟩, trivial⟩
      · have h2 : st8 b d = (zeroC, 0, 4) := h2
        rw [h2] at h8
        refine Or.inr (Or.inr (Exists.intro _ (Exists.intro _ (And.intro h8 ?_))))
        refine And.intro (fun q => by cases q) (fun _ => ?_)
        refine And.intro (fun _ => ?_) (fun q => by have q : (((m - 0 : Nat) : Int) == (m : Nat)) = false := q; rw [he] at q; cases q)
        refine fin [(10000, 39)] (And.intro rfl ?_)
        exact ⟨⟨rfl, List.nil_prefix⟩, trivial⟩
    | succ j =>
      have he : (((m - (j + 1) : Nat) : Int) == (m : Nat)) = false := by rw [beq_eq_false_iff_ne]; omega
      rcases h2 with ⟨h2, h4, h3⟩ | ⟨h2, h4⟩
      · have hn := hI.next h1 hk h2 h3
        have hc4 : 0 ≤ elt (0 : Int) l (k - 1) ∧ elt (0 : Int) l (k - 1) ≤ ((m - (j + 1) : Nat) : Int) := hI.cnt.at hk
        have hlen : l.length = 4 := hI.cnt.len
        have h4 : st8 b d = (t, k, 0) := h4
        rw [h4] at h8
        refine Or.inr (Or.inr (Exists.intro _ (Exists.intro _ (And.intro h8 ?_))))
        refine And.intro (fun q => by have q : (k == 0) = true := q; rw [hk0] at q; cases q) (fun _ => ?_)
        refine And.intro (fun q => by have q : (((m - (j + 1) : Nat) : Int) == (m : Nat)) = true := q; rw [he] at q; cases q) (fun _ => ?_)
        refine And.intro (fun q => by cases q) (fun _ => ?_)
        conv => whnf
        have hw : IntKind.i64.wrap ((t, k).2 - 1) = k - 1 := IntWalk.i64_in _ (by show _ ≤ k - 1 ∧ k - 1 ≤ _; omega)
        refine And.intro (by rw [show IntKind.i64.wrap (_ - 1) = k - 1 from hw]; show 0 ≤ k - 1 ∧ k - 1 < (l.length : Nat); omega) ?_
        conv => whnf
        refine And.intro (by rw [show IntKind.i64.wrap (_ - 1) = k - 1 from hw]; show 0 ≤ k - 1 ∧ k - 1 < (l.length : Nat); omega) ?_
        refine lp_next (j, t, bump l k) hn ?_ (show j < j + 1 by omega)
        have hj1 : IntKind.i64.wrap (((m - (j + 1) : Nat) : Int) + 1) = ((m - j : Nat) : Int) := by rw [IntWalk.i64_in _ (by omega)]; omega
        have hbp : l.set (IntKind.i64.wrap (k - 1)).toNat (IntKind.i64.wrap (elt (0 : Int) l (IntKind.i64.wrap (k - 1)) + 1)) = bump l k := by
          rw [show IntKind.i64.wrap (k - 1) = k - 1 from hw, IntWalk.i64_in _ (by omega)]; rfl
        exact Go.Tr.hd [] rfl (And.intro rfl (And.intro ⟨hj1, rfl⟩ trivial)) ⟨trivial, ⟨⟨rfl, rfl⟩, ⟨rfl, rfl⟩, rfl, rfl, trivial⟩, ⟨hbp, List.nil_prefix⟩, trivial, ⟨⟨rfl, rfl⟩, ⟨rfl, rfl⟩, rfl, rfl, trivial⟩, trivial⟩
      · have hd := hI.full h1 hk h2
        rw [hd]
        have h4 : st8 b d = (zeroC, 0, 4) := h4
        rw [h4] at h8
        refine Or.inr (Or.inr (Exists.intro _ (Exists.intro _ (And.intro h8 ?_))))
        refine And.intro (fun q => by cases q) (fun _ => ?_)
        refine And.intro (fun q => by have q : (((m - (j + 1) : Nat) : Int) == (m : Nat)) = true := q; rw [he] at q; cases q) (fun _ => ?_)
        refine And.intro (fun _ => ?_) (fun q => by cases q)
        refine fin [(10000, 43)] (And.intro rfl ?_)
        exact ⟨⟨rfl, List.nil_prefix⟩, trivial⟩
theorem okNoCS : callOk Tryz.prog 16 = true := by kernel_rfl
set_option maxHeartbeats 1000000 in
set_option maxRecDepth 100000 in
theorem noCS (b : Bok) (c : Cor) (n : Int) (hb : ∀ d ∈ b, sizT d ≤ 2000000) : NRes 16 [.agg [.rsl uCor b], .agg (cSV c), .int .i64 n] (resNorm b c n) := by
  have hk : FCall Tryz.prog 23 [.ptr 10000 0, .ptr 10001 0] [.cel 10000 36 [.rsl uCor b], .cel 10001 32 (cSV c)] (.bool (stOk b c)) [.cel 10000 36 [.rsl uCor b], .cel 10001 32 (cSV c)] :=
    FCall.of_q ti_ok [51, 52] okStS (by
      show QCall _ _ [rpB b, .rp uCor (.node (cKd c, cVl c, cDt c) (Tree.kids c))] _
      rw [node_eta]
      exact stS b c hb) rfl
  cases hst : stOk b c with
  | false =>
    rw [show resNorm b c n = (zeroC, [], 1) by unfold resNorm; rw [hst]; rfl]
    refine Or.inl ⟨⟨rfl, rfl⟩, Or.inr (FCallG.f ?_ rfl)⟩
    refine FCallG.intro (nt := 23) ti_ok mixed okNoCS Tryz.func16 rfl rfl rfl rfl rfl rfl ?_
    refine Or.inr (Or.inl (Exists.intro _ (Exists.intro _ (And.intro hk ?_))))
    refine And.intro (fun _ => ?_) (fun q => by rw [hst] at q; cases q)
    refine fin [(10000, 12)] (And.intro rfl ?_)
    exact ⟨⟨rfl, List.nil_prefix⟩, trivial⟩
  | true =>
    cases hin : inC n 0 2000 with
    | false =>
      rw [show resNorm b c n = (zeroC, [], 2) by unfold resNorm; rw [hst, hin]; rfl]
      refine Or.inl ⟨⟨rfl, rfl⟩, Or.inr (FCallG.f ?_ rfl)⟩
      refine FCallG.intro (nt := 23) ti_ok mixed okNoCS Tryz.func16 rfl rfl rfl rfl rfl rfl ?_
      refine Or.inr (Or.inl (Exists.intro _ (Exists.intro _ (And.intro hk ?_))))
      refine And.intro (fun q => by rw [hst] at q; cases q) (fun _ => ?_)
      refine Or.inl (Exists.intro _ (And.intro (inCQ n 0 2000) ?_))
      refine And.intro (fun _ => ?_) (fun q => by rw [hin] at q; cases q)
      refine fin [(10000, 17)] (And.intro rfl ?_)
      exact ⟨⟨rfl, List.nil_prefix⟩, trivial⟩
    | true =>
      have hn0 : 0 ≤ n ∧ n ≤ 2000 := inC_iff.1 hin
      obtain ⟨m, rfl⟩ : ∃ m : Nat, n = (m : Nat) := ⟨n.toNat, by omega⟩
      rw [show resNorm b c (m : Nat) = normR m b c [0, 0, 0, 0] by unfold resNorm; rw [hst, hin]; rfl]
      have hcode := norm_code m b c [0, 0, 0, 0]
      obtain ⟨R, hR⟩ : ∃ R, R = normR m b c [0, 0, 0, 0] := ⟨_, rfl⟩
      rw [show normR m b c [0, 0, 0, 0] = R from hR.symm] at hcode ⊢
      rcases hcode with hcode | ⟨hz1, hz2, hcode⟩
      · have hr := runSg b c m hst (by omega) R hR hcode
        have hr2 : FCall Tryz.prog 36 [.ptr 10000 0, .ptr 10001 0, .int .i64 (m : Nat)] [.cel 10000 36 [.rsl uCor b], .cel 10001 32 (cSV c)] (.tup [.agg [.int .i64 (cKd R.1), .int .i64 (cVl R.1), .sl 10002, .sl 10003], .sl 10004, .int .i64 R.2.2]) ([.row 10002 2 1 (.int .i64) (cDt R.1) [], .row 10003 32 4 uCor (Tree.kids R.1) [], .row 10004 2 1 (.int .i64) R.2.1 []] ++ [.cel 10000 36 [.rsl uCor b], .cel 10001 32 (cSV c)]) :=
          FCall.of_f (ts1 := [.row 10000 2 1 (.int .i64) (cDt R.1) [], .row 10001 32 4 uCor (Tree.kids R.1) [], .row 10002 2 1 (.int .i64) R.2.1 []]) (r1 := .tup [.agg (cOwn R.1), .sl 10002, .int .i64 R.2.2]) ti_ok [51, 52, 0] okRun (by
            show FCall _ _ [rpB b, .rp uCor (.node (cKd c, cVl c, cDt c) (Tree.kids c)), _] _ _ _
            rw [node_eta]
            exact hr) rfl rfl rfl
        refine Or.inr (FCallG.f ?_ rfl)
        refine FCallG.intro (nt := 23) ti_ok mixed okNoCS Tryz.func16 rfl rfl rfl rfl rfl rfl ?_
        refine Or.inr (Or.inl (Exists.intro _ (Exists.intro _ (And.intro hk ?_))))
        refine And.intro (fun q => by rw [hst] at q; cases q) (fun _ => ?_)
        refine Or.inl (Exists.intro _ (And.intro (inCQ ((m : Nat) : Int) 0 2000) ?_))
        refine And.intro (fun q => by rw [hin] at q; cases q) (fun _ => ?_)
        refine Or.inr (Or.inl (Exists.intro _ (Exists.intro _ (And.intro hr2 ?_))))
        refine fin [(10000, 19), (10001, 1000019), (10002, 2000019)] (And.intro rfl ?_)
        exact ⟨⟨rfl, List.nil_prefix⟩, ⟨rfl, List.nil_prefix⟩, ⟨rfl, List.nil_prefix⟩, trivial⟩
      · have hr := runSb b c m hst (by omega) R hR hcode
        have hr2 : FCall Tryz.prog 36 [.ptr 10000 0, .ptr 10001 0, .int .i64 (m : Nat)] [.cel 10000 36 [.rsl uCor b], .cel 10001 32 (cSV c)] (.tup [.agg zRaw, .sl 10002, .int .i64 R.2.2]) ([.row 10002 2 1 (.int .i64) [] []] ++ [.cel 10000 36 [.rsl uCor b], .cel 10001 32 (cSV c)]) :=
          FCall.of_f (ts1 := [.row 10000 2 1 (.int .i64) [] []]) (r1 := .tup [.agg zRaw, .sl 10000, .int .i64 R.2.2]) ti_ok [51, 52, 0] okRun (by
            show FCall _ _ [rpB b, .rp uCor (.node (cKd c, cVl c, cDt c) (Tree.kids c)), _] _ _ _
            rw [node_eta]
            exact hr) rfl rfl rfl
        refine Or.inl ⟨⟨hz1, hz2⟩, Or.inr (FCallG.f ?_ rfl)⟩
        refine FCallG.intro (nt := 23) ti_ok mixed okNoCS Tryz.func16 rfl rfl rfl rfl rfl rfl ?_
        refine Or.inr (Or.inl (Exists.intro _ (Exists.intro _ (And.intro hk ?_))))
        refine And.intro (fun q => by rw [hst] at q; cases q) (fun _ => ?_)
        refine Or.inl (Exists.intro _ (And.intro (inCQ ((m : Nat) : Int) 0 2000) ?_))
        refine And.intro (fun q => by rw [hin] at q; cases q) (fun _ => ?_)
        refine Or.inr (Or.inl (Exists.intro _ (Exists.intro _ (And.intro hr2 ?_))))
        refine fin [(10000, 19)] (And.intro rfl ?_)
        exact ⟨⟨rfl, List.nil_prefix⟩, trivial⟩
end Go.Proofs.YtieemijapiiiiaaGreat
