/- Core terms: copies with shifted variables. -/
import Derived.Test.YtieemijapiiiiaaGreatOe
set_option linter.unusedSimpArgs false
set_option linter.unusedVariables false
namespace Go.Proofs.YtieemijapiiiiaaGreat
open Go Go.RowKit Go.Proofs Go.Tr
theorem okOwnI : callOk Tryz.prog 58 = true := by kernel_rfl
theorem ownIF (xs : List (El (.int .i64))) (hx : xs.length ≤ 1048576) : FCall Tryz.prog 58 [.rsl (.int .i64) xs] [] (.sl 10000) [.row 10000 2 1 (.int .i64) xs []] := by
  refine FCall.intro (nt := 6) ti_ok mixed okOwnI Tryz.func58 rfl rfl rfl rfl rfl rfl ?_
  refine And.intro (by show 0 + xs.length ≤ _; omega) ?_
  refine fin [(10000, 5)] (And.intro rfl ?_)
  exact ⟨⟨rfl, List.nil_prefix⟩, trivial⟩
theorem ownIG (xs : List (El (.int .i64))) (hx : xs.length ≤ 1048576) : FCallG Tryz.prog 58 [.rsl (.int .i64) xs] [] (.rsl (.int .i64) xs) [] := (ownIF xs hx).g.fz rfl
theorem okCloneI : callOk Tryz.prog 51 = true := by kernel_rfl
theorem cloneIF (xs : List (El (.int .i64))) (hx : xs.length ≤ 1048576) : FCall Tryz.prog 51 [.rsl (.int .i64) xs] [] (.sl 10000) [.row 10000 2 1 (.int .i64) xs []] := by
  refine FCall.nil2 (fun he c => ?_) ?_
  · subst he
    refine FCall.intro (nt := 8) ti_ok mixed okCloneI Tryz.func51 rfl rfl rfl rfl rfl rfl ?_
    refine And.intro (fun h1 => ?_) (fun h1 => by cases h1)
    refine finm [⟨2, 30000, 2, 1, .int .i64⟩] [(10000, 30000)] (And.intro rfl ?_)
    exact ⟨⟨rfl, List.nil_prefix⟩, trivial⟩
  · refine FCall.intro (nt := 8) ti_ok mixed okCloneI Tryz.func51 rfl rfl rfl rfl rfl rfl ?_
    refine And.intro (fun h1 => by cases h1) (fun h1 => ?_)
    refine And.intro (by show 0 + xs.length ≤ _; omega) ?_
    refine fin [(10000, 7)] (And.intro rfl ?_)
    exact ⟨⟨rfl, List.nil_prefix⟩, trivial⟩
theorem cloneIG (xs : List (El (.int .i64))) (hx : xs.length ≤ 1048576) : FCallG Tryz.prog 51 [.rsl (.int .i64) xs] [] (.rsl (.int .i64) xs) [] := (cloneIF xs hx).g.fz rfl
theorem okShS : callOk Tryz.prog 43 = true := by kernel_rfl
set_option maxRecDepth 100000 in
theorem shG (b : Int) (hb1 : 0 ≤ b) (hb2 : b ≤ 1000) : ∀ (c : Cor) (f : Int), goodT c = true → sizT c ≤ 1000000 → 0 ≤ f → f + sizT c ≤ 3000000 → FCallG Tryz.prog 43 [.rp uCor c, .int .i64 b, .int .i64 f] [] (.agg (cSV (shT b c f))) [] := by
  refine Tree.ind (fun c ih => ?_)
  intro f hg hb hf1 hf2
  have hl := sizT_len c
  have hdt := good_dt hg
  have hgi := (goodT_iff.1 hg).2
  rw [shT_eq]
  refine FCallG.fz (ts1 := [.dat 10000 32 4 uCor (shL b (cKd c) c.kids 0 f)]) (r1 := .agg [.int .i64 (cKd c), .int .i64 (bif cKd c == 1 && decide (f ≤ cVl c) then cVl c + b else cVl c), .rsl (.int .i64) (cDt c), .sl 10000]) ?_ rfl
  refine FCallG.intro (nt := 69) ti_ok mixed okShS Tryz.func43 rfl rfl rfl rfl rfl rfl ?_
  refine Or.inr (Or.inr (Exists.intro _ (Exists.intro _ (And.intro (ownIG (cDt c) (by omega)) ?_))))
  refine And.intro (by kernel_rfl) ?_
  obtain ⟨vv, hvv⟩ : ∃ vv, vv = (bif cKd c == 1 && decide (f ≤ cVl c) then cVl c + b else cVl c) := ⟨_, rfl⟩
  rw [← hvv]
  refine And.intro (fun q => ?_) (fun q => ?_)
  · have hv : IntKind.i64.wrap (cVl c + b) = vv := by
      have q' : (bif cKd c == 1 then decide (f ≤ cVl c) else false) = true := q
      rw [hvv]
      cases hk : (cKd c == 1) with
      | false => rw [hk] at q'; cases q'
      | true =>
        rw [hk] at q'
        have := good_var hg hk
        rw [show decide (f ≤ cVl c) = true from q']
        exact wrapI (by omega)
    refine lp Nat (fun i => [(8, .int .i64 (i : Nat))]) (fun i => [.cel 7 32 [.int .i64 (cKd c), .int .i64 vv, .rsl (.int .i64) (cDt c), .sl 20000], .dat 20000 32 4 uCor (shL b (cKd c) (c.kids.take i) 0 f), .cel 6 32 [.int .i64 0, .int .i64 0, .raw (.slice none 0 0), .raw (.slice none 0 0)]]) (fun i => c.kids.length - i) (fun i => i ≤ c.kids.length) 0 (Nat.zero_le _) ?_ ?_
    · exact hdm [⟨4000007, 500000, 32, 4, uCor⟩] [(20000, 500000)] rfl (And.intro (And.intro ⟨rfl, rfl⟩ trivial) ⟨trivial, ⟨⟨rfl, rfl⟩, ⟨hv, rfl⟩, rfl, rfl, trivial⟩, by simp [shL], trivial, ⟨⟨rfl, rfl⟩, ⟨rfl, rfl⟩, rfl, rfl, trivial⟩, trivial⟩)
    intro i hi
    refine And.intro (fun q1 => ?_) (fun q1 => ?_)
    · have hlt : i < c.kids.length := by have : ((i : Nat) : Int) < (c.kids.length : Nat) := of_decide_eq_true q1; omega
      have hmem := eltM (d := dflt uCor) hlt
      have h1 := sizT_kid hmem
      have hbn := bindN_b (cKd c) (i : Nat)
      have h2 := shL_take b (cKd c) f c.kids 0 i hlt
      rw [Nat.zero_add] at h2
      refine And.intro (show (0 : Int) ≤ (i : Nat) ∧ ((i : Nat) : Int) < (c.kids.length : Nat) by omega) ?_
      refine Or.inl (Exists.intro _ (And.intro (bindsS c (i : Nat)) ?_))
      refine Or.inr (Or.inr (Exists.intro _ (Exists.intro _ (And.intro (by
        show FCallG _ _ [_, _, .int .i64 (IntKind.i64.wrap (f + bindN (cKd c) (i : Nat)))] _ _ _
        rw [wrapI (by omega)]
        exact ih _ hmem _ (hgi _ hmem) (Nat.le_trans (Nat.le_of_succ_le h1) hb) (by omega) (by show _ + ((sizT (elt (dflt uCor) c.kids ((i : Nat) : Int)) : Nat) : Int) ≤ _; omega)) ?_))))
      refine And.intro (by show (shL b (cKd c) (c.kids.take i) 0 f).length + 1 ≤ _; rw [shL_len, List.length_take]; omega) ?_
      refine And.intro (by kernel_rfl) ?_
      refine lp_next (i + 1) hlt ?_ (by show c.kids.length - (i + 1) < c.kids.length - i; omega)
      refine Go.Tr.hd [(20000, 66)] rfl (And.intro ⟨wrapI (by omega), rfl⟩ trivial) ⟨trivial, ⟨⟨rfl, rfl⟩, ⟨rfl, rfl⟩, rfl, rfl, trivial⟩, ?_, trivial, ⟨⟨rfl, rfl⟩, ⟨rfl, rfl⟩, rfl, rfl, trivial⟩, trivial⟩
      rw [h2, ← node_eta (shT b (elt (dflt uCor) c.kids ((i : Nat) : Int)) (f + bindN (cKd c) (i : Nat)))]; rfl
    have hge : c.kids.length ≤ i := by have : ¬ ((i : Nat) : Int) < (c.kids.length : Nat) := of_decide_eq_false q1; omega
    refine fin [(10000, 20000)] (And.intro rfl ?_)
    exact ⟨by rw [List.take_of_length_le hge]; rfl, trivial⟩
  · have hv : cVl c = vv := by
      have q' : (bif cKd c == 1 then decide (f ≤ cVl c) else false) = false := q
      rw [hvv]
      cases hk : (cKd c == 1) with
      | false => rfl
      | true =>
        rw [hk] at q'
        rw [show decide (f ≤ cVl c) = false from q']
        rfl
    refine lp Nat (fun i => [(8, .int .i64 (i : Nat))]) (fun i => [.cel 7 32 [.int .i64 (cKd c), .int .i64 vv, .rsl (.int .i64) (cDt c), .sl 20000], .dat 20000 32 4 uCor (shL b (cKd c) (c.kids.take i) 0 f), .cel 6 32 [.int .i64 0, .int .i64 0, .raw (.slice none 0 0), .raw (.slice none 0 0)]]) (fun i => c.kids.length - i) (fun i => i ≤ c.kids.length) 0 (Nat.zero_le _) ?_ ?_
    · exact hdm [⟨4000007, 500000, 32, 4, uCor⟩] [(20000, 500000)] rfl (And.intro (And.intro ⟨rfl, rfl⟩ trivial) ⟨trivial, ⟨⟨rfl, rfl⟩, ⟨hv, rfl⟩, rfl, rfl, trivial⟩, by simp [shL], trivial, ⟨⟨rfl, rfl⟩, ⟨rfl, rfl⟩, rfl, rfl, trivial⟩, trivial⟩)
    intro i hi
    refine And.intro (fun q1 => ?_) (fun q1 => ?_)
    · have hlt : i < c.kids.length := by have : ((i : Nat) : Int) < (c.kids.length : Nat) := of_decide_eq_true q1; omega
      have hmem := eltM (d := dflt uCor) hlt
      have h1 := sizT_kid hmem
      have hbn := bindN_b (cKd c) (i : Nat)
      have h2 := shL_take b (cKd c) f c.kids 0 i hlt
      rw [Nat.zero_add] at h2
      refine And.intro (show (0 : Int) ≤ (i : Nat) ∧ ((i : Nat) : Int) < (c.kids.length : Nat) by omega) ?_
      refine Or.inl (Exists.intro _ (And.intro (bindsS c (i : Nat)) ?_))
      refine Or.inr (Or.inr (Exists.intro _ (Exists.intro _ (And.intro (by
        show FCallG _ _ [_, _, .int .i64 (IntKind.i64.wrap (f + bindN (cKd c) (i : Nat)))] _ _ _
        rw [wrapI (by omega)]
        exact ih _ hmem _ (hgi _ hmem) (Nat.le_trans (Nat.le_of_succ_le h1) hb) (by omega) (by show _ + ((sizT (elt (dflt uCor) c.kids ((i : Nat) : Int)) : Nat) : Int) ≤ _; omega)) ?_))))
      refine And.intro (by show (shL b (cKd c) (c.kids.take i) 0 f).length + 1 ≤ _; rw [shL_len, List.length_take]; omega) ?_
      refine And.intro (by kernel_rfl) ?_
      refine lp_next (i + 1) hlt ?_ (by show c.kids.length - (i + 1) < c.kids.length - i; omega)
      refine Go.Tr.hd [(20000, 66)] rfl (And.intro ⟨wrapI (by omega), rfl⟩ trivial) ⟨trivial, ⟨⟨rfl, rfl⟩, ⟨rfl, rfl⟩, rfl, rfl, trivial⟩, ?_, trivial, ⟨⟨rfl, rfl⟩, ⟨rfl, rfl⟩, rfl, rfl, trivial⟩, trivial⟩
      rw [h2, ← node_eta (shT b (elt (dflt uCor) c.kids ((i : Nat) : Int)) (f + bindN (cKd c) (i : Nat)))]; rfl
    have hge : c.kids.length ≤ i := by have : ¬ ((i : Nat) : Int) < (c.kids.length : Nat) := of_decide_eq_false q1; omega
    refine fin [(10000, 20000)] (And.intro rfl ?_)
    exact ⟨by rw [List.take_of_length_le hge]; rfl, trivial⟩
end Go.Proofs.YtieemijapiiiiaaGreat
