/- Core terms: copies of the call's own. -/
import Derived.Test.YtieemijapiiiiaaGreatOf
set_option linter.unusedSimpArgs false
set_option linter.unusedVariables false
namespace Go.Proofs.YtieemijapiiiiaaGreat
open Go Go.RowKit Go.Proofs Go.Tr
/-- A term whose numbers and kids are rows of the call's own. -/
abbrev tCop (c : Cor) : List Tok := [.row 10000 2 1 (.int .i64) (cDt c) [], .row 10001 32 4 uCor (Tree.kids c) []]
abbrev cOwn (c : Cor) : List SV := [.int .i64 (cKd c), .int .i64 (cVl c), .sl 10000, .sl 10001]
theorem okCopy : callOk Tryz.prog 31 = true := by kernel_rfl
set_option maxHeartbeats 1000000 in
set_option maxRecDepth 100000 in
theorem copyF : ∀ c : Cor, goodT c = true → FCall Tryz.prog 31 [.agg (cSV c)] [] (.agg (cOwn c)) (tCop c) := by
  refine Tree.ind (fun c ih => ?_)
  intro hg
  have hdt := good_dt hg
  have hgi := (goodT_iff.1 hg).2
  refine FCall.intro (nt := 30) ti_ok mixed okCopy Tryz.func31 rfl rfl rfl rfl rfl rfl ?_
  conv => whnf
  refine Or.inr (Exists.intro _ (Exists.intro _ (And.intro (cloneIF (cDt c) (by omega)) ?_)))
  refine And.intro (by kernel_rfl) ?_
  conv => whnf
  refine lp Nat (fun i => [(17, .int .i64 (i : Nat))]) (fun i => [.cel 3 32 [.int .i64 (cKd c), .int .i64 (cVl c), .sl 20001, .sl 20000], .row 20001 2 1 (.int .i64) (cDt c) [], .row 20000 32 4 uCor (c.kids.take i) [], .cel 1 32 (cSV c), .cel 2 32 [.int .i64 0, .int .i64 0, .raw (.slice none 0 0), .raw (.slice none 0 0)]]) (fun i => c.kids.length - i) (fun i => i ≤ c.kids.length) 0 (Nat.zero_le _) ?_ ?_
  · exact hdm [⟨4000003, 30000, 32, 4, uCor⟩] [(20001, 12), (20000, 30000)] rfl (And.intro (And.intro ⟨rfl, rfl⟩ trivial) ⟨trivial, ⟨⟨rfl, rfl⟩, ⟨rfl, rfl⟩, rfl, rfl, trivial⟩, ⟨rfl, List.nil_prefix⟩, ⟨rfl, List.nil_prefix⟩, trivial, ⟨⟨rfl, rfl⟩, ⟨rfl, rfl⟩, rfl, rfl, trivial⟩, trivial, ⟨⟨rfl, rfl⟩, ⟨rfl, rfl⟩, rfl, rfl, trivial⟩, trivial⟩)
  intro i hi
  refine And.intro (fun q1 => ?_) (fun q1 => ?_)
  · have hlt : i < c.kids.length := by have : ((i : Nat) : Int) < (c.kids.length : Nat) := of_decide_eq_true q1; omega
    have hmem := eltM (d := dflt uCor) hlt
    refine And.intro (show (0 : Int) ≤ (i : Nat) ∧ ((i : Nat) : Int) < (c.kids.length : Nat) by omega) ?_
    conv => whnf
    refine Or.inr (Exists.intro _ (Exists.intro _ (And.intro (by
      show FCall _ _ [.agg (cSV (elt (dflt uCor) c.kids ((i : Nat) : Int)))] _ _ _
      exact ih _ hmem (hgi _ hmem)) ?_)))
    refine And.intro (by show (c.kids.take i).length + 1 ≤ _; rw [List.length_take]; omega) ?_
    refine And.intro (by kernel_rfl) ?_
    refine lp_next (i + 1) hlt ?_ (by show c.kids.length - (i + 1) < c.kids.length - i; omega)
    refine Go.Tr.hd [(20001, 20001), (20000, 26)] rfl (And.intro ⟨wrapI (by omega), rfl⟩ trivial) ⟨trivial, ⟨⟨rfl, rfl⟩, ⟨rfl, rfl⟩, rfl, rfl, trivial⟩, ⟨rfl, List.nil_prefix⟩, ⟨?_, List.nil_prefix⟩, trivial, ⟨⟨rfl, rfl⟩, ⟨rfl, rfl⟩, rfl, rfl, trivial⟩, trivial, ⟨⟨rfl, rfl⟩, ⟨rfl, rfl⟩, rfl, rfl, trivial⟩, trivial⟩
    show c.kids.take i ++ [.node (cKd (elt (dflt uCor) c.kids ((i : Nat) : Int)), cVl (elt (dflt uCor) c.kids ((i : Nat) : Int)), cDt (elt (dflt uCor) c.kids ((i : Nat) : Int))) (elt (dflt uCor) c.kids ((i : Nat) : Int)).kids] = c.kids.take (i + 1)
    rw [node_eta, ← takeE (d := dflt uCor) hlt]
  have hge : c.kids.length ≤ i := by have : ¬ ((i : Nat) : Int) < (c.kids.length : Nat) := of_decide_eq_false q1; omega
  refine fin [(10000, 20001), (10001, 20000)] (And.intro rfl ?_)
  exact ⟨⟨rfl, List.nil_prefix⟩, ⟨by rw [List.take_of_length_le hge]; rfl, List.nil_prefix⟩, trivial⟩
set_option maxHeartbeats 1000000 in
set_option maxRecDepth 100000 in
theorem shOwn : ∀ (c : Cor) (f : Int), goodT c = true → 0 ≤ f → f + sizT c ≤ 3000000 → FCall Tryz.prog 43 [.rp uCor c, .int .i64 0, .int .i64 f] [] (.agg (cOwn c)) (tCop c) := by
  refine Tree.ind (fun c ih => ?_)
  intro f hg hf1 hf2
  have hl := sizT_len c
  have hdt := good_dt hg
  have hgi := (goodT_iff.1 hg).2
  refine FCall.intro (nt := 69) ti_ok mixed okShS Tryz.func43 rfl rfl rfl rfl rfl rfl ?_
  refine Or.inr (Exists.intro _ (Exists.intro _ (And.intro (ownIF (cDt c) (by omega)) ?_)))
  refine And.intro (by kernel_rfl) ?_
  refine And.intro (fun q => ?_) (fun q => ?_)
  · have hv : IntKind.i64.wrap (cVl c + 0) = cVl c := by
      have q' : (bif cKd c == 1 then decide (f ≤ cVl c) else false) = true := q
      cases hk : (cKd c == 1) with
      | false => rw [hk] at q'; cases q'
      | true =>
        have := good_var hg hk
        rw [wrapI (by omega)]; omega
    refine lp Nat (fun i => [(8, .int .i64 (i : Nat))]) (fun i => [.cel 7 32 [.int .i64 (cKd c), .int .i64 (cVl c), .sl 20001, .sl 20000], .row 20001 2 1 (.int .i64) (cDt c) [], .row 20000 32 4 uCor (c.kids.take i) [], .cel 6 32 [.int .i64 0, .int .i64 0, .raw (.slice none 0 0), .raw (.slice none 0 0)]]) (fun i => c.kids.length - i) (fun i => i ≤ c.kids.length) 0 (Nat.zero_le _) ?_ ?_
    · exact hdm [⟨4000007, 30000, 32, 4, uCor⟩] [(20001, 21), (20000, 30000)] rfl (And.intro (And.intro ⟨rfl, rfl⟩ trivial) ⟨trivial, ⟨⟨rfl, rfl⟩, ⟨hv, rfl⟩, rfl, rfl, trivial⟩, ⟨rfl, List.nil_prefix⟩, ⟨rfl, List.nil_prefix⟩, trivial, ⟨⟨rfl, rfl⟩, ⟨rfl, rfl⟩, rfl, rfl, trivial⟩, trivial⟩)
    intro i hi
    refine And.intro (fun q1 => ?_) (fun q1 => ?_)
    · have hlt : i < c.kids.length := by have : ((i : Nat) : Int) < (c.kids.length : Nat) := of_decide_eq_true q1; omega
      have hmem := eltM (d := dflt uCor) hlt
      have h1 := sizT_kid hmem
      have hbn := bindN_b (cKd c) (i : Nat)
      refine And.intro (show (0 : Int) ≤ (i : Nat) ∧ ((i : Nat) : Int) < (c.kids.length : Nat) by omega) ?_
      conv => whnf
      refine Or.inl (Exists.intro _ (And.intro (bindsS c (i : Nat)) ?_))
      refine Or.inr (Exists.intro _ (Exists.intro _ (And.intro (by
        show FCall _ _ [_, _, .int .i64 (IntKind.i64.wrap (f + bindN (cKd c) (i : Nat)))] _ _ _
        rw [wrapI (by omega)]
        exact ih _ hmem _ (hgi _ hmem) (by omega) (by show _ + ((sizT (elt (dflt uCor) c.kids ((i : Nat) : Int)) : Nat) : Int) ≤ _; omega)) ?_)))
      refine And.intro (by show (c.kids.take i).length + 1 ≤ _; rw [List.length_take]; omega) ?_
      refine And.intro (by kernel_rfl) ?_
      refine lp_next (i + 1) hlt ?_ (by show c.kids.length - (i + 1) < c.kids.length - i; omega)
      refine Go.Tr.hd [(20001, 20001), (20000, 66)] rfl (And.intro ⟨wrapI (by omega), rfl⟩ trivial) ⟨trivial, ⟨⟨rfl, rfl⟩, ⟨rfl, rfl⟩, rfl, rfl, trivial⟩, ⟨rfl, List.nil_prefix⟩, ⟨?_, List.nil_prefix⟩, trivial, ⟨⟨rfl, rfl⟩, ⟨rfl, rfl⟩, rfl, rfl, trivial⟩, trivial⟩
      show c.kids.take i ++ [.node (cKd (elt (dflt uCor) c.kids ((i : Nat) : Int)), cVl (elt (dflt uCor) c.kids ((i : Nat) : Int)), cDt (elt (dflt uCor) c.kids ((i : Nat) : Int))) (elt (dflt uCor) c.kids ((i : Nat) : Int)).kids] = c.kids.take (i + 1)
      rw [node_eta, ← takeE (d := dflt uCor) hlt]
    have hge : c.kids.length ≤ i := by have : ¬ ((i : Nat) : Int) < (c.kids.length : Nat) := of_decide_eq_false q1; omega
    refine fin [(10000, 20001), (10001, 20000)] (And.intro rfl ?_)
    exact ⟨⟨rfl, List.nil_prefix⟩, ⟨by rw [List.take_of_length_le hge]; rfl, List.nil_prefix⟩, trivial⟩
  · skip
    refine lp Nat (fun i => [(8, .int .i64 (i : Nat))]) (fun i => [.cel 7 32 [.int .i64 (cKd c), .int .i64 (cVl c), .sl 20001, .sl 20000], .row 20001 2 1 (.int .i64) (cDt c) [], .row 20000 32 4 uCor (c.kids.take i) [], .cel 6 32 [.int .i64 0, .int .i64 0, .raw (.slice none 0 0), .raw (.slice none 0 0)]]) (fun i => c.kids.length - i) (fun i => i ≤ c.kids.length) 0 (Nat.zero_le _) ?_ ?_
    · exact hdm [⟨4000007, 30000, 32, 4, uCor⟩] [(20001, 21), (20000, 30000)] rfl (And.intro (And.intro ⟨rfl, rfl⟩ trivial) ⟨trivial, ⟨⟨rfl, rfl⟩, ⟨rfl, rfl⟩, rfl, rfl, trivial⟩, ⟨rfl, List.nil_prefix⟩, ⟨rfl, List.nil_prefix⟩, trivial, ⟨⟨rfl, rfl⟩, ⟨rfl, rfl⟩, rfl, rfl, trivial⟩, trivial⟩)
    intro i hi
    refine And.intro (fun q1 => ?_) (fun q1 => ?_)
    · have hlt : i < c.kids.length := by have : ((i : Nat) : Int) < (c.kids.length : Nat) := of_decide_eq_true q1; omega
      have hmem := eltM (d := dflt uCor) hlt
      have h1 := sizT_kid hmem
      have hbn := bindN_b (cKd c) (i : Nat)
      refine And.intro (show (0 : Int) ≤ (i : Nat) ∧ ((i : Nat) : Int) < (c.kids.length : Nat) by omega) ?_
      conv => whnf
      refine Or.inl (Exists.intro _ (And.intro (bindsS c (i : Nat)) ?_))
      refine Or.inr (Exists.intro _ (Exists.intro _ (And.intro (by
        show FCall _ _ [_, _, .int .i64 (IntKind.i64.wrap (f + bindN (cKd c) (i : Nat)))] _ _ _
        rw [wrapI (by omega)]
        exact ih _ hmem _ (hgi _ hmem) (by omega) (by show _ + ((sizT (elt (dflt uCor) c.kids ((i : Nat) : Int)) : Nat) : Int) ≤ _; omega)) ?_)))
      refine And.intro (by show (c.kids.take i).length + 1 ≤ _; rw [List.length_take]; omega) ?_
      refine And.intro (by kernel_rfl) ?_
      refine lp_next (i + 1) hlt ?_ (by show c.kids.length - (i + 1) < c.kids.length - i; omega)
      refine Go.Tr.hd [(20001, 20001), (20000, 66)] rfl (And.intro ⟨wrapI (by omega), rfl⟩ trivial) ⟨trivial, ⟨⟨rfl, rfl⟩, ⟨rfl, rfl⟩, rfl, rfl, trivial⟩, ⟨rfl, List.nil_prefix⟩, ⟨?_, List.nil_prefix⟩, trivial, ⟨⟨rfl, rfl⟩, ⟨rfl, rfl⟩, rfl, rfl, trivial⟩, trivial⟩
      show c.kids.take i ++ [.node (cKd (elt (dflt uCor) c.kids ((i : Nat) : Int)), cVl (elt (dflt uCor) c.kids ((i : Nat) : Int)), cDt (elt (dflt uCor) c.kids ((i : Nat) : Int))) (elt (dflt uCor) c.kids ((i : Nat) : Int)).kids] = c.kids.take (i + 1)
      rw [node_eta, ← takeE (d := dflt uCor) hlt]
    have hge : c.kids.length ≤ i := by have : ¬ ((i : Nat) : Int) < (c.kids.length : Nat) := of_decide_eq_false q1; omega
    refine fin [(10000, 20001), (10001, 20000)] (And.intro rfl ?_)
    exact ⟨⟨rfl, List.nil_prefix⟩, ⟨by rw [List.take_of_length_le hge]; rfl, List.nil_prefix⟩, trivial⟩
theorem okOwnC : callOk Tryz.prog 25 = true := by kernel_rfl
theorem ownF (c : Cor) (hg : goodT c = true) (hs : sizT c ≤ 3000000) : FCall Tryz.prog 25 [.rp uCor c] [] (.agg (cOwn c)) (tCop c) := by
  refine FCall.intro (nt := 5) ti_ok mixed okOwnC Tryz.func25 rfl rfl rfl rfl rfl rfl ?_
  refine Or.inr (Exists.intro _ (Exists.intro _ (And.intro (shOwn c 0 hg (by omega) (by omega)) ?_)))
  refine fin [(10000, 4), (10001, 1000004)] (And.intro rfl ?_)
  exact ⟨⟨rfl, List.nil_prefix⟩, ⟨rfl, List.nil_prefix⟩, trivial⟩
end Go.Proofs.YtieemijapiiiiaaGreat
