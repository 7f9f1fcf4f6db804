/- Core terms: draws. -/
import Derived.Test.YtieemijapiiiiaaOj
import Derived.Test.YtieemijapiiiiaaLa
set_option linter.unusedSimpArgs false
set_option linter.unusedVariables false
namespace Go.Proofs.Ytieemijapiiiiaa
open Go Go.RowKit Go.Proofs Go.Tr
theorem okCV : callOk Try.prog 20 = true := by kernel_rfl
theorem cvG (x : Int) : FCallG Try.prog 20 [.int .i64 x] [] (.agg (cSV (mkC 1 x [] []))) [] := by
  refine FCallG.fz (ts1 := []) (r1 := .agg [.int .i64 1, .int .i64 x, .raw (.slice none 0 0), .raw (.slice none 0 0)]) ?_ (Or.inr ⟨_, Or.inr ⟨_, rfl⟩⟩)
  refine FCallG.intro (nt := 5) ti_ok mixed okCV Try.func20 rfl rfl rfl rfl rfl rfl ?_
  refine fin [] (And.intro ?_ trivial)
  exact rfl
theorem okCR : callOk Try.prog 55 = true := by kernel_rfl
theorem crG (x : Int) : FCallG Try.prog 55 [.int .i64 x] [] (.agg (cSV (mkC 11 x [] []))) [] := by
  refine FCallG.fz (ts1 := []) (r1 := .agg [.int .i64 11, .int .i64 x, .raw (.slice none 0 0), .raw (.slice none 0 0)]) ?_ (Or.inr ⟨_, Or.inr ⟨_, rfl⟩⟩)
  refine FCallG.intro (nt := 5) ti_ok mixed okCR Try.func55 rfl rfl rfl rfl rfl rfl ?_
  refine fin [] (And.intro ?_ trivial)
  exact rfl
theorem okCN : callOk Try.prog 56 = true := by kernel_rfl
theorem cnG (x : Int) : FCallG Try.prog 56 [.int .i64 x] [] (.agg (cSV (mkC 2 x [] []))) [] := by
  refine FCallG.fz (ts1 := []) (r1 := .agg [.int .i64 2, .int .i64 x, .raw (.slice none 0 0), .raw (.slice none 0 0)]) ?_ (Or.inr ⟨_, Or.inr ⟨_, rfl⟩⟩)
  refine FCallG.intro (nt := 5) ti_ok mixed okCN Try.func56 rfl rfl rfl rfl rfl rfl ?_
  refine fin [] (And.intro ?_ trivial)
  exact rfl
theorem okCC : callOk Try.prog 38 = true := by kernel_rfl
theorem ccG (k v : Int) (l : List Cor) : FCallG Try.prog 38 [.int .i64 k, .int .i64 v, .rsl uCor l] [] (.agg (cSV (mkC k v [] l))) [] := by
  refine FCallG.fz (ts1 := []) (r1 := .agg [.int .i64 k, .int .i64 v, .raw (.slice none 0 0), .rsl uCor l]) ?_ (Or.inr ⟨_, rfl⟩)
  refine FCallG.intro (nt := 11) ti_ok mixed okCC Try.func38 rfl rfl rfl rfl rfl rfl ?_
  refine fin [] (And.intro ?_ trivial)
  exact rfl
theorem okCL : callOk Try.prog 21 = true := by kernel_rfl
theorem clG (c : Cor) : FCallG Try.prog 21 [.agg (cSV c)] [] (.agg (cSV (mkC 4 0 [] [c]))) [] := by
  refine FCallG.intro (nt := 6) ti_ok mixed okCL Try.func21 rfl rfl rfl rfl rfl rfl ?_
  refine Or.inr (Or.inr (Exists.intro _ (Exists.intro _ (And.intro (ccG 4 0 _) ?_))))
  refine fin [] (And.intro ?_ trivial)
  show SV.agg (cSV (mkC 4 0 [] [.node (cKd c, cVl c, cDt c) c.kids])) = SV.agg (cSV (mkC 4 0 [] [c]))
  rw [node_eta]
theorem okCA : callOk Try.prog 19 = true := by kernel_rfl
theorem caG (c e : Cor) : FCallG Try.prog 19 [.agg (cSV c), .agg (cSV e)] [] (.agg (cSV (mkC 5 0 [] [c, e]))) [] := by
  refine FCallG.intro (nt := 9) ti_ok mixed okCA Try.func19 rfl rfl rfl rfl rfl rfl ?_
  refine Or.inr (Or.inr (Exists.intro _ (Exists.intro _ (And.intro (ccG 5 0 _) ?_))))
  refine fin [] (And.intro ?_ trivial)
  show SV.agg (cSV (mkC 5 0 [] [.node (cKd c, cVl c, cDt c) c.kids, .node (cKd e, cVl e, cDt e) e.kids])) = SV.agg (cSV (mkC 5 0 [] [c, e]))
  rw [node_eta, node_eta]
section
variable (code : List Int) (d : DS)
theorem okOne : callOk Try.prog 35 = true := by kernel_rfl
theorem oneW (hb : Bytes code) (hk : d.k ≤ 99999999) (n : Int) : FCall Try.prog 35 [.ptr 10000 0, .int .i64 n] (tSrc code d) (.bool ((pk code d n).1 == 0)) (tSrc code (pk code d n).2) := by
  refine FCall.intro (nt := 9) ti_ok mixed okOne Try.func35 rfl rfl rfl rfl rfl rfl ?_
  refine Or.inr (Exists.intro _ (Exists.intro _ (And.intro (pickW code d hb hk n) ?_)))
  refine fin [] (And.intro rfl ?_)
  exact ⟨trivial, ⟨rfl, ⟨rfl, rfl⟩, ⟨rfl, rfl⟩, trivial⟩, trivial⟩
theorem okAmong : callOk Try.prog 58 = true := by kernel_rfl
theorem amongW (hb : Bytes code) (hk : d.k ≤ 99999999) (xs : List (El (.int .i64))) (h1 : 1 ≤ xs.length) (h2 : xs.length ≤ 1000000) : FCall Try.prog 58 [.ptr 10000 0, .sl 10001] (tSrc code d ++ [.row 10001 2 1 (.int .i64) xs []]) (.int .i64 (elt (0 : Int) xs (pk code d (xs.length : Nat)).1)) (tSrc code (pk code d (xs.length : Nat)).2 ++ [.row 10001 2 1 (.int .i64) xs []]) := by
  refine FCall.intro (nt := 12) ti_ok mixed okAmong Try.func58 rfl rfl rfl rfl rfl rfl ?_
  refine Or.inr (Exists.intro _ (Exists.intro _ (And.intro (pickW code d hb hk (xs.length : Nat)) ?_)))
  have h3 := pk_0 hb d (xs.length : Nat)
  have h4 := pk_lt hb d (n := (xs.length : Nat)) (by omega)
  refine And.intro (show 0 ≤ (pk code d (xs.length : Nat)).1 ∧ (pk code d (xs.length : Nat)).1 < (xs.length : Nat) from ⟨h3, h4⟩) ?_
  refine fin [] (And.intro ⟨rfl, rfl⟩ ?_)
  exact ⟨trivial, ⟨rfl, ⟨rfl, rfl⟩, ⟨rfl, rfl⟩, trivial⟩, ⟨rfl, List.nil_prefix⟩, trivial⟩
theorem okInt1 : callOk Try.prog 57 = true := by kernel_rfl
/-- A drawn int: some number within 32 bits, some state of the source. -/
theorem int1W (hb : Bytes code) (hk : d.k ≤ 99999990) : ∃ (x : Int) (d' : DS), -2147483648 ≤ x ∧ x ≤ 2147483647 ∧ d'.k ≤ d.k + 4 ∧ FCall Try.prog 57 [.ptr 10000 0] (tSrc code d) (.int .i64 x) (tSrc code d') := by
  have k1 := pk_k code d 6
  cases hq : ((pk code d 6).1 == 0) with
  | true =>
    have k2 := pk_k code (pk code d 6).2 (5 : Nat)
    have h3 := pk_0 hb (pk code d 6).2 (5 : Nat)
    have h4 := pk_lt hb (pk code d 6).2 (n := (5 : Nat)) (by decide)
    have hx : ∀ y : Int, 0 ≤ y → y < 5 → -2147483648 ≤ elt (0 : Int) [-2147483648, 2147483647, -1, 65536, -2147483647] y ∧ elt (0 : Int) [-2147483648, 2147483647, -1, 65536, -2147483647] y ≤ 2147483647 := fun y h1 h2 => by
      have : y = 0 ∨ y = 1 ∨ y = 2 ∨ y = 3 ∨ y = 4 := by omega
      rcases this with rfl | rfl | rfl | rfl | rfl <;> decide
    have h5 := hx _ h3 h4
    refine ⟨elt (0 : Int) [-2147483648, 2147483647, -1, 65536, -2147483647] (pk code (pk code d 6).2 (5 : Nat)).1, (pk code (pk code d 6).2 (5 : Nat)).2, h5.1, h5.2, by omega, ?_⟩
    refine FCall.intro (nt := 11) ti_ok mixed okInt1 Try.func57 rfl rfl rfl rfl rfl rfl ?_
    refine Or.inr (Exists.intro _ (Exists.intro _ (And.intro (oneW code d hb (by omega) 6) ?_)))
    refine And.intro (fun _ => ?_) (fun q => by rw [hq] at q; cases q)
    refine Or.inr (Exists.intro _ (Exists.intro _ (And.intro (amongW code (pk code d 6).2 hb (by omega) [-2147483648, 2147483647, -1, 65536, -2147483647] (by decide) (by decide)) ?_)))
    refine fin [] (And.intro ⟨rfl, rfl⟩ ?_)
    exact ⟨trivial, ⟨rfl, ⟨rfl, rfl⟩, ⟨rfl, rfl⟩, trivial⟩, trivial⟩
  | false =>
    have k2 := pk_k code (pk code d 6).2 12
    have h3 := pk_0 hb (pk code d 6).2 12
    have h4 := pk_lt hb (pk code d 6).2 (n := 12) (by decide)
    refine ⟨(pk code (pk code d 6).2 12).1 - 2, (pk code (pk code d 6).2 12).2, by omega, by omega, by omega, ?_⟩
    refine FCall.intro (nt := 11) ti_ok mixed okInt1 Try.func57 rfl rfl rfl rfl rfl rfl ?_
    refine Or.inr (Exists.intro _ (Exists.intro _ (And.intro (oneW code d hb (by omega) 6) ?_)))
    refine And.intro (fun q => by rw [hq] at q; cases q) (fun _ => ?_)
    refine Or.inr (Exists.intro _ (Exists.intro _ (And.intro (pickW code (pk code d 6).2 hb (by omega) 12) ?_)))
    refine fin [] (And.intro ⟨wrapI (by omega), rfl⟩ ?_)
    exact ⟨trivial, ⟨rfl, ⟨rfl, rfl⟩, ⟨rfl, rfl⟩, trivial⟩, trivial⟩
end
theorem okLongA : callOk Try.prog 5 = true := by kernel_rfl
theorem longQ (xs ys : List Int) : QCall Try.prog 5 [.rsl uByte xs, .rsl uByte ys] (.bool (bif decide ((3000 : Int) < (xs.length : Nat)) then true else decide ((3000 : Int) < (ys.length : Nat)))) := by
  refine QCall.intro (nt := 13) ti_ok mixed okLongA Try.func5 rfl rfl rfl rfl rfl ?_
  exact rfl
theorem okAtA : callOk Try.prog 7 = true := by kernel_rfl
theorem atQ (xs : List Int) (hb : Bytes xs) (i : Nat) (n : Int) (hn : 1 ≤ n) (hn2 : n ≤ 1000) : ∃ x, 0 ≤ x ∧ x < n ∧ QCall Try.prog 7 [.rsl uByte xs, .int .i64 (i : Nat), .int .i64 n] (.int .i64 x) := by
  by_cases h : xs.length ≤ i
  · refine ⟨0, by omega, by omega, ?_⟩
    refine QCall.intro (nt := 22) ti_ok mixed okAtA Try.func7 rfl rfl rfl rfl rfl ?_
    refine And.intro (fun _ => ⟨rfl, rfl⟩) (fun q => ?_)
    have q' : (bif decide (((xs.length : Nat) : Int) ≤ (i : Nat)) then true else decide (n < 1)) = false := q
    rw [decide_eq_true (by omega)] at q'
    cases q'
  · have hlt : i < xs.length := by omega
    have hx := hb.2 _ (eltM (d := (0 : Int)) hlt)
    refine ⟨(elt (0 : Int) xs (i : Nat)).tmod n, Int.tmod_nonneg _ hx.1, Int.tmod_lt_of_pos _ (by omega), ?_⟩
    refine QCall.intro (nt := 22) ti_ok mixed okAtA Try.func7 rfl rfl rfl rfl rfl ?_
    refine And.intro (fun q => ?_) (fun _ => ?_)
    · have q' : (bif decide (((xs.length : Nat) : Int) ≤ (i : Nat)) then true else decide (n < 1)) = true := q
      rw [decide_eq_false (by omega), decide_eq_false (by omega)] at q'
      cases q'
    · refine And.intro (show (0 : Int) ≤ (i : Nat) ∧ ((i : Nat) : Int) < (xs.length : Nat) by omega) ?_
      refine And.intro (show n ≠ 0 by omega) ?_
      exact ⟨congrArg (fun z => Int.tmod z n) (wrapI (x := elt (0 : Int) xs (i : Nat)) (by omega)), rfl⟩
end Go.Proofs.Ytieemijapiiiiaa
