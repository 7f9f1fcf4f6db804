/- Core terms: bent terms; valid terms out of bytes. -/
import Derived.Test.YtieemijapiiiiaaOm
import Derived.Test.YtieemijapiiiiaaOe
set_option linter.unusedSimpArgs false
set_option linter.unusedVariables false
namespace Go.Proofs.Ytieemijapiiiiaa
open Go Go.RowKit Go.Proofs Go.Tr
theorem okBendC : callOk Try.prog 36 = true := by kernel_rfl
/-- A term may be bent. -/
def BendP (code : List Int) (c : Cor) : Prop := ∀ d : DS, wT c ≤ 4000 → d.k + 8 * wT c + 20 ≤ 99990000 → ∃ (c' : Cor) (d' : DS), d'.k ≤ d.k + 8 * wT c + 20 ∧ FCallG Try.prog 36 [.ptr 10000 0, .agg (cSV c)] (tSrc code d) (.agg (cSV c')) (tSrc code d')
def lamN : Nat → Cor → Cor
  | 0, c => c
  | m + 1, c => lamN m (mkC 4 0 [] [c])
theorem lam_n {y : Int} (h1 : 0 ≤ y) (h2 : y < 5) : ∃ n : Nat, n ≤ 1000 ∧ elt (0 : Int) [3, 10, 70, 78, 79] y = (n : Nat) := by
  have : y = 0 ∨ y = 1 ∨ y = 2 ∨ y = 3 ∨ y = 4 := by omega
  rcases this with rfl | rfl | rfl | rfl | rfl
  · exact ⟨3, by decide, rfl⟩
  · exact ⟨10, by decide, rfl⟩
  · exact ⟨70, by decide, rfl⟩
  · exact ⟨78, by decide, rfl⟩
  · exact ⟨79, by decide, rfl⟩
def appN : Nat → Cor → Cor
  | 0, c => c
  | m + 1, c => appN m (mkC 5 0 [] [c, c])
section
variable (code : List Int) (d : DS)
set_option maxHeartbeats 1000000 in
set_option maxRecDepth 100000 in
theorem bendIn (hb : Bytes code) (c : Cor) (ih : ∀ k ∈ c.kids, BendP code k) (hw : wT c ≤ 4000) (hk : d.k + 8 * wT c + 20 ≤ 99990000) (hl : 0 < c.kids.length) (h3 : ((pk code d 3).1 == 0) = false) : ∃ (c' : Cor) (d' : DS), d'.k ≤ d.k + 8 * wT c + 20 ∧ FCallG Try.prog 36 [.ptr 10000 0, .agg (cSV c)] (tSrc code d) (.agg (cSV c')) (tSrc code d') := by
  have k1 := pk_k code d 3
  have k2 := pk_k code (pk code d 3).2 (c.kids.length : Nat)
  have z1 := pk_0 hb (pk code d 3).2 (c.kids.length : Nat)
  have z2 := pk_lt hb (pk code d 3).2 (n := (c.kids.length : Nat)) (by omega)
  obtain ⟨i, hi, ei⟩ : ∃ i : Nat, i < c.kids.length ∧ (pk code (pk code d 3).2 (c.kids.length : Nat)).1 = (i : Nat) := ⟨(pk code (pk code d 3).2 (c.kids.length : Nat)).1.toNat, by omega, by omega⟩
  have hmem := eltM (d := dflt uCor) hi
  have hwk := wT_kid hmem
  have hwl := wT_len c
  obtain ⟨e, de, k3, h1⟩ := ih _ hmem (pk code (pk code d 3).2 (c.kids.length : Nat)).2 (by omega) (by omega)
  refine ⟨mkC (cKd c) (cVl c) (cDt c) (c.kids.set i e), de, by omega, ?_⟩
  refine FCallG.fzT (ts1 := tSrc code de) (ts2 := [.dat 10001 27 4 uCor (c.kids.set i e)]) (r1 := .agg [.int .i64 (cKd c), .int .i64 (cVl c), .rsl (.int .i64) (cDt c), .sl 10001]) ?_ rfl
  refine FCallG.intro (nt := 108) ti_ok mixed okBendC Try.func36 rfl rfl rfl rfl rfl rfl ?_
  refine Or.inr (And.intro (fun _ => Exists.intro _ (Exists.intro _ (And.intro (oneW code d hb (by omega) 3) ?_))) (fun q => ?_))
  rotate_left
  · have q' : decide (0 < ((c.kids.length : Nat) : Int)) = false := q
    rw [decide_eq_true (by omega)] at q'; cases q'
  refine And.intro (fun _ => ?_) (fun q => ?_)
  rotate_left
  · have q' : (bif decide (0 < ((c.kids.length : Nat) : Int)) then !((pk code d 3).1 == 0) else false) = false := q
    rw [h3, decide_eq_true (by omega)] at q'; cases q'
  refine Or.inr (Or.inl (Exists.intro _ (Exists.intro _ (And.intro (pickW code (pk code d 3).2 hb (by omega) (c.kids.length : Nat)) ?_))))
  rw [ei]
  refine And.intro (by show c.kids.length ≤ _; omega) ?_
  refine And.intro (show (0 : Int) ≤ (i : Nat) ∧ ((i : Nat) : Int) < (c.kids.length : Nat) by omega) ?_
  conv => whnf
  refine Or.inr (Or.inr (Exists.intro _ (Exists.intro _ (And.intro (by show FCallG _ _ [_, .agg (cSV (elt (dflt uCor) c.kids ((i : Nat) : Int)))] _ _ _; exact h1) ?_))))
  refine And.intro (show (0 : Int) ≤ (i : Nat) ∧ ((i : Nat) : Int) < (c.kids.length : Nat) by omega) ?_
  refine And.intro (by kernel_rfl) ?_
  refine fin [(10001, 25)] (And.intro rfl ?_)
  refine ⟨trivial, srcEq _ _, ⟨?_, trivial⟩⟩
  show c.kids.set i (.node (cKd e, cVl e, cDt e) e.kids) = c.kids.set i e
  rw [node_eta]
set_option maxHeartbeats 1000000 in
set_option maxRecDepth 100000 in
theorem bende0 (hb : Bytes code) (c : Cor) (hw : wT c ≤ 4000) (hk : d.k + 8 * wT c + 20 ≤ 99990000) (hl : c.kids.length = 0) (hp : (pk code d 9).1 = 0) : ∃ (c' : Cor) (d' : DS), d'.k ≤ d.k + 8 * wT c + 20 ∧ FCallG Try.prog 36 [.ptr 10000 0, .agg (cSV c)] (tSrc code d) (.agg (cSV c')) (tSrc code d') := by
  have k2 := pk_k code d 9
  have hwl := wT_len c
  have hw1 := wT_1 c
  have k3 := pk_k code (pk code d 9).2 13
  refine ⟨mkC (pk code (pk code d 9).2 13).1 (cVl c) (cDt c) c.kids, (pk code (pk code d 9).2 13).2, by omega, ?_⟩
  refine FCallG.intro (nt := 108) ti_ok mixed okBendC Try.func36 rfl rfl rfl rfl rfl rfl ?_
  refine Or.inr (And.intro (fun q => ?_) (fun _ => Exists.intro (.bool false) ?_))
  · have q' : decide (0 < ((c.kids.length : Nat) : Int)) = true := q
    rw [decide_eq_false (by omega)] at q'; cases q'
  refine And.intro (fun q => ?_) (fun _ => ?_)
  · have q' : (bif decide (0 < ((c.kids.length : Nat) : Int)) then true else false) = true := q
    rw [decide_eq_false (by omega)] at q'; cases q'
  refine Or.inr (Or.inl (Exists.intro _ (Exists.intro _ (And.intro (pickW code d hb (by omega) 9) ?_))))
  rw [hp]
  refine And.intro (fun _ => ?_) (fun q => by cases q)
  refine Or.inr (Or.inl (Exists.intro _ (Exists.intro _ (And.intro (pickW code (pk code d 9).2 hb (by omega) 13) ?_))))
  refine fin [] (And.intro rfl ?_)
  exact ⟨trivial, srcEq _ _, trivial⟩
set_option maxHeartbeats 1000000 in
set_option maxRecDepth 100000 in
theorem bende1 (hb : Bytes code) (c : Cor) (hw : wT c ≤ 4000) (hk : d.k + 8 * wT c + 20 ≤ 99990000) (hl : c.kids.length = 0) (hp : (pk code d 9).1 = 1) : ∃ (c' : Cor) (d' : DS), d'.k ≤ d.k + 8 * wT c + 20 ∧ FCallG Try.prog 36 [.ptr 10000 0, .agg (cSV c)] (tSrc code d) (.agg (cSV c')) (tSrc code d') := by
  have k2 := pk_k code d 9
  have hwl := wT_len c
  have hw1 := wT_1 c
  have k3 := pk_k code (pk code d 9).2 (11 : Nat)
  refine ⟨mkC (cKd c) (elt (0 : Int) [-1, 0, 1, 3, 4, 23, 24, 255, 256, 2147483647, 2147483648] (pk code (pk code d 9).2 (11 : Nat)).1) (cDt c) c.kids, (pk code (pk code d 9).2 (11 : Nat)).2, by omega, ?_⟩
  refine FCallG.intro (nt := 108) ti_ok mixed okBendC Try.func36 rfl rfl rfl rfl rfl rfl ?_
  refine Or.inr (And.intro (fun q => ?_) (fun _ => Exists.intro (.bool false) ?_))
  · have q' : decide (0 < ((c.kids.length : Nat) : Int)) = true := q
    rw [decide_eq_false (by omega)] at q'; cases q'
  refine And.intro (fun q => ?_) (fun _ => ?_)
  · have q' : (bif decide (0 < ((c.kids.length : Nat) : Int)) then true else false) = true := q
    rw [decide_eq_false (by omega)] at q'; cases q'
  refine Or.inr (Or.inl (Exists.intro _ (Exists.intro _ (And.intro (pickW code d hb (by omega) 9) ?_))))
  rw [hp]
  refine And.intro (fun q => by cases q) (fun _ => ?_)
  refine And.intro (fun _ => ?_) (fun q => by cases q)
  refine Or.inr (Or.inl (Exists.intro _ (Exists.intro _ (And.intro (amongW code (pk code d 9).2 hb (by omega) [-1, 0, 1, 3, 4, 23, 24, 255, 256, 2147483647, 2147483648] (by decide) (by decide)) ?_))))
  refine fin [] (And.intro rfl ?_)
  exact ⟨trivial, srcEq _ _, trivial⟩
set_option maxHeartbeats 1000000 in
set_option maxRecDepth 100000 in
theorem bende2 (hb : Bytes code) (c : Cor) (hw : wT c ≤ 4000) (hk : d.k + 8 * wT c + 20 ≤ 99990000) (hl : c.kids.length = 0) (hp : (pk code d 9).1 = 2) : ∃ (c' : Cor) (d' : DS), d'.k ≤ d.k + 8 * wT c + 20 ∧ FCallG Try.prog 36 [.ptr 10000 0, .agg (cSV c)] (tSrc code d) (.agg (cSV c')) (tSrc code d') := by
  have k2 := pk_k code d 9
  have hwl := wT_len c
  have hw1 := wT_1 c
  refine ⟨mkC (cKd c) (cVl c) (cDt c) (c.kids ++ [mkC 2 1 [] []]), (pk code d 9).2, by omega, ?_⟩
  refine FCallG.fzT (ts1 := tSrc code (pk code d 9).2) (ts2 := [.dat 10001 27 4 uCor (c.kids ++ [mkC 2 1 [] []])]) (r1 := .agg [.int .i64 (cKd c), .int .i64 (cVl c), .rsl (.int .i64) (cDt c), .sl 10001]) ?_ rfl
  refine FCallG.intro (nt := 108) ti_ok mixed okBendC Try.func36 rfl rfl rfl rfl rfl rfl ?_
  refine Or.inr (And.intro (fun q => ?_) (fun _ => Exists.intro (.bool false) ?_))
  · have q' : decide (0 < ((c.kids.length : Nat) : Int)) = true := q
    rw [decide_eq_false (by omega)] at q'; cases q'
  refine And.intro (fun q => ?_) (fun _ => ?_)
  · have q' : (bif decide (0 < ((c.kids.length : Nat) : Int)) then true else false) = true := q
    rw [decide_eq_false (by omega)] at q'; cases q'
  refine Or.inr (Or.inl (Exists.intro _ (Exists.intro _ (And.intro (pickW code d hb (by omega) 9) ?_))))
  rw [hp]
  refine And.intro (fun q => by cases q) (fun _ => ?_)
  refine And.intro (fun q => by cases q) (fun _ => ?_)
  refine And.intro (fun _ => ?_) (fun q => by cases q)
  refine And.intro (by show c.kids.length ≤ _; omega) ?_
  refine Or.inr (Or.inr (Exists.intro _ (Exists.intro _ (And.intro (cnG 1) ?_))))
  refine And.intro (by show c.kids.length + 1 ≤ _; omega) ?_
  refine fin [(10001, 60)] (And.intro rfl ?_)
  exact ⟨trivial, srcEq _ _, ⟨rfl, trivial⟩⟩
set_option maxHeartbeats 1000000 in
set_option maxRecDepth 100000 in
theorem bende3 (hb : Bytes code) (c : Cor) (hw : wT c ≤ 4000) (hk : d.k + 8 * wT c + 20 ≤ 99990000) (hl : c.kids.length = 0) (hp : (pk code d 9).1 = 3) : ∃ (c' : Cor) (d' : DS), d'.k ≤ d.k + 8 * wT c + 20 ∧ FCallG Try.prog 36 [.ptr 10000 0, .agg (cSV c)] (tSrc code d) (.agg (cSV c')) (tSrc code d') := by
  have k2 := pk_k code d 9
  have hwl := wT_len c
  have hw1 := wT_1 c
  have k3 := pk_k code (pk code d 9).2 (4 : Nat)
  refine ⟨mkC (cKd c) (cVl c) (cDt c ++ [(elt (0 : Int) [0, -1, 23, 24] (pk code (pk code d 9).2 (4 : Nat)).1)]) c.kids, (pk code (pk code d 9).2 (4 : Nat)).2, by omega, ?_⟩
  refine FCallG.fzT (ts1 := tSrc code (pk code (pk code d 9).2 (4 : Nat)).2) (ts2 := [.row 10001 2 1 (.int .i64) (cDt c ++ [(elt (0 : Int) [0, -1, 23, 24] (pk code (pk code d 9).2 (4 : Nat)).1)]) []]) (r1 := .agg [.int .i64 (cKd c), .int .i64 (cVl c), .sl 10001, .rsl uCor c.kids]) ?_ rfl
  refine FCallG.intro (nt := 108) ti_ok mixed okBendC Try.func36 rfl rfl rfl rfl rfl rfl ?_
  refine Or.inr (And.intro (fun q => ?_) (fun _ => Exists.intro (.bool false) ?_))
  · have q' : decide (0 < ((c.kids.length : Nat) : Int)) = true := q
    rw [decide_eq_false (by omega)] at q'; cases q'
  refine And.intro (fun q => ?_) (fun _ => ?_)
  · have q' : (bif decide (0 < ((c.kids.length : Nat) : Int)) then true else false) = true := q
    rw [decide_eq_false (by omega)] at q'; cases q'
  refine Or.inr (Or.inl (Exists.intro _ (Exists.intro _ (And.intro (pickW code d hb (by omega) 9) ?_))))
  rw [hp]
  refine And.intro (fun q => by cases q) (fun _ => ?_)
  refine And.intro (fun q => by cases q) (fun _ => ?_)
  refine And.intro (fun q => by cases q) (fun _ => ?_)
  refine And.intro (fun _ => ?_) (fun q => by cases q)
  refine And.intro (by show 0 + (cDt c).length ≤ _; omega) ?_
  refine Or.inr (Or.inl (Exists.intro _ (Exists.intro _ (And.intro (amongW code (pk code d 9).2 hb (by omega) [0, -1, 23, 24] (by decide) (by decide)) ?_))))
  refine And.intro (by show (cDt c).length + 1 ≤ _; omega) ?_
  refine fin [(10001, 72)] (And.intro rfl ?_)
  exact ⟨trivial, srcEq _ _, ⟨rfl, List.nil_prefix⟩, trivial⟩
set_option maxHeartbeats 1000000 in
set_option maxRecDepth 100000 in
theorem bende5 (hb : Bytes code) (c : Cor) (hw : wT c ≤ 4000) (hk : d.k + 8 * wT c + 20 ≤ 99990000) (hl : c.kids.length = 0) (hp : (pk code d 9).1 = 5) : ∃ (c' : Cor) (d' : DS), d'.k ≤ d.k + 8 * wT c + 20 ∧ FCallG Try.prog 36 [.ptr 10000 0, .agg (cSV c)] (tSrc code d) (.agg (cSV c')) (tSrc code d') := by
  have k2 := pk_k code d 9
  have hwl := wT_len c
  have hw1 := wT_1 c
  have k3 := pk_k code (pk code d 9).2 (5 : Nat)
  refine ⟨mkC 1 (elt (0 : Int) [0, 1, 2, 200, 255] (pk code (pk code d 9).2 (5 : Nat)).1) [] [], (pk code (pk code d 9).2 (5 : Nat)).2, by omega, ?_⟩
  refine FCallG.intro (nt := 108) ti_ok mixed okBendC Try.func36 rfl rfl rfl rfl rfl rfl ?_
  refine Or.inr (And.intro (fun q => ?_) (fun _ => Exists.intro (.bool false) ?_))
  · have q' : decide (0 < ((c.kids.length : Nat) : Int)) = true := q
    rw [decide_eq_false (by omega)] at q'; cases q'
  refine And.intro (fun q => ?_) (fun _ => ?_)
  · have q' : (bif decide (0 < ((c.kids.length : Nat) : Int)) then true else false) = true := q
    rw [decide_eq_false (by omega)] at q'; cases q'
  refine Or.inr (Or.inl (Exists.intro _ (Exists.intro _ (And.intro (pickW code d hb (by omega) 9) ?_))))
  rw [hp]
  refine And.intro (fun q => by cases q) (fun _ => ?_)
  refine And.intro (fun q => by cases q) (fun _ => ?_)
  refine And.intro (fun q => by cases q) (fun _ => ?_)
  refine And.intro (fun q => by cases q) (fun _ => ?_)
  refine And.intro (fun q => by cases q) (fun _ => ?_)
  refine And.intro (fun _ => ?_) (fun q => by cases q)
  refine Or.inr (Or.inl (Exists.intro _ (Exists.intro _ (And.intro (amongW code (pk code d 9).2 hb (by omega) [0, 1, 2, 200, 255] (by decide) (by decide)) ?_))))
  refine Or.inr (Or.inr (Exists.intro _ (Exists.intro _ (And.intro (cvG _) ?_))))
  refine fin [] (And.intro rfl ?_)
  exact ⟨trivial, srcEq _ _, trivial⟩
set_option maxHeartbeats 1000000 in
set_option maxRecDepth 100000 in
theorem bende7 (hb : Bytes code) (c : Cor) (hw : wT c ≤ 4000) (hk : d.k + 8 * wT c + 20 ≤ 99990000) (hl : c.kids.length = 0) (hp : (pk code d 9).1 = 7) : ∃ (c' : Cor) (d' : DS), d'.k ≤ d.k + 8 * wT c + 20 ∧ FCallG Try.prog 36 [.ptr 10000 0, .agg (cSV c)] (tSrc code d) (.agg (cSV c')) (tSrc code d') := by
  have k2 := pk_k code d 9
  have hwl := wT_len c
  have hw1 := wT_1 c
  refine ⟨mkC 6 0 [] [c], (pk code d 9).2, by omega, ?_⟩
  refine FCallG.intro (nt := 108) ti_ok mixed okBendC Try.func36 rfl rfl rfl rfl rfl rfl ?_
  refine Or.inr (And.intro (fun q => ?_) (fun _ => Exists.intro (.bool false) ?_))
  · have q' : decide (0 < ((c.kids.length : Nat) : Int)) = true := q
    rw [decide_eq_false (by omega)] at q'; cases q'
  refine And.intro (fun q => ?_) (fun _ => ?_)
  · have q' : (bif decide (0 < ((c.kids.length : Nat) : Int)) then true else false) = true := q
    rw [decide_eq_false (by omega)] at q'; cases q'
  refine Or.inr (Or.inl (Exists.intro _ (Exists.intro _ (And.intro (pickW code d hb (by omega) 9) ?_))))
  rw [hp]
  refine And.intro (fun q => by cases q) (fun _ => ?_)
  refine And.intro (fun q => by cases q) (fun _ => ?_)
  refine And.intro (fun q => by cases q) (fun _ => ?_)
  refine And.intro (fun q => by cases q) (fun _ => ?_)
  refine And.intro (fun q => by cases q) (fun _ => ?_)
  refine And.intro (fun q => by cases q) (fun _ => ?_)
  refine And.intro (fun q => by cases q) (fun _ => ?_)
  refine And.intro (fun _ => ?_) (fun q => by cases q)
  refine Or.inr (Or.inr (Exists.intro _ (Exists.intro _ (And.intro (ccG _ _ _) ?_))))
  refine fin [] (And.intro ?_ ?_)
  rotate_left
  · exact ⟨trivial, srcEq _ _, trivial⟩
  show SV.agg (cSV (mkC 6 0 [] [.node (cKd c, cVl c, cDt c) c.kids])) = SV.agg (cSV (mkC 6 0 [] [c]))
  rw [node_eta]
set_option maxHeartbeats 1000000 in
set_option maxRecDepth 100000 in
theorem bende8 (hb : Bytes code) (c : Cor) (hw : wT c ≤ 4000) (hk : d.k + 8 * wT c + 20 ≤ 99990000) (hl : c.kids.length = 0) (hp : (pk code d 9).1 = 8) : ∃ (c' : Cor) (d' : DS), d'.k ≤ d.k + 8 * wT c + 20 ∧ FCallG Try.prog 36 [.ptr 10000 0, .agg (cSV c)] (tSrc code d) (.agg (cSV c')) (tSrc code d') := by
  have k2 := pk_k code d 9
  have hwl := wT_len c
  have hw1 := wT_1 c
  refine ⟨c, (pk code d 9).2, by omega, ?_⟩
  refine FCallG.intro (nt := 108) ti_ok mixed okBendC Try.func36 rfl rfl rfl rfl rfl rfl ?_
  refine Or.inr (And.intro (fun q => ?_) (fun _ => Exists.intro (.bool false) ?_))
  · have q' : decide (0 < ((c.kids.length : Nat) : Int)) = true := q
    rw [decide_eq_false (by omega)] at q'; cases q'
  refine And.intro (fun q => ?_) (fun _ => ?_)
  · have q' : (bif decide (0 < ((c.kids.length : Nat) : Int)) then true else false) = true := q
    rw [decide_eq_false (by omega)] at q'; cases q'
  refine Or.inr (Or.inl (Exists.intro _ (Exists.intro _ (And.intro (pickW code d hb (by omega) 9) ?_))))
  rw [hp]
  refine And.intro (fun q => by cases q) (fun _ => ?_)
  refine And.intro (fun q => by cases q) (fun _ => ?_)
  refine And.intro (fun q => by cases q) (fun _ => ?_)
  refine And.intro (fun q => by cases q) (fun _ => ?_)
  refine And.intro (fun q => by cases q) (fun _ => ?_)
  refine And.intro (fun q => by cases q) (fun _ => ?_)
  refine And.intro (fun q => by cases q) (fun _ => ?_)
  refine And.intro (fun q => by cases q) (fun _ => ?_)
  refine fin [] (And.intro rfl ?_)
  exact ⟨trivial, srcEq _ _, trivial⟩
set_option maxHeartbeats 1000000 in
set_option maxRecDepth 100000 in
theorem bende4 (hb : Bytes code) (c : Cor) (hw : wT c ≤ 4000) (hk : d.k + 8 * wT c + 20 ≤ 99990000) (hl : c.kids.length = 0) (hp : (pk code d 9).1 = 4) : ∃ (c' : Cor) (d' : DS), d'.k ≤ d.k + 8 * wT c + 20 ∧ FCallG Try.prog 36 [.ptr 10000 0, .agg (cSV c)] (tSrc code d) (.agg (cSV c')) (tSrc code d') := by
  have k2 := pk_k code d 9
  have hwl := wT_len c
  have hw1 := wT_1 c
  have k3 := pk_k code (pk code d 9).2 (5 : Nat)
  obtain ⟨n, hn, en⟩ : ∃ n : Nat, n ≤ 1000 ∧ (elt (0 : Int) [3, 10, 70, 78, 79] (pk code (pk code d 9).2 (5 : Nat)).1) = (n : Nat) := lam_n (pk_0 hb (pk code d 9).2 (5 : Nat)) (pk_lt hb (pk code d 9).2 (n := (5 : Nat)) (by decide))
  refine ⟨lamN n c, (pk code (pk code d 9).2 (5 : Nat)).2, by omega, ?_⟩
  refine FCallG.intro (nt := 108) ti_ok mixed okBendC Try.func36 rfl rfl rfl rfl rfl rfl ?_
  refine Or.inr (And.intro (fun q => ?_) (fun _ => Exists.intro (.bool false) ?_))
  · have q' : decide (0 < ((c.kids.length : Nat) : Int)) = true := q
    rw [decide_eq_false (by omega)] at q'; cases q'
  refine And.intro (fun q => ?_) (fun _ => ?_)
  · have q' : (bif decide (0 < ((c.kids.length : Nat) : Int)) then true else false) = true := q
    rw [decide_eq_false (by omega)] at q'; cases q'
  refine Or.inr (Or.inl (Exists.intro _ (Exists.intro _ (And.intro (pickW code d hb (by omega) 9) ?_))))
  rw [hp]
  refine And.intro (fun q => by cases q) (fun _ => ?_)
  refine And.intro (fun q => by cases q) (fun _ => ?_)
  refine And.intro (fun q => by cases q) (fun _ => ?_)
  refine And.intro (fun q => by cases q) (fun _ => ?_)
  refine And.intro (fun _ => ?_) (fun q => by cases q)
  refine Or.inr (Or.inl (Exists.intro _ (Exists.intro _ (And.intro (amongW code (pk code d 9).2 hb (by omega) [3, 10, 70, 78, 79] (by decide) (by decide)) ?_))))
  conv => whnf
  refine lp (Cor × Nat) (fun s => [(6, .int .i64 (s.2 : Nat))]) (fun s => tSrc code (pk code (pk code d 9).2 (5 : Nat)).2 ++ [.cel 3 27 (cSV s.1), .cel 4 27 [.int .i64 0, .int .i64 0, .raw (.slice none 0 0), .raw (.slice none 0 0)]]) (fun s => s.2) (fun s => lamN s.2 s.1 = lamN n c ∧ s.2 ≤ n) (c, n) ⟨rfl, Nat.le_refl _⟩ ?_ ?_
  · exact hd [] rfl (And.intro ⟨en, rfl⟩ trivial) ⟨trivial, srcEq _ _, trivial, ⟨⟨rfl, rfl⟩, ⟨rfl, rfl⟩, rfl, rfl, trivial⟩, trivial, ⟨⟨rfl, rfl⟩, ⟨rfl, rfl⟩, rfl, rfl, trivial⟩, trivial⟩
  rintro ⟨s, j⟩ ⟨g1, g2⟩
  have g1' : lamN j s = _ := g1
  have g2' : j ≤ n := g2
  refine And.intro (fun q1 => ?_) (fun q1 => ?_)
  · have hj : 0 < j := by have : 0 < ((j : Nat) : Int) := of_decide_eq_true q1; omega
    obtain ⟨i, rfl⟩ : ∃ i, j = i + 1 := ⟨j - 1, by omega⟩
    refine Or.inr (Or.inr (Exists.intro _ (Exists.intro _ (And.intro (clG s) ?_))))
    refine lp_next (mkC 4 0 [] [s], i) ⟨g1', Nat.le_of_succ_le g2⟩ ?_ (by show i < i + 1; omega)
    exact Go.Tr.hd [] rfl (And.intro ⟨wrapPredI (by omega), rfl⟩ trivial) ⟨trivial, srcEq _ _, trivial, ⟨⟨rfl, rfl⟩, ⟨rfl, rfl⟩, rfl, rfl, trivial⟩, trivial, ⟨⟨rfl, rfl⟩, ⟨rfl, rfl⟩, rfl, rfl, trivial⟩, trivial⟩
  · have hj : j = 0 := by have : ¬ 0 < ((j : Nat) : Int) := of_decide_eq_false q1; omega
    subst hj
    have e1 : s = lamN n c := g1'
    rw [← e1]
    refine fin [] (And.intro rfl ?_)
    exact ⟨trivial, srcEq _ _, trivial⟩
set_option maxHeartbeats 1000000 in
set_option maxRecDepth 100000 in
theorem bende6 (hb : Bytes code) (c : Cor) (hw : wT c ≤ 4000) (hk : d.k + 8 * wT c + 20 ≤ 99990000) (hl : c.kids.length = 0) (hp : (pk code d 9).1 = 6) : ∃ (c' : Cor) (d' : DS), d'.k ≤ d.k + 8 * wT c + 20 ∧ FCallG Try.prog 36 [.ptr 10000 0, .agg (cSV c)] (tSrc code d) (.agg (cSV c')) (tSrc code d') := by
  have k2 := pk_k code d 9
  have hwl := wT_len c
  have hw1 := wT_1 c
  have k3 := pk_k code (pk code d 9).2 8
  obtain ⟨n, hn, en⟩ : ∃ n : Nat, n ≤ 1000 ∧ (pk code (pk code d 9).2 8).1 = (n : Nat) := by
    have y1 := pk_0 hb (pk code d 9).2 8
    have y2 := pk_lt hb (pk code d 9).2 (n := 8) (by decide)
    exact ⟨(pk code (pk code d 9).2 8).1.toNat, by omega, by omega⟩
  refine ⟨appN n c, (pk code (pk code d 9).2 8).2, by omega, ?_⟩
  refine FCallG.intro (nt := 108) ti_ok mixed okBendC Try.func36 rfl rfl rfl rfl rfl rfl ?_
  refine Or.inr (And.intro (fun q => ?_) (fun _ => Exists.intro (.bool false) ?_))
  · have q' : decide (0 < ((c.kids.length : Nat) : Int)) = true := q
    rw [decide_eq_false (by omega)] at q'; cases q'
  refine And.intro (fun q => ?_) (fun _ => ?_)
  · have q' : (bif decide (0 < ((c.kids.length : Nat) : Int)) then true else false) = true := q
    rw [decide_eq_false (by omega)] at q'; cases q'
  refine Or.inr (Or.inl (Exists.intro _ (Exists.intro _ (And.intro (pickW code d hb (by omega) 9) ?_))))
  rw [hp]
  refine And.intro (fun q => by cases q) (fun _ => ?_)
  refine And.intro (fun q => by cases q) (fun _ => ?_)
  refine And.intro (fun q => by cases q) (fun _ => ?_)
  refine And.intro (fun q => by cases q) (fun _ => ?_)
  refine And.intro (fun q => by cases q) (fun _ => ?_)
  refine And.intro (fun q => by cases q) (fun _ => ?_)
  refine And.intro (fun _ => ?_) (fun q => by cases q)
  refine Or.inr (Or.inl (Exists.intro _ (Exists.intro _ (And.intro (pickW code (pk code d 9).2 hb (by omega) 8) ?_))))
  conv => whnf
  refine lp (Cor × Nat) (fun s => [(7, .int .i64 (s.2 : Nat))]) (fun s => tSrc code (pk code (pk code d 9).2 8).2 ++ [.cel 3 27 (cSV s.1), .cel 4 27 [.int .i64 0, .int .i64 0, .raw (.slice none 0 0), .raw (.slice none 0 0)]]) (fun s => s.2) (fun s => appN s.2 s.1 = appN n c ∧ s.2 ≤ n) (c, n) ⟨rfl, Nat.le_refl _⟩ ?_ ?_
  · exact hd [] rfl (And.intro ⟨en, rfl⟩ trivial) ⟨trivial, srcEq _ _, trivial, ⟨⟨rfl, rfl⟩, ⟨rfl, rfl⟩, rfl, rfl, trivial⟩, trivial, ⟨⟨rfl, rfl⟩, ⟨rfl, rfl⟩, rfl, rfl, trivial⟩, trivial⟩
  rintro ⟨s, j⟩ ⟨g1, g2⟩
  have g1' : appN j s = _ := g1
  have g2' : j ≤ n := g2
  refine And.intro (fun q1 => ?_) (fun q1 => ?_)
  · have hj : 0 < j := by have : 0 < ((j : Nat) : Int) := of_decide_eq_true q1; omega
    obtain ⟨i, rfl⟩ : ∃ i, j = i + 1 := ⟨j - 1, by omega⟩
    refine Or.inr (Or.inr (Exists.intro _ (Exists.intro _ (And.intro (caG s s) ?_))))
    refine lp_next (mkC 5 0 [] [s, s], i) ⟨g1', Nat.le_of_succ_le g2⟩ ?_ (by show i < i + 1; omega)
    exact Go.Tr.hd [] rfl (And.intro ⟨wrapPredI (by omega), rfl⟩ trivial) ⟨trivial, srcEq _ _, trivial, ⟨⟨rfl, rfl⟩, ⟨rfl, rfl⟩, rfl, rfl, trivial⟩, trivial, ⟨⟨rfl, rfl⟩, ⟨rfl, rfl⟩, rfl, rfl, trivial⟩, trivial⟩
  · have hj : j = 0 := by have : ¬ 0 < ((j : Nat) : Int) := of_decide_eq_false q1; omega
    subst hj
    have e1 : s = appN n c := g1'
    rw [← e1]
    refine fin [] (And.intro rfl ?_)
    exact ⟨trivial, srcEq _ _, trivial⟩
set_option maxHeartbeats 1000000 in
set_option maxRecDepth 100000 in
theorem bendn0 (hb : Bytes code) (c : Cor) (hw : wT c ≤ 4000) (hk : d.k + 8 * wT c + 20 ≤ 99990000) (hl : 0 < c.kids.length) (h3 : ((pk code d 3).1 == 0) = true) (hp : (pk code (pk code d 3).2 9).1 = 0) : ∃ (c' : Cor) (d' : DS), d'.k ≤ d.k + 8 * wT c + 20 ∧ FCallG Try.prog 36 [.ptr 10000 0, .agg (cSV c)] (tSrc code d) (.agg (cSV c')) (tSrc code d') := by
  have k1 := pk_k code d 3
  have k2 := pk_k code (pk code d 3).2 9
  have hwl := wT_len c
  have hw1 := wT_1 c
  have k3 := pk_k code (pk code (pk code d 3).2 9).2 13
  refine ⟨mkC (pk code (pk code (pk code d 3).2 9).2 13).1 (cVl c) (cDt c) c.kids, (pk code (pk code (pk code d 3).2 9).2 13).2, by omega, ?_⟩
  refine FCallG.intro (nt := 108) ti_ok mixed okBendC Try.func36 rfl rfl rfl rfl rfl rfl ?_
  refine Or.inr (And.intro (fun _ => Exists.intro _ (Exists.intro _ (And.intro (oneW code d hb (by omega) 3) ?_))) (fun q => ?_))
  rotate_left
  · have q' : decide (0 < ((c.kids.length : Nat) : Int)) = false := q
    rw [decide_eq_true (by omega)] at q'; cases q'
  refine And.intro (fun q => ?_) (fun _ => ?_)
  · have q' : (bif decide (0 < ((c.kids.length : Nat) : Int)) then !((pk code d 3).1 == 0) else false) = true := q
    rw [h3] at q'
    rw [show (bif decide (0 < ((c.kids.length : Nat) : Int)) then !true else false) = false by cases decide (0 < ((c.kids.length : Nat) : Int)) <;> rfl] at q'; cases q'
  refine Or.inr (Or.inl (Exists.intro _ (Exists.intro _ (And.intro (pickW code (pk code d 3).2 hb (by omega) 9) ?_))))
  rw [hp]
  refine And.intro (fun _ => ?_) (fun q => by cases q)
  refine Or.inr (Or.inl (Exists.intro _ (Exists.intro _ (And.intro (pickW code (pk code (pk code d 3).2 9).2 hb (by omega) 13) ?_))))
  refine fin [] (And.intro rfl ?_)
  exact ⟨trivial, srcEq _ _, trivial⟩
set_option maxHeartbeats 1000000 in
set_option maxRecDepth 100000 in
theorem bendn1 (hb : Bytes code) (c : Cor) (hw : wT c ≤ 4000) (hk : d.k + 8 * wT c + 20 ≤ 99990000) (hl : 0 < c.kids.length) (h3 : ((pk code d 3).1 == 0) = true) (hp : (pk code (pk code d 3).2 9).1 = 1) : ∃ (c' : Cor) (d' : DS), d'.k ≤ d.k + 8 * wT c + 20 ∧ FCallG Try.prog 36 [.ptr 10000 0, .agg (cSV c)] (tSrc code d) (.agg (cSV c')) (tSrc code d') := by
  have k1 := pk_k code d 3
  have k2 := pk_k code (pk code d 3).2 9
  have hwl := wT_len c
  have hw1 := wT_1 c
  have k3 := pk_k code (pk code (pk code d 3).2 9).2 (11 : Nat)
  refine ⟨mkC (cKd c) (elt (0 : Int) [-1, 0, 1, 3, 4, 23, 24, 255, 256, 2147483647, 2147483648] (pk code (pk code (pk code d 3).2 9).2 (11 : Nat)).1) (cDt c) c.kids, (pk code (pk code (pk code d 3).2 9).2 (11 : Nat)).2, by omega, ?_⟩
  refine FCallG.intro (nt := 108) ti_ok mixed okBendC Try.func36 rfl rfl rfl rfl rfl rfl ?_
  refine Or.inr (And.intro (fun _ => Exists.intro _ (Exists.intro _ (And.intro (oneW code d hb (by omega) 3) ?_))) (fun q => ?_))
  rotate_left
  · have q' : decide (0 < ((c.kids.length : Nat) : Int)) = false := q
    rw [decide_eq_true (by omega)] at q'; cases q'
  refine And.intro (fun q => ?_) (fun _ => ?_)
  · have q' : (bif decide (0 < ((c.kids.length : Nat) : Int)) then !((pk code d 3).1 == 0) else false) = true := q
    rw [h3] at q'
    rw [show (bif decide (0 < ((c.kids.length : Nat) : Int)) then !true else false) = false by cases decide (0 < ((c.kids.length : Nat) : Int)) <;> rfl] at q'; cases q'
  refine Or.inr (Or.inl (Exists.intro _ (Exists.intro _ (And.intro (pickW code (pk code d 3).2 hb (by omega) 9) ?_))))
  rw [hp]
  refine And.intro (fun q => by cases q) (fun _ => ?_)
  refine And.intro (fun _ => ?_) (fun q => by cases q)
  refine Or.inr (Or.inl (Exists.intro _ (Exists.intro _ (And.intro (amongW code (pk code (pk code d 3).2 9).2 hb (by omega) [-1, 0, 1, 3, 4, 23, 24, 255, 256, 2147483647, 2147483648] (by decide) (by decide)) ?_))))
  refine fin [] (And.intro rfl ?_)
  exact ⟨trivial, srcEq _ _, trivial⟩
set_option maxHeartbeats 1000000 in
set_option maxRecDepth 100000 in
theorem bendn2 (hb : Bytes code) (c : Cor) (hw : wT c ≤ 4000) (hk : d.k + 8 * wT c + 20 ≤ 99990000) (hl : 0 < c.kids.length) (h3 : ((pk code d 3).1 == 0) = true) (hp : (pk code (pk code d 3).2 9).1 = 2) : ∃ (c' : Cor) (d' : DS), d'.k ≤ d.k + 8 * wT c + 20 ∧ FCallG Try.prog 36 [.ptr 10000 0, .agg (cSV c)] (tSrc code d) (.agg (cSV c')) (tSrc code d') := by
  have k1 := pk_k code d 3
  have k2 := pk_k code (pk code d 3).2 9
  have hwl := wT_len c
  have hw1 := wT_1 c
  refine ⟨mkC (cKd c) (cVl c) (cDt c) (c.kids ++ [mkC 2 1 [] []]), (pk code (pk code d 3).2 9).2, by omega, ?_⟩
  refine FCallG.fzT (ts1 := tSrc code (pk code (pk code d 3).2 9).2) (ts2 := [.dat 10001 27 4 uCor (c.kids ++ [mkC 2 1 [] []])]) (r1 := .agg [.int .i64 (cKd c), .int .i64 (cVl c), .rsl (.int .i64) (cDt c), .sl 10001]) ?_ rfl
  refine FCallG.intro (nt := 108) ti_ok mixed okBendC Try.func36 rfl rfl rfl rfl rfl rfl ?_
  refine Or.inr (And.intro (fun _ => Exists.intro _ (Exists.intro _ (And.intro (oneW code d hb (by omega) 3) ?_))) (fun q => ?_))
  rotate_left
  · have q' : decide (0 < ((c.kids.length : Nat) : Int)) = false := q
    rw [decide_eq_true (by omega)] at q'; cases q'
  refine And.intro (fun q => ?_) (fun _ => ?_)
  · have q' : (bif decide (0 < ((c.kids.length : Nat) : Int)) then !((pk code d 3).1 == 0) else false) = true := q
    rw [h3] at q'
    rw [show (bif decide (0 < ((c.kids.length : Nat) : Int)) then !true else false) = false by cases decide (0 < ((c.kids.length : Nat) : Int)) <;> rfl] at q'; cases q'
  refine Or.inr (Or.inl (Exists.intro _ (Exists.intro _ (And.intro (pickW code (pk code d 3).2 hb (by omega) 9) ?_))))
  rw [hp]
  refine And.intro (fun q => by cases q) (fun _ => ?_)
  refine And.intro (fun q => by cases q) (fun _ => ?_)
  refine And.intro (fun _ => ?_) (fun q => by cases q)
  refine And.intro (by show c.kids.length ≤ _; omega) ?_
  refine Or.inr (Or.inr (Exists.intro _ (Exists.intro _ (And.intro (cnG 1) ?_))))
  refine And.intro (by show c.kids.length + 1 ≤ _; omega) ?_
  refine fin [(10001, 60)] (And.intro rfl ?_)
  exact ⟨trivial, srcEq _ _, ⟨rfl, trivial⟩⟩
set_option maxHeartbeats 1000000 in
set_option maxRecDepth 100000 in
theorem bendn3 (hb : Bytes code) (c : Cor) (hw : wT c ≤ 4000) (hk : d.k + 8 * wT c + 20 ≤ 99990000) (hl : 0 < c.kids.length) (h3 : ((pk code d 3).1 == 0) = true) (hp : (pk code (pk code d 3).2 9).1 = 3) : ∃ (c' : Cor) (d' : DS), d'.k ≤ d.k + 8 * wT c + 20 ∧ FCallG Try.prog 36 [.ptr 10000 0, .agg (cSV c)] (tSrc code d) (.agg (cSV c')) (tSrc code d') := by
  have k1 := pk_k code d 3
  have k2 := pk_k code (pk code d 3).2 9
  have hwl := wT_len c
  have hw1 := wT_1 c
  have k3 := pk_k code (pk code (pk code d 3).2 9).2 (4 : Nat)
  refine ⟨mkC (cKd c) (cVl c) (cDt c ++ [(elt (0 : Int) [0, -1, 23, 24] (pk code (pk code (pk code d 3).2 9).2 (4 : Nat)).1)]) c.kids, (pk code (pk code (pk code d 3).2 9).2 (4 : Nat)).2, by omega, ?_⟩
  refine FCallG.fzT (ts1 := tSrc code (pk code (pk code (pk code d 3).2 9).2 (4 : Nat)).2) (ts2 := [.row 10001 2 1 (.int .i64) (cDt c ++ [(elt (0 : Int) [0, -1, 23, 24] (pk code (pk code (pk code d 3).2 9).2 (4 : Nat)).1)]) []]) (r1 := .agg [.int .i64 (cKd c), .int .i64 (cVl c), .sl 10001, .rsl uCor c.kids]) ?_ rfl
  refine FCallG.intro (nt := 108) ti_ok mixed okBendC Try.func36 rfl rfl rfl rfl rfl rfl ?_
  refine Or.inr (And.intro (fun _ => Exists.intro _ (Exists.intro _ (And.intro (oneW code d hb (by omega) 3) ?_))) (fun q => ?_))
  rotate_left
  · have q' : decide (0 < ((c.kids.length : Nat) : Int)) = false := q
    rw [decide_eq_true (by omega)] at q'; cases q'
  refine And.intro (fun q => ?_) (fun _ => ?_)
  · have q' : (bif decide (0 < ((c.kids.length : Nat) : Int)) then !((pk code d 3).1 == 0) else false) = true := q
    rw [h3] at q'
    rw [show (bif decide (0 < ((c.kids.length : Nat) : Int)) then !true else false) = false by cases decide (0 < ((c.kids.length : Nat) : Int)) <;> rfl] at q'; cases q'
  refine Or.inr (Or.inl (Exists.intro _ (Exists.intro _ (And.intro (pickW code (pk code d 3).2 hb (by omega) 9) ?_))))
  rw [hp]
  refine And.intro (fun q => by cases q) (fun _ => ?_)
  refine And.intro (fun q => by cases q) (fun _ => ?_)
  refine And.intro (fun q => by cases q) (fun _ => ?_)
  refine And.intro (fun _ => ?_) (fun q => by cases q)
  refine And.intro (by show 0 + (cDt c).length ≤ _; omega) ?_
  refine Or.inr (Or.inl (Exists.intro _ (Exists.intro _ (And.intro (amongW code (pk code (pk code d 3).2 9).2 hb (by omega) [0, -1, 23, 24] (by decide) (by decide)) ?_))))
  refine And.intro (by show (cDt c).length + 1 ≤ _; omega) ?_
  refine fin [(10001, 72)] (And.intro rfl ?_)
  exact ⟨trivial, srcEq _ _, ⟨rfl, List.nil_prefix⟩, trivial⟩
set_option maxHeartbeats 1000000 in
set_option maxRecDepth 100000 in
theorem bendn5 (hb : Bytes code) (c : Cor) (hw : wT c ≤ 4000) (hk : d.k + 8 * wT c + 20 ≤ 99990000) (hl : 0 < c.kids.length) (h3 : ((pk code d 3).1 == 0) = true) (hp : (pk code (pk code d 3).2 9).1 = 5) : ∃ (c' : Cor) (d' : DS), d'.k ≤ d.k + 8 * wT c + 20 ∧ FCallG Try.prog 36 [.ptr 10000 0, .agg (cSV c)] (tSrc code d) (.agg (cSV c')) (tSrc code d') := by
  have k1 := pk_k code d 3
  have k2 := pk_k code (pk code d 3).2 9
  have hwl := wT_len c
  have hw1 := wT_1 c
  have k3 := pk_k code (pk code (pk code d 3).2 9).2 (5 : Nat)
  refine ⟨mkC 1 (elt (0 : Int) [0, 1, 2, 200, 255] (pk code (pk code (pk code d 3).2 9).2 (5 : Nat)).1) [] [], (pk code (pk code (pk code d 3).2 9).2 (5 : Nat)).2, by omega, ?_⟩
  refine FCallG.intro (nt := 108) ti_ok mixed okBendC Try.func36 rfl rfl rfl rfl rfl rfl ?_
  refine Or.inr (And.intro (fun _ => Exists.intro _ (Exists.intro _ (And.intro (oneW code d hb (by omega) 3) ?_))) (fun q => ?_))
  rotate_left
  · have q' : decide (0 < ((c.kids.length : Nat) : Int)) = false := q
    rw [decide_eq_true (by omega)] at q'; cases q'
  refine And.intro (fun q => ?_) (fun _ => ?_)
  · have q' : (bif decide (0 < ((c.kids.length : Nat) : Int)) then !((pk code d 3).1 == 0) else false) = true := q
    rw [h3] at q'
    rw [show (bif decide (0 < ((c.kids.length : Nat) : Int)) then !true else false) = false by cases decide (0 < ((c.kids.length : Nat) : Int)) <;> rfl] at q'; cases q'
  refine Or.inr (Or.inl (Exists.intro _ (Exists.intro _ (And.intro (pickW code (pk code d 3).2 hb (by omega) 9) ?_))))
  rw [hp]
  refine And.intro (fun q => by cases q) (fun _ => ?_)
  refine And.intro (fun q => by cases q) (fun _ => ?_)
  refine And.intro (fun q => by cases q) (fun _ => ?_)
  refine And.intro (fun q => by cases q) (fun _ => ?_)
  refine And.intro (fun q => by cases q) (fun _ => ?_)
  refine And.intro (fun _ => ?_) (fun q => by cases q)
  refine Or.inr (Or.inl (Exists.intro _ (Exists.intro _ (And.intro (amongW code (pk code (pk code d 3).2 9).2 hb (by omega) [0, 1, 2, 200, 255] (by decide) (by decide)) ?_))))
  refine Or.inr (Or.inr (Exists.intro _ (Exists.intro _ (And.intro (cvG _) ?_))))
  refine fin [] (And.intro rfl ?_)
  exact ⟨trivial, srcEq _ _, trivial⟩
set_option maxHeartbeats 1000000 in
set_option maxRecDepth 100000 in
theorem bendn7 (hb : Bytes code) (c : Cor) (hw : wT c ≤ 4000) (hk : d.k + 8 * wT c + 20 ≤ 99990000) (hl : 0 < c.kids.length) (h3 : ((pk code d 3).1 == 0) = true) (hp : (pk code (pk code d 3).2 9).1 = 7) : ∃ (c' : Cor) (d' : DS), d'.k ≤ d.k + 8 * wT c + 20 ∧ FCallG Try.prog 36 [.ptr 10000 0, .agg (cSV c)] (tSrc code d) (.agg (cSV c')) (tSrc code d') := by
  have k1 := pk_k code d 3
  have k2 := pk_k code (pk code d 3).2 9
  have hwl := wT_len c
  have hw1 := wT_1 c
  refine ⟨mkC 6 0 [] [c], (pk code (pk code d 3).2 9).2, by omega, ?_⟩
  refine FCallG.intro (nt := 108) ti_ok mixed okBendC Try.func36 rfl rfl rfl rfl rfl rfl ?_
  refine Or.inr (And.intro (fun _ => Exists.intro _ (Exists.intro _ (And.intro (oneW code d hb (by omega) 3) ?_))) (fun q => ?_))
  rotate_left
  · have q' : decide (0 < ((c.kids.length : Nat) : Int)) = false := q
    rw [decide_eq_true (by omega)] at q'; cases q'
  refine And.intro (fun q => ?_) (fun _ => ?_)
  · have q' : (bif decide (0 < ((c.kids.length : Nat) : Int)) then !((pk code d 3).1 == 0) else false) = true := q
    rw [h3] at q'
    rw [show (bif decide (0 < ((c.kids.length : Nat) : Int)) then !true else false) = false by cases decide (0 < ((c.kids.length : Nat) : Int)) <;> rfl] at q'; cases q'
  refine Or.inr (Or.inl (Exists.intro _ (Exists.intro _ (And.intro (pickW code (pk code d 3).2 hb (by omega) 9) ?_))))
  rw [hp]
  refine And.intro (fun q => by cases q) (fun _ => ?_)
  refine And.intro (fun q => by cases q) (fun _ => ?_)
  refine And.intro (fun q => by cases q) (fun _ => ?_)
  refine And.intro (fun q => by cases q) (fun _ => ?_)
  refine And.intro (fun q => by cases q) (fun _ => ?_)
  refine And.intro (fun q => by cases q) (fun _ => ?_)
  refine And.intro (fun q => by cases q) (fun _ => ?_)
  refine And.intro (fun _ => ?_) (fun q => by cases q)
  refine Or.inr (Or.inr (Exists.intro _ (Exists.intro _ (And.intro (ccG _ _ _) ?_))))
  refine fin [] (And.intro ?_ ?_)
  rotate_left
  · exact ⟨trivial, srcEq _ _, trivial⟩
  show SV.agg (cSV (mkC 6 0 [] [.node (cKd c, cVl c, cDt c) c.kids])) = SV.agg (cSV (mkC 6 0 [] [c]))
  rw [node_eta]
set_option maxHeartbeats 1000000 in
set_option maxRecDepth 100000 in
theorem bendn8 (hb : Bytes code) (c : Cor) (hw : wT c ≤ 4000) (hk : d.k + 8 * wT c + 20 ≤ 99990000) (hl : 0 < c.kids.length) (h3 : ((pk code d 3).1 == 0) = true) (hp : (pk code (pk code d 3).2 9).1 = 8) : ∃ (c' : Cor) (d' : DS), d'.k ≤ d.k + 8 * wT c + 20 ∧ FCallG Try.prog 36 [.ptr 10000 0, .agg (cSV c)] (tSrc code d) (.agg (cSV c')) (tSrc code d') := by
  have k1 := pk_k code d 3
  have k2 := pk_k code (pk code d 3).2 9
  have hwl := wT_len c
  have hw1 := wT_1 c
  refine ⟨c, (pk code (pk code d 3).2 9).2, by omega, ?_⟩
  refine FCallG.intro (nt := 108) ti_ok mixed okBendC Try.func36 rfl rfl rfl rfl rfl rfl ?_
  refine Or.inr (And.intro (fun _ => Exists.intro _ (Exists.intro _ (And.intro (oneW code d hb (by omega) 3) ?_))) (fun q => ?_))
  rotate_left
  · have q' : decide (0 < ((c.kids.length : Nat) : Int)) = false := q
    rw [decide_eq_true (by omega)] at q'; cases q'
  refine And.intro (fun q => ?_) (fun _ => ?_)
  · have q' : (bif decide (0 < ((c.kids.length : Nat) : Int)) then !((pk code d 3).1 == 0) else false) = true := q
    rw [h3] at q'
    rw [show (bif decide (0 < ((c.kids.length : Nat) : Int)) then !true else false) = false by cases decide (0 < ((c.kids.length : Nat) : Int)) <;> rfl] at q'; cases q'
  refine Or.inr (Or.inl (Exists.intro _ (Exists.intro _ (And.intro (pickW code (pk code d 3).2 hb (by omega) 9) ?_))))
  rw [hp]
  refine And.intro (fun q => by cases q) (fun _ => ?_)
  refine And.intro (fun q => by cases q) (fun _ => ?_)
  refine And.intro (fun q => by cases q) (fun _ => ?_)
  refine And.intro (fun q => by cases q) (fun _ => ?_)
  refine And.intro (fun q => by cases q) (fun _ => ?_)
  refine And.intro (fun q => by cases q) (fun _ => ?_)
  refine And.intro (fun q => by cases q) (fun _ => ?_)
  refine And.intro (fun q => by cases q) (fun _ => ?_)
  refine fin [] (And.intro rfl ?_)
  exact ⟨trivial, srcEq _ _, trivial⟩
set_option maxHeartbeats 1000000 in
set_option maxRecDepth 100000 in
theorem bendn4 (hb : Bytes code) (c : Cor) (hw : wT c ≤ 4000) (hk : d.k + 8 * wT c + 20 ≤ 99990000) (hl : 0 < c.kids.length) (h3 : ((pk code d 3).1 == 0) = true) (hp : (pk code (pk code d 3).2 9).1 = 4) : ∃ (c' : Cor) (d' : DS), d'.k ≤ d.k + 8 * wT c + 20 ∧ FCallG Try.prog 36 [.ptr 10000 0, .agg (cSV c)] (tSrc code d) (.agg (cSV c')) (tSrc code d') := by
  have k1 := pk_k code d 3
  have k2 := pk_k code (pk code d 3).2 9
  have hwl := wT_len c
  have hw1 := wT_1 c
  have k3 := pk_k code (pk code (pk code d 3).2 9).2 (5 : Nat)
  obtain ⟨n, hn, en⟩ : ∃ n : Nat, n ≤ 1000 ∧ (elt (0 : Int) [3, 10, 70, 78, 79] (pk code (pk code (pk code d 3).2 9).2 (5 : Nat)).1) = (n : Nat) := lam_n (pk_0 hb (pk code (pk code d 3).2 9).2 (5 : Nat)) (pk_lt hb (pk code (pk code d 3).2 9).2 (n := (5 : Nat)) (by decide))
  refine ⟨lamN n c, (pk code (pk code (pk code d 3).2 9).2 (5 : Nat)).2, by omega, ?_⟩
  refine FCallG.intro (nt := 108) ti_ok mixed okBendC Try.func36 rfl rfl rfl rfl rfl rfl ?_
  refine Or.inr (And.intro (fun _ => Exists.intro _ (Exists.intro _ (And.intro (oneW code d hb (by omega) 3) ?_))) (fun q => ?_))
  rotate_left
  · have q' : decide (0 < ((c.kids.length : Nat) : Int)) = false := q
    rw [decide_eq_true (by omega)] at q'; cases q'
  refine And.intro (fun q => ?_) (fun _ => ?_)
  · have q' : (bif decide (0 < ((c.kids.length : Nat) : Int)) then !((pk code d 3).1 == 0) else false) = true := q
    rw [h3] at q'
    rw [show (bif decide (0 < ((c.kids.length : Nat) : Int)) then !true else false) = false by cases decide (0 < ((c.kids.length : Nat) : Int)) <;> rfl] at q'; cases q'
  refine Or.inr (Or.inl (Exists.intro _ (Exists.intro _ (And.intro (pickW code (pk code d 3).2 hb (by omega) 9) ?_))))
  rw [hp]
  refine And.intro (fun q => by cases q) (fun _ => ?_)
  refine And.intro (fun q => by cases q) (fun _ => ?_)
  refine And.intro (fun q => by cases q) (fun _ => ?_)
  refine And.intro (fun q => by cases q) (fun _ => ?_)
  refine And.intro (fun _ => ?_) (fun q => by cases q)
  refine Or.inr (Or.inl (Exists.intro _ (Exists.intro _ (And.intro (amongW code (pk code (pk code d 3).2 9).2 hb (by omega) [3, 10, 70, 78, 79] (by decide) (by decide)) ?_))))
  conv => whnf
  refine lp (Cor × Nat) (fun s => [(6, .int .i64 (s.2 : Nat))]) (fun s => tSrc code (pk code (pk code (pk code d 3).2 9).2 (5 : Nat)).2 ++ [.cel 3 27 (cSV s.1), .cel 4 27 [.int .i64 0, .int .i64 0, .raw (.slice none 0 0), .raw (.slice none 0 0)]]) (fun s => s.2) (fun s => lamN s.2 s.1 = lamN n c ∧ s.2 ≤ n) (c, n) ⟨rfl, Nat.le_refl _⟩ ?_ ?_
  · exact hd [] rfl (And.intro ⟨en, rfl⟩ trivial) ⟨trivial, srcEq _ _, trivial, ⟨⟨rfl, rfl⟩, ⟨rfl, rfl⟩, rfl, rfl, trivial⟩, trivial, ⟨⟨rfl, rfl⟩, ⟨rfl, rfl⟩, rfl, rfl, trivial⟩, trivial⟩
  rintro ⟨s, j⟩ ⟨g1, g2⟩
  have g1' : lamN j s = _ := g1
  have g2' : j ≤ n := g2
  refine And.intro (fun q1 => ?_) (fun q1 => ?_)
  · have hj : 0 < j := by have : 0 < ((j : Nat) : Int) := of_decide_eq_true q1; omega
    obtain ⟨i, rfl⟩ : ∃ i, j = i + 1 := ⟨j - 1, by omega⟩
    refine Or.inr (Or.inr (Exists.intro _ (Exists.intro _ (And.intro (clG s) ?_))))
    refine lp_next (mkC 4 0 [] [s], i) ⟨g1', Nat.le_of_succ_le g2⟩ ?_ (by show i < i + 1; omega)
    exact Go.Tr.hd [] rfl (And.intro ⟨wrapPredI (by omega), rfl⟩ trivial) ⟨trivial, srcEq _ _, trivial, ⟨⟨rfl, rfl⟩, ⟨rfl, rfl⟩, rfl, rfl, trivial⟩, trivial, ⟨⟨rfl, rfl⟩, ⟨rfl, rfl⟩, rfl, rfl, trivial⟩, trivial⟩
  · have hj : j = 0 := by have : ¬ 0 < ((j : Nat) : Int) := of_decide_eq_false q1; omega
    subst hj
    have e1 : s = lamN n c := g1'
    rw [← e1]
    refine fin [] (And.intro rfl ?_)
    exact ⟨trivial, srcEq _ _, trivial⟩
set_option maxHeartbeats 1000000 in
set_option maxRecDepth 100000 in
theorem bendn6 (hb : Bytes code) (c : Cor) (hw : wT c ≤ 4000) (hk : d.k + 8 * wT c + 20 ≤ 99990000) (hl : 0 < c.kids.length) (h3 : ((pk code d 3).1 == 0) = true) (hp : (pk code (pk code d 3).2 9).1 = 6) : ∃ (c' : Cor) (d' : DS), d'.k ≤ d.k + 8 * wT c + 20 ∧ FCallG Try.prog 36 [.ptr 10000 0, .agg (cSV c)] (tSrc code d) (.agg (cSV c')) (tSrc code d') := by
  have k1 := pk_k code d 3
  have k2 := pk_k code (pk code d 3).2 9
  have hwl := wT_len c
  have hw1 := wT_1 c
  have k3 := pk_k code (pk code (pk code d 3).2 9).2 8
  obtain ⟨n, hn, en⟩ : ∃ n : Nat, n ≤ 1000 ∧ (pk code (pk code (pk code d 3).2 9).2 8).1 = (n : Nat) := by
    have y1 := pk_0 hb (pk code (pk code d 3).2 9).2 8
    have y2 := pk_lt hb (pk code (pk code d 3).2 9).2 (n := 8) (by decide)
    exact ⟨(pk code (pk code (pk code d 3).2 9).2 8).1.toNat, by omega, by omega⟩
  refine ⟨appN n c, (pk code (pk code (pk code d 3).2 9).2 8).2, by omega, ?_⟩
  refine FCallG.intro (nt := 108) ti_ok mixed okBendC Try.func36 rfl rfl rfl rfl rfl rfl ?_
  refine Or.inr (And.intro (fun _ => Exists.intro _ (Exists.intro _ (And.intro (oneW code d hb (by omega) 3) ?_))) (fun q => ?_))
  rotate_left
  · have q' : decide (0 < ((c.kids.length : Nat) : Int)) = false := q
    rw [decide_eq_true (by omega)] at q'; cases q'
  refine And.intro (fun q => ?_) (fun _ => ?_)
  · have q' : (bif decide (0 < ((c.kids.length : Nat) : Int)) then !((pk code d 3).1 == 0) else false) = true := q
    rw [h3] at q'
    rw [show (bif decide (0 < ((c.kids.length : Nat) : Int)) then !true else false) = false by cases decide (0 < ((c.kids.length : Nat) : Int)) <;> rfl] at q'; cases q'
  refine Or.inr (Or.inl (Exists.intro _ (Exists.intro _ (And.intro (pickW code (pk code d 3).2 hb (by omega) 9) ?_))))
  rw [hp]
  refine And.intro (fun q => by cases q) (fun _ => ?_)
  refine And.intro (fun q => by cases q) (fun _ => ?_)
  refine And.intro (fun q => by cases q) (fun _ => ?_)
  refine And.intro (fun q => by cases q) (fun _ => ?_)
  refine And.intro (fun q => by cases q) (fun _ => ?_)
  refine And.intro (fun q => by cases q) (fun _ => ?_)
  refine And.intro (fun _ => ?_) (fun q => by cases q)
  refine Or.inr (Or.inl (Exists.intro _ (Exists.intro _ (And.intro (pickW code (pk code (pk code d 3).2 9).2 hb (by omega) 8) ?_))))
  conv => whnf
  refine lp (Cor × Nat) (fun s => [(7, .int .i64 (s.2 : Nat))]) (fun s => tSrc code (pk code (pk code (pk code d 3).2 9).2 8).2 ++ [.cel 3 27 (cSV s.1), .cel 4 27 [.int .i64 0, .int .i64 0, .raw (.slice none 0 0), .raw (.slice none 0 0)]]) (fun s => s.2) (fun s => appN s.2 s.1 = appN n c ∧ s.2 ≤ n) (c, n) ⟨rfl, Nat.le_refl _⟩ ?_ ?_
  · exact hd [] rfl (And.intro ⟨en, rfl⟩ trivial) ⟨trivial, srcEq _ _, trivial, ⟨⟨rfl, rfl⟩, ⟨rfl, rfl⟩, rfl, rfl, trivial⟩, trivial, ⟨⟨rfl, rfl⟩, ⟨rfl, rfl⟩, rfl, rfl, trivial⟩, trivial⟩
  rintro ⟨s, j⟩ ⟨g1, g2⟩
  have g1' : appN j s = _ := g1
  have g2' : j ≤ n := g2
  refine And.intro (fun q1 => ?_) (fun q1 => ?_)
  · have hj : 0 < j := by have : 0 < ((j : Nat) : Int) := of_decide_eq_true q1; omega
    obtain ⟨i, rfl⟩ : ∃ i, j = i + 1 := ⟨j - 1, by omega⟩
    refine Or.inr (Or.inr (Exists.intro _ (Exists.intro _ (And.intro (caG s s) ?_))))
    refine lp_next (mkC 5 0 [] [s, s], i) ⟨g1', Nat.le_of_succ_le g2⟩ ?_ (by show i < i + 1; omega)
    exact Go.Tr.hd [] rfl (And.intro ⟨wrapPredI (by omega), rfl⟩ trivial) ⟨trivial, srcEq _ _, trivial, ⟨⟨rfl, rfl⟩, ⟨rfl, rfl⟩, rfl, rfl, trivial⟩, trivial, ⟨⟨rfl, rfl⟩, ⟨rfl, rfl⟩, rfl, rfl, trivial⟩, trivial⟩
  · have hj : j = 0 := by have : ¬ 0 < ((j : Nat) : Int) := of_decide_eq_false q1; omega
    subst hj
    have e1 : s = appN n c := g1'
    rw [← e1]
    refine fin [] (And.intro rfl ?_)
    exact ⟨trivial, srcEq _ _, trivial⟩
end
theorem nine {x : Int} (h1 : 0 ≤ x) (h2 : x < 9) : x = 0 ∨ x = 1 ∨ x = 2 ∨ x = 3 ∨ x = 4 ∨ x = 5 ∨ x = 6 ∨ x = 7 ∨ x = 8 := by omega
/-- A bent term: there is one. -/
theorem bendP (code : List Int) (hb : Bytes code) : ∀ c : Cor, BendP code c := by
  refine Tree.ind (fun c ih => ?_)
  intro d hw hk
  by_cases hl : c.kids.length = 0
  · rcases nine (pk_0 hb d 9) (pk_lt hb d (n := 9) (by decide)) with z | z | z | z | z | z | z | z | z
    · exact bende0 code d hb c hw hk hl z
    · exact bende1 code d hb c hw hk hl z
    · exact bende2 code d hb c hw hk hl z
    · exact bende3 code d hb c hw hk hl z
    · exact bende4 code d hb c hw hk hl z
    · exact bende5 code d hb c hw hk hl z
    · exact bende6 code d hb c hw hk hl z
    · exact bende7 code d hb c hw hk hl z
    · exact bende8 code d hb c hw hk hl z
  · cases h3 : ((pk code d 3).1 == 0) with
    | false => exact bendIn code d hb c ih hw hk (by omega) h3
    | true =>
      have hl' : 0 < c.kids.length := by omega
      rcases nine (pk_0 hb (pk code d 3).2 9) (pk_lt hb (pk code d 3).2 (n := 9) (by decide)) with z | z | z | z | z | z | z | z | z
      · exact bendn0 code d hb c hw hk hl' h3 z
      · exact bendn1 code d hb c hw hk hl' h3 z
      · exact bendn2 code d hb c hw hk hl' h3 z
      · exact bendn3 code d hb c hw hk hl' h3 z
      · exact bendn4 code d hb c hw hk hl' h3 z
      · exact bendn5 code d hb c hw hk hl' h3 z
      · exact bendn6 code d hb c hw hk hl' h3 z
      · exact bendn7 code d hb c hw hk hl' h3 z
      · exact bendn8 code d hb c hw hk hl' h3 z
theorem okAnyC : callOk Try.prog 16 = true := by kernel_rfl
theorem anyP (code : List Int) (hb : Bytes code) (d : DS) (hd : d.k ≤ 1000000) (free : Int) (hf : 1 ≤ free) (hf2 : free ≤ 900) : ∃ (c : Cor) (d' : DS), FCallG Try.prog 16 [.ptr 10000 0, .int .i64 free] (tSrc code d) (.agg (cSV c)) (tSrc code d') := by
  have eb : kbN 5 = 9700 := by decide
  have es : sbN 5 = 727 := by decide
  obtain ⟨c, d1, h1, k1, hc⟩ := drawP code hb 5 free d hf (by omega) (by omega)
  have k2 := pk_k code d1 3
  cases h3 : ((pk code d1 3).1 == 0) with
  | true =>
    obtain ⟨e, d2, k3, he⟩ := bendP code hb c (pk code d1 3).2 (by omega) (by omega)
    refine ⟨e, d2, ?_⟩
    refine FCallG.intro (nt := 15) ti_ok mixed okAnyC Try.func16 rfl rfl rfl rfl rfl rfl ?_
    refine Or.inr (Or.inr (Exists.intro _ (Exists.intro _ (And.intro hc ?_))))
    refine Or.inr (Or.inl (Exists.intro _ (Exists.intro _ (And.intro (oneW code d1 hb (by omega) 3) ?_))))
    refine And.intro (fun _ => ?_) (fun q => by rw [h3] at q; cases q)
    refine Or.inr (Or.inr (Exists.intro _ (Exists.intro _ (And.intro he ?_))))
    refine fin [] (And.intro rfl ?_)
    exact ⟨trivial, srcEq _ _, trivial⟩
  | false =>
    refine ⟨c, (pk code d1 3).2, ?_⟩
    refine FCallG.intro (nt := 15) ti_ok mixed okAnyC Try.func16 rfl rfl rfl rfl rfl rfl ?_
    refine Or.inr (Or.inr (Exists.intro _ (Exists.intro _ (And.intro hc ?_))))
    refine Or.inr (Or.inl (Exists.intro _ (Exists.intro _ (And.intro (oneW code d1 hb (by omega) 3) ?_))))
    refine And.intro (fun q => by rw [h3] at q; cases q) (fun _ => ?_)
    refine fin [] (And.intro rfl ?_)
    exact ⟨trivial, srcEq _ _, trivial⟩
theorem okA2 : callOk Try.prog 6 = true := by kernel_rfl
/-- A valid term out of bytes: there is one. -/
theorem a2CoreG (code : List Int) (hb : Bytes code) : ∃ c : Cor, okC c = true ∧ FCallG Try.prog 6 [.rsl uByte code] [] (.agg (cSV c)) [] := by
  obtain ⟨c, d1, hc⟩ := anyP code hb ⟨0, 0⟩ (by show 0 ≤ _; omega) 3 (by decide) (by decide)
  cases ho : okC c with
  | true =>
    refine ⟨c, ho, ?_⟩
    refine FCallG.intro (nt := 13) ti_ok mixed okA2 Try.func6 rfl rfl rfl rfl rfl rfl ?_
    refine Or.inr (Or.inl (Exists.intro _ (Exists.intro _ (And.intro (fromW code) ?_))))
    refine Or.inr (Or.inr (Exists.intro _ (Exists.intro _ (And.intro hc ?_))))
    refine Or.inr (Or.inl (Exists.intro _ (Exists.intro _ (And.intro (okCF c) ?_))))
    refine And.intro (fun _ => ?_) (fun q => by rw [ho] at q; cases q)
    refine fin [] (And.intro rfl ?_)
    exact trivial
  | false =>
    refine ⟨mkC 5 0 [] [mkC 1 0 [] [], mkC 4 0 [] [mkC 1 1 [] []]], by decide, ?_⟩
    refine FCallG.intro (nt := 13) ti_ok mixed okA2 Try.func6 rfl rfl rfl rfl rfl rfl ?_
    refine Or.inr (Or.inl (Exists.intro _ (Exists.intro _ (And.intro (fromW code) ?_))))
    refine Or.inr (Or.inr (Exists.intro _ (Exists.intro _ (And.intro hc ?_))))
    refine Or.inr (Or.inl (Exists.intro _ (Exists.intro _ (And.intro (okCF c) ?_))))
    refine And.intro (fun q => by rw [ho] at q; cases q) (fun _ => ?_)
    refine Or.inr (Or.inr (Exists.intro _ (Exists.intro _ (And.intro (cvG 0) ?_))))
    refine Or.inr (Or.inr (Exists.intro _ (Exists.intro _ (And.intro (cvG 1) ?_))))
    refine Or.inr (Or.inr (Exists.intro _ (Exists.intro _ (And.intro (clG _) ?_))))
    refine Or.inr (Or.inr (Exists.intro _ (Exists.intro _ (And.intro (caG _ _) ?_))))
    refine fin [] (And.intro rfl ?_)
    exact trivial
end Go.Proofs.Ytieemijapiiiiaa
