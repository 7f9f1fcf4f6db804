/- Core terms: a redex contracted, a step, by the program. -/
import Derived.Test.YtieemijapiiiiaaGreatPg
import Derived.Test.YtieemijapiiiiaaGreatWc
set_option linter.unusedSimpArgs false
set_option linter.unusedVariables false
namespace Go.Tr
open Go Go.RowKit
variable {P : Program}
/-- A slice with something in it is not nil. -/
theorem FCallG.nn {f : Nat} {e : U} {xs : List (El e)} {ts ts' : List Tok} {r : SV} (hx : xs ≠ []) (h2 : FCallG P f [.nn e xs] ts r ts') : FCallG P f [.rsl e xs] ts r ts' := by
  refine ⟨h2.1, fun cx β w fr vs hI hd => ?_⟩
  have hd' := hd
  unfold Dens at hd'
  obtain ⟨v, vs', rfl, h3, h4⟩ := hd'
  unfold Den at h3
  obtain ⟨A, c, rfl⟩ := h3.slice
  cases A with
  | none =>
    obtain ⟨h5, h6⟩ := T1.none_ h3.choose_spec.1
    exact absurd (List.eq_nil_of_length_eq_zero h5) hx
  | some ad =>
    refine h2.2 cx β w fr _ hI ?_
    unfold Dens
    refine ⟨_, vs', rfl, ?_, h4⟩
    unfold Den
    exact ⟨h3, ad, _, c, rfl⟩
end Go.Tr
namespace Go.Proofs.YtieemijapiiiiaaGreat
open Go Go.RowKit Go.Proofs Go.Tr
theorem okCNum : callOk Tryz.prog 67 = true := by kernel_rfl
theorem numG (n : Int) : FCallG Tryz.prog 67 [.int .i64 n] [] (.agg (cSV (numC n))) [] := by
  refine FCallG.fz (ts1 := []) (r1 := .agg [.int .i64 2, .int .i64 n, .raw (.slice none 0 0), .raw (.slice none 0 0)]) ?_ (Or.inr ⟨_, Or.inr ⟨_, rfl⟩⟩)
  refine FCallG.intro (nt := 5) ti_ok mixed okCNum Tryz.func67 rfl rfl rfl rfl rfl rfl ?_
  refine fin [] (And.intro ?_ trivial)
  exact rfl
theorem okCRef : callOk Tryz.prog 70 = true := by kernel_rfl
theorem refG (n : Int) : FCallG Tryz.prog 70 [.int .i64 n] [] (.agg (cSV (refC n))) [] := by
  refine FCallG.fz (ts1 := []) (r1 := .agg [.int .i64 11, .int .i64 n, .raw (.slice none 0 0), .raw (.slice none 0 0)]) ?_ (Or.inr ⟨_, Or.inr ⟨_, rfl⟩⟩)
  refine FCallG.intro (nt := 5) ti_ok mixed okCRef Tryz.func70 rfl rfl rfl rfl rfl rfl ?_
  refine fin [] (And.intro ?_ trivial)
  exact rfl
theorem okCApp : callOk Tryz.prog 93 = true := by kernel_rfl
theorem appG (f a : Cor) : FCallG Tryz.prog 93 [.agg (cSV f), .agg (cSV a)] [] (.agg (cSV (appC f a))) [] := by
  refine FCallG.fz (ts1 := []) (r1 := .agg [.int .i64 5, .int .i64 0, .raw (.slice none 0 0), .rsl uCor [f, a]]) ?_ (Or.inr ⟨_, rfl⟩)
  refine FCallG.intro (nt := 9) ti_ok mixed okCApp Tryz.func93 rfl rfl rfl rfl rfl rfl ?_
  refine fin [] (And.intro ?_ trivial)
  show SV.agg [.int .i64 5, .int .i64 0, .raw (.slice none 0 0), .rsl uCor [.node (cKd f, cVl f, cDt f) f.kids, .node (cKd a, cVl a, cDt a) a.kids]] = SV.agg [.int .i64 5, .int .i64 0, .raw (.slice none 0 0), .rsl uCor [f, a]]
  rw [node_eta, node_eta]
theorem okCho : callOk Tryz.prog 69 = true := by kernel_rfl
theorem choG (d : Int) (l : List Cor) (hl : l.length ≤ 1000) : FCallG Tryz.prog 69 [.int .i64 d, .rsl uCor l] [] (.agg (cSV (choC d l))) [] := by
  refine FCallG.intro (nt := 21) ti_ok mixed okCho Tryz.func69 rfl rfl rfl rfl rfl rfl ?_
  refine Or.inr (Or.inr (Exists.intro _ (Exists.intro _ (And.intro (refG d) ?_))))
  refine lp Nat (fun i => [(12, .int .i64 (i : Nat))]) (fun i => [.cel 5 32 (cSV (choC d (l.take i))), .cel 4 32 [.int .i64 0, .int .i64 0, .raw (.slice none 0 0), .raw (.slice none 0 0)]]) (fun i => l.length - i) (fun i => i ≤ l.length) 0 (Nat.zero_le _) ?_ ?_
  · exact hd [] rfl (And.intro ⟨rfl, rfl⟩ trivial) ⟨trivial, ⟨⟨rfl, rfl⟩, ⟨rfl, rfl⟩, rfl, rfl, trivial⟩, trivial, ⟨⟨rfl, rfl⟩, ⟨rfl, rfl⟩, rfl, rfl, trivial⟩, trivial⟩
  intro i hi
  refine And.intro (fun q1 => ?_) (fun q1 => ?_)
  · have hlt : i < l.length := by have : ((i : Nat) : Int) < (l.length : Nat) := of_decide_eq_true q1; omega
    refine And.intro (show (0 : Int) ≤ (i : Nat) ∧ ((i : Nat) : Int) < (l.length : Nat) by omega) ?_
    refine Or.inr (Or.inr (Exists.intro _ (Exists.intro _ (And.intro (appG (choC d (l.take i)) (elt (dflt uCor) l ((i : Nat) : Int))) ?_))))
    refine lp_next (i + 1) hlt ?_ (by show l.length - (i + 1) < l.length - i; omega)
    rw [cho_take d hlt]
    exact Go.Tr.hd [] rfl (And.intro ⟨wrapI (by omega), rfl⟩ trivial) ⟨trivial, ⟨⟨rfl, rfl⟩, ⟨rfl, rfl⟩, rfl, rfl, trivial⟩, trivial, ⟨⟨rfl, rfl⟩, ⟨rfl, rfl⟩, rfl, rfl, trivial⟩, trivial⟩
  have hge : l.length ≤ i := by have : ¬ ((i : Nat) : Int) < (l.length : Nat) := of_decide_eq_false q1; omega
  refine fin [] (And.intro ?_ trivial)
  show SV.agg (cSV (choC d (l.take i))) = SV.agg (cSV (choC d l))
  rw [List.take_of_length_le hge]
theorem okClC : callOk Tryz.prog 48 = true := by kernel_rfl
theorem cloneCG (xs : List Cor) (hx : xs ≠ []) (hl : xs.length ≤ 1048576) : FCallG Tryz.prog 48 [.rsl uCor xs] [] (.sl 10000) [.dat 10000 32 4 uCor xs] := by
  refine FCallG.nn hx ?_
  refine FCallG.intro (nt := 8) ti_ok mixed okClC Tryz.func48 rfl rfl rfl rfl rfl rfl ?_
  refine And.intro (fun h1 => by cases h1) (fun h1 => ?_)
  refine And.intro (by show xs.length ≤ _; omega) ?_
  refine fin [(10000, 7)] (And.intro rfl ?_)
  exact ⟨rfl, trivial⟩
theorem okCtr : callOk Tryz.prog 47 = true := by kernel_rfl
set_option maxHeartbeats 1000000 in
set_option maxRecDepth 100000 in
theorem con1 (b : Bok) (c : Cor) (hg : goodT c = true) (hs : sizT c ≤ 400) (h : kindF c = 1) : FCallG Tryz.prog 47 [.agg [.rsl uCor b], .int .i64 1, .agg (cSV c)] [] (.agg (cSV (conC b 1 c))) [] := by
  obtain ⟨a5, b4⟩ := kind1 h
  have hl := ar5 hg a5
  have m0 : kidN c 0 ∈ c.kids := kidM (c := c) (i := 0) (by omega)
  have m1 : kidN c 1 ∈ c.kids := kidM (c := c) (i := 1) (by omega)
  have g0 := good_kid hg m0
  have hl4 := ar4 g0 b4
  have m2 : kidN (kidN c 0) 0 ∈ (kidN c 0).kids := kidM (c := kidN c 0) (i := 0) (by omega)
  have s0 := sizT_kid m0
  have s1 := sizT_kid m1
  have s2 := sizT_kid m2
  refine FCallG.intro (nt := 104) ti_ok mixed okCtr Tryz.func47 rfl rfl rfl rfl rfl rfl ?_
  refine And.intro (fun _ => ?_) (fun q => by cases q)
  conv => whnf
  refine And.intro (show (0 : Int) ≤ 0 ∧ (0 : Int) < (c.kids.length : Nat) by omega) ?_
  refine And.intro (show (0 : Int) ≤ 0 ∧ (0 : Int) < ((kidN c 0).kids.length : Nat) by omega) ?_
  refine And.intro (show (0 : Int) ≤ 1 ∧ (1 : Int) < (c.kids.length : Nat) by omega) ?_
  conv => whnf
  refine Or.inr (Or.inr (Exists.intro _ (Exists.intro _ (And.intro (by
    show FCallG _ _ [.agg (cSV (kidN (kidN c 0) 0)), .agg (cSV (kidN c 1))] _ _ _
    exact instG (kidN (kidN c 0) 0) (kidN c 1) (good_kid g0 m2) (by omega) (good_kid hg m1) (by omega)) ?_))))
  refine And.intro (by kernel_rfl) ?_
  refine fin [] (And.intro ?_ trivial)
  exact rfl
end Go.Proofs.YtieemijapiiiiaaGreat
