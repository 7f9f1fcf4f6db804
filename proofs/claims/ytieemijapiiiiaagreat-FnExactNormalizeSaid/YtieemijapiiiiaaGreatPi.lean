/- Core terms: contractions and a step by the reference. -/
import Derived.Test.YtieemijapiiiiaaGreatPh
set_option linter.unusedSimpArgs false
set_option linter.unusedVariables false
namespace Go.Tr
open Go Go.RowKit
/-- What the reference's contraction gives, with its code. -/
def conS (b : Bok) (k : Int) (c : Cor) : Cor × Int := bif k == 1 then inR (kidN (kidN c 0) 0) (kidN c 1) else (conC b k c, 0)
mutual
def stS (b : Bok) : Cor → Option (Cor × Int × Int)
  | .node x l => bif kindF (.node x l) != 0 then some ((conS b (kindF (.node x l)) (.node x l)).1, kindF (.node x l), (conS b (kindF (.node x l)) (.node x l)).2) else
    match stSL b l with
    | some (l', k, e) => some (.node x l', k, e)
    | none => none
def stSL (b : Bok) : List Cor → Option (List Cor × Int × Int)
  | [] => none
  | t :: l => match stS b t with
    | some (t', k, e) => some (t' :: l, k, e)
    | none => match stSL b l with
      | some (l', k, e) => some (t :: l', k, e)
      | none => none
end
def innR (b : Bok) (c : Cor) : Cor × Int × Int := match stS b c with
  | some r => r
  | none => (zeroC, 0, 0)
theorem stSL_none {b : Bok} : ∀ {l : List Cor}, (∀ t ∈ l, stS b t = none) → stSL b l = none
  | [], _ => by rw [stSL]
  | t :: l, h => by
    rw [stSL, h t (by simp), stSL_none fun s hs => h s (by simp [hs])]
theorem stSL_some {b : Bok} : ∀ {l : List Cor} {i : Nat} {r : Cor × Int × Int} (hi : i < l.length), (∀ t ∈ l.take i, stS b t = none) → stS b (elt (dflt uCor) l ((i : Nat) : Int)) = some r → stSL b l = some (l.set i r.1, r.2.1, r.2.2)
  | [], i, r, hi, _, _ => by simp at hi
  | t :: l, 0, r, hi, _, h => by
    have h : stS b t = some r := by simpa [elt] using h
    rw [stSL, h]; rfl
  | t :: l, i + 1, r, hi, h1, h => by
    have hi' : i < l.length := by simpa using hi
    rw [eltN hi] at h
    have h2 := stSL_some (b := b) (l := l) (i := i) (r := r) hi' (fun s hs => h1 s (by rw [List.take_succ_cons]; simp [hs])) (by rw [eltN hi']; exact h)
    rw [stSL, h1 t (by rw [List.take_succ_cons]; simp), h2]; rfl
theorem stS_red {b : Bok} {c : Cor} (h : (kindF c != 0) = true) : stS b c = some ((conS b (kindF c) c).1, kindF c, (conS b (kindF c) c).2) := by
  cases c with | node x l => rw [stS, h]; rfl
theorem stS_kids {b : Bok} {c : Cor} (h : (kindF c != 0) = false) : stS b c = match stSL b c.kids with
    | some (l', k, e) => some (.node (cKd c, cVl c, cDt c) l', k, e)
    | none => none := by
  cases c with | node x l => rw [stS, h]; rfl
mutual
theorem stS_kind {b : Bok} : ∀ {c : Cor} {r : Cor × Int × Int}, stS b c = some r → r.2.1 = 1 ∨ r.2.1 = 2 ∨ r.2.1 = 3 ∨ r.2.1 = 4
  | .node x l, r, h => by
    rw [stS] at h
    cases hk : (kindF (.node x l) != 0) with
    | true =>
      rw [hk] at h
      have h : some ((conS b (kindF (.node x l)) (.node x l)).1, kindF (.node x l), (conS b (kindF (.node x l)) (.node x l)).2) = some r := h
      injection h with h
      rw [← h]
      have := kind_all (.node x l)
      have h0 : kindF (.node x l) ≠ 0 := by simpa using hk
      show kindF (.node x l) = 1 ∨ kindF (.node x l) = 2 ∨ kindF (.node x l) = 3 ∨ kindF (.node x l) = 4
      omega
    | false =>
      rw [hk] at h
      cases hl : stSL b l with
      | none => rw [hl] at h; cases h
      | some r' =>
        rw [hl] at h
        have h : some (Tree.node x r'.1, r'.2.1, r'.2.2) = some r := h
        injection h with h
        rw [← h]
        have := stSL_kind hl
        exact this
theorem stSL_kind {b : Bok} : ∀ {l : List Cor} {r : List Cor × Int × Int}, stSL b l = some r → r.2.1 = 1 ∨ r.2.1 = 2 ∨ r.2.1 = 3 ∨ r.2.1 = 4
  | [], r, h => by rw [stSL] at h; cases h
  | t :: l, r, h => by
    rw [stSL] at h
    cases ht : stS b t with
    | some r' =>
      rw [ht] at h
      have h : some (r'.1 :: l, r'.2.1, r'.2.2) = some r := h
      injection h with h
      rw [← h]
      have := stS_kind ht
      exact this
    | none =>
      rw [ht] at h
      cases hl : stSL b l with
      | none => rw [hl] at h; cases h
      | some r' =>
        rw [hl] at h
        have h : some (t :: r'.1, r'.2.1, r'.2.2) = some r := h
        injection h with h
        rw [← h]
        have := stSL_kind hl
        exact this
end
theorem first_someS {b : Bok} : ∀ {l : List Cor}, (¬ ∀ k ∈ l, stS b k = none) → ∃ j : Nat, j < l.length ∧ (∀ t ∈ l.take j, stS b t = none) ∧ ∃ r, stS b (elt (dflt uCor) l ((j : Nat) : Int)) = some r
  | [], h => absurd (fun k hk => by simp at hk) h
  | t :: l, h => by
    cases ht : stS b t with
    | some r => exact ⟨0, by simp, by simp, r, by simpa [elt] using ht⟩
    | none =>
      obtain ⟨j, h1, h2, r, h3⟩ := first_someS (b := b) (l := l) (fun hl => h fun k hk => by
        rcases List.mem_cons.1 hk with rfl | hk
        · exact ht
        · exact hl k hk)
      have h1' : j + 1 < (t :: l).length := by simpa using h1
      refine ⟨j + 1, h1', ?_, r, by rw [eltN h1', ← h3, eltN h1]; rfl⟩
      intro s hs
      rw [List.take_succ_cons] at hs
      rcases List.mem_cons.1 hs with rfl | hs
      · exact ht
      · exact h2 s hs
/-- What is left of a number of nodes. -/
def leftV (s : Nat) (n : Int) : Int := bif decide ((s : Int) ≤ n) then n - s else -1
def fitN (c : Cor) : Bool := decide (sizT c ≤ 400) && decide (depT c ≤ 80)
/-- What the reference's step gives. -/
def st8 (b : Bok) (c : Cor) : Cor × Int × Int :=
  bif (innR b c).2.2 != 0 then (zeroC, 0, (innR b c).2.2) else bif ((innR b c).2.1 != 0) && !fitN (innR b c).1 then (zeroC, 0, 4) else ((innR b c).1, (innR b c).2.1, 0)
end Go.Tr
namespace Go.Proofs.YtieemijapiiiiaaGreat
open Go Go.RowKit Go.Proofs Go.Tr
theorem okRNum : callOk Tryz.prog 76 = true := by kernel_rfl
theorem numS (n : Int) : FCallG Tryz.prog 76 [.int .i64 n] [] (.agg (cSV (numC n))) [] := by
  refine FCallG.fz (ts1 := []) (r1 := .agg [.int .i64 2, .int .i64 n, .raw (.slice none 0 0), .raw (.slice none 0 0)]) ?_ (Or.inr ⟨_, Or.inr ⟨_, rfl⟩⟩)
  refine FCallG.intro (nt := 5) ti_ok mixed okRNum Tryz.func76 rfl rfl rfl rfl rfl rfl ?_
  refine fin [] (And.intro ?_ trivial)
  exact rfl
theorem okRRef : callOk Tryz.prog 105 = true := by kernel_rfl
theorem refS (n : Int) : FCallG Tryz.prog 105 [.int .i64 n] [] (.agg (cSV (refC n))) [] := by
  refine FCallG.fz (ts1 := []) (r1 := .agg [.int .i64 11, .int .i64 n, .raw (.slice none 0 0), .raw (.slice none 0 0)]) ?_ (Or.inr ⟨_, Or.inr ⟨_, rfl⟩⟩)
  refine FCallG.intro (nt := 5) ti_ok mixed okRRef Tryz.func105 rfl rfl rfl rfl rfl rfl ?_
  refine fin [] (And.intro ?_ trivial)
  exact rfl
theorem okRC : callOk Tryz.prog 111 = true := by kernel_rfl
theorem cS (k v : Int) (l : List Cor) : FCallG Tryz.prog 111 [.int .i64 k, .int .i64 v, .rsl uCor l] [] (.agg (cSV (mkC k v [] l))) [] := by
  refine FCallG.fz (ts1 := []) (r1 := .agg [.int .i64 k, .int .i64 v, .raw (.slice none 0 0), .rsl uCor l]) ?_ (Or.inr ⟨_, rfl⟩)
  refine FCallG.intro (nt := 11) ti_ok mixed okRC Tryz.func111 rfl rfl rfl rfl rfl rfl ?_
  refine fin [] (And.intro ?_ trivial)
  exact rfl
theorem okRApp : callOk Tryz.prog 106 = true := by kernel_rfl
theorem appS (f a : Cor) : FCallG Tryz.prog 106 [.agg (cSV f), .agg (cSV a)] [] (.agg (cSV (appC f a))) [] := by
  refine FCallG.intro (nt := 9) ti_ok mixed okRApp Tryz.func106 rfl rfl rfl rfl rfl rfl ?_
  refine Or.inr (Or.inr (Exists.intro _ (Exists.intro _ (And.intro (cS 5 0 _) ?_))))
  refine fin [] (And.intro ?_ trivial)
  show SV.agg (cSV (mkC 5 0 [] [.node (cKd f, cVl f, cDt f) f.kids, .node (cKd a, cVl a, cDt a) a.kids])) = SV.agg (cSV (appC f a))
  rw [node_eta, node_eta]; rfl
theorem okRCho : callOk Tryz.prog 78 = true := by kernel_rfl
set_option maxHeartbeats 1000000 in
set_option maxRecDepth 100000 in
theorem choS (c : Cor) (hg : goodT c = true) (h : kindF c = 3) (b : Bok) : FCallG Tryz.prog 78 [.rp uCor c, .rsl uCor (kidN c 0).kids] [] (.agg (cSV (conC b 3 c))) [] := by
  rcases kind3 h with ⟨a9, b8, hv⟩ | ⟨a10, b2⟩
  · have hl := (ar9 hg a9).1
    have a10 : (cKd c == 10) = false := kd_no a9 rfl
    have m0 : kidN c 0 ∈ c.kids := kidM (c := c) (i := 0) (by omega)
    have g0 := good_kid hg m0
    have h8 := ar8 g0 b8
    have hkl := (good_dt g0).2
    rw [show conC b 3 c = choC (elt (0 : Int) (cDt c) (cVl (kidN c 0))) (kidN c 0).kids by unfold conC; rw [a9]; rfl]
    obtain ⟨l, hll⟩ : ∃ l, l = (kidN c 0).kids := ⟨_, rfl⟩
    rw [← hll] at hkl ⊢
    refine FCallG.intro (nt := 61) ti_ok mixed okRCho Tryz.func78 rfl rfl rfl rfl rfl rfl ?_
    refine And.intro (fun q => by rw [a10] at q; cases q) (fun _ => ?_)
    conv => whnf
    refine And.intro (show (0 : Int) ≤ 0 ∧ (0 : Int) < (c.kids.length : Nat) by omega) ?_
    refine And.intro (show (0 : Int) ≤ cVl (kidN c 0) ∧ cVl (kidN c 0) < ((cDt c).length : Nat) from ⟨h8.1, hv⟩) ?_
    refine Or.inr (Or.inr (Exists.intro _ (Exists.intro _ (And.intro (refS (elt (0 : Int) (cDt c) (cVl (kidN c 0)))) ?_))))
    refine And.intro (by kernel_rfl) ?_
    conv => whnf
    refine lp Nat (fun i => [(6, .int .i64 (i : Nat))]) (fun i => [.cel 5 32 (cSV (choC (elt (0 : Int) (cDt c) (cVl (kidN c 0))) (l.take i))), .cel 4 32 [.int .i64 0, .int .i64 0, .raw (.slice none 0 0), .raw (.slice none 0 0)]]) (fun i => l.length - i) (fun i => i ≤ l.length) 0 (Nat.zero_le _) ?_ ?_
    · exact hd [] rfl (And.intro ⟨rfl, rfl⟩ trivial) ⟨trivial, ⟨⟨rfl, rfl⟩, ⟨rfl, rfl⟩, rfl, rfl, trivial⟩, trivial, ⟨⟨rfl, rfl⟩, ⟨rfl, rfl⟩, rfl, rfl, trivial⟩, trivial⟩
    intro i hi
    refine And.intro (fun q1 => ?_) (fun q1 => ?_)
    · have hlt : i < l.length := by have : ((i : Nat) : Int) < (l.length : Nat) := of_decide_eq_true q1; omega
      conv => whnf
      refine And.intro (show (0 : Int) ≤ (i : Nat) ∧ ((i : Nat) : Int) < (l.length : Nat) by omega) ?_
      refine Or.inr (Or.inr (Exists.intro _ (Exists.intro _ (And.intro (appS (choC (elt (0 : Int) (cDt c) (cVl (kidN c 0))) (l.take i)) (elt (dflt uCor) l ((i : Nat) : Int))) ?_))))
      refine And.intro (by kernel_rfl) ?_
      refine lp_next (i + 1) hlt ?_ (by show l.length - (i + 1) < l.length - i; omega)
      rw [cho_take _ hlt]
      exact Go.Tr.hd [] rfl (And.intro ⟨wrapI (by omega), rfl⟩ trivial) ⟨trivial, ⟨⟨rfl, rfl⟩, ⟨rfl, rfl⟩, rfl, rfl, trivial⟩, trivial, ⟨⟨rfl, rfl⟩, ⟨rfl, rfl⟩, rfl, rfl, trivial⟩, trivial⟩
    have hge : l.length ≤ i := by have : ¬ ((i : Nat) : Int) < (l.length : Nat) := of_decide_eq_false q1; omega
    refine fin [] (And.intro ?_ trivial)
    show SV.agg (cSV (choC (elt (0 : Int) (cDt c) (cVl (kidN c 0))) (l.take i))) = SV.agg (cSV (choC (elt (0 : Int) (cDt c) (cVl (kidN c 0))) l))
    rw [List.take_of_length_le hge]
  · have hl := ar10 hg a10
    have a9 : (cKd c == 9) = false := kd_no a10 rfl
    rw [show conC b 3 c = refC (elt (0 : Int) (cDt c) (bif cVl (kidN c 0) == 0 then 1 else 0)) by unfold conC swiC; rw [a9]; rfl]
    refine FCallG.intro (nt := 61) ti_ok mixed okRCho Tryz.func78 rfl rfl rfl rfl rfl rfl ?_
    refine And.intro (fun _ => ?_) (fun q => by rw [a10] at q; cases q)
    refine And.intro (show (0 : Int) ≤ 0 ∧ (0 : Int) < (c.kids.length : Nat) by omega) ?_
    refine And.intro (fun q => ?_) (fun q => ?_)
    · have q' : (cVl (kidN c 0) != 0) = true := q
      rw [show (cVl (kidN c 0) == 0) = false by revert q'; rw [bne]; cases (cVl (kidN c 0) == 0) <;> simp]
      refine And.intro (show (0 : Int) ≤ 0 ∧ (0 : Int) < ((cDt c).length : Nat) by omega) ?_
      refine Or.inr (Or.inr (Exists.intro _ (Exists.intro _ (And.intro (refS (elt (0 : Int) (cDt c) 0)) ?_))))
      refine fin [] (And.intro ?_ trivial)
      exact rfl
    · have q' : (cVl (kidN c 0) != 0) = false := q
      rw [show (cVl (kidN c 0) == 0) = true by revert q'; rw [bne]; cases (cVl (kidN c 0) == 0) <;> simp]
      refine And.intro (show (0 : Int) ≤ 1 ∧ (1 : Int) < ((cDt c).length : Nat) by omega) ?_
      refine Or.inr (Or.inr (Exists.intro _ (Exists.intro _ (And.intro (refS (elt (0 : Int) (cDt c) 1)) ?_))))
      refine fin [] (And.intro ?_ trivial)
      exact rfl
theorem okExpS : callOk Tryz.prog 79 = true := by kernel_rfl
set_option maxHeartbeats 1000000 in
set_option maxRecDepth 100000 in
theorem expS (b : Bok) (c : Cor) (hg : goodT c = true) (hn : nmT (b.length : Nat) c = true) (h : kindF c = 4) : FCallG Tryz.prog 79 [rpB b, .rp uCor c, .rsl uCor c.kids] [] (.agg (cSV (conC b 4 c))) [] := by
  obtain ⟨i, hi, hil, hi11⟩ := at_ok hg h
  have mi := kidM hil
  have gi := good_kid hg mi
  have hv := ar11 gi hi11
  have hvn := nm_ref (nm_kid hn mi) hi11
  have hkl := (good_dt hg).2
  have h0 : 0 < c.kids.length := by omega
  have ha : atC c = (bif (cKd (kidN c 0) != 11) then 1 else 0) := by unfold atC; rw [bne]; cases cKd (kidN c 0) == 11 <;> rfl
  rw [hi] at ha
  refine FCallG.fz (ts1 := [.dat 10000 32 4 uCor (c.kids.set i (elt (dflt uCor) b (cVl (kidN c ((i : Nat) : Int)))))]) (r1 := .agg [.int .i64 (cKd c), .int .i64 (cVl c), .rsl (.int .i64) (cDt c), .sl 10000]) ?_ (by
    show SV.agg (cSV (mkC (cKd c) (cVl c) (cDt c) (c.kids.set i (elt (dflt uCor) b (cVl (kidN c ((i : Nat) : Int))))))) = SV.agg (cSV (conC b 4 c))
    unfold conC expC; rw [hi]; rfl)
  refine FCallG.intro (nt := 52) ti_ok mixed okExpS Tryz.func79 rfl rfl rfl rfl rfl rfl ?_
  conv => whnf
  refine And.intro (by show c.kids.length ≤ _; omega) ?_
  refine And.intro (by kernel_rfl) ?_
  refine And.intro (show (0 : Int) ≤ 0 ∧ (0 : Int) < (c.kids.length : Nat) by omega) ?_
  refine And.intro (fun q => ?_) (fun q => ?_)
  · rw [show (cKd (kidN c 0) != 11) = true from q] at ha
    have h1 : i = 1 := by have ha : ((i : Nat) : Int) = 1 := ha; omega
    subst h1
    conv => whnf
    refine And.intro (by omega) ?_
    refine And.intro ⟨hv.1, hvn⟩ ?_
    refine And.intro (by omega) ?_
    refine And.intro (by kernel_rfl) ?_
    refine fin [(10000, 23)] (And.intro rfl ?_)
    refine ⟨?_, trivial⟩
    show c.kids.set 1 (.node (cKd (elt (dflt uCor) b (cVl (kidN c 1))), cVl (elt (dflt uCor) b (cVl (kidN c 1))), cDt (elt (dflt uCor) b (cVl (kidN c 1)))) (elt (dflt uCor) b (cVl (kidN c 1))).kids) = _
    rw [node_eta]; rfl
  · rw [show (cKd (kidN c 0) != 11) = false from q] at ha
    have h1 : i = 0 := by have ha : ((i : Nat) : Int) = 0 := ha; omega
    subst h1
    conv => whnf
    refine And.intro (by omega) ?_
    refine And.intro ⟨hv.1, hvn⟩ ?_
    refine And.intro (by omega) ?_
    refine And.intro (by kernel_rfl) ?_
    refine fin [(10000, 23)] (And.intro rfl ?_)
    refine ⟨?_, trivial⟩
    show c.kids.set 0 (.node (cKd (elt (dflt uCor) b (cVl (kidN c 0))), cVl (elt (dflt uCor) b (cVl (kidN c 0))), cDt (elt (dflt uCor) b (cVl (kidN c 0)))) (elt (dflt uCor) b (cVl (kidN c 0))).kids) = _
    rw [node_eta]; rfl
theorem okConS : callOk Tryz.prog 55 = true := by kernel_rfl
set_option maxHeartbeats 1000000 in
set_option maxRecDepth 100000 in
theorem conSG (b : Bok) (c : Cor) (hc : okC c = true) (hn : nmT (b.length : Nat) c = true) (h : (kindF c != 0) = true) : FCallG Tryz.prog 55 [rpB b, .rp uCor c, .int .i64 (kindF c)] [] (.tup [.agg (cSV (conS b (kindF c) c).1), .int .i64 (conS b (kindF c) c).2]) [] := by
  have hg := (okC_iff.1 hc).1
  have h0 : kindF c ≠ 0 := by simpa using h
  rcases kind_all c with k | k | k | k | k
  · exact absurd k h0
  · obtain ⟨a5, b4⟩ := kind1 k
    rw [k]
    have hl := ar5 hg a5
    have m0 : kidN c 0 ∈ c.kids := kidM (c := c) (i := 0) (by omega)
    have m1 : kidN c 1 ∈ c.kids := kidM (c := c) (i := 1) (by omega)
    have g0 := okC_kid hc m0
    have hl4 := ar4 (okC_iff.1 g0).1 b4
    have m2 : kidN (kidN c 0) 0 ∈ (kidN c 0).kids := kidM (c := kidN c 0) (i := 0) (by omega)
    rw [show conS b 1 c = inR (kidN (kidN c 0) 0) (kidN c 1) from rfl]
    refine FCallG.intro (nt := 67) ti_ok mixed okConS Tryz.func55 rfl rfl rfl rfl rfl rfl ?_
    refine And.intro (fun _ => ?_) (fun q => by cases q)
    conv => whnf
    refine And.intro (show (0 : Int) ≤ 0 ∧ (0 : Int) < (c.kids.length : Nat) by omega) ?_
    refine And.intro (show (0 : Int) ≤ 0 ∧ (0 : Int) < ((kidN c 0).kids.length : Nat) by omega) ?_
    refine And.intro (show (0 : Int) ≤ 1 ∧ (1 : Int) < (c.kids.length : Nat) by omega) ?_
    conv => whnf
    refine Or.inr (Or.inr (Exists.intro _ (Exists.intro _ (And.intro (by
      show FCallG _ _ [.rp uCor (kidN (kidN c 0) 0), .rp uCor (kidN c 1)] _ _ _
      exact instS (kidN (kidN c 0) 0) (kidN c 1) (okC_kid g0 m2) (okC_kid hc m1)) ?_))))
    refine And.intro (by kernel_rfl) ?_
    refine fin [] (And.intro ?_ trivial)
    exact rfl
  · obtain ⟨a3, _, _⟩ := kind2 k
    rw [k]
    have hl := (ar3 hg a3).1
    rw [show conS b 2 c = (numC (opN (cVl c) (cVl (kidN c 0)) (cVl (kidN c 1))), 0) from rfl]
    refine FCallG.intro (nt := 67) ti_ok mixed okConS Tryz.func55 rfl rfl rfl rfl rfl rfl ?_
    refine And.intro (fun q => by cases q) (fun _ => ?_)
    refine And.intro (fun _ => ?_) (fun q => by cases q)
    conv => whnf
    refine And.intro (show (0 : Int) ≤ 0 ∧ (0 : Int) < (c.kids.length : Nat) by omega) ?_
    refine And.intro (show (0 : Int) ≤ 1 ∧ (1 : Int) < (c.kids.length : Nat) by omega) ?_
    conv => whnf
    refine Or.inl (Exists.intro _ (And.intro (opS (cVl c) (cVl (kidN c 0)) (cVl (kidN c 1))) ?_))
    refine Or.inr (Or.inr (Exists.intro _ (Exists.intro _ (And.intro (numS (opN (cVl c) (cVl (kidN c 0)) (cVl (kidN c 1)))) ?_))))
    refine And.intro (by kernel_rfl) ?_
    refine fin [] (And.intro ?_ trivial)
    exact rfl
  · rw [k]
    have hl : 0 < c.kids.length := by
      rcases kind3 k with ⟨a, _⟩ | ⟨a, _⟩
      · have := ar9 hg a; omega
      · have := ar10 hg a; omega
    rw [show conS b 3 c = (conC b 3 c, 0) from rfl]
    refine FCallG.intro (nt := 67) ti_ok mixed okConS Tryz.func55 rfl rfl rfl rfl rfl rfl ?_
    refine And.intro (fun q => by cases q) (fun _ => ?_)
    refine And.intro (fun q => by cases q) (fun _ => ?_)
    refine And.intro (fun _ => ?_) (fun q => by cases q)
    refine And.intro (show (0 : Int) ≤ 0 ∧ (0 : Int) < (c.kids.length : Nat) by omega) ?_
    refine Or.inr (Or.inr (Exists.intro _ (Exists.intro _ (And.intro (choS c hg k b) ?_))))
    refine fin [] (And.intro ?_ trivial)
    exact rfl
  · rw [k]
    rw [show conS b 4 c = (conC b 4 c, 0) from rfl]
    refine FCallG.intro (nt := 67) ti_ok mixed okConS Tryz.func55 rfl rfl rfl rfl rfl rfl ?_
    refine And.intro (fun q => by cases q) (fun _ => ?_)
    refine And.intro (fun q => by cases q) (fun _ => ?_)
    refine And.intro (fun q => by cases q) (fun _ => ?_)
    refine Or.inr (Or.inr (Exists.intro _ (Exists.intro _ (And.intro (expS b c hg hn k) ?_))))
    refine fin [] (And.intro ?_ trivial)
    exact rfl
theorem okInn : callOk Tryz.prog 41 = true := by kernel_rfl
set_option maxHeartbeats 1000000 in
set_option maxRecDepth 100000 in
theorem innG (b : Bok) : ∀ c : Cor, okC c = true → nmT (b.length : Nat) c = true → FCallG Tryz.prog 41 [rpB b, .rp uCor c] [] (.tup [.agg (cSV (innR b c).1), .int .i64 (innR b c).2.1, .int .i64 (innR b c).2.2]) [] := by
  refine Tree.ind (fun c ih => ?_)
  intro hc hn
  have hg := (okC_iff.1 hc).1
  have hkl := (good_dt hg).2
  cases hk : (kindF c != 0) with
  | true =>
    rw [show innR b c = ((conS b (kindF c) c).1, kindF c, (conS b (kindF c) c).2) by unfold innR; rw [stS_red hk]]
    refine FCallG.intro (nt := 80) ti_ok mixed okInn Tryz.func41 rfl rfl rfl rfl rfl rfl ?_
    refine Or.inl (Exists.intro _ (And.intro (kdS c hg) ?_))
    refine And.intro (fun _ => ?_) (fun q => by rw [hk] at q; cases q)
    refine Or.inr (Or.inr (Exists.intro _ (Exists.intro _ (And.intro (conSG b c hc hn hk) ?_))))
    refine fin [] (And.intro ?_ trivial)
    exact rfl
  | false =>
    have kidP : ∀ k ∈ c.kids, FCallG Tryz.prog 41 [rpB b, .rp uCor k] [] (.tup [.agg (cSV (innR b k).1), .int .i64 (innR b k).2.1, .int .i64 (innR b k).2.2]) [] := fun k hm => ih k hm (okC_kid hc hm) (nm_kid hn hm)
    by_cases hall : ∀ k ∈ c.kids, Go.Tr.stS b k = none
    · rw [show innR b c = (zeroC, 0, 0) by unfold innR; rw [stS_kids hk, stSL_none hall]]
      refine FCallG.fz (ts1 := []) (r1 := .tup [.agg [.int .i64 0, .int .i64 0, .raw (.slice none 0 0), .raw (.slice none 0 0)], .int .i64 0, .int .i64 0]) ?_ (Or.inr ⟨_, Or.inr ⟨_, rfl⟩⟩)
      refine FCallG.intro (nt := 80) ti_ok mixed okInn Tryz.func41 rfl rfl rfl rfl rfl rfl ?_
      refine Or.inl (Exists.intro _ (And.intro (kdS c hg) ?_))
      refine And.intro (fun q => by rw [hk] at q; cases q) (fun _ => ?_)
      refine lp Nat (fun i => [(10, .int .i64 (i : Nat))]) (fun _ => [.cel 4 32 [.int .i64 0, .int .i64 0, .raw (.slice none 0 0), .raw (.slice none 0 0)]]) (fun i => c.kids.length - i) (fun i => i ≤ c.kids.length) 0 (Nat.zero_le _) ?_ ?_
      · exact Go.Tr.hd [] rfl (And.intro ⟨rfl, rfl⟩ trivial) ⟨trivial, ⟨⟨rfl, rfl⟩, ⟨rfl, rfl⟩, rfl, rfl, trivial⟩, trivial⟩
      intro i hi
      refine And.intro (fun q1 => ?_) (fun q1 => ?_)
      · have hlt : i < c.kids.length := by have : ((i : Nat) : Int) < (c.kids.length : Nat) := of_decide_eq_true q1; omega
        have hmem := kidM hlt
        have hz : innR b (kidN c ((i : Nat) : Int)) = (zeroC, 0, 0) := by unfold innR; rw [hall _ hmem]
        refine And.intro (show (0 : Int) ≤ (i : Nat) ∧ ((i : Nat) : Int) < (c.kids.length : Nat) by omega) ?_
        refine Or.inr (Or.inr (Exists.intro _ (Exists.intro _ (And.intro (by
          show FCallG _ _ [_, .rp uCor (kidN c ((i : Nat) : Int))] _ _ _
          have h := kidP _ hmem
          rw [hz] at h
          exact h) ?_))))
        refine And.intro (fun _ => ?_) (fun q => by cases q)
        refine lp_next (i + 1) hlt ?_ (by show c.kids.length - (i + 1) < c.kids.length - i; omega)
        exact Go.Tr.hd [] rfl (And.intro ⟨wrapI (by omega), rfl⟩ trivial) ⟨trivial, ⟨⟨rfl, rfl⟩, ⟨rfl, rfl⟩, rfl, rfl, trivial⟩, trivial⟩
      refine fin [] (And.intro ?_ trivial)
      exact rfl
    · obtain ⟨j, hj, hbef, r, hjs⟩ := first_someS hall
      have hmj := kidM hj
      have hk4 := stS_kind hjs
      rw [show innR b c = (mkC (cKd c) (cVl c) (cDt c) (c.kids.set j r.1), r.2.1, r.2.2) by unfold innR; rw [stS_kids hk, stSL_some hj hbef hjs]]
      refine FCallG.fz (ts1 := [.dat 10000 32 4 uCor (c.kids.set j r.1)]) (r1 := .tup [.agg [.int .i64 (cKd c), .int .i64 (cVl c), .rsl (.int .i64) (cDt c), .sl 10000], .int .i64 r.2.1, .int .i64 r.2.2]) ?_ rfl
      refine FCallG.intro (nt := 80) ti_ok mixed okInn Tryz.func41 rfl rfl rfl rfl rfl rfl ?_
      refine Or.inl (Exists.intro _ (And.intro (kdS c hg) ?_))
      refine And.intro (fun q => by rw [hk] at q; cases q) (fun _ => ?_)
      refine lp Nat (fun i => [(10, .int .i64 (i : Nat))]) (fun _ => [.cel 4 32 [.int .i64 0, .int .i64 0, .raw (.slice none 0 0), .raw (.slice none 0 0)]]) (fun i => c.kids.length - i) (fun i => i ≤ j) 0 (Nat.zero_le _) ?_ ?_
      · exact Go.Tr.hd [] rfl (And.intro ⟨rfl, rfl⟩ trivial) ⟨trivial, ⟨⟨rfl, rfl⟩, ⟨rfl, rfl⟩, rfl, rfl, trivial⟩, trivial⟩
      intro i hi
      refine And.intro (fun q1 => ?_) (fun q1 => ?_)
      · have hlt : i < c.kids.length := by have : ((i : Nat) : Int) < (c.kids.length : Nat) := of_decide_eq_true q1; omega
        have hmem := kidM hlt
        refine And.intro (show (0 : Int) ≤ (i : Nat) ∧ ((i : Nat) : Int) < (c.kids.length : Nat) by omega) ?_
        refine Or.inr (Or.inr (Exists.intro _ (Exists.intro _ (And.intro (by
          show FCallG _ _ [_, .rp uCor (kidN c ((i : Nat) : Int))] _ _ _
          exact kidP _ hmem) ?_))))
        by_cases hij : i = j
        · subst hij
          have hz : innR b (kidN c ((i : Nat) : Int)) = r := by unfold innR; rw [hjs]
          rw [hz]
          refine And.intro (fun q => ?_) (fun _ => ?_)
          · have q' : (r.2.1 == 0) = true := q
            have : r.2.1 = 0 := by simpa using q'
            omega
          · conv => whnf
            refine And.intro (by show c.kids.length ≤ _; omega) ?_
            refine And.intro (by kernel_rfl) ?_
            refine And.intro (show (0 : Int) ≤ (i : Nat) ∧ ((i : Nat) : Int) < (c.kids.length : Nat) by omega) ?_
            refine fin [(10000, 69)] (And.intro rfl ?_)
            refine ⟨?_, trivial⟩
            show c.kids.set i (.node (cKd r.1, cVl r.1, cDt r.1) r.1.kids) = _
            rw [node_eta]
        · have hz : innR b (kidN c ((i : Nat) : Int)) = (zeroC, 0, 0) := by
            unfold innR
            rw [hbef _ (by rw [List.mem_take_iff_getElem]; exact ⟨i, by omega, by rw [kidN, eltN hlt]⟩)]
          rw [hz]
          refine And.intro (fun _ => ?_) (fun q => by cases q)
          refine lp_next (i + 1) (by show i + 1 ≤ j; have : i ≤ j := hi; omega) ?_ (by show c.kids.length - (i + 1) < c.kids.length - i; omega)
          exact Go.Tr.hd [] rfl (And.intro ⟨wrapI (by omega), rfl⟩ trivial) ⟨trivial, ⟨⟨rfl, rfl⟩, ⟨rfl, rfl⟩, rfl, rfl, trivial⟩, trivial⟩
      have hge : c.kids.length ≤ i := by have : ¬ ((i : Nat) : Int) < (c.kids.length : Nat) := of_decide_eq_false q1; omega
      exfalso
      have : i ≤ j := hi
      omega
end Go.Proofs.YtieemijapiiiiaaGreat
