/- Core terms: counts, greatest indices, equality. -/
import Derived.Test.YtieemijapiiiiaaOd
set_option linter.unusedSimpArgs false
set_option linter.unusedVariables false
namespace Go.Proofs.Ytieemijapiiiiaa
open Go Go.RowKit Go.Proofs Go.Tr
theorem okCnt : callOk Try.prog 30 = true := by kernel_rfl
set_option maxRecDepth 100000 in
theorem cntQ : ∀ (c : Cor) (n : Int), sizT c ≤ 1000000 → -1000000 ≤ n → n + sizT c ≤ 3000000 → QCall Try.prog 30 [.agg (cSV c), .int .i64 n] (.int .i64 (cntT c n : Nat)) := by
  refine Tree.ind (fun c ih => ?_)
  intro n hb hn1 hn2
  have hl := sizT_len c
  have hk := sizT_kids c
  refine QCall.intro (nt := 35) ti_ok mixed okCnt Try.func30 rfl rfl rfl rfl rfl ?_
  refine And.intro (fun q => ?_) (fun q => ?_)
  · refine Or.inl (Exists.intro _ (And.intro (truthQ _) ?_))
    refine ⟨?_, rfl⟩
    rw [cntT_var q]
    cases cVl c == n <;> rfl
  refine lp Nat (fun i => [(5, .int .i64 (cntL (cKd c) (c.kids.take i) 0 n : Nat)), (19, .int .i64 (i : Nat))]) (fun _ => [.cel 2 27 (cSV c)]) (fun i => c.kids.length - i) (fun i => i ≤ c.kids.length) 0 (Nat.zero_le _) ?_ ?_
  · exact Go.Tr.hd [] rfl (And.intro ⟨by simp [cntL], rfl⟩ (And.intro ⟨rfl, rfl⟩ trivial)) ⟨trivial, ⟨⟨rfl, rfl⟩, ⟨rfl, rfl⟩, rfl, rfl, trivial⟩, trivial⟩
  intro i hi
  refine And.intro (fun q1 => ?_) (fun q1 => ?_)
  · have hlt : i < c.kids.length := by have : ((i : Nat) : Int) < (c.kids.length : Nat) := of_decide_eq_true q1; omega
    have hmem := eltM (d := dflt uCor) hlt
    have h1 := sizT_kid hmem
    have hbn := bindN_b (cKd c) (i : Nat)
    have h2 := cntL_take (cKd c) n c.kids 0 i hlt
    have h3 := cntL_pre (cKd c) c.kids n (i + 1)
    rw [Nat.zero_add] at h2
    refine And.intro (show (0 : Int) ≤ (i : Nat) ∧ ((i : Nat) : Int) < (c.kids.length : Nat) by omega) ?_
    refine Or.inl (Exists.intro _ (And.intro (bindsQ c (i : Nat)) ?_))
    refine Or.inl (Exists.intro _ (And.intro (by
      show QCall _ _ [_, .int .i64 (IntKind.i64.wrap (n + bindN (cKd c) (i : Nat)))] _
      rw [wrapI (by omega)]
      exact ih _ hmem _ (by omega) (by omega) (by omega)) ?_))
    refine And.intro (by kernel_rfl) ?_
    refine lp_next (i + 1) hlt ?_ (by show c.kids.length - (i + 1) < c.kids.length - i; omega)
    refine Go.Tr.hd [] rfl (And.intro ⟨?_, rfl⟩ (And.intro ⟨wrapI (by omega), rfl⟩ trivial)) ⟨trivial, ⟨⟨rfl, rfl⟩, ⟨rfl, rfl⟩, rfl, rfl, trivial⟩, trivial⟩
    show IntKind.i64.wrap ((cntL (cKd c) (c.kids.take i) 0 n : Nat) + (cntT (elt (dflt uCor) c.kids ((i : Nat) : Int)) (n + bindN (cKd c) (i : Nat)) : Nat)) = _
    rw [wrapI (by omega), h2]; omega
  have hge : c.kids.length ≤ i := by have : ¬ ((i : Nat) : Int) < (c.kids.length : Nat) := of_decide_eq_false q1; omega
  exact ⟨by rw [List.take_of_length_le hge, cntT_kids q], rfl⟩
theorem okCntV : callOk Try.prog 12 = true := by kernel_rfl
theorem countQ (c : Cor) (n : Int) (hb : sizT c ≤ 1000000) (hn : n + sizT c ≤ 3000000) : QCall Try.prog 12 [.agg (cSV c), .int .i64 n] (.int .i64 (bif okC c && decide (0 ≤ n) then (cntT c n : Nat) else 0)) := by
  refine QCall.intro (nt := 15) ti_ok mixed okCntV Try.func12 rfl rfl rfl rfl rfl ?_
  refine Or.inl (Exists.intro _ (And.intro (validQ c hb) ?_))
  have hd : decide (n < 0) = !decide (0 ≤ n) := by rw [Bool.eq_iff_iff]; simp
  refine And.intro (fun q => ?_) (fun q => ?_)
  · have q' : (bif (!okC c) then true else decide (n < 0)) = true := q
    rw [hd] at q'
    refine ⟨?_, rfl⟩
    revert q'
    cases okC c <;> cases decide (0 ≤ n) <;> simp
  have q' : (bif (!okC c) then true else decide (n < 0)) = false := q
  rw [hd] at q'
  have h1 : okC c = true ∧ decide (0 ≤ n) = true := by
    revert q'
    cases okC c <;> cases decide (0 ≤ n) <;> simp
  have hn0 : 0 ≤ n := of_decide_eq_true h1.2
  refine Or.inl (Exists.intro _ (And.intro (cntQ c n hb (by omega) hn) ?_))
  exact ⟨by rw [h1.1, h1.2]; rfl, rfl⟩
theorem okMaxC : callOk Try.prog 46 = true := by kernel_rfl
theorem maxCQ (a b : Int) : QCall Try.prog 46 [.int .i64 a, .int .i64 b] (.int .i64 (max a b)) := by
  refine QCall.intro (nt := 10) ti_ok mixed okMaxC Try.func46 rfl rfl rfl rfl rfl ?_
  refine And.intro (fun q => ?_) (fun q => ?_)
  · exact ⟨by have : b < a := of_decide_eq_true q; omega, rfl⟩
  · exact ⟨by have : ¬ b < a := of_decide_eq_false q; omega, rfl⟩
theorem okHi : callOk Try.prog 27 = true := by kernel_rfl
theorem hiQ : ∀ (c : Cor), sizT c ≤ 1000000 → QCall Try.prog 27 [.rp uCor c] (.int .i64 (hiT c)) := by
  refine Tree.ind (fun c ih => ?_)
  intro hb
  have hl := sizT_len c
  refine QCall.intro (nt := 33) ti_ok mixed okHi Try.func27 rfl rfl rfl rfl rfl ?_
  have key : ∀ a : Int, a = (bif cKd c == 1 then cVl c else -1) → ∀ i : Nat, i ≤ c.kids.length → hiT c = hiL (c.kids.drop i) (hiL (c.kids.take i) a) := fun a ha i hi => by
    rw [hiT_kids, ← ha]
    have := hiL_app (c.kids.take i) (c.kids.drop i) a
    rw [List.take_append_drop] at this
    exact this
  refine And.intro (fun q => ?_) (fun q => ?_)
  all_goals
    first
    | (refine lp Nat (fun i => [(3, .int .i64 (hiL (c.kids.take i) (cVl c))), (4, .int .i64 (i : Nat))]) (fun _ => []) (fun i => c.kids.length - i) (fun i => i ≤ c.kids.length ∧ (cKd c == 1) = true) 0 ⟨Nat.zero_le _, q⟩ ?_ ?_; exact Go.Tr.hd [] rfl (And.intro ⟨by simp [hiL], rfl⟩ (And.intro ⟨rfl, rfl⟩ trivial)) trivial)
    | (refine lp Nat (fun i => [(3, .int .i64 (hiL (c.kids.take i) (-1))), (4, .int .i64 (i : Nat))]) (fun _ => []) (fun i => c.kids.length - i) (fun i => i ≤ c.kids.length ∧ (cKd c == 1) = false) 0 ⟨Nat.zero_le _, q⟩ ?_ ?_; exact Go.Tr.hd [] rfl (And.intro ⟨by simp [hiL], rfl⟩ (And.intro ⟨rfl, rfl⟩ trivial)) trivial)
  all_goals
    rintro i ⟨hi, hq⟩
    refine And.intro (fun q1 => ?_) (fun q1 => ?_)
    · have hlt : i < c.kids.length := by have : ((i : Nat) : Int) < (c.kids.length : Nat) := of_decide_eq_true q1; omega
      have hmem := eltM (d := dflt uCor) hlt
      have h1 := sizT_kid hmem
      refine And.intro (show (0 : Int) ≤ (i : Nat) ∧ ((i : Nat) : Int) < (c.kids.length : Nat) by omega) ?_
      refine Or.inl (Exists.intro _ (And.intro (ih _ hmem (Nat.le_trans (Nat.le_of_succ_le h1) hb)) ?_))
      refine Or.inl (Exists.intro _ (And.intro (maxCQ _ _) ?_))
      refine lp_next (i + 1) ⟨hlt, hq⟩ ?_ (by show c.kids.length - (i + 1) < c.kids.length - i; omega)
      exact Go.Tr.hd [] rfl (And.intro ⟨(hiL_take _ hlt).symm, rfl⟩ (And.intro ⟨wrapI (by omega), rfl⟩ trivial)) trivial
    · have hge : c.kids.length ≤ i := by have : ¬ ((i : Nat) : Int) < (c.kids.length : Nat) := of_decide_eq_false q1; omega
      exact ⟨by rw [List.take_of_length_le hge, hiT_kids, hq]; rfl, rfl⟩
theorem okSameI : callOk Try.prog 47 = true := by kernel_rfl
set_option maxRecDepth 100000 in
theorem sameIQ (xs ys : List Int) : QCall Try.prog 47 [.rsl (.int .i64) xs, .rsl (.int .i64) ys] (.bool (xs == ys)) := by
  refine QCall.rslB okSameI fun hl => ?_
  refine QCall.intro (nt := 26) ti_ok mixed okSameI Try.func47 rfl rfl rfl rfl rfl ?_
  have no : xs ≠ ys → (xs == ys) = false := fun h => by simpa using h
  refine And.intro (fun q => ?_) (fun q => ?_)
  · have q' : (((xs.length : Nat) : Int) != (ys.length : Nat)) = true := q
    show false = (xs == ys)
    rw [no (fun e => by subst e; simp at q')]
  have hlen : xs.length = ys.length := by
    have q' : (((xs.length : Nat) : Int) != (ys.length : Nat)) = false := q
    simp at q'
    omega
  refine lp Nat (fun i => [(5, .int .i64 (i : Nat))]) (fun _ => []) (fun i => xs.length - i) (fun i => i ≤ xs.length ∧ xs.take i = ys.take i) 0 ⟨Nat.zero_le _, rfl⟩ ?_ ?_
  · exact Go.Tr.hd [] rfl (And.intro ⟨rfl, rfl⟩ trivial) trivial
  rintro i ⟨hi, he⟩
  refine And.intro (fun q1 => ?_) (fun q1 => ?_)
  · have hlt : i < xs.length := by have : ((i : Nat) : Int) < (xs.length : Nat) := of_decide_eq_true q1; omega
    refine And.intro (show (0 : Int) ≤ (i : Nat) ∧ ((i : Nat) : Int) < (xs.length : Nat) by omega) ?_
    refine And.intro (show (0 : Int) ≤ (i : Nat) ∧ ((i : Nat) : Int) < (ys.length : Nat) by omega) ?_
    refine And.intro (by kernel_rfl) ?_
    refine And.intro (fun q2 => ?_) (fun q2 => ?_)
    · have q' : (elt 0 xs ((i : Nat) : Int) != elt 0 ys ((i : Nat) : Int)) = true := q2
      show false = (xs == ys)
      rw [no (fun e => by subst e; simp at q')]
    · have q' : (elt 0 xs ((i : Nat) : Int) != elt 0 ys ((i : Nat) : Int)) = false := q2
      refine lp_next (i + 1) ⟨hlt, take_same (d := (0 : Int)) hlt (by omega) he (by simpa using q')⟩ ?_ (by show xs.length - (i + 1) < xs.length - i; omega)
      exact Go.Tr.hd [] rfl (And.intro ⟨wrapI (by omega), rfl⟩ trivial) trivial
  have hge : xs.length ≤ i := by have : ¬ ((i : Nat) : Int) < (xs.length : Nat) := of_decide_eq_false q1; omega
  rw [List.take_of_length_le hge, List.take_of_length_le (by omega)] at he
  show true = (xs == ys)
  rw [he]; simp
theorem okSameC : callOk Try.prog 28 = true := by kernel_rfl
set_option maxRecDepth 100000 in
theorem sameQ : ∀ (a b : Cor), sizT a ≤ 1000000 → QCall Try.prog 28 [.rp uCor a, .rp uCor b] (.bool (sameT a b)) := by
  refine Tree.ind (fun a ih => ?_)
  intro b hb
  have hl := sizT_len a
  refine QCall.intro (nt := 74) ti_ok mixed okSameC Try.func28 rfl rfl rfl rfl rfl ?_
  have no : a ≠ b → false = sameT a b := fun h => by
    cases h2 : sameT a b with
    | false => rfl
    | true => exact (h (sameT_eq.1 h2)).elim
  refine Or.inl (Exists.intro _ (And.intro (fun _ => sameIQ (cDt a) (cDt b)) ?_))
  refine And.intro (by kernel_rfl) ?_
  refine And.intro (fun q => ?_) (fun q => ?_)
  · have q' : (bif (bif (bif (cKd a != cKd b) then true else (cVl a != cVl b)) then true else !(cDt a == cDt b)) then true else (((Tree.kids a).length : Nat) : Int) != ((Tree.kids b).length : Nat)) = true := q
    exact no (fun e => by subst e; simp at q')
  have q' : (bif (bif (bif (cKd a != cKd b) then true else (cVl a != cVl b)) then true else !(cDt a == cDt b)) then true else (((Tree.kids a).length : Nat) : Int) != ((Tree.kids b).length : Nat)) = false := q
  obtain ⟨h1, h2, h3, h4⟩ : cKd a = cKd b ∧ cVl a = cVl b ∧ cDt a = cDt b ∧ (Tree.kids a).length = (Tree.kids b).length := by
    have e1 : (cKd a != cKd b) = false ∧ (cVl a != cVl b) = false ∧ (cDt a == cDt b) = true ∧ ((((Tree.kids a).length : Nat) : Int) != ((Tree.kids b).length : Nat)) = false := by
      revert q'
      cases (cKd a != cKd b) <;> cases (cVl a != cVl b) <;> cases (cDt a == cDt b) <;> cases ((((Tree.kids a).length : Nat) : Int) != ((Tree.kids b).length : Nat)) <;> simp
    refine ⟨by simpa using e1.1, by simpa using e1.2.1, by simpa using e1.2.2.1, ?_⟩
    have := e1.2.2.2
    simp at this
    omega
  refine lp Nat (fun i => [(5, .int .i64 (i : Nat))]) (fun _ => []) (fun i => a.kids.length - i) (fun i => i ≤ a.kids.length ∧ a.kids.take i = b.kids.take i) 0 ⟨Nat.zero_le _, rfl⟩ ?_ ?_
  · exact Go.Tr.hd [] rfl (And.intro ⟨rfl, rfl⟩ trivial) trivial
  rintro i ⟨hi, he⟩
  refine And.intro (fun q1 => ?_) (fun q1 => ?_)
  · have hlt : i < a.kids.length := by have : ((i : Nat) : Int) < (a.kids.length : Nat) := of_decide_eq_true q1; omega
    have hmem := eltM (d := dflt uCor) hlt
    have hs1 := sizT_kid hmem
    refine And.intro (show (0 : Int) ≤ (i : Nat) ∧ ((i : Nat) : Int) < (a.kids.length : Nat) by omega) ?_
    refine And.intro (show (0 : Int) ≤ (i : Nat) ∧ ((i : Nat) : Int) < (b.kids.length : Nat) by omega) ?_
    refine Or.inl (Exists.intro _ (And.intro (ih _ hmem (elt (dflt uCor) b.kids ((i : Nat) : Int)) (Nat.le_trans (Nat.le_of_succ_le hs1) hb)) ?_))
    refine And.intro (by kernel_rfl) ?_
    refine And.intro (fun q2 => ?_) (fun q2 => ?_)
    · have q3 : (!sameT (elt (dflt uCor) a.kids ((i : Nat) : Int)) (elt (dflt uCor) b.kids ((i : Nat) : Int))) = true := q2
      exact no (fun e => by
        subst e
        rw [sameT_eq.2 rfl] at q3
        cases q3)
    · have q3 : (!sameT (elt (dflt uCor) a.kids ((i : Nat) : Int)) (elt (dflt uCor) b.kids ((i : Nat) : Int))) = false := q2
      refine lp_next (i + 1) ⟨hlt, take_same (d := dflt uCor) hlt (by omega) he (sameT_eq.1 (by simpa using q3))⟩ ?_ (by show a.kids.length - (i + 1) < a.kids.length - i; omega)
      exact Go.Tr.hd [] rfl (And.intro ⟨wrapI (by omega), rfl⟩ trivial) trivial
  have hge : a.kids.length ≤ i := by have : ¬ ((i : Nat) : Int) < (a.kids.length : Nat) := of_decide_eq_false q1; omega
  rw [List.take_of_length_le hge, List.take_of_length_le (by omega)] at he
  have : a = b := by
    cases a with
    | node x l =>
      cases b with
      | node y m =>
        have hx : x = y := Prod.ext h1 (Prod.ext h2 h3)
        have hlm : l = m := he
        rw [hx, hlm]
  show true = sameT a b
  rw [sameT_eq.2 this]
theorem okSameCore : callOk Try.prog 10 = true := by kernel_rfl
theorem sameCQ (a b : Cor) (hb : sizT a ≤ 1000000) : QCall Try.prog 10 [.agg (cSV a), .agg (cSV b)] (.bool (sameT a b)) := by
  refine QCall.intro (nt := 6) ti_ok mixed okSameCore Try.func10 rfl rfl rfl rfl rfl ?_
  have h : FCall Try.prog 28 [.ptr 10000 0, .ptr 10001 0] [.cel 10000 27 (cSV a), .cel 10001 27 (cSV b)] (.bool (sameT a b)) [.cel 10000 27 (cSV a), .cel 10001 27 (cSV b)] :=
    FCall.of_q ti_ok [41, 41] okSameC (by
      show QCall _ _ [.rp uCor (.node (cKd a, cVl a, cDt a) (Tree.kids a)), .rp uCor (.node (cKd b, cVl b, cDt b) (Tree.kids b))] _
      rw [node_eta, node_eta]
      exact sameQ a b hb) rfl
  refine Or.inr (Exists.intro _ (Exists.intro _ (And.intro h ?_)))
  exact rfl
/-- The reference's tests upon a variable of the call's own. -/
theorem okCF (c : Cor) : FCall Try.prog 18 [.ptr 10000 0] [.cel 10000 27 (cSV c)] (.bool (okC c)) [.cel 10000 27 (cSV c)] :=
  FCall.of_q ti_ok [41] okOkC (by
    show QCall _ _ [.rp uCor (.node (cKd c, cVl c, cDt c) (Tree.kids c))] _
    rw [node_eta]
    exact okCQ c) rfl
theorem hiF (c : Cor) (hb : sizT c ≤ 1000000) : FCall Try.prog 27 [.ptr 10000 0] [.cel 10000 27 (cSV c)] (.int .i64 (hiT c)) [.cel 10000 27 (cSV c)] :=
  FCall.of_q ti_ok [41] okHi (by
    show QCall _ _ [.rp uCor (.node (cKd c, cVl c, cDt c) (Tree.kids c))] _
    rw [node_eta]
    exact hiQ c hb) rfl
end Go.Proofs.Ytieemijapiiiiaa
