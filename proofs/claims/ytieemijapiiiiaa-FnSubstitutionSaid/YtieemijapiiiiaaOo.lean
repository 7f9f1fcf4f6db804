/- Shifts of core terms: the law, walked. -/
import Derived.Test.YtieemijapiiiiaaOn
import Derived.Test.YtieemijapiiiiaaOl
import Derived.Test.YtieemijapiiiiaaOj
import Derived.Test.YtieemijapiiiiaaOe
set_option linter.unusedSimpArgs false
set_option linter.unusedVariables false
namespace Go.Tr
open Go Go.RowKit
mutual
theorem hi_good : ∀ c : Cor, goodT c = true → hiT c ≤ 255
  | .node x l, hg => by
    rw [hiT]
    refine hiL_good l _ ?_ (goodT_iff.1 hg).2
    cases hk : (x.1 == 1) with
    | true => exact (good_var hg hk).2.1
    | false => show (-1 : Int) ≤ 255; omega
theorem hiL_good : ∀ (l : List Cor) (a : Int), a ≤ 255 → (∀ t ∈ l, goodT t = true) → hiL l a ≤ 255
  | [], a, h, _ => by rw [hiL]; exact h
  | t :: l, a, h, hl => by
    rw [hiL]
    refine hiL_good l _ ?_ fun s hs => hl s (by simp [hs])
    have := hi_good t (hl t (by simp))
    omega
end
theorem okC_hi {c : Cor} (h : okC c = true) : hiT c ≤ 255 := hi_good c (okC_iff.1 h).1
theorem okC_sh {b f : Int} (hb : 0 ≤ b) {c : Cor} (h : okC c = true) (h2 : hiT (shT b c f) ≤ 255) : okC (shT b c f) = true := by
  obtain ⟨h1, h3, h4⟩ := okC_iff.1 h
  exact okC_iff.2 ⟨good_sh b hb c f h1 h2, by rw [shT_dep]; exact h3, by rw [shT_siz]; exact h4⟩
theorem sameT_refl (c : Cor) : sameT c c = true := sameT_eq.2 rfl
end Go.Tr
namespace Go.Proofs.Ytieemijapiiiiaa
open Go Go.RowKit Go.Proofs Go.Tr
theorem shR_ok {b f : Int} {c : Cor} (h : ((shR b f c).2 != 0) = false) : shR b f c = (shT b c f, 0) ∧ hiT (shT b c f) ≤ 255 := by
  unfold shR at h ⊢
  by_cases h1 : 255 < hiT (shT b c f)
  · rw [decide_eq_true h1] at h; cases h
  · rw [decide_eq_false h1]; exact ⟨rfl, by omega⟩
theorem countV (c : Cor) (n : Int) (hc : okC c = true) (h0 : 0 ≤ n) (hn : n ≤ 1000) : QCall Try.prog 12 [.agg (cSV c), .int .i64 n] (.int .i64 (cntT c n : Nat)) := by
  have hs : sizT c ≤ 400 := (okC_iff.1 hc).2.2
  have h := countQ c n (by omega) (by omega)
  rw [hc, decide_eq_true h0] at h
  exact h
theorem okShifts : callOk Try.prog 3 = true := by kernel_rfl
set_option maxHeartbeats 4000000 in
set_option maxRecDepth 100000 in
theorem shiftsG (code more : List Int) (hr : ∀ x ∈ code, 0 ≤ x ∧ x ≤ 255) (hs : ∀ x ∈ more, 0 ≤ x ∧ x ≤ 255) : FCallG Try.prog 3 [.rsl uByte code, .rsl uByte more] [] (.bool true) [] := by
  refine FCallG.intro (nt := 171) ti_ok mixed okShifts Try.func3 rfl rfl rfl rfl rfl rfl ?_
  refine Or.inl (Exists.intro _ (And.intro (longQ code more) ?_))
  refine And.intro (fun _ => ?_) (fun q0 => ?_)
  · refine fin [] (And.intro rfl ?_)
    exact trivial
  have q0' : (bif decide ((3000 : Int) < (code.length : Nat)) then true else decide ((3000 : Int) < (more.length : Nat))) = false := q0
  have hb1 : code.length ≤ 3000 ∧ more.length ≤ 3000 := by
    by_cases h1 : (3000 : Int) < (code.length : Nat)
    · rw [decide_eq_true h1] at q0'; cases q0'
    · rw [decide_eq_false h1] at q0'
      have := of_decide_eq_false q0'
      omega
  have hbc : Bytes code := ⟨by omega, hr⟩
  have hbm : Bytes more := ⟨by omega, hs⟩
  clear q0 q0'
  obtain ⟨c, hc, hcG⟩ := a2CoreG code hbc
  obtain ⟨g, hg, hgG⟩ := a2CoreG more hbm
  obtain ⟨a, ha1, ha2, haQ⟩ := atQ more hbm 0 9 (by decide) (by decide)
  obtain ⟨b, hb1', hb2, hbQ⟩ := atQ more hbm 1 9 (by decide) (by decide)
  obtain ⟨f, hf1, hf2, hfQ⟩ := atQ more hbm 2 3 (by decide) (by decide)
  have wab : IntKind.i64.wrap (a + b) = a + b := wrapI (by omega)
  refine Or.inr (Or.inr (Exists.intro _ (Exists.intro _ (And.intro hcG ?_))))
  refine Or.inl (Exists.intro _ (And.intro haQ ?_))
  refine Or.inl (Exists.intro _ (And.intro hbQ ?_))
  refine Or.inl (Exists.intro _ (And.intro hfQ ?_))
  refine Or.inr (Or.inr (Exists.intro _ (Exists.intro _ (And.intro (shiftCI c a f hc (by omega) (by omega) (by omega) (by omega)) ?_))))
  refine Or.inr (Or.inr (Exists.intro _ (Exists.intro _ (And.intro (by
    show FCallG _ _ [_, .int .i64 (IntKind.i64.wrap (a + b)), _] _ _ _
    rw [wab]
    exact shiftCI c (a + b) f hc (by omega) (by omega) (by omega) (by omega)) ?_))))
  refine And.intro (fun _ => ?_) (fun q1 => ?_)
  · refine Or.inr (Or.inr (Exists.intro _ (Exists.intro _ (And.intro (shiftCS c a f hc (by omega) (by omega) (by omega) (by omega)) ?_))))
    refine Or.inr (Or.inr (Exists.intro _ (Exists.intro _ (And.intro (by
      show FCallG _ _ [_, .int .i64 (IntKind.i64.wrap (a + b)), _] _ _ _
      rw [wab]
      exact shiftCS c (a + b) f hc (by omega) (by omega) (by omega) (by omega)) ?_))))
    refine fin [] (And.intro ?_ trivial)
    show (bif (shR a f c).2 == (shR a f c).2 then (shR (a + b) f c).2 == (shR (a + b) f c).2 else false) = true
    rw [beq_self_eq_true, beq_self_eq_true]; rfl
  have q1' : (bif (shR a f c).2 != 0 then true else (shR (a + b) f c).2 != 0) = false := q1
  obtain ⟨o1, o2⟩ : ((shR a f c).2 != 0) = false ∧ ((shR (a + b) f c).2 != 0) = false := by
    cases h1 : ((shR a f c).2 != 0) with
    | true => rw [h1] at q1'; cases q1'
    | false => rw [h1] at q1'; exact ⟨rfl, q1'⟩
  obtain ⟨e1, t1⟩ := shR_ok o1
  obtain ⟨e2, t2⟩ := shR_ok o2
  rw [e1, e2]
  have hx : okC (shT a c f) = true := okC_sh ha1 hc t1
  have hy : okC (shT (a + b) c f) = true := okC_sh (by omega) hc t2
  have e3 : shR b f (shT a c f) = (shT (a + b) c f, 0) := by
    unfold shR
    rw [shT_add a b ha1 c f, decide_eq_false (by omega)]; rfl
  have sx : sizT (shT a c f) ≤ 400 := (okC_iff.1 hx).2.2
  have sy : sizT (shT (a + b) c f) ≤ 400 := (okC_iff.1 hy).2.2
  have sc : sizT c ≤ 400 := (okC_iff.1 hc).2.2
  refine Or.inr (Or.inr (Exists.intro _ (Exists.intro _ (And.intro (by
    have h := shiftCI (shT a c f) b f hx (by omega) (by omega) (by omega) (by omega)
    rw [e3] at h
    exact h) ?_))))
  refine Or.inl (Exists.intro _ (And.intro (fun _ => sameCQ _ _ (by show sizT (shT (a + b) c f) ≤ _; omega)) ?_))
  refine Or.inl (Exists.intro _ (And.intro (fun _ => csizeQ _ (by show sizT (shT a c f) ≤ _; omega)) ?_))
  refine Or.inl (Exists.intro _ (And.intro (fun _ => csizeQ c (by omega)) ?_))
  refine And.intro (by kernel_rfl) ?_
  refine And.intro (fun q2 => ?_) (fun _ => ?_)
  · exfalso
    have q2' : (bif (bif ((0 : Int) != 0) then true else !sameT (shT (a + b) c f) (shT (a + b) c f)) then true else ((bif okC (shT a c f) then ((sizT (shT a c f) : Nat) : Int) else 0) != (bif okC c then ((sizT c : Nat) : Int) else 0))) = true := q2
    rw [sameT_refl, hx, hc, shT_siz] at q2'
    simp at q2'
  conv => whnf
  refine lp Nat (fun i => [(19, .int .i64 (i : Nat))]) (fun i => [.cel 9 27 (cSV (shT a c f)), .cel 5 27 (cSV c)]) (fun i => 4 - i) (fun i => i ≤ 4) 0 (by decide) ?_ ?_
  · exact hd [] rfl (And.intro ⟨rfl, rfl⟩ trivial) ⟨trivial, ⟨⟨rfl, rfl⟩, ⟨rfl, rfl⟩, rfl, rfl, trivial⟩, trivial, ⟨⟨rfl, rfl⟩, ⟨rfl, rfl⟩, rfl, rfl, trivial⟩, trivial⟩
  intro i hi
  refine And.intro (fun q3 => ?_) (fun q3 => ?_)
  · have hlt : i < 4 := by have : ((i : Nat) : Int) < 4 := of_decide_eq_true q3; omega
    have nxt : ∀ n1 n2 : Nat, n1 = n2 → (((n1 : Nat) : Int) != ((n2 : Nat) : Int)) = false := fun n1 n2 h => by rw [h]; simp
    refine And.intro (fun q4 => ?_) (fun q4 => ?_)
    · have h4 : f ≤ (i : Nat) := of_decide_eq_true q4
      have w1 : IntKind.i64.wrap (((i : Nat) : Int) + a) = (i : Nat) + a := wrapI (by omega)
      have w2 : IntKind.i64.wrap (f + a) = f + a := wrapI (by omega)
      have n1 := nxt _ _ (cnt_ge a ha1 c f (i : Nat) h4)
      conv => whnf
      refine Or.inl (Exists.intro _ (And.intro (by
        show QCall _ _ [_, .int .i64 (IntKind.i64.wrap (((i : Nat) : Int) + a))] _
        rw [w1]
        exact countV _ _ hx (by omega) (by omega)) ?_))
      refine Or.inl (Exists.intro _ (And.intro (countV c (i : Nat) hc (by omega) (by omega)) ?_))
      refine Or.inl (Exists.intro _ (And.intro (fun _ => countV _ (i : Nat) hx (by omega) (by omega)) ?_))
      refine And.intro (by kernel_rfl) ?_
      refine And.intro (fun q5 => ?_) (fun _ => ?_)
      · exfalso
        have q6 : (bif (((cntT (shT a c f) ((i : Nat) + a) : Nat) : Int) != ((cntT c (i : Nat) : Nat) : Int)) then true else (bif (bif decide (f ≤ (i : Nat)) then decide (((i : Nat) : Int) < IntKind.i64.wrap (f + a)) else false) then (((cntT (shT a c f) (i : Nat) : Nat) : Int) != 0) else false)) = true := q5
        rw [n1, q4, w2] at q6
        by_cases h5 : ((i : Nat) : Int) < f + a
        · rw [decide_eq_true h5, cnt_in a c f (i : Nat) h4 h5] at q6
          cases q6
        · rw [decide_eq_false h5] at q6
          cases q6
      conv => whnf
      refine lp_next (i + 1) hlt ?_ (by show 4 - (i + 1) < 4 - i; omega)
      exact Go.Tr.hd [] rfl (And.intro ⟨wrapI (by omega), rfl⟩ trivial) ⟨trivial, ⟨⟨rfl, rfl⟩, ⟨rfl, rfl⟩, rfl, rfl, trivial⟩, trivial, ⟨⟨rfl, rfl⟩, ⟨rfl, rfl⟩, rfl, rfl, trivial⟩, trivial⟩
    · have h4 : ¬ f ≤ (i : Nat) := of_decide_eq_false q4
      have n1 := nxt _ _ (cnt_lt a ha1 c f (i : Nat) (by omega))
      conv => whnf
      refine Or.inl (Exists.intro _ (And.intro (countV _ (i : Nat) hx (by omega) (by omega)) ?_))
      refine Or.inl (Exists.intro _ (And.intro (countV c (i : Nat) hc (by omega) (by omega)) ?_))
      refine Or.inl (Exists.intro _ (And.intro (fun _ => countV _ (i : Nat) hx (by omega) (by omega)) ?_))
      refine And.intro (by kernel_rfl) ?_
      refine And.intro (fun q5 => ?_) (fun _ => ?_)
      · exfalso
        have q6 : (bif (((cntT (shT a c f) (i : Nat) : Nat) : Int) != ((cntT c (i : Nat) : Nat) : Int)) then true else (bif (bif decide (f ≤ (i : Nat)) then decide (((i : Nat) : Int) < IntKind.i64.wrap (f + a)) else false) then (((cntT (shT a c f) (i : Nat) : Nat) : Int) != 0) else false)) = true := q5
        rw [n1, q4] at q6
        cases q6
      conv => whnf
      refine lp_next (i + 1) hlt ?_ (by show 4 - (i + 1) < 4 - i; omega)
      exact Go.Tr.hd [] rfl (And.intro ⟨wrapI (by omega), rfl⟩ trivial) ⟨trivial, ⟨⟨rfl, rfl⟩, ⟨rfl, rfl⟩, rfl, rfl, trivial⟩, trivial, ⟨⟨rfl, rfl⟩, ⟨rfl, rfl⟩, rfl, rfl, trivial⟩, trivial⟩
  refine Or.inr (Or.inr (Exists.intro _ (Exists.intro _ (And.intro (shiftCI c 1 0 hc (by omega) (by omega) (by omega) (by omega)) ?_))))
  refine And.intro (fun _ => ?_) (fun q5 => ?_)
  · refine Or.inr (Or.inr (Exists.intro _ (Exists.intro _ (And.intro (shiftCS c 1 0 hc (by omega) (by omega) (by omega) (by omega)) ?_))))
    refine fin [] (And.intro ?_ trivial)
    show ((shR 1 0 c).2 == (shR 1 0 c).2) = true
    rw [beq_self_eq_true]
  obtain ⟨e5, t5⟩ := shR_ok (b := 1) (f := 0) (c := c) q5
  rw [e5]
  have hu : okC (shT 1 c 0) = true := okC_sh (by omega) hc t5
  have e6 : inR (shT 1 c 0) g = (c, 0) := by
    obtain ⟨o1, o2, o3⟩ := okC_iff.1 hc
    unfold inR inst
    rw [inst_sh g c 0 o1, decide_eq_true o2, decide_eq_true o3, decide_eq_false (by have := okC_hi hc; omega)]; rfl
  conv => whnf
  refine Or.inr (Or.inr (Exists.intro _ (Exists.intro _ (And.intro hgG ?_))))
  refine Or.inr (Or.inr (Exists.intro _ (Exists.intro _ (And.intro (by
    have h := instCI (shT 1 c 0) g hu hg
    rw [e6] at h
    exact h) ?_))))
  refine And.intro (by kernel_rfl) ?_
  refine Or.inl (Exists.intro _ (And.intro (fun _ => sameCQ c c (by omega)) ?_))
  refine fin [] (And.intro ?_ trivial)
  show (bif ((0 : Int) == 0) then sameT c c else false) = true
  rw [sameT_refl]; rfl
theorem lawQ (code : List Int) (hr : ∀ x ∈ code, 0 ≤ x ∧ x ≤ 255) (more : List Int) (hs : ∀ x ∈ more, 0 ≤ x ∧ x ≤ 255) : QCall Try.prog 3 [.rsl uByte code, .rsl uByte more] (.bool true) := (shiftsG code more hr hs).q rfl
end Go.Proofs.Ytieemijapiiiiaa
