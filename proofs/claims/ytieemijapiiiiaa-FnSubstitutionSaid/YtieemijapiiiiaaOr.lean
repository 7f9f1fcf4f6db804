/- Substitution of core terms: the law, walked. -/
import Derived.Test.YtieemijapiiiiaaOq
import Derived.Test.YtieemijapiiiiaaOn
import Derived.Test.YtieemijapiiiiaaOo
set_option linter.unusedSimpArgs false
set_option linter.unusedVariables false
namespace Go.Proofs.Ytieemijapiiiiaa
open Go Go.RowKit Go.Proofs Go.Tr
theorem okA2C : callOk Try.prog 14 = true := by kernel_rfl
theorem a2C0 (k v : Int) : FCallG Try.prog 14 [.int .i64 k, .int .i64 v, .raw (.slice none 0 0)] [] (.agg (cSV (mkC k v [] []))) [] := by
  refine FCallG.fz (ts1 := []) (r1 := .agg [.int .i64 k, .int .i64 v, .raw (.slice none 0 0), .raw (.slice none 0 0)]) ?_ (Or.inr ⟨_, Or.inr ⟨_, rfl⟩⟩)
  refine FCallG.intro (nt := 11) ti_ok mixed okA2C Try.func14 rfl rfl rfl rfl rfl rfl ?_
  refine fin [] (And.intro ?_ trivial)
  exact rfl
theorem a2C1 (k v : Int) (l : List Cor) : FCallG Try.prog 14 [.int .i64 k, .int .i64 v, .rsl uCor l] [] (.agg (cSV (mkC k v [] l))) [] := by
  refine FCallG.fz (ts1 := []) (r1 := .agg [.int .i64 k, .int .i64 v, .raw (.slice none 0 0), .rsl uCor l]) ?_ (Or.inr ⟨_, rfl⟩)
  refine FCallG.intro (nt := 11) ti_ok mixed okA2C Try.func14 rfl rfl rfl rfl rfl rfl ?_
  refine fin [] (And.intro ?_ trivial)
  exact rfl
theorem conVar_ok {p x : Int} (h1 : 0 ≤ p) (h2 : p < 4) (h3 : 0 ≤ x) (h4 : x < 3) : okC (mkC 8 p [] [mkC 1 x [] []]) = true := by
  have hp : p = 0 ∨ p = 1 ∨ p = 2 ∨ p = 3 := by omega
  have hx : x = 0 ∨ x = 1 ∨ x = 2 := by omega
  rcases hp with rfl | rfl | rfl | rfl <;> rcases hx with rfl | rfl | rfl <;> decide
theorem okSubst : callOk Try.prog 4 = true := by kernel_rfl
set_option maxHeartbeats 4000000 in
set_option maxRecDepth 100000 in
theorem substG (code more : List Int) (hr : ∀ x ∈ code, 0 ≤ x ∧ x ≤ 255) (hs : ∀ x ∈ more, 0 ≤ x ∧ x ≤ 255) : FCallG Try.prog 4 [.rsl uByte code, .rsl uByte more] [] (.bool true) [] := by
  refine FCallG.intro (nt := 149) ti_ok mixed okSubst Try.func4 rfl rfl rfl rfl rfl rfl ?_
  refine Or.inl (Exists.intro _ (And.intro (longQ code more) ?_))
  refine And.intro (fun _ => ?_) (fun q0 => ?_)
  · refine fin [] (And.intro rfl ?_)
    exact trivial
  have q0' : (bif decide ((3000 : Int) < (code.length : Nat)) then true else decide ((3000 : Int) < (more.length : Nat))) = false := q0
  have hb1 : code.length ≤ 3000 ∧ more.length ≤ 3000 := by
    by_cases h1 : (3000 : Int) < (code.length : Nat)
    · rw [decide_eq_true h1] at q0'; cases q0'
    · rw [decide_eq_false h1] at q0'
      have := of_decide_eq_false q0'
      omega
  have hbc : Bytes code := ⟨by omega, hr⟩
  have hbm : Bytes more := ⟨by omega, hs⟩
  clear q0 q0'
  obtain ⟨b, hb, hbG⟩ := a2CoreG code hbc
  obtain ⟨a, ha, haG⟩ := a2CoreG more hbm
  obtain ⟨p, hp1, hp2, hpQ⟩ := atQ more hbm 1 4 (by decide) (by decide)
  obtain ⟨x, hx1, hx2, hxQ⟩ := atQ code hbc 2 3 (by decide) (by decide)
  have hd := conVar_ok hp1 hp2 hx1 hx2
  have sb : sizT b ≤ 400 := (okC_iff.1 hb).2.2
  have sa : sizT a ≤ 400 := (okC_iff.1 ha).2.2
  have sd : sizT (mkC 8 p [] [mkC 1 x [] []]) ≤ 400 := (okC_iff.1 hd).2.2
  have sl : sizT (mkC 4 0 [] [b]) ≤ 401 := by rw [sizT_node]; simp [sizL]; omega
  refine Or.inr (Or.inr (Exists.intro _ (Exists.intro _ (And.intro hbG ?_))))
  refine Or.inr (Or.inr (Exists.intro _ (Exists.intro _ (And.intro haG ?_))))
  refine Or.inl (Exists.intro _ (And.intro hpQ ?_))
  refine Or.inl (Exists.intro _ (And.intro hxQ ?_))
  refine Or.inr (Or.inr (Exists.intro _ (Exists.intro _ (And.intro (a2C0 1 x) ?_))))
  obtain ⟨d, ed⟩ : ∃ d : Cor, d = mkC 8 p [] [mkC 1 x [] []] := ⟨_, rfl⟩
  have hdG : FCallG Try.prog 14 [.int .i64 8, .int .i64 p, .rsl uCor [.node (cKd (mkC 1 x [] []), cVl (mkC 1 x [] []), cDt (mkC 1 x [] [])) (mkC 1 x [] []).kids]] [] (.agg (cSV d)) [] := by rw [ed]; exact a2C1 8 p _
  rw [← ed] at hd sd
  refine Or.inr (Or.inr (Exists.intro _ (Exists.intro _ (And.intro hdG ?_))))
  have hlG : FCallG Try.prog 14 [.int .i64 4, .int .i64 0, .rsl uCor [.node (cKd b, cVl b, cDt b) b.kids]] [] (.agg (cSV (mkC 4 0 [] [b]))) [] := by
    rw [node_eta]; exact a2C1 4 0 [b]
  refine Or.inr (Or.inr (Exists.intro _ (Exists.intro _ (And.intro (instGI b a (by omega) (by omega)) ?_))))
  refine Or.inr (Or.inr (Exists.intro _ (Exists.intro _ (And.intro (instGI (instR b a).1 d (instR_siz b a) (by omega)) ?_))))
  conv => whnf
  refine Or.inr (Or.inr (Exists.intro _ (Exists.intro _ (And.intro hlG ?_))))
  refine Or.inr (Or.inr (Exists.intro _ (Exists.intro _ (And.intro (instGI (mkC 4 0 [] [b]) d (by omega) (by omega)) ?_))))
  refine And.intro (by kernel_rfl) ?_
  refine Or.inr (Or.inr (Exists.intro _ (Exists.intro _ (And.intro (instGI a d (by omega) (by omega)) ?_))))
  refine And.intro (fun _ => ?_) (fun q1 => ?_)
  · refine Or.inr (Or.inr (Exists.intro _ (Exists.intro _ (And.intro (instGS b a) ?_))))
    conv => whnf
    refine Or.inr (Or.inr (Exists.intro _ (Exists.intro _ (And.intro hlG ?_))))
    refine Or.inr (Or.inr (Exists.intro _ (Exists.intro _ (And.intro (instGS (mkC 4 0 [] [b]) d) ?_))))
    refine And.intro (by kernel_rfl) ?_
    refine Or.inr (Or.inr (Exists.intro _ (Exists.intro _ (And.intro (instGS a d) ?_))))
    refine fin [] (And.intro ?_ trivial)
    show (bif (bif (instR b a).2 == (instR b a).2 then (instR (mkC 4 0 [] [b]) d).2 == (instR (mkC 4 0 [] [b]) d).2 else false) then (instR a d).2 == (instR a d).2 else false) = true
    rw [beq_self_eq_true, beq_self_eq_true, beq_self_eq_true]; rfl
  have q1' : (bif (bif (bif (instR b a).2 != 0 then true else (instR (instR b a).1 d).2 != 0) then true else (instR (mkC 4 0 [] [b]) d).2 != 0) then true else (instR a d).2 != 0) = false := q1
  obtain ⟨o1, o2, o3, o4⟩ : ((instR b a).2 != 0) = false ∧ ((instR (instR b a).1 d).2 != 0) = false ∧ ((instR (mkC 4 0 [] [b]) d).2 != 0) = false ∧ ((instR a d).2 != 0) = false := by
    revert q1'
    cases ((instR b a).2 != 0) <;> cases ((instR (instR b a).1 d).2 != 0) <;> cases ((instR (mkC 4 0 [] [b]) d).2 != 0) <;> cases ((instR a d).2 != 0) <;> simp
  obtain ⟨_, _, e1, k1⟩ := instR_ok o1
  rw [e1] at o2
  obtain ⟨_, _, e2, k2⟩ := instR_ok (c := inst b a) o2
  obtain ⟨_, _, e3, k3⟩ := instR_ok o3
  obtain ⟨_, _, e4, k4⟩ := instR_ok o4
  rw [e1]
  rw [show instR ((inst b a, (0 : Int)).1) d = (inst (inst b a) d, 0) from e2, e3, e4]
  have hgb := (okC_iff.1 hb).1
  have hga := (okC_iff.1 ha).1
  have hgd := (okC_iff.1 hd).1
  have e5 : inst (mkC 4 0 [] [b]) d = mkC 4 0 [] [mapT (inV d) b 1] := by
    unfold inst
    rw [mapT_kids (c := mkC 4 0 [] [b]) rfl]; rfl
  have k5 : okC (mapT (inV d) b 1) = true := by
    rw [e5] at k3
    obtain ⟨m1, m2, m3⟩ := okC_iff.1 k3
    refine okC_iff.2 ⟨(goodT_iff.1 m1).2 _ (by show _ ∈ [mapT (inV d) b 1]; simp), ?_, ?_⟩
    · have := (depT_iff.1 m2).2 (mapT (inV d) b 1) (by show _ ∈ [mapT (inV d) b 1]; simp); omega
    · have := sizT_kid (t := mkC 4 0 [] [mapT (inV d) b 1]) (k := mapT (inV d) b 1) (by show _ ∈ [mapT (inV d) b 1]; simp); omega
  have e6 : inst (mapT (inV d) b 1) (inst a d) = inst (inst b a) d := by
    have := in_in a d hga hgd 0 (by omega) b 0 hgb (by omega)
    exact this.symm
  have e7 : instR (mapT (inV d) b 1) (inst a d) = (inst (inst b a) d, 0) := by
    have m := e2
    unfold instR at m ⊢
    rw [k1, hd] at m
    rw [k5, k4]
    simp only [Bool.and_self, cond_true] at m ⊢
    unfold inR at m ⊢
    rw [e6]; exact m
  rw [e5]
  have s1 : sizT (inst b a) ≤ 400 := (okC_iff.1 k1).2.2
  have s2 : sizT (inst (inst b a) d) ≤ 400 := (okC_iff.1 k2).2.2
  have s4 : sizT (inst a d) ≤ 400 := (okC_iff.1 k4).2.2
  have s5 : sizT (mapT (inV d) b 1) ≤ 400 := (okC_iff.1 k5).2.2
  refine And.intro (fun q2 => ?_) (fun _ => ?_)
  · exfalso
    have q2' : ((1 : Int) != 1) = true := q2
    cases q2'
  conv => whnf
  refine And.intro ⟨by decide, by show (0 : Int) < (1 : Int); decide⟩ ?_
  refine Or.inr (Or.inr (Exists.intro _ (Exists.intro _ (And.intro (by
    show FCallG _ _ [.agg (cSV (mapT (inV d) b 1)), .agg (cSV (inst a d))] _ _ _
    have h := instGI (mapT (inV d) b 1) (inst a d) (by omega) (by omega)
    rw [e7] at h
    exact h) ?_))))
  refine And.intro (by kernel_rfl) ?_
  refine Or.inl (Exists.intro _ (And.intro (countV b 0 hb (by decide) (by decide)) ?_))
  conv => whnf
  refine Or.inl (Exists.intro _ (And.intro (csizeQ b (by omega)) ?_))
  refine Or.inl (Exists.intro _ (And.intro (csizeQ a (by omega)) ?_))
  refine And.intro (by kernel_rfl) ?_
  refine Or.inl (Exists.intro _ (And.intro (fun _ => sameCQ (inst (inst b a) d) (inst (inst b a) d) (by omega)) ?_))
  refine Or.inl (Exists.intro _ (And.intro (fun _ => csizeQ (inst b a) (by omega)) ?_))
  refine fin [] (And.intro ?_ trivial)
  have hsz := in_siz a b 0 hgb
  have hcn := cntT_le b 0
  have hs1 : 1 ≤ sizT a := by have := sizT_len a; omega
  have hmul : cntT b 0 * sizT a ≤ 400 * 400 := Nat.mul_le_mul (by omega) sa
  have hw : IntKind.i64.wrap (((sizT b : Nat) : Int) + IntKind.i64.wrap (((cntT b 0 : Nat) : Int) * IntKind.i64.wrap (((sizT a : Nat) : Int) - 1))) = ((sizT (inst b a) : Nat) : Int) := by
    have e1 : ((cntT b 0 : Nat) : Int) * (((sizT a : Nat) : Int) - 1) = ((cntT b 0 * sizT a : Nat) : Int) - ((cntT b 0 : Nat) : Int) := by rw [Int.mul_sub, Int.mul_one]; rfl
    rw [wrapI (x := ((sizT a : Nat) : Int) - 1) (by omega), e1, wrapI (x := ((cntT b 0 * sizT a : Nat) : Int) - ((cntT b 0 : Nat) : Int)) (by omega), wrapI (by omega)]
    unfold inst
    omega
  show (bif (bif ((0 : Int) == 0) then sameT (inst (inst b a) d) (inst (inst b a) d) else false) then ((bif okC (inst b a) then ((sizT (inst b a) : Nat) : Int) else 0) == IntKind.i64.wrap ((bif okC b then ((sizT b : Nat) : Int) else 0) + IntKind.i64.wrap (((cntT b 0 : Nat) : Int) * IntKind.i64.wrap ((bif okC a then ((sizT a : Nat) : Int) else 0) - 1)))) else false) = true
  rw [k1, hb, ha, sameT_refl]
  simp only [cond_true, beq_self_eq_true]
  rw [hw, beq_self_eq_true]
theorem lawSQ (code : List Int) (hr : ∀ x ∈ code, 0 ≤ x ∧ x ≤ 255) (more : List Int) (hs : ∀ x ∈ more, 0 ≤ x ∧ x ≤ 255) : QCall Try.prog 4 [.rsl uByte code, .rsl uByte more] (.bool true) := (substG code more hr hs).q rfl
end Go.Proofs.Ytieemijapiiiiaa
