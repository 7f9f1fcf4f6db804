/- Core terms: counts, greatest indices, equality. -/
import Derived.Test.YtieemijapiiiiaaGreatOd
set_option linter.unusedSimpArgs false
set_option linter.unusedVariables false
namespace Go.Proofs.YtieemijapiiiiaaGreat
open Go Go.RowKit Go.Proofs Go.Tr
theorem okMaxC : callOk Tryz.prog 80 = true := by kernel_rfl
theorem maxCQ (a b : Int) : QCall Tryz.prog 80 [.int .i64 a, .int .i64 b] (.int .i64 (max a b)) := by
  refine QCall.intro (nt := 10) ti_ok mixed okMaxC Tryz.func80 rfl rfl rfl rfl rfl ?_
  refine And.intro (fun q => ?_) (fun q => ?_)
  · exact ⟨by have : b < a := of_decide_eq_true q; omega, rfl⟩
  · exact ⟨by have : ¬ b < a := of_decide_eq_false q; omega, rfl⟩
theorem okHi : callOk Tryz.prog 102 = true := by kernel_rfl
theorem hiQ : ∀ (c : Cor), sizT c ≤ 1000000 → QCall Tryz.prog 102 [.rp uCor c] (.int .i64 (hiT c)) := by
  refine Tree.ind (fun c ih => ?_)
  intro hb
  have hl := sizT_len c
  refine QCall.intro (nt := 33) ti_ok mixed okHi Tryz.func102 rfl rfl rfl rfl rfl ?_
  have key : ∀ a : Int, a = (bif cKd c == 1 then cVl c else -1) → ∀ i : Nat, i ≤ c.kids.length → hiT c = hiL (c.kids.drop i) (hiL (c.kids.take i) a) := fun a ha i hi => by
    rw [hiT_kids, ← ha]
    have := hiL_app (c.kids.take i) (c.kids.drop i) a
    rw [List.take_append_drop] at this
    exact this
  refine And.intro (fun q => ?_) (fun q => ?_)
  all_goals
    first
    | (refine lp Nat (fun i => [(3, .int .i64 (hiL (c.kids.take i) (cVl c))), (4, .int .i64 (i : Nat))]) (fun _ => []) (fun i => c.kids.length - i) (fun i => i ≤ c.kids.length ∧ (cKd c == 1) = true) 0 ⟨Nat.zero_le _, q⟩ ?_ ?_; exact Go.Tr.hd [] rfl (And.intro ⟨by simp [hiL], rfl⟩ (And.intro ⟨rfl, rfl⟩ trivial)) trivial)
    | (refine lp Nat (fun i => [(3, .int .i64 (hiL (c.kids.take i) (-1))), (4, .int .i64 (i : Nat))]) (fun _ => []) (fun i => c.kids.length - i) (fun i => i ≤ c.kids.length ∧ (cKd c == 1) = false) 0 ⟨Nat.zero_le _, q⟩ ?_ ?_; exact Go.Tr.hd [] rfl (And.intro ⟨by simp [hiL], rfl⟩ (And.intro ⟨rfl, rfl⟩ trivial)) trivial)
  all_goals
    rintro i ⟨hi, hq⟩
    refine And.intro (fun q1 => ?_) (fun q1 => ?_)
    · have hlt : i < c.kids.length := by have : ((i : Nat) : Int) < (c.kids.length : Nat) := of_decide_eq_true q1; omega
      have hmem := eltM (d := dflt uCor) hlt
      have h1 := sizT_kid hmem
      refine And.intro (show (0 : Int) ≤ (i : Nat) ∧ ((i : Nat) : Int) < (c.kids.length : Nat) by omega) ?_
      refine Or.inl (Exists.intro _ (And.intro (ih _ hmem (Nat.le_trans (Nat.le_of_succ_le h1) hb)) ?_))
      refine Or.inl (Exists.intro _ (And.intro (maxCQ _ _) ?_))
      refine lp_next (i + 1) ⟨hlt, hq⟩ ?_ (by show c.kids.length - (i + 1) < c.kids.length - i; omega)
      exact Go.Tr.hd [] rfl (And.intro ⟨(hiL_take _ hlt).symm, rfl⟩ (And.intro ⟨wrapI (by omega), rfl⟩ trivial)) trivial
    · have hge : c.kids.length ≤ i := by have : ¬ ((i : Nat) : Int) < (c.kids.length : Nat) := of_decide_eq_false q1; omega
      exact ⟨by rw [List.take_of_length_le hge, hiT_kids, hq]; rfl, rfl⟩
theorem hiF (c : Cor) (hb : sizT c ≤ 1000000) : FCall Tryz.prog 102 [.ptr 10000 0] [.cel 10000 32 (cSV c)] (.int .i64 (hiT c)) [.cel 10000 32 (cSV c)] :=
  FCall.of_q ti_ok [52] okHi (by
    show QCall _ _ [.rp uCor (.node (cKd c, cVl c, cDt c) (Tree.kids c))] _
    rw [node_eta]
    exact hiQ c hb) rfl
end Go.Proofs.YtieemijapiiiiaaGreat
