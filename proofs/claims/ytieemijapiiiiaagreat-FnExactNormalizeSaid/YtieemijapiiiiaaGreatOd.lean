/- Core terms: the program's measures. -/
import Derived.Test.YtieemijapiiiiaaGreatOc
set_option linter.unusedSimpArgs false
set_option linter.unusedVariables false
namespace Go.Proofs.YtieemijapiiiiaaGreat
open Go Go.RowKit Go.Proofs Go.Tr
theorem okCShape : callOk Tryz.prog 49 = true := by kernel_rfl
theorem cshapeQ : ∀ (c : Cor), sizT c ≤ 2000000 → QCall Tryz.prog 49 [.agg (cSV c)] (.tup [.int .i64 (shapeR c).1, .int .i64 (shapeR c).2.1, .bool (shapeR c).2.2]) := by
  refine Tree.ind (fun c ih => ?_)
  intro hb
  have hl := sizT_len c
  have hk := sizT_kids c
  have hgi := @goodT_iff c
  refine QCall.intro (nt := 38) ti_ok mixed okCShape Tryz.func49 rfl rfl rfl rfl rfl ?_
  refine Or.inl (Exists.intro _ (And.intro (vcnQ c) ?_))
  refine And.intro (fun q => ?_) (fun q => ?_)
  · have q' : (!nodeOk c) = true := q
    have e : goodT c = false := by
      cases h : goodT c with
      | false => rfl
      | true => rw [(hgi.1 h).1] at q'; cases q'
    conv => whnf
    rw [shapeR_bad e]
  have hnode : nodeOk c = true := by
    have q' : (!nodeOk c) = false := q
    simpa using q'
  refine lp Nat (fun i => [(2, .int .i64 (depL (c.kids.take i) 1 : Nat)), (3, .int .i64 (sizL (c.kids.take i) 1 : Nat)), (16, .int .i64 (i : Nat))]) (fun _ => []) (fun i => c.kids.length - i) (fun i => i ≤ c.kids.length ∧ ∀ k ∈ c.kids.take i, goodT k = true) 0 ⟨Nat.zero_le _, by simp⟩ ?_ ?_
  · exact Go.Tr.hd [] rfl (And.intro ⟨by simp [depL], rfl⟩ (And.intro ⟨by simp [sizL], rfl⟩ (And.intro ⟨rfl, rfl⟩ trivial))) trivial
  rintro i ⟨hi, hall⟩
  refine And.intro (fun q1 => ?_) (fun q1 => ?_)
  · have hlt : i < c.kids.length := by have : ((i : Nat) : Int) < (c.kids.length : Nat) := of_decide_eq_true q1; omega
    have hmem := eltM (d := dflt uCor) hlt
    have h1 := sizL_take hlt
    have h2 := sizL_pre c.kids (i + 1)
    have h3 := depL_take hlt
    have h4 := depL_pre c.kids (i + 1)
    have h5 := depT_le c
    have h6 := depT_kids c
    refine And.intro (show (0 : Int) ≤ (i : Nat) ∧ ((i : Nat) : Int) < (c.kids.length : Nat) by omega) ?_
    refine Or.inl (Exists.intro _ (And.intro (ih _ hmem (by omega)) ?_))
    refine And.intro (fun q2 => ?_) (fun q2 => ?_)
    · have q2' : (!(shapeR (elt (dflt uCor) c.kids ((i : Nat) : Int))).2.2) = true := q2
      have e : goodT c = false := by
        cases h : goodT c with
        | false => rfl
        | true => rw [shapeR_ok ((hgi.1 h).2 _ hmem)] at q2'; cases q2'
      conv => whnf
      rw [shapeR_bad e]
    · have q2' : (!(shapeR (elt (dflt uCor) c.kids ((i : Nat) : Int))).2.2) = false := q2
      have e : goodT (elt (dflt uCor) c.kids ((i : Nat) : Int)) = true := by
        cases h : goodT (elt (dflt uCor) c.kids ((i : Nat) : Int)) with
        | true => rfl
        | false => rw [shapeR_bad h] at q2'; cases q2'
      refine lp_next (i + 1) ⟨hlt, fun x hx => ?_⟩ ?_ (by show c.kids.length - (i + 1) < c.kids.length - i; omega)
      · rw [takeE (d := dflt uCor) hlt] at hx
        rcases List.mem_append.1 hx with hx | hx
        · exact hall x hx
        · rw [List.mem_singleton.1 hx]; exact e
      refine Go.Tr.hd [] rfl (And.intro ⟨?_, rfl⟩ (And.intro ⟨?_, rfl⟩ (And.intro ⟨wrapI (by omega), rfl⟩ trivial))) trivial
      · show max ((depL (c.kids.take i) 1 : Nat) : Int) (IntKind.i64.wrap ((shapeR (elt (dflt uCor) c.kids ((i : Nat) : Int))).1 + 1)) = _
        rw [shapeR_ok e]
        show max ((depL (c.kids.take i) 1 : Nat) : Int) (IntKind.i64.wrap ((depT (elt (dflt uCor) c.kids ((i : Nat) : Int)) : Int) + 1)) = _
        rw [wrapI (by omega), h3]; omega
      · show IntKind.i64.wrap ((sizL (c.kids.take i) 1 : Nat) + (shapeR (elt (dflt uCor) c.kids ((i : Nat) : Int))).2.1) = _
        rw [shapeR_ok e]
        show IntKind.i64.wrap ((sizL (c.kids.take i) 1 : Nat) + (sizT (elt (dflt uCor) c.kids ((i : Nat) : Int)) : Int)) = _
        rw [wrapI (by omega), h1]; omega
  have hge : c.kids.length ≤ i := by have : ¬ ((i : Nat) : Int) < (c.kids.length : Nat) := of_decide_eq_false q1; omega
  have e : goodT c = true := hgi.2 ⟨hnode, fun k hk => hall k (by rw [List.take_of_length_le hge]; exact hk)⟩
  conv => whnf
  rw [shapeR_ok e, List.take_of_length_le hge, depT_kids, sizT_kids]
theorem okExt : callOk Tryz.prog 73 = true := by kernel_rfl
theorem extQ : ∀ (c : Cor), sizT c ≤ 2000000 → QCall Tryz.prog 73 [.agg (cSV c)] (.tup [.int .i64 (depT c : Nat), .int .i64 (sizT c : Nat)]) := by
  refine Tree.ind (fun c ih => ?_)
  intro hb
  have hl := sizT_len c
  have hk := sizT_kids c
  refine QCall.intro (nt := 30) ti_ok mixed okExt Tryz.func73 rfl rfl rfl rfl rfl ?_
  refine lp Nat (fun i => [(2, .int .i64 (depL (c.kids.take i) 1 : Nat)), (3, .int .i64 (sizL (c.kids.take i) 1 : Nat)), (11, .int .i64 (i : Nat))]) (fun _ => []) (fun i => c.kids.length - i) (fun i => i ≤ c.kids.length) 0 (Nat.zero_le _) ?_ ?_
  · exact Go.Tr.hd [] rfl (And.intro ⟨by simp [depL], rfl⟩ (And.intro ⟨by simp [sizL], rfl⟩ (And.intro ⟨rfl, rfl⟩ trivial))) trivial
  intro i hi
  refine And.intro (fun q1 => ?_) (fun q1 => ?_)
  · have hlt : i < c.kids.length := by have : ((i : Nat) : Int) < (c.kids.length : Nat) := of_decide_eq_true q1; omega
    have hmem := eltM (d := dflt uCor) hlt
    have h1 := sizL_take hlt
    have h2 := sizL_pre c.kids (i + 1)
    have h3 := depL_take hlt
    have h4 := depL_pre c.kids (i + 1)
    have h5 := depT_le c
    have h6 := depT_kids c
    refine And.intro (show (0 : Int) ≤ (i : Nat) ∧ ((i : Nat) : Int) < (c.kids.length : Nat) by omega) ?_
    refine Or.inl (Exists.intro _ (And.intro (ih _ hmem (by omega)) ?_))
    refine lp_next (i + 1) hlt ?_ (by show c.kids.length - (i + 1) < c.kids.length - i; omega)
    refine Go.Tr.hd [] rfl (And.intro ⟨?_, rfl⟩ (And.intro ⟨?_, rfl⟩ (And.intro ⟨wrapI (by omega), rfl⟩ trivial))) trivial
    · show max ((depL (c.kids.take i) 1 : Nat) : Int) (IntKind.i64.wrap ((depT (elt (dflt uCor) c.kids ((i : Nat) : Int)) : Nat) + 1)) = _
      rw [wrapI (by omega), h3]; omega
    · show IntKind.i64.wrap ((sizL (c.kids.take i) 1 : Nat) + (sizT (elt (dflt uCor) c.kids ((i : Nat) : Int)) : Nat)) = _
      rw [wrapI (by omega), h1]; omega
  have hge : c.kids.length ≤ i := by have : ¬ ((i : Nat) : Int) < (c.kids.length : Nat) := of_decide_eq_false q1; omega
  conv => whnf
  rw [List.take_of_length_le hge, depT_kids, sizT_kids]
theorem okFits : callOk Tryz.prog 50 = true := by kernel_rfl
def fitC (c : Cor) : Bool := decide (depT c ≤ 80) && decide (sizT c ≤ 400)
theorem fitQ (c : Cor) (hb : sizT c ≤ 2000000) : QCall Tryz.prog 50 [.agg (cSV c)] (.bool (fitC c)) := by
  refine QCall.intro (nt := 16) ti_ok mixed okFits Tryz.func50 rfl rfl rfl rfl rfl ?_
  refine Or.inl (Exists.intro _ (And.intro (extQ c hb) ?_))
  show (bif decide (((depT c : Nat) : Int) ≤ 80) then decide (((sizT c : Nat) : Int) ≤ 400) else false) = fitC c
  unfold fitC
  rw [show decide (((depT c : Nat) : Int) ≤ 80) = decide (depT c ≤ 80) from decide_eq_decide.2 (by omega), show decide (((sizT c : Nat) : Int) ≤ 400) = decide (sizT c ≤ 400) from decide_eq_decide.2 (by omega)]
  cases decide (depT c ≤ 80) <;> rfl
theorem okVC : callOk Tryz.prog 30 = true := by kernel_rfl
theorem validQ (c : Cor) (hb : sizT c ≤ 2000000) : QCall Tryz.prog 30 [.agg (cSV c)] (.bool (okC c)) := by
  refine QCall.intro (nt := 17) ti_ok mixed okVC Tryz.func30 rfl rfl rfl rfl rfl ?_
  refine Or.inl (Exists.intro _ (And.intro (cshapeQ c hb) ?_))
  refine Or.inl (Exists.intro _ (And.intro (fun _ => fitQ c hb) ?_))
  show (bif (shapeR c).2.2 then fitC c else false) = okC c
  unfold okC shapeR fitC
  cases goodT c <;> rfl
theorem okTruth : callOk Tryz.prog 71 = true := by kernel_rfl
theorem truthQ (b : Bool) : QCall Tryz.prog 71 [.bool b] (.int .i64 (bif b then 1 else 0)) := by
  refine QCall.intro (nt := 4) ti_ok mixed okTruth Tryz.func71 rfl rfl rfl rfl rfl ?_
  refine And.intro (fun q => ?_) (fun q => ?_)
  · exact ⟨by rw [show b = true from q]; rfl, rfl⟩
  · exact ⟨by rw [show b = false from q]; rfl, rfl⟩
theorem bind_bif (k i : Int) : (bif (bif k == 4 then true else (bif k == 7 then i == 1 else false)) then (1 : Int) else 0) = bindN k i := by
  unfold bindN; cases (k == 4) <;> cases (k == 7) <;> cases (i == 1) <;> rfl
theorem okBinds : callOk Tryz.prog 108 = true := by kernel_rfl
theorem bindsQ (c : Cor) (i : Int) : QCall Tryz.prog 108 [.agg (cSV c), .int .i64 i] (.int .i64 (bindN (cKd c) i)) := by
  refine QCall.intro (nt := 18) ti_ok mixed okBinds Tryz.func108 rfl rfl rfl rfl rfl ?_
  refine Or.inl (Exists.intro _ (And.intro (truthQ _) ?_))
  exact ⟨bind_bif _ _, rfl⟩
theorem okBindsS : callOk Tryz.prog 59 = true := by kernel_rfl
theorem bindsS (c : Cor) (i : Int) : QCall Tryz.prog 59 [.rp uCor c, .int .i64 i] (.int .i64 (bindN (cKd c) i)) := by
  refine QCall.intro (nt := 21) ti_ok mixed okBindsS Tryz.func59 rfl rfl rfl rfl rfl ?_
  refine And.intro (fun q => ?_) (fun q => ?_)
  · exact ⟨by rw [← bind_bif, show (bif cKd c == 4 then true else (bif cKd c == 7 then i == 1 else false)) = true from q]; rfl, rfl⟩
  · exact ⟨by rw [← bind_bif, show (bif cKd c == 4 then true else (bif cKd c == 7 then i == 1 else false)) = false from q]; rfl, rfl⟩
end Go.Proofs.YtieemijapiiiiaaGreat
