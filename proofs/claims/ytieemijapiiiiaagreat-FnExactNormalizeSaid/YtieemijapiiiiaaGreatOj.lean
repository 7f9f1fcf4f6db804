/- Core terms: instantiation by the program. -/
import Derived.Test.YtieemijapiiiiaaGreatOi
set_option linter.unusedSimpArgs false
set_option linter.unusedVariables false
namespace Go.Proofs.YtieemijapiiiiaaGreat
open Go Go.RowKit Go.Proofs Go.Tr
theorem okIn1 : callOk Tryz.prog 90 = true := by kernel_rfl
theorem in1G (arg v : Cor) (a : Int) (hg : goodT arg = true) (hb : sizT arg ≤ 1000000) (h1 : 0 ≤ cVl v) (h2 : cVl v ≤ 255) (h3 : 0 ≤ a) (h4 : a ≤ 2000000) :
    FCallG Tryz.prog 90 [.agg (cSV v), .int .i64 a, .rp uCor arg] [] (.agg (cSV (inV arg v a))) [] := by
  refine FCallG.intro (nt := 24) ti_ok mixed okIn1 Tryz.func90 rfl rfl rfl rfl rfl rfl ?_
  refine And.intro (fun q => ?_) (fun q => ?_)
  · refine Or.inr (Or.inr (Exists.intro _ (Exists.intro _ (And.intro (shiftG arg a 0 hg hb (by decide) (by decide) h3 (by omega)) ?_))))
    refine fin [] (And.intro ?_ trivial)
    have e : inV arg v a = shT a arg 0 := by unfold inV; rw [show (cVl v == a) = true from q]; rfl
    show SV.agg (cSV (shT a arg 0)) = SV.agg (cSV (inV arg v a))
    rw [e]
  have e : inV arg v a = .node (cKd v, (bif decide (a < cVl v) then cVl v - 1 else cVl v), cDt v) v.kids := by unfold inV; rw [show (cVl v == a) = false from q]; rfl
  rw [e]
  refine And.intro (fun q2 => ?_) (fun q2 => ?_)
  · refine fin [] (And.intro ?_ trivial)
    show SV.agg [.int .i64 (cKd v), .int .i64 (IntKind.i64.wrap (cVl v - 1)), .rsl (.int .i64) (cDt v), .rsl uCor v.kids] = SV.agg [.int .i64 (cKd v), .int .i64 (bif decide (a < cVl v) then cVl v - 1 else cVl v), .rsl (.int .i64) (cDt v), .rsl uCor v.kids]
    rw [show decide (a < cVl v) = true from q2, wrapI (by omega)]; rfl
  · refine fin [] (And.intro ?_ trivial)
    show SV.agg [.int .i64 (cKd v), .int .i64 (cVl v), .rsl (.int .i64) (cDt v), .rsl uCor v.kids] = SV.agg [.int .i64 (cKd v), .int .i64 (bif decide (a < cVl v) then cVl v - 1 else cVl v), .rsl (.int .i64) (cDt v), .rsl uCor v.kids]
    rw [show decide (a < cVl v) = false from q2]; rfl
set_option maxRecDepth 100000 in
theorem mapIn (arg : Cor) (ha : goodT arg = true) (hab : sizT arg ≤ 1000000) : ∀ (c : Cor) (a : Int), goodT c = true → sizT c ≤ 1000000 → 0 ≤ a → a + sizT c ≤ 2000000 → FCallG Tryz.prog 89 [.agg (cSV c), .int .i64 a, .fn 90 [.rp uCor arg]] [] (.agg (cSV (mapT (inV arg) c a))) [] := by
  refine Tree.ind (fun c ih => ?_)
  intro a hg hb hf1 hf2
  have hl := sizT_len c
  have hdt := good_dt hg
  have hgi := (goodT_iff.1 hg).2
  cases hk : (cKd c == 1) with
  | true =>
    have hv := good_var hg hk
    rw [mapT_var hk]
    refine FCallG.intro (nt := 48) ti_ok mixed okMapV Tryz.func89 rfl rfl rfl rfl rfl rfl ?_
    refine And.intro (fun _ => ?_) (fun q => absurd (hk.symm.trans q) (by decide))
    refine Or.inr (Or.inr (Exists.intro _ (Exists.intro _ (And.intro (in1G arg c a ha hab hv.1 hv.2.1 hf1 (by omega)) ?_))))
    refine fin [] (And.intro ?_ trivial)
    exact rfl
  | false =>
    rw [mapT_kids hk]
    refine FCallG.fz (ts1 := [.dat 10000 32 4 uCor (mapL (inV arg) (cKd c) c.kids 0 a)]) (r1 := .agg [.int .i64 (cKd c), .int .i64 (cVl c), .rsl (.int .i64) (cDt c), .sl 10000]) ?_ rfl
    refine FCallG.intro (nt := 48) ti_ok mixed okMapV Tryz.func89 rfl rfl rfl rfl rfl rfl ?_
    refine And.intro (fun q => absurd (hk.symm.trans q) (by decide)) (fun _ => ?_)
    refine Or.inr (Or.inr (Exists.intro _ (Exists.intro _ (And.intro (cloneIG (cDt c) (by omega)) ?_))))
    refine And.intro (by kernel_rfl) ?_
    refine lp Nat (fun i => [(28, .int .i64 (i : Nat))]) (fun i => [.cel 3 32 (cSV c), .cel 7 32 [.int .i64 (cKd c), .int .i64 (cVl c), .rsl (.int .i64) (cDt c), .sl 20000], .dat 20000 32 4 uCor (mapL (inV arg) (cKd c) (c.kids.take i) 0 a), .cel 6 32 [.int .i64 0, .int .i64 0, .raw (.slice none 0 0), .raw (.slice none 0 0)]]) (fun i => c.kids.length - i) (fun i => i ≤ c.kids.length) 0 (Nat.zero_le _) ?_ ?_
    · exact hdm [⟨4000007, 500000, 32, 4, uCor⟩] [(20000, 500000)] rfl (And.intro (And.intro ⟨rfl, rfl⟩ trivial) ⟨trivial, ⟨⟨rfl, rfl⟩, ⟨rfl, rfl⟩, rfl, rfl, trivial⟩, trivial, ⟨⟨rfl, rfl⟩, ⟨rfl, rfl⟩, rfl, rfl, trivial⟩, by simp [mapL], trivial, ⟨⟨rfl, rfl⟩, ⟨rfl, rfl⟩, rfl, rfl, trivial⟩, trivial⟩)
    intro i hi
    refine And.intro (fun q1 => ?_) (fun q1 => ?_)
    · have hlt : i < c.kids.length := by have : ((i : Nat) : Int) < (c.kids.length : Nat) := of_decide_eq_true q1; omega
      have hmem := eltM (d := dflt uCor) hlt
      have h1 := sizT_kid hmem
      have hbn := bindN_b (cKd c) (i : Nat)
      have h2 := mapL_take (inV arg) (cKd c) a c.kids 0 i hlt
      rw [Nat.zero_add] at h2
      refine And.intro (show (0 : Int) ≤ (i : Nat) ∧ ((i : Nat) : Int) < (c.kids.length : Nat) by omega) ?_
      refine Or.inl (Exists.intro _ (And.intro (bindsQ c (i : Nat)) ?_))
      refine Or.inr (Or.inr (Exists.intro _ (Exists.intro _ (And.intro (by
        show FCallG _ _ [_, .int .i64 (IntKind.i64.wrap (a + bindN (cKd c) (i : Nat))), _] _ _ _
        rw [wrapI (by omega)]
        exact ih _ hmem _ (hgi _ hmem) (Nat.le_trans (Nat.le_of_succ_le h1) hb) (by omega) (by show _ + ((sizT (elt (dflt uCor) c.kids ((i : Nat) : Int)) : Nat) : Int) ≤ _; omega)) ?_))))
      refine And.intro (by show (mapL (inV arg) (cKd c) (c.kids.take i) 0 a).length + 1 ≤ _; rw [mapL_len, List.length_take]; omega) ?_
      refine And.intro (by kernel_rfl) ?_
      refine lp_next (i + 1) hlt ?_ (by show c.kids.length - (i + 1) < c.kids.length - i; omega)
      refine Go.Tr.hd [(20000, 44)] rfl (And.intro ⟨wrapI (by omega), rfl⟩ trivial) ⟨trivial, ⟨⟨rfl, rfl⟩, ⟨rfl, rfl⟩, rfl, rfl, trivial⟩, trivial, ⟨⟨rfl, rfl⟩, ⟨rfl, rfl⟩, rfl, rfl, trivial⟩, ?_, trivial, ⟨⟨rfl, rfl⟩, ⟨rfl, rfl⟩, rfl, rfl, trivial⟩, trivial⟩
      rw [h2, ← node_eta (mapT (inV arg) (elt (dflt uCor) c.kids ((i : Nat) : Int)) (a + bindN (cKd c) (i : Nat)))]; rfl
    have hge : c.kids.length ≤ i := by have : ¬ ((i : Nat) : Int) < (c.kids.length : Nat) := of_decide_eq_false q1; omega
    refine fin [(10000, 20000)] (And.intro rfl ?_)
    exact ⟨by rw [List.take_of_length_le hge]; rfl, trivial⟩
theorem okInst : callOk Tryz.prog 66 = true := by kernel_rfl
theorem instG (c arg : Cor) (hg : goodT c = true) (hb : sizT c ≤ 1000000) (ha : goodT arg = true) (hab : sizT arg ≤ 1000000) : FCallG Tryz.prog 66 [.agg (cSV c), .agg (cSV arg)] [] (.agg (cSV (inst c arg))) [] := by
  have hm := mapIn arg ha hab c 0 hg hb (by decide) (by omega)
  have h : FCallG Tryz.prog 89 [.agg (cSV c), .int .i64 0, .fn 90 [.ptr 10000 0]] [.cel 10000 32 (cSV arg)] (.agg (cSV (inst c arg))) [] := FCallG.frz (ti := ti) okMapV (by
    show FCallG _ _ [_, _, .fn _ [.rp uCor (.node (cKd arg, cVl arg, cDt arg) (Tree.kids arg))]] _ _ _
    rw [node_eta]
    exact hm) rfl
  refine FCallG.intro (nt := 8) ti_ok mixed okInst Tryz.func66 rfl rfl rfl rfl rfl rfl ?_
  refine Or.inr (Or.inr (Exists.intro _ (Exists.intro _ (And.intro h ?_))))
  refine fin [] (And.intro ?_ trivial)
  exact rfl
end Go.Proofs.YtieemijapiiiiaaGreat
