/- Core terms: the program's copies with other variables. -/
import Derived.Test.YtieemijapiiiiaaGreatOf
set_option linter.unusedSimpArgs false
set_option linter.unusedVariables false
namespace Go.Proofs.YtieemijapiiiiaaGreat
open Go Go.RowKit Go.Proofs Go.Tr
theorem okSh1 : callOk Tryz.prog 110 = true := by kernel_rfl
theorem sh1F (v : Cor) (a f b : Int) (h1 : 0 ≤ cVl v) (h2 : cVl v ≤ 255) (h3 : 0 ≤ a) (h4 : a ≤ 3000000) (h5 : 0 ≤ f) (h6 : f ≤ 3000000) (h7 : 0 ≤ b) (h8 : b ≤ 3000000) :
    FCall Tryz.prog 110 [.agg (cSV v), .int .i64 a, .rp (.int .i64) f, .rp (.int .i64) b] [] (.agg (cSV (shV b f v a))) [] := by
  refine FCall.intro (nt := 19) ti_ok mixed okSh1 Tryz.func110 rfl rfl rfl rfl rfl rfl ?_
  have e : IntKind.i64.wrap (a + f) = a + f := wrapI (by omega)
  refine And.intro (fun q => ?_) (fun q => ?_)
  · have q' : decide (IntKind.i64.wrap (a + f) ≤ cVl v) = true := q
    rw [e] at q'
    have e2 : IntKind.i64.wrap (cVl v + b) = cVl (shV b f v a) := by
      show _ = (bif decide (a + f ≤ cVl v) then cVl v + b else cVl v)
      rw [q']; exact wrapI (by omega)
    refine fin [] (And.intro ?_ trivial)
    show SV.agg [.int .i64 (cKd v), .int .i64 (IntKind.i64.wrap (cVl v + b)), .rsl (.int .i64) (cDt v), .rsl uCor v.kids] = SV.agg [.int .i64 (cKd v), .int .i64 (cVl (shV b f v a)), .rsl (.int .i64) (cDt v), .rsl uCor v.kids]
    rw [e2]
  · have q' : decide (IntKind.i64.wrap (a + f) ≤ cVl v) = false := q
    rw [e] at q'
    have e2 : cVl v = cVl (shV b f v a) := by
      show _ = (bif decide (a + f ≤ cVl v) then cVl v + b else cVl v)
      rw [q']; rfl
    refine fin [] (And.intro ?_ trivial)
    show SV.agg [.int .i64 (cKd v), .int .i64 (cVl v), .rsl (.int .i64) (cDt v), .rsl uCor v.kids] = SV.agg [.int .i64 (cKd v), .int .i64 (cVl (shV b f v a)), .rsl (.int .i64) (cDt v), .rsl uCor v.kids]
    rw [← e2]
theorem okMapV : callOk Tryz.prog 89 = true := by kernel_rfl
set_option maxRecDepth 100000 in
theorem mapSh (f b : Int) (h5 : 0 ≤ f) (h6 : f ≤ 3000000) (h7 : 0 ≤ b) (h8 : b ≤ 3000000) : ∀ (c : Cor) (a : Int), goodT c = true → sizT c ≤ 1000000 → 0 ≤ a → a + sizT c ≤ 3000000 → FCallG Tryz.prog 89 [.agg (cSV c), .int .i64 a, .fn 110 [.rp (.int .i64) f, .rp (.int .i64) b]] [] (.agg (cSV (mapT (shV b f) c a))) [] := by
  refine Tree.ind (fun c ih => ?_)
  intro a hg hb hf1 hf2
  have hl := sizT_len c
  have hdt := good_dt hg
  have hgi := (goodT_iff.1 hg).2
  cases hk : (cKd c == 1) with
  | true =>
    have hv := good_var hg hk
    rw [mapT_var hk]
    refine FCallG.intro (nt := 48) ti_ok mixed okMapV Tryz.func89 rfl rfl rfl rfl rfl rfl ?_
    refine And.intro (fun _ => ?_) (fun q => absurd (hk.symm.trans q) (by decide))
    refine Or.inr (Or.inr (Exists.intro _ (Exists.intro _ (And.intro ((sh1F c a f b hv.1 hv.2.1 hf1 (by omega) h5 h6 h7 h8).g) ?_))))
    refine fin [] (And.intro ?_ trivial)
    exact rfl
  | false =>
    rw [mapT_kids hk]
    refine FCallG.fz (ts1 := [.dat 10000 32 4 uCor (mapL (shV b f) (cKd c) c.kids 0 a)]) (r1 := .agg [.int .i64 (cKd c), .int .i64 (cVl c), .rsl (.int .i64) (cDt c), .sl 10000]) ?_ rfl
    refine FCallG.intro (nt := 48) ti_ok mixed okMapV Tryz.func89 rfl rfl rfl rfl rfl rfl ?_
    refine And.intro (fun q => absurd (hk.symm.trans q) (by decide)) (fun _ => ?_)
    refine Or.inr (Or.inr (Exists.intro _ (Exists.intro _ (And.intro (cloneIG (cDt c) (by omega)) ?_))))
    refine And.intro (by kernel_rfl) ?_
    refine lp Nat (fun i => [(28, .int .i64 (i : Nat))]) (fun i => [.cel 3 32 (cSV c), .cel 7 32 [.int .i64 (cKd c), .int .i64 (cVl c), .rsl (.int .i64) (cDt c), .sl 20000], .dat 20000 32 4 uCor (mapL (shV b f) (cKd c) (c.kids.take i) 0 a), .cel 6 32 [.int .i64 0, .int .i64 0, .raw (.slice none 0 0), .raw (.slice none 0 0)]]) (fun i => c.kids.length - i) (fun i => i ≤ c.kids.length) 0 (Nat.zero_le _) ?_ ?_
    · exact hdm [⟨4000007, 500000, 32, 4, uCor⟩] [(20000, 500000)] rfl (And.intro (And.intro ⟨rfl, rfl⟩ trivial) ⟨trivial, ⟨⟨rfl, rfl⟩, ⟨rfl, rfl⟩, rfl, rfl, trivial⟩, trivial, ⟨⟨rfl, rfl⟩, ⟨rfl, rfl⟩, rfl, rfl, trivial⟩, by simp [mapL], trivial, ⟨⟨rfl, rfl⟩, ⟨rfl, rfl⟩, rfl, rfl, trivial⟩, trivial⟩)
    intro i hi
    refine And.intro (fun q1 => ?_) (fun q1 => ?_)
    · have hlt : i < c.kids.length := by have : ((i : Nat) : Int) < (c.kids.length : Nat) := of_decide_eq_true q1; omega
      have hmem := eltM (d := dflt uCor) hlt
      have h1 := sizT_kid hmem
      have hbn := bindN_b (cKd c) (i : Nat)
      have h2 := mapL_take (shV b f) (cKd c) a c.kids 0 i hlt
      rw [Nat.zero_add] at h2
      refine And.intro (show (0 : Int) ≤ (i : Nat) ∧ ((i : Nat) : Int) < (c.kids.length : Nat) by omega) ?_
      refine Or.inl (Exists.intro _ (And.intro (bindsQ c (i : Nat)) ?_))
      refine Or.inr (Or.inr (Exists.intro _ (Exists.intro _ (And.intro (by
        show FCallG _ _ [_, .int .i64 (IntKind.i64.wrap (a + bindN (cKd c) (i : Nat))), _] _ _ _
        rw [wrapI (by omega)]
        exact ih _ hmem _ (hgi _ hmem) (Nat.le_trans (Nat.le_of_succ_le h1) hb) (by omega) (by show _ + ((sizT (elt (dflt uCor) c.kids ((i : Nat) : Int)) : Nat) : Int) ≤ _; omega)) ?_))))
      refine And.intro (by show (mapL (shV b f) (cKd c) (c.kids.take i) 0 a).length + 1 ≤ _; rw [mapL_len, List.length_take]; omega) ?_
      refine And.intro (by kernel_rfl) ?_
      refine lp_next (i + 1) hlt ?_ (by show c.kids.length - (i + 1) < c.kids.length - i; omega)
      refine Go.Tr.hd [(20000, 44)] rfl (And.intro ⟨wrapI (by omega), rfl⟩ trivial) ⟨trivial, ⟨⟨rfl, rfl⟩, ⟨rfl, rfl⟩, rfl, rfl, trivial⟩, trivial, ⟨⟨rfl, rfl⟩, ⟨rfl, rfl⟩, rfl, rfl, trivial⟩, ?_, trivial, ⟨⟨rfl, rfl⟩, ⟨rfl, rfl⟩, rfl, rfl, trivial⟩, trivial⟩
      rw [h2, ← node_eta (mapT (shV b f) (elt (dflt uCor) c.kids ((i : Nat) : Int)) (a + bindN (cKd c) (i : Nat)))]; rfl
    have hge : c.kids.length ≤ i := by have : ¬ ((i : Nat) : Int) < (c.kids.length : Nat) := of_decide_eq_false q1; omega
    refine fin [(10000, 20000)] (And.intro rfl ?_)
    exact ⟨by rw [List.take_of_length_le hge]; rfl, trivial⟩
theorem okShift : callOk Tryz.prog 91 = true := by kernel_rfl
theorem shiftG (c : Cor) (b f : Int) (hg : goodT c = true) (hb : sizT c ≤ 1000000) (hf1 : 0 ≤ f) (hf2 : f ≤ 3000000) (hb1 : 0 ≤ b) (hb2 : b ≤ 3000000) : FCallG Tryz.prog 91 [.agg (cSV c), .int .i64 b, .int .i64 f] [] (.agg (cSV (shT b c f))) [] := by
  have hm := mapSh f b hf1 hf2 hb1 hb2 c 0 hg hb (by decide) (by omega)
  rw [mapT_sh b f c 0 hg, Int.zero_add] at hm
  have h : FCallG Tryz.prog 89 [.agg (cSV c), .int .i64 0, .fn 110 [.ptr 10000 0, .ptr 10001 0]] [.cel 10000 2 [.int .i64 f], .cel 10001 2 [.int .i64 b]] (.agg (cSV (shT b c f))) [] := FCallG.frz (ti := ti) okMapV hm rfl
  refine FCallG.intro (nt := 10) ti_ok mixed okShift Tryz.func91 rfl rfl rfl rfl rfl rfl ?_
  refine Or.inr (Or.inr (Exists.intro _ (Exists.intro _ (And.intro h ?_))))
  refine fin [] (And.intro ?_ trivial)
  exact rfl
end Go.Proofs.YtieemijapiiiiaaGreat
