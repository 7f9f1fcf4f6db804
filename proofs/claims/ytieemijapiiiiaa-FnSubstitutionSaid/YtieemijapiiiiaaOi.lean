/- Core terms: ShiftCore of both sides. -/
import Derived.Test.YtieemijapiiiiaaOh
set_option linter.unusedSimpArgs false
set_option linter.unusedVariables false
namespace Go.Proofs.Ytieemijapiiiiaa
open Go Go.RowKit Go.Proofs Go.Tr
theorem okShC : callOk Try.prog 8 = true := by kernel_rfl
theorem okShCS : callOk Try.prog 9 = true := by kernel_rfl
/-- What a shift of a valid term within the limits gives. -/
def shR (b f : Int) (c : Cor) : Cor × Int := bif decide (255 < hiT (shT b c f)) then (zeroC, 2) else (shT b c f, 0)
theorem shiftCI (c : Cor) (b f : Int) (hc : okC c = true) (hb1 : 0 ≤ b) (hb2 : b ≤ 64) (hf1 : 0 ≤ f) (hf2 : f ≤ 255) : FCallG Try.prog 8 [.agg (cSV c), .int .i64 b, .int .i64 f] [] (.tup [.agg (cSV (shR b f c).1), .int .i64 (shR b f c).2]) [] := by
  obtain ⟨hg, hd, hs⟩ := okC_iff.1 hc
  have hso : sizT (shT b c f) ≤ 1000000 := by rw [shT_siz]; omega
  have hlim : ∀ q : (bif (bif (bif decide (b < 0) then true else decide (64 < b)) then true else decide (f < 0)) then true else decide (255 < f)) = true, False := fun q => by
    rw [decide_eq_false (by omega), decide_eq_false (by omega), decide_eq_false (by omega), decide_eq_false (by omega)] at q
    cases q
  cases hh : decide (255 < hiT (shT b c f)) with
  | true =>
    rw [show shR b f c = (zeroC, 2) by unfold shR; rw [hh]; rfl]
    refine FCallG.fz (ts1 := []) (r1 := .tup [.agg [.int .i64 0, .int .i64 0, .raw (.slice none 0 0), .raw (.slice none 0 0)], .int .i64 2]) ?_ (Or.inr ⟨_, Or.inr ⟨_, rfl⟩⟩)
    refine FCallG.intro (nt := 37) ti_ok mixed okShC Try.func8 rfl rfl rfl rfl rfl rfl ?_
    refine Or.inl (Exists.intro _ (And.intro (validQ c (by omega)) ?_))
    refine And.intro (fun q => by rw [hc] at q; cases q) (fun _ => ?_)
    refine And.intro (fun q => (hlim q).elim) (fun _ => ?_)
    refine Or.inr (Or.inr (Exists.intro _ (Exists.intro _ (And.intro (shiftG c b f hg (by omega) hf1 (by omega) hb1 (by omega)) ?_))))
    refine Or.inl (Exists.intro _ (And.intro (indQ (shT b c f) hso) ?_))
    refine And.intro (fun _ => ?_) (fun q => by rw [hh] at q; cases q)
    refine fin [] (And.intro ?_ trivial)
    exact rfl
  | false =>
    rw [show shR b f c = (shT b c f, 0) by unfold shR; rw [hh]; rfl]
    refine FCallG.intro (nt := 37) ti_ok mixed okShC Try.func8 rfl rfl rfl rfl rfl rfl ?_
    refine Or.inl (Exists.intro _ (And.intro (validQ c (by omega)) ?_))
    refine And.intro (fun q => by rw [hc] at q; cases q) (fun _ => ?_)
    refine And.intro (fun q => (hlim q).elim) (fun _ => ?_)
    refine Or.inr (Or.inr (Exists.intro _ (Exists.intro _ (And.intro (shiftG c b f hg (by omega) hf1 (by omega) hb1 (by omega)) ?_))))
    refine Or.inl (Exists.intro _ (And.intro (indQ (shT b c f) hso) ?_))
    refine And.intro (fun q => by rw [hh] at q; cases q) (fun _ => ?_)
    refine fin [] (And.intro ?_ trivial)
    exact rfl
theorem shiftCS (c : Cor) (b f : Int) (hc : okC c = true) (hb1 : 0 ≤ b) (hb2 : b ≤ 64) (hf1 : 0 ≤ f) (hf2 : f ≤ 255) : FCallG Try.prog 9 [.agg (cSV c), .int .i64 b, .int .i64 f] [] (.tup [.agg (cSV (shR b f c).1), .int .i64 (shR b f c).2]) [] := by
  obtain ⟨hg, hd, hs⟩ := okC_iff.1 hc
  have hso : sizT (shT b c f) ≤ 1000000 := by rw [shT_siz]; omega
  have hi : ∀ {x lo hi : Int}, lo ≤ x → x ≤ hi → inC x lo hi = true := fun h1 h2 => inC_iff.2 ⟨h1, h2⟩
  have hlim : ∀ q : (bif !inC b 0 64 then true else !inC f 0 255) = true, False := fun q => by
    rw [hi hb1 hb2, hi hf1 hf2] at q
    cases q
  have hsh : FCallG Try.prog 26 [.ptr 10000 0, .int .i64 b, .int .i64 f] [.cel 10000 27 (cSV c)] (.agg (cSV (shT b c f))) [] := FCallG.frz (ti := ti) okShS (by
    show FCallG _ _ [.rp uCor (.node (cKd c, cVl c, cDt c) (Tree.kids c)), .int .i64 b, .int .i64 f] _ _ _
    rw [node_eta]
    exact shG b hb1 (by omega) c f hg (by omega) hf1 (by omega)) rfl
  cases hh : decide (255 < hiT (shT b c f)) with
  | true =>
    rw [show shR b f c = (zeroC, 2) by unfold shR; rw [hh]; rfl]
    refine FCallG.fz (ts1 := []) (r1 := .tup [.agg [.int .i64 0, .int .i64 0, .raw (.slice none 0 0), .raw (.slice none 0 0)], .int .i64 2]) ?_ (Or.inr ⟨_, Or.inr ⟨_, rfl⟩⟩)
    refine FCallG.intro (nt := 28) ti_ok mixed okShCS Try.func9 rfl rfl rfl rfl rfl rfl ?_
    refine Or.inr (Or.inl (Exists.intro _ (Exists.intro _ (And.intro (okCF c) ?_))))
    refine And.intro (fun q => by rw [hc] at q; cases q) (fun _ => ?_)
    refine Or.inl (Exists.intro _ (And.intro (inCQ _ _ _) ?_))
    refine Or.inl (Exists.intro _ (And.intro (fun _ => inCQ _ _ _) ?_))
    refine And.intro (fun q => (hlim q).elim) (fun _ => ?_)
    refine Or.inr (Or.inr (Exists.intro _ (Exists.intro _ (And.intro hsh ?_))))
    refine Or.inr (Or.inl (Exists.intro _ (Exists.intro _ (And.intro (hiF (shT b c f) hso) ?_))))
    refine And.intro (fun _ => ?_) (fun q => by rw [hh] at q; cases q)
    refine fin [] (And.intro ?_ trivial)
    exact rfl
  | false =>
    rw [show shR b f c = (shT b c f, 0) by unfold shR; rw [hh]; rfl]
    refine FCallG.intro (nt := 28) ti_ok mixed okShCS Try.func9 rfl rfl rfl rfl rfl rfl ?_
    refine Or.inr (Or.inl (Exists.intro _ (Exists.intro _ (And.intro (okCF c) ?_))))
    refine And.intro (fun q => by rw [hc] at q; cases q) (fun _ => ?_)
    refine Or.inl (Exists.intro _ (And.intro (inCQ _ _ _) ?_))
    refine Or.inl (Exists.intro _ (And.intro (fun _ => inCQ _ _ _) ?_))
    refine And.intro (fun q => (hlim q).elim) (fun _ => ?_)
    refine Or.inr (Or.inr (Exists.intro _ (Exists.intro _ (And.intro hsh ?_))))
    refine Or.inr (Or.inl (Exists.intro _ (Exists.intro _ (And.intro (hiF (shT b c f) hso) ?_))))
    refine And.intro (fun q => by rw [hh] at q; cases q) (fun _ => ?_)
    refine fin [] (And.intro ?_ trivial)
    exact rfl
end Go.Proofs.Ytieemijapiiiiaa
