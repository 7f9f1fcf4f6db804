/- Core terms: instantiation by the reference. -/
import Derived.Test.YtieemijapiiiiaaGreatOj
import Derived.Test.YtieemijapiiiiaaGreatOp
import Derived.Test.YtieemijapiiiiaaGreatOe
import Derived.Test.YtieemijapiiiiaaGreatWc
set_option linter.unusedSimpArgs false
set_option linter.unusedVariables false
namespace Go.Proofs.YtieemijapiiiiaaGreat
open Go Go.RowKit Go.Proofs Go.Tr
theorem okCntS : callOk Tryz.prog 100 = true := by kernel_rfl
set_option maxRecDepth 100000 in
theorem cntS : ∀ (c : Cor) (n : Int), sizT c ≤ 1000000 → -1000000 ≤ n → n + sizT c ≤ 3000000 → QCall Tryz.prog 100 [.rp uCor c, .int .i64 n] (.int .i64 (cntT c n : Nat)) := by
  refine Tree.ind (fun c ih => ?_)
  intro n hb hn1 hn2
  have hl := sizT_len c
  have hk := sizT_kids c
  refine QCall.intro (nt := 42) ti_ok mixed okCntS Tryz.func100 rfl rfl rfl rfl rfl ?_
  refine And.intro (fun q => ?_) (fun q => ?_)
  · refine And.intro (fun q2 => ?_) (fun q2 => ?_)
    · exact ⟨by rw [cntT_var q, show (cVl c == n) = true from q2]; rfl, rfl⟩
    · exact ⟨by rw [cntT_var q, show (cVl c == n) = false from q2]; rfl, rfl⟩
  refine lp Nat (fun i => [(5, .int .i64 (cntL (cKd c) (c.kids.take i) 0 n : Nat)), (6, .int .i64 (i : Nat))]) (fun _ => []) (fun i => c.kids.length - i) (fun i => i ≤ c.kids.length) 0 (Nat.zero_le _) ?_ ?_
  · exact Go.Tr.hd [] rfl (And.intro ⟨by simp [cntL], rfl⟩ (And.intro ⟨rfl, rfl⟩ trivial)) trivial
  intro i hi
  refine And.intro (fun q1 => ?_) (fun q1 => ?_)
  · have hlt : i < c.kids.length := by have : ((i : Nat) : Int) < (c.kids.length : Nat) := of_decide_eq_true q1; omega
    have hmem := eltM (d := dflt uCor) hlt
    have h1 := sizT_kid hmem
    have hbn := bindN_b (cKd c) (i : Nat)
    have h2 := cntL_take (cKd c) n c.kids 0 i hlt
    have h3 := cntL_pre (cKd c) c.kids n (i + 1)
    rw [Nat.zero_add] at h2
    refine And.intro (show (0 : Int) ≤ (i : Nat) ∧ ((i : Nat) : Int) < (c.kids.length : Nat) by omega) ?_
    refine Or.inl (Exists.intro _ (And.intro (bindsS c (i : Nat)) ?_))
    refine Or.inl (Exists.intro _ (And.intro (by
      show QCall _ _ [_, .int .i64 (IntKind.i64.wrap (n + bindN (cKd c) (i : Nat)))] _
      rw [wrapI (by omega)]
      exact ih _ hmem _ (by omega) (by omega) (by omega)) ?_))
    refine And.intro (by kernel_rfl) ?_
    refine lp_next (i + 1) hlt ?_ (by show c.kids.length - (i + 1) < c.kids.length - i; omega)
    refine Go.Tr.hd [] rfl (And.intro ⟨?_, rfl⟩ (And.intro ⟨wrapI (by omega), rfl⟩ trivial)) trivial
    show IntKind.i64.wrap ((cntL (cKd c) (c.kids.take i) 0 n : Nat) + (cntT (elt (dflt uCor) c.kids ((i : Nat) : Int)) (n + bindN (cKd c) (i : Nat)) : Nat)) = _
    rw [wrapI (by omega), h2]; omega
  have hge : c.kids.length ≤ i := by have : ¬ ((i : Nat) : Int) < (c.kids.length : Nat) := of_decide_eq_false q1; omega
  exact ⟨by rw [List.take_of_length_le hge, cntT_kids q], rfl⟩
theorem okDepS : callOk Tryz.prog 57 = true := by kernel_rfl
theorem depS : ∀ c : Cor, sizT c ≤ 1000000 → QCall Tryz.prog 57 [.rp uCor c] (.int .i64 (depT c : Nat)) := by
  refine Tree.ind (fun c ih => ?_)
  intro hb
  have hl := sizT_len c
  have hk := depT_kids c
  have hd := depT_le c
  refine QCall.intro (nt := 25) ti_ok mixed okDepS Tryz.func57 rfl rfl rfl rfl rfl ?_
  refine lp Nat (fun i => [(3, .int .i64 ((depL (c.kids.take i) 1 : Nat) - 1)), (4, .int .i64 (i : Nat))]) (fun _ => []) (fun i => c.kids.length - i) (fun i => i ≤ c.kids.length) 0 (Nat.zero_le _) ?_ ?_
  · exact Go.Tr.hd [] rfl (And.intro ⟨by simp [depL], rfl⟩ (And.intro ⟨rfl, rfl⟩ trivial)) trivial
  intro i hi
  refine And.intro (fun q1 => ?_) (fun q1 => ?_)
  · have hlt : i < c.kids.length := by have : ((i : Nat) : Int) < (c.kids.length : Nat) := of_decide_eq_true q1; omega
    have hmem := eltM (d := dflt uCor) hlt
    have h1 := sizT_kid hmem
    have h2 := depL_take hlt
    refine And.intro (show (0 : Int) ≤ (i : Nat) ∧ ((i : Nat) : Int) < (c.kids.length : Nat) by omega) ?_
    refine Or.inl (Exists.intro _ (And.intro (ih _ hmem (Nat.le_trans (Nat.le_of_succ_le h1) hb)) ?_))
    refine Or.inl (Exists.intro _ (And.intro (maxCQ _ _) ?_))
    refine lp_next (i + 1) hlt ?_ (by show c.kids.length - (i + 1) < c.kids.length - i; omega)
    refine Go.Tr.hd [] rfl (And.intro ⟨?_, rfl⟩ (And.intro ⟨wrapI (by omega), rfl⟩ trivial)) trivial
    show max (((depL (c.kids.take i) 1 : Nat) : Int) - 1) ((depT (elt (dflt uCor) c.kids ((i : Nat) : Int)) : Nat) : Int) = _
    rw [h2]; omega
  have hge : c.kids.length ≤ i := by have : ¬ ((i : Nat) : Int) < (c.kids.length : Nat) := of_decide_eq_false q1; omega
  refine ⟨?_, rfl⟩
  show IntKind.i64.wrap (((depL (c.kids.take i) 1 : Nat) : Int) - 1 + 1) = _
  rw [List.take_of_length_le hge, ← hk, wrapI (by omega)]; omega
theorem depF (c : Cor) (hb : sizT c ≤ 1000000) : FCall Tryz.prog 57 [.ptr 10000 0] [.cel 10000 32 (cSV c)] (.int .i64 (depT c : Nat)) [.cel 10000 32 (cSV c)] :=
  FCall.of_q ti_ok [52] okDepS (by
    show QCall _ _ [.rp uCor (.node (cKd c, cVl c, cDt c) (Tree.kids c))] _
    rw [node_eta]
    exact depS c hb) rfl
theorem okPut : callOk Tryz.prog 101 = true := by kernel_rfl
set_option maxHeartbeats 1000000 in
set_option maxRecDepth 100000 in
theorem putG (arg : Cor) (ha : goodT arg = true) (hab : sizT arg ≤ 1000) : ∀ (c : Cor) (a : Int), goodT c = true → sizT c ≤ 1000 → 0 ≤ a → a + sizT c ≤ 1000 → FCallG Tryz.prog 101 [.rp uCor c, .rp uCor arg, .int .i64 a] [] (.agg (cSV (mapT (inV arg) c a))) [] := by
  refine Tree.ind (fun c ih => ?_)
  intro a hg hb ha1 ha2
  have hl := sizT_len c
  have hdt := good_dt hg
  have hgi := (goodT_iff.1 hg).2
  cases hk : (cKd c == 1) with
  | true =>
    have hv := good_var hg hk
    rw [mapT_var hk]
    cases he : (cVl c == a) with
    | true =>
      rw [show inV arg c a = shT a arg 0 by unfold inV; rw [he]; rfl]
      refine FCallG.intro (nt := 82) ti_ok mixed okPut Tryz.func101 rfl rfl rfl rfl rfl rfl ?_
      refine And.intro (fun _ => ?_) (fun q => by rw [hk] at q; cases q)
      refine And.intro (fun _ => ?_) (fun q => by rw [he] at q; cases q)
      refine Or.inr (Or.inr (Exists.intro _ (Exists.intro _ (And.intro (shG a ha1 (by omega) arg 0 ha (by omega) (by decide) (by omega)) ?_))))
      refine fin [] (And.intro rfl ?_)
      exact trivial
    | false =>
      rw [show inV arg c a = .node (cKd c, (bif decide (a < cVl c) then cVl c - 1 else cVl c), cDt c) c.kids by unfold inV; rw [he]; rfl, hv.2.2.1, hv.2.2.2, eq_of_beq hk]
      refine FCallG.fz (ts1 := []) (r1 := .agg [.int .i64 1, .int .i64 (bif decide (a < cVl c) then cVl c - 1 else cVl c), .raw (.slice none 0 0), .raw (.slice none 0 0)]) ?_ (Or.inr ⟨_, Or.inr ⟨_, rfl⟩⟩)
      refine FCallG.intro (nt := 82) ti_ok mixed okPut Tryz.func101 rfl rfl rfl rfl rfl rfl ?_
      refine And.intro (fun _ => ?_) (fun q => by rw [hk] at q; cases q)
      refine And.intro (fun q => by rw [he] at q; cases q) (fun _ => ?_)
      refine And.intro (fun q => ?_) (fun q => ?_)
      · rw [show decide (a < cVl c) = true from q]
        refine fin [] (And.intro ?_ trivial)
        show SV.agg [.int .i64 1, .int .i64 (IntKind.i64.wrap (cVl c - 1)), .raw (.slice none 0 0), .raw (.slice none 0 0)] = SV.agg [.int .i64 1, .int .i64 (cVl c - 1), .raw (.slice none 0 0), .raw (.slice none 0 0)]
        rw [wrapI (by omega)]
      · rw [show decide (a < cVl c) = false from q]
        refine fin [] (And.intro ?_ trivial)
        exact rfl
  | false =>
    rw [mapT_kids hk]
    refine FCallG.fz (ts1 := [.dat 10000 32 4 uCor (mapL (inV arg) (cKd c) c.kids 0 a)]) (r1 := .agg [.int .i64 (cKd c), .int .i64 (cVl c), .rsl (.int .i64) (cDt c), .sl 10000]) ?_ rfl
    refine FCallG.intro (nt := 82) ti_ok mixed okPut Tryz.func101 rfl rfl rfl rfl rfl rfl ?_
    refine And.intro (fun q => by rw [hk] at q; cases q) (fun _ => ?_)
    refine Or.inr (Or.inr (Exists.intro _ (Exists.intro _ (And.intro (ownIG (cDt c) (by omega)) ?_))))
    refine And.intro (by kernel_rfl) ?_
    conv => whnf
    refine lp Nat (fun i => [(9, .int .i64 (i : Nat))]) (fun i => [.cel 8 32 [.int .i64 (cKd c), .int .i64 (cVl c), .rsl (.int .i64) (cDt c), .sl 20000], .dat 20000 32 4 uCor (mapL (inV arg) (cKd c) (c.kids.take i) 0 a), .cel 6 32 [.int .i64 0, .int .i64 0, .raw (.slice none 0 0), .raw (.slice none 0 0)]]) (fun i => c.kids.length - i) (fun i => i ≤ c.kids.length) 0 (Nat.zero_le _) ?_ ?_
    · exact hdm [⟨4000008, 500000, 32, 4, uCor⟩] [(20000, 500000)] rfl (And.intro (And.intro ⟨rfl, rfl⟩ trivial) ⟨trivial, ⟨⟨rfl, rfl⟩, ⟨rfl, rfl⟩, rfl, rfl, trivial⟩, by simp [mapL], trivial, ⟨⟨rfl, rfl⟩, ⟨rfl, rfl⟩, rfl, rfl, trivial⟩, trivial⟩)
    intro i hi
    refine And.intro (fun q1 => ?_) (fun q1 => ?_)
    · have hlt : i < c.kids.length := by have : ((i : Nat) : Int) < (c.kids.length : Nat) := of_decide_eq_true q1; omega
      have hmem := eltM (d := dflt uCor) hlt
      have h1 := sizT_kid hmem
      have hbn := bindN_b (cKd c) (i : Nat)
      have h2 := mapL_take (inV arg) (cKd c) a c.kids 0 i hlt
      rw [Nat.zero_add] at h2
      refine And.intro (show (0 : Int) ≤ (i : Nat) ∧ ((i : Nat) : Int) < (c.kids.length : Nat) by omega) ?_
      conv => whnf
      refine Or.inl (Exists.intro _ (And.intro (bindsS c (i : Nat)) ?_))
      refine Or.inr (Or.inr (Exists.intro _ (Exists.intro _ (And.intro (by
        show FCallG _ _ [_, _, .int .i64 (IntKind.i64.wrap (a + bindN (cKd c) (i : Nat)))] _ _ _
        rw [wrapI (by omega)]
        exact ih _ hmem _ (hgi _ hmem) (Nat.le_trans (Nat.le_of_succ_le h1) hb) (by omega) (by show _ + ((sizT (elt (dflt uCor) c.kids ((i : Nat) : Int)) : Nat) : Int) ≤ _; omega)) ?_))))
      refine And.intro (by show (mapL (inV arg) (cKd c) (c.kids.take i) 0 a).length + 1 ≤ _; rw [mapL_len, List.length_take]; omega) ?_
      refine And.intro (by kernel_rfl) ?_
      refine lp_next (i + 1) hlt ?_ (by show c.kids.length - (i + 1) < c.kids.length - i; omega)
      refine Go.Tr.hd [(20000, 79)] rfl (And.intro ⟨wrapI (by omega), rfl⟩ trivial) ⟨trivial, ⟨⟨rfl, rfl⟩, ⟨rfl, rfl⟩, rfl, rfl, trivial⟩, ?_, trivial, ⟨⟨rfl, rfl⟩, ⟨rfl, rfl⟩, rfl, rfl, trivial⟩, trivial⟩
      rw [h2, ← node_eta (mapT (inV arg) (elt (dflt uCor) c.kids ((i : Nat) : Int)) (a + bindN (cKd c) (i : Nat)))]; rfl
    have hge : c.kids.length ≤ i := by have : ¬ ((i : Nat) : Int) < (c.kids.length : Nat) := of_decide_eq_false q1; omega
    refine fin [(10000, 20000)] (And.intro rfl ?_)
    exact ⟨by rw [List.take_of_length_le hge]; rfl, trivial⟩
/-- What an instantiation gives. -/
def instR (c arg : Cor) : Cor × Int := bif okC c && okC arg then inR c arg else (zeroC, 1)
theorem instR_ok {c arg : Cor} (h : ((instR c arg).2 != 0) = false) : okC c = true ∧ okC arg = true ∧ instR c arg = (inst c arg, 0) ∧ okC (inst c arg) = true := by
  unfold instR at h ⊢
  cases h1 : okC c with
  | false => rw [h1] at h; cases h
  | true =>
    cases h2 : okC arg with
    | false => rw [h1, h2] at h; cases h
    | true =>
      rw [h1, h2] at h
      simp only [Bool.and_self, cond_true] at h ⊢
      unfold inR at h ⊢
      cases h3 : (decide (depT (inst c arg) ≤ 80) && decide (sizT (inst c arg) ≤ 400)) with
      | false => rw [h3] at h; cases h
      | true =>
        rw [h3] at h
        simp only [Bool.not_true, cond_false] at h ⊢
        by_cases h4 : 255 < hiT (inst c arg)
        · rw [decide_eq_true h4] at h; cases h
        · rw [decide_eq_false h4]
          refine ⟨trivial, trivial, rfl, ?_⟩
          rw [Bool.and_eq_true] at h3
          exact okC_iff.2 ⟨good_in arg (okC_iff.1 h2).1 c 0 (by omega) (okC_iff.1 h1).1 (by show hiT (inst c arg) ≤ 255; omega), of_decide_eq_true h3.1, of_decide_eq_true h3.2⟩
theorem okInstS : callOk Tryz.prog 75 = true := by kernel_rfl
theorem instS (c arg : Cor) (hc : okC c = true) (ha : okC arg = true) : FCallG Tryz.prog 75 [.rp uCor c, .rp uCor arg] [] (.tup [.agg (cSV (inR c arg).1), .int .i64 (inR c arg).2]) [] := by
  obtain ⟨hg, hd, hs⟩ := okC_iff.1 hc
  obtain ⟨hga, hda, hsa⟩ := okC_iff.1 ha
  have hso := inst_siz hc ha
  have hsz := in_siz arg c 0 hg
  have hcn := cntT_le c 0
  have hs1 : 1 ≤ sizT arg := by have := sizT_len arg; omega
  have n1 : nodesV c 80 400 = sizT c := nodesV_ok hg (by omega) (by omega)
  have n2 : nodesV arg 80 400 = sizT arg := nodesV_ok hga (by omega) (by omega)
  have hmul : cntT c 0 * sizT arg ≤ 400 * 400 := Nat.mul_le_mul (by omega) hsa
  have hw : IntKind.i64.wrap (((sizT c : Nat) : Int) + IntKind.i64.wrap (((cntT c 0 : Nat) : Int) * IntKind.i64.wrap (((sizT arg : Nat) : Int) - 1))) = ((sizT (inst c arg) : Nat) : Int) := by
    have e1 : ((cntT c 0 : Nat) : Int) * (((sizT arg : Nat) : Int) - 1) = ((cntT c 0 * sizT arg : Nat) : Int) - ((cntT c 0 : Nat) : Int) := by rw [Int.mul_sub, Int.mul_one]; rfl
    rw [wrapI (x := ((sizT arg : Nat) : Int) - 1) (by omega), e1, wrapI (x := ((cntT c 0 * sizT arg : Nat) : Int) - ((cntT c 0 : Nat) : Int)) (by omega), wrapI (by omega)]
    unfold inst
    omega
  have hcnt := cntS c 0 (by omega) (by omega) (by omega)
  have hn1 := nodesQ c 80 400 (by omega) (by omega) (by omega) (by omega)
  have hn2 := nodesQ arg 80 400 (by omega) (by omega) (by omega) (by omega)
  rw [n1] at hn1
  rw [n2] at hn2
  have hput := putG arg hga (by omega) c 0 hg (by omega) (by omega) (by omega)
  by_cases h4 : 400 < sizT (inst c arg)
  · rw [show inR c arg = (zeroC, 4) by unfold inR; rw [decide_eq_false (show ¬ sizT (inst c arg) ≤ 400 by omega), Bool.and_false]; rfl]
    refine FCallG.fz (ts1 := []) (r1 := .tup [.agg [.int .i64 0, .int .i64 0, .raw (.slice none 0 0), .raw (.slice none 0 0)], .int .i64 4]) ?_ (Or.inr ⟨_, Or.inr ⟨_, rfl⟩⟩)
    refine FCallG.intro (nt := 30) ti_ok mixed okInstS Tryz.func75 rfl rfl rfl rfl rfl rfl ?_
    refine Or.inl (Exists.intro _ (And.intro hcnt ?_))
    refine Or.inl (Exists.intro _ (And.intro hn1 ?_))
    refine Or.inl (Exists.intro _ (And.intro hn2 ?_))
    refine And.intro (fun _ => ?_) (fun q => ?_)
    · refine fin [] (And.intro ?_ trivial)
      exact rfl
    · have q' := of_decide_eq_false (show decide (400 < IntKind.i64.wrap (((sizT c : Nat) : Int) + IntKind.i64.wrap (((cntT c 0 : Nat) : Int) * IntKind.i64.wrap (((sizT arg : Nat) : Int) - 1)))) = false from q)
      rw [hw] at q'
      exfalso; omega
  have hno : ∀ q : decide (400 < IntKind.i64.wrap (((sizT c : Nat) : Int) + IntKind.i64.wrap (((cntT c 0 : Nat) : Int) * IntKind.i64.wrap (((sizT arg : Nat) : Int) - 1)))) = true, False := fun q => by
    have q' := of_decide_eq_true q
    rw [hw] at q'
    omega
  by_cases h5 : 80 < depT (inst c arg)
  · rw [show inR c arg = (zeroC, 4) by unfold inR; rw [decide_eq_false (show ¬ depT (inst c arg) ≤ 80 by omega), Bool.false_and]; rfl]
    refine FCallG.fz (ts1 := []) (r1 := .tup [.agg [.int .i64 0, .int .i64 0, .raw (.slice none 0 0), .raw (.slice none 0 0)], .int .i64 4]) ?_ (Or.inr ⟨_, Or.inr ⟨_, rfl⟩⟩)
    refine FCallG.intro (nt := 30) ti_ok mixed okInstS Tryz.func75 rfl rfl rfl rfl rfl rfl ?_
    refine Or.inl (Exists.intro _ (And.intro hcnt ?_))
    refine Or.inl (Exists.intro _ (And.intro hn1 ?_))
    refine Or.inl (Exists.intro _ (And.intro hn2 ?_))
    refine And.intro (fun q => (hno q).elim) (fun _ => ?_)
    refine Or.inr (Or.inr (Exists.intro _ (Exists.intro _ (And.intro hput ?_))))
    refine Or.inr (Or.inl (Exists.intro _ (Exists.intro _ (And.intro (depF (inst c arg) hso) ?_))))
    refine And.intro (fun _ => ?_) (fun q => ?_)
    · refine fin [] (And.intro ?_ trivial)
      exact rfl
    · have q' := of_decide_eq_false (show decide (80 < ((depT (inst c arg) : Nat) : Int)) = false from q)
      exfalso; omega
  have hno2 : ∀ q : decide (80 < ((depT (inst c arg) : Nat) : Int)) = true, False := fun q => by
    have q' := of_decide_eq_true q
    omega
  have e : inR c arg = (bif decide (255 < hiT (inst c arg)) then (zeroC, 2) else (inst c arg, 0)) := by
    unfold inR; rw [decide_eq_true (show depT (inst c arg) ≤ 80 by omega), decide_eq_true (show sizT (inst c arg) ≤ 400 by omega)]; rfl
  cases hi : decide (255 < hiT (inst c arg)) with
  | true =>
    rw [show inR c arg = (zeroC, 2) by rw [e, hi]; rfl]
    refine FCallG.fz (ts1 := []) (r1 := .tup [.agg [.int .i64 0, .int .i64 0, .raw (.slice none 0 0), .raw (.slice none 0 0)], .int .i64 2]) ?_ (Or.inr ⟨_, Or.inr ⟨_, rfl⟩⟩)
    refine FCallG.intro (nt := 30) ti_ok mixed okInstS Tryz.func75 rfl rfl rfl rfl rfl rfl ?_
    refine Or.inl (Exists.intro _ (And.intro hcnt ?_))
    refine Or.inl (Exists.intro _ (And.intro hn1 ?_))
    refine Or.inl (Exists.intro _ (And.intro hn2 ?_))
    refine And.intro (fun q => (hno q).elim) (fun _ => ?_)
    refine Or.inr (Or.inr (Exists.intro _ (Exists.intro _ (And.intro hput ?_))))
    refine Or.inr (Or.inl (Exists.intro _ (Exists.intro _ (And.intro (depF (inst c arg) hso) ?_))))
    refine And.intro (fun q => (hno2 q).elim) (fun _ => ?_)
    refine Or.inr (Or.inl (Exists.intro _ (Exists.intro _ (And.intro (hiF (inst c arg) hso) ?_))))
    refine And.intro (fun _ => ?_) (fun q => by rw [hi] at q; cases q)
    refine fin [] (And.intro ?_ trivial)
    exact rfl
  | false =>
    rw [show inR c arg = (inst c arg, 0) by rw [e, hi]; rfl]
    refine FCallG.intro (nt := 30) ti_ok mixed okInstS Tryz.func75 rfl rfl rfl rfl rfl rfl ?_
    refine Or.inl (Exists.intro _ (And.intro hcnt ?_))
    refine Or.inl (Exists.intro _ (And.intro hn1 ?_))
    refine Or.inl (Exists.intro _ (And.intro hn2 ?_))
    refine And.intro (fun q => (hno q).elim) (fun _ => ?_)
    refine Or.inr (Or.inr (Exists.intro _ (Exists.intro _ (And.intro hput ?_))))
    refine Or.inr (Or.inl (Exists.intro _ (Exists.intro _ (And.intro (depF (inst c arg) hso) ?_))))
    refine And.intro (fun q => (hno2 q).elim) (fun _ => ?_)
    refine Or.inr (Or.inl (Exists.intro _ (Exists.intro _ (And.intro (hiF (inst c arg) hso) ?_))))
    refine And.intro (fun q => by rw [hi] at q; cases q) (fun _ => ?_)
    refine fin [] (And.intro ?_ trivial)
    exact rfl
end Go.Proofs.YtieemijapiiiiaaGreat
