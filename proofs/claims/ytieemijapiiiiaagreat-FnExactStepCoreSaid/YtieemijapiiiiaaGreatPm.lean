/- Core terms: StepCore of both sides. -/
import Derived.Test.YtieemijapiiiiaaGreatPl
import Derived.Test.YtieemijapiiiiaaGreatPe
import Derived.Test.YtieemijapiiiiaaGreatDCr
set_option linter.unusedSimpArgs false
set_option linter.unusedVariables false
namespace Go.Tr
open Go Go.RowKit
/-- Cells whose slices are rows of the call's own, in order. -/
def agM : List SV → List Tok → List D → Prop
  | [], ts, ds => ts = [] ∧ ds = []
  | .int k i :: l, ts, ds => ∃ ds', ds = .v (.int k i) :: ds' ∧ agM l ts ds'
  | .raw (.slice none 0 0) :: l, ts, ds => ∃ ds', ds = .sl 0 [] :: ds' ∧ agM l ts ds'
  | .sl g :: l, .row h _ _ u xs _ :: ts, ds => g = h ∧ ∃ ds', ds = .sl (List.length (α := El u) xs) (List.flatMap (enc u) xs) :: ds' ∧ agM l ts ds'
  | _, _, _ => False
theorem agM_ok {cx : Cx} {β : Nat → Value} {w : World} {lo : Nat} : ∀ {l : List SV} {ts : List Tok} {ds : List D} {us : List Value} {G : List Nat}, agM l ts ds → Dens cx β l us → Sep w (ts.map (Tok.res cx β)) G → (∀ b ∈ G, lo ≤ b) → ∃ bs, TN w ds bs us ∧ Own lo w bs ∧ ∀ b ∈ bs, b ∈ G := by
  intro l
  induction l with
  | nil =>
    intro ts ds us G h hd hs hG
    unfold agM at h
    obtain ⟨rfl, rfl⟩ := h
    unfold Dens at hd
    subst hd
    exact ⟨[], TN.done, Own.nil _ _, by simp⟩
  | cons s l ih =>
    intro ts ds us G h hd hs hG
    unfold Dens at hd
    obtain ⟨v, vs, rfl, h1, h2⟩ := hd
    unfold agM at h
    split at h
    · rename_i heq; cases heq
    · rename_i heq
      injection heq with e1 e2
      subst e1 e2
      obtain ⟨ds', rfl, h⟩ := h
      obtain ⟨bs, k1, k2, k3⟩ := ih h h2 hs hG
      rw [den_int h1]
      exact ⟨bs, TN.v_mk rfl k1, k2, k3⟩
    · rename_i heq
      injection heq with e1 e2
      subst e1 e2
      obtain ⟨ds', rfl, h⟩ := h
      obtain ⟨bs, k1, k2, k3⟩ := ih h h2 hs hG
      unfold Den at h1
      obtain ⟨rfl, _⟩ := h1
      refine ⟨[] ++ bs, TN.sl_mk (T1.empty none) k1, by simpa using k2, by simpa using k3⟩
    · rename_i g l' hh t s' u xs us' ts' heq
      injection heq with e1 e2
      subst e1 e2
      obtain ⟨rfl, ds', rfl, h⟩ := h
      obtain ⟨F, G', rfl, ⟨hsz, bs0, raw, rfl, hg, _⟩, q2, q3⟩ := hs
      obtain ⟨bs, k1, k2, k3⟩ := ih h h2 q2 fun b hb => hG b (List.mem_append_right _ hb)
      obtain ⟨A, c, q, j1, j2, j4, j5⟩ := hg.resF (by subst hsz; exact encs_lenW xs)
      unfold Den at h1
      obtain ⟨rfl, _⟩ := h1
      refine ⟨q ++ bs, (by rw [j1]; exact TN.sl_mk j2 k1), ⟨List.nodup_append.2 ⟨j4.1, k2.1, fun x hx y hy e => q3 x (j5 x hx) (e ▸ k3 y hy)⟩, fun b hb => ?_⟩, fun b hb => ?_⟩
      · rcases List.mem_append.1 hb with hb | hb
        · exact ⟨hG b (List.mem_append_left _ (j5 b hb)), (j4.2 b hb).2⟩
        · exact k2.2 b hb
      · rcases List.mem_append.1 hb with hb | hb
        · exact List.mem_append_left _ (j5 b hb)
        · exact List.mem_append_right _ (k3 b hb)
    · exact h.elim
theorem agM_any3 {P : Program} {f : Nat} {args l : List SV} {ts : List Tok} {k c : Int} {ds : List D} (h : FCall P f args [] (.tup [.agg l, .int .i64 k, .int .i64 c]) ts) (hm : agM l ts ds) {vs : List Value} {w : World} (hd : ∀ β, Dens ⟨w, []⟩ β args vs) :
    Calls P f vs.toArray w fun e w' => ∃ (v0 : List Value) (q0 : List Nat), e = .returned (.tuple #[.agg v0.toArray, .int .i64 k, .int .i64 c]) ∧ Ext w w' ∧ TN w' ds q0 v0 ∧ Own w.heap.size w' (q0) := by
  refine (h.2 ⟨w, []⟩ (fun _ => undef) w [] vs (Inv.start0 w) (hd _)).mono ?_
  rintro e' w' ⟨v, β', rfl, _, hd, hI⟩
  rw [List.append_nil] at hI
  unfold Den at hd
  obtain ⟨vs, rfl, hd⟩ := hd
  unfold Dens at hd
  obtain ⟨v1, vs1, rfl, hd1, hd⟩ := hd
  unfold Dens at hd
  obtain ⟨v2, vs2, rfl, hd2, hd⟩ := hd
  unfold Dens at hd
  obtain ⟨v3, vs3, rfl, hd3, hd⟩ := hd
  unfold Dens at hd
  subst hd
  unfold Den at hd1 hd2 hd3
  obtain ⟨us, rfl, hd1⟩ := hd1
  subst hd2 hd3
  obtain ⟨G, hs, hG⟩ := hI.sep
  obtain ⟨bs, k1, k2, k3⟩ := agM_ok (lo := w.heap.size) hm hd1 hs fun b hb => (hG b hb).elim (fun h => by simp at h) id
  exact ⟨us, bs, rfl, hI.to_ext, k1, k2⟩
theorem sizL_set : ∀ (l : List Cor) (i : Nat) (t : Cor) (a : Nat), i < l.length → sizL (l.set i t) a + sizT (elt (dflt uCor) l ((i : Nat) : Int)) = sizL l a + sizT t
  | [], i, t, a, h => by simp at h
  | s :: l, 0, t, a, h => by
    show sizL (t :: l) a + sizT s = sizL (s :: l) a + sizT t
    rw [sizL, sizL]
    have e : ∀ (l : List Cor) (p q : Nat), sizL l (p + q) = sizL l p + q := fun l => by
      induction l with
      | nil => intro p q; simp [sizL]
      | cons x l ih => intro p q; rw [sizL, sizL, show p + q + sizT x = p + sizT x + q by omega, ih]
    rw [e l a (sizT t), e l a (sizT s)]; omega
  | s :: l, i + 1, t, a, h => by
    have h' : i < l.length := by simpa using h
    show sizL (s :: l.set i t) a + sizT (elt (dflt uCor) (s :: l) ((i + 1 : Nat) : Int)) = sizL (s :: l) a + sizT t
    have := sizL_set l i t (a + sizT s) h'
    rw [eltN h'] at this
    rw [sizL, sizL, eltN h]
    exact this
theorem siz_set {c : Cor} {i : Nat} (t : Cor) (h : i < c.kids.length) : sizT (mkC (cKd c) (cVl c) (cDt c) (c.kids.set i t)) + sizT (kidN c ((i : Nat) : Int)) = sizT c + sizT t := by
  rw [sizT_node, sizT_kids c]
  exact sizL_set c.kids i t 1 h
theorem cho_siz : ∀ (l : List Cor) (f : Cor) (a : Nat), sizT (l.foldl appC f) + a ≤ sizT f + sizL l a + l.length
  | [], f, a => by simp [sizL]
  | t :: l, f, a => by
    have h := cho_siz l (appC f t) (a + sizT t)
    have e : sizT (appC f t) = 1 + sizT f + sizT t := by unfold appC; rw [sizT_node]; simp [sizL]
    rw [sizL, List.length_cons]
    show sizT (l.foldl appC (appC f t)) + a ≤ _
    omega
theorem stOk_defs {b : Bok} {c : Cor} (h : stOk b c = true) : ∀ d ∈ b, okC d = true := by
  unfold stOk okB at h
  simp only [Bool.and_eq_true, List.all_eq_true] at h
  exact fun d hd => (h.1.2 d hd).1
theorem con_siz {b : Bok} (hb : ∀ d ∈ b, okC d = true) {c : Cor} (hc : okC c = true) (hn : nmT (b.length : Nat) c = true) (hk : (kindF c != 0) = true) : sizT (conC b (kindF c) c) ≤ sizT c + 1000000 := by
  have hg := (okC_iff.1 hc).1
  have h0 : kindF c ≠ 0 := by simpa using hk
  rcases kind_all c with k | k | k | k | k
  · exact absurd k h0
  · obtain ⟨a5, b4⟩ := kind1 k
    have hl := ar5 hg a5
    have m0 : kidN c 0 ∈ c.kids := kidM (c := c) (i := 0) (by omega)
    have m1 : kidN c 1 ∈ c.kids := kidM (c := c) (i := 1) (by omega)
    have o0 := okC_kid hc m0
    have o1 := okC_kid hc m1
    have hl4 := ar4 (okC_iff.1 o0).1 b4
    have m2 : kidN (kidN c 0) 0 ∈ (kidN c 0).kids := kidM (c := kidN c 0) (i := 0) (by omega)
    have o2 := okC_kid o0 m2
    rw [k]
    have := inst_siz o2 o1
    show sizT (inst (kidN (kidN c 0) 0) (kidN c 1)) ≤ _
    exact Nat.le_trans this (by omega)
  · rw [k]
    show sizT (numC _) ≤ _
    unfold numC; rw [sizT_node]; show 1 ≤ _; omega
  · rw [k]
    rcases kind3 k with ⟨a9, b8, hv⟩ | ⟨a10, b2⟩
    · have hl := ar9 hg a9
      have m0 : kidN c 0 ∈ c.kids := kidM (c := c) (i := 0) (by omega)
      have s0 := sizT_kid m0
      have s1 := sizT_kids (kidN c 0)
      have s2 := sizT_len (kidN c 0)
      have hsc := (okC_iff.1 hc).2.2
      rw [show conC b 3 c = choC (elt (0 : Int) (cDt c) (cVl (kidN c 0))) (kidN c 0).kids by unfold conC; rw [a9]; rfl]
      have := cho_siz (kidN c 0).kids (refC (elt (0 : Int) (cDt c) (cVl (kidN c 0)))) 1
      have e : sizT (refC (elt (0 : Int) (cDt c) (cVl (kidN c 0)))) = 1 := by unfold refC; rw [sizT_node]; rfl
      unfold choC
      omega
    · have a9 : (cKd c == 9) = false := by rw [eq_of_beq a10]; rfl
      rw [show conC b 3 c = refC (elt (0 : Int) (cDt c) (bif cVl (kidN c 0) == 0 then 1 else 0)) by unfold conC swiC; rw [a9]; rfl]
      unfold refC; rw [sizT_node]; show 1 ≤ _; omega
  · rw [k]
    obtain ⟨i, hi, hil, hi11⟩ := at_ok hg k
    have mi := kidM hil
    have hv := ar11 (good_kid hg mi) hi11
    have hvn := nm_ref (nm_kid hn mi) hi11
    obtain ⟨m, hm⟩ : ∃ m : Nat, cVl (kidN c ((i : Nat) : Int)) = (m : Nat) := ⟨(cVl (kidN c ((i : Nat) : Int))).toNat, by omega⟩
    have hmem : elt (dflt uCor) b ((m : Nat) : Int) ∈ b := eltM (by omega)
    have hs := (okC_iff.1 (hb _ hmem)).2.2
    rw [show conC b 4 c = mkC (cKd c) (cVl c) (cDt c) (c.kids.set i (elt (dflt uCor) b ((m : Nat) : Int))) by unfold conC expC; rw [hi, hm]; rfl]
    have := siz_set (elt (dflt uCor) b ((m : Nat) : Int)) hil
    omega
theorem step_siz0 {b : Bok} (hb : ∀ d ∈ b, okC d = true) : ∀ (c : Cor), okC c = true → nmT (b.length : Nat) c = true → ∀ {t : Cor} {k : Int}, stepT b c = some (t, k) → sizT t ≤ sizT c + 1000000 := by
  refine Tree.ind (fun c ih => ?_)
  intro hc hn t k h
  cases hk : (kindF c != 0) with
  | true =>
    rw [stepT_red hk] at h
    injection h with h
    injection h with h _
    rw [← h]
    exact con_siz hb hc hn hk
  | false =>
    by_cases hall : ∀ s ∈ c.kids, stepT b s = none
    · rw [stepT_kids hk, stepL_none hall] at h; cases h
    · obtain ⟨j, hj, hbef, t', k', hjs⟩ := first_some hall
      rw [stepT_kids hk, stepL_some hj hbef hjs] at h
      injection h with h
      injection h with h _
      have h3 : sizT t' ≤ sizT (kidN c ((j : Nat) : Int)) + 1000000 := ih _ (kidM hj) (okC_kid hc (kidM hj)) (nm_kid hn (kidM hj)) hjs
      have h2 := siz_set t' hj
      rw [← h]
      show sizT (mkC (cKd c) (cVl c) (cDt c) (c.kids.set j t')) ≤ _
      omega
theorem step_siz {b : Bok} (hb : ∀ d ∈ b, okC d = true) (c : Cor) (hc : okC c = true) (hp : Prt (b.length : Nat) c 0) {t : Cor} {k : Int} (h : stepT b c = some (t, k)) : sizT t ≤ 1000400 := by
  have h1 := step_siz0 hb c hc hp.nm h
  have h2 := (okC_iff.1 hc).2.2
  omega
abbrev zRaw : List SV := [.int .i64 0, .int .i64 0, .raw (.slice none 0 0), .raw (.slice none 0 0)]
/-- What StepCore gives. -/
def resStep (b : Bok) (c : Cor) : Cor × Int × Int :=
  bif stOk b c then (match stepT b c with
    | some (t, k) => bif okC t then (t, k, 0) else (zeroC, 0, 4)
    | none => (zeroC, 0, 3)) else (zeroC, 0, 1)
end Go.Tr
namespace Go.Proofs.YtieemijapiiiiaaGreat
open Go Go.RowKit Go.Proofs Go.Tr
/-- A term of the call's own, a number, a code. -/
def SRes (f : Nat) (args : List SV) (c : Cor) (k e : Int) : Prop :=
  (c = zeroC ∧ FCall Tryz.prog f args [] (.tup [.agg zRaw, .int .i64 k, .int .i64 e]) []) ∨ FCall Tryz.prog f args [] (.tup [.agg (cOwn c), .int .i64 k, .int .i64 e]) (tCop c)
theorem okStC : callOk Tryz.prog 10 = true := by kernel_rfl
set_option maxHeartbeats 1000000 in
set_option maxRecDepth 100000 in
theorem stCI (b : Bok) (c : Cor) (hb : ∀ d ∈ b, sizT d ≤ 2000000) (hc : sizT c ≤ 2000000) : SRes 10 [.agg [.rsl uCor b], .agg (cSV c)] (resStep b c).1 (resStep b c).2.1 (resStep b c).2.2 := by
  cases hst : stOk b c with
  | false =>
    rw [show resStep b c = (zeroC, 0, 1) by unfold resStep; rw [hst]; rfl]
    refine Or.inl ⟨rfl, FCallG.f ?_ rfl⟩
    refine FCallG.intro (nt := 32) ti_ok mixed okStC Tryz.func10 rfl rfl rfl rfl rfl rfl ?_
    refine Or.inl (Exists.intro _ (And.intro (msQ b c hb hc) ?_))
    refine And.intro (fun _ => ?_) (fun q => by rw [hst] at q; cases q)
    refine fin [] (And.intro rfl ?_)
    exact trivial
  | true =>
    obtain ⟨hbk, hlen⟩ := stOk_book hst
    obtain ⟨hoc, hp⟩ := stOk_term hst
    have hbk2 := stOk_defs hst
    have hsc := (okC_iff.1 hoc).2.2
    have hsg := stepG b c hp.g hsc hp.nm
    rcases st_rel hst with ⟨h1, h2⟩ | ⟨t, k, h1, hk, h2⟩
    · have hT : Go.Tr.stepT b c = none := by
        unfold stepR at h1
        cases h : Go.Tr.stepT b c with
        | none => rfl
        | some r =>
          obtain ⟨t, k⟩ := r
          rw [h] at h1
          have h1 : (t, k) = (c, 0) := h1
          injection h1 with _ h1
          have := step_kind h
          omega
      rw [show resStep b c = (zeroC, 0, 3) by unfold resStep; rw [hst, hT]; rfl]
      rw [h1] at hsg
      refine Or.inl ⟨rfl, FCallG.f ?_ rfl⟩
      refine FCallG.intro (nt := 32) ti_ok mixed okStC Tryz.func10 rfl rfl rfl rfl rfl rfl ?_
      refine Or.inl (Exists.intro _ (And.intro (msQ b c hb hc) ?_))
      refine And.intro (fun q => by rw [hst] at q; cases q) (fun _ => ?_)
      refine Or.inr (Or.inr (Exists.intro _ (Exists.intro _ (And.intro hsg ?_))))
      refine And.intro (fun _ => ?_) (fun q => by cases q)
      refine fin [] (And.intro rfl ?_)
      exact trivial
    · have hT : Go.Tr.stepT b c = some (t, k) := by
        unfold stepR at h1
        cases h : Go.Tr.stepT b c with
        | none => rw [h] at h1; have h1 : (c, (0 : Int)) = (t, k) := h1; injection h1 with _ h1; omega
        | some r => rw [h] at h1; exact congrArg some h1
      rw [h1] at hsg
      have hk0 : (k == 0) = false := by rw [beq_eq_false_iff_ne]; omega
      have hpre : ∀ (r : SV) (ts : List Tok), True := fun _ _ => trivial
      rcases h2 with ⟨h2, _, h3⟩ | ⟨h2, _⟩
      · rw [show resStep b c = (t, k, 0) by unfold resStep; rw [hst, hT]; show (bif okC t then (t, k, (0 : Int)) else (zeroC, 0, 4)) = _; rw [h2]; rfl]
        have hg := (okC_iff.1 h2).1
        have hs2 := (okC_iff.1 h2).2.2
        refine Or.inr (FCallG.f ?_ rfl)
        refine FCallG.intro (nt := 32) ti_ok mixed okStC Tryz.func10 rfl rfl rfl rfl rfl rfl ?_
        refine Or.inl (Exists.intro _ (And.intro (msQ b c hb hc) ?_))
        refine And.intro (fun q => by rw [hst] at q; cases q) (fun _ => ?_)
        refine Or.inr (Or.inr (Exists.intro _ (Exists.intro _ (And.intro hsg ?_))))
        refine And.intro (fun q => by rw [hk0] at q; cases q) (fun _ => ?_)
        refine Or.inl (Exists.intro _ (And.intro (validQ t (by omega)) ?_))
        refine And.intro (fun q => by rw [h2] at q; cases q) (fun _ => ?_)
        refine Or.inr (Or.inl (Exists.intro _ (Exists.intro _ (And.intro (copyF t hg) ?_))))
        refine fin [(10000, 30), (10001, 1000030)] (And.intro rfl ?_)
        exact ⟨⟨rfl, List.nil_prefix⟩, ⟨rfl, List.nil_prefix⟩, trivial⟩
      · rw [show resStep b c = (zeroC, 0, 4) by unfold resStep; rw [hst, hT]; show (bif okC t then (t, k, (0 : Int)) else (zeroC, 0, 4)) = _; rw [h2]; rfl]
        refine Or.inl ⟨rfl, FCallG.f ?_ rfl⟩
        refine FCallG.intro (nt := 32) ti_ok mixed okStC Tryz.func10 rfl rfl rfl rfl rfl rfl ?_
        refine Or.inl (Exists.intro _ (And.intro (msQ b c hb hc) ?_))
        refine And.intro (fun q => by rw [hst] at q; cases q) (fun _ => ?_)
        refine Or.inr (Or.inr (Exists.intro _ (Exists.intro _ (And.intro hsg ?_))))
        refine And.intro (fun q => by rw [hk0] at q; cases q) (fun _ => ?_)
        refine Or.inl (Exists.intro _ (And.intro (validQ t (by have := step_siz hbk2 c hoc hp hT; omega)) ?_))
        refine And.intro (fun _ => ?_) (fun q => by rw [h2] at q; cases q)
        refine fin [] (And.intro rfl ?_)
        exact trivial
theorem okStCS : callOk Tryz.prog 7 = true := by kernel_rfl
set_option maxHeartbeats 1000000 in
set_option maxRecDepth 100000 in
theorem stCS (b : Bok) (c : Cor) (hb : ∀ d ∈ b, sizT d ≤ 2000000) : SRes 7 [.agg [.rsl uCor b], .agg (cSV c)] (resStep b c).1 (resStep b c).2.1 (resStep b c).2.2 := by
  have hk : FCall Tryz.prog 23 [.ptr 10000 0, .ptr 10001 0] [.cel 10000 36 [.rsl uCor b], .cel 10001 32 (cSV c)] (.bool (stOk b c)) [.cel 10000 36 [.rsl uCor b], .cel 10001 32 (cSV c)] :=
    FCall.of_q ti_ok [51, 52] okStS (by
      show QCall _ _ [rpB b, .rp uCor (.node (cKd c, cVl c, cDt c) (Tree.kids c))] _
      rw [node_eta]
      exact stS b c hb) rfl
  cases hst : stOk b c with
  | false =>
    rw [show resStep b c = (zeroC, 0, 1) by unfold resStep; rw [hst]; rfl]
    refine Or.inl ⟨rfl, FCallG.f ?_ rfl⟩
    refine FCallG.intro (nt := 27) ti_ok mixed okStCS Tryz.func7 rfl rfl rfl rfl rfl rfl ?_
    refine Or.inr (Or.inl (Exists.intro _ (Exists.intro _ (And.intro hk ?_))))
    refine And.intro (fun _ => ?_) (fun q => by rw [hst] at q; cases q)
    refine fin [] (And.intro rfl ?_)
    exact trivial
  | true =>
    obtain ⟨hbk, hlen⟩ := stOk_book hst
    obtain ⟨hoc, hp⟩ := stOk_term hst
    have h8 : FCallG Tryz.prog 24 [.ptr 10000 0, .ptr 10001 0] [.cel 10000 36 [.rsl uCor b], .cel 10001 32 (cSV c)] (.tup [.agg (cSV (st8 b c).1), .int .i64 (st8 b c).2.1, .int .i64 (st8 b c).2.2]) [] := FCallG.frz (ti := ti) okSt8 (by
      show FCallG _ _ [rpB b, .rp uCor (.node (cKd c, cVl c, cDt c) (Tree.kids c))] _ _ _
      rw [node_eta]
      exact st8G b c hoc hp.nm) rfl
    rcases st_rel hst with ⟨h1, h2⟩ | ⟨t, k, h1, hk4, h2⟩
    · have hT : Go.Tr.stepT b c = none := by
        unfold stepR at h1
        cases h : Go.Tr.stepT b c with
        | none => rfl
        | some r =>
          obtain ⟨t, k⟩ := r
          rw [h] at h1
          have h1 : (t, k) = (c, 0) := h1
          injection h1 with _ h1
          have := step_kind h
          omega
      rw [show resStep b c = (zeroC, 0, 3) by unfold resStep; rw [hst, hT]; rfl]
      rw [h2] at h8
      refine Or.inl ⟨rfl, FCallG.f ?_ rfl⟩
      refine FCallG.intro (nt := 27) ti_ok mixed okStCS Tryz.func7 rfl rfl rfl rfl rfl rfl ?_
      refine Or.inr (Or.inl (Exists.intro _ (Exists.intro _ (And.intro hk ?_))))
      refine And.intro (fun q => by rw [hst] at q; cases q) (fun _ => ?_)
      refine Or.inr (Or.inr (Exists.intro _ (Exists.intro _ (And.intro h8 ?_))))
      refine And.intro (fun q => by cases q) (fun _ => ?_)
      refine And.intro (fun _ => ?_) (fun q => by cases q)
      refine fin [] (And.intro rfl ?_)
      exact trivial
    · have hT : Go.Tr.stepT b c = some (t, k) := by
        unfold stepR at h1
        cases h : Go.Tr.stepT b c with
        | none => rw [h] at h1; have h1 : (c, (0 : Int)) = (t, k) := h1; injection h1 with _ h1; omega
        | some r => rw [h] at h1; exact congrArg some h1
      have hk0 : (k == 0) = false := by rw [beq_eq_false_iff_ne]; omega
      rcases h2 with ⟨h2, h3, _⟩ | ⟨h2, h3⟩
      · rw [show resStep b c = (t, k, 0) by unfold resStep; rw [hst, hT]; show (bif okC t then (t, k, (0 : Int)) else (zeroC, 0, 4)) = _; rw [h2]; rfl]
        have hg := (okC_iff.1 h2).1
        have hs2 := (okC_iff.1 h2).2.2
        rw [h3] at h8
        have ho : FCall Tryz.prog 25 [.ptr 10000 0] [.cel 10000 32 (cSV t)] (.agg [.int .i64 (cKd t), .int .i64 (cVl t), .sl 10001, .sl 10002]) ([.row 10001 2 1 (.int .i64) (cDt t) [], .row 10002 32 4 uCor (Tree.kids t) []] ++ [.cel 10000 32 (cSV t)]) :=
          FCall.of_f (ts1 := tCop t) (r1 := .agg (cOwn t)) ti_ok [52] okOwnC (by
            show FCall _ _ [.rp uCor (.node (cKd t, cVl t, cDt t) (Tree.kids t))] _ _ _
            rw [node_eta]
            exact ownF t hg (by omega)) rfl rfl rfl
        refine Or.inr (FCallG.f ?_ rfl)
        refine FCallG.intro (nt := 27) ti_ok mixed okStCS Tryz.func7 rfl rfl rfl rfl rfl rfl ?_
        refine Or.inr (Or.inl (Exists.intro _ (Exists.intro _ (And.intro hk ?_))))
        refine And.intro (fun q => by rw [hst] at q; cases q) (fun _ => ?_)
        refine Or.inr (Or.inr (Exists.intro _ (Exists.intro _ (And.intro h8 ?_))))
        refine And.intro (fun q => by cases q) (fun _ => ?_)
        refine And.intro (fun q => by rw [hk0] at q; cases q) (fun _ => ?_)
        refine Or.inr (Or.inl (Exists.intro _ (Exists.intro _ (And.intro ho ?_))))
        refine fin [(10000, 25), (10001, 1000025)] (And.intro rfl ?_)
        exact ⟨⟨rfl, List.nil_prefix⟩, ⟨rfl, List.nil_prefix⟩, trivial⟩
      · rw [show resStep b c = (zeroC, 0, 4) by unfold resStep; rw [hst, hT]; show (bif okC t then (t, k, (0 : Int)) else (zeroC, 0, 4)) = _; rw [h2]; rfl]
        rw [h3] at h8
        refine Or.inl ⟨rfl, FCallG.f ?_ rfl⟩
        refine FCallG.intro (nt := 27) ti_ok mixed okStCS Tryz.func7 rfl rfl rfl rfl rfl rfl ?_
        refine Or.inr (Or.inl (Exists.intro _ (Exists.intro _ (And.intro hk ?_))))
        refine And.intro (fun q => by rw [hst] at q; cases q) (fun _ => ?_)
        refine Or.inr (Or.inr (Exists.intro _ (Exists.intro _ (And.intro h8 ?_))))
        refine And.intro (fun _ => ?_) (fun q => by cases q)
        refine fin [] (And.intro rfl ?_)
        exact trivial
end Go.Proofs.YtieemijapiiiiaaGreat
