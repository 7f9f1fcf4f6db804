/- Regions whose order is open, by the flow of things between their operations. No program in it. -/
import Derived.Test.YthelpioccjjgfaaSo
set_option linter.unusedSimpArgs false
set_option linter.unusedVariables false
namespace Go.Tr
open Go Go.RowKit
def Res.emp : Res where
  p _ F := F = []
  keep := fun h _ => h
  lt := fun h b hb => by cases h; simp at hb
instance : Inhabited Res := ⟨Res.emp⟩
structure Step where
  dep : List Nat := []
  val : List Value → Value
  ok : List Value → Prop := fun _ => True
  rd : List Nat := []
def Step.c (v : Value) : Step := { dep := [], val := fun _ => v, rd := [] }
structure Lab where
  dep : List Nat := []
  res : List Value → Res
  prod : Option Nat := none
  cons : Option Nat := none
def Step.v (s : Step) (ν : Nat → Value) : Value := s.val (s.dep.map ν)
def Step.k (s : Step) (ν : Nat → Value) : Prop := s.ok (s.dep.map ν)
def Lab.r (s : Lab) (ν : Nat → Value) : Res := s.res (s.dep.map ν)
structure Flow where
  steps : List Step
  labs : List Lab
  anc : List (List Nat)
def upd (ν : Nat → Value) (i : Nat) (v : Value) : Nat → Value := fun j => if j = i then v else ν j
def hasO (x : Option (List Nat)) (j : Nat) : Bool := match x with | some l => l.contains j | none => false
def stepGood (fl : Flow) (ops : Array Oper) (keys : List Nat) (n i : Nat) (o : Oper) (A : List Nat) (s : Step) : Bool :=
  o.after.all (fun e => !Region.binds .any e || Nat.blt e.on i) &&
  A.all (fun j => o.after.any fun e => Region.binds .any e && (e.on == j || hasO fl.anc[e.on]? j)) &&
  s.dep.all (fun j => j == i || A.contains j) &&
  s.rd.all (fun ℓ => match fl.labs[ℓ]? with
    | some b => b.prod.all (fun p => A.contains p) && b.cons.all (fun c => hasO fl.anc[c]? i)
    | none => false) &&
  (match o.dst with
    | some d => !keys.contains d && Nat.blt d n && (List.range ops.size).all (fun j => j == i || (ops[j]?).bind (·.dst) != some d)
    | none => true)
def labGood (fl : Flow) (m : Nat) (b : Lab) : Bool :=
  (match b.prod with
    | none => b.dep.isEmpty
    | some p => Nat.blt p m && b.dep.all (fun j => j == p || hasO fl.anc[p]? j)) &&
  (match b.cons with
    | none => true
    | some c => Nat.blt c m && !(b.prod == some c) && b.prod.all (fun p => hasO fl.anc[c]? p))
def Flow.good (fl : Flow) (ops : Array Oper) (keys : List Nat) (n : Nat) : Bool :=
  fl.steps.length == ops.size && fl.anc.length == ops.size &&
  (List.range ops.size).all (fun i => match ops[i]?, fl.anc[i]?, fl.steps[i]? with
    | some o, some A, some s => stepGood fl ops keys n i o A s
    | _, _, _ => false) &&
  fl.labs.all (labGood fl ops.size)
def Flow.r (fl : Flow) (ν : Nat → Value) (ℓ : Nat) : Res := match fl.labs[ℓ]? with | some b => b.r ν | none => Res.emp
def Flow.av (fl : Flow) (L : Array Bool) (ℓ : Nat) : Bool := match fl.labs[ℓ]? with
  | some b => b.prod.all (fun p => L.getD p false) && b.cons.all (fun c => !L.getD c false)
  | none => false
def Flow.isRd (s : Step) (ℓ : Nat) : Bool := s.rd.contains ℓ
def Flow.isCons (fl : Flow) (i ℓ : Nat) : Bool := match fl.labs[ℓ]? with | some b => b.cons == some i | none => false
def Flow.isProd (fl : Flow) (i ℓ : Nat) : Bool := match fl.labs[ℓ]? with | some b => b.prod == some i | none => false
def Flow.isIni (fl : Flow) (ℓ : Nat) : Bool := match fl.labs[ℓ]? with | some b => b.prod.isNone | none => false
def Flow.isFin (fl : Flow) (ℓ : Nat) : Bool := match fl.labs[ℓ]? with | some b => b.cons.isNone | none => false
def Flow.sel (fl : Flow) (ν : Nat → Value) (p : Nat → Bool) : List Res := ((List.range fl.labs.length).filter p).map (fl.r ν)
section
variable {P : Program} {ops : Array Oper} {fl : Flow} {l0 : List (Nat × Value)} {n : Nat} {w0 : World} {F0 : List Nat}
def Flow.J (ops : Array Oper) (fl : Flow) (l0 : List (Nat × Value)) (n : Nat) (w0 : World) (F0 : List Nat) (L : Array Bool) (a : Act) (w : World) : Prop := ∃ ν : Nat → Value,
  (∀ (i : Nat) (s : Step), fl.steps[i]? = some s → L.getD i false = true → s.k ν) ∧
  (∀ (i : Nat) (s : Step) (o : Oper) (d : Nat), fl.steps[i]? = some s → ops[i]? = some o → L.getD i false = true → o.dst = some d → a.tmps[d]? = some (s.v ν)) ∧
  Env n a l0 ∧ Inv w0 F0 w (fl.sel ν (fl.av L))
/-- What an operation gives. -/
def Gives (P : Program) (ops : Array Oper) (o : Oper) (a : Act) (w : World) (K : Value → World → Prop) : Prop :=
  (Region.wanted o (yielded ops a.tmps) = true ∧ ((∃ v w', (execOp a.eval o).run P w = .ok (.value v) w' ∧ K v w') ∨ (∃ w', (execOp a.eval o).run P w = .ok .skip w' ∧ K undef w') ∨
    ∃ f args, (execOp a.eval o).run P w = .ok (.enter f args) w ∧ Calls P f args w fun e w' => ∃ v, e = .returned v ∧ K v w')) ∨
  (Region.wanted o (yielded ops a.tmps) = false ∧ K undef w)
theorem Gives.wpOp {Q : Exit → Act → World → Prop} {o : Oper} {a : Act} {w : World} {K : Value → World → Prop} {K' : Act → World → Prop} {i : Nat} (h : Gives P ops o a w K) (hi : ops[i]? = some o) (hk : ∀ v w', K v w' → K' (a.put o.dst v) w') : wpOp P ops Q i K' a w := by
  unfold Go.wpOp
  simp only [hi]
  rcases h with ⟨hw, h⟩ | ⟨hw, h⟩
  · rw [if_pos hw]
    refine .inl ?_
    unfold Oper.wp
    rcases h with ⟨v, w', hr, h⟩ | ⟨w', hr, h⟩ | ⟨f, args, hr, h⟩
    · rw [hr]; exact hk _ _ h
    · rw [hr]; exact hk _ _ h
    · rw [hr]
      refine h.mono fun e w' h => ?_
      obtain ⟨v, rfl, h⟩ := h
      exact hk _ _ h
  · rw [if_neg (by simp [hw])]
    exact hk _ _ h
/-- What is to be shown of operation i. -/
def Flow.obl (P : Program) (ops : Array Oper) (fl : Flow) (l0 : List (Nat × Value)) (n : Nat) (w0 : World) (F0 : List Nat) (i : Nat) : Prop :=
  ∃ s o A, fl.steps[i]? = some s ∧ ops[i]? = some o ∧ fl.anc[i]? = some A ∧ ∀ (ν : Nat → Value) (a : Act) (w : World) (rs : List Res), Env n a l0 → (∀ j ∈ A, ∀ s : Step, fl.steps[j]? = some s → s.k ν) →
    (∀ j ∈ A, ∀ (s : Step) (o : Oper) (d : Nat), fl.steps[j]? = some s → ops[j]? = some o → o.dst = some d → a.tmps[d]? = some (s.v ν)) → Inv w0 F0 w (fl.sel ν (Flow.isRd s) ++ (fl.sel ν (fl.isCons i) ++ rs)) →
    Gives P ops o a w fun v w' => s.k (upd ν i v) ∧ s.v (upd ν i v) = v ∧ Inv w0 F0 w' (fl.sel ν (Flow.isRd s) ++ (fl.sel (upd ν i v) (fl.isProd i) ++ rs))

theorem filter3 {α : Type} (p p1 p2 p3 : α → Bool) : ∀ (l : List α), (∀ x ∈ l, (p x = (p1 x || p2 x || p3 x)) ∧ (p1 x && p2 x) = false ∧ (p1 x && p3 x) = false ∧ (p2 x && p3 x) = false) → (l.filter p).Perm (l.filter p1 ++ (l.filter p2 ++ l.filter p3))
  | [], _ => by simp
  | x :: l, h => by
    have ih := filter3 p p1 p2 p3 l (fun y hy => h y (by simp [hy]))
    obtain ⟨h0, h12, h13, h23⟩ := h x (by simp)
    cases e1 : p1 x <;> cases e2 : p2 x <;> cases e3 : p3 x <;> simp [e1, e2, e3] at h0 h12 h13 h23
    · simpa [List.filter_cons, e1, e2, e3, h0] using ih
    · simp only [List.filter_cons, e1, e2, e3, h0, if_true, Bool.false_eq_true, if_false]
      refine (ih.cons x).trans ?_
      rw [← List.append_assoc, ← List.append_assoc]
      exact List.perm_middle.symm
    · simp only [List.filter_cons, e1, e2, e3, h0, if_true, Bool.false_eq_true, if_false, List.cons_append]
      exact (ih.cons x).trans List.perm_middle.symm
    · simp only [List.filter_cons, e1, e2, e3, h0, if_true, Bool.false_eq_true, if_false, List.cons_append]
      exact ih.cons x
theorem good_step (hg : fl.good ops (l0.map (·.1)) n = true) {i : Nat} {o : Oper} (ho : ops[i]? = some o) : ∃ A s, fl.anc[i]? = some A ∧ fl.steps[i]? = some s ∧ stepGood fl ops (l0.map (·.1)) n i o A s = true := by
  unfold Flow.good at hg
  simp only [Bool.and_eq_true, List.all_eq_true] at hg
  have hi := (Array.getElem?_eq_some_iff.1 ho).1
  have h := hg.1.2 i (by simpa using hi)
  rw [ho] at h
  cases hA : fl.anc[i]? with
  | none => rw [hA] at h; simp at h
  | some A =>
    cases hs : fl.steps[i]? with
    | none => rw [hA, hs] at h; simp at h
    | some s => rw [hA, hs] at h; exact ⟨A, s, rfl, rfl, h⟩
theorem good_lab (hg : fl.good ops (l0.map (·.1)) n = true) {ℓ : Nat} {b : Lab} (hb : fl.labs[ℓ]? = some b) : labGood fl ops.size b = true := by
  unfold Flow.good at hg
  simp only [Bool.and_eq_true, List.all_eq_true] at hg
  exact hg.2 b (List.mem_of_getElem? hb)
theorem hasO_spec {x : Option (List Nat)} {j : Nat} (h : hasO x j = true) : ∃ l, x = some l ∧ j ∈ l := by
  unfold hasO at h
  cases x with
  | none => simp at h
  | some l => exact ⟨l, rfl, by simpa using h⟩
/-- What comes before a listed operation, or one that is ready, is listed. -/
theorem anc_listed (hg : fl.good ops (l0.map (·.1)) n = true) {L : Array Bool} (hc : Closed .any ops L) : ∀ (i : Nat) (o : Oper) (A : List Nat), ops[i]? = some o → fl.anc[i]? = some A → (∀ e ∈ o.after, Region.binds .any e = true → L.getD e.on false = true) → ∀ j ∈ A, L.getD j false = true := by
  intro i
  induction i using Nat.strongRecOn with
  | _ i ih =>
    intro o A ho hA hall j hj
    obtain ⟨A', s, hA', hs, hgd⟩ := good_step hg ho
    rw [hA] at hA'
    injection hA' with hA'
    subst hA'
    unfold stepGood at hgd
    simp only [Bool.and_eq_true, List.all_eq_true] at hgd
    have h2 := hgd.1.1.1.2 j hj
    rw [Array.any_eq_true'] at h2
    obtain ⟨e, he, h3⟩ := h2
    rw [Bool.and_eq_true, Bool.or_eq_true, beq_iff_eq] at h3
    have hl := hall e he h3.1
    rcases h3.2 with h4 | h4
    · rw [← h4]; exact hl
    · obtain ⟨B, hB, hjB⟩ := hasO_spec h4
      have hlt : e.on < i := by
        have h5 := hgd.1.1.1.1
        rw [Array.all_eq_true_iff_forall_mem] at h5
        have := h5 e he
        rw [h3.1] at this
        simpa using this
      have hsz : e.on < ops.size := by
        have := (Array.getElem?_eq_some_iff.1 ho).1
        omega
      exact ih e.on hlt ops[e.on] B (Array.getElem?_eq_getElem hsz) hB (hc e.on _ (Array.getElem?_eq_getElem hsz) hl) j hjB
theorem upd_map {ν : Nat → Value} {i : Nat} {v : Value} {l : List Nat} (h : i ∉ l) : l.map (upd ν i v) = l.map ν := List.map_congr_left fun j hj => by
  have : j ≠ i := fun e => h (e ▸ hj)
  simp [upd, this]
theorem J_step (hg : fl.good ops (l0.map (·.1)) n = true) {L : Array Bool} (hL : L.size = ops.size) (hc : Closed .any ops L) {a : Act} {w : World} (hJ : Flow.J ops fl l0 n w0 F0 L a w) {i : Nat} (hr : i ∈ Region.ready .any ops L) (hob : Flow.obl P ops fl l0 n w0 F0 i) (Q : Exit → Act → World → Prop) :
    wpOp P ops Q i (fun a' w' => Flow.J ops fl l0 n w0 F0 (L.setIfInBounds i true) a' w') a w := by
  obtain ⟨hun, o, ho, hall⟩ := mem_ready.1 hr
  have hun' := getD_un hun
  obtain ⟨A, s, hA, hs, hgd⟩ := good_step hg ho
  obtain ⟨s', o', A', hs', ho', hA', hob⟩ := hob
  rw [hs] at hs'; rw [ho] at ho'; rw [hA] at hA'
  injection hs' with hs'; injection ho' with ho'; injection hA' with hA'
  subst hs' ho' hA'
  have hancL := anc_listed hg hc i o A ho hA hall
  obtain ⟨ν, h1, h2, hE, hI⟩ := hJ
  have hisz : i < L.size := by rw [hL]; exact (Array.getElem?_eq_some_iff.1 ho).1
  unfold stepGood at hgd
  simp only [Bool.and_eq_true, List.all_eq_true] at hgd
  obtain ⟨⟨⟨⟨hlt, hanc⟩, hdep⟩, hrd⟩, hdst⟩ := hgd
  -- later ones are not listed
  have hnot : ∀ (c : Nat) (oc : Oper) (B : List Nat), ops[c]? = some oc → fl.anc[c]? = some B → i ∈ B → L.getD c false = false := by
    intro c oc B hoc hB hiB
    cases hcl : L.getD c false with
    | false => rfl
    | true =>
      have := anc_listed hg hc c oc B hoc hB (hc c oc hoc hcl) i hiB
      rw [hun'] at this
      cases this
  have hopsOf : ∀ c, c < ops.size → ∃ oc, ops[c]? = some oc := fun c h => ⟨_, Array.getElem?_eq_getElem h⟩
  -- the labels at hand
  have hperm : ((List.range fl.labs.length).filter (fl.av L)).Perm ((List.range fl.labs.length).filter (Flow.isRd s) ++ ((List.range fl.labs.length).filter (fl.isCons i) ++ (List.range fl.labs.length).filter (fun ℓ => fl.av L ℓ && !Flow.isRd s ℓ && !fl.isCons i ℓ))) := by
    refine filter3 _ _ _ _ _ fun ℓ hℓ => ?_
    have hℓ' : ℓ < fl.labs.length := by simpa using hℓ
    have hb : fl.labs[ℓ]? = some fl.labs[ℓ] := List.getElem?_eq_getElem hℓ'
    have hbg := good_lab hg hb
    have k1 : Flow.isRd s ℓ = true → fl.av L ℓ = true ∧ fl.isCons i ℓ = false := fun hr => by
      unfold Flow.isRd at hr
      have h3 := hrd ℓ (by simpa using hr)
      rw [hb] at h3
      simp only [Bool.and_eq_true] at h3
      refine ⟨?_, ?_⟩
      · unfold Flow.av
        rw [hb]
        simp only [Bool.and_eq_true]
        refine ⟨?_, ?_⟩
        · cases hp : fl.labs[ℓ].prod with
          | none => rfl
          | some p =>
            rw [hp] at h3
            exact hancL p (by simpa using h3.1)
        · cases hq : fl.labs[ℓ].cons with
          | none => rfl
          | some c =>
            rw [hq] at h3
            obtain ⟨B, hB, hiB⟩ := hasO_spec h3.2
            unfold labGood at hbg
            simp only [hq, Bool.and_eq_true] at hbg
            obtain ⟨oc, hoc⟩ := hopsOf c (by simpa using hbg.2.1.1)
            simp [hnot c oc B hoc hB hiB, -Array.getD_eq_getD_getElem?]
      · unfold Flow.isCons
        rw [hb]
        show (fl.labs[ℓ].cons == some i) = false
        cases hq : fl.labs[ℓ].cons with
        | none => rfl
        | some c =>
          rw [hq] at h3
          obtain ⟨B, hB, hiB⟩ := hasO_spec h3.2
          simp only [beq_eq_false_iff_ne, ne_eq, Option.some.injEq]
          rintro rfl
          rw [hA] at hB
          injection hB with hB
          subst hB
          have := hancL c hiB
          rw [hun'] at this
          cases this
    have k2 : fl.isCons i ℓ = true → fl.av L ℓ = true := fun hr => by
      unfold Flow.isCons at hr
      rw [hb] at hr
      have hq : fl.labs[ℓ].cons = some i := by simpa using hr
      unfold labGood at hbg
      simp only [hq, Bool.and_eq_true] at hbg
      unfold Flow.av
      rw [hb]
      simp only [hq, Bool.and_eq_true, Option.all_some, hun', Bool.not_false, and_true]
      cases hp : fl.labs[ℓ].prod with
      | none => rfl
      | some p =>
        rw [hp] at hbg
        obtain ⟨B, hB, hpB⟩ := hasO_spec hbg.2.2
        rw [hA] at hB
        injection hB with hB
        subst hB
        exact hancL p hpB
    cases e1 : Flow.isRd s ℓ <;> cases e2 : fl.isCons i ℓ <;> cases e3 : fl.av L ℓ <;> simp_all
  have hI2 : Inv w0 F0 w (fl.sel ν (Flow.isRd s) ++ (fl.sel ν (fl.isCons i) ++ fl.sel ν (fun ℓ => fl.av L ℓ && !Flow.isRd s ℓ && !fl.isCons i ℓ))) := hI.perm (by
    unfold Flow.sel
    rw [← List.map_append, ← List.map_append]
    exact hperm.map _)
  refine (hob ν a w _ hE (fun j hj s hs => h1 j s hs (hancL j hj)) (fun j hj s o d hs ho hd => h2 j s o d hs ho (hancL j hj) hd) hI2).wpOp ho fun v w' ⟨hk, hv, hI3⟩ => ?_
  have hself : (L.setIfInBounds i true).getD i false = true := by simp [hisz]
  have hLi : ∀ j, (L.setIfInBounds i true).getD j false = true → j = i ∨ L.getD j false = true := fun j hj => by
    by_cases e : j = i
    · exact .inl e
    · exact .inr (getD_set_of hj e)
  -- i is no part of what the others depend on
  have hfree : ∀ (j : Nat) (sj : Step), fl.steps[j]? = some sj → L.getD j false = true → i ∉ sj.dep := fun j sj hsj hLj hm => by
    have hjs : j < ops.size := by
      have : j < L.size := by
        rcases Nat.lt_or_ge j L.size with h | h
        · exact h
        · simp [Array.getElem?_eq_none h] at hLj
      omega
    obtain ⟨oj, hoj⟩ := hopsOf j hjs
    obtain ⟨B, sj', hB, hsj', hgj⟩ := good_step hg hoj
    rw [hsj] at hsj'
    injection hsj' with hsj'
    subst hsj'
    unfold stepGood at hgj
    simp only [Bool.and_eq_true, List.all_eq_true] at hgj
    have h3 := hgj.1.1.2 i hm
    rw [Bool.or_eq_true, beq_iff_eq] at h3
    rcases h3 with rfl | h3
    · rw [hun'] at hLj; cases hLj
    · have := hnot j oj B hoj hB (by simpa using h3)
      rw [hLj] at this; cases this
  have hfreeL : ∀ (ℓ : Nat) (b : Lab), fl.labs[ℓ]? = some b → b.prod.all (fun p => L.getD p false) = true → b.r (upd ν i v) = b.r ν := fun ℓ b hb hp => by
    have hbg := good_lab hg hb
    unfold labGood at hbg
    unfold Lab.r
    congr 1
    refine upd_map fun hm => ?_
    cases hpp : b.prod with
    | none =>
      simp only [hpp, Bool.and_eq_true] at hbg
      have := hbg.1
      rw [List.isEmpty_iff] at this
      rw [this] at hm
      simp at hm
    | some p =>
      simp only [hpp, Bool.and_eq_true, List.all_eq_true] at hbg
      rw [hpp] at hp
      simp only [Option.all_some] at hp
      have h3 := hbg.1.2 i hm
      rw [Bool.or_eq_true, beq_iff_eq] at h3
      rcases h3 with rfl | h3
      · rw [hun'] at hp; cases hp
      · obtain ⟨B, hB, hiB⟩ := hasO_spec h3
        obtain ⟨op, hop⟩ := hopsOf p (by simpa using hbg.1.1)
        have := hnot p op B hop hB hiB
        rw [hp] at this; cases this
  refine ⟨upd ν i v, fun j sj hsj hLj => ?_, fun j sj oj d hsj hoj hLj0 hd => ?_, ?_, ?_⟩
  · rcases hLi j hLj with rfl | hLj
    · rw [hs] at hsj; injection hsj with hsj; subst hsj; exact hk
    · unfold Step.k
      rw [upd_map (hfree j sj hsj hLj)]
      exact h1 j sj hsj hLj
  · rcases hLi j hLj0 with rfl | hLj
    · rw [hs] at hsj; injection hsj with hsj; subst hsj
      rw [ho] at hoj; injection hoj with hoj; subst hoj
      rw [hv, hd]
      rw [hd] at hdst
      simp only [Bool.and_eq_true] at hdst
      have hdn : d < n := by simpa using hdst.1.2
      show (a.tmps.setIfInBounds d v)[d]? = some v
      simp [hE.size, hdn]
    · unfold Step.v
      rw [upd_map (hfree j sj hsj hLj)]
      have h3 := h2 j sj oj d hsj hoj hLj hd
      cases hod : o.dst with
      | none => exact h3
      | some d' =>
        have hne : d ≠ d' := fun e => by
          subst e
          rw [hod] at hdst
          simp only [Bool.and_eq_true, List.all_eq_true] at hdst
          have h4 := hdst.2 j (by simpa using (Array.getElem?_eq_some_iff.1 hoj).1)
          rw [Bool.or_eq_true, beq_iff_eq, hoj] at h4
          rcases h4 with rfl | h4
          · rw [hun'] at hLj; cases hLj
          · simp [hd] at h4
        show (a.tmps.setIfInBounds d' v)[d]? = _
        rw [Array.getElem?_setIfInBounds_ne (fun e => hne e.symm)]
        exact h3
  · cases hod : o.dst with
    | none => exact hE
    | some d =>
      rw [hod] at hdst
      simp only [Bool.and_eq_true] at hdst
      refine ⟨by simp [Act.put, hE.size], hE.defers, fun t u hl => ?_⟩
      have hne : t ≠ d := fun e => by
        subst e
        have h4 := hdst.1.1
        simp only [Bool.not_eq_true', List.contains_eq_mem, decide_eq_false_iff_not] at h4
        have : ∀ (l : List (Nat × Value)), l.lookup t = some u → t ∈ l.map (·.1) := by
          intro l
          induction l with
          | nil => intro h; simp at h
          | cons x l ih =>
            intro h
            rw [List.lookup_cons] at h
            by_cases e : t = x.1
            · simp [e]
            · have : (t == x.1) = false := by simpa using e
              rw [this] at h
              simp [ih h]
        exact h4 (this l0 hl)
      show (a.tmps.setIfInBounds d v)[t]? = some u
      rw [Array.getElem?_setIfInBounds_ne (fun e => hne e.symm)]
      exact hE.get t u hl
  · refine Inv.perm hI3 ?_
    have e1 : fl.sel ν (Flow.isRd s) = fl.sel (upd ν i v) (Flow.isRd s) := by
      unfold Flow.sel
      refine List.map_congr_left fun ℓ hℓ => ?_
      have hℓ2 := (List.mem_filter.1 hℓ).2
      unfold Flow.isRd at hℓ2
      have h3 := hrd ℓ (by simpa using hℓ2)
      unfold Flow.r
      cases hb : fl.labs[ℓ]? with
      | none => rfl
      | some b =>
        rw [hb] at h3
        simp only [Bool.and_eq_true] at h3
        refine (hfreeL ℓ b hb ?_).symm
        cases hp : b.prod with
        | none => rfl
        | some p => rw [hp] at h3; exact hancL p (by simpa using h3.1)
    have e2 : fl.sel ν (fun ℓ => fl.av L ℓ && !Flow.isRd s ℓ && !fl.isCons i ℓ) = fl.sel (upd ν i v) (fun ℓ => fl.av L ℓ && !Flow.isRd s ℓ && !fl.isCons i ℓ) := by
      unfold Flow.sel
      refine List.map_congr_left fun ℓ hℓ => ?_
      have hℓ2 := (List.mem_filter.1 hℓ).2
      simp only [Bool.and_eq_true] at hℓ2
      have h3 := hℓ2.1.1
      unfold Flow.av at h3
      unfold Flow.r
      cases hb : fl.labs[ℓ]? with
      | none => rfl
      | some b =>
        rw [hb] at h3
        simp only [Bool.and_eq_true] at h3
        exact (hfreeL ℓ b hb h3.1).symm
    rw [e1, e2]
    unfold Flow.sel
    rw [← List.map_append, ← List.map_append]
    refine List.Perm.map _ (List.Perm.symm (filter3 _ _ _ _ _ fun ℓ hℓ => ?_))
    have hℓ' : ℓ < fl.labs.length := by simpa using hℓ
    have hb : fl.labs[ℓ]? = some fl.labs[ℓ] := List.getElem?_eq_getElem hℓ'
    have hbg := good_lab hg hb
    -- cases on who makes it and who takes it
    have hset : ∀ j, (L.setIfInBounds i true).getD j false = (decide (j = i) || L.getD j false) := fun j => by
      by_cases e : j = i
      · subst e; rw [hself]; simp
      · rw [getD_set_ne false (fun e' => e e'.symm)]; simp [e]
    have k1 : Flow.isRd s ℓ = true → fl.av L ℓ = true ∧ fl.isCons i ℓ = false ∧ fl.isProd i ℓ = false := fun hr => by
      have hmem : ℓ ∈ (List.range fl.labs.length).filter (Flow.isRd s) := List.mem_filter.2 ⟨hℓ, hr⟩
      have hav : fl.av L ℓ = true := (List.mem_filter.1 (hperm.mem_iff.2 (List.mem_append_left _ hmem))).2
      refine ⟨hav, ?_, ?_⟩
      · unfold Flow.isRd at hr
        have h3 := hrd ℓ (by simpa using hr)
        rw [hb] at h3
        simp only [Bool.and_eq_true] at h3
        unfold Flow.isCons
        rw [hb]
        show (fl.labs[ℓ].cons == some i) = false
        cases hq : fl.labs[ℓ].cons with
        | none => rfl
        | some c =>
          rw [hq] at h3
          obtain ⟨B, hB, hiB⟩ := hasO_spec h3.2
          simp only [beq_eq_false_iff_ne, ne_eq, Option.some.injEq]
          rintro rfl
          rw [hA] at hB
          injection hB with hB
          subst hB
          have := hancL c hiB
          rw [hun'] at this
          cases this
      · unfold Flow.av at hav
        unfold Flow.isProd
        rw [hb] at hav ⊢
        simp only [Bool.and_eq_true] at hav
        show (fl.labs[ℓ].prod == some i) = false
        cases hp : fl.labs[ℓ].prod with
        | none => rfl
        | some p =>
          rw [hp] at hav
          simp only [beq_eq_false_iff_ne, ne_eq, Option.some.injEq]
          rintro rfl
          have := hav.1
          simp only [Option.all_some] at this
          rw [hun'] at this; cases this
    have k3 : fl.av (L.setIfInBounds i true) ℓ = ((fl.av L ℓ && !fl.isCons i ℓ) || fl.isProd i ℓ) := by
      unfold Flow.av Flow.isCons Flow.isProd
      rw [hb]
      simp only [hset]
      cases hp : fl.labs[ℓ].prod with
      | none =>
        cases hq : fl.labs[ℓ].cons with
        | none => simp [-Array.getD_eq_getD_getElem?]
        | some c =>
          by_cases e : c = i
          · subst e; simp [-Array.getD_eq_getD_getElem?]
          · simp [e, -Array.getD_eq_getD_getElem?]
      | some p =>
        by_cases ep : p = i
        · subst ep
          cases hq : fl.labs[ℓ].cons with
          | none => simp [-Array.getD_eq_getD_getElem?]
          | some c =>
            unfold labGood at hbg
            simp only [hp, hq, Bool.and_eq_true, Option.all_some] at hbg
            obtain ⟨B, hB, hiB⟩ := hasO_spec hbg.2.2
            obtain ⟨oc, hoc⟩ := hopsOf c (by simpa using hbg.2.1.1)
            have h4 := hnot c oc B hoc hB hiB
            have hne : c ≠ p := fun e => by
              subst e
              have := hbg.2.1.2
              simp at this
            simp [h4, hne, -Array.getD_eq_getD_getElem?]
        · cases hq : fl.labs[ℓ].cons with
          | none => simp [ep, -Array.getD_eq_getD_getElem?]
          | some c =>
            by_cases e : c = i
            · subst e; simp [ep, -Array.getD_eq_getD_getElem?]
            · have e1 : (c == i) = false := by simpa using e
              have e2 : (p == i) = false := by simpa using ep
              simp [e1, e2, e, ep, -Array.getD_eq_getD_getElem?]
    have k4 : fl.isProd i ℓ = true → fl.av L ℓ = false := fun hr => by
      unfold Flow.isProd at hr
      rw [hb] at hr
      have hp : fl.labs[ℓ].prod = some i := by simpa using hr
      unfold Flow.av
      rw [hb]
      simp [hp, hun', -Array.getD_eq_getD_getElem?]
    rw [k3]
    clear hperm hI hI2 hI3 hdst hdep hanc hlt hrd h1 h2 hob hnot hopsOf hfree hfreeL hset hself hLi k3
    generalize Flow.isRd s ℓ = x1 at *
    generalize fl.isCons i ℓ = x2 at *
    generalize fl.av L ℓ = x3 at *
    generalize fl.isProd i ℓ = x4 at *
    clear hbg hb
    cases x1 <;> cases x2 <;> cases x3 <;> cases x4 <;> simp at k1 k4 ⊢
theorem ready_nil {L : Array Bool} (hg : fl.good ops (l0.map (·.1)) n = true) (hL : L.size = ops.size) (hr : Region.ready .any ops L = []) : ∀ i, i < ops.size → L.getD i false = true := by
  intro i
  induction i using Nat.strongRecOn with
  | _ i ih =>
    intro hi
    cases hl : L.getD i false with
    | true => rfl
    | false =>
      exfalso
      have ho : ops[i]? = some ops[i] := Array.getElem?_eq_getElem hi
      obtain ⟨A, s, hA, hs, hgd⟩ := good_step hg ho
      unfold stepGood at hgd
      simp only [Bool.and_eq_true, List.all_eq_true] at hgd
      have hmem : i ∈ Region.ready .any ops L := mem_ready.2 ⟨by
        have hiL : i < L.size := by omega
        simp [hiL] at hl ⊢
        exact hl, ops[i], ho, fun e he hb => by
          have h5 := hgd.1.1.1.1
          rw [Array.all_eq_true_iff_forall_mem] at h5
          have := h5 e he
          rw [hb] at this
          have hlt : e.on < i := by simpa using this
          exact ih e.on hlt (by omega)⟩
      rw [hr] at hmem
      cases hmem
theorem flow_any {Q : Exit → Act → World → Prop} (hg : fl.good ops (l0.map (·.1)) n = true) (hob : ∀ i, i < ops.size → Flow.obl P ops fl l0 n w0 F0 i)
    (hfin : ∀ L a w, (∀ i, i < ops.size → L.getD i false = true) → Flow.J ops fl l0 n w0 F0 L a w → Q .normal a w) :
    ∀ (fuel : Nat) (L : Array Bool) (a : Act) (w : World), L.size = ops.size → Closed .any ops L → (List.range ops.size).countP (fun i => !L.getD i false) ≤ fuel → Flow.J ops fl l0 n w0 F0 L a w → wpAny P .any ops Q fuel L a w := by
  intro fuel
  induction fuel with
  | zero =>
    intro L a w hL hc hcnt hJ
    have hall : ∀ i, i < ops.size → L.getD i false = true := fun i hi => by
      have h0 : (List.range ops.size).countP (fun i => !L.getD i false) = 0 := by omega
      rw [List.countP_eq_zero] at h0
      have := h0 i (by simpa using hi)
      simpa using this
    refine ⟨?_, hfin L a w hall hJ⟩
    rw [List.eq_nil_iff_forall_not_mem]
    intro i hi
    obtain ⟨h1, o, ho, _⟩ := mem_ready.1 hi
    have h2 := hall i (Array.getElem?_eq_some_iff.1 ho).1
    rw [getD_un h1] at h2
    cases h2
  | succ fuel ih =>
    intro L a w hL hc hcnt hJ
    refine ⟨fun hr => hfin L a w (ready_nil hg hL hr) hJ, fun i hi => ?_⟩
    obtain ⟨h1, o, ho, _⟩ := mem_ready.1 hi
    have hio := (Array.getElem?_eq_some_iff.1 ho).1
    refine wpOp_mono (fun a' w' hJ' => ?_) (J_step hg hL hc hJ hi (hob i hio) Q)
    refine ih _ a' w' (by simp [hL]) (hc.set hi) ?_ hJ'
    have hun := getD_un h1
    have hlt : (List.range ops.size).countP (fun j => !(L.setIfInBounds i true).getD j false) < (List.range ops.size).countP (fun j => !L.getD j false) := by
      have key : ∀ l : List Nat, (l.countP (fun j => !(L.setIfInBounds i true).getD j false) ≤ l.countP (fun j => !L.getD j false)) ∧ (i ∈ l → l.countP (fun j => !(L.setIfInBounds i true).getD j false) < l.countP (fun j => !L.getD j false)) := by
        intro l
        induction l with
        | nil => simp
        | cons x l ihl =>
          by_cases e : x = i
          · subst e
            have hs : (L.setIfInBounds x true).getD x false = true := by simp [show x < L.size by omega]
            rw [List.countP_cons, List.countP_cons, hs, hun]
            simp
            have := ihl.1
            simp at this
            omega
          · have hs : (L.setIfInBounds i true).getD x false = L.getD x false := getD_set_ne false (fun e' => e e'.symm)
            rw [List.countP_cons, List.countP_cons, hs]
            refine ⟨by have := ihl.1; omega, fun hm => ?_⟩
            have hm' : i ∈ l := by
              rcases List.mem_cons.1 hm with h | h
              · exact absurd h.symm e
              · exact h
            have := ihl.2 hm'
            omega
      exact (key _).2 (by simpa using hio)
    omega
def AllTo (p : Nat → Prop) : Nat → Prop
  | 0 => True
  | k + 1 => AllTo p k ∧ p k
theorem AllTo.spec {p : Nat → Prop} : ∀ {k : Nat}, AllTo p k → ∀ i, i < k → p i
  | 0, _, i, h => by omega
  | k + 1, ⟨h1, h2⟩, i, h => by
    by_cases e : i = k
    · subst e; exact h2
    · exact AllTo.spec h1 i (by omega)
theorem AllTo.zero (p : Nat → Prop) : AllTo p 0 := trivial
theorem AllTo.snoc {p : Nat → Prop} {k : Nat} (h : AllTo p k) (h2 : p k) : AllTo p (k + 1) := ⟨h, h2⟩
/-- A region whose order is open. -/
theorem wp_flow {id : Nat} {Q : Exit → Act → World → Prop} {a : Act} {w : World} {l : List Oper} {rs : List Res} (hm : P.follows .mixedOrders = true) (fl : Flow) (E : Env n a l0) (hI : Inv w0 F0 w (fl.sel (fun _ => undef) fl.isIni ++ rs)) (m : Nat) (hml : Nat.beq l.length m = true)
    (hg : fl.good l.toArray (l0.map (·.1)) n = true) (hob : AllTo (Flow.obl P l.toArray fl l0 n w0 F0) m)
    (hfin : ∀ (ν : Nat → Value) a w, Env n a l0 → (∀ (i : Nat) (s : Step), fl.steps[i]? = some s → s.k ν) → (∀ (i : Nat) (s : Step) (o : Oper) (d : Nat), fl.steps[i]? = some s → l[i]? = some o → o.dst = some d → a.tmps[d]? = some (s.v ν)) → Inv w0 F0 w (fl.sel ν fl.isFin) → Q .normal a w) :
    (Code.region id l.toArray true).wp P Q a w := by
  have hml' : l.length = m := by simpa using hml
  refine wp_region_any hm ?_
  have hsz : l.toArray.size = m := by simpa using hml'
  rw [hsz]
  refine flow_any (fl := fl) (l0 := l0) (n := n) (w0 := w0) (F0 := F0) hg (fun i hi => hob.spec i (by omega)) (fun L a w hall hJ => ?_) m _ a _ (by simp [hml']) ?_ ?_ ?_
  · obtain ⟨ν, h1, h2, hE, hI⟩ := hJ
    have hlen : fl.steps.length = l.toArray.size := by
      unfold Flow.good at hg
      simp only [Bool.and_eq_true, beq_iff_eq] at hg
      exact hg.1.1.1
    have hall' : ∀ i s, fl.steps[i]? = some s → L.getD i false = true := fun i s hs => hall i (by have := (List.getElem?_eq_some_iff.1 hs).1; omega)
    refine hfin ν a w hE (fun i s hs => h1 i s hs (hall' i s hs)) (fun i s o d hs ho hd => h2 i s o d hs (by simpa using ho) (hall' i s hs) hd) ?_
    refine hI.perm ?_
    unfold Flow.sel
    refine List.Perm.of_eq ?_
    congr 1
    refine List.filter_congr fun ℓ hℓ => ?_
    have hℓ' : ℓ < fl.labs.length := by simpa using hℓ
    have hb : fl.labs[ℓ]? = some fl.labs[ℓ] := List.getElem?_eq_getElem hℓ'
    have hbg := good_lab hg hb
    unfold Flow.av Flow.isFin
    rw [hb]
    unfold labGood at hbg
    simp only []
    cases hq : fl.labs[ℓ].cons with
    | none =>
      cases hp : fl.labs[ℓ].prod with
      | none => simp
      | some p =>
        simp only [hp, hq, Bool.and_eq_true] at hbg
        simp [hall p (by have := hbg.1.1; simpa using this), -Array.getD_eq_getD_getElem?]
    | some c =>
      simp only [hq, Bool.and_eq_true] at hbg
      simp [hall c (by have := hbg.2.1.1; simpa using this), -Array.getD_eq_getD_getElem?]
  · intro x o ho hx
    simp at hx
    exfalso
    rcases Nat.lt_or_ge x m with h | h
    · simp [h] at hx
    · simp [Nat.not_lt.2 h] at hx
  · refine Nat.le_trans List.countP_le_length ?_
    simp [hml']
  · refine ⟨fun _ => undef, fun i s hs hl => ?_, fun i s o d hs ho hl => ?_, E, ?_⟩
    · exfalso
      rcases Nat.lt_or_ge i m with h | h
      · simp [h] at hl
      · simp [Nat.not_lt.2 h] at hl
    · exfalso
      rcases Nat.lt_or_ge i m with h | h
      · simp [h] at hl
      · simp [Nat.not_lt.2 h] at hl
    · have hI' : Inv w0 F0 w (fl.sel (fun _ => undef) fl.isIni) := by
        obtain ⟨F, h2, h3, h4⟩ := Inv.frame (pre := fl.sel (fun _ => undef) fl.isIni) (rest := rs) hI
        obtain ⟨G, h5, h6⟩ := hI.sep
        obtain ⟨G1, G2, rfl, h7, _, _⟩ := Sep.append.1 h5
        exact ⟨hI.chg, G1, h7, fun b hb => h6 b (by simp [hb])⟩
      refine Inv.perm (hI'.ext ((Below.refl _ _).drew)) ?_
      unfold Flow.sel
      refine List.Perm.of_eq ?_
      congr 1
      refine List.filter_congr fun ℓ hℓ => ?_
      have hℓ' : ℓ < fl.labs.length := by simpa using hℓ
      have hb : fl.labs[ℓ]? = some fl.labs[ℓ] := List.getElem?_eq_getElem hℓ'
      have hgd : ∀ j, (Array.replicate m false).getD j false = false := fun j => by
        rcases Nat.lt_or_ge j m with h | h
        · simp [h]
        · simp [Nat.not_lt.2 h]
      unfold Flow.av Flow.isIni
      rw [hb]
      cases hp : fl.labs[ℓ].prod with
      | none => cases hq : fl.labs[ℓ].cons <;> simp [hgd]
      | some p => simp [hgd]
end
end Go.Tr
