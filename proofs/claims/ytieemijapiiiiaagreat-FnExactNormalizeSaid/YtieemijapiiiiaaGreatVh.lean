/- Regions whose order is open, by the flow of things: a valuation of any kind. No program in it. -/
import Derived.Test.YtieemijapiiiiaaGreatSc
set_option linter.unusedSimpArgs false
set_option linter.unusedVariables false
namespace Go.Tr
open Go Go.RowKit
/-- A thing: who makes it, who takes it. -/
structure PLab where
  prod : Option Nat
  cons : Option Nat
structure PFl where
  rds : List (List Nat)
  labs : List PLab
  anc : List (List Nat)
def pstepGood (fl : PFl) (ops : Array Oper) (n i : Nat) (o : Oper) (A rd : List Nat) : Bool :=
  o.after.all (fun e => !Region.binds .any e || Nat.blt e.on i) &&
  A.all (fun j => o.after.any fun e => Region.binds .any e && (e.on == j || hasO fl.anc[e.on]? j)) &&
  rd.all (fun ℓ => match fl.labs[ℓ]? with
    | some b => b.prod.all (fun p => A.contains p) && b.cons.all (fun c => hasO fl.anc[c]? i)
    | none => false) &&
  (match o.dst with
    | some d => Nat.blt d n && (List.range ops.size).all (fun j => j == i || (ops[j]?).bind (·.dst) != some d)
    | none => true)
def plabGood (fl : PFl) (m : Nat) (b : PLab) : Bool :=
  (match b.prod with
    | none => true
    | some p => Nat.blt p m) &&
  (match b.cons with
    | none => true
    | some c => Nat.blt c m && !(b.prod == some c) && b.prod.all (fun p => hasO fl.anc[c]? p))
def PFl.good (fl : PFl) (ops : Array Oper) (n : Nat) : Bool :=
  fl.rds.length == ops.size && fl.anc.length == ops.size &&
  (List.range ops.size).all (fun i => match ops[i]?, fl.anc[i]?, fl.rds[i]? with
    | some o, some A, some s => pstepGood fl ops n i o A s
    | _, _, _ => false) &&
  fl.labs.all (plabGood fl ops.size)
def PFl.av (fl : PFl) (L : Array Bool) (ℓ : Nat) : Bool := match fl.labs[ℓ]? with
  | some b => b.prod.all (fun p => L.getD p false) && b.cons.all (fun c => !L.getD c false)
  | none => false
def PFl.isRd (s : List Nat) (ℓ : Nat) : Bool := s.contains ℓ
def PFl.isCons (fl : PFl) (i ℓ : Nat) : Bool := match fl.labs[ℓ]? with | some b => b.cons == some i | none => false
def PFl.isProd (fl : PFl) (i ℓ : Nat) : Bool := match fl.labs[ℓ]? with | some b => b.prod == some i | none => false
def PFl.isIni (fl : PFl) (ℓ : Nat) : Bool := match fl.labs[ℓ]? with | some b => b.prod.isNone | none => false
def PFl.isFin (fl : PFl) (ℓ : Nat) : Bool := match fl.labs[ℓ]? with | some b => b.cons.isNone | none => false
section
variable {ρ : Type} {P : Program} {ops : Array Oper} {fl : PFl} {n : Nat} {w0 : ρ → World} {F0 : ρ → List Nat} {K C : Nat → ρ → Act → Prop} {B : ρ → Act → Prop} {R : Nat → ρ → Res} {Up : Nat → ρ → ρ → Prop} {fr : List Res}
def psel (fl : PFl) (R : Nat → ρ → Res) (r : ρ) (p : Nat → Bool) : List Res := ((List.range fl.labs.length).filter p).map (fun ℓ => R ℓ r)
def PJ (ops : Array Oper) (fl : PFl) (n : Nat) (w0 : ρ → World) (F0 : ρ → List Nat) (K C : Nat → ρ → Act → Prop) (B : ρ → Act → Prop) (R : Nat → ρ → Res) (fr : List Res) (L : Array Bool) (a : Act) (w : World) : Prop := ∃ r : ρ,
  (∀ i, i < ops.size → L.getD i false = true → K i r a) ∧ (∀ i, i < ops.size → L.getD i false = false → C i r a) ∧ B r a ∧ a.tmps.size = n ∧ a.defers = [] ∧ Inv (w0 r) (F0 r) w (psel fl R r (fl.av L) ++ fr)
/-- What is to be shown of operation i. -/
def pobl (P : Program) (ops : Array Oper) (fl : PFl) (n : Nat) (w0 : ρ → World) (F0 : ρ → List Nat) (K C : Nat → ρ → Act → Prop) (B : ρ → Act → Prop) (R : Nat → ρ → Res) (Up : Nat → ρ → ρ → Prop) (i : Nat) : Prop :=
  ∀ o A rd, ops[i]? = some o → fl.anc[i]? = some A → fl.rds[i]? = some rd → ∀ (r : ρ) (a : Act) (w : World) (R' : List Res), B r a → a.tmps.size = n → a.defers = [] → (∀ j ∈ A, K j r a) → (∀ j, j < ops.size → (j = i ∨ ∃ D, fl.anc[j]? = some D ∧ i ∈ D) → C j r a) → Inv (w0 r) (F0 r) w (psel fl R r (PFl.isRd rd) ++ (psel fl R r (fl.isCons i) ++ R')) →
    Gives P ops o a w fun v w' => ∃ r', Up i r r' ∧ K i r' (a.put o.dst v) ∧ B r' (a.put o.dst v) ∧ Inv (w0 r') (F0 r') w' (psel fl R r' (PFl.isRd rd) ++ (psel fl R r' (fl.isProd i) ++ R'))
/-- What has been done is not touched by what comes. -/
structure PStab (ops : Array Oper) (fl : PFl) (K C : Nat → ρ → Act → Prop) (R : Nat → ρ → Res) (Up : Nat → ρ → ρ → Prop) : Prop where
  k : ∀ i j A o r r' a v, ops[i]? = some o → fl.anc[j]? = some A → i ≠ j → i ∉ A → Up i r r' → K j r a → K j r' (a.put o.dst v)
  c : ∀ i j o r r' a v, ops[i]? = some o → j < ops.size → i ≠ j → Up i r r' → C j r a → C j r' (a.put o.dst v)
  l : ∀ i ℓ b r r', fl.labs[ℓ]? = some b → (∀ p, b.prod = some p → p ≠ i ∧ ∀ A, fl.anc[p]? = some A → i ∉ A) → Up i r r' → ∀ w F, (R ℓ r).p w F → (R ℓ r').p w F
theorem pgood_step (hg : fl.good ops n = true) {i : Nat} {o : Oper} (ho : ops[i]? = some o) : ∃ A s, fl.anc[i]? = some A ∧ fl.rds[i]? = some s ∧ pstepGood fl ops n i o A s = true := by
  unfold PFl.good at hg
  simp only [Bool.and_eq_true, List.all_eq_true] at hg
  have hi := (Array.getElem?_eq_some_iff.1 ho).1
  have h := hg.1.2 i (by simpa using hi)
  rw [ho] at h
  cases hA : fl.anc[i]? with
  | none => rw [hA] at h; simp at h
  | some A =>
    cases hs : fl.rds[i]? with
    | none => rw [hA, hs] at h; simp at h
    | some s => rw [hA, hs] at h; exact ⟨A, s, rfl, rfl, h⟩
theorem pgood_lab (hg : fl.good ops n = true) {ℓ : Nat} {b : PLab} (hb : fl.labs[ℓ]? = some b) : plabGood fl ops.size b = true := by
  unfold PFl.good at hg
  simp only [Bool.and_eq_true, List.all_eq_true] at hg
  exact hg.2 b (List.mem_of_getElem? hb)
theorem panc_listed (hg : fl.good ops n = true) {L : Array Bool} (hc : Closed .any ops L) : ∀ (i : Nat) (o : Oper) (A : List Nat), ops[i]? = some o → fl.anc[i]? = some A → (∀ e ∈ o.after, Region.binds .any e = true → L.getD e.on false = true) → ∀ j ∈ A, L.getD j false = true := by
  intro i
  induction i using Nat.strongRecOn with
  | _ i ih =>
    intro o A ho hA hall j hj
    obtain ⟨A', s, hA', hs, hgd⟩ := pgood_step hg ho
    rw [hA] at hA'
    injection hA' with hA'
    subst hA'
    unfold pstepGood at hgd
    simp only [Bool.and_eq_true, List.all_eq_true] at hgd
    have h2 := hgd.1.1.2 j hj
    rw [Array.any_eq_true'] at h2
    obtain ⟨e, he, h3⟩ := h2
    rw [Bool.and_eq_true, Bool.or_eq_true, beq_iff_eq] at h3
    have hl := hall e he h3.1
    rcases h3.2 with h4 | h4
    · rw [← h4]; exact hl
    · obtain ⟨D, hD, hjD⟩ := hasO_spec h4
      have hlt : e.on < i := by
        have h5 := hgd.1.1.1
        rw [Array.all_eq_true_iff_forall_mem] at h5
        have := h5 e he
        rw [h3.1] at this
        simpa using this
      have hsz : e.on < ops.size := by
        have := (Array.getElem?_eq_some_iff.1 ho).1
        omega
      exact ih e.on hlt ops[e.on] D (Array.getElem?_eq_getElem hsz) hD (hc e.on _ (Array.getElem?_eq_getElem hsz) hl) j hjD
theorem pmap_imp (R : Nat → ρ → Res) {r r' : ρ} {w : World} : ∀ {l : List Nat}, (∀ ℓ ∈ l, ∀ F, (R ℓ r).p w F → (R ℓ r').p w F) → ∀ {X : List Res} {w1 : World} {F1 : List Nat}, Inv w1 F1 w (l.map (fun ℓ => R ℓ r) ++ X) → Inv w1 F1 w (l.map (fun ℓ => R ℓ r') ++ X)
  | [], _, X, w1, F1, h => h
  | ℓ :: l, hk, X, w1, F1, h => by
    have h1 : Inv w1 F1 w (R ℓ r' :: (l.map (fun ℓ => R ℓ r) ++ X)) := Inv.weak h fun F hp => ⟨F, fun _ h => h, hk ℓ (by simp) F hp⟩
    have h2 := pmap_imp R (r := r) (r' := r') (fun ℓ hℓ => hk ℓ (by simp [hℓ])) (X := R ℓ r' :: X) (h1.perm List.perm_middle.symm)
    exact h2.perm List.perm_middle
theorem PJ_step (hg : fl.good ops n = true) (hst : PStab ops fl K C R Up) {L : Array Bool} (hL : L.size = ops.size) (hc : Closed .any ops L) {a : Act} {w : World} (hJ : PJ ops fl n w0 F0 K C B R fr L a w) {i : Nat} (hr : i ∈ Region.ready .any ops L) (hob : pobl P ops fl n w0 F0 K C B R Up i) (Q : Exit → Act → World → Prop) :
    wpOp P ops Q i (fun a' w' => PJ ops fl n w0 F0 K C B R fr (L.setIfInBounds i true) a' w') a w := by
  obtain ⟨hun, o, ho, hall⟩ := mem_ready.1 hr
  have hun' := getD_un hun
  obtain ⟨A, s, hA, hs, hgd⟩ := pgood_step hg ho
  have hancL := panc_listed hg hc i o A ho hA hall
  obtain ⟨r, h1, hC0, hB, hsz, hdf, hI⟩ := hJ
  have hisz : i < L.size := by rw [hL]; exact (Array.getElem?_eq_some_iff.1 ho).1
  unfold pstepGood at hgd
  simp only [Bool.and_eq_true, List.all_eq_true] at hgd
  obtain ⟨⟨⟨hlt, hanc⟩, hrd⟩, hdst⟩ := hgd
  have hnot : ∀ (c : Nat) (oc : Oper) (D : List Nat), ops[c]? = some oc → fl.anc[c]? = some D → i ∈ D → L.getD c false = false := by
    intro c oc D hoc hD hiD
    cases hcl : L.getD c false with
    | false => rfl
    | true =>
      have := panc_listed hg hc c oc D hoc hD (hc c oc hoc hcl) i hiD
      rw [hun'] at this
      cases this
  have hopsOf : ∀ c, c < ops.size → ∃ oc, ops[c]? = some oc := fun c h => ⟨_, Array.getElem?_eq_getElem h⟩
  have hperm : ((List.range fl.labs.length).filter (fl.av L)).Perm ((List.range fl.labs.length).filter (PFl.isRd s) ++ ((List.range fl.labs.length).filter (fl.isCons i) ++ (List.range fl.labs.length).filter (fun ℓ => fl.av L ℓ && !PFl.isRd s ℓ && !fl.isCons i ℓ))) := by
    refine filter3 _ _ _ _ _ fun ℓ hℓ => ?_
    have hℓ' : ℓ < fl.labs.length := by simpa using hℓ
    have hb : fl.labs[ℓ]? = some fl.labs[ℓ] := List.getElem?_eq_getElem hℓ'
    have hbg := pgood_lab hg hb
    have k1 : PFl.isRd s ℓ = true → fl.av L ℓ = true ∧ fl.isCons i ℓ = false := fun hr => by
      unfold PFl.isRd at hr
      have h3 := hrd ℓ (by simpa using hr)
      rw [hb] at h3
      simp only [Bool.and_eq_true] at h3
      refine ⟨?_, ?_⟩
      · unfold PFl.av
        rw [hb]
        simp only [Bool.and_eq_true]
        refine ⟨?_, ?_⟩
        · cases hp : fl.labs[ℓ].prod with
          | none => rfl
          | some p =>
            rw [hp] at h3
            exact hancL p (by simpa using h3.1)
        · cases hq : fl.labs[ℓ].cons with
          | none => rfl
          | some c =>
            rw [hq] at h3
            obtain ⟨D, hD, hiD⟩ := hasO_spec h3.2
            unfold plabGood at hbg
            simp only [hq, Bool.and_eq_true] at hbg
            obtain ⟨oc, hoc⟩ := hopsOf c (by simpa using hbg.2.1.1)
            simp [hnot c oc D hoc hD hiD, -Array.getD_eq_getD_getElem?]
      · unfold PFl.isCons
        rw [hb]
        show (fl.labs[ℓ].cons == some i) = false
        cases hq : fl.labs[ℓ].cons with
        | none => rfl
        | some c =>
          rw [hq] at h3
          obtain ⟨D, hD, hiD⟩ := hasO_spec h3.2
          simp only [beq_eq_false_iff_ne, ne_eq, Option.some.injEq]
          rintro rfl
          rw [hA] at hD
          injection hD with hD
          subst hD
          have := hancL c hiD
          rw [hun'] at this
          cases this
    have k2 : fl.isCons i ℓ = true → fl.av L ℓ = true := fun hr => by
      unfold PFl.isCons at hr
      rw [hb] at hr
      have hq : fl.labs[ℓ].cons = some i := by simpa using hr
      unfold plabGood at hbg
      simp only [hq, Bool.and_eq_true] at hbg
      unfold PFl.av
      rw [hb]
      simp only [hq, Bool.and_eq_true, Option.all_some, hun', Bool.not_false, and_true]
      cases hp : fl.labs[ℓ].prod with
      | none => rfl
      | some p =>
        rw [hp] at hbg
        obtain ⟨D, hD, hpD⟩ := hasO_spec hbg.2.2
        rw [hA] at hD
        injection hD with hD
        subst hD
        exact hancL p hpD
    cases e1 : PFl.isRd s ℓ <;> cases e2 : fl.isCons i ℓ <;> cases e3 : fl.av L ℓ <;> simp_all
  have hI2 : Inv (w0 r) (F0 r) w (psel fl R r (PFl.isRd s) ++ (psel fl R r (fl.isCons i) ++ (psel fl R r (fun ℓ => fl.av L ℓ && !PFl.isRd s ℓ && !fl.isCons i ℓ) ++ fr))) := hI.perm (by
    have h2 := (hperm.map (fun ℓ => R ℓ r)).append_right fr
    rw [List.map_append, List.map_append, List.append_assoc, List.append_assoc] at h2
    exact h2)
  refine (hob o A s ho hA hs r a w _ hB hsz hdf (fun j hj => by
    have hjs : j < ops.size := by
      have := hancL j hj
      rcases Nat.lt_or_ge j L.size with h | h
      · omega
      · simp [Array.getElem?_eq_none h] at this
    exact h1 j hjs (hancL j hj)) (fun j hjs hj => hC0 j hjs (by
    rcases hj with rfl | ⟨D, hD, hm⟩
    · exact hun'
    · obtain ⟨oj, hoj⟩ := hopsOf j hjs
      exact hnot j oj D hoj hD hm)) hI2).wpOp ho fun v w' ⟨r', hU, hk, hB', hI3⟩ => ?_
  have hself : (L.setIfInBounds i true).getD i false = true := by simp [hisz]
  have hLi : ∀ j, (L.setIfInBounds i true).getD j false = true → j = i ∨ L.getD j false = true := fun j hj => by
    by_cases e : j = i
    · exact .inl e
    · exact .inr (getD_set_of hj e)
  refine ⟨r', fun j hjs hLj => ?_, fun j hjs hLj => ?_, hB', ?_, (by cases o.dst <;> exact hdf), ?_⟩
  · rcases hLi j hLj with rfl | hLj
    · exact hk
    · have hne : i ≠ j := fun e => by subst e; rw [hun'] at hLj; cases hLj
      obtain ⟨oj, hoj⟩ := hopsOf j hjs
      obtain ⟨D, sj, hD, _, _⟩ := pgood_step hg hoj
      refine hst.k i j D o r r' a v ho hD hne (fun hm => ?_) hU (h1 j hjs hLj)
      have := hnot j oj D hoj hD hm
      rw [hLj] at this; cases this
  · have hne : i ≠ j := fun e => by subst e; rw [hself] at hLj; cases hLj
    exact hst.c i j o r r' a v ho hjs hne hU (hC0 j hjs (by rw [getD_set_ne false (fun e => hne e)] at hLj; exact hLj))
  · cases hd : o.dst with
    | none => exact hsz
    | some d => show (a.tmps.setIfInBounds d v).size = n; simpa using hsz
  · -- the others under the new valuation
    have hI4 : Inv (w0 r') (F0 r') w' ((((List.range fl.labs.length).filter (fun ℓ => fl.av L ℓ && !PFl.isRd s ℓ && !fl.isCons i ℓ)).map (fun ℓ => R ℓ r)) ++ (psel fl R r' (PFl.isRd s) ++ (psel fl R r' (fl.isProd i) ++ fr))) := hI3.perm (by
      show (psel fl R r' (PFl.isRd s) ++ (psel fl R r' (fl.isProd i) ++ (_ ++ fr))).Perm _
      unfold psel
      generalize ((List.range fl.labs.length).filter (fun ℓ => fl.av L ℓ && !PFl.isRd s ℓ && !fl.isCons i ℓ)).map (fun ℓ => R ℓ r) = X
      generalize ((List.range fl.labs.length).filter (PFl.isRd s)).map (fun ℓ => R ℓ r') = Y
      generalize ((List.range fl.labs.length).filter (fl.isProd i)).map (fun ℓ => R ℓ r') = Z
      have e1 : (Y ++ (Z ++ (X ++ fr))) = ((Y ++ Z) ++ X) ++ fr := by simp
      have e2 : (X ++ (Y ++ (Z ++ fr))) = (X ++ (Y ++ Z)) ++ fr := by simp
      rw [e1, e2]
      exact List.perm_append_comm.append_right fr)
    have hI5 := pmap_imp R (r := r) (r' := r') (fun ℓ hℓ => by
      have hℓ2 := List.mem_filter.1 hℓ
      have hℓ' : ℓ < fl.labs.length := by simpa using hℓ2.1
      have hb : fl.labs[ℓ]? = some fl.labs[ℓ] := List.getElem?_eq_getElem hℓ'
      have hav := hℓ2.2
      simp only [Bool.and_eq_true] at hav
      have h3 := hav.1.1
      unfold PFl.av at h3
      rw [hb] at h3
      simp only [Bool.and_eq_true] at h3
      refine hst.l i ℓ _ r r' hb (fun p hp => ⟨fun e => ?_, fun D hD hm => ?_⟩) hU w'
      · subst e
        rw [hp] at h3
        simp only [Option.all_some] at h3
        rw [hun'] at h3; cases h3.1
      · rw [hp] at h3
        simp only [Option.all_some] at h3
        have hbg := pgood_lab hg hb
        unfold plabGood at hbg
        simp only [hp, Bool.and_eq_true] at hbg
        obtain ⟨op, hop⟩ := hopsOf p (by simpa using hbg.1)
        have := hnot p op D hop hD hm
        rw [h3.1] at this; cases this) hI4
    refine hI5.perm ?_
    unfold psel
    have key : ((List.range fl.labs.length).filter (fun ℓ => fl.av L ℓ && !PFl.isRd s ℓ && !fl.isCons i ℓ) ++ ((List.range fl.labs.length).filter (PFl.isRd s) ++ (List.range fl.labs.length).filter (fl.isProd i))).Perm ((List.range fl.labs.length).filter (fl.av (L.setIfInBounds i true))) := by
      refine List.Perm.trans ?_ (List.Perm.symm (filter3 (fl.av (L.setIfInBounds i true)) (PFl.isRd s) (fl.isProd i) (fun ℓ => fl.av L ℓ && !PFl.isRd s ℓ && !fl.isCons i ℓ) _ fun ℓ hℓ => ?_))
      · refine List.perm_append_comm.trans ?_
        rw [List.append_assoc]
      · have hℓ' : ℓ < fl.labs.length := by simpa using hℓ
        have hb : fl.labs[ℓ]? = some fl.labs[ℓ] := List.getElem?_eq_getElem hℓ'
        have hbg := pgood_lab hg hb
        have hset : ∀ j, (L.setIfInBounds i true).getD j false = (decide (j = i) || L.getD j false) := fun j => by
          by_cases e : j = i
          · subst e; rw [hself]; simp
          · rw [getD_set_ne false (fun e' => e e'.symm)]; simp [e]
        have k1 : PFl.isRd s ℓ = true → fl.av L ℓ = true ∧ fl.isCons i ℓ = false ∧ fl.isProd i ℓ = false := fun hr => by
          have hmem : ℓ ∈ (List.range fl.labs.length).filter (PFl.isRd s) := List.mem_filter.2 ⟨hℓ, hr⟩
          have hav : fl.av L ℓ = true := (List.mem_filter.1 (hperm.mem_iff.2 (List.mem_append_left _ hmem))).2
          refine ⟨hav, ?_, ?_⟩
          · unfold PFl.isRd at hr
            have h3 := hrd ℓ (by simpa using hr)
            rw [hb] at h3
            simp only [Bool.and_eq_true] at h3
            unfold PFl.isCons
            rw [hb]
            show (fl.labs[ℓ].cons == some i) = false
            cases hq : fl.labs[ℓ].cons with
            | none => rfl
            | some c =>
              rw [hq] at h3
              obtain ⟨D, hD, hiD⟩ := hasO_spec h3.2
              simp only [beq_eq_false_iff_ne, ne_eq, Option.some.injEq]
              rintro rfl
              rw [hA] at hD
              injection hD with hD
              subst hD
              have := hancL c hiD
              rw [hun'] at this
              cases this
          · unfold PFl.av at hav
            unfold PFl.isProd
            rw [hb] at hav ⊢
            simp only [Bool.and_eq_true] at hav
            show (fl.labs[ℓ].prod == some i) = false
            cases hp : fl.labs[ℓ].prod with
            | none => rfl
            | some p =>
              rw [hp] at hav
              simp only [beq_eq_false_iff_ne, ne_eq, Option.some.injEq]
              rintro rfl
              have := hav.1
              simp only [Option.all_some] at this
              rw [hun'] at this; cases this
        have k3 : fl.av (L.setIfInBounds i true) ℓ = ((fl.av L ℓ && !fl.isCons i ℓ) || fl.isProd i ℓ) := by
          unfold PFl.av PFl.isCons PFl.isProd
          rw [hb]
          simp only [hset]
          cases hp : fl.labs[ℓ].prod with
          | none =>
            cases hq : fl.labs[ℓ].cons with
            | none => simp [-Array.getD_eq_getD_getElem?]
            | some c =>
              by_cases e : c = i
              · subst e; simp [-Array.getD_eq_getD_getElem?]
              · simp [e, -Array.getD_eq_getD_getElem?]
          | some p =>
            by_cases ep : p = i
            · subst ep
              cases hq : fl.labs[ℓ].cons with
              | none => simp [-Array.getD_eq_getD_getElem?]
              | some c =>
                unfold plabGood at hbg
                simp only [hp, hq, Bool.and_eq_true, Option.all_some] at hbg
                obtain ⟨D, hD, hiD⟩ := hasO_spec hbg.2.2
                obtain ⟨oc, hoc⟩ := hopsOf c (by simpa using hbg.2.1.1)
                have h4 := hnot c oc D hoc hD hiD
                have hne : c ≠ p := fun e => by
                  subst e
                  have := hbg.2.1.2
                  simp at this
                simp [h4, hne, -Array.getD_eq_getD_getElem?]
            · cases hq : fl.labs[ℓ].cons with
              | none => simp [ep, -Array.getD_eq_getD_getElem?]
              | some c =>
                by_cases e : c = i
                · subst e; simp [ep, -Array.getD_eq_getD_getElem?]
                · have e1 : (c == i) = false := by simpa using e
                  have e2 : (p == i) = false := by simpa using ep
                  simp [e1, e2, e, ep, -Array.getD_eq_getD_getElem?]
        have k4 : fl.isProd i ℓ = true → fl.av L ℓ = false := fun hr => by
          unfold PFl.isProd at hr
          rw [hb] at hr
          have hp : fl.labs[ℓ].prod = some i := by simpa using hr
          unfold PFl.av
          rw [hb]
          simp [hp, hun', -Array.getD_eq_getD_getElem?]
        rw [k3]
        clear hperm hI hI2 hI3 hI4 hI5 hdst hanc hlt hrd h1 hob hnot hopsOf hset hself hLi k3 hk hB hB'
        generalize PFl.isRd s ℓ = x1 at *
        generalize fl.isCons i ℓ = x2 at *
        generalize fl.av L ℓ = x3 at *
        generalize fl.isProd i ℓ = x4 at *
        clear hbg hb
        cases x1 <;> cases x2 <;> cases x3 <;> cases x4 <;> simp at k1 k4 ⊢
    have k2 := (key.map (fun ℓ => R ℓ r')).append_right fr
    rw [List.map_append, List.map_append] at k2
    simpa using k2
theorem pready_nil {L : Array Bool} (hg : fl.good ops n = true) (hL : L.size = ops.size) (hr : Region.ready .any ops L = []) : ∀ i, i < ops.size → L.getD i false = true := by
  intro i
  induction i using Nat.strongRecOn with
  | _ i ih =>
    intro hi
    cases hl : L.getD i false with
    | true => rfl
    | false =>
      exfalso
      have ho : ops[i]? = some ops[i] := Array.getElem?_eq_getElem hi
      obtain ⟨A, s, hA, hs, hgd⟩ := pgood_step hg ho
      unfold pstepGood at hgd
      simp only [Bool.and_eq_true, List.all_eq_true] at hgd
      have hmem : i ∈ Region.ready .any ops L := mem_ready.2 ⟨by
        have hiL : i < L.size := by omega
        simp [hiL] at hl ⊢
        exact hl, ops[i], ho, fun e he hb => by
          have h5 := hgd.1.1.1
          rw [Array.all_eq_true_iff_forall_mem] at h5
          have := h5 e he
          rw [hb] at this
          have hlt : e.on < i := by simpa using this
          exact ih e.on hlt (by omega)⟩
      rw [hr] at hmem
      cases hmem
theorem pflow_any {Q : Exit → Act → World → Prop} (hg : fl.good ops n = true) (hst : PStab ops fl K C R Up) (hob : ∀ i, i < ops.size → pobl P ops fl n w0 F0 K C B R Up i)
    (hfin : ∀ L a w, (∀ i, i < ops.size → L.getD i false = true) → PJ ops fl n w0 F0 K C B R fr L a w → Q .normal a w) :
    ∀ (fuel : Nat) (L : Array Bool) (a : Act) (w : World), L.size = ops.size → Closed .any ops L → (List.range ops.size).countP (fun i => !L.getD i false) ≤ fuel → PJ ops fl n w0 F0 K C B R fr L a w → wpAny P .any ops Q fuel L a w := by
  intro fuel
  induction fuel with
  | zero =>
    intro L a w hL hc hcnt hJ
    have hall : ∀ i, i < ops.size → L.getD i false = true := fun i hi => by
      have h0 : (List.range ops.size).countP (fun i => !L.getD i false) = 0 := by omega
      rw [List.countP_eq_zero] at h0
      have := h0 i (by simpa using hi)
      simpa using this
    refine ⟨?_, hfin L a w hall hJ⟩
    rw [List.eq_nil_iff_forall_not_mem]
    intro i hi
    obtain ⟨h1, o, ho, _⟩ := mem_ready.1 hi
    have h2 := hall i (Array.getElem?_eq_some_iff.1 ho).1
    rw [getD_un h1] at h2
    cases h2
  | succ fuel ih =>
    intro L a w hL hc hcnt hJ
    refine ⟨fun hr => hfin L a w (pready_nil hg hL hr) hJ, fun i hi => ?_⟩
    obtain ⟨h1, o, ho, _⟩ := mem_ready.1 hi
    have hio := (Array.getElem?_eq_some_iff.1 ho).1
    refine wpOp_mono (fun a' w' hJ' => ?_) (PJ_step hg hst hL hc hJ hi (hob i hio) Q)
    refine ih _ a' w' (by simp [hL]) (hc.set hi) ?_ hJ'
    have hun := getD_un h1
    have hlt : (List.range ops.size).countP (fun j => !(L.setIfInBounds i true).getD j false) < (List.range ops.size).countP (fun j => !L.getD j false) := by
      have key : ∀ l : List Nat, (l.countP (fun j => !(L.setIfInBounds i true).getD j false) ≤ l.countP (fun j => !L.getD j false)) ∧ (i ∈ l → l.countP (fun j => !(L.setIfInBounds i true).getD j false) < l.countP (fun j => !L.getD j false)) := by
        intro l
        induction l with
        | nil => simp
        | cons x l ihl =>
          by_cases e : x = i
          · subst e
            have hs : (L.setIfInBounds x true).getD x false = true := by simp [show x < L.size by omega]
            rw [List.countP_cons, List.countP_cons, hs, hun]
            simp
            have := ihl.1
            simp at this
            omega
          · have hs : (L.setIfInBounds i true).getD x false = L.getD x false := getD_set_ne false (fun e' => e e'.symm)
            rw [List.countP_cons, List.countP_cons, hs]
            refine ⟨by have := ihl.1; omega, fun hm => ?_⟩
            have hm' : i ∈ l := by
              rcases List.mem_cons.1 hm with h | h
              · exact absurd h.symm e
              · exact h
            have := ihl.2 hm'
            omega
      exact (key _).2 (by simpa using hio)
    omega
/-- A region whose order is open. -/
theorem wp_pflow {id : Nat} {Q : Exit → Act → World → Prop} {a : Act} {w : World} {l : List Oper} (hm : P.follows .mixedOrders = true) (fl : PFl) {r0 : ρ} (hB : B r0 a) (hC : ∀ j, j < l.length → C j r0 a) (hsz : a.tmps.size = n) (hdf : a.defers = []) (hI : Inv (w0 r0) (F0 r0) w (psel fl R r0 fl.isIni ++ fr))
    (hg : fl.good l.toArray n = true) (hst : PStab l.toArray fl K C R Up) (hob : ∀ i, i < l.length → pobl P l.toArray fl n w0 F0 K C B R Up i)
    (hfin : ∀ (r : ρ) a w, B r a → a.tmps.size = n → a.defers = [] → (∀ i, i < l.length → K i r a) → Inv (w0 r) (F0 r) w (psel fl R r fl.isFin ++ fr) → Q .normal a w) :
    (Code.region id l.toArray true).wp P Q a w := by
  refine wp_region_any hm ?_
  refine pflow_any (fl := fl) (n := n) (w0 := w0) (F0 := F0) (fr := fr) hg hst (fun i hi => hob i (by simpa using hi)) (fun L a w hall hJ => ?_) _ _ a _ (by simp) ?_ ?_ ?_
  · obtain ⟨r, h1, _, h2, h3, h4, hI⟩ := hJ
    refine hfin r a w h2 h3 h4 (fun i hi => h1 i (by simpa using hi) (hall i (by simpa using hi))) (hI.perm ?_)
    refine List.Perm.of_eq ?_
    unfold psel
    congr 2
    refine List.filter_congr fun ℓ hℓ => ?_
    have hℓ' : ℓ < fl.labs.length := by simpa using hℓ
    have hb : fl.labs[ℓ]? = some fl.labs[ℓ] := List.getElem?_eq_getElem hℓ'
    have hbg := pgood_lab hg hb
    unfold PFl.av PFl.isFin
    rw [hb]
    unfold plabGood at hbg
    simp only []
    cases hq : fl.labs[ℓ].cons with
    | none =>
      cases hp : fl.labs[ℓ].prod with
      | none => simp
      | some p =>
        simp only [hp, hq, Bool.and_eq_true] at hbg
        simp [hall p (by have := hbg.1; simpa using this), -Array.getD_eq_getD_getElem?]
    | some c =>
      simp only [hq, Bool.and_eq_true] at hbg
      simp [hall c (by have := hbg.2.1.1; simpa using this), -Array.getD_eq_getD_getElem?]
  · intro x o ho hx
    simp at hx
    exfalso
    rcases Nat.lt_or_ge x l.length with h | h
    · simp [h] at hx
    · simp [Nat.not_lt.2 h] at hx
  · refine Nat.le_trans List.countP_le_length ?_
    simp
  · refine ⟨r0, fun i hi hl => ?_, fun i hi _ => hC i (by simpa using hi), hB, hsz, hdf, ?_⟩
    · exfalso
      rcases Nat.lt_or_ge i l.length with h | h
      · simp [h] at hl
      · simp [Nat.not_lt.2 h] at hl
    · refine Inv.perm (hI.ext ((Below.refl _ _).drew)) ?_
      unfold psel
      refine List.Perm.of_eq ?_
      congr 2
      refine List.filter_congr fun ℓ hℓ => ?_
      have hℓ' : ℓ < fl.labs.length := by simpa using hℓ
      have hb : fl.labs[ℓ]? = some fl.labs[ℓ] := List.getElem?_eq_getElem hℓ'
      have hgd : ∀ j, (Array.replicate l.toArray.size false).getD j false = false := fun j => by
        rw [Array.getD_eq_getD_getElem?]
        cases h : (Array.replicate l.toArray.size false)[j]? with
        | none => rfl
        | some b =>
          rw [Array.getElem?_replicate] at h
          split at h
          · injection h with h; subst h; rfl
          · cases h
      unfold PFl.av PFl.isIni
      rw [hb]
      cases hp : fl.labs[ℓ].prod with
      | none => cases hq : fl.labs[ℓ].cons <;> simp only [hp, hq, Option.all_none, Option.all_some, hgd] <;> rfl
      | some p => simp only [hp, Option.all_some, hgd]; rfl
end
end Go.Tr

/- A symbolic machine: what it computes, and what is to be shown on the way. No program in it. -/
set_option linter.unusedSimpArgs false
set_option linter.unusedVariables false
namespace Go.Tr
open Go Go.RowKit
universe u

/-! ### data with Lean's types -/
/-- Data that holds data of its own kind, as its last part. -/
inductive Tree (α : Type) where
  | node (x : α) (l : List (Tree α))
def Tree.val {α : Type} : Tree α → α
  | .node x _ => x
def Tree.kids {α : Type} : Tree α → List (Tree α)
  | .node _ l => l
mutual
def encT {α : Type} (f : α → List D) : Tree α → List D
  | .node x l => f x ++ [.sl l.length (encTs f l)]
def encTs {α : Type} (f : α → List D) : List (Tree α) → List D
  | [] => []
  | t :: l => encT f t ++ encTs f l
end
theorem encTs_eq {α : Type} {f : α → List D} : ∀ {l : List (Tree α)}, encTs f l = l.flatMap (encT f)
  | [] => by unfold encTs; rfl
  | t :: l => by unfold encTs; rw [encTs_eq (l := l), List.flatMap_cons]
inductive U where
  | int (k : IntKind)
  | bool
  | str
  | pair (a b : U)
  | any
  | sl (e : U)
  | tree (e : U)
  deriving DecidableEq
@[reducible] def El : U → Type
  | .int _ => Int
  | .bool => Bool
  | .str => ByteArray
  | .any => Value
  | .pair a b => El a × El b
  | .sl e => List (El e)
  | .tree e => Tree (El e)
def U.size : U → Nat
  | .pair a b => a.size + b.size
  | .tree a => a.size + 1
  | _ => 1
def enc : (u : U) → El u → List D
  | .int k, x => [.v (.int k x)]
  | .bool, x => [.v (.bool x)]
  | .str, x => [.v (.string x)]
  | .any, x => [.v x]
  | .pair a b, x => enc a x.1 ++ enc b x.2
  | .sl e, xs => [.sl (List.length (α := El e) xs) (List.flatMap (enc e) xs)]
  | .tree e, x => encT (enc e) x
def dflt : (u : U) → El u
  | .int _ => (0 : Int)
  | .bool => false
  | .str => ⟨#[]⟩
  | .any => undef
  | .pair a b => (dflt a, dflt b)
  | .sl _ => []
  | .tree e => .node (dflt e) []
def elt {α : Type} (d : α) (xs : List α) (i : Int) : α := xs.getD i.toNat d
structure UE where
  u : U
  x : El u
/-- Field i of m. -/
def fldU : Nat → Nat → (u : U) → El u → Option UE
  | 0, 1, u, x => some ⟨u, x⟩
  | 0, _ + 2, .pair a _, x => some ⟨a, x.1⟩
  | i + 1, m + 2, .pair _ b, x => fldU i (m + 1) b x.2
  | i, m + 2, .tree e, x => bif Nat.beq i (m + 1) then some ⟨.sl (.tree e), Tree.kids x⟩ else fldU i (m + 1) e (Tree.val x)
  | _, _, _, _ => none
def fldO : Nat → Nat → U → Nat
  | i + 1, m + 2, .pair a b => a.size + fldO i (m + 1) b
  | i, m + 2, .tree e => bif Nat.beq i (m + 1) then e.size else fldO i (m + 1) e
  | _, _, _ => 0

def fldS : Nat → Nat → U → Nat
  | 0, 1, u => u.size
  | 0, _ + 2, .pair a _ => a.size
  | i + 1, m + 2, .pair _ b => fldS i (m + 1) b
  | i, m + 2, .tree e => bif Nat.beq i (m + 1) then 1 else fldS i (m + 1) e
  | _, _, _ => 0
def placesOf (P : Program) (t : Nat) : Option (List (Nat × Nat)) := match P.underlying t with
  | some (.struct fields) => fields.toList.mapM fun f => (P.info? f.type).map fun i => (f.offset, i.size)
  | _ => none

/-! ### what a slot holds -/
inductive SV where
  | int (k : IntKind) (i : Int)
  | bool (b : Bool)
  | raw (v : Value)
  | rsl (e : U) (xs : List (El e))
  | rp (u : U) (x : El u)
  | ptr (g o : Nat)
  | sl (g : Nat)
  | ep (g s : Nat) (i : Int) (o : Nat)
  | agg (l : List SV)
  | tup (l : List SV)
  | fn (f : Nat) (l : List SV)
  | un
  | gd (d : Nat) (b : Bool) (v : SV)
  | nh (k : Int) (o n : Nat) (hdr : Value)
  | np (k : Int) (o n : Nat) (hdr : Value) (s : Nat) (i : Int) (j : Nat)
  | mp (g : Nat)
  | nn (e : U) (xs : List (El e))
  | sx (g s lo n : Nat)
inductive Tok where
  | cel (g : Nat) (t : TypeId) (cs : List SV)
  | row (g : Nat) (t : TypeId) (s : Nat) (u : U) (xs : List (El u)) (us : List Value)
  | map (g : Nat) (u : U) (kv : List (Int × El u))
  | nest (g : Nat) (u : U) (xs : List (El u)) (us : List Value)
  | dat (g : Nat) (t : TypeId) (s : Nat) (u : U) (xs : List (El u))
abbrev Ev := List (Nat × SV)
def lk {α : Type u} : List (Nat × α) → Nat → Option α
  | [], _ => none
  | (k, v) :: l, t => bif Nat.beq t k then some v else lk l t
def nth {α : Type u} : List α → Nat → Option α
  | [], _ => none
  | x :: _, 0 => some x
  | _ :: l, n + 1 => nth l n
def dropN {α : Type u} : Nat → List α → List α
  | 0, l => l
  | _, [] => []
  | n + 1, _ :: l => dropN n l
def takeN {α : Type u} : Nat → List α → Option (List α)
  | 0, _ => some []
  | _, [] => none
  | n + 1, x :: l => match takeN n l with | some r => some (x :: r) | none => none
def svOf : (u : U) → El u → List SV
  | .int k, x => [.int k x]
  | .bool, x => [.bool x]
  | .str, x => [.raw (.string x)]
  | .any, x => [.raw x]
  | .pair a b, x => svOf a x.1 ++ svOf b x.2
  | .sl e, xs => [.rsl e xs]
  | .tree e, x => svOf e (Tree.val x) ++ [.rsl (.tree e) (Tree.kids x)]

/-! ### the types of a program -/
inductive TInfo where
  | sc (z : SV)
  | bool
  | ptr (e : Nat)
  | st (m size : Nat) (u : U) (zs : List SV)
  | sl (e s : Nat) (u : U)
  | mp (u : U)
abbrev TI := List (Nat × TInfo)
def den0 : SV → Value
  | .int k i => .int k i
  | .bool b => .bool b
  | .raw v => v
  | _ => .tuple #[]
def solid0 : SV → Bool
  | .int _ _ => true
  | .bool _ => true
  | .raw v => v.oneCell'
  | _ => false
/-- The cells of a new variable. -/
def zeroT : TInfo → List SV
  | .sc z => [z]
  | .bool => [.bool false]
  | .ptr _ => [.raw (.pointer none)]
  | .st _ _ _ zs => zs
  | .sl _ _ _ => [.raw (.slice none 0 0)]
  | .mp _ => [.raw (.map none)]
def valEq : Value → Value → Bool
  | .int k i, .int k' j => k == k' && i == j
  | .bool a, .bool b => a == b
  | .string a, .string b => a.data == b.data
  | .pointer none, .pointer none => true
  | .slice none 0 0, .slice none 0 0 => true
  | .map none, .map none => true
  | .nilFunc, .nilFunc => true
  | .nilIface, .nilIface => true
  | _, _ => false
def valsEq : List Value → List Value → Bool
  | [], [] => true
  | a :: l, b :: m => valEq a b && valsEq l m
  | _, _ => false
def zvals : U → List Value
  | .int k => [.int k 0]
  | .bool => [.bool false]
  | .str => [.string ⟨#[]⟩]
  | .any => []
  | .pair a b => zvals a ++ zvals b
  | .sl _ => [.slice none 0 0]
  | .tree e => zvals e ++ [.slice none 0 0]
def vOf : (u : U) → El u → Value
  | .int k, x => .int k x
  | .bool, x => .bool x
  | _, _ => undef
def u1 : U → Bool
  | .int _ => true
  | .bool => true
  | _ => false
def tiOk1 (P : Program) (t : Nat) (x : TInfo) : Bool :=
  ((zeroT x).all solid0 && (match zeroOf P t with | some zs => valsEq zs ((zeroT x).map den0) | none => false) && (P.info? t).map (·.size) == some (zeroT x).length) && (match x with
  | .sc z => aggB P t == some false && (match z with | .int k _ => (match P.underlying t with | some (.int k') => k == k' | _ => false) | _ => true)
  | .bool => aggB P t == some false && (match P.underlying t with | some .bool => true | _ => false)
  | .ptr _ => aggB P t == some false
  | .sl e s u => aggB P t == some false && elemOf? P t == some (e, s) && Nat.beq u.size s && Nat.blt 0 s && (P.info? e).map (fun i => (i.zero.map (·.cells.size), i.size, decide (i.bytes ≤ 1000))) == some (some s, s, true)
  | .mp u => aggB P t == some false && u1 u && (match P.underlying t with | some (.map k e) => (match P.underlying k with | some (.int .i64) => true | _ => false) && (match (P.info? e).bind (·.zero) with | some z => valEq z (vOf u (dflt u)) | none => false) | _ => false)
  | .st m size u _ => aggB P t == some true && (P.info? t).map (·.size) == some size && Nat.beq u.size size && ((List.range m).all fun i => fldOff P t i == some (fldO i m u)) && placesOf P t == some ((List.range m).map fun i => (fldO i m u, fldS i m u)))
def tiOk (P : Program) (ti : TI) : Bool := ti.all fun x => tiOk1 P x.1 x.2

def eqU : U → U → Bool
  | .int k, .int k' => k == k'
  | .bool, .bool => true
  | .str, .str => true
  | .any, .any => true
  | .pair a b, .pair c d => eqU a c && eqU b d
  | .sl a, .sl b => eqU a b
  | .tree a, .tree b => eqU a b
  | _, _ => false
theorem eqU_ok : ∀ {u v : U}, eqU u v = true → u = v
  | .int _, .int _, h => by simp only [eqU, beq_iff_eq] at h; rw [h]
  | .bool, .bool, _ | .str, .str, _ | .any, .any, _ => rfl
  | .pair a b, .pair c d, h => by
    simp only [eqU, Bool.and_eq_true] at h
    rw [eqU_ok h.1, eqU_ok h.2]
  | .sl a, .sl b, h => by simp only [eqU] at h; rw [eqU_ok h]
  | .tree a, .tree b, h => by simp only [eqU] at h; rw [eqU_ok h]
  | .tree _, .int _, h | .tree _, .bool, h | .tree _, .str, h | .tree _, .any, h | .tree _, .pair _ _, h | .tree _, .sl _, h => by cases h
  | .int _, .tree _, h | .bool, .tree _, h | .str, .tree _, h | .any, .tree _, h | .pair _ _, .tree _, h | .sl _, .tree _, h => by cases h
  | .int _, .bool, h | .int _, .str, h | .int _, .any, h | .int _, .pair _ _, h | .int _, .sl _, h => by cases h
  | .bool, .int _, h | .bool, .str, h | .bool, .any, h | .bool, .pair _ _, h | .bool, .sl _, h => by cases h
  | .str, .int _, h | .str, .bool, h | .str, .any, h | .str, .pair _ _, h | .str, .sl _, h => by cases h
  | .any, .int _, h | .any, .bool, h | .any, .str, h | .any, .pair _ _, h | .any, .sl _, h => by cases h
  | .pair _ _, .int _, h | .pair _ _, .bool, h | .pair _ _, .str, h | .pair _ _, .any, h | .pair _ _, .sl _, h => by cases h
  | .sl _, .int _, h | .sl _, .bool, h | .sl _, .str, h | .sl _, .any, h | .sl _, .pair _ _, h => by cases h
/-! ### values of operations that change nothing -/
inductive R where
  | no
  | ok (v : SV)
  | vc (p : Prop) (v : SV)
  | ex (f : Nat → R)
def ofV : Value → SV
  | .int k i => .int k i
  | .bool b => .bool b
  | v => .raw v
/-- An operand; g: the guard's slot under which it is read. -/
def evs (env : Ev) (g : Option (Nat × Bool)) : Operand → Option SV
  | .tmp t => match lk env t with
    | some (.gd d b v) => match g with
      | some (d', b') => bif Nat.beq d d' && (b == b') then some v else none
      | none => none
    | r => r
  | .const v => match v with
    | .int k i => some (.int k i)
    | .bool b => some (.bool b)
    | .string s => some (.raw (.string s))
    | .pointer none => some (.raw (.pointer none))
    | .slice none 0 0 => some (.raw (.slice none 0 0))
    | _ => none
  | .func f => some (.fn f [])
  | _ => none
def evsL (env : Ev) (g : Option (Nat × Bool)) : List Operand → Option (List SV)
  | [] => some []
  | x :: l => match evs env g x, evsL env g l with
    | some v, some r => some (v :: r)
    | _, _ => none
/-- Under one guard, or else under another one. -/
def evs2 (env : Ev) (g g' : Option (Nat × Bool)) (x : Operand) : Option SV := match evs env g' x with
  | some v => some v
  | none => evs env g x
/-- Numbers of any kind. -/
def binZ (o : BinOp) (k k' : IntKind) (i j : Int) : R := match o with
  | .shr => .vc (0 ≤ j) (.int k (i.fdiv (2 ^ (min j.toNat k.bits))))
  | .shl => .vc (0 ≤ j) (.int k (k.wrap (i * 2 ^ (min j.toNat k.bits))))
  | o => bif k == k' then (match o with
    | .add => .ok (.int k (k.wrap (i + j)))
    | .sub => .ok (.int k (k.wrap (i - j)))
    | .mul => .ok (.int k (k.wrap (i * j)))
    | .quo => .vc (j ≠ 0) (.int k (k.wrap (i.tdiv j)))
    | .rem => .vc (j ≠ 0) (.int k (i.tmod j))
    | .and => .ok (.int k (bits .and k i j))
    | .or => .ok (.int k (bits .or k i j))
    | .xor => .ok (.int k (bits .xor k i j))
    | .lss => .ok (.bool (decide (i < j)))
    | .leq => .ok (.bool (decide (i ≤ j)))
    | .gtr => .ok (.bool (decide (j < i)))
    | .geq => .ok (.bool (decide (j ≤ i)))
    | .eql => .ok (.bool (i == j))
    | .neq => .ok (.bool (i != j))
    | _ => .no) else .no
def binR : BinOp → SV → SV → R
  | .add, .int .i64 i, .int .i64 j => .ok (.int .i64 (IntKind.i64.wrap (i + j)))
  | .sub, .int .i64 i, .int .i64 j => .ok (.int .i64 (IntKind.i64.wrap (i - j)))
  | .mul, .int .i64 i, .int .i64 j => .ok (.int .i64 (IntKind.i64.wrap (i * j)))
  | .quo, .int .i64 i, .int .i64 j => .vc (j ≠ 0) (.int .i64 (IntKind.i64.wrap (i.tdiv j)))
  | .rem, .int .i64 i, .int .i64 j => .vc (j ≠ 0) (.int .i64 (i.tmod j))
  | .lss, .int .i64 i, .int .i64 j => .ok (.bool (decide (i < j)))
  | .leq, .int .i64 i, .int .i64 j => .ok (.bool (decide (i ≤ j)))
  | .gtr, .int .i64 i, .int .i64 j => .ok (.bool (decide (j < i)))
  | .geq, .int .i64 i, .int .i64 j => .ok (.bool (decide (j ≤ i)))
  | .eql, .int .i64 i, .int .i64 j => .ok (.bool (i == j))
  | .neq, .int .i64 i, .int .i64 j => .ok (.bool (i != j))
  | o, .int k i, .int k' j => binZ o k k' i j
  | _, _, _ => .no
def celOf : List Tok → Nat → Option (List SV)
  | [], _ => none
  | .cel g _ cs :: l, k => bif Nat.beq g k then some cs else celOf l k
  | .row _ _ _ _ _ _ :: l, k => celOf l k
  | .map _ _ _ :: l, k => celOf l k
  | .nest _ _ _ _ :: l, k => celOf l k
  | .dat _ _ _ _ _ :: l, k => celOf l k
structure RowI where
  t : TypeId
  s : Nat
  u : U
  xs : List (El u)
  us : List Value
def rowOf : List Tok → Nat → Option RowI
  | [], _ => none
  | .row g t s u xs us :: l, k => bif Nat.beq g k then some ⟨t, s, u, xs, us⟩ else rowOf l k
  | .cel _ _ _ :: l, k => rowOf l k
  | .map _ _ _ :: l, k => rowOf l k
  | .nest _ _ _ _ :: l, k => rowOf l k
  | .dat _ _ _ _ _ :: l, k => rowOf l k
structure DatI where
  t : TypeId
  s : Nat
  u : U
  xs : List (El u)
def datOf : List Tok → Nat → Option DatI
  | [], _ => none
  | .dat g t s u xs :: l, k => bif Nat.beq g k then some ⟨t, s, u, xs⟩ else datOf l k
  | .row _ _ _ _ _ _ :: l, k => datOf l k
  | .cel _ _ _ :: l, k => datOf l k
  | .map _ _ _ :: l, k => datOf l k
  | .nest _ _ _ _ :: l, k => datOf l k
structure MapI where
  u : U
  kv : List (Int × El u)
def mapOf : List Tok → Nat → Option MapI
  | [], _ => none
  | .map g u kv :: l, k => bif Nat.beq g k then some ⟨u, kv⟩ else mapOf l k
  | .cel _ _ _ :: l, k => mapOf l k
  | .row _ _ _ _ _ _ :: l, k => mapOf l k
  | .nest _ _ _ _ :: l, k => mapOf l k
  | .dat _ _ _ _ _ :: l, k => mapOf l k
def kvGet {α : Type u} (d : α) : List (Int × α) → Int → α
  | [], _ => d
  | (k, v) :: l, i => bif k == i then v else kvGet d l i
def kvSet {α : Type u} : List (Int × α) → Int → α → List (Int × α)
  | [], i, x => [(i, x)]
  | (k, v) :: l, i, x => bif k == i then (k, x) :: l else (k, v) :: kvSet l i x
/-- The cells of an element of a row of the call's own: the slices in it as they stand there. -/
def nhL (us : List Value) (k : Int) (s o : Nat) : List SV → List SV
  | [] => []
  | v :: l => match v with
    | .rsl e ys => .nh k o (List.length (α := El e) ys) (us.getD (k.toNat * s + o) undef) :: nhL us k s (o + 1) l
    | v => v :: nhL us k s (o + 1) l
/-- The slice in an element. -/
def nestOf (u : U) (x : El u) (o : Nat) : Option UE := match nth (svOf u x) o with
  | some (.rsl e ys) => some ⟨.sl e, ys⟩
  | _ => none
def solidL : List SV → Bool
  | [] => true
  | v :: l => match v with
    | .int _ _ => solidL l
    | .bool _ => solidL l
    | .raw _ => solidL l
    | _ => false
def nestL : List SV → Bool
  | [] => true
  | v :: l => match v with
    | .int _ _ => nestL l
    | .bool _ => nestL l
    | .raw _ => nestL l
    | .rsl _ _ => nestL l
    | _ => false
/-- The slice hdr stands in element k of a row, at o. -/
def npOk {α : Type} (xs : List α) (us : List Value) (k : Int) (s o : Nat) (hdr : Value) : Prop := 0 ≤ k ∧ k < (xs.length : Nat) ∧ us[k.toNat * s + o]? = some hdr
def loadR (ti : TI) (rs : List Tok) (t : Nat) : SV → R
  | .rp u x => match lk ti t with
    | some (.st _ n _ _) => bif Nat.beq u.size n then .ok (.agg (svOf u x)) else .no
    | some _ => match svOf u x with | [v] => .ok v | _ => .no
    | none => .no
  | .ptr g o => match celOf rs g with
    | some cs => match lk ti t with
      | some (.st _ n _ _) => match takeN n (dropN o cs) with | some l => .ok (.agg l) | none => .no
      | some _ => match nth cs o with | some v => .ok v | none => .no
      | none => .no
    | none => .no
  | .ep g s i o => match rowOf rs g with
    | some ⟨_, s', u, xs, us⟩ => bif Nat.beq s s' then (match lk ti t with
      | some (.st _ n _ _) => match takeN n (dropN o (svOf u (elt (dflt u) xs i))) with | some l => bif solidL l then .ok (.agg l) else bif nestL l then .vc (i.toNat * s + s ≤ us.length) (.agg (nhL us i s o l)) else .no | none => .no
      | some _ => match nth (svOf u (elt (dflt u) xs i)) o with | some v => bif solidL [v] then .ok v else bif nestL [v] then (match nhL us i s o [v] with | [v'] => .vc (i.toNat * s + s ≤ us.length) v' | _ => .no) else .no | none => .no
      | none => .no) else .no
    | none => match datOf rs g with
      | some ⟨_, s', u, xs⟩ => bif Nat.beq s s' then (match lk ti t with
        | some (.st _ n _ _) => match takeN n (dropN o (svOf u (elt (dflt u) xs i))) with | some l => .ok (.agg l) | none => .no
        | some _ => match nth (svOf u (elt (dflt u) xs i)) o with | some v => .ok v | none => .no
        | none => .no) else .no
      | none => .no
  | .np k o n hdr s2 i j => .ex fun g => match rowOf rs g with
    | some ⟨_, s, u, xs, us⟩ => match nestOf u (elt (dflt u) xs k) o with
      | some ⟨.sl e, ys⟩ => bif Nat.beq s2 e.size then (match lk ti t with
        | some (.st _ q _ _) => match takeN q (dropN j (svOf e (elt (dflt e) ys i))) with | some l => bif solidL l then .vc (npOk xs us k s o hdr ∧ 0 ≤ i ∧ i < (n : Nat)) (.agg l) else .no | none => .no
        | some _ => match nth (svOf e (elt (dflt e) ys i)) j with | some v => bif solidL [v] then .vc (npOk xs us k s o hdr ∧ 0 ≤ i ∧ i < (n : Nat)) v else .no | none => .no
        | none => .no) else .no
      | _ => .no
    | none => .no
  | _ => .no
def pickSV (c : Bool) : SV → SV → Option SV
  | .bool a, .bool b => some (.bool (bif c then a else b))
  | .int .i64 i, .int .i64 j => some (.int .i64 (bif c then i else j))
  | _, _ => none
def cellsOf : SV → List SV
  | .agg l => l
  | v => [v]
def setN : Nat → List SV → List SV → Option (List SV)
  | 0, [], cs => some cs
  | 0, v :: l, _ :: cs => match setN 0 l cs with | some r => some (v :: r) | none => none
  | o + 1, l, c :: cs => match setN o l cs with | some r => some (c :: r) | none => none
  | _, _, [] => none
/-- The cells of a struct, part by part. -/
def bldL (env : Ev) (g : Option (Nat × Bool)) (m : Nat) (u : U) : List (Nat × Operand) → List SV → Option (List SV)
  | [], cs => some cs
  | (i, x) :: l, cs => match evs env g x with
    | some v => bif Nat.blt i m && Nat.beq (cellsOf v).length (fldS i m u) then (match setN (fldO i m u) (cellsOf v) cs with | some cs' => bldL env g m u l cs' | none => none) else none
    | none => none
def opR (ti : TI) (env : Ev) (rs : List Tok) (g : Option (Nat × Bool)) : Op → R
  | .move x => match evs env g x with | some v => .ok v | none => .no
  | .assign x => match evs env g x with | some v => .ok v | none => .no
  | .nilCheck x => match evs env g x with
    | some (.rp u x) => .ok (.rp u x) | some (.ptr h o) => .ok (.ptr h o) | some (.ep h s i o) => .ok (.ep h s i o) | some (.np k o n hdr s i j) => .ok (.np k o n hdr s i j) | _ => .no
  | .fieldAddr s x i => match lk ti s, evs env g x with
    | some (.st m _ u' _), some (.rp u x) => bif Nat.beq (fldO i m u) (fldO i m u') then (match fldU i m u x with | some ⟨u2, x2⟩ => .ok (.rp u2 x2) | none => .no) else .no
    | some (.st m _ u _), some (.ptr h o) => bif Nat.blt i m then .ok (.ptr h (o + fldO i m u)) else .no
    | some (.st m _ u _), some (.ep h s j o) => bif Nat.blt i m then .ok (.ep h s j (o + fldO i m u)) else .no
    | some (.st m _ u _), some (.np k o n hdr s q j) => bif Nat.blt i m then .ok (.np k o n hdr s q (j + fldO i m u)) else .no
    | _, _ => .no
  | .load t x => match evs env g x with | some v => loadR ti rs t v | none => .no
  | .binOp o t x y _ => match evs env g x, evs env g y with
    | some (.bool a), some (.bool b) => match lk ti t, o with
      | some .bool, .eql => .ok (.bool (a == b))
      | some .bool, .neq => .ok (.bool (a != b))
      | _, _ => .no
    | some (.raw (.slice none _ _)), some (.raw (.slice none 0 0)) => match lk ti t, o with
      | some (.sl _ _ _), .eql => .ok (.bool true)
      | _, _ => .no
    | some (.nn _ _), some (.raw (.slice none 0 0)) => match lk ti t, o with
      | some (.sl _ _ _), .eql => .ok (.bool false)
      | _, _ => .no
    | some v, some u => binR o v u
    | _, _ => .no
  | .unOp .not _ x => match evs env g x with | some (.bool b) => .ok (.bool (!b)) | _ => .no
  | .unOp .neg _ x => match evs env g x with | some (.int .i64 i) => .ok (.int .i64 (IntKind.i64.wrap (0 - i))) | _ => .no
  | .indexAddr t x y => match lk ti t, evs env g x, evs env g y with
    | some (.sl _ _ u), some (.rsl e xs), some (.int .i64 i) => bif Nat.beq u.size e.size then .vc (0 ≤ i ∧ i < (List.length (α := El e) xs : Nat)) (.rp e (elt (dflt e) xs i)) else .no
    | some (.sl _ s _), some (.nh k o n hdr), some (.int .i64 i) => .vc (0 ≤ i ∧ i < (n : Nat)) (.np k o n hdr s i 0)
    | some (.sl _ s _), some (.sl h), some (.int .i64 i) => match rowOf rs h with
      | some ⟨_, s', u, xs, _⟩ => bif Nat.beq s s' then .vc (0 ≤ i ∧ i < (List.length (α := El u) xs : Nat)) (.ep h s i 0) else .no
      | none => match datOf rs h with
        | some ⟨_, s', u, xs⟩ => bif Nat.beq s s' then .vc (0 ≤ i ∧ i < (List.length (α := El u) xs : Nat)) (.ep h s i 0) else .no
        | none => .no
    | some (.sl _ s _), some (.sx h s' lo n), some (.int .i64 i) => bif Nat.beq s s' then .vc (0 ≤ i ∧ i < (n : Nat)) (.ep h s ((lo : Nat) + i) 0) else .no
    | _, _, _ => .no
  | .slice t x (some y) none none => match lk ti t, evs env g x, evs env g y with
    | some (.sl _ s _), some (.sl h), some (.int .i64 i) => match rowOf rs h with
      | some ⟨_, s', u, xs, _⟩ => bif Nat.beq s s' then .vc (0 ≤ i ∧ i < (List.length (α := El u) xs : Nat)) (.sx h s i.toNat (List.length (α := El u) xs - i.toNat)) else .no
      | none => .no
    | _, _, _ => .no
  | .build t ps => match lk ti t with
    | some (.st m _ u zs) => match bldL env g m u ps.toList zs with | some l => .ok (.agg l) | none => .no
    | _ => .no
  | .makeFunc (.func f) ts xs => match ts.toList, evsL env g xs.toList with
    | [], some l => .ok (.fn f l)
    | _, _ => .no
  | .lookup t x y false => match lk ti t, evs env g x, evs env g y with
    | some (.mp u), some (.mp h), some (.int .i64 i) => match mapOf rs h with
      | some ⟨u', kv⟩ => bif eqU u u' then (match svOf u' (kvGet (dflt u') kv i) with | [v] => .ok v | _ => .no) else .no
      | none => .no
    | _, _, _ => .no
  | .convert s d x => match lk ti s, lk ti d, evs env g x with
    | some (.sc _), some (.sc (.int k _)), some (.int _ i) => .ok (.int k (k.wrap i))
    | _, _, _ => .no
  | .extract x i => match evs env g x with
    | some (.tup l) => match nth l i with | some v => .ok v | none => .no
    | _ => .no
  | .pick (.tmp c) x y => match evs env g (.tmp c) with
    | some (.bool b) => match evs2 env g (some (c, true)) x, evs2 env g (some (c, false)) y with
      | some v, some u => match pickSV b v u with | some r => .ok r | none => .no
      | _, _ => .no
    | _ => .no
  | .call c => match c.callee, c.args.toList, c.argTypes.toList with
    | .builtin .len, [x], [t] => match lk ti t, evs env g x with
      | some (.sl _ _ _), some (.rsl e xs) => .ok (.int .i64 (List.length (α := El e) xs : Nat))
      | some (.sl _ _ _), some (.sl h) => match rowOf rs h with
        | some ⟨_, _, u, xs, _⟩ => .ok (.int .i64 (List.length (α := El u) xs : Nat))
        | none => match datOf rs h with
          | some ⟨_, _, u, xs⟩ => .ok (.int .i64 (List.length (α := El u) xs : Nat))
          | none => .no
      | some (.sl _ _ _), some (.raw (.slice none 0 0)) => .ok (.int .i64 0)
      | some (.sl _ _ _), some (.nh _ _ n _) => .ok (.int .i64 (n : Nat))
      | some (.sl _ _ _), some (.sx _ _ _ n) => .ok (.int .i64 (n : Nat))
      | some (.mp _), some (.mp h) => match mapOf rs h with
        | some ⟨_, kv⟩ => .ok (.int .i64 (kv.length : Nat))
        | none => .no
      | _, _ => .no
    | .builtin .max, [x, y], _ => match evs env g x, evs env g y with
      | some (.int k i), some (.int _ j) => .ok (.int k (max i j))
      | _, _ => .no
    | .builtin .min, [x, y], _ => match evs env g x, evs env g y with
      | some (.int k i), some (.int _ j) => .ok (.int k (min i j))
      | _, _ => .no
    | _, _, _ => .no
  | _ => .no

/-! ### things that are taken, made, renamed -/
def coe {u v : U} (h : u = v) (xs : List (El u)) : List (El v) := h ▸ xs
def coe2 {u v : U} (h : u = v) (kv : List (Int × El u)) : List (Int × El v) := h ▸ kv
@[simp] theorem coe2_rfl {u : U} (h : u = u) (kv : List (Int × El u)) : coe2 h kv = kv := rfl
@[simp] theorem coe_rfl {u : U} (h : u = u) (xs : List (El u)) : coe h xs = xs := rfl
def Tok.name : Tok → Nat
  | .cel g _ _ => g
  | .row g _ _ _ _ _ => g
  | .map g _ _ => g
  | .nest g _ _ _ => g
  | .dat g _ _ _ _ => g
def takeTok : List Tok → Nat → (Tok → List Tok → Prop) → Prop → Prop
  | [], _, _, N => N
  | .cel g t cs :: l, k, K, N => bif Nat.beq g k then K (.cel g t cs) l else takeTok l k (fun x l' => K x (.cel g t cs :: l')) N
  | .row g t s u xs us :: l, k, K, N => bif Nat.beq g k then K (.row g t s u xs us) l else takeTok l k (fun x l' => K x (.row g t s u xs us :: l')) N
  | .map g u kv :: l, k, K, N => bif Nat.beq g k then K (.map g u kv) l else takeTok l k (fun x l' => K x (.map g u kv :: l')) N
  | .nest g u xs us :: l, k, K, N => bif Nat.beq g k then K (.nest g u xs us) l else takeTok l k (fun x l' => K x (.nest g u xs us :: l')) N
  | .dat g t s u xs :: l, k, K, N => bif Nat.beq g k then K (.dat g t s u xs) l else takeTok l k (fun x l' => K x (.dat g t s u xs :: l')) N
def takeCel (rs : List Tok) (k : Nat) (K : TypeId → List SV → List Tok → Prop) : Prop := takeTok rs k (fun x l => match x with | .cel _ t cs => K t cs l | _ => False) False
def takeRow (rs : List Tok) (k : Nat) (K : TypeId → Nat → (u : U) → List (El u) → List Value → List Tok → Prop) : Prop := takeTok rs k (fun x l => match x with | .row _ t s u xs us => K t s u xs us l | _ => False) False
def takeMap (rs : List Tok) (k : Nat) (K : (u : U) → List (Int × El u) → List Tok → Prop) : Prop := takeTok rs k (fun x l => match x with | .map _ u kv => K u kv l | _ => False) False
def takeNest (rs : List Tok) (k : Nat) (K : (u : U) → List (El u) → List Value → List Tok → Prop) : Prop := takeTok rs k (fun x l => match x with | .nest _ u xs us => K u xs us l | _ => False) False
def takeDat (rs : List Tok) (k : Nat) (K : TypeId → Nat → (u : U) → List (El u) → List Tok → Prop) : Prop := takeTok rs k (fun x l => match x with | .dat _ t s u xs => K t s u xs l | _ => False) False
/-- Data out of cells; rows of the call's own go into it. -/
def mkK : (u : U) → List SV → List Tok → (El u → List SV → List Tok → Prop) → Prop
  | .int k, c :: l, rs, K => match c with | .int k' i => bif k' == k then K i l rs else False | _ => False
  | .bool, c :: l, rs, K => match c with | .bool b => K b l rs | _ => False
  | .str, c :: l, rs, K => match c with | .raw (.string x) => K x l rs | _ => False
  | .any, c :: l, rs, K => match c with | .raw x => K x l rs | .int k i => K (.int k i) l rs | .nh _ _ _ hdr => K hdr l rs | _ => False
  | .pair a b, l, rs, K => mkK a l rs fun x l' rs' => mkK b l' rs' fun y l'' rs'' => K (x, y) l'' rs''
  | .sl e, c :: l, rs, K => match c with
    | .sl h => takeRow rs h fun _ s u xs _ rs' => if hu : eqU u e = true then (bif Nat.beq s e.size then K (coe (eqU_ok hu) xs) l rs' else False) else False
    | .raw (.slice none 0 0) => K [] l rs
    | _ => False
  | .tree e, l, rs, K => mkK e l rs fun x l' rs' => match l' with
    | c :: l'' => (match c with
      | .sl h => takeRow rs' h fun _ s u xs _ rs'' => if hu : eqU u (.tree e) = true then (bif Nat.beq s (e.size + 1) then K (.node x (coe (eqU_ok hu) xs)) l'' rs'' else False) else False
      | .raw (.slice none 0 0) => K (.node x []) l'' rs'
      | _ => False)
    | [] => False
  | _, [], _, _ => False
def mkLK (u : U) : List (List SV) → List Tok → (List (El u) → List Tok → Prop) → Prop
  | [], rs, K => K [] rs
  | c :: cs, rs, K => mkK u c rs fun x l rs' => match l with | [] => mkLK u cs rs' fun xs rs'' => K (x :: xs) rs'' | _ => False
/-- Elements of which the cells alone are held. -/
def hol : Nat → U
  | 0 => .any
  | 1 => .any
  | n + 2 => .pair .any (hol (n + 1))
def hasNh1 : List SV → Bool
  | [] => false
  | v :: l => match v with
    | .nh _ _ _ _ => true
    | _ => hasNh1 l
def hasNh : List (List SV) → Bool
  | [] => false
  | c :: l => hasNh1 c || hasNh l
def partsL (env : Ev) (g : Option (Nat × Bool)) : List (Nat × Operand) → Nat → Option (List (List SV))
  | [], _ => some []
  | (i, x) :: l, k => bif Nat.beq i k then (match evs env g x, partsL env g l (k + 1) with | some v, some r => some (cellsOf v :: r) | _, _ => none) else none
def box1 : SV → Bool
  | .int _ _ => true
  | .bool _ => true
  | .raw _ => true
  | .rsl _ _ => true
  | .rp _ _ => true
  | .ptr _ _ => true
  | .sl _ => true
  | .ep _ _ _ _ => true
  | .nh _ _ _ _ => true
  | .np _ _ _ _ _ _ _ => true
  | .mp _ => true
  | .nn _ _ => true
  | .fn _ _ => true
  | _ => false
def boxL : List SV → Bool
  | [] => true
  | v :: l => box1 v && boxL l
def setAt : Nat → List SV → List SV → (List SV → Prop) → Prop
  | 0, [], cs, K => K cs
  | 0, v :: l, _ :: cs, K => setAt 0 l cs fun r => K (v :: r)
  | o + 1, l, c :: cs, K => setAt o l cs fun r => K (c :: r)
  | _, _, [], _ => False
def rnN (st : Bool) (σ : List (Nat × Nat)) (g : Nat) (K : Nat → Prop) : Prop := match lk σ g with
  | some h => K h
  | none => match st with | true => False | false => K g
mutual
def rnK (st : Bool) (σ : List (Nat × Nat)) : SV → (SV → Prop) → Prop
  | .ptr g o, K => rnN st σ g fun h => K (.ptr h o)
  | .sl g, K => rnN st σ g fun h => K (.sl h)
  | .ep g s i o, K => rnN st σ g fun h => K (.ep h s i o)
  | .mp g, K => rnN st σ g fun h => K (.mp h)
  | .nh k o n hdr, K => K (.nh k o n hdr)
  | .np k o n hdr s i j, K => K (.np k o n hdr s i j)
  | .nn e xs, K => K (.nn e xs)
  | .sx g s lo n, K => rnN st σ g fun h => K (.sx h s lo n)
  | .agg l, K => rnLK st σ l fun l' => K (.agg l')
  | .tup l, K => rnLK st σ l fun l' => K (.tup l')
  | .fn f l, K => rnLK st σ l fun l' => K (.fn f l')
  | .int k i, K => K (.int k i)
  | .bool b, K => K (.bool b)
  | .raw v, K => K (.raw v)
  | .rsl e xs, K => K (.rsl e xs)
  | .rp u x, K => K (.rp u x)
  | .un, K => K .un
  | .gd _ _ _, _ => False
def rnLK (st : Bool) (σ : List (Nat × Nat)) : List SV → (List SV → Prop) → Prop
  | [], K => K []
  | v :: l, K => rnK st σ v fun v' => rnLK st σ l fun l' => K (v' :: l')
end
def rnTK (st : Bool) (σ : List (Nat × Nat)) : Tok → (Tok → Prop) → Prop
  | .cel g t cs, K => rnN st σ g fun h => rnLK st σ cs fun cs' => K (.cel h t cs')
  | .row g t s u xs us, K => rnN st σ g fun h => K (.row h t s u xs us)
  | .map g u kv, K => rnN st σ g fun h => K (.map h u kv)
  | .nest g u xs us, K => rnN st σ g fun h => K (.nest h u xs us)
  | .dat g t s u xs, K => rnN st σ g fun h => K (.dat h t s u xs)
def rnTLK (st : Bool) (σ : List (Nat × Nat)) : List Tok → (List Tok → Prop) → Prop
  | [], K => K []
  | v :: l, K => rnTK st σ v fun v' => rnTLK st σ l fun l' => K (v' :: l')
def rnEK (st : Bool) (σ : List (Nat × Nat)) : Ev → (Ev → Prop) → Prop
  | [], K => K []
  | (t, v) :: l, K => rnK st σ v fun v' => rnEK st σ l fun l' => K ((t, v') :: l')
mutual
def SV.names : SV → List Nat → List Nat
  | .ptr g _, r => g :: r
  | .sl g, r => g :: r
  | .ep g _ _ _, r => g :: r
  | .sx g _ _ _, r => g :: r
  | .mp g, r => g :: r
  | .agg l, r => namesL l r
  | .tup l, r => namesL l r
  | .fn _ l, r => namesL l r
  | .gd _ _ v, r => v.names r
  | _, r => r
def namesL : List SV → List Nat → List Nat
  | [], r => r
  | v :: l, r => v.names (namesL l r)
end
def Tok.names : Tok → List Nat → List Nat
  | .cel g _ cs, r => g :: namesL cs r
  | .row g _ _ _ _ _, r => g :: r
  | .map g _ _, r => g :: r
  | .nest g _ _ _, r => g :: r
  | .dat g _ _ _ _, r => g :: r
def envNames : Ev → List Nat → List Nat
  | [], r => r
  | (_, v) :: l, r => v.names (envNames l r)
def tokNames : List Tok → List Nat → List Nat
  | [], r => r
  | t :: l, r => t.names (tokNames l r)
def noName (d : Nat) : List Nat → Bool
  | [] => true
  | g :: l => bif Nat.beq (g % 1000000) d then false else noName d l
def freshD (d : Nat) (env : Ev) (rs : List Tok) : Bool := noName d (envNames env (tokNames rs []))
/-- The things that can be reached, in order; their canonical names. -/
def tkK : Nat → List Nat → List Tok → Nat → (List Tok → List (Nat × Nat) → List Tok → Prop) → Prop
  | 0, _, _, _, _ => False
  | _ + 1, [], rs, _, K => K [] [] rs
  | n + 1, g :: todo, rs, i, K => takeTok rs g (fun x rs' => tkK n (x.names todo) rs' (i + 1) fun tk σ rest => K (x :: tk) ((g, i) :: σ) rest) (tkK n todo rs i K)
def svEq : SV → SV → Prop
  | .int k i, .int k' j => i = j ∧ k = k'
  | .bool a, .bool b => a = b
  | x, y => x = y
def svEqL : List SV → List SV → Prop
  | [], [] => True
  | a :: l, b :: m => svEq a b ∧ svEqL l m
  | _, _ => False
def toksLe (rs : List Tok) : List Tok → Prop
  | [] => True
  | .cel g t cs :: ts => takeCel rs g fun t' cs' rest => (bif Nat.beq t' t then True else False) ∧ svEqL cs' cs ∧ toksLe rest ts
  | .row g t s u xs us :: ts => takeRow rs g fun t' s' u' xs' us' rest => match Nat.beq t' t && Nat.beq s' s with
    | true => if hu : eqU u' u = true then (coe (eqU_ok hu) xs' = xs ∧ us <+: us') ∧ toksLe rest ts else False
    | false => False
  | .map g u kv :: ts => takeMap rs g fun u' kv' rest => if hu : eqU u' u = true then coe2 (eqU_ok hu) kv' = kv ∧ toksLe rest ts else False
  | .nest g u xs us :: ts => takeNest rs g fun u' xs' us' rest => if hu : eqU u' u = true then (coe (eqU_ok hu) xs' = xs ∧ us' = us) ∧ toksLe rest ts else False
  | .dat g t s u xs :: ts => takeDat rs g fun t' s' u' xs' rest => match Nat.beq t' t && Nat.beq s' s with
    | true => if hu : eqU u' u = true then coe (eqU_ok hu) xs' = xs ∧ toksLe rest ts else False
    | false => False

/-! ### regions, code -/
def opsDst (ops : List Oper) (j : Nat) : Option Nat := match nth ops j with | some o => o.dst | none => none
/-- What a guard says. -/
def condG (env : Ev) : Nat → Nat → Bool → Option Bool
  | 0, _, _ => none
  | k + 1, d, b => match lk env d with
    | some (.bool c) => match b with | true => some c | false => some (!c)
    | some (.gd d' b' (.bool c)) => match condG env k d' b' with
      | some e => match b with | true => some (e && c) | false => some (e && !c)
      | none => none
    | _ => none
inductive G where
  | no
  | free
  | at (d : Nat) (b : Bool) (c : Bool)
def guardG (ops : List Oper) (env : Ev) : Option (Nat × Bool) → G
  | none => .free
  | some (j, b) => match opsDst ops j with
    | some d => match condG env 8 d b with | some c => .at d b c | none => .no
    | none => .no
inductive X where
  | n | r | x (id : Nat)
/-- A row of the call's own that may grow; its cells begin with these. -/
def Grx (v : Value) (t : TypeId) (s n : Nat) (ds : List D) (pre : List Value) : Res where
  p w F := ∃ bs us, F = rowL v ++ bs ∧ GR 0 w t s v n ds bs us ∧ pre <+: us
  keep := fun ⟨bs, us, e, h, hp⟩ k => ⟨bs, us, e, by
    subst e
    have kb : Keeps _ _ bs := k.sub fun b hb => by simp [hb]
    exact ⟨ownsRow_keep h.row fun g hg => k.2 g (by simp [mem_rowL, hg]), h.tn.keep kb, ⟨h.own.1, fun b hb => by obtain ⟨h0, cur, t, h1⟩ := h.own.2 b hb; exact ⟨h0, cur, t, (kb.2 b hb).trans h1⟩⟩, h.out⟩, hp⟩
  lt := fun ⟨bs, us, e, h, _⟩ b hb => by
    subst e
    rcases List.mem_append.1 hb with hb | hb
    · exact (h.lt b (mem_rowL.1 hb)).2
    · exact h.tn.lt b hb
structure Cx where
  w0 : World
  F0 : List Nat
mutual
/-- What a value is, in a call that began at w0 and may change the blocks F0; β: what the names stand for. -/
def Den (cx : Cx) (β : Nat → Value) : SV → Value → Prop
  | .int k i, v => v = .int k i
  | .bool b, v => v = .bool b
  | .raw x, v => v = x ∧ x.oneCell' = true
  | .rsl e xs, v => Ro1 cx.w0 cx.F0 (.sl (List.length (α := El e) xs) (List.flatMap (enc e) xs)) v
  | .rp u x, v => ∃ b o, v = .pointer (some ⟨b, o, none⟩) ∧ RoP cx.w0 cx.F0 b o (enc u x)
  | .ptr g o, v => ∃ b, β g = .pointer (some ⟨b, 0, none⟩) ∧ v = .pointer (some ⟨b, o, none⟩)
  | .sl g, v => v = β g ∧ ∃ A n c, v = .slice A n c
  | .ep g s i o, v => ∃ b m c, β g = .slice (some ⟨b, 0, none⟩) m c ∧ i.toNat < m ∧ v = .pointer (some ⟨b, i.toNat * s + o, none⟩)
  | .agg l, v => ∃ vs : List Value, v = .agg vs.toArray ∧ Dens cx β l vs
  | .tup l, v => ∃ vs : List Value, v = .tuple vs.toArray ∧ Dens cx β l vs
  | .fn f l, v => ∃ vs : List Value, v = .func (.func f) #[] vs.toArray ∧ Dens cx β l vs
  | .un, v => v = undef
  | .gd _ _ _, _ => False
  | .nh _ _ n hdr, v => v = hdr ∧ ∃ A c, hdr = .slice A n c ∧ (0 < n → ∃ b o, A = some ⟨b, o, none⟩)
  | .np _ _ n hdr s i j, v => ∃ b o c, hdr = .slice (some ⟨b, o, none⟩) n c ∧ v = .pointer (some ⟨b, o + i.toNat * s + j, none⟩)
  | .mp g, v => v = β g ∧ ∃ r, v = .map (some r)
  | .nn e xs, v => Ro1 cx.w0 cx.F0 (.sl (List.length (α := El e) xs) (List.flatMap (enc e) xs)) v ∧ ∃ a n c, v = .slice (some a) n c
  | .sx g s lo n, v => ∃ b m c c', β g = .slice (some ⟨b, 0, none⟩) m c ∧ lo + n ≤ m ∧ v = .slice (some ⟨b, lo * s, none⟩) n c'
def Dens (cx : Cx) (β : Nat → Value) : List SV → List Value → Prop
  | [], vs => vs = []
  | s :: l, vs => ∃ v vs', vs = v :: vs' ∧ Den cx β s v ∧ Dens cx β l vs'
end
/-- A call of a function that changes nothing. -/
def QCall (P : Program) (f : FuncId) (args : List SV) (r : SV) : Prop := callOk P f = true ∧ ∀ (cx : Cx) (β : Nat → Value) (w : World) (fr : List Res) (vs : List Value), Inv cx.w0 cx.F0 w fr → Dens cx β args vs →
  Calls P f vs.toArray w fun e w' => ∃ v, e = .returned v ∧ Den cx β r v ∧ Inv cx.w0 cx.F0 w' fr
def Tok.res (cx : Cx) (β : Nat → Value) : Tok → Res
  | .cel g t cs => {
    p := fun w F => ∃ b us, β g = .pointer (some ⟨b, 0, none⟩) ∧ Dens cx β cs us ∧ us.all (·.oneCell') = true ∧ (Cel b us t).p w F
    keep := fun ⟨b, us, h1, h2, h3, h4⟩ k => ⟨b, us, h1, h2, h3, (Cel b us t).keep h4 k⟩
    lt := fun ⟨b, us, h1, h2, h3, h4⟩ => (Cel b us t).lt h4 }
  | .row g t s u xs us => {
    p := fun w F => u.size = s ∧ (Grx (β g) t s (List.length (α := El u) xs) (List.flatMap (enc u) xs) us).p w F
    keep := fun ⟨h1, h2⟩ k => ⟨h1, (Grx (β g) t s _ _ us).keep h2 k⟩
    lt := fun ⟨h1, h2⟩ => (Grx (β g) t s _ _ us).lt h2 }
  | .map g u kv => {
    p := fun w F => u1 u = true ∧ ∃ (r : Nat) (es : List MapEntry) (cl : Nat), β g = .map (some r) ∧ F = [r] ∧ w.heap[r]? = some (.map es.toArray cl) ∧ es.map (fun e => (e.key, e.val)) = kv.map (fun x => (Value.int .i64 x.1, vOf u x.2))
    keep := fun ⟨h1, r, es, cl, h2, h3, h4, h5⟩ k => ⟨h1, r, es, cl, h2, h3, (k.2 r (by rw [h3]; simp)).trans h4, h5⟩
    lt := fun ⟨h1, r, es, cl, h2, h3, h4, h5⟩ b hb => by rw [h3] at hb; simp at hb; subst hb; exact (Array.getElem?_eq_some_iff.1 h4).1 }
  | .nest _ u xs us => DatN us (List.flatMap (enc u) xs)
  | .dat g t s u xs => {
    p := fun w F => u.size = s ∧ ∃ us : List Value, Dens cx β (List.flatMap (svOf u) xs) us ∧ us.all (·.oneCell') = true ∧ (Grx (β g) t s (List.length (α := El u) xs) (us.map D.v) []).p w F
    keep := fun ⟨h1, us, h2, h3, h4⟩ k => ⟨h1, us, h2, h3, (Grx (β g) t s _ _ []).keep h4 k⟩
    lt := fun ⟨h1, us, h2, h3, h4⟩ => (Grx (β g) t s _ _ []).lt h4 }
/-- A call of a function that takes things of its caller's, and gives things. -/
def FCall (P : Program) (f : FuncId) (args : List SV) (ts : List Tok) (r : SV) (ts' : List Tok) : Prop := callOk P f = true ∧ ∀ (cx : Cx) (β : Nat → Value) (w : World) (fr : List Res) (vs : List Value), Inv cx.w0 cx.F0 w (ts.map (Tok.res cx β) ++ fr) → Dens cx β args vs →
  Calls P f vs.toArray w fun e w' => ∃ v β', e = .returned v ∧ (∀ g, 10000 ≤ g → g < 10000 + ts.length → β' g = β g) ∧ Den cx β' r v ∧ Inv cx.w0 cx.F0 w' (ts'.map (Tok.res cx β') ++ fr)
def impB : Option Bool → Prop → Prop
  | none, p => p
  | some c, p => c = true → p
def rK (gc : Option Bool) (r : R) (K : SV → Prop) : Prop := match r with
  | .no => False
  | .ok v => K v
  | .vc p v => match gc with
    | none => p ∧ K v
    | some c => (c = true → p) ∧ K v
  | .ex f => ∃ k : Nat, rK gc (f k) K
/-- Structs of integers, compared field by field. -/
def eqIB (P : Program) (t n : Nat) : Bool := !P.stoodInHeld t && (!P.eqGuardType P.depth t && ((match P.underlying t with | some (.struct _) => true | _ => false) && (((P.fieldsOf t).toList.all fun f => f.name != "_" && (match P.underlying f.type with | some (.int .i64) => true | _ => false)) && ((P.fieldsOf t).toList.map (·.offset) == List.range' 0 n && (P.fieldsOf t).toList.length == n))))
def intsOf : List SV → Option (List Int)
  | [] => some []
  | .int .i64 i :: l => match intsOf l with | some r => some (i :: r) | none => none
  | _ :: _ => none
def eqO (o : BinOp) (xs ys : List Int) : Bool := match o with | .eql => eqInts xs ys | _ => !eqInts xs ys
def eqAgg (P : Program) (gc : Option Bool) (o : BinOp) (t : TypeId) (l m : List SV) (K : SV → Prop) : Prop := match intsOf l, intsOf m with
  | some xs, some ys => match o with
    | .eql => impB gc (eqIB P t xs.length = true ∧ ys.length = xs.length) ∧ K (.bool (eqInts xs ys))
    | .neq => impB gc (eqIB P t xs.length = true ∧ ys.length = xs.length) ∧ K (.bool (!eqInts xs ys))
    | _ => False
  | _, _ => False
/-- A field of one cell of a struct value. -/
def fldP (P : Program) (t i o : Nat) : Bool := match P.underlying t with
  | some (.struct fs) => (match fs[i]? with | some f => f.offset == o && aggB P f.type == some false | none => false)
  | _ => false
def opK (P : Program) (ti : TI) (env : Ev) (rs : List Tok) (g : Option (Nat × Bool)) (gc : Option Bool) (op : Op) (K : SV → Prop) : Prop := match op with
  | .call c => match c.callee with
    | .value x => match evs env g x, evsL env g c.args.toList with
      | some (.fn f l), some vs => ∃ r, impB gc (QCall P f (vs ++ l) r) ∧ K r
      | _, _ => False
    | _ => rK gc (opR ti env rs g (.call c)) K
  | .binOp o t x y z => match evs env g x, evs env g y with
    | some (.agg l), some (.agg m) => eqAgg P gc o t l m K
    | _, _ => rK gc (opR ti env rs g (.binOp o t x y z)) K
  | .field t x i => match evs env g x with
    | some (.agg l) => ∃ o : Nat, impB gc (fldP P t i o = true) ∧ ∃ v, nth l o = some v ∧ K v
    | _ => False
  | op => rK gc (opR ti env rs g op) K
def mem (t : Nat) : List Nat → Bool
  | [] => false
  | x :: l => bif Nat.beq t x then true else mem t l
/-- The way back, with names for what is new. -/
def backS (d : Nat) : List (Nat × Nat) → Nat → List (Nat × Nat)
  | [], i => [(i, d), (i + 1, d + 1000000), (i + 2, d + 2000000), (i + 3, d + 3000000), (i + 4, d + 4000000), (i + 5, d + 5000000), (i + 6, d + 6000000), (i + 7, d + 7000000), (i + 8, d + 8000000), (i + 9, d + 9000000)]
  | (g, c) :: l, i => (c, g) :: backS d l (i + 1)
def appTK : List Tok → List Tok → (List Tok → Prop) → Prop
  | [], e, K => K e
  | x :: l, e, K => appTK l e fun l' => K (x :: l')
def rowNames : List Tok → List Nat
  | [] => []
  | .row g _ _ _ _ _ :: l => g :: rowNames l
  | _ :: l => rowNames l
/-- Slices that stand in rows are among them: then all rows are taken. -/
def wantsV : List SV → Bool
  | [] => false
  | v :: l => match v with
    | .nh _ _ _ _ => true
    | .np _ _ _ _ _ _ _ => true
    | _ => wantsV l
/-- A call that takes and gives things. -/
def fcK (P : Program) (rs : List Tok) (d f : Nat) (vs : List SV) (K : SV → List Tok → Prop) : Prop :=
  tkK 64 (namesL vs (bif wantsV vs then rowNames rs else [])) rs 10000 fun tk σ rest => rnLK true σ vs fun vs' => rnTLK true σ tk fun tk' =>
    ∃ r ts', FCall P f vs' tk' r ts' ∧ rnK true (backS d σ 10000) r fun r' => rnTLK true (backS d σ 10000) ts' fun ts'' => appTK ts'' rest fun rs' => K r' rs'
/-- Data without slices. -/
def flatU : U → Bool
  | .pair a b => flatU a && flatU b
  | .sl _ => false
  | .tree _ => false
  | _ => true
def appR (P : Program) (ti : TI) (env : Ev) (rs : List Tok) (g : Option (Nat × Bool)) (d : Nat) (c : Call) (K : SV → List Tok → Prop) : Prop :=
  match c.args.toList, c.argTypes.toList with
  | [x, y], [t, t'] => bif Nat.beq t t' then (match lk ti t, evs env g x, evs env g y with
    | some (.sl e s u), some (.sl h), some (.sl k) => takeRow rs h fun e1 s1 u1 xs us rs1 => takeRow rs1 k fun e2 s2 u2 ys _ rs2 => bif Nat.beq e1 e && Nat.beq s1 s && Nat.beq s2 s then (if hu : eqU u2 u1 = true then
        xs.length + ys.length ≤ 1073741824 ∧ K (.sl d) (.row d e s u1 (xs ++ coe (eqU_ok hu) ys) us :: rs2) else False) else False
    | some (.sl e s u), some (.raw (.slice none 0 0)), some (.sl k) => takeRow rs k fun e2 s2 u2 ys _ rs2 => bif Nat.beq s2 s then
        ys.length ≤ 1073741824 ∧ K (.sl d) (.row d e s u2 ys [] :: rs2) else False
    | some (.sl e s u), some (.sl h), some (.rsl e2 ys) => bif flatU e2 && Nat.beq e2.size s then (takeRow rs h fun e1 s1 u1 xs us rs1 => bif Nat.beq e1 e && Nat.beq s1 s then (if hu : eqU e2 u1 = true then
        xs.length + List.length (α := El e2) ys ≤ 1073741824 ∧ K (.sl d) (.row d e s u1 (xs ++ coe (eqU_ok hu) ys) us :: rs1) else False) else False) else (match datOf rs h with
      | some _ => takeDat rs h fun e1 s1 u1 xs rs1 => bif Nat.beq e1 e && Nat.beq s1 s then (if hu : eqU e2 u1 = true then
        List.length (α := El u1) xs + List.length (α := El e2) ys ≤ 1073741824 ∧ K (.sl d) (.dat d e s u1 (xs ++ coe (eqU_ok hu) ys) :: rs1) else False) else False
      | none => takeRow rs h fun e1 s1 _ xs _ rs1 => match xs with
        | [] => bif (Nat.beq e1 e && Nat.beq s1 s) && Nat.beq e2.size s then List.length (α := El e2) ys ≤ 1073741824 ∧ K (.sl d) (.dat d e s e2 ys :: rs1) else False
        | _ :: _ => False)
    | some (.sl e s u), some (.raw (.slice none 0 0)), some (.rsl e2 ys) => bif flatU e2 && Nat.beq e2.size s then
        List.length (α := El e2) ys ≤ 1073741824 ∧ K (.sl d) (.row d e s e2 ys [] :: rs) else (bif Nat.beq e2.size s then List.length (α := El e2) ys ≤ 1073741824 ∧ K (.sl d) (.dat d e s e2 ys :: rs) else False)
    | some (.sl e s u), some (.sl h), some (.nn e2 ys) => bif flatU e2 && Nat.beq e2.size s then (takeRow rs h fun e1 s1 u1 xs us rs1 => bif Nat.beq e1 e && Nat.beq s1 s then (if hu : eqU e2 u1 = true then
        xs.length + List.length (α := El e2) ys ≤ 1073741824 ∧ K (.sl d) (.row d e s u1 (xs ++ coe (eqU_ok hu) ys) us :: rs1) else False) else False) else (takeRow rs h fun e1 s1 _ xs _ rs1 => match xs with
        | [] => bif (Nat.beq e1 e && Nat.beq s1 s) && Nat.beq e2.size s then List.length (α := El e2) ys ≤ 1073741824 ∧ K (.sl d) (.dat d e s e2 ys :: rs1) else False
        | _ :: _ => False)
    | _, _, _ => False) else False
  | _, _ => False
/-- Operations that make or change things. -/
def stK (P : Program) (ti : TI) (env : Ev) (rs : List Tok) (g : Option (Nat × Bool)) (d : Nat) (op : Op) (K : SV → List Tok → Prop) : Prop := match op with
  | .alloc t => match lk ti t with
    | some (.st _ _ _ zs) => K (.ptr d 0) (.cel d t zs :: rs)
    | some (.sc z) => K (.ptr d 0) (.cel d t [z] :: rs)
    | some .bool => K (.ptr d 0) (.cel d t [.bool false] :: rs)
    | some (.ptr _) => K (.ptr d 0) (.cel d t [.raw (.pointer none)] :: rs)
    | some (.sl _ _ _) => K (.ptr d 0) (.cel d t [.raw (.slice none 0 0)] :: rs)
    | some (.mp _) => K (.ptr d 0) (.cel d t [.raw (.map none)] :: rs)
    | none => False
  | .box t x => match evs env g x with
    | some v => match v with
      | .agg l => bif boxL l then K (.ptr d 0) (.cel d t l :: rs) else False
      | v => bif box1 v then K (.ptr d 0) (.cel d t [v] :: rs) else False
    | none => False
  | .buildSlice t m ps => match lk ti t with
    | some (.sl e s u) => match partsL env g ps.toList 0 with
      | some cs => bif Nat.beq cs.length m && Nat.ble (m * s) 16777216 then (bif hasNh cs && Nat.beq (hol s).size s then mkLK (hol s) cs rs fun xs rs' => K (.sl d) (.row d e s (hol s) xs [] :: rs') else mkLK u cs rs fun xs rs' => K (.sl d) (.row d e s u xs [] :: rs')) else False
      | none => False
    | _ => False
  | .makeMap t none => match lk ti t with
    | some (.mp u) => K (.mp d) (.map d u [] :: rs)
    | _ => False
  | .makeSlice t l c => match lk ti t, evs env g l, evs env g c with
    | some (.sl e s u), some (.int .i64 i), some (.int .i64 j) => match lk ti e with
      | some z => bif valsEq ((zeroT z).map den0) (zvals u) && Nat.beq (zvals u).length s then (0 ≤ i ∧ i ≤ j ∧ j ≤ 2097152) ∧ K (.sl d) (.row d e s u (List.replicate i.toNat (dflt u)) [] :: rs) else False
      | none => False
    | _, _, _ => False
  | .call c => match c.callee with
    | .value x => match evs env g x, evsL env g c.args.toList with
      | some (.fn f l), some vs => fcK P rs d f (vs ++ l) K
      | _, _ => False
    | .builtin .append => appR P ti env rs g d c K
    | _ => False
  | .slice t x none (some y) none => match lk ti t, evs env g x, evs env g y with
    | some (.sl e s _), some (.sl h), some (.int .i64 i) => takeRow rs h fun e1 s1 u xs _ rs1 => bif Nat.beq e1 e && Nat.beq s1 s then (0 ≤ i ∧ i ≤ (xs.length : Nat)) ∧ K (.sl d) (.row d e s u (xs.take i.toNat) [] :: rs1) else False
    | _, _, _ => False
  | _ => False
/-- The cells of what is stored. -/
def stL (ti : TI) (t : TypeId) (v : SV) (K : List SV → Prop) : Prop := match lk ti t with
  | some (.st _ n _ _) => match v with | .agg l => bif Nat.beq l.length n && boxL l then K l else False | _ => False
  | some _ => bif box1 v then K [v] else False
  | none => False
/-- Some cells of an element are given other data. -/
def setU : (u : U) → El u → Nat → List SV → (El u → Prop) → Prop
  | .pair a b, x, o, l, K => bif Nat.beq o 0 && Nat.beq l.length (U.pair a b).size then mkK (.pair a b) l [] (fun y _ _ => K y)
    else bif Nat.blt o a.size then (bif Nat.ble (o + l.length) a.size then setU a x.1 o l fun y => K (y, x.2) else False) else setU b x.2 (o - a.size) l fun y => K (x.1, y)
  | .tree _, _, _, _, _ => False
  | u, _, o, l, K => bif Nat.beq o 0 && Nat.beq l.length 1 then mkK u l [] (fun y _ _ => K y) else False
/-- The slice in an element, and the element with another one. -/
def nestK : (u : U) → El u → Nat → ((e : U) → List (El e) → (List (El e) → El u) → Prop) → Prop
  | .pair a b, x, o, K => bif Nat.blt o a.size then nestK a x.1 o (fun e ys F => K e ys fun l => (F l, x.2)) else nestK b x.2 (o - a.size) fun e ys F => K e ys fun l => (x.1, F l)
  | .sl e, xs, o, K => bif Nat.beq o 0 then K e xs id else False
  | _, _, _, _ => False
/-- Data out of cells that are read only. -/
def mkF : (u : U) → List SV → (El u → List SV → Prop) → Prop
  | .int k, c :: l, K => match c with | .int k' i => bif k' == k then K i l else False | _ => False
  | .bool, c :: l, K => match c with | .bool b => K b l | _ => False
  | .str, c :: l, K => match c with | .raw (.string x) => K x l | _ => False
  | .pair a b, l, K => mkF a l fun x l' => mkF b l' fun y l'' => K (x, y) l''
  | .sl e, c :: l, K => match c with
    | .rsl e' xs => if hu : eqU e' e = true then K (coe (eqU_ok hu) xs) l else False
    | .raw (.slice none 0 0) => K [] l
    | _ => False
  | .tree e, l, K => mkF e l fun x l' => match l' with
    | c :: l'' => (match c with
      | .rsl e' xs => if hu : eqU e' (.tree e) = true then K (.node x (coe (eqU_ok hu) xs)) l'' else False
      | .raw (.slice none 0 0) => K (.node x []) l''
      | _ => False)
    | [] => False
  | _, _, _ => False
/-- A store. -/
def storeK (ti : TI) (env : Ev) (rs : List Tok) (g : Option (Nat × Bool)) (op : Op) (K : List Tok → Prop) : Prop := match op with
  | .store t x y => match evs env g x, evs env g y with
    | some (.ptr h o), some v => match v with
      | .agg l => match lk ti t with
        | some (.st _ n _ _) => bif boxL l && Nat.beq l.length n then takeCel rs h fun t' cs rest => setAt o l cs fun cs' => K (.cel h t' cs' :: rest) else False
        | _ => False
      | v => match lk ti t with
        | some (.st _ _ _ _) => False
        | some _ => bif box1 v then takeCel rs h fun t' cs rest => setAt o [v] cs fun cs' => K (.cel h t' cs' :: rest) else False
        | none => False
    | some (.ep h s i o), some v => stL ti t v fun l => match datOf rs h with
      | none => takeRow rs h fun e s1 u xs _ rest => bif Nat.beq s s1 then setU u (elt (dflt u) xs i) o l fun y => K (.row h e s1 u (xs.set i.toNat y) [] :: rest) else False
      | some _ => takeDat rs h fun e s1 u xs rest => bif Nat.beq s s1 && Nat.beq o 0 then mkF u l fun y l' => (match l' with
        | [] => K (.dat h e s1 u (xs.set i.toNat y) :: rest)
        | _ :: _ => False) else False
    | some (.np k o n hdr s2 i j), some v => stL ti t v fun l => ∃ q, takeRow rs q fun e s u xs us rest => nestK u (elt (dflt u) xs k) o fun e2 ys F => bif Nat.beq s2 e2.size && flatU e2 then
        (npOk xs us k s o hdr ∧ 0 ≤ i ∧ i < (n : Nat)) ∧ setU e2 (elt (dflt e2) ys i) j l fun y => K (.row q e s u (xs.set k.toNat (F (List.set (α := El e2) ys i.toNat y))) us :: rest) else False
    | _, _ => False
  | .mapUpdate t x y z => match lk ti t, evs env g x, evs env g y, evs env g z with
    | some (.mp u), some (.mp h), some (.int .i64 i), some v => takeMap rs h fun u' kv rest => bif eqU u' u then (mkK u' [v] [] fun y _ _ => K (.map h u' (kvSet kv i y) :: rest)) else False
    | _, _, _, _ => False
  | .call ⟨.builtin .clear, as, ts⟩ => match as.toList, ts.toList with
    | [x], [t] => match lk ti t, evs env g x with
      | some (.sl e s _), some (.sx h s2 lo n) => match lk ti e with
        | some z => takeRow rs h fun e1 s1 u xs _ rest => bif Nat.beq e1 e && Nat.beq s1 s && Nat.beq s2 s && valsEq ((zeroT z).map den0) (zvals u) && Nat.beq (zvals u).length s then lo + n = xs.length ∧ K (.row h e s u (xs.take lo ++ List.replicate n (dflt u)) [] :: rest) else False
        | none => False
      | _, _ => False
    | _, _ => False
  | _ => False
inductive Kd where
  | pure | st | call
def kind : Op → Kd
  | .alloc _ => .st
  | .box _ _ => .st
  | .buildSlice _ _ _ => .st
  | .makeSlice _ _ _ => .st
  | .makeMap _ _ => .st
  | .slice _ _ none (some _) none => .st
  | .call c => match c.callee with
    | .value _ => .call
    | .builtin .append => .st
    | _ => .pure
  | _ => .pure
def vcOps (P : Program) (ti : TI) (nt : Nat) (ops : List Oper) (dd : List Nat) (l : List Oper) : Ev → List Tok → (Ev → List Tok → Prop) → Prop :=
  List.rec (motive := fun _ => List Nat → Ev → List Tok → (Ev → List Tok → Prop) → Prop) (fun _ env rs K => K env rs) (fun o _ ih dd env rs K => match o.dst with
    | none => match guardG ops env o.guard with
      | .no => False
      | .free => storeK ti env rs none o.op fun rs' => ih dd env rs' K
      | .at gd gb gc => (gc = true → storeK ti env rs (some (gd, gb)) o.op fun rs' => ih dd env rs' K) ∧ (gc = false → ih dd env rs K)
    | some d => bif Nat.blt d nt && !mem d dd then (match guardG ops env o.guard with
      | .no => False
      | .free => match kind o.op with
        | .pure => opK P ti env rs none none o.op fun v => ih (d :: dd) ((d, v) :: env) rs K
        | .st => bif freshD d env rs then stK P ti env rs none d o.op fun v rs' => ih (d :: dd) ((d, v) :: env) rs' K else False
        | .call => (opK P ti env rs none none o.op fun v => ih (d :: dd) ((d, v) :: env) rs K) ∨ (bif freshD d env rs then stK P ti env rs none d o.op fun v rs' => ih (d :: dd) ((d, v) :: env) rs' K else False)
      | .at gd gb gc => bif mem gd dd then (match kind o.op with
        | .pure => opK P ti env rs (some (gd, gb)) (some gc) o.op fun v => ih (d :: dd) ((d, .gd gd gb v) :: env) rs K
        | .st => (gc = true → bif freshD d env rs then stK P ti env rs (some (gd, gb)) d o.op fun v rs' => ih (d :: dd) ((d, v) :: env) rs' K else False) ∧ (gc = false → ih (d :: dd) ((d, .un) :: env) rs K)
        | .call => (opK P ti env rs (some (gd, gb)) (some gc) o.op fun v => ih (d :: dd) ((d, .gd gd gb v) :: env) rs K) ∨
          ((gc = true → bif freshD d env rs then stK P ti env rs (some (gd, gb)) d o.op fun v rs' => ih (d :: dd) ((d, v) :: env) rs' K else False) ∧ (gc = false → ∃ v, ih (d :: dd) ((d, .gd gd gb v) :: env) rs K))) else False) else False) l dd
theorem vcOps_cons {P : Program} {ti : TI} {nt : Nat} {ops : List Oper} {dd : List Nat} {o : Oper} {rest : List Oper} {env : Ev} {rs : List Tok} {K : Ev → List Tok → Prop} : vcOps P ti nt ops dd (o :: rest) env rs K = (match o.dst with
    | none => match guardG ops env o.guard with
      | .no => False
      | .free => storeK ti env rs none o.op fun rs' => vcOps P ti nt ops dd rest env rs' K
      | .at gd gb gc => (gc = true → storeK ti env rs (some (gd, gb)) o.op fun rs' => vcOps P ti nt ops dd rest env rs' K) ∧ (gc = false → vcOps P ti nt ops dd rest env rs K)
    | some d => bif Nat.blt d nt && !mem d dd then (match guardG ops env o.guard with
      | .no => False
      | .free => match kind o.op with
        | .pure => opK P ti env rs none none o.op fun v => vcOps P ti nt ops (d :: dd) rest ((d, v) :: env) rs K
        | .st => bif freshD d env rs then stK P ti env rs none d o.op fun v rs' => vcOps P ti nt ops (d :: dd) rest ((d, v) :: env) rs' K else False
        | .call => (opK P ti env rs none none o.op fun v => vcOps P ti nt ops (d :: dd) rest ((d, v) :: env) rs K) ∨ (bif freshD d env rs then stK P ti env rs none d o.op fun v rs' => vcOps P ti nt ops (d :: dd) rest ((d, v) :: env) rs' K else False)
      | .at gd gb gc => bif mem gd dd then (match kind o.op with
        | .pure => opK P ti env rs (some (gd, gb)) (some gc) o.op fun v => vcOps P ti nt ops (d :: dd) rest ((d, .gd gd gb v) :: env) rs K
        | .st => (gc = true → bif freshD d env rs then stK P ti env rs (some (gd, gb)) d o.op fun v rs' => vcOps P ti nt ops (d :: dd) rest ((d, v) :: env) rs' K else False) ∧ (gc = false → vcOps P ti nt ops (d :: dd) rest ((d, .un) :: env) rs K)
        | .call => (opK P ti env rs (some (gd, gb)) (some gc) o.op fun v => vcOps P ti nt ops (d :: dd) rest ((d, .gd gd gb v) :: env) rs K) ∨
          ((gc = true → bif freshD d env rs then stK P ti env rs (some (gd, gb)) d o.op fun v rs' => vcOps P ti nt ops (d :: dd) rest ((d, v) :: env) rs' K else False) ∧ (gc = false → ∃ v, vcOps P ti nt ops (d :: dd) rest ((d, .gd gd gb v) :: env) rs K))) else False) else False) := rfl

/-! ### regions whose order is open -/
structure LabI where
  tok : Tok
  prod : Option Nat
  cons : Option Nat
structure EntI where
  i : Nat
  d : Nat
  v : SV
def snocK {α : Type u} : List α → α → (List α → Prop) → Prop
  | [], x, K => K [x]
  | y :: l, x, K => snocK l x fun l' => K (y :: l')
def addA : List Nat → List Nat → List Nat
  | [], r => r
  | x :: l, r => bif mem x r then addA l r else addA l (x :: r)
def ancOf (anc : List (List Nat)) : List Edge → List Nat → List Nat
  | [], r => r
  | e :: l, r => bif Region.binds .any e then ancOf anc l (addA (match nth anc e.on with | some A => e.on :: A | none => [e.on]) r) else ancOf anc l r
def forceK : List Nat → (List Nat → Prop) → Prop
  | [], K => K []
  | x :: l, K => forceK l fun l' => K (x :: l')
/-- The slots that an operation may rest on. -/
def canOld (anc : List (List Nat)) (i j : Nat) : Bool := Nat.beq j i || (match nth anc j with | some A => mem i A | none => false)
def oldK (anc : List (List Nat)) (i : Nat) : List EntI → Ev → (Ev → Prop) → Prop
  | [], base, K => K base
  | x :: l, base, K => bif canOld anc i x.i then oldK anc i l base fun l' => K ((x.d, x.v) :: l') else oldK anc i l base K
def envK (A : List Nat) : List EntI → Ev → (Ev → Prop) → Prop
  | [], base, K => K base
  | x :: l, base, K => bif mem x.i A then envK A l base fun l' => K ((x.d, x.v) :: l') else envK A l base K
def opNames (env : Ev) (g : Option (Nat × Bool)) : List Operand → List Nat → List Nat
  | [], r => r
  | x :: l, r => match evs env g x with | some v => v.names (opNames env g l r) | none => opNames env g l r
def addNK : List Nat → List Nat → (List Nat → Prop) → Prop
  | [], ns, K => K ns
  | g :: l, ns, K => bif mem g ns then addNK l ns K else addNK l (g :: ns) K
def reachLK : List LabI → List Nat → (List Nat → Prop) → Prop
  | [], ns, K => K ns
  | x :: l, ns, K => bif mem x.tok.name ns then addNK (x.tok.names []) ns fun ns' => reachLK l ns' K else reachLK l ns K
/-- The names that can be reached. -/
def reachK (labs : List LabI) : Nat → List Nat → (List Nat → Prop) → Prop
  | 0, ns, K => K ns
  | k + 1, ns, K => reachLK labs ns fun ns' => reachK labs k ns' K
theorem addNK_ok : ∀ {l ns : List Nat} {K : List Nat → Prop}, addNK l ns K → ∃ ns', K ns'
  | [], ns, K, h => ⟨ns, h⟩
  | g :: l, ns, K, h => by
    unfold addNK at h
    cases hb : mem g ns with
    | true => rw [hb] at h; exact addNK_ok (l := l) h
    | false => rw [hb] at h; exact addNK_ok (l := l) h
theorem reachLK_ok : ∀ {l : List LabI} {ns : List Nat} {K : List Nat → Prop}, reachLK l ns K → ∃ ns', K ns'
  | [], ns, K, h => ⟨ns, h⟩
  | x :: l, ns, K, h => by
    unfold reachLK at h
    cases hb : mem x.tok.name ns with
    | true =>
      rw [hb] at h
      obtain ⟨ns', h⟩ := addNK_ok h
      exact reachLK_ok (l := l) h
    | false => rw [hb] at h; exact reachLK_ok (l := l) h
theorem reachK_ok {labs : List LabI} : ∀ {k : Nat} {ns : List Nat} {K : List Nat → Prop}, reachK labs k ns K → ∃ ns', K ns'
  | 0, ns, K, h => ⟨ns, h⟩
  | k + 1, ns, K, h => by
    unfold reachK at h
    obtain ⟨ns', h⟩ := reachLK_ok h
    exact reachK_ok (k := k) h
/-- Things with these names, that nobody has taken: read. -/
def rdK (ns : List Nat) : List LabI → Nat → (List Nat → List Tok → Prop) → Prop
  | [], _, K => K [] []
  | x :: l, i, K => match x.cons with
    | none => bif mem x.tok.name ns then rdK ns l (i + 1) fun r t => K (i :: r) (x.tok :: t) else rdK ns l (i + 1) K
    | some _ => rdK ns l (i + 1) K
/-- .. and taken by operation k. -/
def takeK (k : Nat) (ns : List Nat) : List LabI → (List LabI → List Tok → Prop) → Prop
  | [], K => K [] []
  | x :: l, K => match x.cons with
    | none => bif mem x.tok.name ns then takeK k ns l fun r t => K (⟨x.tok, x.prod, some k⟩ :: r) (x.tok :: t) else takeK k ns l fun r t => K (⟨x.tok, x.prod, none⟩ :: r) t
    | some c => takeK k ns l fun r t => K (⟨x.tok, x.prod, some c⟩ :: r) t
def newLK (k : Nat) : List Tok → (List LabI → Prop) → Prop
  | [], K => K []
  | t :: ts, K => newLK k ts fun r => K (⟨t, some k, none⟩ :: r)
def appLK : List LabI → List LabI → (List LabI → Prop) → Prop
  | [], e, K => K e
  | x :: l, e, K => appLK l e fun r => K (x :: r)
def giveK (k : Nat) (l : List LabI) (ts : List Tok) (K : List LabI → Prop) : Prop := newLK k ts fun r => appLK l r K
def startK : List Tok → (List LabI → Prop) → Prop
  | [], K => K []
  | t :: ts, K => startK ts fun r => K (⟨t, none, none⟩ :: r)
def restK : List LabI → (List Tok → Prop) → Prop
  | [], K => K []
  | x :: l, K => match x.cons with
    | none => restK l fun r => K (x.tok :: r)
    | some _ => restK l K
def allK : List EntI → Ev → (Ev → Prop) → Prop
  | [], base, K => K base
  | x :: l, base, K => allK l base fun l' => K ((x.d, x.v) :: l')
def dstL : List Oper → Nat → List (Nat × Nat)
  | [], _ => []
  | o :: l, i => match o.dst with | some d => (d, i) :: dstL l (i + 1) | none => dstL l (i + 1)
/-- Names of a class that an operation makes come from it, or from one ahead of it. -/
def clsOk (dl : List (Nat × Nat)) (i : Nat) (A : List Nat) : List Nat → Bool
  | [] => true
  | g :: l => (match lk dl (g % 1000000) with | none => true | some k => Nat.beq k i || mem k A) && clsOk dl i A l
def clsNo (dl : List (Nat × Nat)) : List Nat → Bool
  | [] => true
  | g :: l => (match lk dl (g % 1000000) with | none => true | some _ => false) && clsNo dl l
def labNames : List LabI → List Nat → List Nat
  | [], r => r
  | x :: l, r => x.tok.names (labNames l r)
def baseK (dl : List (Nat × Nat)) : List Nat → Ev → (Ev → List EntI → Prop) → Prop
  | _, [], K => K [] []
  | seen, (t, v) :: l, K => match lk dl t with
    | some j => bif mem t seen then baseK dl seen l K else baseK dl (t :: seen) l (fun l' o => K l' (⟨j, t, v⟩ :: o))
    | none => baseK dl seen l fun l' o => K ((t, v) :: l') o
def rowNamesL : List LabI → List Nat → List Nat
  | [], r => r
  | x :: l, r => match x.tok with
    | .row g _ _ _ _ _ => g :: rowNamesL l r
    | _ => rowNamesL l r
/-- What is read by way of a slice that stands in a row: the row is not named. -/
def wants (env : Ev) (g : Option (Nat × Bool)) : List Operand → Bool
  | [] => false
  | x :: l => match evs env g x with
    | some (.nh _ _ _ _) => true
    | some (.np _ _ _ _ _ _ _) => true
    | _ => wants env g l
def opNs (env : Ev) (g : Option (Nat × Bool)) (l : List Operand) (labs : List LabI) : List Nat := bif wants env g l then rowNamesL labs (opNames env g l []) else opNames env g l []
/-- Operations that look into memory. -/
def rdOp : Op → Bool
  | .load _ _ => true
  | .indexAddr _ _ _ => true
  | .call _ => true
  | .lookup _ _ _ _ => true
  | _ => false
def oldNames : List EntI → List Nat → List Nat
  | [], r => r
  | x :: l, r => x.v.names (oldNames l r)
def ancsK : List Oper → List (List Nat) → (List (List Nat) → Prop) → Prop
  | [], anc, K => K anc
  | o :: l, anc, K => forceK (ancOf anc o.after.toList []) fun A => snocK anc A fun anc' => ancsK l anc' K
def guardD (ops : List Oper) (env : Ev) (A : List Nat) (g : Option (Nat × Bool)) : G := match g with
  | none => .free
  | some (j, b) => bif mem j A then guardG ops env (some (j, b)) else .no
def notG : SV → Bool
  | .gd _ _ _ => false
  | _ => true
def vcD (P : Program) (ti : TI) (nt : Nat) (ops : List Oper) (dl : List (Nat × Nat)) (base : Ev) (olds : List EntI) (anc : List (List Nat)) (i : Nat) (l : List Oper) : List EntI → List LabI → List (List Nat) → (Ev → List Tok → Prop) → Prop :=
  List.rec (motive := fun _ => Nat → List EntI → List LabI → List (List Nat) → (Ev → List Tok → Prop) → Prop) (fun _ ents labs rds K => PFl.good ⟨rds, labs.map (fun x => ⟨x.prod, x.cons⟩), anc⟩ ops.toArray nt = true ∧ allK ents base fun env => restK labs fun rs => K env rs) (fun o _ ih i ents labs rds K => match nth anc i with
    | none => False
    | some A => oldK anc i olds base fun base' => envK A ents base' fun env =>
    match guardD ops env A o.guard, o.dst with
    | .no, _ => False
    | .free, none => takeK i (opNs env none o.op.operands.toList labs) labs fun labs1 rs => storeK ti env rs none o.op fun rs' => (bif clsOk dl i A (tokNames rs' []) then giveK i labs1 rs' fun labs2 => snocK rds [] fun rds' => ih (i + 1) ents labs2 rds' K else False)
    | .at _ _ _, none => False
    | .free, some d => bif !Nat.blt d nt then False else match kind o.op with
      | .pure => rdK (bif rdOp o.op then opNs env none o.op.operands.toList labs else []) labs 0 fun rd rs => opK P ti env rs none none o.op fun v => bif notG v && clsOk dl i A (v.names []) then snocK rds rd fun rds' => ih (i + 1) (⟨i, d, v⟩ :: ents) labs rds' K else False
      | .st => takeK i (opNs env none o.op.operands.toList labs) labs fun labs1 rs => bif freshD d env rs then stK P ti env rs none d o.op fun v rs' => (bif notG v && clsOk dl i A (v.names (tokNames rs' [])) then giveK i labs1 rs' fun labs2 => snocK rds [] fun rds' => ih (i + 1) (⟨i, d, v⟩ :: ents) labs2 rds' K else False) else False
      | .call => (addNK (opNs env none o.op.operands.toList labs) [] fun ns0 => match ns0 with
        | [] => opK P ti env [] none none o.op fun v => bif notG v && clsOk dl i A (v.names []) then snocK rds [] fun rds' => ih (i + 1) (⟨i, d, v⟩ :: ents) labs rds' K else False
        | _ :: _ => reachK labs 4 ns0 fun ns => rdK ns labs 0 fun rd rs => bif freshD d env rs then stK P ti env rs none d o.op fun v rs' => ∃ new, rs' = rs ++ new ∧ (bif notG v && clsOk dl i A (v.names (tokNames new [])) then giveK i labs new fun labs2 => snocK rds rd fun rds' => ih (i + 1) (⟨i, d, v⟩ :: ents) labs2 rds' K else False) else False) ∨
        (addNK (opNs env none o.op.operands.toList labs) [] fun ns0 => reachK labs 4 ns0 fun ns => takeK i ns labs fun labs1 rs => bif freshD d env rs then stK P ti env rs none d o.op fun v rs' => (bif notG v && clsOk dl i A (v.names (tokNames rs' [])) then giveK i labs1 rs' fun labs2 => snocK rds [] fun rds' => ih (i + 1) (⟨i, d, v⟩ :: ents) labs2 rds' K else False) else False)
    | .at gd gb gc, some d => bif Nat.beq gd d || !Nat.blt d nt then False else match kind o.op with
      | .st => (gc = true → takeK i (opNs env (some (gd, gb)) o.op.operands.toList labs) labs fun labs1 rs => bif freshD d env rs then stK P ti env rs (some (gd, gb)) d o.op fun v rs' => (bif notG v && clsOk dl i A (v.names (tokNames rs' [])) then giveK i labs1 rs' fun labs2 => snocK rds [] fun rds' => ih (i + 1) (⟨i, d, v⟩ :: ents) labs2 rds' K else False) else False) ∧ (gc = false → snocK rds [] fun rds' => ih (i + 1) (⟨i, d, .un⟩ :: ents) labs rds' K)
      | .pure => rdK (bif rdOp o.op then opNs env (some (gd, gb)) o.op.operands.toList labs else []) labs 0 fun rd rs => opK P ti env rs (some (gd, gb)) (some gc) o.op fun v => bif notG v && clsOk dl i A (v.names []) then snocK rds rd fun rds' => ih (i + 1) (⟨i, d, .gd gd gb v⟩ :: ents) labs rds' K else False
      | .call => (opK P ti env [] (some (gd, gb)) (some gc) o.op fun v => bif notG v && clsOk dl i A (v.names []) then snocK rds [] fun rds' => ih (i + 1) (⟨i, d, .gd gd gb v⟩ :: ents) labs rds' K else False) ∨
        ((gc = true → addNK (opNs env (some (gd, gb)) o.op.operands.toList labs) [] fun ns0 => reachK labs 4 ns0 fun ns => takeK i ns labs fun labs1 rs => bif freshD d env rs then stK P ti env rs (some (gd, gb)) d o.op fun v rs' => (bif notG v && clsOk dl i A (v.names (tokNames rs' [])) then giveK i labs1 rs' fun labs2 => snocK rds [] fun rds' => ih (i + 1) (⟨i, d, v⟩ :: ents) labs2 rds' K else False) else False) ∧ (gc = false → ∃ v, bif notG v && clsOk dl i A (v.names []) then snocK rds [] fun rds' => ih (i + 1) (⟨i, d, .gd gd gb v⟩ :: ents) labs rds' K else False))) l i
theorem vcD_nil {P : Program} {ti : TI} {nt : Nat} {ops : List Oper} {dl : List (Nat × Nat)} {base : Ev} {olds : List EntI} {anc : List (List Nat)} {i : Nat} {ents : List EntI} {labs : List LabI} {rds : List (List Nat)} {K : Ev → List Tok → Prop} : vcD P ti nt ops dl base olds anc i [] ents labs rds K = (PFl.good ⟨rds, labs.map (fun x => ⟨x.prod, x.cons⟩), anc⟩ ops.toArray nt = true ∧ allK ents base fun env => restK labs fun rs => K env rs) := rfl
theorem vcD_cons {P : Program} {ti : TI} {nt : Nat} {ops : List Oper} {dl : List (Nat × Nat)} {base : Ev} {olds : List EntI} {anc : List (List Nat)} {i : Nat} {o : Oper} {rest : List Oper} {ents : List EntI} {labs : List LabI} {rds : List (List Nat)} {K : Ev → List Tok → Prop} : vcD P ti nt ops dl base olds anc i (o :: rest) ents labs rds K = (match nth anc i with
    | none => False
    | some A => oldK anc i olds base fun base' => envK A ents base' fun env =>
    match guardD ops env A o.guard, o.dst with
    | .no, _ => False
    | .free, none => takeK i (opNs env none o.op.operands.toList labs) labs fun labs1 rs => storeK ti env rs none o.op fun rs' => (bif clsOk dl i A (tokNames rs' []) then giveK i labs1 rs' fun labs2 => snocK rds [] fun rds' => vcD P ti nt ops dl base olds anc (i + 1) rest ents labs2 rds' K else False)
    | .at _ _ _, none => False
    | .free, some d => bif !Nat.blt d nt then False else match kind o.op with
      | .pure => rdK (bif rdOp o.op then opNs env none o.op.operands.toList labs else []) labs 0 fun rd rs => opK P ti env rs none none o.op fun v => bif notG v && clsOk dl i A (v.names []) then snocK rds rd fun rds' => vcD P ti nt ops dl base olds anc (i + 1) rest (⟨i, d, v⟩ :: ents) labs rds' K else False
      | .st => takeK i (opNs env none o.op.operands.toList labs) labs fun labs1 rs => bif freshD d env rs then stK P ti env rs none d o.op fun v rs' => (bif notG v && clsOk dl i A (v.names (tokNames rs' [])) then giveK i labs1 rs' fun labs2 => snocK rds [] fun rds' => vcD P ti nt ops dl base olds anc (i + 1) rest (⟨i, d, v⟩ :: ents) labs2 rds' K else False) else False
      | .call => (addNK (opNs env none o.op.operands.toList labs) [] fun ns0 => match ns0 with
        | [] => opK P ti env [] none none o.op fun v => bif notG v && clsOk dl i A (v.names []) then snocK rds [] fun rds' => vcD P ti nt ops dl base olds anc (i + 1) rest (⟨i, d, v⟩ :: ents) labs rds' K else False
        | _ :: _ => reachK labs 4 ns0 fun ns => rdK ns labs 0 fun rd rs => bif freshD d env rs then stK P ti env rs none d o.op fun v rs' => ∃ new, rs' = rs ++ new ∧ (bif notG v && clsOk dl i A (v.names (tokNames new [])) then giveK i labs new fun labs2 => snocK rds rd fun rds' => vcD P ti nt ops dl base olds anc (i + 1) rest (⟨i, d, v⟩ :: ents) labs2 rds' K else False) else False) ∨
        (addNK (opNs env none o.op.operands.toList labs) [] fun ns0 => reachK labs 4 ns0 fun ns => takeK i ns labs fun labs1 rs => bif freshD d env rs then stK P ti env rs none d o.op fun v rs' => (bif notG v && clsOk dl i A (v.names (tokNames rs' [])) then giveK i labs1 rs' fun labs2 => snocK rds [] fun rds' => vcD P ti nt ops dl base olds anc (i + 1) rest (⟨i, d, v⟩ :: ents) labs2 rds' K else False) else False)
    | .at gd gb gc, some d => bif Nat.beq gd d || !Nat.blt d nt then False else match kind o.op with
      | .st => (gc = true → takeK i (opNs env (some (gd, gb)) o.op.operands.toList labs) labs fun labs1 rs => bif freshD d env rs then stK P ti env rs (some (gd, gb)) d o.op fun v rs' => (bif notG v && clsOk dl i A (v.names (tokNames rs' [])) then giveK i labs1 rs' fun labs2 => snocK rds [] fun rds' => vcD P ti nt ops dl base olds anc (i + 1) rest (⟨i, d, v⟩ :: ents) labs2 rds' K else False) else False) ∧ (gc = false → snocK rds [] fun rds' => vcD P ti nt ops dl base olds anc (i + 1) rest (⟨i, d, .un⟩ :: ents) labs rds' K)
      | .pure => rdK (bif rdOp o.op then opNs env (some (gd, gb)) o.op.operands.toList labs else []) labs 0 fun rd rs => opK P ti env rs (some (gd, gb)) (some gc) o.op fun v => bif notG v && clsOk dl i A (v.names []) then snocK rds rd fun rds' => vcD P ti nt ops dl base olds anc (i + 1) rest (⟨i, d, .gd gd gb v⟩ :: ents) labs rds' K else False
      | .call => (opK P ti env [] (some (gd, gb)) (some gc) o.op fun v => bif notG v && clsOk dl i A (v.names []) then snocK rds [] fun rds' => vcD P ti nt ops dl base olds anc (i + 1) rest (⟨i, d, .gd gd gb v⟩ :: ents) labs rds' K else False) ∨
        ((gc = true → addNK (opNs env (some (gd, gb)) o.op.operands.toList labs) [] fun ns0 => reachK labs 4 ns0 fun ns => takeK i ns labs fun labs1 rs => bif freshD d env rs then stK P ti env rs (some (gd, gb)) d o.op fun v rs' => (bif notG v && clsOk dl i A (v.names (tokNames rs' [])) then giveK i labs1 rs' fun labs2 => snocK rds [] fun rds' => vcD P ti nt ops dl base olds anc (i + 1) rest (⟨i, d, v⟩ :: ents) labs2 rds' K else False) else False) ∧ (gc = false → ∃ v, bif notG v && clsOk dl i A (v.names []) then snocK rds [] fun rds' => vcD P ti nt ops dl base olds anc (i + 1) rest (⟨i, d, .gd gd gb v⟩ :: ents) labs rds' K else False))) := rfl
def vcDr (P : Program) (ti : TI) (nt : Nat) (ops : List Oper) (env : Ev) (rs : List Tok) (K : Ev → List Tok → Prop) : Prop :=
  baseK (dstL ops 0) [] env fun base olds => ancsK ops [] fun anc => startK rs fun labs => bif clsNo (dstL ops 0) (envNames base (oldNames olds (labNames labs []))) then vcD P ti nt ops (dstL ops 0) base olds anc 0 ops [] labs [] K else False
/-- The slots that hold something under a guard are forgotten. -/
def dropG : List Nat → Ev → (Ev → Prop) → Prop
  | _, [], K => K []
  | dl, (t, v) :: l, K => match v with
    | .gd _ _ _ => dropG (t :: dl) l K
    | v => bif mem t dl then dropG dl l K else dropG dl l fun l' => K ((t, v) :: l')
def anyG : List Oper → Bool
  | [] => false
  | o :: l => match o.guard with | some _ => true | none => anyG l
def envLe (env : Ev) : Ev → Prop
  | [] => True
  | (t, v) :: l => match lk env t with
    | some u => svEq u v ∧ envLe env l
    | none => False
/-- The slots that a code writes. -/
def wrOps : List Oper → List Nat → List Nat
  | [], r => r
  | o :: l, r => match o.dst with | some d => d :: wrOps l r | none => wrOps l r
def wr : Code → List Nat → List Nat
  | .seq a b, r => wr a (wr b r)
  | .cond _ a b, r => wr a (wr b r)
  | .block _ a, r => wr a r
  | .region _ ops _, r => wrOps ops.toList r
  | .loop a, r => wr a r
  | _, r => r
def memAny : List Nat → List Nat → Bool
  | [], _ => false
  | t :: l, m => bif mem (t % 1000000) m || Nat.ble 20000 (t % 1000000) then true else memAny l m
def keepK : List Nat → Ev → (Ev → Prop) → Prop
  | _, [], K => K []
  | wl, (t, v) :: l, K => bif mem t wl then keepK wl l K else bif memAny (v.names []) wl then keepK (t :: wl) l K else keepK wl l fun l' => K ((t, v) :: l')
def appK : Ev → Ev → (Ev → Prop) → Prop
  | [], e, K => K e
  | (t, v) :: l, e, K => appK l e fun l' => K ((t, v) :: l')
structure Lp where
  σ : Type
  U : σ → Ev
  T : σ → List Tok
  μ : σ → Nat
  I : σ → Prop
  s0 : σ
  G : σ → (List Tok → Prop) → Prop
  ok : ∀ (s : σ) (K : List Tok → Prop) (cx : Cx) (β : Nat → Value) (w : World) (R : List Res), G s K → Inv cx.w0 cx.F0 w ((T s).map (Tok.res cx β) ++ R) → ∃ rs', K rs' ∧ Inv cx.w0 cx.F0 w (rs'.map (Tok.res cx β) ++ R)
def domOk : List (Nat × Nat) → Bool
  | [] => true
  | (g, _) :: l => Nat.ble 20000 g && Nat.blt g 1000000 && domOk l
/-- Nil slices are taken for empty rows of the call's own. -/
structure Mint where
  t : Nat
  g : Nat
  e : TypeId
  s : Nat
  u : U
/-- Names from 500000 on: rows of data that is read only. -/
def mintT (m : Mint) : Tok := bif Nat.ble 500000 m.g then .dat m.g m.e m.s m.u [] else .row m.g m.e m.s m.u [] []
/-- A nil slice in a cell. -/
def mintC (g : Nat) : Nat → List SV → Option (List SV)
  | 0, .raw (.slice none 0 0) :: l => some (.sl g :: l)
  | i + 1, c :: l => match mintC g i l with | some r => some (c :: r) | none => none
  | _, _ => none
/-- t below 1000000: a slot; else cell t / 1000000 - 1 of the variable t % 1000000. -/
def mintK : List Mint → Ev → List Tok → (Ev → List Tok → Prop) → Prop
  | [], env, rs, K => K env rs
  | m :: l, env, rs, K => match (Nat.ble 20000 m.g && Nat.blt m.g 1000000) && freshD m.g env rs && Nat.beq m.u.size m.s with
    | true => match Nat.blt m.t 1000000 with
      | true => match lk env m.t with
        | some (.raw (.slice none 0 0)) => mintK l ((m.t, .sl m.g) :: env) (mintT m :: rs) K
        | _ => False
      | false => takeCel rs (m.t % 1000000) fun t cs rest => match mintC m.g (m.t / 1000000 - 1) cs with
        | some cs' => mintK l env (mintT m :: .cel (m.t % 1000000) t cs' :: rest) K
        | none => False
    | false => False
/-- The state is that of the loop's head, names apart. -/
def headK (env : Ev) (rs : List Tok) (U : Ev) (T : List Tok) : Prop := ∃ (σ : List (Nat × Nat)) (M : List Mint), domOk σ = true ∧ mintK M env rs fun env rs => (rnEK false σ U fun U' => envLe env U') ∧ rnTLK false σ T fun T' => toksLe rs T'
def vc (P : Program) (ti : TI) (nt : Nat) (c : Code) : Ev → List Tok → (X → Ev → List Tok → Prop) → Prop :=
  Code.rec (motive := fun _ => Ev → List Tok → (X → Ev → List Tok → Prop) → Prop)
    (fun env rs K => K .n env rs)
    (fun _ ops draw env rs K => match draw with
      | false => vcOps P ti nt ops.toList [] ops.toList env rs fun env' rs' => bif anyG ops.toList then dropG [] env' (fun env'' => K .n env'' rs') else K .n env' rs'
      | true => vcDr P ti nt ops.toList env rs fun env' rs' => bif anyG ops.toList then dropG [] env' (fun env'' => K .n env'' rs') else K .n env' rs')
    (fun _ _ ih_a ih_b env rs K => ih_a env rs fun e env' rs' => match e with | .n => ih_b env' rs' K | e => K e env' rs')
    (fun c _ _ ih_a ih_b env rs K => match evs env none c with
    | some (.bool t) => (t = true → ih_a env rs K) ∧ (t = false → ih_b env rs K)
    | _ => False)
    (fun id _ ih_a env rs K => ih_a env rs fun e env' rs' => match e with
    | .x id' => bif Nat.beq id' id then K .n env' rs' else K (.x id') env' rs'
    | e => K e env' rs')
    (fun body ih_body env rs K => ∃ L : Lp, (L.I L.s0 ∧ headK env rs (L.U L.s0) (L.T L.s0)) ∧ ∀ s, L.I s → keepK (wr body []) env fun kept => appK (L.U s) kept fun env1 => L.G s fun rsG => ih_body env1 rsG fun e env' rs' => match e with
    | .n => ∃ s', (L.I s' ∧ headK env' rs' (L.U s') (L.T s')) ∧ L.μ s' < L.μ s
    | e => K e env' rs')
    (fun _ _ _ _ _ _ _ _ _ => False)
    (fun id env rs K => K (.x id) env rs)
    (fun _ _ _ _ _ => False)
    (fun _ _ _ _ => False)
    (fun _ _ _ _ => False)
    (fun env rs K => K .r env rs)
    (fun _ _ _ _ => False) c
section
variable {P : Program} {ti : TI} {nt : Nat} {env : Ev} {rs : List Tok} {K : X → Ev → List Tok → Prop}
theorem vc_seq {a b : Code} : vc P ti nt (.seq a b) env rs K = (vc P ti nt a env rs fun e env' rs' => match e with | .n => vc P ti nt b env' rs' K | e => K e env' rs') := rfl
theorem vc_cond {c : Operand} {a b : Code} : vc P ti nt (.cond c a b) env rs K = (match evs env none c with
    | some (.bool t) => (t = true → vc P ti nt a env rs K) ∧ (t = false → vc P ti nt b env rs K)
    | _ => False) := rfl
theorem vc_block {id : Nat} {a : Code} : vc P ti nt (.block id a) env rs K = (vc P ti nt a env rs fun e env' rs' => match e with
    | .x id' => bif Nat.beq id' id then K .n env' rs' else K (.x id') env' rs'
    | e => K e env' rs') := rfl
theorem vc_reg {id : Nat} {ops : Array Oper} : vc P ti nt (.region id ops false) env rs K = (vcOps P ti nt ops.toList [] ops.toList env rs fun env' rs' => bif anyG ops.toList then dropG [] env' (fun env'' => K .n env'' rs') else K .n env' rs') := rfl
theorem vc_draw {id : Nat} {ops : Array Oper} : vc P ti nt (.region id ops true) env rs K = (vcDr P ti nt ops.toList env rs fun env' rs' => bif anyG ops.toList then dropG [] env' (fun env'' => K .n env'' rs') else K .n env' rs') := rfl
theorem vc_loop {body : Code} : vc P ti nt (.loop body) env rs K = (∃ L : Lp, (L.I L.s0 ∧ headK env rs (L.U L.s0) (L.T L.s0)) ∧ ∀ s, L.I s → keepK (wr body []) env fun kept => appK (L.U s) kept fun env1 => L.G s fun rsG => vc P ti nt body env1 rsG fun e env' rs' => match e with
    | .n => ∃ s', (L.I s' ∧ headK env' rs' (L.U s') (L.T s')) ∧ L.μ s' < L.μ s
    | e => K e env' rs') := rfl
end
def outR (ti : TI) (env : Ev) (rs : List Tok) : List ResultVar → Option (List SV)
  | [] => some []
  | .tmp t :: l => match lk env t, outR ti env rs l with | some v, some r => some (v :: r) | _, _ => none
  | .cell t ty :: l => match lk env t with
    | some (.ptr g 0) => match celOf rs g, lk ti ty with
      | some cs, some (.st _ n _ _) => bif Nat.beq cs.length n then (match outR ti env rs l with | some r => some (.agg cs :: r) | none => none) else none
      | some [v], some _ => match outR ti env rs l with | some r => some (v :: r) | none => none
      | _, _ => none
    | _ => none
def outP (ti : TI) (env : Ev) (rs : List Tok) (rv : List ResultVar) (r : SV) : Prop := match outR ti env rs rv with
  | some [v] => svEq v r
  | some l => svEq (.tup l) r
  | none => False
def argsE : List SV → Nat → Ev → Ev
  | [], _, e => e
  | v :: l, i, e => argsE l (i + 1) ((i, v) :: e)
def vcF (P : Program) (ti : TI) (nt : Nat) (c : Code) (rv : List ResultVar) (args : List SV) (r : SV) : Prop :=
  vc P ti nt c (argsE args 0 []) [] fun e env rs => match e with | .x _ => False | _ => outP ti env rs rv r
def idS : Nat → Nat → List (Nat × Nat)
  | 0, _ => []
  | n + 1, i => (i, i) :: idS n (i + 1)
def appS : List (Nat × Nat) → List (Nat × Nat) → List (Nat × Nat)
  | [], e => e
  | x :: l, e => x :: appS l e
/-- A function that takes and gives things: its own are named 10000, 10001, .. in order. -/
def vcFF (P : Program) (ti : TI) (nt : Nat) (c : Code) (rv : List ResultVar) (args : List SV) (ts : List Tok) (r : SV) (ts' : List Tok) : Prop :=
  vc P ti nt c (argsE args 0 []) ts fun e env rs => match e with
    | .x _ => False
    | _ => ∃ (σ : List (Nat × Nat)) (M : List Mint), mintK M env rs fun env rs => rnK true (appS (idS ts.length 10000) σ) r (fun r' => outP ti env rs rv r') ∧ rnTLK true (appS (idS ts.length 10000) σ) ts' fun ts'' => toksLe rs ts''
end Go.Tr

/- The symbolic machine is right: operations that change nothing. -/
set_option linter.unusedSimpArgs false
set_option linter.unusedVariables false
namespace Go.Tr
open Go Go.RowKit
universe u

theorem beq_t {a b : Nat} (h : Nat.beq a b = true) : a = b := Nat.eq_of_beq_eq_true h
theorem enc_tree {e : U} (x : Tree (El e)) : enc (.tree e) x = enc e x.val ++ [.sl x.kids.length (List.flatMap (enc (.tree e)) x.kids)] := by
  cases x with
  | node x l =>
    show encT (enc e) (.node x l) = enc e x ++ [.sl l.length (List.flatMap (encT (enc e)) l)]
    unfold encT
    rw [encTs_eq]
theorem enc_len : ∀ (u : U) (x : El u), (enc u x).length = u.size
  | .tree e, x => by rw [enc_tree]; simp [U.size, enc_len e x.val]
  | .int _, _ | .bool, _ | .str, _ | .any, _ | .sl _, _ => rfl
  | .pair a b, x => by simp [enc, U.size, enc_len a x.1, enc_len b x.2]
theorem svOf_len : ∀ (u : U) (x : El u), (svOf u x).length = u.size
  | .tree e, x => by simp [svOf, U.size, svOf_len e x.val]
  | .int _, _ | .bool, _ | .str, _ | .any, _ | .sl _, _ => rfl
  | .pair a b, x => by simp [svOf, U.size, svOf_len a x.1, svOf_len b x.2]
theorem U.size_pos : ∀ u : U, 0 < u.size
  | .int _ | .bool | .str | .any | .sl _ => Nat.one_pos
  | .pair a b => by simp only [U.size]; have := U.size_pos a; omega
  | .tree a => by simp only [U.size]; omega
section
variable {cx : Cx} {β : Nat → Value}
theorem Dens.app : ∀ {l m : List SV} {us vs : List Value}, Dens cx β l us → Dens cx β m vs → Dens cx β (l ++ m) (us ++ vs)
  | [], m, us, vs, h, k => by unfold Dens at h; subst h; exact k
  | s :: l, m, us, vs, h, k => by
    unfold Dens at h
    obtain ⟨v, vs', rfl, h1, h2⟩ := h
    show Dens cx β (s :: (l ++ m)) (v :: (vs' ++ vs))
    unfold Dens
    exact ⟨v, _, rfl, h1, h2.app k⟩
theorem Dens.one {s : SV} {v : Value} (h : Den cx β s v) : Dens cx β [s] [v] := by unfold Dens; exact ⟨v, [], rfl, h, by unfold Dens; rfl⟩
theorem Dens.len : ∀ {l : List SV} {us : List Value}, Dens cx β l us → us.length = l.length
  | [], us, h => by unfold Dens at h; subst h; rfl
  | s :: l, us, h => by
    unfold Dens at h
    obtain ⟨v, vs', rfl, h1, h2⟩ := h
    simp [h2.len]
theorem Dens.get : ∀ {l : List SV} {us : List Value} {i : Nat} {s : SV}, Dens cx β l us → nth l i = some s → ∃ v, us[i]? = some v ∧ Den cx β s v
  | [], us, i, s, h, hs => by unfold nth at hs; cases hs
  | x :: l, us, 0, s, h, hs => by
    unfold Dens at h
    obtain ⟨v, vs', rfl, h1, h2⟩ := h
    unfold nth at hs
    injection hs with hs
    subst hs
    exact ⟨v, rfl, h1⟩
  | x :: l, us, i + 1, s, h, hs => by
    unfold Dens at h
    obtain ⟨v, vs', rfl, h1, h2⟩ := h
    unfold nth at hs
    simpa using h2.get hs
theorem RoN.append {w0 : World} {F0 : List Nat} {d1 d2 : List D} {us : List Value} (h : RoN w0 F0 (d1 ++ d2) us) : ∃ u1 u2, us = u1 ++ u2 ∧ RoN w0 F0 d1 u1 ∧ RoN w0 F0 d2 u2 := by
  obtain ⟨bs, h1, h2⟩ := h
  obtain ⟨b1, b2, u1, u2, rfl, rfl, h6, h7⟩ := TN.append.1 h1
  exact ⟨u1, u2, rfl, ⟨b1, h6, fun y hy => h2 y (by simp [hy])⟩, ⟨b2, h7, fun y hy => h2 y (by simp [hy])⟩⟩
theorem RoN.v1 {w0 : World} {F0 : List Nat} {x : Value} {us : List Value} (h : RoN w0 F0 [.v x] us) : us = [x] ∧ x.oneCell' = true := by
  obtain ⟨bs, h1, _⟩ := h
  obtain ⟨b1, b2, u, us', rfl, rfl, h2, h3⟩ := TN.cons.1 h1
  obtain ⟨rfl, _, h4⟩ := T1.v.1 h2
  obtain ⟨rfl, _⟩ := TN.nil.1 h3
  exact ⟨rfl, h4⟩
theorem svOf_ok : ∀ (u : U) (x : El u) {us : List Value}, RoN cx.w0 cx.F0 (enc u x) us → Dens cx β (svOf u x) us
  | .int k, x, us, h => by obtain ⟨rfl, _⟩ := h.v1; exact Dens.one (by unfold Den; rfl)
  | .bool, x, us, h => by obtain ⟨rfl, _⟩ := h.v1; exact Dens.one (by unfold Den; rfl)
  | .str, x, us, h => by obtain ⟨rfl, h1⟩ := h.v1; exact Dens.one (by unfold Den; exact ⟨rfl, h1⟩)
  | .any, x, us, h => by obtain ⟨rfl, h1⟩ := h.v1; exact Dens.one (by unfold Den; exact ⟨rfl, h1⟩)
  | .pair a b, x, us, h => by
    obtain ⟨u1, u2, rfl, h1, h2⟩ := RoN.append h
    exact (svOf_ok a x.1 h1).app (svOf_ok b x.2 h2)
  | .sl e, xs, us, h => by
    obtain ⟨A, c, us', rfl, h1, _, h2⟩ := RoN.sl h
    have := h2.end_
    subst this
    exact Dens.one (by unfold Den; exact h1)
  | .tree e, x, us, h => by
    rw [enc_tree] at h
    obtain ⟨u1, u2, rfl, h1, h2⟩ := RoN.append h
    obtain ⟨A, c, us', rfl, h3, _, h4⟩ := RoN.sl h2
    have := h4.end_
    subst this
    exact (svOf_ok e x.val h1).app (Dens.one (by unfold Den; exact h3))
def B0 : SV → Prop
  | .int _ _ => True
  | .bool _ => True
  | .raw _ => True
  | .rsl _ _ => True
  | _ => False
theorem svOf_b0 : ∀ (u : U) (x : El u), ∀ s ∈ svOf u x, B0 s
  | .int _, x, s, h | .bool, x, s, h | .str, x, s, h | .any, x, s, h | .sl _, x, s, h => by
    simp only [svOf, List.mem_singleton] at h
    subst h
    trivial
  | .pair a b, x, s, h => by
    simp only [svOf, List.mem_append] at h
    exact h.elim (svOf_b0 a x.1 s) (svOf_b0 b x.2 s)
  | .tree e, x, s, h => by
    simp only [svOf, List.mem_append, List.mem_singleton] at h
    rcases h with h | h
    · exact svOf_b0 e x.val s h
    · subst h; trivial
theorem Dens.b0 {β' : Nat → Value} : ∀ {l : List SV} {us : List Value}, (∀ s ∈ l, B0 s) → Dens cx β l us → Dens cx β' l us
  | [], us, _, h => by unfold Dens at h ⊢; exact h
  | s :: l, us, hb, h => by
    unfold Dens at h ⊢
    obtain ⟨v, vs, e, h1, h2⟩ := h
    refine ⟨v, vs, e, ?_, Dens.b0 (fun s hs => hb s (List.mem_cons_of_mem _ hs)) h2⟩
    have := hb s (List.mem_cons_self ..)
    cases s <;> first | exact this.elim | (unfold Den at h1 ⊢; exact h1)
theorem Dens.flat0 {β' : Nat → Value} {u : U} {xs : List (El u)} {us : List Value} (h : Dens cx β (List.flatMap (svOf u) xs) us) : Dens cx β' (List.flatMap (svOf u) xs) us := h.b0 fun s hs => by
  obtain ⟨x, _, h1⟩ := List.mem_flatMap.1 hs
  exact svOf_b0 u x s h1
theorem Ro1.slice {w0 : World} {F0 : List Nat} {n : Nat} {ds : List D} {v : Value} (h : Ro1 w0 F0 (.sl n ds) v) : ∃ A c, v = .slice A n c := by
  obtain ⟨bs, h1, _⟩ := h
  obtain ⟨A, c, h2, _⟩ := h1.slice
  exact ⟨A, c, h2⟩
/-- What a slot holds, in an activation. -/
def DenE (cx : Cx) (β : Nat → Value) (a : Act) : SV → Value → Prop
  | .gd d b x, v => (a.tmps[d]? = some (.bool b) → Den cx β x v) ∧ (a.tmps[d]? ≠ some (.bool b) → v = undef)
  | s, v => Den cx β s v
theorem DenE.of {a : Act} {s : SV} {v : Value} (h : Den cx β s v) : DenE cx β a s v := by
  cases s <;> first | exact h | (unfold Den at h; exact h.elim)
structure EnvS (cx : Cx) (β : Nat → Value) (n : Nat) (a : Act) (env : Ev) : Prop where
  size : a.tmps.size = n
  defers : a.defers = []
  get : ∀ t s, lk env t = some s → ∃ v, a.tmps[t]? = some v ∧ DenE cx β a s v
def gTrue (a : Act) (g : Option (Nat × Bool)) : Prop := ∀ d b, g = some (d, b) → a.tmps[d]? = some (.bool b)
theorem evs_ok {n : Nat} {a : Act} {env : Ev} (E : EnvS cx β n a env) {g : Option (Nat × Bool)} (hg : gTrue a g) {x : Operand} {s : SV} (h : evs env g x = some s) : ∃ v, a.eval x = v ∧ Den cx β s v := by
  cases x with
  | tmp t =>
    unfold evs at h
    simp only at h
    cases hl : lk env t with
    | none => rw [hl] at h; simp at h
    | some u =>
      obtain ⟨v, hv, hd⟩ := E.get t u hl
      have ha : a.eval (.tmp t) = v := by
        show a.tmps.getD t undef = v
        rw [Array.getD_eq_getD_getElem?, hv]; rfl
      refine ⟨v, ha, ?_⟩
      rw [hl] at h
      cases u
      case gd d b x =>
        simp only at h
        cases g with
        | none => simp at h
        | some p =>
          obtain ⟨d', b'⟩ := p
          simp only at h
          cases hb : (Nat.beq d d' && (b == b')) with
          | false => rw [hb] at h; simp at h
          | true =>
            rw [hb] at h
            simp only [cond_true, Option.some.injEq] at h
            subst h
            rw [Bool.and_eq_true, beq_iff_eq] at hb
            obtain ⟨h1, rfl⟩ := hb
            have := beq_t h1
            subst this
            exact hd.1 (hg _ _ rfl)
      all_goals
        simp only [Option.some.injEq] at h
        subst h
        exact hd
  | const v =>
    refine ⟨v, rfl, ?_⟩
    unfold evs at h
    simp only at h
    split at h <;> first | (simp only [Option.some.injEq] at h; subst h; unfold Den; first | rfl | exact ⟨rfl, rfl⟩) | (simp at h)
  | func f =>
    refine ⟨_, rfl, ?_⟩
    unfold evs at h
    simp only [Option.some.injEq] at h
    subst h
    unfold Den
    exact ⟨[], rfl, by unfold Dens; rfl⟩
  | global i => simp [evs] at h
theorem evs2_ok {n : Nat} {a : Act} {env : Ev} (E : EnvS cx β n a env) {g g' : Option (Nat × Bool)} (hg : gTrue a g) (hg' : gTrue a g') {x : Operand} {s : SV} (h : evs2 env g g' x = some s) : ∃ v, a.eval x = v ∧ Den cx β s v := by
  unfold evs2 at h
  cases e : evs env g' x with
  | some v => rw [e] at h; injection h with h; subst h; exact evs_ok E hg' e
  | none => rw [e] at h; exact evs_ok E hg h
theorem evs_tmp {n : Nat} {a : Act} {env : Ev} (E : EnvS cx β n a env) {g : Option (Nat × Bool)} (hg : gTrue a g) {c : Nat} {s : SV} (h : evs env g (.tmp c) = some s) : ∃ v, a.tmps[c]? = some v ∧ Den cx β s v := by
  obtain ⟨v, hv, hd⟩ := evs_ok E hg h
  cases hl : lk env c with
  | none => unfold evs at h; simp [hl] at h
  | some s' =>
    obtain ⟨v0, hv0, _⟩ := E.get c s' hl
    refine ⟨v, ?_, hd⟩
    have : a.eval (.tmp c) = v0 := by
      show a.tmps.getD c undef = _
      rw [Array.getD_eq_getD_getElem?, hv0]; rfl
    rw [← hv, this]; exact hv0
theorem evsL_ok {n : Nat} {a : Act} {env : Ev} (E : EnvS cx β n a env) {g : Option (Nat × Bool)} (hg : gTrue a g) : ∀ {xs : List Operand} {ss : List SV}, evsL env g xs = some ss → Dens cx β ss (xs.map a.eval)
  | [], ss, h => by
    unfold evsL at h
    simp only [Option.some.injEq] at h
    subst h
    unfold Dens
    rfl
  | x :: xs, ss, h => by
    unfold evsL at h
    cases h1 : evs env g x with
    | none => rw [h1] at h; simp at h
    | some s =>
      cases h2 : evsL env g xs with
      | none => rw [h1, h2] at h; simp at h
      | some r =>
        rw [h1, h2] at h
        simp only [Option.some.injEq] at h
        subst h
        obtain ⟨v, h3, h4⟩ := evs_ok E hg h1
        unfold Dens
        exact ⟨v, _, by rw [List.map_cons, h3], h4, evsL_ok E hg h2⟩
theorem celOf_mem {rs : List Tok} {g : Nat} {cs : List SV} (h : celOf rs g = some cs) : ∃ (i : Nat) (t : TypeId), rs[i]? = some (Tok.cel g t cs) := by
  induction rs with
  | nil => simp [celOf] at h
  | cons x rs ih =>
    cases x with
    | cel g' t cs' =>
      unfold celOf at h
      cases hb : Nat.beq g' g with
      | true =>
        rw [hb] at h
        simp only [cond_true, Option.some.injEq] at h
        subst h
        have := beq_t hb
        subst this
        exact ⟨0, t, rfl⟩
      | false =>
        rw [hb] at h
        obtain ⟨i, t, h1⟩ := ih h
        exact ⟨i + 1, t, by simpa using h1⟩
    | row g' t s u xs us =>
      unfold celOf at h
      obtain ⟨i, t, h1⟩ := ih h
      exact ⟨i + 1, t, by simpa using h1⟩
    | map g' u kv =>
      unfold celOf at h
      obtain ⟨i, t, h1⟩ := ih h
      exact ⟨i + 1, t, by simpa using h1⟩
    | nest g' u xs us =>
      unfold celOf at h
      obtain ⟨i, t, h1⟩ := ih h
      exact ⟨i + 1, t, by simpa using h1⟩
    | dat g' t s u xs =>
      unfold celOf at h
      obtain ⟨i, t, h1⟩ := ih h
      exact ⟨i + 1, t, by simpa using h1⟩
theorem rowOf_mem {rs : List Tok} {g : Nat} {r : RowI} (h : rowOf rs g = some r) : ∃ (i : Nat), rs[i]? = some (Tok.row g r.t r.s r.u r.xs r.us) := by
  induction rs with
  | nil => simp [rowOf] at h
  | cons x rs ih =>
    cases x with
    | row g' t s u xs us =>
      unfold rowOf at h
      cases hb : Nat.beq g' g with
      | true =>
        rw [hb] at h
        simp only [cond_true, Option.some.injEq] at h
        subst h
        have := beq_t hb
        subst this
        exact ⟨0, rfl⟩
      | false =>
        rw [hb] at h
        obtain ⟨i, h1⟩ := ih h
        exact ⟨i + 1, by simpa using h1⟩
    | cel g' t cs =>
      unfold rowOf at h
      obtain ⟨i, h1⟩ := ih h
      exact ⟨i + 1, by simpa using h1⟩
    | map g' u kv =>
      unfold rowOf at h
      obtain ⟨i, h1⟩ := ih h
      exact ⟨i + 1, by simpa using h1⟩
    | nest g' u xs us =>
      unfold rowOf at h
      obtain ⟨i, h1⟩ := ih h
      exact ⟨i + 1, by simpa using h1⟩
    | dat g' t s u xs =>
      unfold rowOf at h
      obtain ⟨i, h1⟩ := ih h
      exact ⟨i + 1, by simpa using h1⟩
theorem datOf_mem {rs : List Tok} {g : Nat} {r : DatI} (h : datOf rs g = some r) : ∃ (i : Nat), rs[i]? = some (Tok.dat g r.t r.s r.u r.xs) := by
  induction rs with
  | nil => simp [datOf] at h
  | cons x rs ih =>
    cases x with
    | dat g' t s u xs =>
      unfold datOf at h
      cases hb : Nat.beq g' g with
      | true =>
        rw [hb] at h
        simp only [cond_true, Option.some.injEq] at h
        subst h
        have := beq_t hb
        subst this
        exact ⟨0, rfl⟩
      | false =>
        rw [hb] at h
        obtain ⟨i, h1⟩ := ih h
        exact ⟨i + 1, by simpa using h1⟩
    | row g' t s u xs us =>
      unfold datOf at h
      obtain ⟨i, h1⟩ := ih h
      exact ⟨i + 1, by simpa using h1⟩
    | cel g' t cs =>
      unfold datOf at h
      obtain ⟨i, h1⟩ := ih h
      exact ⟨i + 1, by simpa using h1⟩
    | map g' u kv =>
      unfold datOf at h
      obtain ⟨i, h1⟩ := ih h
      exact ⟨i + 1, by simpa using h1⟩
    | nest g' u xs us =>
      unfold datOf at h
      obtain ⟨i, h1⟩ := ih h
      exact ⟨i + 1, by simpa using h1⟩
theorem mapOf_mem {rs : List Tok} {g : Nat} {r : MapI} (h : mapOf rs g = some r) : ∃ (i : Nat), rs[i]? = some (Tok.map g r.u r.kv) := by
  induction rs with
  | nil => simp [mapOf] at h
  | cons x rs ih =>
    cases x with
    | map g' u kv =>
      unfold mapOf at h
      cases hb : Nat.beq g' g with
      | true =>
        rw [hb] at h
        simp only [cond_true, Option.some.injEq] at h
        subst h
        have := beq_t hb
        subst this
        exact ⟨0, rfl⟩
      | false =>
        rw [hb] at h
        obtain ⟨i, h1⟩ := ih h
        exact ⟨i + 1, by simpa using h1⟩
    | cel g' t cs =>
      unfold mapOf at h
      obtain ⟨i, h1⟩ := ih h
      exact ⟨i + 1, by simpa using h1⟩
    | nest g' u xs us =>
      unfold mapOf at h
      obtain ⟨i, h1⟩ := ih h
      exact ⟨i + 1, by simpa using h1⟩
    | dat g' t s u xs =>
      unfold mapOf at h
      obtain ⟨i, h1⟩ := ih h
      exact ⟨i + 1, by simpa using h1⟩
    | row g' t s u xs us =>
      unfold mapOf at h
      obtain ⟨i, h1⟩ := ih h
      exact ⟨i + 1, by simpa using h1⟩
theorem flat_enc_len (u : U) (xs : List (El u)) : (xs.flatMap (enc u)).length = xs.length * u.size := flat_len (enc u) u.size (enc_len u) xs
theorem rw_at {w : World} {rs : List Tok} {fr : List Res} (H : Inv cx.w0 cx.F0 w (rs.map (Tok.res cx β) ++ fr)) {g : Nat} {r : RowI} (h : rowOf rs g = some r) :
    r.u.size = r.s ∧ ∃ A c bs, β g = .slice A (List.length (α := El r.u) r.xs) c ∧ T1 w (.sl (List.length (α := El r.u) r.xs) (List.flatMap (enc r.u) r.xs)) bs (β g) ∧ (0 < List.length (α := El r.u) r.xs → ∃ b, A = some ⟨b, 0, none⟩) := by
  obtain ⟨i, hi⟩ := rowOf_mem h
  obtain ⟨F, h1, h2⟩ := H.mem i (r := Tok.res cx β (.row g r.t r.s r.u r.xs r.us)) (by
    rw [List.getElem?_append_left (by simpa using (List.getElem?_eq_some_iff.1 hi).1), List.getElem?_map, hi]; rfl)
  refine ⟨h1, ?_⟩
  obtain ⟨bs, us, _, hg, _⟩ := h2
  obtain ⟨A, c, bs', e, ht, _⟩ := hg.res (by rw [flat_enc_len, h1])
  refine ⟨A, c, bs', e, e ▸ ht, fun hp => ?_⟩
  rcases hg.row.2 with ⟨e1, e2⟩ | ⟨b, cap, cur, e1, _⟩
  · omega
  · rw [e] at e1
    injection e1 with e1
    exact ⟨b, e1⟩
theorem dat_at {w : World} {rs : List Tok} {fr : List Res} (H : Inv cx.w0 cx.F0 w (rs.map (Tok.res cx β) ++ fr)) {g : Nat} {r : DatI} (h : datOf rs g = some r) :
    r.u.size = r.s ∧ ∃ A c, β g = .slice A (List.length (α := El r.u) r.xs) c := by
  obtain ⟨i, hi⟩ := datOf_mem h
  obtain ⟨F, h1, us, h2, h3, h4⟩ := H.mem i (r := Tok.res cx β (.dat g r.t r.s r.u r.xs)) (by
    rw [List.getElem?_append_left (by simpa using (List.getElem?_eq_some_iff.1 hi).1), List.getElem?_map, hi]; rfl)
  refine ⟨h1, ?_⟩
  obtain ⟨bs, us', _, hg, _⟩ := h4
  rcases hg.row.2 with ⟨e1, e2⟩ | ⟨b, cap, cur, e1, _⟩
  · exact ⟨_, _, by rw [e1, e2]⟩
  · exact ⟨_, _, e1⟩
theorem rw_cap {w : World} {rs : List Tok} {fr : List Res} (H : Inv cx.w0 cx.F0 w (rs.map (Tok.res cx β) ++ fr)) {g : Nat} {r : RowI} (h : rowOf rs g = some r) (hp : 0 < List.length (α := El r.u) r.xs) :
    ∃ b c, β g = .slice (some ⟨b, 0, none⟩) (List.length (α := El r.u) r.xs) c ∧ List.length (α := El r.u) r.xs ≤ c := by
  obtain ⟨i, hi⟩ := rowOf_mem h
  obtain ⟨F, h1, h2⟩ := H.mem i (r := Tok.res cx β (.row g r.t r.s r.u r.xs r.us)) (by
    rw [List.getElem?_append_left (by simpa using (List.getElem?_eq_some_iff.1 hi).1), List.getElem?_map, hi]; rfl)
  obtain ⟨bs, us, _, hg, _⟩ := h2
  rcases hg.row.2 with ⟨e1, e2⟩ | ⟨b, cap, cur, e1, _, _, e3, _⟩
  · omega
  · exact ⟨b, cap, e1, e3⟩
theorem rw_pre {w : World} {rs : List Tok} {fr : List Res} (H : Inv cx.w0 cx.F0 w (rs.map (Tok.res cx β) ++ fr)) {g : Nat} {r : RowI} (h : rowOf rs g = some r) {b m c : Nat} (hb : β g = .slice (some ⟨b, 0, none⟩) m c) {j : Nat} {v : Value} (hv : r.us[j]? = some v) : w.cell? ⟨b, j, none⟩ = some v := by
  obtain ⟨i, hi⟩ := rowOf_mem h
  obtain ⟨F, h1, h2⟩ := H.mem i (r := Tok.res cx β (.row g r.t r.s r.u r.xs r.us)) (by
    rw [List.getElem?_append_left (by simpa using (List.getElem?_eq_some_iff.1 hi).1), List.getElem?_map, hi]; rfl)
  obtain ⟨bs, us, _, hg, q, hq⟩ := h2
  have hu : us[j]? = some v := by
    rw [← hq, List.getElem?_append_left (List.getElem?_eq_some_iff.1 hv).1]
    exact hv
  rcases hg.row.2 with ⟨e1, e2⟩ | ⟨b', cap, cur, e1, _, e2, _, _, _, e3⟩
  · rw [hb] at e1; cases e1
  · rw [hb] at e1
    injection e1 with e1
    injection e1 with e1
    injection e1 with e1
    subst e1
    rw [cell_of_row w b j cur r.t (0, 0) e2, ← Array.getElem?_toList]
    rw [← e3, List.getElem?_take] at hu
    split at hu
    · exact hu
    · cases hu
theorem cel_at {w : World} {rs : List Tok} {fr : List Res} (H : Inv cx.w0 cx.F0 w (rs.map (Tok.res cx β) ++ fr)) {g : Nat} {cs : List SV} (h : celOf rs g = some cs) :
    ∃ b us t, β g = .pointer (some ⟨b, 0, none⟩) ∧ Dens cx β cs us ∧ us.all (·.oneCell') = true ∧ w.heap[b]? = some (.cells us.toArray t (0, 0)) := by
  obtain ⟨i, t, hi⟩ := celOf_mem h
  obtain ⟨F, b, us, h1, h2, h3, h4⟩ := H.mem i (r := Tok.res cx β (.cel g t cs)) (by
    rw [List.getElem?_append_left (by simpa using (List.getElem?_eq_some_iff.1 hi).1), List.getElem?_map, hi]; rfl)
  exact ⟨b, us, t, h1, h2, h3, h4.2⟩
theorem nth_eq {α : Type u} : ∀ {l : List α} {i : Nat}, nth l i = l[i]?
  | [], i => by simp [nth]
  | x :: l, 0 => by simp [nth]
  | x :: l, i + 1 => by simp [nth, nth_eq (l := l)]
theorem dropN_eq {α : Type u} : ∀ {n : Nat} {l : List α}, dropN n l = l.drop n
  | 0, l => by cases l <;> simp [dropN]
  | n + 1, [] => by simp [dropN]
  | n + 1, x :: l => by simp [dropN, dropN_eq (n := n)]
theorem takeN_eq {α : Type u} : ∀ {n : Nat} {l r : List α}, takeN n l = some r → l.take n = r ∧ r.length = n
  | 0, l, r, h => by cases l <;> simp [takeN] at h <;> subst h <;> simp
  | n + 1, [], r, h => by simp [takeN] at h
  | n + 1, x :: l, r, h => by
    unfold takeN at h
    cases h1 : takeN n l with
    | none => rw [h1] at h; simp at h
    | some q =>
      rw [h1] at h
      simp only [Option.some.injEq] at h
      subst h
      obtain ⟨h2, h3⟩ := takeN_eq h1
      simp [h2, h3]
theorem Dens.drop : ∀ {l : List SV} {us : List Value} (k : Nat), Dens cx β l us → Dens cx β (l.drop k) (us.drop k)
  | l, us, 0, h => by simpa using h
  | [], us, k + 1, h => by unfold Dens at h; subst h; simp; unfold Dens; rfl
  | s :: l, us, k + 1, h => by
    unfold Dens at h
    obtain ⟨v, vs', rfl, h1, h2⟩ := h
    simpa using h2.drop k
theorem Dens.take : ∀ {l : List SV} {us : List Value} (k : Nat), Dens cx β l us → Dens cx β (l.take k) (us.take k)
  | l, us, 0, h => by simp; unfold Dens; rfl
  | [], us, k + 1, h => by unfold Dens at h; subst h; simp; unfold Dens; rfl
  | s :: l, us, k + 1, h => by
    unfold Dens at h
    obtain ⟨v, vs', rfl, h1, h2⟩ := h
    simp only [List.take_succ_cons]
    unfold Dens
    exact ⟨v, _, rfl, h1, h2.take k⟩

/-! ### the types -/
variable {P : Program} {ti : TI}
theorem lk_mem {α : Type u} : ∀ {l : List (Nat × α)} {t : Nat} {x : α}, lk l t = some x → (t, x) ∈ l
  | [], t, x, h => by simp [lk] at h
  | (k, v) :: l, t, x, h => by
    unfold lk at h
    cases hb : Nat.beq t k with
    | true =>
      rw [hb] at h
      simp only [cond_true, Option.some.injEq] at h
      have := beq_t hb
      subst this h
      simp
    | false =>
      rw [hb] at h
      exact List.mem_cons_of_mem _ (lk_mem h)
theorem ti_at (h : tiOk P ti = true) {t : Nat} {x : TInfo} (hl : lk ti t = some x) : tiOk1 P t x = true := by
  unfold tiOk at h
  rw [List.all_eq_true] at h
  exact h _ (lk_mem hl)
theorem ti_st (h : tiOk P ti = true) {t m n : Nat} {u : U} {zs : List SV} (hl : lk ti t = some (.st m n u zs)) :
    aggB P t = some true ∧ (P.info? t).map (·.size) = some n ∧ u.size = n ∧ ∀ i, i < m → fldOff P t i = some (fldO i m u) := by
  have := ti_at h hl
  unfold tiOk1 at this
  rw [Bool.and_eq_true] at this
  have := this.2
  simp only [Bool.and_eq_true, beq_iff_eq, List.all_eq_true, List.mem_range] at this
  exact ⟨this.1.1.1.1, this.1.1.1.2, beq_t this.1.1.2, this.1.2⟩
theorem ti_pl (h : tiOk P ti = true) {t m n : Nat} {u : U} {zs : List SV} (hl : lk ti t = some (.st m n u zs)) : placesOf P t = some ((List.range m).map fun i => (fldO i m u, fldS i m u)) := by
  have := ti_at h hl
  unfold tiOk1 at this
  rw [Bool.and_eq_true] at this
  have := this.2
  simp only [Bool.and_eq_true, beq_iff_eq] at this
  exact this.2
theorem ti_sl (h : tiOk P ti = true) {t e s : Nat} {u : U} (hl : lk ti t = some (.sl e s u)) : aggB P t = some false ∧ elemOf? P t = some (e, s) ∧ u.size = s := by
  have := ti_at h hl
  unfold tiOk1 at this
  rw [Bool.and_eq_true] at this
  have := this.2
  simp only [Bool.and_eq_true, beq_iff_eq] at this
  exact ⟨this.1.1.1.1, this.1.1.1.2, beq_t this.1.1.2⟩
theorem ti_el (h : tiOk P ti = true) {t e s : Nat} {u : U} (hl : lk ti t = some (.sl e s u)) : ElemOk P t e s := by
  have := ti_at h hl
  unfold tiOk1 at this
  rw [Bool.and_eq_true] at this
  have := this.2
  simp only [Bool.and_eq_true, beq_iff_eq] at this
  refine ElemOk.of ?_ this.2 (by simpa using this.1.2)
  have h2 := (ti_sl h hl).2.1
  unfold elemOf? at h2
  split at h2
  · rename_i e' hu
    cases hi : P.info? e' with
    | none => rw [hi] at h2; simp at h2
    | some i =>
      rw [hi] at h2
      simp at h2
      rw [hu, h2.1]
  · cases h2
theorem ti_sc (h : tiOk P ti = true) {t : Nat} {x : TInfo} (hl : lk ti t = some x) (hx : ∀ m n u z, x ≠ .st m n u z) : aggB P t = some false := by
  have := ti_at h hl
  unfold tiOk1 at this
  rw [Bool.and_eq_true] at this
  have this := this.2
  cases x with
  | sc z => simp only [Bool.and_eq_true, beq_iff_eq] at this; exact this.1
  | ptr z => simpa using this
  | bool => simp only [Bool.and_eq_true, beq_iff_eq] at this; exact this.1
  | sl e s u => exact (ti_sl h hl).1
  | mp u => simp only [Bool.and_eq_true, beq_iff_eq] at this; exact this.1.1
  | st m n u z => exact absurd rfl (hx m n u z)
theorem vOf_ok {u : U} (h : u1 u = true) (x : El u) : svOf u x = [ofV (vOf u x)] ∧ (vOf u x).oneCell' = true ∧ Den cx β (ofV (vOf u x)) (vOf u x) ∧ u.size = 1 := by
  cases u <;> simp only [u1] at h <;> first | cases h | skip
  · exact ⟨rfl, rfl, by unfold Den ofV vOf; rfl, rfl⟩
  · exact ⟨rfl, rfl, by unfold Den ofV vOf; rfl, rfl⟩
theorem valEq_ok {a b : Value} (h : valEq a b = true) : a = b := by
  unfold valEq at h
  split at h
  · rw [Bool.and_eq_true, beq_iff_eq, beq_iff_eq] at h; rw [h.1, h.2]
  · rw [beq_iff_eq] at h; rw [h]
  · rw [beq_iff_eq] at h
    rename_i a b
    cases a; cases b
    simp only at h
    rw [h]
  all_goals first | rfl | cases h
theorem valsEq_ok : ∀ {a b : List Value}, valsEq a b = true → a = b
  | [], [], _ => rfl
  | a :: l, b :: m, h => by
    unfold valsEq at h
    rw [Bool.and_eq_true] at h
    rw [valEq_ok h.1, valsEq_ok h.2]
  | [], _ :: _, h => by cases h
  | _ :: _, [], h => by cases h
theorem ti_mp (h : tiOk P ti = true) {t : Nat} {u : U} (hl : lk ti t = some (.mp u)) : u1 u = true ∧ ∃ k e, P.underlying t = some (.map k e) ∧ P.underlying k = some (.int .i64) ∧ ∃ i, P.info? e = some i ∧ i.zero = some (vOf u (dflt u)) := by
  have := ti_at h hl
  unfold tiOk1 at this
  rw [Bool.and_eq_true] at this
  have := this.2
  simp only [Bool.and_eq_true, beq_iff_eq] at this
  refine ⟨this.1.2, ?_⟩
  have h2 := this.2
  split at h2
  · rename_i k e hu
    simp only [Bool.and_eq_true] at h2
    refine ⟨k, e, hu, ?_, ?_⟩
    · have h3 := h2.1
      split at h3
      · assumption
      · cases h3
    · have h3 := h2.2
      split at h3
      · rename_i z hz
        cases hi : P.info? e with
        | none => rw [hi] at hz; simp at hz
        | some i =>
          rw [hi] at hz
          simp only [Option.bind_some] at hz
          exact ⟨i, rfl, by rw [hz, valEq_ok h3]⟩
      · cases h3
  · cases h2
theorem den0_ok {s : SV} (h : solid0 s = true) : Den cx β s (den0 s) ∧ (den0 s).oneCell' = true := by
  unfold solid0 at h
  split at h
  · unfold Den den0; exact ⟨rfl, rfl⟩
  · unfold Den den0; exact ⟨rfl, rfl⟩
  · unfold Den den0; exact ⟨⟨rfl, h⟩, h⟩
  · cases h
theorem den0s_ok : ∀ {l : List SV}, l.all solid0 = true → Dens cx β l (l.map den0) ∧ (l.map den0).all (·.oneCell') = true
  | [], _ => by unfold Dens; exact ⟨rfl, rfl⟩
  | s :: l, h => by
    rw [List.all_cons, Bool.and_eq_true] at h
    obtain ⟨h1, h2⟩ := den0_ok (cx := cx) (β := β) h.1
    obtain ⟨h3, h4⟩ := den0s_ok h.2
    unfold Dens
    exact ⟨⟨_, _, rfl, h1, h3⟩, by rw [List.map_cons, List.all_cons, h2, h4]; rfl⟩
theorem ti_int (h : tiOk P ti = true) {t : Nat} {k : IntKind} {i : Int} (hl : lk ti t = some (.sc (.int k i))) : P.underlying t = some (.int k) := by
  have := ti_at h hl
  unfold tiOk1 at this
  rw [Bool.and_eq_true] at this
  have := this.2
  simp only [Bool.and_eq_true, beq_iff_eq] at this
  have h2 := this.2
  split at h2
  · rename_i k' hu
    rw [hu, eq_of_beq h2]
  · cases h2
theorem ti_und (h : tiOk P ti = true) {t : Nat} {z : SV} (hl : lk ti t = some (.sc z)) : (P.underlying t).isSome = true := by
  have := ti_sc h hl (by intro m n u z h; cases h)
  unfold aggB at this
  cases hu : P.underlying t with
  | none => rw [hu] at this; cases this
  | some x => rfl
theorem ti_zero (h : tiOk P ti = true) {t : Nat} {x : TInfo} (hl : lk ti t = some x) : (zeroT x).all solid0 = true ∧ (P.info? t).map (·.size) = some (zeroT x).length ∧ zeroOf P t = some ((zeroT x).map den0) := by
  have := ti_at h hl
  unfold tiOk1 at this
  rw [Bool.and_eq_true, Bool.and_eq_true, Bool.and_eq_true, beq_iff_eq] at this
  refine ⟨this.1.1.1, this.1.2, ?_⟩
  have h2 := this.1.1.2
  split at h2
  · rename_i zs hz
    rw [hz, valsEq_ok h2]
  · cases h2
theorem fldU_tree {i m : Nat} {e : U} {x : Tree (El e)} : fldU i (m + 2) (.tree e) x = (bif Nat.beq i (m + 1) then some ⟨.sl (.tree e), Tree.kids x⟩ else fldU i (m + 1) e (Tree.val x)) := by
  cases i <;> rfl
theorem fldO_tree {i m : Nat} {e : U} : fldO i (m + 2) (.tree e) = (bif Nat.beq i (m + 1) then e.size else fldO i (m + 1) e) := by
  cases i <;> rfl
theorem fldU_ok : ∀ (i m : Nat) (u : U) (x : El u) {u' : U} {x' : El u'}, fldU i m u x = some ⟨u', x'⟩ → i < m ∧ ∃ d1 d2, enc u x = d1 ++ (enc u' x' ++ d2) ∧ d1.length = fldO i m u
  | 0, 1, u, x, u', x', h => by
    unfold fldU at h
    injection h with h
    injection h with h1 h2
    subst h1
    cases h2
    exact ⟨by omega, [], [], by simp, by unfold fldO; rfl⟩
  | 0, m + 2, .pair a b, x, u', x', h => by
    unfold fldU at h
    injection h with h
    injection h with h1 h2
    subst h1
    cases h2
    exact ⟨by omega, [], enc b x.2, by simp [enc], by unfold fldO; rfl⟩
  | i + 1, m + 2, .pair a b, x, u', x', h => by
    unfold fldU at h
    obtain ⟨h1, d1, d2, h2, h3⟩ := fldU_ok i (m + 1) b x.2 h
    refine ⟨by omega, enc a x.1 ++ d1, d2, by simp [enc, h2], ?_⟩
    unfold fldO
    simp [enc_len, h3]
  | 0, 0, u, x, u', x', h => by unfold fldU at h; simp at h
  | i + 1, 0, u, x, u', x', h => by unfold fldU at h; simp at h
  | i + 1, 1, u, x, u', x', h => by unfold fldU at h; simp at h
  | i, m + 2, .tree e, x, u', x', h => by
    rw [fldU_tree] at h
    cases hb : Nat.beq i (m + 1) with
    | true =>
      rw [hb] at h
      simp only [cond_true, Option.some.injEq] at h
      injection h with h1 h2
      subst h1
      cases h2
      have := beq_t hb
      subst this
      refine ⟨by omega, enc e x.val, [], by rw [enc_tree, List.append_nil]; rfl, ?_⟩
      rw [fldO_tree, hb, enc_len]
      rfl
    | false =>
      rw [hb] at h
      obtain ⟨h1, d1, d2, h2, h3⟩ := fldU_ok i (m + 1) e x.val h
      refine ⟨by omega, d1, d2 ++ [.sl x.kids.length (List.flatMap (enc (.tree e)) x.kids)], by rw [enc_tree, h2]; simp, ?_⟩
      rw [fldO_tree, hb]
      exact h3
  | 0, m + 2, .int _, x, u', x', h | 0, m + 2, .bool, x, u', x', h | 0, m + 2, .str, x, u', x', h | 0, m + 2, .any, x, u', x', h | 0, m + 2, .sl _, x, u', x', h => by simp [fldU] at h
  | i + 1, m + 2, .int _, x, u', x', h | i + 1, m + 2, .bool, x, u', x', h | i + 1, m + 2, .str, x, u', x', h | i + 1, m + 2, .any, x, u', x', h | i + 1, m + 2, .sl _, x, u', x', h => by simp [fldU] at h
theorem flat_at {α : Type} {γ : Type} {f : α → List γ} {n : Nat} (hn : ∀ x, (f x).length = n) : ∀ (l : List α) (i : Nat) (h : i < l.length), ((l.flatMap f).drop (i * n)).take n = f l[i]
  | [], i, h => by simp at h
  | x :: l, 0, h => by
    simp only [List.flatMap_cons, Nat.zero_mul, List.drop_zero, List.getElem_cons_zero]
    rw [List.take_append_of_le_length (by rw [hn]; exact Nat.le_refl _), List.take_of_length_le (by rw [hn]; exact Nat.le_refl _)]
  | x :: l, i + 1, h => by
    simp only [List.flatMap_cons, List.getElem_cons_succ]
    rw [List.drop_append, List.drop_eq_nil_of_le (by rw [hn, Nat.add_mul]; omega), List.nil_append, hn, show (i + 1) * n - n = i * n by rw [Nat.add_mul]; omega]
    exact flat_at hn l i (by simpa using h)
/-- An element of a row of data that is read only. -/
theorem dat_elem {w : World} {rs : List Tok} {fr : List Res} (H : Inv cx.w0 cx.F0 w (rs.map (Tok.res cx β) ++ fr)) {g : Nat} {r : DatI} (h : datOf rs g = some r) {i : Int} (hi : i.toNat < List.length (α := El r.u) r.xs) :
    r.u.size = r.s ∧ ∃ b c us, β g = .slice (some ⟨b, 0, none⟩) (List.length (α := El r.u) r.xs) c ∧ Go.Tr.cellsAt w b (i.toNat * r.s) us ∧ Dens cx β (svOf r.u (elt (dflt r.u) r.xs i)) us := by
  obtain ⟨i0, hi0⟩ := datOf_mem h
  obtain ⟨F, h1, us0, h2, h3, h4⟩ := H.mem i0 (r := Tok.res cx β (.dat g r.t r.s r.u r.xs)) (by
    rw [List.getElem?_append_left (by simpa using (List.getElem?_eq_some_iff.1 hi0).1), List.getElem?_map, hi0]; rfl)
  refine ⟨h1, ?_⟩
  obtain ⟨bs, us', _, hg, _⟩ := h4
  have hus : us' = us0 := by
    have : ∀ {us us' : List Value} {bs : List Nat}, TN w (us.map D.v) bs us' → us' = us := by
      intro us
      induction us with
      | nil => intro us' bs h; exact (TN.nil.1 h).1
      | cons u us ih =>
        intro us' bs h
        rw [List.map_cons] at h
        obtain ⟨b1, b2, v, us2, rfl, rfl, k2, k3⟩ := TN.cons.1 h
        obtain ⟨rfl, _, _⟩ := T1.v.1 k2
        rw [ih k3]
    exact this hg.tn
  subst hus
  rcases hg.row.2 with ⟨e1, e2⟩ | ⟨b, cap, cur, e1, _, e2, _, _, _, e3⟩
  · omega
  · refine ⟨b, cap, (us'.drop (i.toNat * r.s)).take r.s, e1, fun j v hv => ?_, ?_⟩
    · rw [List.getElem?_take] at hv
      split at hv
      · rw [List.getElem?_drop] at hv
        rw [cell_of_row w b _ cur r.t (0, 0) e2, ← Array.getElem?_toList]
        rw [← e3, List.getElem?_take] at hv
        split at hv
        · exact hv
        · cases hv
      · cases hv
    · have h5 := (h2.drop (i.toNat * r.s)).take r.s
      rw [flat_at (fun x => (svOf_len r.u x).trans h1) _ _ hi] at h5
      have : r.xs[i.toNat] = elt (dflt r.u) r.xs i := by unfold elt; rw [List.getD_eq_getElem?_getD, List.getElem?_eq_getElem hi]; rfl
      rw [this] at h5
      exact h5
theorem foldl_set : ∀ (us : List Value) (k off : Nat) (cells : Array Value), off + k + us.length ≤ cells.size → ((us.zipIdx k).foldl (fun (cs : Array Value) (x : Value × Nat) => cs.setIfInBounds (off + x.2) x.1) cells).toList = cells.toList.take (off + k) ++ us ++ cells.toList.drop (off + k + us.length)
  | [], k, off, cells, h => by simp
  | v :: us, k, off, cells, h => by
    simp only [List.length_cons] at h
    rw [List.zipIdx_cons, List.foldl_cons, foldl_set us (k + 1) off _ (by simp; omega)]
    apply List.ext_getElem?
    intro j
    simp only [Array.toList_setIfInBounds, List.getElem?_append, List.getElem?_take, List.length_append, List.length_take, List.length_set, List.length_cons, List.getElem?_set, List.getElem?_drop, Array.length_toList]
    grind
end
end Go.Tr

/- The symbolic machine is right: operations that give a value. -/
set_option linter.unusedSimpArgs false
set_option linter.unusedVariables false
namespace Go.Tr
open Go Go.RowKit
universe u
def RIs : R → SV → Prop
  | .no, _ => False
  | .ok v, u => v = u
  | .vc p v, u => p ∧ v = u
  | .ex f, u => ∃ k : Nat, RIs (f k) u
theorem RIs.ok {v u : SV} (h : RIs (.ok v) u) : v = u := h
theorem RIs.vc {p : Prop} {v u : SV} (h : RIs (.vc p v) u) : p ∧ v = u := h
theorem RIs.no {u : SV} (h : RIs .no u) : False := h
theorem RIs.ex {f : Nat → R} {u : SV} (h : RIs (.ex f) u) : ∃ k : Nat, RIs (f k) u := h
section
variable {cx : Cx} {β : Nat → Value} {P : Program} {ti : TI} {n : Nat} {a : Act} {env : Ev} {rs : List Tok} {fr : List Res} {w : World} {g : Option (Nat × Bool)}
  {dst : Option Nat} {ty : TypeId} {pos : String} {aft : Array Edge} {gd : Option (Nat × Bool)} {v : SV}
theorem den_int {k : IntKind} {i : Int} {x : Value} (h : Den cx β (.int k i) x) : x = .int k i := by unfold Den at h; exact h
theorem den_bool {b : Bool} {x : Value} (h : Den cx β (.bool b) x) : x = .bool b := by unfold Den at h; exact h
theorem b_int {o : BinOp} {t : TypeId} {k : IntKind} {i j : Int} (h : (match o with | .shl => false | .shr => false | _ => true) = true) : (binOp o t (.int k i) (.int k j)) = (match o with
    | .add | .sub | .mul => Op.intArith o k i j
    | .quo | .rem => Op.intDiv o k i j
    | .and | .or | .xor | .andNot => Op.intBits o k i j
    | _ => Op.intCmp o i j) := by
  cases o <;> first | (cases h; done) | (unfold binOp; simp)
theorem r_bin2 {x y : Operand} {o : BinOp} {t u : TypeId} {k k' : IntKind} {i j : Int} {z : Value} (hx : a.eval x = .int k i) (hy : a.eval y = .int k' j) (hr : (binOp o t (.int k i) (.int k' j)).run P w = .ok z w) :
    (execOp a.eval ⟨dst, .binOp o t x y u, ty, pos, aft, gd⟩).run P w = .ok (.value z) w := by
  have he : (eqGuard o t x y (.int k i) (.int k' j)).run P w = .ok () w := by
    unfold eqGuard
    split <;> rfl
  simp [execOp, hx, hy, he, hr]
theorem binZ_ok {o : BinOp} {t : TypeId} {k k' : IntKind} {i j : Int} {v : SV} (h : RIs (binZ o k k' i j) v) : ∃ z, (binOp o t (.int k i) (.int k' j)).run P w = .ok z w ∧ ∀ (cx : Cx) (β : Nat → Value), Den cx β v z := by
  unfold binZ at h
  split at h
  · obtain ⟨h1, rfl⟩ := h.vc
    refine ⟨_, ?_, fun cx β => by unfold Den; rfl⟩
    simp [binOp, Op.shift, Int.not_lt.2 h1]
  · obtain ⟨h1, rfl⟩ := h.vc
    refine ⟨_, ?_, fun cx β => by unfold Den; rfl⟩
    simp [binOp, Op.shift, Int.not_lt.2 h1]
  · rename_i o n1 n2
    cases hk : (k == k') with
    | false => rw [hk] at h; exact h.no.elim
    | true =>
      rw [hk] at h
      have hk := eq_of_beq hk
      subst hk
      simp only [cond_true] at h
      split at h
      · have := h.ok; subst this; exact ⟨_, by rw [b_int rfl]; rfl, fun cx β => by unfold Den; rfl⟩
      · have := h.ok; subst this; exact ⟨_, by rw [b_int rfl]; rfl, fun cx β => by unfold Den; rfl⟩
      · have := h.ok; subst this; exact ⟨_, by rw [b_int rfl]; rfl, fun cx β => by unfold Den; rfl⟩
      · obtain ⟨h1, rfl⟩ := h.vc; exact ⟨_, by rw [b_int rfl]; simp only [Op.intDiv, if_neg h1]; rfl, fun cx β => by unfold Den; rfl⟩
      · obtain ⟨h1, rfl⟩ := h.vc; exact ⟨_, by rw [b_int rfl]; simp only [Op.intDiv, if_neg h1]; rfl, fun cx β => by unfold Den; rfl⟩
      · have := h.ok; subst this; exact ⟨_, by rw [b_int rfl]; rfl, fun cx β => by unfold Den; rfl⟩
      · have := h.ok; subst this; exact ⟨_, by rw [b_int rfl]; rfl, fun cx β => by unfold Den; rfl⟩
      · have := h.ok; subst this; exact ⟨_, by rw [b_int rfl]; rfl, fun cx β => by unfold Den; rfl⟩
      · have := h.ok; subst this; exact ⟨_, by rw [b_int rfl]; rfl, fun cx β => by unfold Den; rfl⟩
      · have := h.ok; subst this; exact ⟨_, by rw [b_int rfl]; rfl, fun cx β => by unfold Den; rfl⟩
      · have := h.ok; subst this; exact ⟨_, by rw [b_int rfl]; rfl, fun cx β => by unfold Den; rfl⟩
      · have := h.ok; subst this; exact ⟨_, by rw [b_int rfl]; rfl, fun cx β => by unfold Den; rfl⟩
      · have := h.ok; subst this; exact ⟨_, by rw [b_int rfl]; rfl, fun cx β => by unfold Den; rfl⟩
      · have := h.ok; subst this; exact ⟨_, by rw [b_int rfl]; rfl, fun cx β => by unfold Den; rfl⟩
      · exact h.no.elim
theorem bin_ok {o : BinOp} {x y : Operand} {t u : TypeId} {s1 s2 : SV} {v1 v2 : Value} (h1 : a.eval x = v1) (d1 : Den cx β s1 v1) (h2 : a.eval y = v2) (d2 : Den cx β s2 v2) (h : RIs (binR o s1 s2) v) :
    ∃ val, (execOp a.eval ⟨dst, .binOp o t x y u, ty, pos, aft, gd⟩).run P w = .ok (.value val) w ∧ Den cx β v val := by
  have key : ∀ {i j : Int} {z : Value} {s : SV}, s1 = .int .i64 i → s2 = .int .i64 j → (∀ w : World, (binOp o t (.int .i64 i) (.int .i64 j)).run P w = .ok z w) → Den cx β s z → s = v →
      ∃ val, (execOp a.eval ⟨dst, .binOp o t x y u, ty, pos, aft, gd⟩).run P w = .ok (.value val) w ∧ Den cx β v val := by
    intro i j z s e1 e2 hr hd e
    subst e1 e2 e
    rw [den_int d1] at h1
    rw [den_int d2] at h2
    exact ⟨z, r_bin h1 h2 (hr w), hd⟩
  unfold binR at h
  split at h
  · exact key rfl rfl (fun w => b_add rfl) (by unfold Den; rfl) h.ok
  · exact key rfl rfl (fun w => b_sub rfl) (by unfold Den; rfl) h.ok
  · exact key rfl rfl (fun w => b_mul rfl) (by unfold Den; rfl) h.ok
  · exact key rfl rfl (fun w => b_quo h.vc.1 rfl) (by unfold Den; rfl) h.vc.2
  · exact key rfl rfl (fun w => b_rem h.vc.1 rfl) (by unfold Den; rfl) h.vc.2
  · exact key rfl rfl (fun w => b_lss rfl) (by unfold Den; rfl) h.ok
  · exact key rfl rfl (fun w => b_leq rfl) (by unfold Den; rfl) h.ok
  · exact key rfl rfl (fun w => b_gtr rfl) (by unfold Den; rfl) h.ok
  · exact key rfl rfl (fun w => b_geq rfl) (by unfold Den; rfl) h.ok
  · exact key rfl rfl (fun w => b_eql rfl) (by unfold Den; rfl) h.ok
  · exact key rfl rfl (fun w => b_neq rfl) (by unfold Den; rfl) h.ok
  · obtain ⟨z, h3, h4⟩ := binZ_ok (P := P) (w := w) (t := t) h
    rw [den_int d1] at h1
    rw [den_int d2] at h2
    exact ⟨z, r_bin2 h1 h2 h3, h4 cx β⟩
  · exact h.no.elim
theorem rp_cells {b o : Nat} {u : U} {x : El u} (h : RoP cx.w0 cx.F0 b o (enc u x)) (H : Inv cx.w0 cx.F0 w fr) : ∃ us, Go.Tr.cellsAt w b o us ∧ Dens cx β (svOf u x) us ∧ us.length = u.size := by
  obtain ⟨h1, h2, us, h3, h4⟩ := h
  have := svOf_ok (cx := cx) (β := β) u x h4
  exact ⟨us, h3.keep (H.chg.other b h1 h2), this, by rw [this.len, svOf_len]⟩
theorem Dens.solid {cx' : Cx} {β' : Nat → Value} : ∀ {l : List SV} {us : List Value}, Dens cx β l us → solidL l = true → Dens cx' β' l us
  | [], us, h, _ => by unfold Dens at h ⊢; exact h
  | s :: l, us, h, hs => by
    unfold Dens at h ⊢
    obtain ⟨v, vs', h1, h2, h3⟩ := h
    cases s <;> unfold solidL at hs <;> first | exact ⟨v, vs', h1, (by unfold Den at h2 ⊢; exact h2), h3.solid hs⟩ | cases hs
theorem Ro1.slice_pos {w0 : World} {F0 : List Nat} {n : Nat} {ds : List D} {v : Value} (h : Ro1 w0 F0 (.sl n ds) v) : ∃ A c, (0 < n → ∃ b o, A = some ⟨b, o, none⟩) ∧ v = .slice A n c := by
  obtain ⟨bs, h1, _⟩ := h
  unfold T1 at h1
  obtain ⟨A, c, he, _, _, h1⟩ := h1
  refine ⟨A, c, fun hp => ?_, he⟩
  rcases h1 with ⟨h0, _⟩ | ⟨_, b, off, us, bs', hA, _⟩
  · omega
  · exact ⟨b, off, hA⟩
theorem nhL_ok {us : List Value} {k : Int} {s : Nat} : ∀ {l : List SV} {vs : List Value} {o : Nat}, Dens ⟨w, []⟩ β l vs → nestL l = true → (∀ j v, vs[j]? = some v → us.getD (k.toNat * s + (o + j)) undef = v) → Dens cx β (nhL us k s o l) vs
  | [], vs, o, h, _, _ => by unfold Dens at h; subst h; unfold nhL Dens; rfl
  | c :: l, vs, o, h, hn, hg => by
    unfold Dens at h
    obtain ⟨v, vs', rfl, h1, h2⟩ := h
    have ih : nestL l = true → Dens cx β (nhL us k s (o + 1) l) vs' := fun hn => nhL_ok h2 hn fun j v hv => by
      have := hg (j + 1) v (by simpa using hv)
      rw [show o + 1 + j = o + (j + 1) by omega]
      exact this
    cases c <;> unfold nestL at hn <;> first | cases hn | skip
    case rsl e ys =>
      unfold nhL Dens
      refine ⟨v, vs', rfl, ?_, ih hn⟩
      have h0 := hg 0 v rfl
      rw [Nat.add_zero] at h0
      unfold Den at h1 ⊢
      obtain ⟨A, c, hpos, rfl⟩ := h1.slice_pos
      rw [h0]
      exact ⟨rfl, A, c, rfl, hpos⟩
    all_goals
      unfold nhL Dens
      exact ⟨v, vs', rfl, by unfold Den at h1 ⊢; exact h1, ih hn⟩
theorem ep_pre (H : Inv cx.w0 cx.F0 w (rs.map (Tok.res cx β) ++ fr)) {q : Nat} {r : RowI} (hr : rowOf rs q = some r) {b m c i s o : Nat} (hb : β q = .slice (some ⟨b, 0, none⟩) m c) {us : List Value} (hca : Go.Tr.cellsAt w b (i * s + 0) us) (hus : us.length = s) (hle : i * s + s ≤ r.us.length) {n : Nat} :
    ∀ j v, ((us.drop o).take n)[j]? = some v → r.us.getD (i * s + (o + j)) undef = v := fun j v hv => by
  rw [List.getElem?_take] at hv
  split at hv
  · rw [List.getElem?_drop] at hv
    have hlt := (List.getElem?_eq_some_iff.1 hv).1
    have h1 := hca (o + j) v hv
    rw [Nat.add_zero] at h1
    have h2 : r.us[i * s + (o + j)]? = some (r.us[i * s + (o + j)]'(by omega)) := List.getElem?_eq_getElem (by omega)
    have h3 := rw_pre H hr hb h2
    rw [h1] at h3
    rw [List.getD_eq_getElem?_getD, h2]
    injection h3 with h3
    exact h3.symm
  · cases hv
theorem nest_at (H : Inv cx.w0 cx.F0 w (rs.map (Tok.res cx β) ++ fr)) {q : Nat} {r : RowI} (hr : rowOf rs q = some r) {k : Int} {o : Nat} {hdr : Value} (hk : npOk r.xs r.us k r.s o hdr) {e : U} {ys : List (El e)} (hn : nestOf r.u (elt (dflt r.u) r.xs k) o = some ⟨.sl e, ys⟩) :
    Ro1 w [] (.sl ys.length (ys.flatMap (enc e))) hdr := by
  obtain ⟨t', s, u, xs, us0⟩ := r
  obtain ⟨h0, h1, h2⟩ := hk
  simp only at h0 h1 h2 hn
  obtain ⟨e1, A, c', bs, e2, e3, e4⟩ := rw_at H hr
  simp only at e1 e2 e3 e4
  have him : k.toNat < xs.length := by omega
  obtain ⟨b, rfl⟩ := e4 (by omega)
  rw [e2] at e3
  obtain ⟨_, b', off, b1, b2, b3, us, hA, _, hb', hc, ht⟩ := T1.at_ (enc_len u) e3 rfl him
  injection hA with hA
  injection hA with hA1 hA2
  subst hA1 hA2
  have hx' : xs[k.toNat]'him = elt (dflt u) xs k := by unfold elt; rw [List.getD_eq_getElem?_getD, List.getElem?_eq_getElem him]; rfl
  rw [hx'] at ht
  have hds := svOf_ok (cx := ⟨w, []⟩) (β := β) u _ (RoN.of ht)
  unfold nestOf at hn
  split at hn
  · rename_i e' ys' hnth
    injection hn with hn
    injection hn with q1 q2
    injection q1 with q1
    subst q1
    cases q2
    obtain ⟨v, k1, k2⟩ := hds.get hnth
    have hcell := hc o v k1
    rw [Nat.zero_add, e1] at hcell
    have h3 := rw_pre H hr e2 h2
    rw [h3] at hcell
    injection hcell with hcell
    subst hcell
    unfold Den at k2
    exact k2
  · cases hn
theorem np_cells {e : U} {ys : List (El e)} {hdr : Value} (h : Ro1 w [] (.sl ys.length (ys.flatMap (enc e))) hdr) {n : Nat} {b o c : Nat} (hh : hdr = .slice (some ⟨b, o, none⟩) n c) {i : Int} (h0 : 0 ≤ i) (h1 : i < (n : Nat)) :
    ∃ us, Go.Tr.cellsAt w b (o + i.toNat * e.size) us ∧ Dens ⟨w, []⟩ β (svOf e (elt (dflt e) ys i)) us ∧ us.length = e.size := by
  subst hh
  have hm : n = ys.length := by
    obtain ⟨bs, ht, _⟩ := h
    obtain ⟨A', c', h2, _⟩ := ht.slice
    injection h2
  subst hm
  obtain ⟨b', off, x, h2, h3, h4⟩ := h.elem (enc_len e) rfl (k := i.toNat) (by omega)
  injection h2 with h2
  injection h2 with h2 h5
  subst h2 h5
  have : elt (dflt e) ys i = x := by unfold elt; rw [List.getD_eq_getElem?_getD, h3]; rfl
  rw [this]
  obtain ⟨k1, k2, us, k3, k4⟩ := h4
  have h6 := svOf_ok (cx := ⟨w, []⟩) (β := β) e x k4
  exact ⟨us, k3, h6, by rw [h6.len, svOf_len]⟩
theorem load_ok (hti : tiOk P ti = true) (H : Inv cx.w0 cx.F0 w (rs.map (Tok.res cx β) ++ fr)) {t : TypeId} {x : Operand} {s : SV} {y : Value} (hx : a.eval x = y) (hd : Den cx β s y) (h : RIs (loadR ti rs t s) v) :
    ∃ val, (execOp a.eval ⟨dst, .load t x, ty, pos, aft, gd⟩).run P w = .ok (.value val) w ∧ Den cx β v val := by
  unfold loadR at h
  cases s with
  | rp u x =>
    unfold Den at hd
    obtain ⟨b, o, rfl, hp⟩ := hd
    obtain ⟨us, hc, hs, hl⟩ := rp_cells (β := β) hp H
    simp only at h
    cases hlk : lk ti t with
    | none => rw [hlk] at h; exact h.no.elim
    | some i =>
      rw [hlk] at h
      by_cases hi : ∃ m k u' z, i = .st m k u' z
      · obtain ⟨m, k, u', z, rfl⟩ := hi
        obtain ⟨h1, h2, h3, _⟩ := ti_st hti hlk
        simp only at h
        cases hb : Nat.beq u.size k with
        | false => rw [hb] at h; exact h.no.elim
        | true =>
          rw [hb] at h
          have := h.ok
          subst this
          exact ⟨_, r_loads hx h1 (by rw [h2, hl, beq_t hb]) hc, by unfold Den; exact ⟨us, rfl, hs⟩⟩
      · have h1 := ti_sc hti hlk (fun m k u z e => hi ⟨m, k, u, z, e⟩)
        have h2 : RIs (match svOf u x with | [v] => .ok v | _ => .no) v := by
          cases i with
          | st m k u' z => exact absurd ⟨m, k, u', z, rfl⟩ hi
          | sc z => exact h
          | ptr z => exact h
          | bool => exact h
          | sl e s u' => exact h
          | mp u' => exact h
        split at h2
        · rename_i s' he
          have := h2.ok
          subst this
          rw [he] at hs
          unfold Dens at hs
          obtain ⟨v1, vs', rfl, h3, h4⟩ := hs
          exact ⟨v1, r_load hx h1 (by have := hc 0 v1 rfl; simpa using this), h3⟩
        · exact h2.no.elim
  | ptr g o =>
    unfold Den at hd
    obtain ⟨b, hb, rfl⟩ := hd
    simp only at h
    cases hcel : celOf rs g with
    | none => rw [hcel] at h; exact h.no.elim
    | some cs =>
      rw [hcel] at h
      simp only at h
      obtain ⟨b', us, t', e1, e2, e3, e4⟩ := cel_at H hcel
      rw [hb] at e1
      injection e1 with e1
      injection e1 with e1
      injection e1 with e1
      subst e1
      have hcs : Go.Tr.cellsAt w b 0 us := fun j u hu => by
        have := row_cell (i := j) e4 (by simpa using hu)
        simpa using this
      cases hlk : lk ti t with
      | none => rw [hlk] at h; exact h.no.elim
      | some i =>
        rw [hlk] at h
        by_cases hi : ∃ m k u' z, i = .st m k u' z
        · obtain ⟨m, k, u', z, rfl⟩ := hi
          obtain ⟨h1, h2, h3, _⟩ := ti_st hti hlk
          simp only at h
          cases htk : takeN k (dropN o cs) with
          | none => rw [htk] at h; exact h.no.elim
          | some l =>
            rw [htk] at h
            have := h.ok
            subst this
            obtain ⟨h4, h5⟩ := takeN_eq htk
            rw [dropN_eq] at h4
            have hd2 := (e2.drop o).take k
            rw [h4] at hd2
            refine ⟨_, r_loads hx h1 (by rw [h2, hd2.len, h5]) (us := (us.drop o).take k) (fun j u hu => ?_), by unfold Den; exact ⟨_, rfl, hd2⟩⟩
            have hj : us[o + j]? = some u := by
              have := List.getElem?_take (l := us.drop o) (i := k) (j := j)
              rw [this] at hu
              split at hu
              · simpa using hu
              · cases hu
            have := hcs (o + j) u hj
            simpa using this
        · have h1 := ti_sc hti hlk (fun m k u z e => hi ⟨m, k, u, z, e⟩)
          have h2 : RIs (match nth cs o with | some v => .ok v | none => .no) v := by
            cases i with
            | st m k u' z => exact absurd ⟨m, k, u', z, rfl⟩ hi
            | sc z => exact h
            | ptr z => exact h
            | bool => exact h
            | sl e s u' => exact h
            | mp u' => exact h
          split at h2
          · rename_i s' he
            have := h2.ok
            subst this
            obtain ⟨v1, h3, h4⟩ := e2.get he
            exact ⟨v1, r_load hx h1 (by have := hcs o v1 h3; simpa using this), h4⟩
          · exact h2.no.elim
  | ep g s i o =>
    unfold Den at hd
    obtain ⟨b, m, c, hb, him, rfl⟩ := hd
    simp only at h
    cases hrow : rowOf rs g with
    | none =>
      rw [hrow] at h
      simp only at h
      cases hdat : datOf rs g with
      | none => rw [hdat] at h; exact h.no.elim
      | some r =>
        obtain ⟨t', s', u, xs⟩ := r
        rw [hdat] at h
        simp only at h
        cases hbs : Nat.beq s s' with
        | false => rw [hbs] at h; exact h.no.elim
        | true =>
          rw [hbs] at h
          simp only [cond_true] at h
          have hss := beq_t hbs
          subst hss
          have hm : m = xs.length := by
            obtain ⟨_, A, c', e⟩ := dat_at H hdat
            rw [hb] at e
            injection e
          subst hm
          obtain ⟨e1, b', c', us, e2, hca, hds⟩ := dat_elem H hdat him
          simp only at e1 e2 hca hds
          rw [hb] at e2
          injection e2 with e3
          injection e3 with e3
          injection e3 with e3
          subst e3
          cases hlk : lk ti t with
          | none => rw [hlk] at h; exact h.no.elim
          | some q =>
            rw [hlk] at h
            by_cases hi : ∃ m k u' z, q = .st m k u' z
            · obtain ⟨m, k, u', z, rfl⟩ := hi
              obtain ⟨h1, h2, h3, _⟩ := ti_st hti hlk
              simp only at h
              cases htk : takeN k (dropN o (svOf u (elt (dflt u) xs i))) with
              | none => rw [htk] at h; exact h.no.elim
              | some l =>
                rw [htk] at h
                simp only at h
                obtain ⟨h4, h5⟩ := takeN_eq htk
                rw [dropN_eq] at h4
                have hd2 := (hds.drop o).take k
                rw [h4] at hd2
                have := h.ok
                subst this
                refine ⟨_, r_loads hx h1 (by rw [h2, hd2.len, h5]) (us := (us.drop o).take k) (fun j y hy => ?_), by unfold Den; exact ⟨_, rfl, hd2⟩⟩
                have hj : us[o + j]? = some y := by
                  have := List.getElem?_take (l := us.drop o) (i := k) (j := j)
                  rw [this] at hy
                  split at hy
                  · simpa using hy
                  · cases hy
                have := hca (o + j) y hj
                rw [← Nat.add_assoc] at this
                exact this
            · have h1 := ti_sc hti hlk (fun m k u z e => hi ⟨m, k, u, z, e⟩)
              have h2 : RIs (match nth (svOf u (elt (dflt u) xs i)) o with | some v => .ok v | none => .no) v := by
                cases q with
                | st m k u' z => exact absurd ⟨m, k, u', z, rfl⟩ hi
                | sc z => exact h
                | ptr z => exact h
                | bool => exact h
                | sl e s u' => exact h
                | mp u' => exact h
              split at h2
              · rename_i s' he
                have := h2.ok
                subst this
                obtain ⟨v1, h3, h4⟩ := hds.get he
                exact ⟨v1, r_load hx h1 (by have := hca o v1 h3; exact this), h4⟩
              · exact h2.no.elim
    | some r =>
      obtain ⟨t', s', u, xs, us0⟩ := r
      rw [hrow] at h
      simp only at h
      cases hbs : Nat.beq s s' with
      | false => rw [hbs] at h; exact h.no.elim
      | true =>
        rw [hbs] at h
        simp only [cond_true] at h
        obtain ⟨e1, A, c', bs, e2, e3, _⟩ := rw_at H hrow
        simp only at e1 e2 e3
        have hss := beq_t hbs
        rw [hb] at e2 e3
        injection e2 with e4 e5 e6
        subst e4 e5 e6
        obtain ⟨_, b', off, b1, b2, b3, us, hA, _, hb', hc, ht⟩ := T1.at_ (enc_len u) e3 rfl him
        injection hA with hA
        injection hA with hA1 hA2
        subst hA1 hA2
        have hx' : xs[i.toNat]'him = elt (dflt u) xs i := by unfold elt; rw [List.getD_eq_getElem?_getD, List.getElem?_eq_getElem him]; rfl
        rw [hx'] at ht
        have hds := svOf_ok (cx := ⟨w, []⟩) (β := β) u _ (RoN.of ht)
        have hca : Go.Tr.cellsAt w b (i.toNat * s + 0) us := by
          have := hc
          rw [Nat.zero_add, e1, ← hss] at this
          exact this
        cases hlk : lk ti t with
        | none => rw [hlk] at h; exact h.no.elim
        | some q =>
          rw [hlk] at h
          by_cases hi : ∃ m k u' z, q = .st m k u' z
          · obtain ⟨m, k, u', z, rfl⟩ := hi
            obtain ⟨h1, h2, h3, _⟩ := ti_st hti hlk
            simp only at h
            cases htk : takeN k (dropN o (svOf u (elt (dflt u) xs i))) with
            | none => rw [htk] at h; exact h.no.elim
            | some l =>
              rw [htk] at h
              simp only at h
              obtain ⟨h4, h5⟩ := takeN_eq htk
              rw [dropN_eq] at h4
              have hd2 := (hds.drop o).take k
              rw [h4] at hd2
              have hres : ∃ l', v = .agg l' ∧ Dens cx β l' ((us.drop o).take k) := by
                cases hso : solidL l with
                | false =>
                  rw [hso] at h
                  simp only [cond_false] at h
                  cases hne : nestL l with
                  | false => rw [hne] at h; exact h.no.elim
                  | true =>
                    rw [hne] at h
                    obtain ⟨hv1, hv2⟩ := h.vc
                    exact ⟨_, hv2.symm, nhL_ok hd2 hne (ep_pre H hrow hb hca (by rw [hds.len, svOf_len, e1, hss]) hv1)⟩
                | true =>
                  rw [hso] at h
                  exact ⟨_, h.ok.symm, hd2.solid hso⟩
              obtain ⟨l', rfl, hl'⟩ := hres
              · refine ⟨_, r_loads hx h1 (by rw [h2, hd2.len, h5]) (us := (us.drop o).take k) (fun j y hy => ?_), by unfold Den; exact ⟨_, rfl, hl'⟩⟩
                have hj : us[o + j]? = some y := by
                  have := List.getElem?_take (l := us.drop o) (i := k) (j := j)
                  rw [this] at hy
                  split at hy
                  · simpa using hy
                  · cases hy
                have := hca (o + j) y hj
                rw [Nat.add_zero, ← Nat.add_assoc] at this
                exact this
          · have h1 := ti_sc hti hlk (fun m k u z e => hi ⟨m, k, u, z, e⟩)
            have h2 : RIs (match nth (svOf u (elt (dflt u) xs i)) o with | some v => bif solidL [v] then .ok v else bif nestL [v] then (match nhL us0 i s o [v] with | [v'] => .vc (i.toNat * s + s ≤ us0.length) v' | _ => .no) else .no | none => .no) v := by
              cases q with
              | st m k u' z => exact absurd ⟨m, k, u', z, rfl⟩ hi
              | sc z => exact h
              | ptr z => exact h
              | bool => exact h
              | sl e s u' => exact h
              | mp u' => exact h
            split at h2
            · rename_i s' he
              obtain ⟨v1, h3, h4⟩ := hds.get he
              have hld : (execOp a.eval ⟨dst, .load t x, ty, pos, aft, gd⟩).run P w = .ok (.value v1) w := r_load hx h1 (by
                have := hca o v1 h3
                rw [Nat.add_zero] at this
                exact this)
              cases hso : solidL [s'] with
              | false =>
                rw [hso] at h2
                simp only [cond_false] at h2
                cases hne : nestL [s'] with
                | false => rw [hne] at h2; exact h2.no.elim
                | true =>
                  rw [hne] at h2
                  simp only [cond_true] at h2
                  split at h2
                  · rename_i v' hv'
                    obtain ⟨hv1, hv2⟩ := h2.vc
                    subst hv2
                    refine ⟨v1, hld, ?_⟩
                    have hone : ((us.drop o).take 1) = [v1] := by
                      rw [← List.getElem?_eq_some_iff.1 h3 |>.2, List.drop_eq_getElem_cons (List.getElem?_eq_some_iff.1 h3).1]; rfl
                    have := nhL_ok (cx := cx) (us := us0) (k := i) (s := s) (o := o) (Dens.one h4) hne (by
                      have := ep_pre (o := o) (n := 1) H hrow hb hca (by rw [hds.len, svOf_len, e1, hss]) hv1
                      rw [hone] at this
                      exact this)
                    rw [hv'] at this
                    unfold Dens at this
                    obtain ⟨v2, vs', h5, h6, _⟩ := this
                    injection h5 with h5
                    subst h5
                    exact h6
                  · exact h2.no.elim
              | true =>
                rw [hso] at h2
                have := h2.ok
                subst this
                refine ⟨v1, hld, ?_⟩
                · have := (Dens.one h4).solid (cx' := cx) (β' := β) hso
                  unfold Dens at this
                  obtain ⟨v2, vs', h5, h6, _⟩ := this
                  injection h5 with h5
                  subst h5
                  exact h6
            · exact h2.no.elim
  | np k o n hdr s2 i j =>
    unfold Den at hd
    obtain ⟨b, o', c, hh, rfl⟩ := hd
    simp only at h
    obtain ⟨q, hq⟩ := h.ex
    clear h
    revert hq
    intro h
    cases hrow : rowOf rs q with
    | none => rw [hrow] at h; exact h.no.elim
    | some r =>
      rw [hrow] at h
      simp only at h
      split at h
      · rename_i e ys hne
        cases hbs : Nat.beq s2 e.size with
        | false => rw [hbs] at h; exact h.no.elim
        | true =>
          rw [hbs] at h
          simp only [cond_true] at h
          have hss := beq_t hbs
          subst hss
          have key : (npOk r.xs r.us k r.s o hdr ∧ 0 ≤ i ∧ i < (n : Nat)) → ∃ us, Go.Tr.cellsAt w b (o' + i.toNat * e.size) us ∧ Dens ⟨w, []⟩ β (svOf e (elt (dflt e) ys i)) us ∧ us.length = e.size := fun hv => np_cells (nest_at H hrow hv.1 hne) hh hv.2.1 hv.2.2
          cases hlk : lk ti t with
          | none => rw [hlk] at h; exact h.no.elim
          | some z =>
            rw [hlk] at h
            by_cases hi : ∃ m k u' z', z = .st m k u' z'
            · obtain ⟨m, k', u', z', rfl⟩ := hi
              obtain ⟨h1, h2, h3, _⟩ := ti_st hti hlk
              simp only at h
              cases htk : takeN k' (dropN j (svOf e (elt (dflt e) ys i))) with
              | none => rw [htk] at h; exact h.no.elim
              | some l =>
                rw [htk] at h
                simp only at h
                cases hso : solidL l with
                | false => rw [hso] at h; exact h.no.elim
                | true =>
                  rw [hso] at h
                  obtain ⟨hv1, hv2⟩ := h.vc
                  subst hv2
                  obtain ⟨us, hca, hds, hul⟩ := key hv1
                  obtain ⟨h4, h5⟩ := takeN_eq htk
                  rw [dropN_eq] at h4
                  have hd2 := (hds.drop j).take k'
                  rw [h4] at hd2
                  refine ⟨_, r_loads hx h1 (by rw [h2, hd2.len, h5]) (us := (us.drop j).take k') (fun p y hy => ?_), by unfold Den; exact ⟨_, rfl, hd2.solid hso⟩⟩
                  have hj : us[j + p]? = some y := by
                    rw [List.getElem?_take] at hy
                    split at hy
                    · simpa using hy
                    · cases hy
                  have := hca (j + p) y hj
                  rw [← Nat.add_assoc] at this
                  exact this
            · have h1 := ti_sc hti hlk (fun m k u z e => hi ⟨m, k, u, z, e⟩)
              have h2 : RIs (match nth (svOf e (elt (dflt e) ys i)) j with | some v => bif solidL [v] then .vc (npOk r.xs r.us k r.s o hdr ∧ 0 ≤ i ∧ i < (n : Nat)) v else .no | none => .no) v := by
                cases z with
                | st m k u' z => exact absurd ⟨m, k, u', z, rfl⟩ hi
                | sc z => exact h
                | ptr z => exact h
                | bool => exact h
                | sl e s u' => exact h
                | mp u' => exact h
              split at h2
              · rename_i s' he
                cases hso : solidL [s'] with
                | false => rw [hso] at h2; exact h2.no.elim
                | true =>
                  rw [hso] at h2
                  obtain ⟨hv1, hv2⟩ := h2.vc
                  subst hv2
                  obtain ⟨us, hca, hds, hul⟩ := key hv1
                  obtain ⟨v1, h3, h4⟩ := hds.get he
                  refine ⟨v1, r_load hx h1 (hca j v1 h3), ?_⟩
                  have := (Dens.one h4).solid (cx' := cx) (β' := β) hso
                  unfold Dens at this
                  obtain ⟨v2, vs', h5, h6, _⟩ := this
                  injection h5 with h5
                  subst h5
                  exact h6
              · exact h2.no.elim
      · exact h.no.elim
  | int _ _ | bool _ | raw _ | rsl _ _ | sl _ | agg _ | tup _ | fn _ _ | un | gd _ _ _ | nh _ _ _ _ | mp _ | nn _ _ | sx _ _ _ _ => exact h.no.elim
theorem elem_ok {e : U} {xs : List (El e)} {A : Option Addr} {m c : Nat} (h : Ro1 cx.w0 cx.F0 (.sl xs.length (xs.flatMap (enc e))) (.slice A m c)) {i : Int} (h0 : 0 ≤ i) (h1 : i < (xs.length : Nat)) :
    ∃ b off, A = some ⟨b, off, none⟩ ∧ m = xs.length ∧ RoP cx.w0 cx.F0 b (off + i.toNat * e.size) (enc e (elt (dflt e) xs i)) := by
  have hm : m = xs.length := by
    obtain ⟨bs, ht, _⟩ := h
    obtain ⟨A', c', h2, _⟩ := ht.slice
    injection h2
  obtain ⟨b, off, x, h2, h3, h4⟩ := h.elem (enc_len e) rfl (k := i.toNat) (by omega)
  refine ⟨b, off, h2, hm, ?_⟩
  have : elt (dflt e) xs i = x := by
    unfold elt
    rw [List.getD_eq_getElem?_getD, h3]; rfl
  rw [this]
  exact h4
theorem one_cells {x : Value} (h : x.oneCell' = true) : x.cells = #[x] := by
  cases x <;> first | rfl | cases h
theorem nonagg_cells {s : SV} {x : Value} (h : Den cx β s x) (hn : ∀ l, s ≠ .agg l) : x.cells = #[x] := by
  cases s <;> unfold Den at h
  case int => subst h; rfl
  case bool => subst h; rfl
  case raw => rw [h.1]; exact one_cells h.2
  case rsl => obtain ⟨A, c, rfl⟩ := h.slice; rfl
  case rp => obtain ⟨b, o, rfl, _⟩ := h; rfl
  case ptr => obtain ⟨b, _, rfl⟩ := h; rfl
  case sl => obtain ⟨_, A, n, c, rfl⟩ := h; rfl
  case ep => obtain ⟨b, m, c, _, _, rfl⟩ := h; rfl
  case agg l => exact absurd rfl (hn l)
  case tup => obtain ⟨vs, rfl, _⟩ := h; rfl
  case fn => obtain ⟨vs, rfl, _⟩ := h; rfl
  case nh => obtain ⟨rfl, A, c, rfl, _⟩ := h; rfl
  case np => obtain ⟨b, o, c, _, rfl⟩ := h; rfl
  case mp => obtain ⟨_, r, rfl⟩ := h; rfl
  case nn => obtain ⟨_, A, n, c, rfl⟩ := h; rfl
  case sx => obtain ⟨b, m, c, c', _, _, rfl⟩ := h; rfl
  case un => subst h; rfl
  case gd => exact h.elim
theorem cellsOf_ok {s : SV} {x : Value} (h : Den cx β s x) : ∃ us : List Value, x.cells = us.toArray ∧ Dens cx β (cellsOf s) us := by
  cases s
  case agg l => unfold Den at h; obtain ⟨vs, rfl, h2⟩ := h; exact ⟨vs, rfl, h2⟩
  all_goals exact ⟨[x], by rw [nonagg_cells h (by intro l e; cases e)], Dens.one h⟩
theorem setN_ok : ∀ {o : Nat} {l cs r : List SV}, setN o l cs = some r → r = cs.take o ++ l ++ cs.drop (o + l.length) ∧ o + l.length ≤ cs.length
  | 0, [], cs, r, h => by unfold setN at h; injection h with h; subst h; simp
  | 0, v :: l, c :: cs, r, h => by
    unfold setN at h
    split at h
    · rename_i q hq
      injection h with h
      subst h
      obtain ⟨h1, h2⟩ := setN_ok hq
      simp only [List.take_zero, List.nil_append, Nat.zero_add, List.length_cons] at h1 h2 ⊢
      exact ⟨by rw [h1]; simp, by omega⟩
    · cases h
  | o + 1, l, c :: cs, r, h => by
    have h : (match setN o l cs with | some r => some (c :: r) | none => none) = some r := by
      cases l <;> (unfold setN at h; exact h)
    split at h
    · rename_i q hq
      injection h with h
      subst h
      obtain ⟨h1, h2⟩ := setN_ok hq
      refine ⟨?_, by simp; omega⟩
      have e : o + 1 + l.length = (o + l.length) + 1 := by omega
      rw [e, List.take_succ_cons, List.drop_succ_cons, h1]
      simp
    · cases h
  | 0, v :: l, [], r, h => by unfold setN at h; cases h
  | o + 1, [], [], r, h => by unfold setN at h; cases h
  | o + 1, v :: l, [], r, h => by unfold setN at h; cases h
theorem bldL_ok (E : EnvS cx β n a env) (hg : gTrue a g) {m : Nat} {u : U} : ∀ {l : List (Nat × Operand)} {cs r : List SV} {cells : Array Value}, bldL env g m u l cs = some r → Dens cx β cs cells.toList →
    ∃ q, Instr.fill (((List.range m).map fun i => (fldO i m u, fldS i m u)).toArray[·]?) cells (l.map fun x => (x.1, a.eval x.2)) = some q ∧ Dens cx β r q.toList
  | [], cs, r, cells, h, hd => by
    unfold bldL at h
    injection h with h
    subst h
    exact ⟨cells, rfl, hd⟩
  | (i, x) :: l, cs, r, cells, h, hd => by
    unfold bldL at h
    cases hx : evs env g x with
    | none => rw [hx] at h; cases h
    | some v =>
      rw [hx] at h
      simp only at h
      cases hb : (Nat.blt i m && Nat.beq (cellsOf v).length (fldS i m u)) with
      | false => rw [hb] at h; cases h
      | true =>
        rw [hb] at h
        simp only [cond_true] at h
        rw [Bool.and_eq_true] at hb
        have him : i < m := by simpa using hb.1
        split at h
        · rename_i cs' hs
          obtain ⟨h1, h2⟩ := setN_ok hs
          obtain ⟨y, h3, h4⟩ := evs_ok E hg hx
          obtain ⟨us, h5, h6⟩ := cellsOf_ok h4
          have hl := h6.len
          have hcl := hd.len
          have hle : fldO i m u + us.length ≤ cells.size := by
            rw [← Array.length_toList, hcl, hl]; exact h2
          have hz : (y.cells.zipIdx.foldl (fun cs (c, j) => cs.setIfInBounds (fldO i m u + j) c) cells).toList = cells.toList.take (fldO i m u) ++ us ++ cells.toList.drop (fldO i m u + us.length) := by
            have := foldl_set us 0 (fldO i m u) cells (by omega)
            rw [h5, ← Array.foldl_toList, Array.toList_zipIdx]
            simpa using this
          have hd2 : Dens cx β cs' (y.cells.zipIdx.foldl (fun cs (c, j) => cs.setIfInBounds (fldO i m u + j) c) cells).toList := by
            rw [hz, h1, ← hl]
            exact ((hd.take _).app h6).app (hd.drop _)
          obtain ⟨q, k1, k2⟩ := bldL_ok E hg h hd2
          refine ⟨q, ?_, k2⟩
          rw [List.map_cons]
          unfold Instr.fill
          simp only [List.getElem?_toArray, List.getElem?_map, List.getElem?_range him, Option.map_some]
          rw [if_neg (by rw [h3, h5]; have := beq_t hb.2; simp; omega), h3]
          simpa using k1
        · cases h
theorem map_at (H : Inv cx.w0 cx.F0 w (rs.map (Tok.res cx β) ++ fr)) {q : Nat} {r : MapI} (h : mapOf rs q = some r) :
    u1 r.u = true ∧ ∃ (b : Nat) (es : List MapEntry) (cl : Nat), β q = .map (some b) ∧ w.heap[b]? = some (.map es.toArray cl) ∧ es.map (fun e => (e.key, e.val)) = r.kv.map (fun x => (Value.int .i64 x.1, vOf r.u x.2)) := by
  obtain ⟨i, hi⟩ := mapOf_mem h
  obtain ⟨F, h1, b, es, cl, h2, h3, h4, h5⟩ := H.mem i (r := Tok.res cx β (.map q r.u r.kv)) (by
    rw [List.getElem?_append_left (by simpa using (List.getElem?_eq_some_iff.1 hi).1), List.getElem?_map, hi]; rfl)
  exact ⟨h1, b, es, cl, h2, h4, h5⟩
theorem findNow_ok {u : U} (d : El u) (i : Int) : ∀ {es : List MapEntry} {kv : List (Int × El u)} {n : Nat}, es.map (fun e => (e.key, e.val)) = kv.map (fun x => (Value.int .i64 x.1, vOf u x.2)) →
    (∃ j, Instr.findNow (.int .i64) (.int .i64 i) es n = some (some (j, vOf u (kvGet d kv i)))) ∨ (Instr.findNow (.int .i64) (.int .i64 i) es n = some none ∧ kvGet d kv i = d)
  | [], [], n, _ => .inr ⟨rfl, rfl⟩
  | [], _ :: _, n, h => by simp at h
  | _ :: _, [], n, h => by simp at h
  | e :: es, (k, x) :: kv, n, h => by
    simp only [List.map_cons, List.cons.injEq, Prod.mk.injEq] at h
    obtain ⟨⟨h1, h2⟩, h3⟩ := h
    unfold Instr.findNow kvGet
    rw [h1]
    simp only [Instr.sameNow, if_true]
    cases hk : (i == k) with
    | true =>
      have := eq_of_beq hk
      subst this
      simp only [BEq.rfl, cond_true]
      exact .inl ⟨n, by rw [h2]⟩
    | false =>
      have : (k == i) = false := by rw [beq_eq_false_iff_ne] at hk ⊢; exact fun e => hk e.symm
      rw [this]
      simp only [cond_false]
      exact findNow_ok d i h3
theorem r_lookup {x y : Operand} {t k e b : Nat} {es : List MapEntry} {cl : Nat} {u : U} {kv : List (Int × El u)} {i : Int} {inf : TypeInfo} (hx : a.eval x = .map (some b)) (hy : a.eval y = .int .i64 i) (ht : P.underlying t = some (.map k e)) (hk : P.underlying k = some (.int .i64)) (hi : P.info? e = some inf) (hz : inf.zero = some (vOf u (dflt u)))
    (hb : w.heap[b]? = some (.map es.toArray cl)) (he : es.map (fun e => (e.key, e.val)) = kv.map (fun x => (Value.int .i64 x.1, vOf u x.2))) : (execOp a.eval ⟨dst, .lookup t x y false, ty, pos, aft, gd⟩).run P w = .ok (.value (vOf u (kvGet (dflt u) kv i))) w := by
  have hg : (getObj b).run P w = .ok (.map es.toArray cl) w := by simp [getObj, Sem.run, hb]
  have hc : ∀ em : Bool, (Instr.checkKey em 10000 k (.int .i64 i)).run P w = .ok () w := fun em => by
    unfold Instr.checkKey
    simp [run_underlying hk]
  have hzv : (zeroValue e).run P w = .ok (vOf u (dflt u)) w := by simp [zeroValue, typeInfo, hi, hz]
  rcases findNow_ok (dflt u) i (n := 0) he with ⟨j, h1⟩ | ⟨h1, h2⟩
  · simp [execOp, hx, hy, Instr.lookup, run_underlying ht, hg, hc, Instr.findKey, run_underlying hk, h1]
  · simp [execOp, hx, hy, Instr.lookup, run_underlying ht, hg, hc, Instr.findKey, run_underlying hk, h1, hzv, h2]
theorem r_mlen {x : Operand} {t k e b : Nat} {es : List MapEntry} {cl : Nat} (hx : a.eval x = .map (some b)) (ht : P.underlying t = some (.map k e)) (hb : w.heap[b]? = some (.map es.toArray cl)) :
    (execOp a.eval ⟨dst, .call { callee := .builtin .len, args := #[x], argTypes := #[t] }, ty, pos, aft, gd⟩).run P w = .ok (.value (.int .i64 es.length)) w := by
  have hg : (getObj b).run P w = .ok (.map es.toArray cl) w := by simp [getObj, Sem.run, hb]
  simp [execOp, resolve, invoke, builtin, hx, Builtin.len_, run_underlying ht, hg, goInt]
theorem r_max {x y : Operand} {k k2 : IntKind} {i j : Int} {tys : Array TypeId} (hx : a.eval x = .int k i) (hy : a.eval y = .int k2 j) :
    (execOp a.eval ⟨dst, .call { callee := .builtin .max, args := #[x, y], argTypes := tys }, ty, pos, aft, gd⟩).run P w = .ok (.value (.int k (max i j))) w := by
  have e : (if j > i then j else i) = max i j := by split <;> omega
  simp [execOp, resolve, invoke, builtin, hx, hy, Builtin.max_, Builtin.max2, e]
theorem r_min {x y : Operand} {k k2 : IntKind} {i j : Int} {tys : Array TypeId} (hx : a.eval x = .int k i) (hy : a.eval y = .int k2 j) :
    (execOp a.eval ⟨dst, .call { callee := .builtin .min, args := #[x, y], argTypes := tys }, ty, pos, aft, gd⟩).run P w = .ok (.value (.int k (min i j))) w := by
  have e : (if j < i then j else i) = min i j := by split <;> omega
  simp [execOp, resolve, invoke, builtin, hx, hy, Builtin.min_, Builtin.min2, e]
theorem opR_ok (hti : tiOk P ti = true) (E : EnvS cx β n a env) (hg : gTrue a g) (H : Inv cx.w0 cx.F0 w (rs.map (Tok.res cx β) ++ fr)) {op : Op} (h : RIs (opR ti env rs g op) v) :
    ∃ val, (execOp a.eval ⟨dst, op, ty, pos, aft, gd⟩).run P w = .ok (.value val) w ∧ Den cx β v val := by
  cases op
  case move x =>
    unfold opR at h
    cases hx : evs env g x with
    | none => simp only [hx] at h; exact h.no.elim
    | some s =>
      simp only [hx] at h
      have := h.ok
      subst this
      obtain ⟨y, h1, h2⟩ := evs_ok E hg hx
      exact ⟨y, r_move h1, h2⟩
  case assign x =>
    unfold opR at h
    cases hx : evs env g x with
    | none => simp only [hx] at h; exact h.no.elim
    | some s =>
      simp only [hx] at h
      have := h.ok
      subst this
      obtain ⟨y, h1, h2⟩ := evs_ok E hg hx
      exact ⟨y, r_assign h1, h2⟩
  case nilCheck x =>
    unfold opR at h
    simp only at h
    split at h
    · rename_i u z hx
      have := h.ok
      subst this
      obtain ⟨y, h1, h2⟩ := evs_ok E hg hx
      have h2' := h2
      unfold Den at h2'
      obtain ⟨b, o, rfl, h3⟩ := h2'
      exact ⟨_, r_nil h1, h2⟩
    · rename_i k o hx
      have := h.ok
      subst this
      obtain ⟨y, h1, h2⟩ := evs_ok E hg hx
      have h2' := h2
      unfold Den at h2'
      obtain ⟨b, hb, rfl⟩ := h2'
      exact ⟨_, r_nil h1, h2⟩
    · rename_i k s i o hx
      have := h.ok
      subst this
      obtain ⟨y, h1, h2⟩ := evs_ok E hg hx
      have h2' := h2
      unfold Den at h2'
      obtain ⟨b, m, c, hb, him, rfl⟩ := h2'
      exact ⟨_, r_nil h1, h2⟩
    · rename_i hx
      have := h.ok
      subst this
      obtain ⟨y, h1, h2⟩ := evs_ok E hg hx
      have h2' := h2
      unfold Den at h2'
      obtain ⟨b, o, c, hb, rfl⟩ := h2'
      exact ⟨_, r_nil h1, h2⟩
    · exact h.no.elim
  case fieldAddr s x i =>
    unfold opR at h
    simp only at h
    split at h
    · rename_i m k u' zz u z hlk hx
      obtain ⟨h1, h2, h3, h4⟩ := ti_st hti hlk
      obtain ⟨y, h5, h6⟩ := evs_ok E hg hx
      unfold Den at h6
      obtain ⟨b, o, rfl, hp⟩ := h6
      cases hb : Nat.beq (fldO i m u) (fldO i m u') with
      | false => rw [hb] at h; exact h.no.elim
      | true =>
        rw [hb] at h
        simp only [cond_true] at h
        split at h
        · rename_i u2 x2 hf
          have := h.ok
          subst this
          obtain ⟨h7, d1, d2, h8, h9⟩ := fldU_ok _ _ _ _ hf
          rw [h8] at hp
          refine ⟨_, r_fa h5 (h4 i h7) rfl, ?_⟩
          unfold Den
          refine ⟨b, _, rfl, ?_⟩
          rw [← beq_t hb, ← h9]
          exact hp.append.2.append.1
        · exact h.no.elim
    · rename_i m k u zz h' o hlk hx
      obtain ⟨h1, h2, h3, h4⟩ := ti_st hti hlk
      cases hb : Nat.blt i m with
      | false => rw [hb] at h; exact h.no.elim
      | true =>
        rw [hb] at h
        have := h.ok
        subst this
        obtain ⟨y, h5, h6⟩ := evs_ok E hg hx
        unfold Den at h6
        obtain ⟨b, hb', rfl⟩ := h6
        exact ⟨_, r_fa h5 (h4 i (by simpa using hb)) rfl, by unfold Den; exact ⟨b, hb', rfl⟩⟩
    · rename_i m k u zz h' s j o hlk hx
      obtain ⟨h1, h2, h3, h4⟩ := ti_st hti hlk
      cases hb : Nat.blt i m with
      | false => rw [hb] at h; exact h.no.elim
      | true =>
        rw [hb] at h
        have := h.ok
        subst this
        obtain ⟨y, h5, h6⟩ := evs_ok E hg hx
        unfold Den at h6
        obtain ⟨b, mm, c, hb', him, rfl⟩ := h6
        exact ⟨_, r_fa h5 (h4 i (by simpa using hb)) rfl, by unfold Den; exact ⟨b, mm, c, hb', him, by rw [Nat.add_assoc]⟩⟩
    · rename_i m k u zz k0 o0 n0 hdr0 s0 q0 j0 hlk hx
      obtain ⟨h1, h2, h3, h4⟩ := ti_st hti hlk
      cases hb : Nat.blt i m with
      | false => rw [hb] at h; exact h.no.elim
      | true =>
        rw [hb] at h
        have := h.ok
        subst this
        obtain ⟨y, h5, h6⟩ := evs_ok E hg hx
        unfold Den at h6
        obtain ⟨b, oo, c, hb', rfl⟩ := h6
        exact ⟨_, r_fa h5 (h4 i (by simpa using hb)) rfl, by unfold Den; exact ⟨b, oo, c, hb', by rw [Nat.add_assoc]⟩⟩
    · exact h.no.elim
  case load t x =>
    unfold opR at h
    cases hx : evs env g x with
    | none => simp only [hx] at h; exact h.no.elim
    | some s =>
      simp only [hx] at h
      obtain ⟨y, h1, h2⟩ := evs_ok E hg hx
      exact load_ok hti H h1 h2 h
  case binOp o t x y u =>
    unfold opR at h
    simp only at h
    split at h
    · rename_i b1 b2 hx hy
      obtain ⟨v1, h1, d1⟩ := evs_ok E hg hx
      obtain ⟨v2, h2, d2⟩ := evs_ok E hg hy
      rw [den_bool d1] at h1
      rw [den_bool d2] at h2
      have hgu : ∀ w : World, (eqGuard o t x y (.bool b1) (.bool b2)).run P w = .ok () w := fun w => by
        unfold eqGuard
        split <;> rfl
      split at h
      · rename_i hlk
        have h3 := ti_at hti hlk
        unfold tiOk1 at h3
        simp only [Bool.and_eq_true] at h3
        have h4 : P.underlying t = some .bool := by
          have := h3.2
          split at this <;> simp_all
        have := h.ok
        subst this
        exact ⟨.bool (b1 == b2), by simp only [execOp, h1, h2, Sem.run_bind, hgu, run_eql_bool w t b1 b2 h4, Result.andThen_ok, Sem.run_pure], by unfold Den; rfl⟩
      · rename_i hlk
        have h3 := ti_at hti hlk
        unfold tiOk1 at h3
        simp only [Bool.and_eq_true] at h3
        have h4 : P.underlying t = some .bool := by
          have := h3.2
          split at this <;> simp_all
        have := h.ok
        subst this
        exact ⟨.bool (!(b1 == b2)), by simp only [execOp, h1, h2, Sem.run_bind, hgu, run_neq_bool w t b1 b2 h4, Result.andThen_ok, Sem.run_pure], by unfold Den; rfl⟩
      · exact h.no.elim
    · rename_i hx hy
      obtain ⟨v1, h1, d1⟩ := evs_ok E hg hx
      obtain ⟨v2, h2, d2⟩ := evs_ok E hg hy
      split at h
      · rename_i hlk
        obtain ⟨_, hel, _⟩ := ti_sl hti hlk
        have := h.ok
        subst this
        unfold Den at d1 d2
        obtain ⟨rfl, _⟩ := d1
        obtain ⟨rfl, _⟩ := d2
        unfold elemOf? at hel
        split at hel
        · rename_i e' hu
          exact ⟨_, r_nnil h1 h2 hu, by unfold Den; rfl⟩
        · cases hel
      · exact h.no.elim
    · rename_i hx hy
      obtain ⟨v1, h1, d1⟩ := evs_ok E hg hx
      obtain ⟨v2, h2, d2⟩ := evs_ok E hg hy
      split at h
      · rename_i hlk
        obtain ⟨_, hel, _⟩ := ti_sl hti hlk
        have := h.ok
        subst this
        unfold Den at d1 d2
        obtain ⟨_, A, n', c', rfl⟩ := d1
        obtain ⟨rfl, _⟩ := d2
        unfold elemOf? at hel
        split at hel
        · rename_i e' hu
          exact ⟨_, r_snil h1 h2 hu, by unfold Den; rfl⟩
        · cases hel
      · exact h.no.elim
    · rename_i s1 s2 hne1 hne2 hne3 hx hy
      obtain ⟨v1, h1, d1⟩ := evs_ok E hg hx
      obtain ⟨v2, h2, d2⟩ := evs_ok E hg hy
      exact bin_ok h1 d1 h2 d2 h
    · exact h.no.elim
  case unOp o t x =>
    cases o <;> unfold opR at h <;> simp only at h <;> first | exact h.no.elim | skip
    all_goals
      split at h
      · rename_i hx
        obtain ⟨v1, h1, d1⟩ := evs_ok E hg hx
        have := h.ok
        subst this
        first
          | (have := den_bool d1; subst this; exact ⟨_, r_not h1 rfl, by unfold Den; rfl⟩)
          | (have := den_int d1; subst this; exact ⟨_, r_neg h1 rfl, by unfold Den; rfl⟩)
      · exact h.no.elim
  case indexAddr t x y =>
    unfold opR at h
    simp only at h
    split at h
    · rename_i ee ss u e xs i hlk hx hy
      obtain ⟨h1, h2, h3⟩ := ti_sl hti hlk
      obtain ⟨v1, e1, d1⟩ := evs_ok E hg hx
      obtain ⟨v2, e2, d2⟩ := evs_ok E hg hy
      cases hb : Nat.beq u.size e.size with
      | false => rw [hb] at h; exact h.no.elim
      | true =>
        rw [hb] at h
        simp only [cond_true] at h
        obtain ⟨⟨h4, h5⟩, h6⟩ := h.vc
        subst h6
        have := den_int d2
        subst this
        unfold Den at d1
        obtain ⟨A, c, rfl⟩ := d1.slice
        obtain ⟨b, off, rfl, hm, hp⟩ := elem_ok d1 h4 h5
        refine ⟨_, r_ia (k := i.toNat) e1 e2 (by omega) h2 (by omega) rfl, ?_⟩
        unfold Den
        exact ⟨b, _, rfl, by rw [← h3, beq_t hb]; exact hp⟩
    · rename_i ee ss uu k0 o0 n0 hdr0 i hlk hx hy
      obtain ⟨h1, h2, h3⟩ := ti_sl hti hlk
      obtain ⟨v1, e1, d1⟩ := evs_ok E hg hx
      obtain ⟨v2, e2, d2⟩ := evs_ok E hg hy
      obtain ⟨⟨h4, h5⟩, h6⟩ := h.vc
      subst h6
      have := den_int d2
      subst this
      unfold Den at d1
      obtain ⟨rfl, A, c, rfl, hp⟩ := d1
      obtain ⟨b, off, rfl⟩ := hp (by omega)
      refine ⟨_, r_ia (k := i.toNat) e1 e2 (by omega) h2 (by omega) rfl, ?_⟩
      unfold Den
      exact ⟨b, off, c, rfl, rfl⟩
    · rename_i ee ss uu h' i hlk hx hy
      obtain ⟨h1, h2, h3⟩ := ti_sl hti hlk
      obtain ⟨v1, e1, d1⟩ := evs_ok E hg hx
      obtain ⟨v2, e2, d2⟩ := evs_ok E hg hy
      split at h
      · rename_i t' s' u xs us0 hrow
        cases hb : Nat.beq ss s' with
        | false => rw [hb] at h; exact h.no.elim
        | true =>
          rw [hb] at h
          simp only [cond_true] at h
          obtain ⟨⟨h4, h5⟩, h6⟩ := h.vc
          subst h6
          have := den_int d2
          subst this
          unfold Den at d1
          obtain ⟨d1, _⟩ := d1
          subst d1
          obtain ⟨k1, A, c, bs, k2, k3, k4⟩ := rw_at H hrow
          simp only at k1 k2 k4
          have hlt : i.toNat < xs.length := by omega
          obtain ⟨b, rfl⟩ := k4 (by omega)
          refine ⟨_, r_ia (k := i.toNat) (e1.trans k2) e2 (by omega) h2 hlt rfl, ?_⟩
          unfold Den
          exact ⟨b, _, c, k2, hlt, by simp⟩
      · split at h
        · rename_i t' s' u xs hrow
          cases hb : Nat.beq ss s' with
          | false => rw [hb] at h; exact h.no.elim
          | true =>
            rw [hb] at h
            simp only [cond_true] at h
            obtain ⟨⟨h4, h5⟩, h6⟩ := h.vc
            subst h6
            have := den_int d2
            subst this
            unfold Den at d1
            obtain ⟨d1, _⟩ := d1
            subst d1
            have hlt : i.toNat < xs.length := by omega
            obtain ⟨k1, b, c, us, k2, _⟩ := dat_elem H hrow hlt
            simp only at k2
            refine ⟨_, r_ia (k := i.toNat) (e1.trans k2) e2 (by omega) h2 hlt rfl, ?_⟩
            unfold Den
            exact ⟨b, _, c, k2, hlt, by simp⟩
        · exact h.no.elim
    · rename_i ee ss uu h' s' lo n i hlk hx hy
      obtain ⟨h1, h2, h3⟩ := ti_sl hti hlk
      obtain ⟨v1, e1, d1⟩ := evs_ok E hg hx
      obtain ⟨v2, e2, d2⟩ := evs_ok E hg hy
      cases hb : Nat.beq ss s' with
      | false => rw [hb] at h; exact h.no.elim
      | true =>
        rw [hb] at h
        simp only [cond_true] at h
        obtain ⟨⟨h4, h5⟩, h6⟩ := h.vc
        subst h6
        have hs := beq_t hb
        subst hs
        have := den_int d2
        subst this
        unfold Den at d1
        obtain ⟨b, m, c, c', k1, k2, rfl⟩ := d1
        refine ⟨_, r_ia (k := i.toNat) e1 e2 (by omega) h2 (by omega) rfl, ?_⟩
        unfold Den
        have ht : ((lo : Int) + i).toNat = lo + i.toNat := by omega
        exact ⟨b, m, c, k1, by omega, by rw [ht, Nat.add_mul]; rfl⟩
    · exact h.no.elim
  case slice t x y z1 z2 =>
    match y, z1, z2, h with
    | some y, none, none, h =>
      unfold opR at h
      simp only at h
      split at h
      · rename_i ee ss uu h' i hlk hx hy
        obtain ⟨h1, h2, h3⟩ := ti_sl hti hlk
        obtain ⟨v1, e1, d1⟩ := evs_ok E hg hx
        obtain ⟨v2, e2, d2⟩ := evs_ok E hg hy
        split at h
        · rename_i t' s' u xs us0 hrow
          cases hb : Nat.beq ss s' with
          | false => rw [hb] at h; exact h.no.elim
          | true =>
            rw [hb] at h
            simp only [cond_true] at h
            obtain ⟨⟨h4, h5⟩, h6⟩ := h.vc
            subst h6
            have := den_int d2
            subst this
            unfold Den at d1
            obtain ⟨d1, _⟩ := d1
            subst d1
            obtain ⟨b, c, k2, k3⟩ := rw_cap H hrow (by show 0 < xs.length; omega)
            simp only at k2 k3
            have hi : i = ((i.toNat : Nat) : Int) := by omega
            refine ⟨_, r_slice (i := i.toNat) (e1.trans k2) (e2.trans (by rw [← hi])) h2 (by omega) (by omega), ?_⟩
            unfold Den
            exact ⟨b, xs.length, c, c - i.toNat, k2, by omega, by simp only [Nat.zero_add]⟩
        · exact h.no.elim
      · exact h.no.elim
    | none, _, _, h => unfold opR at h; exact h.no.elim
    | some _, some _, _, h => unfold opR at h; exact h.no.elim
    | some _, none, some _, h => unfold opR at h; exact h.no.elim
  case build t ps =>
    unfold opR at h
    simp only at h
    split at h
    · rename_i m k u zs hlk
      split at h
      · rename_i l hb
        have := h.ok
        subst this
        obtain ⟨h1, _, h2⟩ := ti_zero hti hlk
        obtain ⟨h3, h4⟩ := den0s_ok (cx := cx) (β := β) h1
        have hpl := ti_pl hti hlk
        unfold zeroOf at h2
        cases hq : P.info? t with
        | none => rw [hq] at h2; simp at h2
        | some it =>
          rw [hq] at h2
          simp only [Option.bind_some] at h2
          cases hz : it.zero with
          | none => rw [hz] at h2; simp at h2
          | some z =>
            rw [hz] at h2
            simp only [Option.map_some, Option.some.injEq] at h2
            rw [← h2] at h3
            obtain ⟨q, k1, k2⟩ := bldL_ok (cells := z.cells) E hg hb h3
            have hbt : P.built t (ps.map fun (i, x) => (i, a.eval x)).toList = some q := by
              unfold placesOf at hpl
              unfold Program.built
              split at hpl
              · rename_i fields hu
                rw [hq, hu]
                simp only [hz, hpl]
                rw [Array.toList_map]
                exact k1
              · cases hpl
            refine ⟨.agg q, r_build rfl (run_build w t _ q hbt), ?_⟩
            unfold Den
            exact ⟨q.toList, by simp, k2⟩
      · exact h.no.elim
    · exact h.no.elim
  case extract x i =>
    unfold opR at h
    simp only at h
    split at h
    · rename_i l hx
      obtain ⟨v1, e1, d1⟩ := evs_ok E hg hx
      unfold Den at d1
      obtain ⟨vs, rfl, d1⟩ := d1
      split at h
      · rename_i s hs
        have := h.ok
        subst this
        obtain ⟨y, h1, h2⟩ := d1.get hs
        exact ⟨y, r_ext e1 h1, h2⟩
      · exact h.no.elim
    · exact h.no.elim
  case pick c x y =>
    cases c with
    | tmp c =>
      unfold opR at h
      simp only at h
      split at h
      · rename_i b hl
        obtain ⟨v0, hv0, hd0⟩ := evs_tmp E hg hl
        have hb0 : v0 = .bool b := den_bool hd0
        subst hb0
        have hc0 : a.eval (.tmp c) = .bool b := by
          show a.tmps.getD c undef = _
          rw [Array.getD_eq_getD_getElem?, hv0]; rfl
        split at h
        · rename_i s1 s2 hx hy
          split at h
          · rename_i r hp
            have := h.ok
            subst this
            cases b with
            | true =>
              obtain ⟨v1, e1, d1⟩ := evs2_ok E hg (fun d b hh => by injection hh with hh; injection hh with h1 h2; subst h1 h2; exact hv0) hx
              refine ⟨v1, r_pick_t hc0 e1, ?_⟩
              unfold pickSV at hp
              split at hp <;> first | (injection hp with hp; subst hp; exact d1) | cases hp
            | false =>
              obtain ⟨v1, e1, d1⟩ := evs2_ok E hg (fun d b hh => by injection hh with hh; injection hh with h1 h2; subst h1 h2; exact hv0) hy
              refine ⟨v1, r_pick_f hc0 e1, ?_⟩
              unfold pickSV at hp
              split at hp <;> first | (injection hp with hp; subst hp; exact d1) | cases hp
          · exact h.no.elim
        · exact h.no.elim
      · exact h.no.elim
    | const _ | global _ | func _ => unfold opR at h; exact h.no.elim
  case call c =>
    obtain ⟨ce, ar, tys⟩ := c
    unfold opR at h
    simp only at h
    split at h
    · rename_i x t h1 h2
      split at h
      · rename_i ee ss u e xs hlk hx
        obtain ⟨h3, h4, h5⟩ := ti_sl hti hlk
        obtain ⟨v1, e1, d1⟩ := evs_ok E hg hx
        have := h.ok
        subst this
        unfold Den at d1
        obtain ⟨A, c, hs⟩ := d1.slice
        subst hs
        have har : ar = #[x] := by simpa using congrArg List.toArray h1
        have hty : tys = #[t] := by simpa using congrArg List.toArray h2
        subst har hty
        exact ⟨_, r_len e1 h4, by unfold Den; rfl⟩
      · rename_i ee ss uu h' hlk hx
        obtain ⟨h3, h4, h5⟩ := ti_sl hti hlk
        obtain ⟨v1, e1, d1⟩ := evs_ok E hg hx
        split at h
        · rename_i t' s' u xs us0 hrow
          have := h.ok
          subst this
          unfold Den at d1
          obtain ⟨d1, _⟩ := d1
          obtain ⟨k1, A, c, bs, k2, k3, k4⟩ := rw_at H hrow
          simp only at k2
          rw [k2] at d1
          subst d1
          have har : ar = #[x] := by simpa using congrArg List.toArray h1
          have hty : tys = #[t] := by simpa using congrArg List.toArray h2
          subst har hty
          exact ⟨_, r_len e1 h4, by unfold Den; rfl⟩
        · split at h
          · rename_i t' s' u xs hrow
            have := h.ok
            subst this
            unfold Den at d1
            obtain ⟨d1, _⟩ := d1
            obtain ⟨k1, A, c, k2⟩ := dat_at H hrow
            simp only at k2
            rw [k2] at d1
            subst d1
            have har : ar = #[x] := by simpa using congrArg List.toArray h1
            have hty : tys = #[t] := by simpa using congrArg List.toArray h2
            subst har hty
            exact ⟨_, r_len e1 h4, by unfold Den; rfl⟩
          · exact h.no.elim
      · rename_i ee ss uu hlk hx
        obtain ⟨h3, h4, h5⟩ := ti_sl hti hlk
        obtain ⟨v1, e1, d1⟩ := evs_ok E hg hx
        have := h.ok
        subst this
        unfold Den at d1
        obtain ⟨d1, _⟩ := d1
        subst d1
        have har : ar = #[x] := by simpa using congrArg List.toArray h1
        have hty : tys = #[t] := by simpa using congrArg List.toArray h2
        subst har hty
        exact ⟨_, r_len e1 h4, by unfold Den; rfl⟩
      · rename_i hlk hx
        obtain ⟨h3, h4, h5⟩ := ti_sl hti hlk
        obtain ⟨v1, e1, d1⟩ := evs_ok E hg hx
        have := h.ok
        subst this
        unfold Den at d1
        obtain ⟨rfl, A, c, rfl, _⟩ := d1
        have har : ar = #[x] := by simpa using congrArg List.toArray h1
        have hty : tys = #[t] := by simpa using congrArg List.toArray h2
        subst har hty
        exact ⟨_, r_len e1 h4, by unfold Den; rfl⟩
      · rename_i hlk hx
        obtain ⟨h3, h4, h5⟩ := ti_sl hti hlk
        obtain ⟨v1, e1, d1⟩ := evs_ok E hg hx
        have := h.ok
        subst this
        unfold Den at d1
        obtain ⟨b, m, c, c', _, _, rfl⟩ := d1
        have har : ar = #[x] := by simpa using congrArg List.toArray h1
        have hty : tys = #[t] := by simpa using congrArg List.toArray h2
        subst har hty
        exact ⟨_, r_len e1 h4, by unfold Den; rfl⟩
      · rename_i hlk hx
        obtain ⟨h3, k, e, h4, h5, _⟩ := ti_mp hti hlk
        obtain ⟨v1, e1, d1⟩ := evs_ok E hg hx
        split at h
        · rename_i u' kv hm
          have := h.ok
          subst this
          obtain ⟨_, b, es, cl, q1, q2, q3⟩ := map_at H hm
          unfold Den at d1
          have har : ar = #[x] := by simpa using congrArg List.toArray h1
          have hty : tys = #[t] := by simpa using congrArg List.toArray h2
          subst har hty
          have hl : es.length = kv.length := by simpa using congrArg List.length q3
          exact ⟨_, r_mlen (e1.trans (d1.1.trans q1)) h4 q2, by unfold Den; rw [hl]⟩
        · exact h.no.elim
      · exact h.no.elim
    · rename_i x y h1
      split at h
      · rename_i k i k2 j hx hy
        have := h.ok
        subst this
        obtain ⟨v1, e1, d1⟩ := evs_ok E hg hx
        obtain ⟨v2, e2, d2⟩ := evs_ok E hg hy
        rw [den_int d1] at e1
        rw [den_int d2] at e2
        have har : ar = #[x, y] := by simpa using congrArg List.toArray h1
        subst har
        exact ⟨_, r_max e1 e2, by unfold Den; rfl⟩
      · exact h.no.elim
    · rename_i x y h1
      split at h
      · rename_i k i k2 j hx hy
        have := h.ok
        subst this
        obtain ⟨v1, e1, d1⟩ := evs_ok E hg hx
        obtain ⟨v2, e2, d2⟩ := evs_ok E hg hy
        rw [den_int d1] at e1
        rw [den_int d2] at e2
        have har : ar = #[x, y] := by simpa using congrArg List.toArray h1
        subst har
        exact ⟨_, r_min e1 e2, by unfold Den; rfl⟩
      · exact h.no.elim
    · exact h.no.elim
  case convert s d x =>
    unfold opR at h
    simp only at h
    split at h
    · rename_i z k z2 k2 i hs hdd hx
      have := h.ok
      subst this
      obtain ⟨v1, h1, d1⟩ := evs_ok E hg hx
      rw [den_int d1] at h1
      refine ⟨_, ?_, by unfold Den; rfl⟩
      have hr := run_convert_int (P := P) w s d k2 i (ti_und hti hs) (by rw [ti_int hti hdd]; simp [Program.intKind, ti_int hti hdd])
      simp only [execOp, h1, Sem.run_bind, hr, Result.andThen_ok, Sem.run_pure, Program.intKind, ti_int hti hdd]
    · exact h.no.elim
  case lookup t x y ok =>
    cases ok with
    | true => unfold opR at h; exact h.no.elim
    | false =>
      unfold opR at h
      simp only at h
      split at h
      · rename_i u q i hlk hx hy
        obtain ⟨h3, k, e, h4, h5, inf, h6, h7⟩ := ti_mp hti hlk
        obtain ⟨v1, e1, d1⟩ := evs_ok E hg hx
        obtain ⟨v2, e2, d2⟩ := evs_ok E hg hy
        split at h
        · rename_i u' kv hm
          cases hu : eqU u u' with
          | false => rw [hu] at h; exact h.no.elim
          | true =>
            rw [hu] at h
            have := eqU_ok hu
            subst this
            simp only [cond_true] at h
            obtain ⟨_, b, es, cl, q1, q2, q3⟩ := map_at H hm
            unfold Den at d1
            obtain ⟨k1, k2, k3, _⟩ := vOf_ok (cx := cx) (β := β) h3 (kvGet (dflt u) kv i)
            rw [k1] at h
            have := h.ok
            subst this
            rw [den_int d2] at e2
            exact ⟨_, r_lookup (e1.trans (d1.1.trans q1)) e2 h4 h5 h6 h7 q2 q3, k3⟩
        · exact h.no.elim
      · exact h.no.elim
  case makeFunc f0 ts xs =>
    cases f0
    case func f =>
      unfold opR at h
      simp only at h
      split at h
      · rename_i l h1 h2
        have := h.ok
        subst this
        have hts : ts = #[] := by simpa using congrArg List.toArray h1
        subst hts
        have hd := evsL_ok E hg h2
        exact ⟨_, r_mkf (xs := xs.toList) rfl, by unfold Den; exact ⟨_, rfl, hd⟩⟩
      · exact h.no.elim
    all_goals (unfold opR at h; exact h.no.elim)
  all_goals (unfold opR at h; exact h.no.elim)
end
end Go.Tr

/- The symbolic machine is right: things taken, renamed, made. -/
set_option linter.unusedSimpArgs false
set_option linter.unusedVariables false
namespace Go.Tr
open Go Go.RowKit
universe u
inductive F2 {α γ : Type u} (R : α → γ → Prop) : List α → List γ → Prop where
  | nil : F2 R [] []
  | cons {a b l m} (h : R a b) (t : F2 R l m) : F2 R (a :: l) (b :: m)
theorem lk_cons {α : Type u} (l : List (Nat × α)) (d t : Nat) (v : α) : lk ((d, v) :: l) t = if t = d then some v else lk l t := by
  show (bif Nat.beq t d then some v else lk l t) = _
  cases h : Nat.beq t d with
  | true => rw [if_pos (beq_t h)]; rfl
  | false => rw [if_neg (fun e => by subst e; simp at h)]; rfl
section
variable {cx : Cx} {β β' : Nat → Value} {P : Program} {ti : TI} {rs : List Tok} {fr : List Res} {w w' : World} {v : SV}
theorem takeTok_ok : ∀ {rs : List Tok} {k : Nat} {K : Tok → List Tok → Prop} {N : Prop}, takeTok rs k K N → (∃ x l, K x l ∧ x.name = k ∧ rs.Perm (x :: l)) ∨ N
  | [], k, K, N, h => .inr h
  | .cel g t cs :: l, k, K, N, h => by
    unfold takeTok at h
    cases hb : Nat.beq g k with
    | true => rw [hb] at h; exact .inl ⟨_, l, h, beq_t hb, List.Perm.refl _⟩
    | false =>
      rw [hb] at h
      rcases takeTok_ok (rs := l) h with ⟨x, l', h1, h2, h3⟩ | h1
      · exact .inl ⟨x, _, h1, h2, (h3.cons _).trans (List.Perm.swap _ _ _)⟩
      · exact .inr h1
  | .row g t s u xs us :: l, k, K, N, h => by
    unfold takeTok at h
    cases hb : Nat.beq g k with
    | true => rw [hb] at h; exact .inl ⟨_, l, h, beq_t hb, List.Perm.refl _⟩
    | false =>
      rw [hb] at h
      rcases takeTok_ok (rs := l) h with ⟨x, l', h1, h2, h3⟩ | h1
      · exact .inl ⟨x, _, h1, h2, (h3.cons _).trans (List.Perm.swap _ _ _)⟩
      · exact .inr h1
  | .map g u kv :: l, k, K, N, h => by
    unfold takeTok at h
    cases hb : Nat.beq g k with
    | true => rw [hb] at h; exact .inl ⟨_, l, h, beq_t hb, List.Perm.refl _⟩
    | false =>
      rw [hb] at h
      rcases takeTok_ok (rs := l) h with ⟨x, l', h1, h2, h3⟩ | h1
      · exact .inl ⟨x, _, h1, h2, (h3.cons _).trans (List.Perm.swap _ _ _)⟩
      · exact .inr h1
  | .nest g u xs us :: l, k, K, N, h => by
    unfold takeTok at h
    cases hb : Nat.beq g k with
    | true => rw [hb] at h; exact .inl ⟨_, l, h, beq_t hb, List.Perm.refl _⟩
    | false =>
      rw [hb] at h
      rcases takeTok_ok (rs := l) h with ⟨x, l', h1, h2, h3⟩ | h1
      · exact .inl ⟨x, _, h1, h2, (h3.cons _).trans (List.Perm.swap _ _ _)⟩
      · exact .inr h1
  | .dat g t s u xs :: l, k, K, N, h => by
    unfold takeTok at h
    cases hb : Nat.beq g k with
    | true => rw [hb] at h; exact .inl ⟨_, l, h, beq_t hb, List.Perm.refl _⟩
    | false =>
      rw [hb] at h
      rcases takeTok_ok (rs := l) h with ⟨x, l', h1, h2, h3⟩ | h1
      · exact .inl ⟨x, _, h1, h2, (h3.cons _).trans (List.Perm.swap _ _ _)⟩
      · exact .inr h1
theorem takeCel_ok {k : Nat} {K : TypeId → List SV → List Tok → Prop} (h : takeCel rs k K) : ∃ t cs l, K t cs l ∧ rs.Perm (.cel k t cs :: l) := by
  rcases takeTok_ok h with ⟨x, l, h1, h2, h3⟩ | h1
  · cases x with
    | cel g t cs => cases h2; exact ⟨t, cs, l, h1, h3⟩
    | row => exact h1.elim
    | map => exact h1.elim
    | nest => exact h1.elim
    | dat => exact h1.elim
  · exact h1.elim
theorem takeRow_ok {k : Nat} {K : TypeId → Nat → (u : U) → List (El u) → List Value → List Tok → Prop} (h : takeRow rs k K) : ∃ t s u xs us l, K t s u xs us l ∧ rs.Perm (.row k t s u xs us :: l) := by
  rcases takeTok_ok h with ⟨x, l, h1, h2, h3⟩ | h1
  · cases x with
    | row g t s u xs us => cases h2; exact ⟨t, s, u, xs, us, l, h1, h3⟩
    | cel => exact h1.elim
    | map => exact h1.elim
    | nest => exact h1.elim
    | dat => exact h1.elim
  · exact h1.elim
theorem takeMap_ok {k : Nat} {K : (u : U) → List (Int × El u) → List Tok → Prop} (h : takeMap rs k K) : ∃ u kv l, K u kv l ∧ rs.Perm (.map k u kv :: l) := by
  rcases takeTok_ok h with ⟨x, l, h1, h2, h3⟩ | h1
  · cases x with
    | map g u kv => cases h2; exact ⟨u, kv, l, h1, h3⟩
    | nest => exact h1.elim
    | dat => exact h1.elim
    | cel => exact h1.elim
    | row => exact h1.elim
  · exact h1.elim
theorem takeNest_ok {k : Nat} {K : (u : U) → List (El u) → List Value → List Tok → Prop} (h : takeNest rs k K) : ∃ u xs us l, K u xs us l ∧ rs.Perm (.nest k u xs us :: l) := by
  rcases takeTok_ok h with ⟨x, l, h1, h2, h3⟩ | h1
  · cases x with
    | nest g u xs us => cases h2; exact ⟨u, xs, us, l, h1, h3⟩
    | cel => exact h1.elim
    | row => exact h1.elim
    | map => exact h1.elim
    | dat => exact h1.elim
  · exact h1.elim
theorem takeDat_ok {k : Nat} {K : TypeId → Nat → (u : U) → List (El u) → List Tok → Prop} (h : takeDat rs k K) : ∃ t s u xs l, K t s u xs l ∧ rs.Perm (.dat k t s u xs :: l) := by
  rcases takeTok_ok h with ⟨x, l, h1, h2, h3⟩ | h1
  · cases x with
    | dat g t s u xs => cases h2; exact ⟨t, s, u, xs, l, h1, h3⟩
    | nest => exact h1.elim
    | cel => exact h1.elim
    | row => exact h1.elim
    | map => exact h1.elim
  · exact h1.elim
theorem Inv.tperm {w0 : World} {F0 : List Nat} {rs rs' : List Tok} (h : Inv w0 F0 w (rs.map (Tok.res cx β) ++ fr)) (hp : rs.Perm rs') : Inv w0 F0 w (rs'.map (Tok.res cx β) ++ fr) :=
  h.perm ((hp.map _).append_right fr)
/-- Things seen otherwise. -/
theorem Sep.imp2 : ∀ {l m : List Res} {G : List Nat}, F2 (fun r r' => ∀ F, Res.p r w F → Res.p r' w F) l m → Sep w (l ++ fr) G → Sep w (m ++ fr) G
  | [], [], G, _, h => h
  | r :: l, r' :: m, G, .cons h1 h2, ⟨F, G', e, k1, k2, k3⟩ => ⟨F, G', e, h1 F k1, Sep.imp2 h2 k2, k3⟩
theorem Inv.imp2 {w0 : World} {F0 : List Nat} {l m : List Res} (h : Inv w0 F0 w (l ++ fr)) (h2 : F2 (fun r r' => ∀ F, Res.p r w F → Res.p r' w F) l m) : Inv w0 F0 w (m ++ fr) := by
  obtain ⟨G, h3, h4⟩ := h.sep
  exact ⟨h.chg, G, Sep.imp2 h2 h3, h4⟩

/-! ### names -/
mutual
theorem names_mem {g : Nat} : ∀ {v : SV} {r : List Nat}, g ∈ v.names r ↔ g ∈ v.names [] ∨ g ∈ r
  | .ptr _ _, r | .sl _, r | .ep _ _ _ _, r | .mp _, r | .sx _ _ _ _, r => by simp [SV.names]
  | .agg l, r | .tup l, r | .fn _ l, r => by simp only [SV.names]; exact namesL_mem
  | .gd _ _ v, r => by simp only [SV.names]; exact names_mem
  | .int _ _, r | .bool _, r | .raw _, r | .rsl _ _, r | .rp _ _, r | .un, r | .nh _ _ _ _, r | .np _ _ _ _ _ _ _, r | .nn _ _, r => by simp [SV.names]
theorem namesL_mem {g : Nat} : ∀ {l : List SV} {r : List Nat}, g ∈ namesL l r ↔ g ∈ namesL l [] ∨ g ∈ r
  | [], r => by simp [namesL]
  | v :: l, r => by
    simp only [namesL]
    rw [names_mem (v := v) (r := namesL l r), names_mem (v := v) (r := namesL l []), namesL_mem (l := l) (r := r)]
    constructor
    · rintro (h | h | h) <;> simp [h]
    · rintro ((h | h) | h) <;> simp [h]
end
mutual
theorem Den.congr : ∀ {v : SV} {x : Value}, Den cx β v x → (∀ g ∈ v.names [], β' g = β g) → Den cx β' v x
  | .ptr g o, x, h, e => by
    unfold Den at h ⊢
    rw [e g (by simp [SV.names])]
    exact h
  | .sl g, x, h, e => by
    unfold Den at h ⊢
    rw [e g (by simp [SV.names])]
    exact h
  | .ep g s i o, x, h, e => by
    unfold Den at h ⊢
    rw [e g (by simp [SV.names])]
    exact h
  | .mp g, x, h, e => by
    unfold Den at h ⊢
    rw [e g (by simp [SV.names])]
    exact h
  | .sx g _ _ _, x, h, e => by
    unfold Den at h ⊢
    rw [e g (by simp [SV.names])]
    exact h
  | .agg l, x, h, e | .tup l, x, h, e | .fn _ l, x, h, e => by
    unfold Den at h ⊢
    obtain ⟨vs, h1, h2⟩ := h
    exact ⟨vs, h1, h2.congr e⟩
  | .gd _ _ v, x, h, e => by unfold Den at h; exact h.elim
  | .int _ _, x, h, e | .bool _, x, h, e | .raw _, x, h, e | .rsl _ _, x, h, e | .rp _ _, x, h, e | .un, x, h, e | .nh _ _ _ _, x, h, e | .np _ _ _ _ _ _ _, x, h, e | .nn _ _, x, h, e => by unfold Den at h ⊢; exact h
theorem Dens.congr : ∀ {l : List SV} {xs : List Value}, Dens cx β l xs → (∀ g ∈ namesL l [], β' g = β g) → Dens cx β' l xs
  | [], xs, h, e => by unfold Dens at h ⊢; exact h
  | v :: l, xs, h, e => by
    unfold Dens at h ⊢
    obtain ⟨x, xs', h1, h2, h3⟩ := h
    refine ⟨x, xs', h1, h2.congr fun g hg => e g ?_, h3.congr fun g hg => e g ?_⟩
    · simp only [namesL]; rw [names_mem]; exact .inl hg
    · simp only [namesL]; rw [names_mem]; exact .inr hg
end
/-! ### other names -/
theorem rnN_ok {st : Bool} {σ : List (Nat × Nat)} {g : Nat} {K : Nat → Prop} (h : rnN st σ g K) : ∃ g', K g' ∧ (lk σ g = some g' ∨ (st = false ∧ lk σ g = none ∧ g' = g)) := by
  unfold rnN at h
  split at h
  · rename_i g' hg; exact ⟨g', h, .inl hg⟩
  · rename_i hg
    cases st with
    | true => exact h.elim
    | false => exact ⟨g, h, .inr ⟨rfl, hg, rfl⟩⟩
/-- β' after the renaming is β. -/
def RnB (st : Bool) (σ : List (Nat × Nat)) (β β' : Nat → Value) : Prop := ∀ g g', (lk σ g = some g' ∨ (st = false ∧ lk σ g = none ∧ g' = g)) → β' g' = β g
def RnV (st : Bool) (σ : List (Nat × Nat)) (v v' : SV) : Prop := ∀ (cx : Cx) β β', RnB st σ β β' → ∀ x, (Den cx β v x ↔ Den cx β' v' x)
mutual
theorem rnK_ok {st : Bool} {σ : List (Nat × Nat)} : ∀ {v : SV} {K : SV → Prop}, rnK st σ v K → ∃ v', K v' ∧ RnV st σ v v'
  | .ptr g o, K, h => by
    unfold rnK at h
    obtain ⟨g', h1, h2⟩ := rnN_ok h
    exact ⟨_, h1, fun cx β β' hb x => by unfold Den; rw [hb g g' h2]⟩
  | .sl g, K, h => by
    unfold rnK at h
    obtain ⟨g', h1, h2⟩ := rnN_ok h
    exact ⟨_, h1, fun cx β β' hb x => by unfold Den; rw [hb g g' h2]⟩
  | .ep g s i o, K, h => by
    unfold rnK at h
    obtain ⟨g', h1, h2⟩ := rnN_ok h
    exact ⟨_, h1, fun cx β β' hb x => by unfold Den; rw [hb g g' h2]⟩
  | .mp g, K, h => by
    unfold rnK at h
    obtain ⟨g', h1, h2⟩ := rnN_ok h
    exact ⟨_, h1, fun cx β β' hb x => by unfold Den; rw [hb g g' h2]⟩
  | .sx g _ _ _, K, h => by
    unfold rnK at h
    obtain ⟨g', h1, h2⟩ := rnN_ok h
    exact ⟨_, h1, fun cx β β' hb x => by unfold Den; rw [hb g g' h2]⟩
  | .agg l, K, h => by
    unfold rnK at h
    obtain ⟨l', h1, h2⟩ := rnLK_ok h
    exact ⟨_, h1, fun cx β β' hb x => by unfold Den; exact ⟨fun ⟨vs, e, k⟩ => ⟨vs, e, (h2 cx β β' hb vs).1 k⟩, fun ⟨vs, e, k⟩ => ⟨vs, e, (h2 cx β β' hb vs).2 k⟩⟩⟩
  | .tup l, K, h => by
    unfold rnK at h
    obtain ⟨l', h1, h2⟩ := rnLK_ok h
    exact ⟨_, h1, fun cx β β' hb x => by unfold Den; exact ⟨fun ⟨vs, e, k⟩ => ⟨vs, e, (h2 cx β β' hb vs).1 k⟩, fun ⟨vs, e, k⟩ => ⟨vs, e, (h2 cx β β' hb vs).2 k⟩⟩⟩
  | .fn f l, K, h => by
    unfold rnK at h
    obtain ⟨l', h1, h2⟩ := rnLK_ok h
    exact ⟨_, h1, fun cx β β' hb x => by unfold Den; exact ⟨fun ⟨vs, e, k⟩ => ⟨vs, e, (h2 cx β β' hb vs).1 k⟩, fun ⟨vs, e, k⟩ => ⟨vs, e, (h2 cx β β' hb vs).2 k⟩⟩⟩
  | .int _ _, K, h | .bool _, K, h | .raw _, K, h | .rsl _ _, K, h | .rp _ _, K, h | .un, K, h | .nh _ _ _ _, K, h | .np _ _ _ _ _ _ _, K, h | .nn _ _, K, h => by
    unfold rnK at h
    exact ⟨_, h, fun cx β β' hb x => by unfold Den; exact Iff.rfl⟩
  | .gd _ _ _, K, h => by unfold rnK at h; exact h.elim
theorem rnLK_ok {st : Bool} {σ : List (Nat × Nat)} : ∀ {l : List SV} {K : List SV → Prop}, rnLK st σ l K → ∃ l', K l' ∧ ∀ (cx : Cx) β β', RnB st σ β β' → ∀ xs, (Dens cx β l xs ↔ Dens cx β' l' xs)
  | [], K, h => by
    unfold rnLK at h
    exact ⟨[], h, fun cx β β' hb xs => by unfold Dens; exact Iff.rfl⟩
  | v :: l, K, h => by
    unfold rnLK at h
    obtain ⟨v', h1, h2⟩ := rnK_ok h
    obtain ⟨l', h3, h4⟩ := rnLK_ok h1
    refine ⟨_, h3, fun cx β β' hb xs => ?_⟩
    unfold Dens
    exact ⟨fun ⟨x, xs', e, k1, k2⟩ => ⟨x, xs', e, (h2 cx β β' hb x).1 k1, (h4 cx β β' hb xs').1 k2⟩, fun ⟨x, xs', e, k1, k2⟩ => ⟨x, xs', e, (h2 cx β β' hb x).2 k1, (h4 cx β β' hb xs').2 k2⟩⟩
end
theorem rnTK_ok {st : Bool} {σ : List (Nat × Nat)} {t : Tok} {K : Tok → Prop} (h : rnTK st σ t K) : ∃ t', K t' ∧ ∀ (cx : Cx) β β', RnB st σ β β' → ∀ w F, (((Tok.res cx β t).p w F) ↔ ((Tok.res cx β' t').p w F)) := by
  cases t with
  | cel g t cs =>
    unfold rnTK at h
    obtain ⟨g', h1, h2⟩ := rnN_ok h
    obtain ⟨l', h3, h4⟩ := rnLK_ok h1
    refine ⟨_, h3, fun cx β β' hb w F => ?_⟩
    show (∃ b us, β g = _ ∧ Dens cx β cs us ∧ _ ∧ _) ↔ (∃ b us, β' g' = _ ∧ Dens cx β' l' us ∧ _ ∧ _)
    rw [hb g g' h2]
    exact ⟨fun ⟨b, us, k1, k2, k3⟩ => ⟨b, us, k1, (h4 cx β β' hb us).1 k2, k3⟩, fun ⟨b, us, k1, k2, k3⟩ => ⟨b, us, k1, (h4 cx β β' hb us).2 k2, k3⟩⟩
  | row g t s u xs us =>
    unfold rnTK at h
    obtain ⟨g', h1, h2⟩ := rnN_ok h
    refine ⟨_, h1, fun cx β β' hb w F => ?_⟩
    show (_ ∧ (Grx (β g) _ _ _ _ _).p w F) ↔ (_ ∧ (Grx (β' g') _ _ _ _ _).p w F)
    rw [hb g g' h2]
  | map g u kv =>
    unfold rnTK at h
    obtain ⟨g', h1, h2⟩ := rnN_ok h
    refine ⟨_, h1, fun cx β β' hb w F => ?_⟩
    show (_ ∧ ∃ r es cl, β g = _ ∧ _) ↔ (_ ∧ ∃ r es cl, β' g' = _ ∧ _)
    rw [hb g g' h2]
  | nest g u xs us =>
    unfold rnTK at h
    obtain ⟨g', h1, h2⟩ := rnN_ok h
    exact ⟨_, h1, fun cx β β' hb w F => Iff.rfl⟩
  | dat g t s u xs =>
    unfold rnTK at h
    obtain ⟨g', h1, h2⟩ := rnN_ok h
    refine ⟨_, h1, fun cx β β' hb w F => ?_⟩
    show (_ ∧ ∃ us, Dens cx β _ us ∧ _ ∧ (Grx (β g) _ _ _ _ _).p w F) ↔ (_ ∧ ∃ us, Dens cx β' _ us ∧ _ ∧ (Grx (β' g') _ _ _ _ _).p w F)
    rw [hb g g' h2]
    exact ⟨fun ⟨k1, us, k2, k3⟩ => ⟨k1, us, k2.flat0, k3⟩, fun ⟨k1, us, k2, k3⟩ => ⟨k1, us, k2.flat0, k3⟩⟩
theorem rnTLK_ok {st : Bool} {σ : List (Nat × Nat)} : ∀ {l : List Tok} {K : List Tok → Prop}, rnTLK st σ l K → ∃ l', K l' ∧ l'.length = l.length ∧ ∀ (cx : Cx) β β', RnB st σ β β' → ∀ w, F2 (fun r r' => ∀ F, (Res.p r w F ↔ Res.p r' w F)) (l.map (Tok.res cx β)) (l'.map (Tok.res cx β'))
  | [], K, h => by
    unfold rnTLK at h
    exact ⟨[], h, rfl, fun cx β β' hb w => .nil⟩
  | t :: l, K, h => by
    unfold rnTLK at h
    obtain ⟨v', h1, h2⟩ := rnTK_ok h
    obtain ⟨l', h3, h4, h5⟩ := rnTLK_ok h1
    exact ⟨_, h3, by simp [h4], fun cx β β' hb w => .cons (h2 cx β β' hb w) (h5 cx β β' hb w)⟩
theorem forall2_imp {α γ : Type u} {R S : α → γ → Prop} (h : ∀ a b, R a b → S a b) : ∀ {l : List α} {m : List γ}, F2 R l m → F2 S l m
  | [], [], _ => .nil
  | _ :: _, _ :: _, .cons h1 h2 => .cons (h _ _ h1) (forall2_imp h h2)
theorem forall2_flip {α γ : Type u} {R : α → γ → Prop} : ∀ {l : List α} {m : List γ}, F2 R l m → F2 (fun b a => R a b) m l
  | [], [], _ => .nil
  | _ :: _, _ :: _, .cons h1 h2 => .cons h1 (forall2_flip h2)

/-! ### data out of cells -/
theorem Inv.dn_app {w0 : World} {F0 : List Nat} {us vs : List Value} {ds es : List D} {R : List Res} (h : Inv w0 F0 w (DatN us ds :: DatN vs es :: R)) : Inv w0 F0 w (DatN (us ++ vs) (ds ++ es) :: R) := by
  obtain ⟨F1, F2, ⟨h1, h2⟩, ⟨h3, h4⟩, h5, h6⟩ := h.take2
  exact h6 _ (F1 ++ F2) (fun b hb => by simpa using hb) ⟨TN.append.2 ⟨F1, F2, us, vs, rfl, rfl, h1, h3⟩, Own.join h2 h4 h5⟩
theorem Inv.swap {w0 : World} {F0 : List Nat} {r s : Res} {R : List Res} (h : Inv w0 F0 w (r :: s :: R)) : Inv w0 F0 w (s :: r :: R) := h.perm (List.Perm.swap _ _ _)
theorem grx_gr {v : Value} {t : TypeId} {s n : Nat} {ds : List D} {pre : List Value} {F : List Nat} (h : (Grx v t s n ds pre).p w F) : (Gr v t s n ds).p w F := by
  obtain ⟨bs, us, h1, h2, _⟩ := h
  exact ⟨bs, us, h1, h2⟩
theorem gr_grx {v : Value} {t : TypeId} {s n : Nat} {ds : List D} {F : List Nat} (h : (Gr v t s n ds).p w F) : (Grx v t s n ds []).p w F := by
  obtain ⟨bs, us, h1, h2⟩ := h
  exact ⟨bs, us, h1, h2, List.nil_prefix⟩
theorem rw_dat {w0 : World} {F0 : List Nat} {k : Nat} {t : TypeId} {s : Nat} {u : U} {xs : List (El u)} {us : List Value} {R : List Res} (h : Inv w0 F0 w (Tok.res cx β (.row k t s u xs us) :: R)) : ∃ A c, β k = .slice A xs.length c ∧ Inv w0 F0 w (Dat (β k) xs.length (xs.flatMap (enc u)) :: R) := by
  obtain ⟨F, h1, h2, h3⟩ := h.take1
  have hs : u.size = s := h1.1
  have h4 : Inv w0 F0 w (Gr (β k) t s xs.length (xs.flatMap (enc u)) :: R) := h2 _ F (fun _ h => h) (grx_gr h1.2)
  obtain ⟨A, c, h5, h6⟩ := h4.gr_dat (by rw [flat_enc_len, hs])
  exact ⟨A, c, h5, h5 ▸ h6⟩
theorem mkK_ok : ∀ (u : U) {cs : List SV} {rs : List Tok} {K : El u → List SV → List Tok → Prop}, mkK u cs rs K → ∃ x l rs', K x l rs' ∧ (∀ t ∈ rs', t ∈ rs) ∧
    ∀ (cx : Cx) (β : Nat → Value) (w w0 : World) (F0 : List Nat) (us : List Value) (R : List Res), Dens cx β cs us → Inv w0 F0 w (rs.map (Tok.res cx β) ++ R) →
    ∃ u1 u2, us = u1 ++ u2 ∧ u1.length = u.size ∧ Dens cx β l u2 ∧ Inv w0 F0 w (DatN u1 (enc u x) :: (rs'.map (Tok.res cx β) ++ R))
  | .int k, [], rs, K, h | .bool, [], rs, K, h | .str, [], rs, K, h | .any, [], rs, K, h | .sl _, [], rs, K, h => by unfold mkK at h; exact h.elim
  | .int k, c :: l, rs, K, h => by
    unfold mkK at h
    split at h
    · rename_i k' i
      cases hb : (k' == k) with
      | false => rw [hb] at h; exact h.elim
      | true =>
        rw [hb] at h
        rw [beq_iff_eq] at hb
        subst hb
        refine ⟨i, l, rs, h, fun _ h => h, fun cx β w w0 F0 us R hd hI => ?_⟩
        unfold Dens at hd
        obtain ⟨v, vs', rfl, h1, h2⟩ := hd
        rw [den_int h1]
        exact ⟨[_], vs', rfl, rfl, h2, (hI.mk_e).mk_v rfl⟩
    · exact h.elim
  | .bool, c :: l, rs, K, h => by
    unfold mkK at h
    split at h
    · rename_i b
      refine ⟨b, l, rs, h, fun _ h => h, fun cx β w w0 F0 us R hd hI => ?_⟩
      unfold Dens at hd
      obtain ⟨v, vs', rfl, h1, h2⟩ := hd
      rw [den_bool h1]
      exact ⟨[_], vs', rfl, rfl, h2, (hI.mk_e).mk_v rfl⟩
    · exact h.elim
  | .str, c :: l, rs, K, h => by
    unfold mkK at h
    split at h
    · rename_i x
      refine ⟨x, l, rs, h, fun _ h => h, fun cx β w w0 F0 us R hd hI => ?_⟩
      unfold Dens at hd
      obtain ⟨v, vs', rfl, h1, h2⟩ := hd
      unfold Den at h1
      obtain ⟨rfl, h3⟩ := h1
      exact ⟨[_], vs', rfl, rfl, h2, (hI.mk_e).mk_v h3⟩
    · exact h.elim
  | .any, c :: l, rs, K, h => by
    unfold mkK at h
    split at h
    · rename_i x
      refine ⟨x, l, rs, h, fun _ h => h, fun cx β w w0 F0 us R hd hI => ?_⟩
      unfold Dens at hd
      obtain ⟨v, vs', rfl, h1, h2⟩ := hd
      unfold Den at h1
      obtain ⟨rfl, h3⟩ := h1
      exact ⟨[_], vs', rfl, rfl, h2, (hI.mk_e).mk_v h3⟩
    · rename_i k i
      refine ⟨.int k i, l, rs, h, fun _ h => h, fun cx β w w0 F0 us R hd hI => ?_⟩
      unfold Dens at hd
      obtain ⟨v, vs', rfl, h1, h2⟩ := hd
      rw [den_int h1]
      exact ⟨[_], vs', rfl, rfl, h2, (hI.mk_e).mk_v rfl⟩
    · rename_i hdr
      refine ⟨hdr, l, rs, h, fun _ h => h, fun cx β w w0 F0 us R hd hI => ?_⟩
      unfold Dens at hd
      obtain ⟨v, vs', rfl, h1, h2⟩ := hd
      unfold Den at h1
      obtain ⟨rfl, A, c, e, _⟩ := h1
      exact ⟨[_], vs', rfl, rfl, h2, (hI.mk_e).mk_v (by rw [e]; rfl)⟩
    · exact h.elim
  | .pair a b, cs, rs, K, h => by
    unfold mkK at h
    obtain ⟨x, l, rs', h1, hs1, h2⟩ := mkK_ok a h
    obtain ⟨y, l', rs'', k1, hs2, k2⟩ := mkK_ok b h1
    refine ⟨(x, y), l', rs'', k1, fun t ht => hs1 t (hs2 t ht), fun cx β w w0 F0 us R hd hI => ?_⟩
    obtain ⟨u1, u2, rfl, e1, e2, e3⟩ := h2 cx β w w0 F0 us R hd hI
    obtain ⟨u3, u4, rfl, q1, q2, q3⟩ := k2 cx β w w0 F0 u2 (DatN u1 (enc a x) :: R) e2 (e3.perm (List.perm_middle.symm))
    refine ⟨u1 ++ u3, u4, by simp, by simp [U.size, e1, q1], q2, ?_⟩
    have k5 : Inv w0 F0 w (DatN u1 (enc a x) :: DatN u3 (enc b y) :: (rs''.map (Tok.res cx β) ++ R)) := q3.perm (by
      refine (List.Perm.cons _ List.perm_middle).trans (List.Perm.swap _ _ _))
    exact k5.dn_app
  | .sl e, c :: l, rs, K, h => by
    unfold mkK at h
    split at h
    · rename_i k
      obtain ⟨t, s, u, xs, _, rs', h3, h4⟩ := takeRow_ok h
      split at h3
      · rename_i hu
        cases hb : Nat.beq s e.size with
        | false => rw [hb] at h3; exact h3.elim
        | true =>
          rw [hb] at h3
          have hue := eqU_ok hu
          subst hue
          refine ⟨_, l, rs', h3, fun t ht => h4.mem_iff.2 (by simp [ht]), fun cx β w w0 F0 us R hd hI => ?_⟩
          unfold Dens at hd
          obtain ⟨v, vs', rfl, h1, h2⟩ := hd
          unfold Den at h1
          obtain ⟨h1, _⟩ := h1
          subst h1
          obtain ⟨A, c, h5, h6⟩ := rw_dat (hI.tperm h4)
          exact ⟨[_], vs', rfl, rfl, h2, (Inv.swap h6.mk_e).mk_s⟩
      · exact h3.elim
    · refine ⟨_, l, rs, h, fun _ h => h, fun cx β w w0 F0 us R hd hI => ?_⟩
      unfold Dens at hd
      obtain ⟨v, vs', rfl, h1, h2⟩ := hd
      unfold Den at h1
      obtain ⟨rfl, h3⟩ := h1
      exact ⟨[_], vs', rfl, rfl, h2, (hI.mk_e.dat_nil).mk_s⟩
    · exact h.elim
  | .tree e, l, rs, K, h => by
    unfold mkK at h
    obtain ⟨x, l1, rs1, h1, hs1, h2⟩ := mkK_ok e h
    split at h1
    · rename_i c l2
      split at h1
      · rename_i k
        obtain ⟨t, s, u, xs, _, rs', h3, h4⟩ := takeRow_ok h1
        split at h3
        · rename_i hu
          cases hb : Nat.beq s (e.size + 1) with
          | false => rw [hb] at h3; exact h3.elim
          | true =>
            rw [hb] at h3
            have hue := eqU_ok hu
            subst hue
            refine ⟨_, l2, rs', h3, fun t ht => hs1 t (h4.mem_iff.2 (by simp [ht])), fun cx β w w0 F0 us R hd hI => ?_⟩
            obtain ⟨u1, u2, rfl, e1, e2, e3⟩ := h2 cx β w w0 F0 us R hd hI
            unfold Dens at e2
            obtain ⟨v, vs', rfl, d1, d2⟩ := e2
            unfold Den at d1
            obtain ⟨d1, _⟩ := d1
            subst d1
            have e3' : Inv w0 F0 w (rs1.map (Tok.res cx β) ++ (DatN u1 (enc e x) :: R)) := e3.perm List.perm_middle.symm
            obtain ⟨A, c, h5, h6⟩ := rw_dat (e3'.tperm h4)
            refine ⟨u1 ++ [β k], vs', by simp, by simp [U.size, e1], d2, ?_⟩
            have k5 := (Inv.swap h6.mk_e).mk_s
            rw [enc_tree]
            refine Inv.dn_app (k5.perm ?_)
            exact (List.Perm.cons _ List.perm_middle).trans (List.Perm.swap _ _ _)
        · exact h3.elim
      · refine ⟨_, l2, rs1, h1, hs1, fun cx β w w0 F0 us R hd hI => ?_⟩
        obtain ⟨u1, u2, rfl, e1, e2, e3⟩ := h2 cx β w w0 F0 us R hd hI
        unfold Dens at e2
        obtain ⟨v, vs', rfl, d1, d2⟩ := e2
        unfold Den at d1
        obtain ⟨rfl, _⟩ := d1
        have e3' : Inv w0 F0 w (rs1.map (Tok.res cx β) ++ (DatN u1 (enc e x) :: R)) := e3.perm List.perm_middle.symm
        refine ⟨u1 ++ [.slice none 0 0], vs', by simp, by simp [U.size, e1], d2, ?_⟩
        have k5 := (e3'.mk_e.dat_nil).mk_s
        rw [enc_tree]
        refine Inv.dn_app (k5.perm ?_)
        exact (List.Perm.cons _ List.perm_middle).trans (List.Perm.swap _ _ _)
      · exact h1.elim
    · exact h1.elim
theorem mkLK_ok {u : U} : ∀ {css : List (List SV)} {rs : List Tok} {K : List (El u) → List Tok → Prop}, mkLK u css rs K → ∃ xs rs', K xs rs' ∧ (∀ t ∈ rs', t ∈ rs) ∧ xs.length = css.length ∧
    ∀ (cx : Cx) (β : Nat → Value) (w w0 : World) (F0 : List Nat) (uss : List (List Value)) (R : List Res), F2 (fun cs us => Dens cx β cs us) css uss → Inv w0 F0 w (rs.map (Tok.res cx β) ++ R) →
    (∀ us ∈ uss, us.length = u.size) ∧ Inv w0 F0 w (DatN uss.flatten (xs.flatMap (enc u)) :: (rs'.map (Tok.res cx β) ++ R))
  | [], rs, K, h => ⟨[], rs, h, fun _ h => h, rfl, fun cx β w w0 F0 uss R hd hI => by cases hd; exact ⟨by simp, hI.mk_e⟩⟩
  | c :: cs, rs, K, h => by
    unfold mkLK at h
    obtain ⟨x, l, rs', h1, hs1, h2⟩ := mkK_ok u h
    split at h1
    · obtain ⟨xs, rs'', k1, hs2, k2, k3⟩ := mkLK_ok h1
      refine ⟨x :: xs, rs'', k1, fun t ht => hs1 t (hs2 t ht), by simp [k2], fun cx β w w0 F0 uss R hd hI => ?_⟩
      cases hd with
      | cons hd hds =>
        rename_i us uss
        obtain ⟨u1, u2, rfl, e1, e2, e3⟩ := h2 cx β w w0 F0 us R hd hI
        unfold Dens at e2
        subst e2
        obtain ⟨q1, q2⟩ := k3 cx β w w0 F0 uss (DatN u1 (enc u x) :: R) hds (e3.perm (List.perm_middle.symm))
        refine ⟨by simpa [e1] using q1, ?_⟩
        have k5 : Inv w0 F0 w (DatN u1 (enc u x) :: DatN uss.flatten (xs.flatMap (enc u)) :: (rs''.map (Tok.res cx β) ++ R)) := q2.perm (by
          refine (List.Perm.cons _ List.perm_middle).trans (List.Perm.swap _ _ _))
        simpa using k5.dn_app
    · exact h1.elim
end
end Go.Tr

/- The symbolic machine is right: operations that make or change things. -/
set_option linter.unusedSimpArgs false
set_option linter.unusedVariables false
namespace Go.Tr
open Go Go.RowKit
universe u
section
variable {cx : Cx} {β β' : Nat → Value} {P : Program} {ti : TI} {n : Nat} {a : Act} {env : Ev} {rs : List Tok} {fr : List Res} {w w' : World} {g : Option (Nat × Bool)} {v : SV}
theorem noName_ok {d : Nat} : ∀ {l : List Nat}, noName d l = true → ∀ g ∈ l, g % 1000000 ≠ d
  | [], _, g, hg => by simp at hg
  | x :: l, h, g, hg => by
    unfold noName at h
    cases hb : Nat.beq (x % 1000000) d with
    | true => rw [hb] at h; cases h
    | false =>
      rw [hb] at h
      rcases List.mem_cons.1 hg with rfl | hg
      · intro e; rw [e] at hb; simp at hb
      · exact noName_ok h g hg
theorem toknames_mem {g : Nat} : ∀ {t : Tok} {r : List Nat}, g ∈ t.names r ↔ g ∈ t.names [] ∨ g ∈ r
  | .cel h t cs, r => by
    simp only [Tok.names, List.mem_cons]
    rw [namesL_mem]
    constructor
    · rintro (h | h | h) <;> simp [h]
    · rintro ((h | h) | h) <;> simp [h]
  | .row h t s u xs us, r => by simp [Tok.names]
  | .map h u kv, r => by simp [Tok.names]
  | .nest h u xs us, r => by simp [Tok.names]
  | .dat h t s u xs, r => by simp [Tok.names]
theorem tokNames_mem {g : Nat} : ∀ {l : List Tok} {r : List Nat}, g ∈ tokNames l r ↔ (∃ t ∈ l, g ∈ t.names []) ∨ g ∈ r
  | [], r => by simp [tokNames]
  | t :: l, r => by
    simp only [tokNames]
    rw [toknames_mem, tokNames_mem (l := l)]
    simp only [List.mem_cons, exists_eq_or_imp]
    constructor
    · rintro (h | h | h) <;> simp [h]
    · rintro ((h | h) | h) <;> simp [h]
theorem envNames_mem {g : Nat} : ∀ {l : Ev} {r : List Nat}, g ∈ envNames l r ↔ (∃ t ∈ l, g ∈ t.2.names []) ∨ g ∈ r
  | [], r => by simp [envNames]
  | (t, v) :: l, r => by
    simp only [envNames]
    rw [names_mem, envNames_mem (l := l)]
    simp only [List.mem_cons, exists_eq_or_imp]
    constructor
    · rintro (h | h | h) <;> simp [h]
    · rintro ((h | h) | h) <;> simp [h]
def AgrD (d : Nat) (β β' : Nat → Value) : Prop := ∀ g, g % 1000000 ≠ d → β' g = β g
theorem fresh_tok {d : Nat} (h : freshD d env rs = true) : ∀ t ∈ rs, ∀ g ∈ t.names [], g % 1000000 ≠ d := fun t ht g hg =>
  noName_ok h g (envNames_mem.2 (.inr (tokNames_mem.2 (.inl ⟨t, ht, hg⟩))))
theorem fresh_env {d : Nat} (h : freshD d env rs = true) : ∀ t s, lk env t = some s → ∀ g ∈ s.names [], g % 1000000 ≠ d := fun t s hl g hg =>
  noName_ok h g (envNames_mem.2 (.inl ⟨_, lk_mem hl, hg⟩))
theorem tok_congr {t : Tok} (h : ∀ g ∈ t.names [], β' g = β g) {F : List Nat} (hp : (Tok.res cx β t).p w F) : (Tok.res cx β' t).p w F := by
  cases t with
  | cel g t cs =>
    obtain ⟨b, us, h1, h2, h3⟩ := hp
    refine ⟨b, us, ?_, h2.congr fun x hx => h x ?_, h3⟩
    · rw [h g (by simp [Tok.names])]; exact h1
    · simp only [Tok.names, List.mem_cons]; exact .inr hx
  | row g t s u xs us =>
    refine ⟨hp.1, ?_⟩
    rw [h g (by simp [Tok.names])]
    exact hp.2
  | map g u kv =>
    refine ⟨hp.1, ?_⟩
    rw [h g (by simp [Tok.names])]
    exact hp.2
  | nest g u xs us => exact hp
  | dat g t s u xs =>
    obtain ⟨h0, us, h1, h2, h3⟩ := hp
    refine ⟨h0, us, h1.flat0, h2, ?_⟩
    rw [h g (by simp [Tok.names])]
    exact h3
theorem f2_map {f k : Tok → Res} : ∀ {l : List Tok}, (∀ t ∈ l, ∀ F, (f t).p w F → (k t).p w F) → F2 (fun r r' => ∀ F, Res.p r w F → Res.p r' w F) (l.map f) (l.map k)
  | [], _ => .nil
  | t :: l, h => .cons (h t (by simp)) (f2_map fun t ht => h t (by simp [ht]))
theorem Inv.beta {w0 : World} {F0 : List Nat} (h : Inv w0 F0 w (rs.map (Tok.res cx β) ++ fr)) (hb : ∀ t ∈ rs, ∀ g ∈ t.names [], β' g = β g) : Inv w0 F0 w (rs.map (Tok.res cx β') ++ fr) :=
  h.imp2 (f2_map fun t ht F hp => tok_congr (hb t ht) hp)
def up (β : Nat → Value) (d : Nat) (x : Value) : Nat → Value := fun g => if g = d then x else β g
theorem up_same (d : Nat) (x : Value) : up β d x d = x := by simp [up]
theorem up_agr {d : Nat} (hd : d < 1000000) (x : Value) : AgrD d β (up β d x) := fun g hg => by
  have : g ≠ d := fun e => hg (by rw [e]; exact Nat.mod_eq_of_lt hd)
  simp [up, this]
theorem box1_ok {s : SV} {x : Value} (hb : box1 s = true) (h : Den cx β s x) : x.oneCell' = true := by
  cases s <;> first | cases hb | skip
  all_goals unfold Den at h
  · subst h; rfl
  · subst h; rfl
  · rw [h.1]; exact h.2
  · obtain ⟨A, c, rfl⟩ := h.slice; rfl
  · obtain ⟨b, o, rfl, _⟩ := h; rfl
  · obtain ⟨b, _, rfl⟩ := h; rfl
  · obtain ⟨_, A, n, c, rfl⟩ := h; rfl
  · obtain ⟨b, m, c, _, _, rfl⟩ := h; rfl
  · obtain ⟨vs, rfl, _⟩ := h; rfl
  · obtain ⟨rfl, A, c, rfl, _⟩ := h; rfl
  · obtain ⟨b, o, c, _, rfl⟩ := h; rfl
  · obtain ⟨_, r, rfl⟩ := h; rfl
  · obtain ⟨_, A, n, c, rfl⟩ := h; rfl
theorem boxL_ok : ∀ {l : List SV} {us : List Value}, boxL l = true → Dens cx β l us → us.all (·.oneCell') = true
  | [], us, _, h => by unfold Dens at h; subst h; rfl
  | s :: l, us, hb, h => by
    unfold Dens at h
    obtain ⟨v, vs', rfl, h1, h2⟩ := h
    unfold boxL at hb
    rw [Bool.and_eq_true] at hb
    rw [List.all_cons, box1_ok hb.1 h1, boxL_ok hb.2 h2]; rfl
/-- What an operation that may make things gives. -/
def GvS (P : Program) (cx : Cx) (β : Nat → Value) (fr : List Res) (a : Act) (w : World) (d : Nat) (o : Oper) (v : SV) (rs' : List Tok) : Prop :=
  (∃ x w' β', (execOp a.eval o).run P w = .ok (.value x) w' ∧ AgrD d β β' ∧ Den cx β' v x ∧ Inv cx.w0 cx.F0 w' (rs'.map (Tok.res cx β') ++ fr)) ∨
  (∃ f args, (execOp a.eval o).run P w = .ok (.enter f args) w ∧ Calls P f args w fun e w' => ∃ x β', e = .returned x ∧ AgrD d β β' ∧ Den cx β' v x ∧ Inv cx.w0 cx.F0 w' (rs'.map (Tok.res cx β') ++ fr))
theorem new_cel {d : Nat} {t : TypeId} {cs : List SV} {us : List Value} (hd : d < 1000000) (hf : freshD d env rs = true) (hH : Inv cx.w0 cx.F0 w (rs.map (Tok.res cx β) ++ fr)) (hc : ∀ g ∈ namesL cs [], g % 1000000 ≠ d) (hu : Dens cx β cs us) (h1 : us.all (·.oneCell') = true) :
    AgrD d β (up β d (.pointer (some ⟨w.heap.size, 0, none⟩))) ∧ Den cx (up β d (.pointer (some ⟨w.heap.size, 0, none⟩))) (.ptr d 0) (.pointer (some ⟨w.heap.size, 0, none⟩)) ∧
      Inv cx.w0 cx.F0 (w.alloc (.cells us.toArray t)) ((Tok.cel d t cs :: rs).map (Tok.res cx (up β d (.pointer (some ⟨w.heap.size, 0, none⟩)))) ++ fr) := by
  have hA := up_agr (β := β) hd (.pointer (some ⟨w.heap.size, 0, none⟩))
  refine ⟨hA, by unfold Den; exact ⟨_, up_same _ _, rfl⟩, ?_⟩
  have h2 := (hH.beta (β' := up β d (.pointer (some ⟨w.heap.size, 0, none⟩))) fun t ht g hg => hA g (fresh_tok hf t ht g hg)).alloc us t
  exact h2.weak fun F hp => ⟨F, fun _ h => h, w.heap.size, us, up_same _ _, hu.congr fun g hg => hA g (hc g hg), h1, hp⟩
theorem zero_names : ∀ {l : List SV}, l.all solid0 = true → namesL l [] = []
  | [], _ => rfl
  | s :: l, h => by
    rw [List.all_cons, Bool.and_eq_true] at h
    unfold namesL
    rw [zero_names h.2]
    cases s <;> first | rfl | cases h.1
theorem evs_names {x : Operand} {s : SV} (h : evs env g x = some s) {d : Nat} (hf : freshD d env rs = true) : ∀ q ∈ s.names [], q % 1000000 ≠ d := by
  intro q hq
  cases x with
  | tmp t =>
    unfold evs at h
    simp only at h
    cases hl : lk env t with
    | none => rw [hl] at h; simp at h
    | some u =>
      have hu := fresh_env hf t u hl
      rw [hl] at h
      cases u
      case gd d' b y =>
        simp only at h
        split at h
        · rename_i d1 b1
          cases hb : (Nat.beq d' d1 && (b == b1)) with
          | false => rw [hb] at h; cases h
          | true =>
            rw [hb] at h
            injection h with h
            subst h
            exact hu q (by simpa [SV.names] using hq)
        · cases h
      all_goals
        simp only [Option.some.injEq] at h
        subst h
        exact hu q hq
  | const c =>
    unfold evs at h
    simp only at h
    split at h <;> first | (simp only [Option.some.injEq] at h; subst h; simp [SV.names] at hq) | (simp at h)
  | func f =>
    unfold evs at h
    simp only [Option.some.injEq] at h
    subst h
    simp [SV.names, namesL] at hq
  | global i => simp [evs] at h
theorem Dens.cellsOf {s : SV} {x : Value} (h : Den cx β s x) (hn : (∃ l, s = .agg l) ∨ x.oneCell' = true) : ∃ us : List Value, x.cells = us.toArray ∧ Dens cx β (cellsOf s) us := by
  rcases hn with ⟨l, rfl⟩ | h1
  · unfold Den at h
    obtain ⟨vs, rfl, h2⟩ := h
    exact ⟨vs, rfl, h2⟩
  · refine ⟨[x], by rw [one_cells h1], ?_⟩
    cases s
    case agg l => unfold Den at h; obtain ⟨vs, rfl, _⟩ := h; cases h1
    all_goals exact Dens.one h
theorem stK_alloc (hti : tiOk P ti = true) {d : Nat} (hd : d < 1000000) (hf : freshD d env rs = true) (hH : Inv cx.w0 cx.F0 w (rs.map (Tok.res cx β) ++ fr)) {t : TypeId} {x : TInfo} (hl : lk ti t = some x) {dst : Option Nat} {ty : TypeId} {pos : String} {aft : Array Edge} {gd : Option (Nat × Bool)} :
    GvS P cx β fr a w d ⟨dst, .alloc t, ty, pos, aft, gd⟩ (.ptr d 0) (.cel d t (zeroT x) :: rs) := by
  obtain ⟨h1, _, h2⟩ := ti_zero hti hl
  obtain ⟨h3, h4⟩ := den0s_ok (cx := cx) (β := β) h1
  obtain ⟨k1, k2, k3⟩ := new_cel (t := t) hd hf hH (fun g hg => by rw [zero_names h1] at hg; simp at hg) h3 h4
  exact .inl ⟨_, _, _, r_alloc h2, k1, k2, k3⟩
theorem stK_box {d : Nat} (hd : d < 1000000) (hf : freshD d env rs = true) (hH : Inv cx.w0 cx.F0 w (rs.map (Tok.res cx β) ++ fr)) {t : TypeId} {x : Operand} {s : SV} {y : Value} (hx : a.eval x = y) (hs : Den cx β s y) {cs : List SV} {us : List Value} (hy : y.cells = us.toArray) (hc : Dens cx β cs us) (h1 : us.all (·.oneCell') = true) (hn : ∀ g ∈ namesL cs [], g % 1000000 ≠ d)
    {dst : Option Nat} {ty : TypeId} {pos : String} {aft : Array Edge} {gd : Option (Nat × Bool)} : GvS P cx β fr a w d ⟨dst, .box t x, ty, pos, aft, gd⟩ (.ptr d 0) (.cel d t cs :: rs) := by
  obtain ⟨k1, k2, k3⟩ := new_cel (t := t) hd hf hH hn hc h1
  exact .inl ⟨_, _, _, r_box hx hy, k1, k2, k3⟩

/-! ### rows -/
theorem new_row {d : Nat} {e : TypeId} {s : Nat} {u : U} {xs : List (El u)} {us : List Value} {rs' : List Tok} {cur : Array Value} {m : Nat} (hd : d < 1000000) (hn : ∀ t ∈ rs', ∀ g ∈ t.names [], g % 1000000 ≠ d) (hus : u.size = s) (hm : m ≤ maxLen) (hcur : cur.size = m * s) (hl : xs.length ≤ m) (htk : cur.toList.take (xs.length * s) = us)
    (hH : Inv cx.w0 cx.F0 w (DatN us (xs.flatMap (enc u)) :: (rs'.map (Tok.res cx β) ++ fr))) :
    AgrD d β (up β d (.slice (some ⟨w.heap.size, 0, none⟩) xs.length m)) ∧ Den cx (up β d (.slice (some ⟨w.heap.size, 0, none⟩) xs.length m)) (.sl d) (.slice (some ⟨w.heap.size, 0, none⟩) xs.length m) ∧
      Inv cx.w0 cx.F0 (w.alloc (.cells cur e)) ((Tok.row d e s u xs [] :: rs').map (Tok.res cx (up β d (.slice (some ⟨w.heap.size, 0, none⟩) xs.length m))) ++ fr) := by
  have hA := up_agr (β := β) hd (.slice (some ⟨w.heap.size, 0, none⟩) xs.length m)
  refine ⟨hA, by unfold Den; exact ⟨(up_same _ _).symm, _, _, _, rfl⟩, ?_⟩
  have h0 : Inv cx.w0 cx.F0 w (DatN us (xs.flatMap (enc u)) :: (rs'.map (Tok.res cx (up β d (.slice (some ⟨w.heap.size, 0, none⟩) xs.length m))) ++ fr)) := by
    have h1 : Inv cx.w0 cx.F0 w (rs'.map (Tok.res cx β) ++ (DatN us (xs.flatMap (enc u)) :: fr)) := hH.perm List.perm_middle.symm
    exact (h1.beta fun t ht g hg => hA g (hn t ht g hg)).perm List.perm_middle
  have h2 := h0.alloc cur.toList e
  simp only [Array.toArray_toList] at h2
  obtain ⟨F1, F2, ⟨rfl, h3⟩, ⟨h4, h5⟩, h6, h7⟩ := h2.take2
  refine h7 _ ([w.heap.size] ++ F2) (fun b hb => by simpa using hb) ⟨hus, F2, us, ?_, ?_⟩
  · rw [up_same]; rfl
  · rw [up_same]
    have hsz := h4.length
    refine ⟨⟨⟨?_, .inr ⟨w.heap.size, m, cur, rfl, Nat.zero_le _, by simpa using h3, hl, hm, hcur, htk⟩⟩, h4, h5, fun k hk hm => ?_⟩, List.nil_prefix⟩
    · rw [hsz, flat_enc_len, hus]
    · injection hk with hk
      subst hk
      exact h6 _ (by simp) hm
theorem fill_ok {s : Nat} : ∀ (vs : List Value) (uss : List (List Value)) (k : Nat) (cells : Array Value), F2 (fun v us => Value.cells v = List.toArray us ∧ us.length = s) vs uss → (k + vs.length) * s ≤ cells.size →
    ∃ r, Instr.fill (fun i => some (i * s, s)) cells ((vs.zipIdx k).map fun x => (x.2, x.1)) = some r ∧ r.toList = cells.toList.take (k * s) ++ uss.flatten ++ cells.toList.drop ((k + vs.length) * s)
  | [], [], k, cells, _, h => ⟨cells, rfl, by simp⟩
  | v :: vs, us :: uss, k, cells, .cons ⟨h1, h2⟩ h3, h => by
    simp only [List.length_cons] at h
    have hle : k * s + s ≤ cells.size := by
      have : (k + (vs.length + 1)) * s = k * s + s + vs.length * s := by rw [Nat.add_mul, Nat.add_mul]; omega
      omega
    have hz : (v.cells.zipIdx.foldl (fun cs (c, j) => cs.setIfInBounds (k * s + j) c) cells).toList = cells.toList.take (k * s) ++ us ++ cells.toList.drop (k * s + s) := by
      have := foldl_set us 0 (k * s) cells (by omega)
      rw [h1, ← Array.foldl_toList, Array.toList_zipIdx]
      simpa [h2] using this
    have hsz : (v.cells.zipIdx.foldl (fun cs (c, j) => cs.setIfInBounds (k * s + j) c) cells).size = cells.size := by
      rw [← Array.length_toList, hz]
      simp
      omega
    obtain ⟨r, k1, k2⟩ := fill_ok vs uss (k + 1) _ h3 (by rw [hsz]; have : k + 1 + vs.length = k + (vs.length + 1) := by omega
                                                          rw [this]; exact h)
    refine ⟨r, ?_, ?_⟩
    · rw [List.zipIdx_cons, List.map_cons]
      unfold Instr.fill
      simp only
      rw [if_neg (by rw [h1]; simp; omega)]
      exact k1
    · rw [k2, hz]
      have e1 : (k + 1) * s = k * s + s := by rw [Nat.add_mul]; omega
      have e2 : (k + 1 + vs.length) * s = k * s + s + vs.length * s := by rw [Nat.add_mul, Nat.add_mul]; omega
      have e3 : (k + (vs.length + 1)) * s = k * s + s + vs.length * s := by rw [Nat.add_mul, Nat.add_mul]; omega
      rw [e1, e2, List.length_cons, e3]
      have hlen : (cells.toList.take (k * s) ++ us).length = k * s + s := by
        rw [List.length_append, List.length_take, h2, Array.length_toList]; omega
      have t1 : (cells.toList.take (k * s) ++ us ++ cells.toList.drop (k * s + s)).take (k * s + s) = cells.toList.take (k * s) ++ us := by
        rw [← hlen]; exact List.take_left
      have t2 : (cells.toList.take (k * s) ++ us ++ cells.toList.drop (k * s + s)).drop (k * s + s + vs.length * s) = cells.toList.drop (k * s + s + vs.length * s) := by
        rw [List.drop_append, hlen, List.drop_drop, List.drop_eq_nil_of_le (by rw [hlen]; omega), List.nil_append]
        congr 1
        omega
      rw [t1, t2, List.flatten_cons]
      simp only [List.append_assoc]
theorem run_bslice {t e s m : Nat} (hE : ElemOk P t e s) {vs : List Value} {uss : List (List Value)} (hm : vs.length = m) (hb : m * s ≤ 16777216) (hv : F2 (fun v us => Value.cells v = List.toArray us ∧ us.length = s) vs uss) (w : World) :
    (Instr.buildSlice t m ((vs.zipIdx.map fun x => (x.2, x.1)).toArray)).run P w = .ok (.slice (some ⟨w.heap.size, 0, none⟩) m m) (w.alloc (.cells uss.flatten.toArray e)) := by
  obtain ⟨i, z, h1, h2, h3, h4, h5⟩ := hE.i
  have hp := hE.p
  have hfl : ∀ cells : Array Value, cells.size = m * s → Instr.fill (fun i => some (i * s, s)) cells (vs.zipIdx.map fun x => (x.2, x.1)) = some uss.flatten.toArray := fun cells hc => by
    obtain ⟨r, k1, k2⟩ := fill_ok vs uss 0 cells hv (by rw [Nat.zero_add, hm, hc]; exact Nat.le_refl _)
    rw [k1]
    congr 1
    apply Array.toList_inj.1
    rw [k2]
    simp [hm, hc]
  have hz : (zeroValue e).run P w = .ok z w := by simp [zeroValue, typeInfo, h1, h2]
  by_cases h0 : m * s = 0
  · simp [Instr.buildSlice, run_underlying hE.u, sizeOf, typeInfo, h1, h3, h0, hfl _ (show (Array.map (fun _ => (default : Value)) (Array.range 0)).size = m * s by simp [h0]), newRow, Array.range_zero']
    rw [show (Instr.fill (fun i => some (i * s, s)) #[] (vs.zipIdx.map fun x => (x.2, x.1))) = some uss.flatten.toArray from hfl #[] (by simp [h0])]
    simp [newRow]
  · have hn : ¬ (16777216 < m * s) := by omega
    simp [Instr.buildSlice, run_underlying hE.u, sizeOf, typeInfo, h1, h3, h0, hn, hz, newRow]
    rw [hfl _ (by simp)]
    simp [newRow]
end
end Go.Tr

/- The symbolic machine is right: slices made and grown, calls that take and give things, stores. -/
set_option linter.unusedSimpArgs false
set_option linter.unusedVariables false
namespace Go.Tr
open Go Go.RowKit
universe u
section
variable {cx : Cx} {β β' : Nat → Value} {P : Program} {ti : TI} {n : Nat} {a : Act} {env : Ev} {rs : List Tok} {fr : List Res} {w w' : World} {g : Option (Nat × Bool)} {v : SV}
  {dst : Option Nat} {ty : TypeId} {pos : String} {aft : Array Edge} {gd : Option (Nat × Bool)}
theorem partsL_ok (E : EnvS cx β n a env) (hg : gTrue a g) : ∀ {l : List (Nat × Operand)} {k : Nat} {css : List (List SV)}, partsL env g l k = some css →
    ∃ vs uss, l.map (fun x => (x.1, a.eval x.2)) = (vs.zipIdx k).map (fun x => (x.2, x.1)) ∧ vs.length = css.length ∧ F2 (fun v us => Value.cells v = List.toArray us) vs uss ∧ F2 (fun cs us => Dens cx β cs us) css uss
  | [], k, css, h => by
    unfold partsL at h
    injection h with h
    subst h
    exact ⟨[], [], rfl, rfl, .nil, .nil⟩
  | (i, x) :: l, k, css, h => by
    unfold partsL at h
    cases hb : Nat.beq i k with
    | false => rw [hb] at h; cases h
    | true =>
      rw [hb] at h
      have := beq_t hb
      subst this
      simp only [cond_true] at h
      cases h1 : evs env g x with
      | none => rw [h1] at h; simp at h
      | some s =>
        cases h2 : partsL env g l (i + 1) with
        | none => rw [h1, h2] at h; simp at h
        | some r =>
          rw [h1, h2] at h
          simp only [Option.some.injEq] at h
          subst h
          obtain ⟨y, h3, h4⟩ := evs_ok E hg h1
          obtain ⟨us, h5, h6⟩ := cellsOf_ok h4
          obtain ⟨vs, uss, k1, k2, k3, k4⟩ := partsL_ok E hg h2
          exact ⟨y :: vs, us :: uss, by rw [List.map_cons, k1, List.zipIdx_cons, List.map_cons, h3], by simp [k2], .cons h5 k3, .cons h6 k4⟩
theorem f2_both {α γ : Type u} {R : α → γ → Prop} {q : γ → Prop} : ∀ {l : List α} {m : List γ}, F2 R l m → (∀ b ∈ m, q b) → F2 (fun a b => R a b ∧ q b) l m
  | [], [], _, _ => .nil
  | _ :: _, _ :: _, .cons h1 h2, h => .cons ⟨h1, h _ (by simp)⟩ (f2_both h2 fun b hb => h b (by simp [hb]))
theorem sub_fresh {d : Nat} (hf : freshD d env rs = true) {rs' : List Tok} (hs : ∀ t ∈ rs', t ∈ rs) : ∀ t ∈ rs', ∀ g ∈ t.names [], g % 1000000 ≠ d := fun t ht => fresh_tok hf t (hs t ht)
/-- What an operation gives, in whatever state of that look. -/
def StOk (P : Program) (env : Ev) (rs : List Tok) (g : Option (Nat × Bool)) (d : Nat) (o : Oper) (v : SV) (rs' : List Tok) : Prop := ∀ (cx : Cx) (β : Nat → Value) (n : Nat) (fr : List Res) (a : Act) (w : World), EnvS cx β n a env → gTrue a g → Inv cx.w0 cx.F0 w (rs.map (Tok.res cx β) ++ fr) → GvS P cx β fr a w d o v rs'
theorem stK_bslice (hti : tiOk P ti = true) {d : Nat} (hd : d < 1000000) (hf : freshD d env rs = true) {t m e s : Nat} {u : U} {u0 : U} (hl : lk ti t = some (.sl e s u0)) (hus : u.size = s) {ps : Array (Nat × Operand)} {css : List (List SV)}
    (hp : partsL env g ps.toList 0 = some css) (hm : css.length = m) (hb : m * s ≤ 16777216) {K : List (El u) → List Tok → Prop} (h : mkLK u css rs K) : ∃ xs rs', K xs rs' ∧ StOk P env rs g d ⟨dst, .buildSlice t m ps, ty, pos, aft, gd⟩ (.sl d) (.row d e s u xs [] :: rs') := by
  obtain ⟨xs, rs', k1, k5, k2, k34⟩ := mkLK_ok h
  refine ⟨xs, rs', k1, fun cx β n fr a w E hg hH => ?_⟩
  obtain ⟨vs, uss, h1, h2, h3, h4⟩ := partsL_ok E hg hp
  obtain ⟨k3, k4⟩ := k34 cx β w _ _ uss fr h4 hH
  have hE := ti_el hti hl
  have hv := f2_both (q := fun us => us.length = s) h3 (fun us hu => (k3 us hu).trans hus)
  have hvl : vs.length = m := h2.trans hm
  have hps : (ps.map fun (i, x) => (i, a.eval x)) = (vs.zipIdx.map fun x => (x.2, x.1)).toArray := by
    apply Array.toList_inj.1
    rw [Array.toList_map]
    exact h1
  have hfl : uss.flatten.length = m * s := by
    have : ∀ {vs : List Value} {uss : List (List Value)}, F2 (fun v us => Value.cells v = List.toArray us ∧ us.length = s) vs uss → uss.flatten.length = vs.length * s := by
      intro vs uss h
      induction h with
      | nil => simp
      | cons h _ ih => simp [h.2, ih, Nat.add_mul]; omega
    rw [this hv, hvl]
  have hpos := hE.p
  have hml : m ≤ maxLen := by
    have : m * 1 ≤ m * s := Nat.mul_le_mul_left m hpos
    have : maxLen = 9223372036854775807 := rfl
    omega
  obtain ⟨q1, q2, q3⟩ := new_row (e := e) (cur := uss.flatten.toArray) (m := m) hd (sub_fresh hf k5) hus hml (by simpa using hfl) (by omega) (by
    rw [k2, hm, ← hfl]
    exact List.take_length) k4
  rw [k2, hm] at q1 q2 q3
  exact .inl ⟨_, _, _, r_bslice hps (run_bslice hE hvl hb hv w), q1, q2, q3⟩
theorem gr_src {w0 : World} {F0 : List Nat} {x : Value} {e s q : Nat} {es : List D} {R : List Res} (h : Inv w0 F0 w (Gr x e s q es :: R)) : ∃ A c us, x = .slice A q c ∧ Src w s A q us ∧ Inv w0 F0 w (DatN us es :: R) := by
  obtain ⟨F, ⟨bs, us, rfl, hg⟩, h3, _⟩ := h.take1
  have hI : Inv w0 F0 w (DatN us es :: R) := h3 _ bs (fun b hb => by simp [hb]) ⟨hg.tn, hg.own⟩
  have h1 := hg.tn.oneC
  rcases hg.row.2 with ⟨rfl, rfl⟩ | ⟨b, cap, cur, rfl, _, hb, hn, hc, hs, ht⟩
  · exact ⟨none, 0, us, rfl, ⟨hg.row.1, fun h => absurd h (by omega), h1⟩, hI⟩
  · refine ⟨_, cap, us, rfl, ⟨hg.row.1, fun _ => ⟨_, rfl, fun j u hu => ?_⟩, h1⟩, hI⟩
    have hadd : (⟨b, 0, none⟩ : Addr).add j = ⟨b, j, none⟩ := by unfold Addr.add; split <;> simp_all
    rw [hadd, cell_of_row w b j cur e (0, 0) hb]
    rw [← ht, List.getElem?_take] at hu
    split at hu
    · simpa using hu
    · cases hu
theorem Inv.to_x {w0 : World} {F0 : List Nat} {v : Value} {t : TypeId} {s m : Nat} {ds : List D} {R : List Res} (h : Inv w0 F0 w (Gr v t s m ds :: R)) : Inv w0 F0 w (Grx v t s m ds [] :: R) := h.weak fun F hp => ⟨F, fun _ h => h, gr_grx hp⟩
theorem Inv.of_x {w0 : World} {F0 : List Nat} {v : Value} {t : TypeId} {s m : Nat} {ds : List D} {pre : List Value} {R : List Res} (h : Inv w0 F0 w (Grx v t s m ds pre :: R)) : Inv w0 F0 w (Gr v t s m ds :: R) := h.weak fun F hp => ⟨F, fun _ h => h, grx_gr hp⟩
theorem row_gr {w0 : World} {F0 : List Nat} {k : Nat} {t : TypeId} {s : Nat} {u : U} {xs : List (El u)} {us : List Value} {R : List Res} (h : Inv w0 F0 w (Tok.res cx β (.row k t s u xs us) :: R)) : u.size = s ∧ Inv w0 F0 w (Grx (β k) t s xs.length (xs.flatMap (enc u)) us :: R) := by
  obtain ⟨F, h1, h2, h3⟩ := h.take1
  exact ⟨h1.1, h2 _ F (fun _ h => h) h1.2⟩
theorem appx_inv {w0 : World} {F0 : List Nat} {v : Value} {m tS e s q c : Nat} {ds es : List D} {us pre : List Value} {A : Option Addr} {R : List Res} (hE : ElemOk P tS e s) (H : Inv w0 F0 w (Grx v e s m ds pre :: DatN us es :: R)) (hsrc : Src w s A q us) (hb : m + q ≤ 1073741824) :
    ∃ v' w', (Builtin.append_ #[tS, tS] ty #[v, .slice A q c]).run P w = .ok v' w' ∧ (∃ A' c', v' = .slice A' (m + q) c') ∧ Inv w0 F0 w' (Grx v' e s (m + q) (ds ++ es) pre :: R) := by
  obtain ⟨F, ⟨F1, G1, rfl, ⟨bs, ug, rfl, hg, hpre⟩, ⟨F2, G2, rfl, ⟨k1, k2⟩, rfl, _⟩, hd⟩, _, h4⟩ := Inv.frame (pre := [Grx v e s m ds pre, DatN us es]) (rest := R) H
  rw [List.append_nil] at hd h4
  obtain ⟨v', w', hrun, h5, h6, h7, _⟩ := run_app_src (P := P) (ty := ty) hE 0 v m ug hg.row A q c us hsrc hb (Nat.zero_le _)
  have hdr : ∀ g, v.ownBlock = some g → g ∉ F2 := fun g hg' hm => hd g (by simp [mem_rowL, hg']) hm
  have hgr := hg.app k1 k2 (fun y hy hm => hd y (by simp [hy]) hm) hdr h5 h6 h7
  refine ⟨v', w', hrun, own_slice h5, h4 w' [_] ⟨⟨h6.os, h6.tape, h6.output, h6.size, fun b hb hn => h6.block b hb (fun e => hn (by simp [mem_rowL, ← e]))⟩, rowL v' ++ (bs ++ F2), ⟨_, [], by simp, ⟨bs ++ F2, _, rfl, hgr, hpre.trans (List.prefix_append _ _)⟩, rfl, by simp⟩, fun b hb => ?_⟩⟩
  simp only [List.mem_append, mem_rowL] at hb ⊢
  rcases hb with hb | hb | hb
  · rcases h7 with h8 | h8
    · exact .inl (.inl (.inl (by rw [← h8]; exact hb)))
    · rw [h8] at hb; injection hb with hb; exact .inr (by omega)
  · exact .inl (.inl (.inr hb))
  · exact .inl (.inr hb)
/-- Two rows, one behind the other. -/
theorem app_ok {d : Nat} (hd : d < 1000000) {t e s : Nat} (hE : ElemOk P t e s) {u : U} {xs ys : List (El u)} {x y : Operand} {v1 v2 : Value} {rs' : List Tok} (hn : ∀ t ∈ rs', ∀ g ∈ t.names [], g % 1000000 ≠ d) (hus : u.size = s) (h1 : a.eval x = v1) (h2 : a.eval y = v2) {us : List Value} {A : Option Addr} {c q : Nat} (hy : v2 = .slice A q c) (hq : ys.length = q) (hb : xs.length + ys.length ≤ 1073741824) (hs : Src w s A q us)
    {pre : List Value} (hI : Inv cx.w0 cx.F0 w (Grx v1 e s xs.length (xs.flatMap (enc u)) pre :: DatN us (ys.flatMap (enc u)) :: (rs'.map (Tok.res cx β) ++ fr))) :
    GvS P cx β fr a w d ⟨dst, .call ⟨.builtin .append, #[x, y], #[t, t]⟩, ty, pos, aft, gd⟩ (.sl d) (.row d e s u (xs ++ ys) pre :: rs') := by
  subst hy
  obtain ⟨v', w', hrun, ⟨A', c', rfl⟩, hI'⟩ := appx_inv (ty := ty) (c := c) hE hI hs (by omega)
  have hA := up_agr (β := β) hd (.slice A' (xs.length + q) c')
  refine .inl ⟨_, w', up β d (.slice A' (xs.length + q) c'), r_app h1 h2 hrun, hA, by unfold Den; exact ⟨(up_same _ _).symm, _, _, _, rfl⟩, ?_⟩
  have h0 : Inv cx.w0 cx.F0 w' (rs'.map (Tok.res cx β) ++ (Grx (.slice A' (xs.length + q) c') e s (xs.length + q) (xs.flatMap (enc u) ++ ys.flatMap (enc u)) pre :: fr)) := hI'.perm List.perm_middle.symm
  have h3 := (h0.beta (β' := up β d (.slice A' (xs.length + q) c')) fun t ht g hg => hA g (hn t ht g hg)).perm List.perm_middle
  refine h3.weak fun F hp => ⟨F, fun _ h => h, hus, ?_⟩
  rw [up_same, List.flatMap_append, List.length_append, hq]
  exact hp
theorem flat_nil : ∀ (u : U) (x : El u) {bs : List Nat} {us : List Value}, flatU u = true → TN w (enc u x) bs us → bs = []
  | .int _, x, bs, us, _, h | .bool, x, bs, us, _, h | .str, x, bs, us, _, h | .any, x, bs, us, _, h => by
    obtain ⟨b1, b2, u, us', rfl, rfl, h2, h3⟩ := TN.cons.1 h
    obtain ⟨_, rfl, _⟩ := T1.v.1 h2
    obtain ⟨_, rfl⟩ := TN.nil.1 h3
    rfl
  | .sl _, x, bs, us, hf, h => by cases hf
  | .tree _, x, bs, us, hf, h => by cases hf
  | .pair a b, x, bs, us, hf, h => by
    unfold flatU at hf
    rw [Bool.and_eq_true] at hf
    obtain ⟨b1, b2, u1, u2, rfl, rfl, h1, h2⟩ := TN.append.1 h
    rw [flat_nil a x.1 hf.1 h1, flat_nil b x.2 hf.2 h2]; rfl
theorem flats_nil (u : U) (hf : flatU u = true) : ∀ (xs : List (El u)) {bs : List Nat} {us : List Value}, TN w (xs.flatMap (enc u)) bs us → bs = []
  | [], bs, us, h => (TN.nil.1 h).2
  | x :: xs, bs, us, h => by
    rw [List.flatMap_cons] at h
    obtain ⟨b1, b2, u1, u2, rfl, rfl, h1, h2⟩ := TN.append.1 h
    rw [flat_nil u x hf h1, flats_nil u hf xs h2]; rfl
/-- A read-only slice of flat data, to be copied. -/
theorem ro_src {R : List Res} {u : U} {ys : List (El u)} {v : Value} (hf : flatU u = true) (h : Ro1 cx.w0 cx.F0 (.sl ys.length (ys.flatMap (enc u))) v) (H : Inv cx.w0 cx.F0 w R) : ∃ A c us, v = .slice A ys.length c ∧ Src w u.size A ys.length us ∧ Inv cx.w0 cx.F0 w (DatN us (ys.flatMap (enc u)) :: R) := by
  obtain ⟨A, c, rfl⟩ := h.slice
  obtain ⟨bs, h1⟩ := h.now H
  obtain ⟨us, bs', h2, h3, _⟩ := h1.src (flat_enc_len u ys)
  have := flats_nil u hf ys h3
  subst this
  refine ⟨A, c, us, rfl, h2, H.new (ss := [DatN us (ys.flatMap (enc u))]) ⟨Chg.refl _ _, [], ?_, by simp⟩⟩
  exact ⟨[], [], rfl, ⟨h3, Own.nil _ _⟩, rfl, by simp⟩
theorem svs_ok {u : U} : ∀ (ys : List (El u)) {us : List Value}, RoN cx.w0 cx.F0 (List.flatMap (enc u) ys) us → Dens cx β (List.flatMap (svOf u) ys) us
  | [], us, h => by
    obtain ⟨bs, h1, _⟩ := h
    obtain ⟨rfl, _⟩ := TN.nil.1 h1
    unfold List.flatMap Dens
    rfl
  | y :: ys, us, h => by
    rw [List.flatMap_cons] at h ⊢
    obtain ⟨u1, u2, rfl, h1, h2⟩ := RoN.append h
    exact (svOf_ok u y h1).app (svs_ok ys h2)
theorem tn_raw {us : List Value} (h : us.all (·.oneCell') = true) : TN w (us.map D.v) [] us := by
  induction us with
  | nil => exact TN.done
  | cons u us ih =>
    simp only [List.all_cons, Bool.and_eq_true] at h
    exact TN.v_mk h.1 (ih h.2)
/-- A read-only slice whose cells are to be copied. -/
theorem ro_cells {R : List Res} {u : U} {ys : List (El u)} {v : Value} (h : Ro1 cx.w0 cx.F0 (.sl ys.length (ys.flatMap (enc u))) v) (H : Inv cx.w0 cx.F0 w R) : ∃ A c us, v = .slice A ys.length c ∧ Src w u.size A ys.length us ∧ Dens cx β (List.flatMap (svOf u) ys) us := by
  obtain ⟨A, c, rfl⟩ := h.slice
  obtain ⟨bs, h1, h2⟩ := h
  unfold T1 at h1
  obtain ⟨A', c', he, hn, hc, h1⟩ := h1
  injection he with hA _ _
  subst hA
  rcases h1 with ⟨e1, e2, rfl⟩ | ⟨h0, b, off, us, bs', rfl, rfl, hb, hca, ht⟩
  · have hy : ys = [] := List.eq_nil_of_length_eq_zero e1
    subst hy
    exact ⟨A, c, [], rfl, ⟨by simp, by simp, rfl⟩, by unfold List.flatMap Dens; rfl⟩
  · have hk : w.heap[b]? = cx.w0.heap[b]? := H.chg.other b hb (h2 b (by simp))
    refine ⟨_, c, us, rfl, ⟨by rw [ht.length, flat_enc_len], fun _ => ⟨_, rfl, fun j x hx => ?_⟩, ht.oneC⟩, svs_ok ys ⟨bs', ht, fun y hy => h2 y (by simp [hy])⟩⟩
    have hadd : (⟨b, off, none⟩ : Addr).add j = ⟨b, off + j, none⟩ := by unfold Addr.add; split <;> simp_all
    rw [hadd, World.cell?_of_block hk]
    exact hca j x hx
/-- Data that is read only behind a row of such data. -/
theorem appd_ok {d : Nat} (hd : d < 1000000) {t e s : Nat} (hE : ElemOk P t e s) {u : U} {xs ys : List (El u)} {x y : Operand} {v1 v2 : Value} {rs' : List Tok} (hn : ∀ t ∈ rs', ∀ g ∈ t.names [], g % 1000000 ≠ d) (hus : u.size = s) (h1 : a.eval x = v1) (h2 : a.eval y = v2) (hb : xs.length + ys.length ≤ 1073741824)
    {us : List Value} (hD : Dens cx β (List.flatMap (svOf u) xs) us) (hro : Ro1 cx.w0 cx.F0 (.sl ys.length (ys.flatMap (enc u))) v2) (h1c : us.all (·.oneCell') = true)
    (hI : Inv cx.w0 cx.F0 w (Grx v1 e s xs.length (us.map D.v) [] :: (rs'.map (Tok.res cx β) ++ fr))) :
    GvS P cx β fr a w d ⟨dst, .call ⟨.builtin .append, #[x, y], #[t, t]⟩, ty, pos, aft, gd⟩ (.sl d) (.dat d e s u (xs ++ ys) :: rs') := by
  obtain ⟨A, c, us2, rfl, j2, j3⟩ := ro_cells (β := β) hro hI
  have hI1 : Inv cx.w0 cx.F0 w (DatN us2 (us2.map D.v) :: (Grx v1 e s xs.length (us.map D.v) [] :: (rs'.map (Tok.res cx β) ++ fr))) := hI.new (ss := [DatN us2 (us2.map D.v)]) ⟨Chg.refl _ _, [], ⟨[], [], rfl, ⟨tn_raw j2.one, Own.nil _ _⟩, rfl, by simp⟩, by simp⟩
  rw [hus] at j2
  obtain ⟨v', w', hrun, ⟨A', c', rfl⟩, hI'⟩ := appx_inv (ty := ty) (c := c) hE hI1.swap j2 hb
  have hA := up_agr (β := β) hd (.slice A' (xs.length + ys.length) c')
  refine .inl ⟨_, w', up β d (.slice A' (xs.length + ys.length) c'), r_app h1 h2 hrun, hA, by unfold Den; exact ⟨(up_same _ _).symm, _, _, _, rfl⟩, ?_⟩
  have h0 : Inv cx.w0 cx.F0 w' (rs'.map (Tok.res cx β) ++ (Grx (.slice A' (xs.length + ys.length) c') e s (xs.length + ys.length) (us.map D.v ++ us2.map D.v) [] :: fr)) := hI'.perm List.perm_middle.symm
  have h3 := (h0.beta (β' := up β d (.slice A' (xs.length + ys.length) c')) fun t ht g hg => hA g (hn t ht g hg)).perm List.perm_middle
  refine h3.weak fun F hp => ⟨F, fun _ h => h, hus, us ++ us2, ?_, by rw [List.all_append, h1c, j2.one]; rfl, ?_⟩
  · rw [List.flatMap_append]
    exact (hD.flat0 (β' := _)).app j3.flat0
  · rw [up_same, List.length_append, List.map_append]
    exact hp
theorem appR_ok (hti : tiOk P ti = true) {d : Nat} (hd : d < 1000000) (hf : freshD d env rs = true) {args : Array Operand} {tys : Array TypeId} {K : SV → List Tok → Prop}
    (h : appR P ti env rs g d ⟨.builtin .append, args, tys⟩ K) : ∃ v rs', K v rs' ∧ StOk P env rs g d ⟨dst, .call ⟨.builtin .append, args, tys⟩, ty, pos, aft, gd⟩ v rs' := by
  unfold appR at h
  simp only at h
  split at h
  · rename_i x y t t' hx hy
    have har : args = #[x, y] := by simpa using congrArg List.toArray hx
    have hty : tys = #[t, t'] := by simpa using congrArg List.toArray hy
    subst har hty
    cases hb : Nat.beq t t' with
    | false => rw [hb] at h; exact h.elim
    | true =>
      rw [hb] at h
      have := beq_t hb
      subst this
      simp only [cond_true] at h
      split at h
      · rename_i e s u q k hl hx hy
        obtain ⟨e1, s1, u1, xs, us1, rs1, h3, p1⟩ := takeRow_ok h
        obtain ⟨e2, s2, u2, ys, _, rs2, h4, p2⟩ := takeRow_ok h3
        cases hc : (Nat.beq e1 e && Nat.beq s1 s && Nat.beq s2 s) with
        | false => rw [hc] at h4; exact h4.elim
        | true =>
          rw [hc] at h4
          simp only [Bool.and_eq_true] at hc
          have c1 := beq_t hc.1.1
          have c2 := beq_t hc.1.2
          have c3 := beq_t hc.2
          subst c1 c2 c3
          simp only [cond_true] at h4
          split at h4
          · rename_i hu
            have hue := eqU_ok hu
            subst hue
            obtain ⟨hle, hK⟩ := h4
            refine ⟨_, _, hK, fun cx β n fr a w E hg hH => ?_⟩
            obtain ⟨v1, h1, d1⟩ := evs_ok E hg hx
            obtain ⟨v2, h2, d2⟩ := evs_ok E hg hy
            unfold Den at d1 d2
            obtain ⟨d1, _⟩ := d1
            obtain ⟨d2, _⟩ := d2
            obtain ⟨k1, k2⟩ := row_gr (hH.tperm p1)
            obtain ⟨_, k3⟩ := row_gr (((Inv.swap ((k2.perm ((List.Perm.cons _ ((p2.map _).append_right fr))))))))
            obtain ⟨A, c, us, j1, j2, j3⟩ := gr_src k3.of_x
            refine app_ok hd (ti_el hti hl) (sub_fresh hf fun t ht => p1.mem_iff.2 (List.mem_cons_of_mem _ (p2.mem_iff.2 (List.mem_cons_of_mem _ ht)))) k1 h1 h2 (d2.trans j1) rfl hle j2 ?_
            rw [d1]
            exact Inv.swap j3
          · exact h4.elim
      · rename_i e s u k hl hx hy
        obtain ⟨e2, s2, u2, ys, _, rs2, h4, p2⟩ := takeRow_ok h
        cases hc : Nat.beq s2 s with
        | false => rw [hc] at h4; exact h4.elim
        | true =>
          rw [hc] at h4
          have c1 := beq_t hc
          subst c1
          obtain ⟨hle, hK⟩ := h4
          refine ⟨_, _, hK, fun cx β n fr a w E hg hH => ?_⟩
          obtain ⟨v1, h1, d1⟩ := evs_ok E hg hx
          obtain ⟨v2, h2, d2⟩ := evs_ok E hg hy
          unfold Den at d1 d2
          obtain ⟨d1, _⟩ := d1
          obtain ⟨d2, _⟩ := d2
          obtain ⟨k1, k2⟩ := row_gr (hH.tperm p2)
          obtain ⟨A, c, us, j1, j2, j3⟩ := gr_src k2.of_x
          exact app_ok (P := P) (β := β) (fr := fr) (w := w) (dst := dst) (ty := ty) (pos := pos) (aft := aft) (gd := gd) (xs := ([] : List (El u2))) (ys := ys) hd (ti_el hti hl) (sub_fresh hf fun t ht => p2.mem_iff.2 (List.mem_cons_of_mem _ ht)) k1 h1 h2 (d2.trans j1) rfl (by simpa using hle) j2 (by
            rw [d1]
            exact (j3.gr_nil _ _).to_x)
      · rename_i e s u q e2 ys hl hx hy
        cases hc : (flatU e2 && Nat.beq e2.size s) with
        | false =>
          rw [hc] at h
          simp only [cond_false] at h
          split at h
          · obtain ⟨e1, s1, u1, xs, rs1, h3, p1⟩ := takeDat_ok h
            cases hd2 : (Nat.beq e1 e && Nat.beq s1 s) with
            | false => rw [hd2] at h3; exact h3.elim
            | true =>
              rw [hd2] at h3
              rw [Bool.and_eq_true] at hd2
              have c1 := beq_t hd2.1
              have c2 := beq_t hd2.2
              subst c1 c2
              simp only [cond_true] at h3
              split at h3
              · rename_i hu
                have hue := eqU_ok hu
                subst hue
                obtain ⟨hle, hK⟩ := h3
                refine ⟨_, _, hK, fun cx β n fr a w E hg hH => ?_⟩
                obtain ⟨v1, h1, d1⟩ := evs_ok E hg hx
                obtain ⟨v2, h2, d2⟩ := evs_ok E hg hy
                unfold Den at d1 d2
                obtain ⟨d1, _⟩ := d1
                obtain ⟨F, ⟨q1, us, q2, q3, q4⟩, q5, _⟩ := Inv.take1 (r := Tok.res cx β (.dat q e1 s1 e2 xs)) (hH.tperm p1)
                refine appd_ok hd (ti_el hti hl) (sub_fresh hf fun t ht => p1.mem_iff.2 (List.mem_cons_of_mem _ ht)) q1 h1 h2 hle q2 d2 q3 ?_
                rw [d1]
                exact q5 _ F (fun _ h => h) q4
              · exact h3.elim
          · obtain ⟨e1, s1, u1, xs, us1, rs1, h3, p1⟩ := takeRow_ok h
            split at h3
            · cases hd2 : ((Nat.beq e1 e && Nat.beq s1 s) && Nat.beq e2.size s) with
              | false => rw [hd2] at h3; exact h3.elim
              | true =>
                rw [hd2] at h3
                simp only [Bool.and_eq_true] at hd2
                have c1 := beq_t hd2.1.1
                have c2 := beq_t hd2.1.2
                have c3 := beq_t hd2.2
                subst c1 c2
                obtain ⟨hle, hK⟩ := h3
                refine ⟨_, _, hK, fun cx β n fr a w E hg hH => ?_⟩
                obtain ⟨v1, h1, d1⟩ := evs_ok E hg hx
                obtain ⟨v2, h2, d2⟩ := evs_ok E hg hy
                unfold Den at d1 d2
                obtain ⟨d1, _⟩ := d1
                obtain ⟨k1, k2⟩ := row_gr (hH.tperm p1)
                refine appd_ok (xs := ([] : List (El e2))) (us := []) hd (ti_el hti hl) (sub_fresh hf fun t ht => p1.mem_iff.2 (List.mem_cons_of_mem _ ht)) c3 h1 h2 (by simpa using hle) (by unfold List.flatMap Dens; rfl) d2 rfl ?_
                rw [d1]
                exact (k2.of_x).to_x
            · exact h3.elim
        | true =>
          rw [hc] at h
          rw [Bool.and_eq_true] at hc
          obtain ⟨e1, s1, u1, xs, us1, rs1, h3, p1⟩ := takeRow_ok h
          cases hd2 : (Nat.beq e1 e && Nat.beq s1 s) with
          | false => rw [hd2] at h3; exact h3.elim
          | true =>
            rw [hd2] at h3
            rw [Bool.and_eq_true] at hd2
            have c1 := beq_t hd2.1
            have c2 := beq_t hd2.2
            have c3 := beq_t hc.2
            simp only [cond_true] at h3
            split at h3
            · rename_i hu
              have hue := eqU_ok hu
              subst hue
              subst c1 c2
              obtain ⟨hle, hK⟩ := h3
              refine ⟨_, _, hK, fun cx β n fr a w E hg hH => ?_⟩
              obtain ⟨v1, h1, d1⟩ := evs_ok E hg hx
              obtain ⟨v2, h2, d2⟩ := evs_ok E hg hy
              unfold Den at d1 d2
              obtain ⟨d1, _⟩ := d1
              obtain ⟨k1, k2⟩ := row_gr (hH.tperm p1)
              obtain ⟨A, c, us, j1, j2, j3⟩ := ro_src hc.1 d2 k2
              refine app_ok hd (ti_el hti hl) (sub_fresh hf fun t ht => p1.mem_iff.2 (List.mem_cons_of_mem _ ht)) k1 h1 h2 j1 rfl hle (c3 ▸ j2) ?_
              rw [d1]
              exact Inv.swap j3
            · exact h3.elim
      · rename_i e s u e2 ys hl hx hy
        cases hc : (flatU e2 && Nat.beq e2.size s) with
        | false =>
          rw [hc] at h
          simp only [cond_false] at h
          cases hc2 : Nat.beq e2.size s with
          | false => rw [hc2] at h; exact h.elim
          | true =>
            rw [hc2] at h
            obtain ⟨hle, hK⟩ := h
            refine ⟨_, _, hK, fun cx β n fr a w E hg hH => ?_⟩
            obtain ⟨v1, h1, d1⟩ := evs_ok E hg hx
            obtain ⟨v2, h2, d2⟩ := evs_ok E hg hy
            unfold Den at d1 d2
            obtain ⟨d1, _⟩ := d1
            refine appd_ok (xs := ([] : List (El e2))) (us := []) hd (ti_el hti hl) (sub_fresh hf fun t ht => ht) (beq_t hc2) h1 h2 (by simpa using hle) (by unfold List.flatMap Dens; rfl) d2 rfl ?_
            rw [d1]
            exact (hH.gr_nil _ _).to_x
        | true =>
          rw [hc] at h
          rw [Bool.and_eq_true] at hc
          have c3 := beq_t hc.2
          obtain ⟨hle, hK⟩ := h
          refine ⟨_, _, hK, fun cx β n fr a w E hg hH => ?_⟩
          obtain ⟨v1, h1, d1⟩ := evs_ok E hg hx
          obtain ⟨v2, h2, d2⟩ := evs_ok E hg hy
          unfold Den at d1 d2
          obtain ⟨d1, _⟩ := d1
          obtain ⟨A, c, us, j1, j2, j3⟩ := ro_src hc.1 d2 hH
          exact app_ok (P := P) (β := β) (fr := fr) (w := w) (dst := dst) (ty := ty) (pos := pos) (aft := aft) (gd := gd) (xs := ([] : List (El e2))) (ys := ys) hd (ti_el hti hl) (sub_fresh hf fun t ht => ht) c3 h1 h2 j1 rfl (by simpa using hle) (c3 ▸ j2) (by
            rw [d1]
            exact (j3.gr_nil _ _).to_x)
      · rename_i e s u q e2 ys hl hx hy
        cases hc : (flatU e2 && Nat.beq e2.size s) with
        | false =>
          rw [hc] at h
          simp only [cond_false] at h
          obtain ⟨e1, s1, u1, xs, us1, rs1, h3, p1⟩ := takeRow_ok h
          split at h3
          · cases hd2 : ((Nat.beq e1 e && Nat.beq s1 s) && Nat.beq e2.size s) with
            | false => rw [hd2] at h3; exact h3.elim
            | true =>
              rw [hd2] at h3
              simp only [Bool.and_eq_true] at hd2
              have c1 := beq_t hd2.1.1
              have c2 := beq_t hd2.1.2
              have c3 := beq_t hd2.2
              subst c1 c2
              obtain ⟨hle, hK⟩ := h3
              refine ⟨_, _, hK, fun cx β n fr a w E hg hH => ?_⟩
              obtain ⟨v1, h1, d1⟩ := evs_ok E hg hx
              obtain ⟨v2, h2, d2⟩ := evs_ok E hg hy
              unfold Den at d1 d2
              obtain ⟨d1, _⟩ := d1
              obtain ⟨k1, k2⟩ := row_gr (hH.tperm p1)
              refine appd_ok (xs := ([] : List (El e2))) (us := []) hd (ti_el hti hl) (sub_fresh hf fun t ht => p1.mem_iff.2 (List.mem_cons_of_mem _ ht)) c3 h1 h2 (by simpa using hle) (by unfold List.flatMap Dens; rfl) d2.1 rfl ?_
              rw [d1]
              exact (k2.of_x).to_x
          · exact h3.elim
        | true =>
          rw [hc] at h
          rw [Bool.and_eq_true] at hc
          obtain ⟨e1, s1, u1, xs, us1, rs1, h3, p1⟩ := takeRow_ok h
          cases hd2 : (Nat.beq e1 e && Nat.beq s1 s) with
          | false => rw [hd2] at h3; exact h3.elim
          | true =>
            rw [hd2] at h3
            rw [Bool.and_eq_true] at hd2
            have c1 := beq_t hd2.1
            have c2 := beq_t hd2.2
            have c3 := beq_t hc.2
            simp only [cond_true] at h3
            split at h3
            · rename_i hu
              have hue := eqU_ok hu
              subst hue
              subst c1 c2
              obtain ⟨hle, hK⟩ := h3
              refine ⟨_, _, hK, fun cx β n fr a w E hg hH => ?_⟩
              obtain ⟨v1, h1, d1⟩ := evs_ok E hg hx
              obtain ⟨v2, h2, d2⟩ := evs_ok E hg hy
              unfold Den at d1 d2
              obtain ⟨d1, _⟩ := d1
              obtain ⟨d2, _⟩ := d2
              obtain ⟨k1, k2⟩ := row_gr (hH.tperm p1)
              obtain ⟨A, c, us, j1, j2, j3⟩ := ro_src hc.1 d2 k2
              refine app_ok hd (ti_el hti hl) (sub_fresh hf fun t ht => p1.mem_iff.2 (List.mem_cons_of_mem _ ht)) k1 h1 h2 j1 rfl hle (c3 ▸ j2) ?_
              rw [d1]
              exact Inv.swap j3
            · exact h3.elim
      · exact h.elim
  · exact h.elim

/-! ### calls that take and give things -/
theorem tkK_ok : ∀ {n : Nat} {todo : List Nat} {rs : List Tok} {i : Nat} {K : List Tok → List (Nat × Nat) → List Tok → Prop}, tkK n todo rs i K → ∃ tk σ rest, K tk σ rest ∧ rs.Perm (tk ++ rest) ∧ σ.length = tk.length ∧ ∀ (j : Nat) (t : Tok), tk[j]? = some t → σ[j]? = some (t.name, i + j)
  | 0, todo, rs, i, K, h => by unfold tkK at h; exact h.elim
  | n + 1, [], rs, i, K, h => by unfold tkK at h; exact ⟨[], [], rs, h, List.Perm.refl _, rfl, fun j t h => by simp at h⟩
  | n + 1, g :: todo, rs, i, K, h => by
    unfold tkK at h
    rcases takeTok_ok h with ⟨x, l, h1, h2, h3⟩ | h1
    · obtain ⟨tk, σ, rest, k1, k2, k3, k4⟩ := tkK_ok h1
      refine ⟨x :: tk, (g, i) :: σ, rest, k1, h3.trans (k2.cons _), by simp [k3], fun j t hj => ?_⟩
      cases j with
      | zero => simp at hj; subst hj; simp [h2]
      | succ j =>
        have := k4 j t (by simpa using hj)
        simp only [List.getElem?_cons_succ, this]
        congr 2
        omega
    · exact tkK_ok h1
theorem backS_mem {d c g : Nat} : ∀ {σ : List (Nat × Nat)} {i : Nat}, (c, g) ∈ backS d σ i → (g, c) ∈ σ ∨ ∃ m, m ≤ 9 ∧ c = i + σ.length + m ∧ g = d + m * 1000000
  | [], i, h => by
    unfold backS at h
    simp only [List.mem_cons, Prod.mk.injEq, List.not_mem_nil, or_false] at h
    rcases h with ⟨rfl, rfl⟩ | ⟨rfl, rfl⟩ | ⟨rfl, rfl⟩ | ⟨rfl, rfl⟩ | ⟨rfl, rfl⟩ | ⟨rfl, rfl⟩ | ⟨rfl, rfl⟩ | ⟨rfl, rfl⟩ | ⟨rfl, rfl⟩ | ⟨rfl, rfl⟩
    · exact .inr ⟨0, by omega, by simp, by simp⟩
    · exact .inr ⟨1, by omega, by simp, by simp⟩
    · exact .inr ⟨2, by omega, by simp, by simp⟩
    · exact .inr ⟨3, by omega, by simp, by simp⟩
    · exact .inr ⟨4, by omega, by simp, by simp⟩
    · exact .inr ⟨5, by omega, by simp, by simp⟩
    · exact .inr ⟨6, by omega, by simp, by simp⟩
    · exact .inr ⟨7, by omega, by simp, by simp⟩
    · exact .inr ⟨8, by omega, by simp, by simp⟩
    · exact .inr ⟨9, by omega, by simp, by simp⟩
  | (g0, c0) :: σ, i, h => by
    unfold backS at h
    rcases List.mem_cons.1 h with h | h
    · cases h; exact .inl (by simp)
    · rcases backS_mem h with h | ⟨m, h1, h2, h3⟩
      · exact .inl (List.mem_cons_of_mem _ h)
      · exact .inr ⟨m, h1, by rw [h2, List.length_cons]; omega, h3⟩
theorem appTK_ok : ∀ {l e : List Tok} {K : List Tok → Prop}, appTK l e K → K (l ++ e)
  | [], e, K, h => h
  | x :: l, e, K, h => appTK_ok (l := l) (K := fun l' => K (x :: l')) h
theorem fcK_ok {d f : Nat} (hd : d < 1000000) (hf : freshD d env rs = true) {vs l : List SV} {y : Operand} {xs : List Operand} (hy : evs env g y = some (.fn f l)) (hvs : evsL env g xs = some vs) {K : SV → List Tok → Prop} (h : fcK P rs d f (vs ++ l) K) {tys : Array TypeId} :
    ∃ v rs', K v rs' ∧ StOk P env rs g d ⟨dst, .call ⟨.value y, xs.toArray, tys⟩, ty, pos, aft, gd⟩ v rs' := by
  unfold fcK at h
  obtain ⟨tk, σ, rest, h, hp, hσ, hσ2⟩ := tkK_ok h
  obtain ⟨vs', h, hv⟩ := rnLK_ok h
  obtain ⟨tk', h, htl, ht⟩ := rnTLK_ok h
  obtain ⟨r, ts', ⟨hok, hq⟩, h⟩ := h
  obtain ⟨r', h, hr⟩ := rnK_ok h
  obtain ⟨ts'', h, _, hts⟩ := rnTLK_ok h
  have h := appTK_ok h
  refine ⟨r', ts'' ++ rest, h, fun cx β n fr a w E hg hH => ?_⟩
  have hx0 := evsL_ok E hg hvs
  obtain ⟨fv, e1, e2⟩ := evs_ok E hg hy
  unfold Den at e2
  obtain ⟨cs, rfl, e3⟩ := e2
  have hx := hx0.app e3
  -- names on both sides
  let βc : Nat → Value := fun c => match σ[c - 10000]? with | some (g, _) => β g | none => β c
  have hσm : ∀ g c, (g, c) ∈ σ → ∃ j t, tk[j]? = some t ∧ g = t.name ∧ c = 10000 + j := fun g c hm => by
    obtain ⟨j, hj⟩ := List.getElem?_of_mem hm
    have hlt : j < tk.length := by rw [← hσ]; exact (List.getElem?_eq_some_iff.1 hj).1
    have h1 := hσ2 j tk[j] (List.getElem?_eq_getElem hlt)
    rw [hj] at h1
    injection h1 with h1
    injection h1 with h2 h3
    exact ⟨j, _, List.getElem?_eq_getElem hlt, h2, h3⟩
  have hβc : ∀ j t, tk[j]? = some t → βc (10000 + j) = β t.name := fun j t hj => by
    show (match σ[10000 + j - 10000]? with | some (g, _) => β g | none => β (10000 + j)) = _
    rw [Nat.add_sub_cancel_left, hσ2 j t hj]
  have hR : RnB true σ β βc := fun g g' hl => by
    rcases hl with hl | ⟨h1, _⟩
    · obtain ⟨j, t, h1, rfl, rfl⟩ := hσm g g' (lk_mem hl)
      exact hβc j t h1
    · cases h1
  have hI : Inv cx.w0 cx.F0 w (tk'.map (Tok.res cx βc) ++ (rest.map (Tok.res cx β) ++ fr)) := by
    have h1 := hH.tperm hp
    rw [List.map_append, List.append_assoc] at h1
    exact h1.imp2 (forall2_imp (fun _ _ h F => (h F).1) (ht cx β βc hR w))
  refine .inr ⟨f, _, r_callv e1 rfl hok, ?_⟩
  refine (hq cx βc w _ _ hI ((hv cx β βc hR _).1 hx)).mono fun e w' hpost => ?_
  obtain ⟨x, βc', rfl, hag, hdr, hI'⟩ := hpost
  let β2 : Nat → Value := fun g => if g % 1000000 = d then βc' (10000 + tk.length + g / 1000000) else β g
  have hA : AgrD d β β2 := fun g hg => by show (if g % 1000000 = d then _ else β g) = β g; rw [if_neg hg]
  have hR2 : RnB true (backS d σ 10000) βc' β2 := fun c g hl => by
    rcases hl with hl | ⟨h1, _⟩
    · rcases backS_mem (lk_mem hl) with hm | ⟨m, h1, h2, h3⟩
      · obtain ⟨j, t, k1, rfl, rfl⟩ := hσm g c hm
        have hlt : j < tk.length := (List.getElem?_eq_some_iff.1 k1).1
        have hmem : t ∈ rs := hp.mem_iff.2 (List.mem_append_left _ (List.mem_of_getElem? k1))
        have hne := fresh_tok hf t hmem t.name (by cases t <;> simp [Tok.names, Tok.name])
        rw [hA _ hne, hag (10000 + j) (by omega) (by rw [htl]; omega), hβc j t k1]
      · show (if g % 1000000 = d then βc' (10000 + tk.length + g / 1000000) else β g) = _
        have e1 : g % 1000000 = d := by rw [h3]; omega
        have e2 : g / 1000000 = m := by rw [h3]; omega
        rw [if_pos e1, e2, h2, hσ]
    · cases h1
  refine ⟨x, β2, rfl, hA, (hr cx βc' β2 hR2 x).1 hdr, ?_⟩
  rw [List.map_append, List.append_assoc]
  have h1 := hI'.imp2 (forall2_imp (fun _ _ h F => (h F).1) (hts cx βc' β2 hR2 w'))
  have h2 : Inv cx.w0 cx.F0 w' (rest.map (Tok.res cx β) ++ (ts''.map (Tok.res cx β2) ++ fr)) := h1.perm (by
    rw [← List.append_assoc, ← List.append_assoc]
    exact List.perm_append_comm.append_right fr)
  have h3 := h2.beta (β' := β2) fun t ht g hg => hA g (sub_fresh hf (fun t ht => hp.mem_iff.2 (List.mem_append_right _ ht)) t ht g hg)
  exact h3.perm (by
    rw [← List.append_assoc, ← List.append_assoc]
    exact List.perm_append_comm.append_right fr)
end
end Go.Tr
