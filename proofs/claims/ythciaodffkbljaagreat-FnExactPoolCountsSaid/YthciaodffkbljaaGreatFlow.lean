/- Regions whose order is open, by the flow of things between their operations. No program in it. -/
import Derived.Test.YthciaodffkbljaaGreatSo
set_option linter.unusedSimpArgs false
set_option linter.unusedVariables false
namespace Go.Tr
open Go Go.RowKit
def Res.emp : Res where
  p _ F := F = []
  keep := fun h _ => h
  lt := fun h b hb => by cases h; simp at hb
instance : Inhabited Res := ⟨Res.emp⟩
structure Step where
  dep : List Nat := []
  val : List Value → Value
  ok : List Value → Prop := fun _ => True
  rd : List Nat := []
def Step.c (v : Value) : Step := { dep := [], val := fun _ => v, rd := [] }
structure Lab where
  dep : List Nat := []
  res : List Value → Res
  prod : Option Nat := none
  cons : Option Nat := none
def Step.v (s : Step) (ν : Nat → Value) : Value := s.val (s.dep.map ν)
def Step.k (s : Step) (ν : Nat → Value) : Prop := s.ok (s.dep.map ν)
def Lab.r (s : Lab) (ν : Nat → Value) : Res := s.res (s.dep.map ν)
structure Flow where
  steps : List Step
  labs : List Lab
  anc : List (List Nat)
def hasO (x : Option (List Nat)) (j : Nat) : Bool := match x with | some l => l.contains j | none => false
def stepGood (fl : Flow) (ops : Array Oper) (keys : List Nat) (n i : Nat) (o : Oper) (A : List Nat) (s : Step) : Bool :=
  o.after.all (fun e => !Region.binds .any e || Nat.blt e.on i) &&
  A.all (fun j => o.after.any fun e => Region.binds .any e && (e.on == j || hasO fl.anc[e.on]? j)) &&
  s.dep.all (fun j => j == i || A.contains j) &&
  s.rd.all (fun ℓ => match fl.labs[ℓ]? with
    | some b => b.prod.all (fun p => A.contains p) && b.cons.all (fun c => hasO fl.anc[c]? i)
    | none => false) &&
  (match o.dst with
    | some d => !keys.contains d && Nat.blt d n && (List.range ops.size).all (fun j => j == i || (ops[j]?).bind (·.dst) != some d)
    | none => true)
def labGood (fl : Flow) (m : Nat) (b : Lab) : Bool :=
  (match b.prod with
    | none => b.dep.isEmpty
    | some p => Nat.blt p m && b.dep.all (fun j => j == p || hasO fl.anc[p]? j)) &&
  (match b.cons with
    | none => true
    | some c => Nat.blt c m && !(b.prod == some c) && b.prod.all (fun p => hasO fl.anc[c]? p))
def Flow.good (fl : Flow) (ops : Array Oper) (keys : List Nat) (n : Nat) : Bool :=
  fl.steps.length == ops.size && fl.anc.length == ops.size &&
  (List.range ops.size).all (fun i => match ops[i]?, fl.anc[i]?, fl.steps[i]? with
    | some o, some A, some s => stepGood fl ops keys n i o A s
    | _, _, _ => false) &&
  fl.labs.all (labGood fl ops.size)
def Flow.r (fl : Flow) (ν : Nat → Value) (ℓ : Nat) : Res := match fl.labs[ℓ]? with | some b => b.r ν | none => Res.emp
def Flow.av (fl : Flow) (L : Array Bool) (ℓ : Nat) : Bool := match fl.labs[ℓ]? with
  | some b => b.prod.all (fun p => L.getD p false) && b.cons.all (fun c => !L.getD c false)
  | none => false
def Flow.isRd (s : Step) (ℓ : Nat) : Bool := s.rd.contains ℓ
def Flow.isCons (fl : Flow) (i ℓ : Nat) : Bool := match fl.labs[ℓ]? with | some b => b.cons == some i | none => false
def Flow.isProd (fl : Flow) (i ℓ : Nat) : Bool := match fl.labs[ℓ]? with | some b => b.prod == some i | none => false
def Flow.isIni (fl : Flow) (ℓ : Nat) : Bool := match fl.labs[ℓ]? with | some b => b.prod.isNone | none => false
def Flow.isFin (fl : Flow) (ℓ : Nat) : Bool := match fl.labs[ℓ]? with | some b => b.cons.isNone | none => false
section
variable {P : Program} {ops : Array Oper} {fl : Flow} {l0 : List (Nat × Value)} {n : Nat} {w0 : World} {F0 : List Nat}
/-- What an operation gives. -/
def Gives (P : Program) (ops : Array Oper) (o : Oper) (a : Act) (w : World) (K : Value → World → Prop) : Prop :=
  (Region.wanted o (yielded ops a.tmps) = true ∧ ((∃ v w', (execOp a.eval o).run P w = .ok (.value v) w' ∧ K v w') ∨ (∃ w', (execOp a.eval o).run P w = .ok .skip w' ∧ K undef w') ∨
    ∃ f args, (execOp a.eval o).run P w = .ok (.enter f args) w ∧ Calls P f args w fun e w' => ∃ v, e = .returned v ∧ K v w')) ∨
  (Region.wanted o (yielded ops a.tmps) = false ∧ K undef w)
theorem Gives.wpOp {Q : Exit → Act → World → Prop} {o : Oper} {a : Act} {w : World} {K : Value → World → Prop} {K' : Act → World → Prop} {i : Nat} (h : Gives P ops o a w K) (hi : ops[i]? = some o) (hk : ∀ v w', K v w' → K' (a.put o.dst v) w') : wpOp P ops Q i K' a w := by
  unfold Go.wpOp
  simp only [hi]
  rcases h with ⟨hw, h⟩ | ⟨hw, h⟩
  · rw [if_pos hw]
    refine .inl ?_
    unfold Oper.wp
    rcases h with ⟨v, w', hr, h⟩ | ⟨w', hr, h⟩ | ⟨f, args, hr, h⟩
    · rw [hr]; exact hk _ _ h
    · rw [hr]; exact hk _ _ h
    · rw [hr]
      refine h.mono fun e w' h => ?_
      obtain ⟨v, rfl, h⟩ := h
      exact hk _ _ h
  · rw [if_neg (by simp [hw])]
    exact hk _ _ h
theorem filter3 {α : Type} (p p1 p2 p3 : α → Bool) : ∀ (l : List α), (∀ x ∈ l, (p x = (p1 x || p2 x || p3 x)) ∧ (p1 x && p2 x) = false ∧ (p1 x && p3 x) = false ∧ (p2 x && p3 x) = false) → (l.filter p).Perm (l.filter p1 ++ (l.filter p2 ++ l.filter p3))
  | [], _ => by simp
  | x :: l, h => by
    have ih := filter3 p p1 p2 p3 l (fun y hy => h y (by simp [hy]))
    obtain ⟨h0, h12, h13, h23⟩ := h x (by simp)
    cases e1 : p1 x <;> cases e2 : p2 x <;> cases e3 : p3 x <;> simp [e1, e2, e3] at h0 h12 h13 h23
    · simpa [List.filter_cons, e1, e2, e3, h0] using ih
    · simp only [List.filter_cons, e1, e2, e3, h0, if_true, Bool.false_eq_true, if_false]
      refine (ih.cons x).trans ?_
      rw [← List.append_assoc, ← List.append_assoc]
      exact List.perm_middle.symm
    · simp only [List.filter_cons, e1, e2, e3, h0, if_true, Bool.false_eq_true, if_false, List.cons_append]
      exact (ih.cons x).trans List.perm_middle.symm
    · simp only [List.filter_cons, e1, e2, e3, h0, if_true, Bool.false_eq_true, if_false, List.cons_append]
      exact ih.cons x
theorem hasO_spec {x : Option (List Nat)} {j : Nat} (h : hasO x j = true) : ∃ l, x = some l ∧ j ∈ l := by
  unfold hasO at h
  cases x with
  | none => simp at h
  | some l => exact ⟨l, rfl, by simpa using h⟩
def AllTo (p : Nat → Prop) : Nat → Prop
  | 0 => True
  | k + 1 => AllTo p k ∧ p k
theorem AllTo.zero (p : Nat → Prop) : AllTo p 0 := trivial
theorem AllTo.snoc {p : Nat → Prop} {k : Nat} (h : AllTo p k) (h2 : p k) : AllTo p (k + 1) := ⟨h, h2⟩
end
end Go.Tr
