/- Slices that grow: one call's own row, element by element. No program in it. -/
import Derived.Test.YthelpioccjjgfaaQuiet
import Derived.Laws.AppendOwn
set_option linter.unusedSimpArgs false
set_option linter.unusedVariables false
namespace Go.Tr
open Go Go.RowKit

/-- t is a type of slices, e its elements' type, of s cells. -/
structure ElemOk (P : Program) (t e : TypeId) (s : Nat) : Prop where
  u : P.underlying t = some (.slice e)
  i : ∃ i z, P.info? e = some i ∧ i.zero = some z ∧ i.size = s ∧ z.cells.size = s ∧ i.bytes ≤ 1000
  p : 0 < s
theorem ElemOk.of {P : Program} {t e : TypeId} {s : Nat} (hu : P.underlying t = some (.slice e)) (h : (P.info? e).map (fun i => (i.zero.map (·.cells.size), i.size, decide (i.bytes ≤ 1000))) = some (some s, s, true)) (hp : 0 < s) : ElemOk P t e s := by
  refine ⟨hu, ?_, hp⟩
  cases hi : P.info? e with
  | none => simp [hi] at h
  | some i =>
    rw [hi] at h
    simp only [Option.map_some, Option.some.injEq, Prod.mk.injEq, decide_eq_true_eq] at h
    obtain ⟨h1, h2, h3⟩ := h
    cases hz : i.zero with
    | none => rw [hz] at h1; simp at h1
    | some z => rw [hz] at h1; exact ⟨i, z, rfl, hz, h2, by simpa using h1, h3⟩
section
variable {P : Program} {w : World}
theorem ownsRow_ext {base : Nat} {e : TypeId} {s : Nat} {v : Value} {n : Nat} {xs : List Value} (h : w.ownsRow base e s v n xs) {w1 : World} (h1 : Ext w w1) : w1.ownsRow base e s v n xs := by
  refine ⟨h.1, ?_⟩
  rcases h.2 with hn | ⟨g, cap, cur, rfl, hb, hgg, rest⟩
  · exact .inl hn
  · exact .inr ⟨g, cap, cur, rfl, hb, (h1.block g (Array.getElem?_eq_some_iff.1 hgg).1).trans hgg, rest⟩
/-- To show a contract of a call that makes memory. -/
theorem ext_start {f : FuncId} {args : Array Value} {R : Ending → World → Prop} (h : ∀ e : ExtOf w, Calls P f args e.to fun x w' => ∃ e' : ExtOf w, w' = e'.to ∧ R x w') : Calls P f args w fun x w' => Ext w w' ∧ R x w' :=
  (h ⟨w, Below.refl _ _⟩).mono fun _ _ ⟨e', hw, hr⟩ => ⟨hw ▸ e'.h, hr⟩
/-- append of elements that lie in a new block. -/
theorem wpList_app {ops : Array Oper} {rest : List Oper} {o : Oper} {a : Act} {Q : Exit → Act → World → Prop} (hgd : o.guard = none) (s x : Operand) (t : TypeId)
    (ho : o.op = .call { callee := .builtin .append, args := #[s, x], argTypes := #[t, t] }) {e sz : Nat} (hE : ElemOk P t e sz) (base : Nat) (v : Value) (n : Nat) (xs : List Value) (hs : a.eval s = v) (hown : w.ownsRow base e sz v n xs)
    (g m c : Nat) (cs : Array Value) (hx : a.eval x = .slice (some ⟨g, 0, none⟩) m c) (hg : w.heap[g]? = some (.cells cs e (0, 0))) (hl : cs.size = m * sz) (h1 : cs.toList.all (·.oneCell') = true) (hb : n + m ≤ 1073741824) (hbase : base ≤ w.heap.size)
    (h : ∀ v' w', w'.ownsRow base e sz v' (n + m) (xs ++ cs.toList) → w.grownBy w' v.ownBlock → wpList P ops Q rest (a.put o.dst v') w') : wpList P ops Q (o :: rest) a w := by
  obtain ⟨i, z, hi, hz, hsz, hzs, hby⟩ := hE.i
  refine wpList_append_own _ hgd s x t ho base e i z sz i.bytes hE.u hi hz hsz rfl hzs hE.p v n xs hs hown ⟨g, 0, none⟩ m c cs.toList hx (by simpa using hl) (fun j u hu => ?_) (List.all_eq_true.1 h1) ?_ ?_ hbase (fun v' w' h2 h3 _ => h v' w' h2 h3)
  · have hadd : (⟨g, 0, none⟩ : Addr).add j = ⟨g, j, none⟩ := by unfold Addr.add; split <;> simp_all
    rw [hadd, cell_of_row w g j cs e (0, 0) hg]
    simpa using hu
  · unfold maxLen; omega
  · calc (n + m) * i.bytes ≤ 1073741824 * 1000 := Nat.mul_le_mul hb hby
      _ ≤ 140737488355328 := by omega
theorem Ext.grown {w0 w w' : World} {row : Option Nat} (h : Ext w0 w) (hg : w.grownBy w' row) (hr : ∀ k, row = some k → w0.heap.size ≤ k) : Ext w0 w' := Below.grown h hg h.size hr
theorem own_row_ge {base : Nat} {e : TypeId} {s : Nat} {v : Value} {n : Nat} {xs : List Value} (h : w.ownsRow base e s v n xs) : ∀ k, v.ownBlock = some k → base ≤ k := fun k hk => (h.lt k hk).1
/-- A row of elements without slices reads as a list. -/
theorem ownsRow_t1 {base : Nat} {e : TypeId} {s : Nat} {v : Value} {n : Nat} {xs : List Value} (h : w.ownsRow base e s v n xs) {ds : List D} {bs : List Nat} (ht : TN w ds bs xs) : ∃ A c bs', v = .slice A n c ∧ T1 w (.sl n ds) bs' (.slice A n c) := by
  rcases h.2 with ⟨rfl, rfl⟩ | ⟨g, cap, cur, rfl, hb, hgg, hnc, hcm, hcs, htk⟩
  · have h0 : xs = [] := List.eq_nil_of_length_eq_zero (by simpa using h.1)
    subst h0
    have hd : ds = [] := List.eq_nil_of_length_eq_zero (by simpa using ht.length.symm)
    subst hd
    exact ⟨none, 0, [], rfl, T1.empty none⟩
  · rcases Nat.eq_zero_or_pos n with rfl | hn
    · have h0 : xs = [] := List.eq_nil_of_length_eq_zero (by simpa using h.1)
      subst h0
      have hd : ds = [] := List.eq_nil_of_length_eq_zero (by simpa using ht.length.symm)
      subst hd
      refine ⟨some ⟨g, 0, none⟩, cap, [], rfl, ?_⟩
      unfold T1
      exact ⟨_, _, rfl, hnc, hcm, .inl ⟨rfl, rfl, rfl⟩⟩
    · refine ⟨some ⟨g, 0, none⟩, cap, g :: bs, rfl, ?_⟩
      unfold T1
      refine ⟨_, _, rfl, hnc, hcm, .inr ⟨hn, g, 0, xs, bs, rfl, rfl, (Array.getElem?_eq_some_iff.1 hgg).1, fun j u hu => ?_, ht⟩⟩
      rw [Nat.zero_add, cell_of_row w g j cur e (0, 0) hgg]
      rw [← htk, List.getElem?_take] at hu
      split at hu
      · simpa using hu
      · cases hu
end
end Go.Tr
