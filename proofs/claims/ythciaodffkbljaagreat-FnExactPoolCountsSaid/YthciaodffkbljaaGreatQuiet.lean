/- Functions that leave old memory as it is: contracts that hold in every world that a world has become by new blocks alone. No program in it. -/
import Derived.Test.YthciaodffkbljaaGreatData
set_option linter.unusedSimpArgs false
set_option linter.unusedVariables false
namespace Go.Tr
open Go Go.RowKit

/-- w1 is what w has become by new blocks alone. -/
abbrev Ext (w w1 : World) : Prop := Below w.heap.size w w1
theorem Ext.trans {a b c : World} (h : Ext a b) (k : Ext b c) : Ext a c := Below.trans h (Below.mono k h.size)

/-- A function's contract: whatever the world has become, it returns v, and makes new blocks alone. -/
def QC (P : Program) (w : World) (f : FuncId) (args : Array Value) (v : Value) : Prop :=
  ∀ W, Ext w W → Calls P f args W fun x w' => x = .returned v ∧ Ext W w'
section
variable {P : Program} {w : World} {f : FuncId} {args : Array Value} {v : Value}
theorem QC.ext (h : QC P w f args v) {w1 : World} (h1 : Ext w w1) : QC P w1 f args v := fun W hW => h W (h1.trans hW)
theorem QC.at_ (h : QC P w f args v) (e : ExtOf w) : Calls P f args e.to fun x w' => x = .returned v ∧ ∃ e' : ExtOf w, w' = e'.to :=
  (h e.to e.h).mono fun _ w' ⟨hx, hb⟩ => ⟨hx, ⟨w', Ext.trans e.h hb⟩, rfl⟩
theorem QC.run (h : QC P w f args v) : Calls P f args w fun x w' => x = .returned v ∧ Ext w w' := h w (Below.refl _ _)
/-- To show a contract: in a world that is written as an extension. -/
theorem quiet_start (h : ∀ e : ExtOf w, Calls P f args e.to fun x w' => x = .returned v ∧ ∃ e' : ExtOf w, w' = e'.to) : Calls P f args w fun x w' => x = .returned v ∧ Ext w w' :=
  (h ⟨w, Below.refl _ _⟩).mono fun _ _ ⟨a, e', b⟩ => ⟨a, b ▸ e'.h⟩
end
theorem wp_region_ext0 {P : Program} {id : Nat} {Q : Exit → Act → World → Prop} {a : Act} {w : World} (e0 : ExtOf w) {l : List Oper} (hm : P.follows .mixedOrders = true) (hB : Region.lexB .any l.toArray = true)
    (h : wpQuiet P l.toArray (fun w' => ∃ e : ExtOf w, w' = e.to) (fun a' => ∀ e : ExtOf w, Q .normal a' e.to) l a) : (Code.region id l.toArray true).wp P Q a e0.to :=
  wp_region_quiet (C := fun w' => ∃ e : ExtOf w, w' = e.to) hm hB ⟨⟨e0.to.drew, e0.h.drew⟩, rfl⟩ (by
    have e : (fun a' => ∀ e : ExtOf w, Q .normal a' e.to) = (fun a' => ∀ w', (∃ e : ExtOf w, w' = e.to) → Q .normal a' w') := by
      funext a'
      exact propext ⟨fun h w' ⟨e, he⟩ => he ▸ h e, fun h e => h _ ⟨e, rfl⟩⟩
    rw [e] at h
    simpa using h)

/-- What a cell holds, whatever the world becomes by new blocks. -/
abbrev Kn (w : World) (b o : Nat) (v : Value) : Prop := ∀ e : ExtOf w, e.to.cell? ⟨b, o, none⟩ = some v
theorem Kn.ext {w w1 : World} {b o : Nat} {v : Value} (h : Kn w b o v) (h1 : Ext w w1) : Kn w1 b o v := fun e => h ⟨e.to, h1.trans e.h⟩
/-- Data ds lies from an address on. -/
structure PtAt (w : World) (b o : Nat) (ds : List D) (bs : List Nat) : Prop where
  lt : b < w.heap.size
  ex : ∃ us, cellsAt w b o us ∧ TN w ds bs us
theorem PtAt.ext {w w1 : World} {b o ds bs} (h : PtAt w b o ds bs) (h1 : Ext w w1) : PtAt w1 b o ds bs := by
  obtain ⟨hlt, us, hc, ht⟩ := h
  exact ⟨Nat.lt_of_lt_of_le hlt h1.size, us, hc.keep (h1.block b hlt), ht.below h1⟩
theorem cellsAt.always {w : World} {b o : Nat} {us : List Value} (hlt : b < w.heap.size) (hc : cellsAt w b o us) (j : Nat) (u : Value) (hu : us[j]? = some u) : Kn w b (o + j) u :=
  fun e => (e.cell b (o + j) hlt).trans (hc j u hu)

/-- Element k of a slice lies at its place. -/
theorem T1.elem {α : Type} {f : α → List D} {s : Nat} (hs : ∀ x, (f x).length = s) {w : World} {xs : List α} {bs : List Nat} {A : Option Addr} {n n' c : Nat} (h : T1 w (.sl n (xs.flatMap f)) bs (.slice A n' c)) (hm : Hid (xs.length = n)) {k : Nat} (hk : k < n) :
    ∃ b off x bs', A = some ⟨b, off, none⟩ ∧ Hid (xs[k]? = some x) ∧ PtAt w b (off + k * s) (f x) bs' := by
  obtain ⟨_, b, off, p1, p2, p3, us, hA, _, hb, hc, ht⟩ := T1.at_ hs h hm.out hk
  exact ⟨b, off, _, p2, hA, List.getElem?_eq_getElem (hm.out ▸ hk), hb, us, hc, ht⟩
theorem T1.nle {w : World} {n n' c : Nat} {ds bs A} (h : T1 w (.sl n ds) bs (.slice A n' c)) : n ≤ 9223372036854775807 := by
  obtain ⟨A', c', he, h1, h2⟩ := h.slice
  have : maxLen = 9223372036854775807 := rfl
  omega
/-- A new box. -/
theorem rebase_box {P : Program} {c : Code} {Q : Exit → Act → World → Prop} {a : Act} {w : World} (e : ExtOf w) {g : Nat} (hg : e.to.heap.size = g) {cs : Array Value} {t : TypeId}
    (h : ∀ (w1 : World) (e1 : ExtOf w1), Ext w w1 → w.heap.size ≤ g → g < w1.heap.size → cellsAt w1 g 0 cs.toList → c.wp P Q a e1.to) : c.wp P Q a (e.to.alloc (.cells cs t)) := by
  subst hg
  have h1 : Ext w (e.to.alloc (.cells cs t)) := e.h.alloc e.h.size _
  refine h (e.to.alloc (.cells cs t)) ⟨_, Below.refl _ _⟩ h1 e.h.size (by simp) (fun j u hu => ?_)
  rw [Nat.zero_add, cell_of_row _ _ j cs t (0, 0) (heap_alloc_new e.to _)]
  simpa using hu
theorem row_cell {w : World} {g i : Nat} {cs : Array Value} {t : TypeId} {v : Value} (h : w.heap[g]? = some (.cells cs t (0, 0))) (hi : cs[i]? = some v) : w.cell? ⟨g, i, none⟩ = some v := (cell_of_row w g i cs t (0, 0) h).trans hi
theorem PtAt.box {w : World} {g : Nat} {us : List Value} {ds bs} (hlt : g < w.heap.size) (hc : cellsAt w g 0 us) (ht : TN w ds bs us) : PtAt w g 0 ds bs := ⟨hlt, us, hc, ht⟩
theorem ExtOf.old {w w1 : World} (h : Ext w w1) (e : ExtOf w1) : ∃ e' : ExtOf w, e.to = e'.to := ⟨⟨e.to, h.trans e.h⟩, rfl⟩
/-- A part of a struct at a pointer. -/
theorem PtAt.part {w : World} {b o : Nat} {ds1 ds2 ds3 : List D} {bs : List Nat} (h : PtAt w b o (ds1 ++ (ds2 ++ ds3)) bs) : ∃ bs', PtAt w b (o + ds1.length) ds2 bs' := by
  obtain ⟨hlt, us, hc, ht⟩ := h
  obtain ⟨b1, b2, u1, u2, rfl, _, h1, h2⟩ := TN.append.1 ht
  obtain ⟨b3, b4, u3, u4, rfl, _, h3, _⟩ := TN.append.1 h2
  refine ⟨b3, hlt, u3, fun j u hu => ?_, h3⟩
  have hj := (List.getElem?_eq_some_iff.1 hu).1
  have := hc (u1.length + j) u (by rw [List.getElem?_append_right (by omega), Nat.add_sub_cancel_left, List.getElem?_append_left hj]; exact hu)
  rwa [← Nat.add_assoc, h1.length] at this
theorem Hid_rfl {α : Type} {a : α} : Hid (a = a) := rfl
theorem intE_pt {w : World} {x : Int} {b o bs} (h : PtAt w b o (intE x) bs) : Kn w b o (.int .i64 x) := by
  obtain ⟨hlt, us, hc, ht⟩ := h
  obtain ⟨rfl, rfl⟩ := intE_us ht
  exact hc.always hlt 0 _ rfl
/-- f is true of all numbers below n. -/
def allTo (n : Nat) (f : Nat → Bool) : Bool := (List.range n).all f
theorem allTo_succ {n : Nat} {f : Nat → Bool} (h : Hid (allTo n f = true)) (hn : f n = true) : Hid (allTo (n + 1) f = true) := by
  show _ = _
  have h := h.out
  unfold allTo at *
  rw [List.range_succ, List.all_append, h]
  simp [hn]
theorem allTo_f {n k : Nat} {f : Nat → Bool} (hk : k < n) (h : f k = false) : allTo n f = false := by
  unfold allTo
  rw [Bool.eq_false_iff]
  intro ha
  rw [List.all_eq_true] at ha
  rw [ha k (by simpa using hk)] at h
  cases h
theorem allTo_0 (f : Nat → Bool) : allTo 0 f = true := rfl
theorem allTo_of {n : Nat} {f : Nat → Bool} (h : allTo n f = true) {k : Nat} (hk : k < n) : f k = true := by
  unfold allTo at h
  rw [List.all_eq_true] at h
  exact h k (by simpa using hk)
/-- The least number below n that f is true of; -1 if there is none. -/
def idxOf (n : Nat) (f : Nat → Bool) : Int := match (List.range n).find? f with | some k => k | none => -1
def anyTo (n : Nat) (f : Nat → Bool) : Bool := !allTo n (fun k => !f k)
theorem idxOf_at {n k : Nat} {f : Nat → Bool} (h : Hid (allTo k (fun k => !f k) = true)) (hk : k < n) (hf : f k = true) : idxOf n f = k := by
  have h1 : (List.range n).find? f = some k := by
    rw [List.find?_range_eq_some]
    exact ⟨hf, by simpa using hk, fun j hj => allTo_of h.out hj⟩
  unfold idxOf
  rw [h1]
theorem idxOf_none {n : Nat} {f : Nat → Bool} (h : Hid (allTo n (fun k => !f k) = true)) : idxOf n f = -1 := by
  have h1 : (List.range n).find? f = none := by
    rw [List.find?_eq_none]
    intro x hx
    have := allTo_of h.out (by simpa using hx)
    simpa using this
  unfold idxOf
  rw [h1]
theorem idxOf_ge (n : Nat) (f : Nat → Bool) : decide (0 ≤ idxOf n f) = anyTo n f := by
  unfold anyTo
  cases h : allTo n (fun k => !f k) with
  | true => rw [idxOf_none h]; rfl
  | false =>
    unfold idxOf
    cases hf : (List.range n).find? f with
    | some k => simp
    | none =>
      exfalso
      rw [List.find?_eq_none] at hf
      unfold allTo at h
      rw [Bool.eq_false_iff] at h
      apply h
      rw [List.all_eq_true]
      intro x hx
      have := hf x hx
      simpa using this
end Go.Tr
