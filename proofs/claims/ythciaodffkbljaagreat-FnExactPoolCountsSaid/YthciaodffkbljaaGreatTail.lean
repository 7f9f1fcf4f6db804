/- Regions whose order is open: loads that all writes of old blocks wait for, loads that none of them touches, what looks at no memory, calls and new blocks and writes of them, new variables that may come at any time; at last the writes of old blocks. No program in it. -/
import Derived.Test.YthciaodffkbljaaGreatGrow
import Derived.Test.YthciaodffkbljaaGreatMk
set_option linter.unusedSimpArgs false
set_option linter.unusedVariables false
namespace Go.Tr
open Go Go.RowKit
section
variable {P : Program} {ops : Array Oper} {md : Region.Mode}

/-- Whatever has come up, what it waits for has come up. -/
def Closed (md : Region.Mode) (ops : Array Oper) (L : Array Bool) : Prop := ∀ x o, ops[x]? = some o → L.getD x false = true → ∀ e ∈ o.after, Region.binds md e = true → L.getD e.on false = true
theorem Closed.set {L : Array Bool} {j : Nat} (h : Closed md ops L) (hj : j ∈ Region.ready md ops L) : Closed md ops (L.setIfInBounds j true) := fun x o ho hx e he hb => by
  have key : L.getD e.on false = true := by
    by_cases hxj : x = j
    · subst hxj
      obtain ⟨_, o', ho', hall⟩ := mem_ready.1 hj
      rw [ho] at ho'
      injection ho' with ho'
      subst ho'
      exact hall e he hb
    · refine h x o ho ?_ e he hb
      rwa [getD_set_ne false (fun e => hxj e.symm)] at hx
  by_cases hej : e.on = j
  · rw [hej] at key ⊢
    rcases Nat.lt_or_ge j L.size with h' | h'
    · simp [h']
    · simp [Array.getElem?_eq_none h'] at key
  · rw [getD_set_ne false (fun e' => hej e'.symm)]; exact key

theorem getD_un {listed : Array Bool} {i : Nat} (h : listed.getD i true = false) : listed.getD i false = false := by
  rcases Nat.lt_or_ge i listed.size with h' | h'
  · simpa [h'] using h
  · simp [Array.getElem?_eq_none h']
theorem getD_set_of {L : Array Bool} {i t : Nat} (h : (L.setIfInBounds i true).getD t false = true) (ht : t ≠ i) : L.getD t false = true := by
  rwa [getD_set_ne false (fun e => ht e.symm)] at h
/-- The old blocks below N are as they were, but for those of pv. -/
structure Wk (N : Nat) (pv : List Nat) (w w' : World) : Prop where
  size : w.heap.size ≤ w'.heap.size
  block : ∀ b, b < N → b ∉ pv → w'.heap[b]? = w.heap[b]?
theorem Wk.refl (N : Nat) (pv : List Nat) (w : World) : Wk N pv w w := ⟨Nat.le_refl _, fun _ _ _ => rfl⟩
theorem Wk.trans {N : Nat} {pv : List Nat} {a b c : World} (h : Wk N pv a b) (k : Wk N pv b c) : Wk N pv a c := ⟨Nat.le_trans h.size k.size, fun i hi hn => (k.block i hi hn).trans (h.block i hi hn)⟩
theorem Wk.of {N : Nat} {pv : List Nat} {w w' : World} (h : Below N w w') : Wk N pv w w' := ⟨h.size, fun b hb _ => h.block b hb⟩
structure BelOf (N : Nat) (w : World) where
  to : World
  h : Below N w to
structure WkOf (N : Nat) (pv : List Nat) (w : World) where
  to : World
  h : Wk N pv w to
instance (N : Nat) (w : World) : Inhabited (BelOf N w) := ⟨⟨w, Below.refl _ _⟩⟩
instance (N : Nat) (pv : List Nat) (w : World) : Inhabited (WkOf N pv w) := ⟨⟨w, Wk.refl _ _ _⟩⟩
abbrev KnB (N : Nat) (w : World) (b o : Nat) (v : Value) : Prop := ∀ e : BelOf N w, e.to.cell? ⟨b, o, none⟩ = some v
abbrev KnW (N : Nat) (pv : List Nat) (w : World) (b o : Nat) (v : Value) : Prop := ∀ e : WkOf N pv w, e.to.cell? ⟨b, o, none⟩ = some v
theorem Kn.b {N : Nat} {w : World} {b o : Nat} {v : Value} (h : Kn w b o v) (hb : b < N) : KnB N w b o v := fun e => (World.cell?_of_block (e.h.block b hb)).trans (h ⟨w, Below.refl _ _⟩)
theorem Kn.w {N : Nat} {pv : List Nat} {w : World} {b o : Nat} {v : Value} (h : Kn w b o v) (hb : b < N) (hn : b ∉ pv) : KnW N pv w b o v := fun e => (World.cell?_of_block (e.h.block b hb hn)).trans (h ⟨w, Below.refl _ _⟩)
theorem KnB.go {N : Nat} {w w' : World} {b o : Nat} {v : Value} (h : KnB N w b o v) (hx : Below N w w') : KnB N w' b o v := fun e => h ⟨e.to, hx.trans e.h⟩
theorem KnW.go {N : Nat} {pv : List Nat} {w w' : World} {b o : Nat} {v : Value} (h : KnW N pv w b o v) (hx : Wk N pv w w') : KnW N pv w' b o v := fun e => h ⟨e.to, hx.trans e.h⟩
/-- How an operation's value is known: 0: in all worlds; 1: in those with the old blocks but pv; 2: in those with all old blocks (and every write of an old block waits for it). -/
def Cls (N : Nat) (pv : List Nat) (w : World) : Nat → World → Prop
  | 0 => fun w' => ∃ e : World, w' = e
  | 1 => fun w' => ∃ e : WkOf N pv w, w' = e.to
  | _ => fun w' => ∃ e : BelOf N w, w' = e.to
theorem Cls.go {N : Nat} {pv : List Nat} {w w1 : World} (h : Below N w w1) (k : Nat) (w' : World) (hc : Cls N pv w1 k w') : Cls N pv w k w' := by
  match k with
  | 0 => exact hc
  | 1 => obtain ⟨e, rfl⟩ := hc; exact ⟨⟨e.to, (Wk.of h).trans e.h⟩, rfl⟩
  | k + 2 => obtain ⟨e, rfl⟩ := hc; exact ⟨⟨e.to, h.trans e.h⟩, rfl⟩
end
end Go.Tr
