/- Nets as data: agents, ports, wires. No program in it. -/
import Derived.Test.YtieemijapiiiiaaGreatVV
import Derived.Test.YtieemijapiiiiaaGreatKinds
set_option linter.unusedSimpArgs false
set_option linter.unusedVariables false
namespace Go.Tr
open Go Go.RowKit
abbrev uPort : U := .pair (.int .i64) (.int .i64)
abbrev uAgent : U := .pair (.int .i64) (.pair (.int .i64) (.pair (.int .i64) (.pair (.sl (.int .i64)) (.sl uPort))))
abbrev NPort := Int × Int
abbrev NAgent := Int × Int × Int × List Int × List NPort
def agAt (xs : List NAgent) (i : Int) : NAgent := elt (dflt uAgent) xs i
abbrev NAgent.kind (a : NAgent) : Int := a.1
abbrev NAgent.level (a : NAgent) : Int := a.2.1
abbrev NAgent.value (a : NAgent) : Int := a.2.2.1
abbrev NAgent.data (a : NAgent) : List Int := a.2.2.2.1
abbrev NAgent.ports (a : NAgent) : List NPort := a.2.2.2.2
def peerN (xs : List NAgent) (p : NPort) : NPort := elt (dflt uPort) (agAt xs p.1).ports p.2
def setPortN (xs : List NAgent) (p q : NPort) : List NAgent := xs.set p.1.toNat ((agAt xs p.1).1, (agAt xs p.1).2.1, (agAt xs p.1).2.2.1, (agAt xs p.1).2.2.2.1, (agAt xs p.1).2.2.2.2.set p.2.toNat q)
def linkN (xs : List NAgent) (p q : NPort) : List NAgent := setPortN (setPortN xs p q) q p
def PortIn (xs : List NAgent) (p : NPort) : Prop := 0 ≤ p.1 ∧ p.1 < (xs.length : Nat) ∧ 0 ≤ p.2 ∧ p.2 < ((agAt xs p.1).ports.length : Nat)
/-- The header of the ports of an agent. -/
theorem setPortN_len (xs : List NAgent) (p q : NPort) : (setPortN xs p q).length = xs.length := by unfold setPortN; simp
theorem agAt_set {xs : List NAgent} {k : Nat} {y : NAgent} {i : Int} : agAt (xs.set k y) i = if k = i.toNat ∧ k < xs.length then y else agAt xs i := by
  unfold agAt elt
  rw [List.getD_eq_getElem?_getD, List.getD_eq_getElem?_getD, List.getElem?_set]
  by_cases h : k = i.toNat
  · subst h
    by_cases h2 : i.toNat < xs.length
    · simp [h2]
    · simp [h2]
  · simp [h]
theorem agAt_setPort (xs : List NAgent) (p q : NPort) (i : Int) : agAt (setPortN xs p q) i = if p.1.toNat = i.toNat ∧ p.1.toNat < xs.length then ((agAt xs p.1).1, (agAt xs p.1).2.1, (agAt xs p.1).2.2.1, (agAt xs p.1).2.2.2.1, (agAt xs p.1).2.2.2.2.set p.2.toNat q) else agAt xs i := agAt_set
theorem agAt_nat {xs : List NAgent} {i j : Int} (h : i.toNat = j.toNat) : agAt xs i = agAt xs j := by unfold agAt elt; rw [h]
theorem ports_len_set (xs : List NAgent) (p q : NPort) (i : Int) : (agAt (setPortN xs p q) i).ports.length = (agAt xs i).ports.length := by
  rw [agAt_setPort]
  split
  · rename_i h; rw [agAt_nat h.1.symm]; simp [NAgent.ports]
  · rfl
theorem PortIn.set {xs : List NAgent} {p q r : NPort} (h : PortIn xs r) : PortIn (setPortN xs p q) r := by
  unfold PortIn at h ⊢
  rw [setPortN_len, ports_len_set]; exact h
theorem PortIn.link {xs : List NAgent} {p q r : NPort} (h : PortIn xs r) : PortIn (linkN xs p q) r := h.set.set
/-- A port of a new agent takes the place of one that goes. -/
def moveN (xs : List NAgent) (old now : NPort) : List NAgent := linkN xs (peerN xs old) now
def joinN (xs : List NAgent) (x y : NPort) : List NAgent := bif (peerN xs x).1 == y.1 && (peerN xs x).2 == y.2 then xs else linkN xs (peerN xs x) (peerN xs y)
def newA (kind level value : Int) (data : List Int) (n : Nat) : NAgent := (kind, level, value, data, List.replicate n (0, 0))
/-! ### classes -/
/-! ### operators -/
/-! ### ports in range -/
def AllIn (xs : List NAgent) : Prop := ∀ p, PortIn xs p → PortIn xs (peerN xs p)
theorem elt_set {α : Type} {d : α} {xs : List α} {k : Nat} {y : α} {i : Int} : elt d (xs.set k y) i = if k = i.toNat ∧ k < xs.length then y else elt d xs i := by
  unfold elt
  rw [List.getD_eq_getElem?_getD, List.getD_eq_getElem?_getD, List.getElem?_set]
  by_cases h : k = i.toNat
  · subst h
    by_cases h2 : i.toNat < xs.length <;> simp [h2]
  · simp [h]
theorem elt_app {α : Type} {d : α} {xs ys : List α} {i : Int} (h : i.toNat < xs.length) : elt d (xs ++ ys) i = elt d xs i := by
  unfold elt
  rw [List.getD_eq_getElem?_getD, List.getD_eq_getElem?_getD, List.getElem?_append_left h]
theorem elt_last {α : Type} {d y : α} {xs : List α} {i : Int} (h : i.toNat = xs.length) : elt d (xs ++ [y]) i = y := by
  unfold elt
  rw [h, List.getD_eq_getElem?_getD]; simp
theorem agAt_app {xs ys : List NAgent} {i : Int} (h : i.toNat < xs.length) : agAt (xs ++ ys) i = agAt xs i := elt_app h
theorem agAt_last {y : NAgent} {xs : List NAgent} {i : Int} (h : i.toNat = xs.length) : agAt (xs ++ [y]) i = y := elt_last h
theorem PortIn.app {xs ys : List NAgent} {p : NPort} (h : PortIn xs p) : PortIn (xs ++ ys) p := by
  obtain ⟨h1, h2, h3, h4⟩ := h
  refine ⟨h1, by rw [List.length_append]; omega, h3, ?_⟩
  rw [agAt_app (by omega)]; exact h4
theorem PortIn.new {k l v : Int} {d : List Int} {n : Nat} {xs : List NAgent} {s : Int} (h0 : 0 ≤ s) (h1 : s < (n : Nat)) : PortIn (xs ++ [newA k l v d n]) ((xs.length : Nat), s) := by
  refine ⟨by omega, by rw [List.length_append, List.length_singleton]; show ((xs.length : Nat) : Int) < _; omega, h0, ?_⟩
  rw [agAt_last (by simp)]
  simpa [newA, NAgent.ports] using h1
theorem peerN_app {xs ys : List NAgent} {p : NPort} (h : p.1.toNat < xs.length) : peerN (xs ++ ys) p = peerN xs p := by unfold peerN; rw [agAt_app h]
theorem peerN_set {xs : List NAgent} {p q r : NPort} (hp : PortIn xs p) (hr : PortIn xs r) : peerN (setPortN xs p q) r = if p = r then q else peerN xs r := by
  obtain ⟨p1, p2, p3, p4⟩ := hp
  obtain ⟨r1, r2, r3, r4⟩ := hr
  unfold peerN
  rw [agAt_setPort]
  by_cases h : p.1.toNat = r.1.toNat
  · have e : p.1 = r.1 := by omega
    rw [if_pos ⟨h, by omega⟩]
    show elt (dflt uPort) ((agAt xs p.1).2.2.2.2.set p.2.toNat q) r.2 = _
    rw [elt_set]
    by_cases h2 : p.2.toNat = r.2.toNat
    · have e2 : p.2 = r.2 := by omega
      rw [if_pos ⟨h2, by simp only [NAgent.ports] at p4; omega⟩, if_pos (Prod.ext e e2)]
    · rw [if_neg (fun hh => h2 hh.1), if_neg (fun hh => h2 (by rw [hh])), e]
  · rw [if_neg (fun hh => h hh.1), if_neg (fun hh => h (by rw [hh]))]
theorem peerN_link {xs : List NAgent} {p q r : NPort} (hp : PortIn xs p) (hq : PortIn xs q) (hr : PortIn xs r) : peerN (linkN xs p q) r = if q = r then p else if p = r then q else peerN xs r := by
  unfold linkN
  rw [peerN_set hq.set hr.set, peerN_set hp hr]
theorem PortIn.unset {xs : List NAgent} {p q r : NPort} (h : PortIn (setPortN xs p q) r) : PortIn xs r := by
  unfold PortIn at h ⊢
  rwa [setPortN_len, ports_len_set] at h
theorem PortIn.unlink {xs : List NAgent} {p q r : NPort} (h : PortIn (linkN xs p q) r) : PortIn xs r := h.unset.unset
theorem AllIn.link {xs : List NAgent} {p q : NPort} (h : AllIn xs) (hp : PortIn xs p) (hq : PortIn xs q) : AllIn (linkN xs p q) := fun r hr => by
  have hr' := hr.unlink
  rw [peerN_link hp hq hr']
  split
  · exact hp.link
  · split
    · exact hq.link
    · exact (h r hr').link
theorem AllIn.move {xs : List NAgent} {p q : NPort} (h : AllIn xs) (hp : PortIn xs p) (hq : PortIn xs q) : AllIn (moveN xs p q) := h.link (h p hp) hq
theorem PortIn.move {xs : List NAgent} {p q r : NPort} (h : PortIn xs r) : PortIn (moveN xs p q) r := h.link
theorem PortIn.join {xs : List NAgent} {p q r : NPort} (h : PortIn xs r) : PortIn (joinN xs p q) r := by
  unfold joinN
  cases ((peerN xs p).1 == q.1 && (peerN xs p).2 == q.2) with
  | true => exact h
  | false => exact h.link
theorem AllIn.join {xs : List NAgent} {p q : NPort} (h : AllIn xs) (hp : PortIn xs p) (hq : PortIn xs q) : AllIn (joinN xs p q) := by
  unfold joinN
  cases ((peerN xs p).1 == q.1 && (peerN xs p).2 == q.2) with
  | true => exact h
  | false => exact h.link (h p hp) (h q hq)
theorem AllIn.add {xs : List NAgent} (h : AllIn xs) (h0 : PortIn xs (0, 0)) (k l v : Int) (d : List Int) (n : Nat) : AllIn (xs ++ [newA k l v d n]) := fun r hr => by
  by_cases hlt : r.1.toNat < xs.length
  · rw [peerN_app hlt]
    obtain ⟨r1, r2, r3, r4⟩ := hr
    rw [agAt_app hlt] at r4
    exact (h r ⟨r1, by omega, r3, r4⟩).app
  · obtain ⟨r1, r2, r3, r4⟩ := hr
    rw [List.length_append, List.length_singleton] at r2
    have e : r.1.toNat = xs.length := by omega
    have hp : peerN (xs ++ [newA k l v d n]) r = (0, 0) := by
      unfold peerN
      rw [agAt_last e] at r4 ⊢
      simp only [newA, NAgent.ports, List.length_replicate] at r4
      unfold elt
      rw [List.getD_eq_getElem?_getD]
      simp only [newA, NAgent.ports]
      rw [List.getElem?_replicate]
      split <;> rfl
    rw [hp]
    exact h0.app
/-! ### the interactions -/
end Go.Tr

/- Rows taken apart into their cells and what stands behind them, and put together again. No program in it. -/
set_option linter.unusedSimpArgs false
set_option linter.unusedVariables false
namespace Go.Tr
open Go Go.RowKit
section
variable {cx : Cx} {β : Nat → Value} {w : World} {R : List Res}
end
end Go.Tr
