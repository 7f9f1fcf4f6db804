/- Nets as plain functions: what makes an agent and a net valid. No program in it. -/
import Derived.Test.YtmmdkchhahnenaaKinds
import Derived.Test.YtmmdkchhahnenaaPDbg
set_option linter.unusedSimpArgs false
set_option linter.unusedVariables false
namespace Go.Tr
open Go Go.RowKit

/-- A contract that leaves the world alone, as one that makes new blocks alone. -/
theorem _root_.Go.Calls.q {P : Program} {f : FuncId} {args : Array Value} {W : World} {v : Value} (h : Calls P f args W fun e w' => e = .returned v ∧ W = w') : Calls P f args W fun e w' => e = .returned v ∧ Ext W w' :=
  h.mono fun _ _ ⟨a, b⟩ => ⟨a, b ▸ Below.refl _ _⟩

def fieldsK (k p : Int) : Int := if k == 9 then p - 1 else 0
def fieldsOf (a : GAgent) : Int := fieldsK a.kind a.ports.length
def defB (n : Int) : Bool := inB n 0 23
def intB (n : Int) : Bool := inB n (-2147483648) 2147483647
def operB (n : Int) : Bool := inB n 1 6
def intAt (l : List Int) (k : Nat) : Int := l.getD k 0
theorem intAt_of {l : List Int} {k : Nat} {x : Int} (h : Hid (l[k]? = some x)) : intAt l k = x := by unfold intAt; rw [List.getD_eq_getElem?_getD, h.out]; rfl
def defsB (l : List Int) : Bool := allTo l.length fun k => defB (intAt l k)
def contentB (a : GAgent) : Bool :=
  if a.kind == 6 then ((a.data.length : Int) == 0) && intB a.value
  else if a.kind == 7 then ((a.data.length : Int) == 0) && operB a.value
  else if a.kind == 8 then ((a.data.length : Int) == 1) && operB a.value && intB (intAt a.data 0)
  else if a.kind == 9 then ((a.data.length : Int) == 0) && inB a.value 0 3
  else if a.kind == 12 then ((a.data.length : Int) == 0) && defB a.value
  else if a.kind == 10 then a.value == 0 && inB a.data.length 1 4 && defsB a.data
  else if a.kind == 11 then a.value == 0 && ((a.data.length : Int) == 2) && defsB a.data
  else a.value == 0 && ((a.data.length : Int) == 0)
def agentB (a : GAgent) : Bool := decide (0 < portsOf a.kind (fieldsOf a)) && (a.ports.length : Int) == portsOf a.kind (fieldsOf a) && allowB a.kind a.level && contentB a

def nilAgent : GAgent := ⟨0, 0, 0, [], []⟩
def nilPort : GPort := ⟨0, 0⟩
def agentAt (l : List GAgent) (k : Nat) : GAgent := l.getD k nilAgent
def portAt (l : List GPort) (k : Nat) : GPort := l.getD k nilPort
theorem getD_of {α : Type} {l : List α} {k : Nat} {x d : α} (h : Hid (l[k]? = some x)) : l.getD k d = x := by rw [List.getD_eq_getElem?_getD, h.out]; rfl
theorem agentAt_of {l : List GAgent} {k : Nat} {x : GAgent} (h : Hid (l[k]? = some x)) : agentAt l k = x := getD_of h
theorem portAt_of {l : List GPort} {k : Nat} {x : GPort} (h : Hid (l[k]? = some x)) : portAt l k = x := getD_of h
def agentOk (l : List GAgent) (k : Nat) : Bool := agentB (agentAt l k) && ((agentAt l k).kind == 1) == ((k : Int) == 0)
def agentsB (l : List GAgent) : Bool := inB l.length 1 600 && allTo l.length (agentOk l)
def portIn (l : List GAgent) (p : GPort) : Bool := inB p.agent 0 ((l.length : Int) - 1) && inB p.slot 0 (((agentAt l p.agent.toNat).ports.length : Int) - 1)
def peerOf (l : List GAgent) (p : GPort) : GPort := portAt (agentAt l p.agent.toNat).ports p.slot.toNat
/-- The wire at port me, which ends at p. -/
noncomputable def wireB (l : List GAgent) (me p : GPort) : Bool := !eqb p me && portIn l p && eqb (peerOf l p) me
noncomputable def wiresOk (l : List GAgent) (i : Nat) : Bool := allTo (agentAt l i).ports.length fun k => wireB l ⟨i, k⟩ (portAt (agentAt l i).ports k)
noncomputable def netB (n : GNet) : Bool := agentsB n.agents && allTo n.agents.length (wiresOk n.agents)

theorem portIn_t {l : List GAgent} {p : GPort} (h : portIn l p = true) : ∃ (i k : Nat) (a : GAgent) (q : GPort), p = ⟨i, k⟩ ∧ i < l.length ∧ Hid (l[i]? = some a) ∧ k < a.ports.length ∧ Hid (a.ports[k]? = some q) ∧ peerOf l p = q := by
  unfold portIn at h
  rw [Bool.and_eq_true] at h
  obtain ⟨h1, h2⟩ := h
  have h1 := inB_t h1
  have h2 := inB_t h2
  obtain ⟨pa, ps⟩ := p
  simp only at h1 h2
  obtain ⟨i, rfl⟩ := Int.eq_ofNat_of_zero_le h1.1
  obtain ⟨k, rfl⟩ := Int.eq_ofNat_of_zero_le h2.1
  have hi : i < l.length := by omega
  have ha : Hid (l[i]? = some l[i]) := List.getElem?_eq_getElem hi
  rw [Int.toNat_natCast, agentAt_of ha] at h2
  have hk : k < (l[i]).ports.length := by omega
  have hq : Hid ((l[i]).ports[k]? = some (l[i]).ports[k]) := List.getElem?_eq_getElem hk
  refine ⟨i, k, l[i], _, rfl, hi, ha, hk, hq, ?_⟩
  unfold peerOf
  rw [Int.toNat_natCast, Int.toNat_natCast, agentAt_of ha, portAt_of hq]
end Go.Tr
