/- All ports of a net in a row, and validity by them. No program in it. -/
import Derived.Test.YtmmdkchhahnenaaNet
import Derived.Test.YtmmdkchhahnenaaApp
set_option linter.unusedSimpArgs false
set_option linter.unusedVariables false
namespace Go.Tr
open Go Go.RowKit
/-- The ports of the agents below k, in order. -/
def portsTo (l : List GAgent) (k : Nat) : List GPort := (List.range k).flatMap fun (i : Nat) => (List.range (agentAt l i).ports.length).map fun (s : Nat) => (⟨(i : Int), (s : Int)⟩ : GPort)
def portsAt (i j : Nat) : List GPort := (List.range j).map fun (s : Nat) => (⟨(i : Int), (s : Int)⟩ : GPort)
theorem portsAt_succ (i j : Nat) : portsAt i (j + 1) = portsAt i j ++ [⟨(i : Int), (j : Int)⟩] := by simp [portsAt, List.range_succ]
theorem portsTo_succ (l : List GAgent) (k : Nat) : portsTo l (k + 1) = portsTo l k ++ portsAt k (agentAt l k).ports.length := by simp [portsTo, portsAt, List.range_succ]
theorem portsOf_le (k f : Int) : portsOf k f ≤ 4 := by
  unfold portsOf
  split
  · split
    · rename_i h; have := inB_t h; omega
    · omega
  · repeat' split
    all_goals omega
theorem agentB_ports {a : GAgent} (h : agentB a = true) : 1 ≤ a.ports.length ∧ a.ports.length ≤ 4 := by
  simp only [agentB, Bool.and_eq_true, decide_eq_true_eq, beq_iff_eq] at h
  have := portsOf_le a.kind (fieldsOf a)
  omega
theorem agentsB_all {l : List GAgent} (h : agentsB l = true) : 1 ≤ l.length ∧ l.length ≤ 600 ∧ ∀ k, k < l.length → agentOk l k = true := by
  simp only [agentsB, Bool.and_eq_true] at h
  have h1 := inB_t h.1
  exact ⟨by omega, by omega, fun k hk => allTo_of h.2 hk⟩
theorem agentOk_ports {l : List GAgent} {k : Nat} (h : agentOk l k = true) : (agentAt l k).ports.length ≤ 4 := by
  simp only [agentOk, Bool.and_eq_true] at h
  exact (agentB_ports h.1).2
theorem portsTo_le {l : List GAgent} {k : Nat} (h : ∀ j, j < k → agentOk l j = true) : (portsTo l k).length ≤ 4 * k := by
  induction k with
  | zero => simp [portsTo]
  | succ k ih =>
    rw [portsTo_succ, List.length_append]
    have h1 := ih (fun j hj => h j (by omega))
    have h2 := agentOk_ports (h k (by omega))
    simp only [portsAt, List.length_map, List.length_range]
    omega
theorem mem_portsTo {l : List GAgent} {k : Nat} {p : GPort} (h : p ∈ portsTo l k) : ∃ i s : Nat, p = ⟨(i : Int), (s : Int)⟩ ∧ i < k ∧ s < (agentAt l i).ports.length := by
  simp only [portsTo, List.mem_flatMap, List.mem_range, List.mem_map] at h
  obtain ⟨i, hi, s, hs, rfl⟩ := h
  exact ⟨i, s, rfl, hi, hs⟩
theorem portsTo_mem {l : List GAgent} {k i s : Nat} (hi : i < k) (hs : s < (agentAt l i).ports.length) : (⟨(i : Int), (s : Int)⟩ : GPort) ∈ portsTo l k := by
  simp only [portsTo, List.mem_flatMap, List.mem_range, List.mem_map]
  exact ⟨i, hi, s, hs, rfl⟩
theorem portsTo_in {l : List GAgent} {k : Nat} {y : GPort} (h : (portsTo l l.length)[k]? = some y) : portIn l y = true := by
  obtain ⟨i, s, rfl, hi, hs⟩ := mem_portsTo (List.mem_of_getElem? h)
  unfold portIn
  rw [Bool.and_eq_true]
  exact ⟨inB_mk (by simp) (by simp only; omega), inB_mk (by simp) (by simp only [Int.toNat_natCast]; omega)⟩
noncomputable def badB (l : List GAgent) (p : GPort) : Bool := !wireB l p (peerOf l p)
/-- A net is valid if no port is bad. -/
theorem netB_ports (n : GNet) (h : agentsB n.agents = true) : netB n = !anyTo (portsTo n.agents n.agents.length).length (fun k => badB n.agents (portAt (portsTo n.agents n.agents.length) k)) := by
  have h0 := agentsB_all h
  unfold netB
  rw [h, Bool.true_and, anyTo, Bool.not_not, Bool.eq_iff_iff]
  constructor
  · intro ha
    unfold allTo
    rw [List.all_eq_true]
    intro q hq
    have hq : q < (portsTo n.agents n.agents.length).length := by simpa using hq
    have he : Hid ((portsTo n.agents n.agents.length)[q]? = some (portsTo n.agents n.agents.length)[q]) := List.getElem?_eq_getElem hq
    obtain ⟨i, s, hp, hi, hs⟩ := mem_portsTo (List.getElem_mem hq)
    rw [portAt_of he, hp]
    have h1 := allTo_of (allTo_of ha hi) hs
    simp only [badB, Bool.not_not]
    unfold peerOf
    simpa using h1
  · intro ha
    unfold allTo
    rw [List.all_eq_true]
    intro i hi
    unfold wiresOk allTo
    rw [List.all_eq_true]
    intro s hs
    obtain ⟨q, hq, he⟩ := List.getElem_of_mem (portsTo_mem (l := n.agents) (k := n.agents.length) (by simpa using hi) (by simpa using hs))
    have h1 := allTo_of ha hq
    have he' : Hid ((portsTo n.agents n.agents.length)[q]? = some (portsTo n.agents n.agents.length)[q]) := List.getElem?_eq_getElem hq
    rw [portAt_of he', he] at h1
    simp only [badB, Bool.not_not] at h1
    unfold peerOf at h1
    simpa using h1
end Go.Tr
