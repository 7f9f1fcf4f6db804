/- Nets as plain functions: what makes an agent and a net valid. No program in it. -/
import Derived.Test.YthciaodffkbljaaGreatKinds
import Derived.Test.YthciaodffkbljaaGreatPDbg
set_option linter.unusedSimpArgs false
set_option linter.unusedVariables false
namespace Go.Tr
open Go Go.RowKit

/-- A contract that leaves the world alone, as one that makes new blocks alone. -/
theorem _root_.Go.Calls.q {P : Program} {f : FuncId} {args : Array Value} {W : World} {v : Value} (h : Calls P f args W fun e w' => e = .returned v ∧ W = w') : Calls P f args W fun e w' => e = .returned v ∧ Ext W w' :=
  h.mono fun _ _ ⟨a, b⟩ => ⟨a, b ▸ Below.refl _ _⟩

def fieldsK (k p : Int) : Int := if k == 9 then p - 1 else 0
def fieldsOf (a : GAgent) : Int := fieldsK a.kind a.ports.length
def defB (n : Int) : Bool := inB n 0 23
def intB (n : Int) : Bool := inB n (-2147483648) 2147483647
def operB (n : Int) : Bool := inB n 1 6
def intAt (l : List Int) (k : Nat) : Int := l.getD k 0
theorem intAt_of {l : List Int} {k : Nat} {x : Int} (h : Hid (l[k]? = some x)) : intAt l k = x := by unfold intAt; rw [List.getD_eq_getElem?_getD, h.out]; rfl
def defsB (l : List Int) : Bool := allTo l.length fun k => defB (intAt l k)
def contentB (a : GAgent) : Bool :=
  if a.kind == 6 then ((a.data.length : Int) == 0) && intB a.value
  else if a.kind == 7 then ((a.data.length : Int) == 0) && operB a.value
  else if a.kind == 8 then ((a.data.length : Int) == 1) && operB a.value && intB (intAt a.data 0)
  else if a.kind == 9 then ((a.data.length : Int) == 0) && inB a.value 0 3
  else if a.kind == 12 then ((a.data.length : Int) == 0) && defB a.value
  else if a.kind == 10 then a.value == 0 && inB a.data.length 1 4 && defsB a.data
  else if a.kind == 11 then a.value == 0 && ((a.data.length : Int) == 2) && defsB a.data
  else a.value == 0 && ((a.data.length : Int) == 0)
def agentB (a : GAgent) : Bool := decide (0 < portsOf a.kind (fieldsOf a)) && (a.ports.length : Int) == portsOf a.kind (fieldsOf a) && allowB a.kind a.level && contentB a

end Go.Tr
