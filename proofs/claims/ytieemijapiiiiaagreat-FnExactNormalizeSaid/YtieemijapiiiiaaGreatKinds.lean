/- Plain arithmetic: 32-bit wraps, the operators of the language, bounds as Bools. No program in it. -/
import Derived.Test.YtieemijapiiiiaaGreatSc
set_option linter.unusedSimpArgs false
set_option linter.unusedVariables false
namespace Go.Tr
open Go Go.RowKit
def inB (n lo hi : Int) : Bool := decide (lo ≤ n) && decide (n ≤ hi)
end Go.Tr

/- Kinds, levels and classes of agents as plain functions. No program in it. -/
set_option linter.unusedSimpArgs false
set_option linter.unusedVariables false
namespace Go.Tr
open Go Go.RowKit

def kindB (k : Int) : Bool := inB k 1 12
def hasLevB (k : Int) : Bool := kindB k && k != 1 && k != 5 && k != 6
def levB (n : Int) : Bool := inB n 0 8
def allowB (k l : Int) : Bool := kindB k && (l == 0 || (hasLevB k && levB l))
def consB (k : Int) : Bool := k == 3 || k == 7 || k == 8 || k == 10 || k == 11
def dupB (t k l : Int) : Bool := levB t && allowB k l && (k == 6 || k == 12 || (hasLevB k && decide (t < l)))
def rule (ka la kb lb : Int) : Int :=
  if ka = 5 then 4
  else if ka = 4 then (if kb == 4 && la == lb then 2 else if dupB la kb lb then 3 else 0)
  else if ka = 2 then (if kb == 3 && la == lb then 1 else 0)
  else if ka = 6 then (if kb == 7 || kb == 8 then 5 else if kb == 11 then 6 else 0)
  else if ka = 9 then (if kb == 10 then 6 else 0)
  else if ka = 12 then (if consB kb then 7 else 0)
  else 0
end Go.Tr
