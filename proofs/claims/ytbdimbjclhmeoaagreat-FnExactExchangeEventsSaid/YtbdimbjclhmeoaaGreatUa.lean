
/- Pairs of a net: what the program's list of pairs is. No program in it. -/
import Derived.Test.YtbdimbjclhmeoaaGreatNy
set_option linter.unusedSimpArgs false
set_option linter.unusedVariables false
namespace Go.Tr
open Go Go.RowKit
def Bz(m n:Int):Bool:=bif decide (n<0)then true else decide (m<n)
end Go.Tr
