
/- Nets as data: agents, ports, wires. No program in it. -/
import Derived.Test.YtpdipfohnpopmaaDoorVV
import Derived.Test.YtpdipfohnpopmaaDoorKinds
set_option linter.unusedSimpArgs false
set_option linter.unusedVariables false
namespace Go.Tr
open Go Go.RowKit
theorem Ed{k:Nat}(h:k<1000000000):IntKind.i64.wrap ((k:Int)+1)=((k+1:Nat):Int):=oK (by omega)
section
variable {cx:Cx}{β:Nat->Value}{w:World}{R:List aM}
end
end Go.Tr
