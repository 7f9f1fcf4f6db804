
/- Nets as data: agents, ports, wires. No program in it. -/
import Derived.Test.YtbakpddomlgjbaaVV
import Derived.Test.YtbakpddomlgjbaaKinds
set_option linter.unusedSimpArgs false
set_option linter.unusedVariables false
namespace Go.Tr
open Go Go.RowKit
theorem Qg{k:Nat}(h:k<1000000000):IntKind.i64.wrap ((k:Int)+1)=((k+1:Nat):Int):=yu (by omega)
section
variable {cx:Cx}{β:Nat->Value}{w:World}{R:List bn}
end
end Go.Tr
