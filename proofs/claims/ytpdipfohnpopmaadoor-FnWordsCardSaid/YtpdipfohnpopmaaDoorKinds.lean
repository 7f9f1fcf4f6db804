
/- Plain arithmetic: 32-bit wraps, the operators of the language, bounds as Bools. No program in it. -/
import Derived.Test.YtpdipfohnpopmaaDoorSc
set_option linter.unusedSimpArgs false
set_option linter.unusedVariables false
namespace Go.Tr
open Go Go.RowKit
def w32(x:Int):Int:=(x+2147483648) % 4294967296-2147483648
theorem wrap_i32(x:Int):IntKind.i32.wrap x=w32 x:=by unfold w32;simp[IntKind.wrap,IntKind.signed,IntKind.bits];omega
end Go.Tr
