
/- Pairs of a net: what the program's list of pairs is. No program in it. -/
import Derived.Test.YtjpaeopdljfjpaaGreatNz
set_option linter.unusedSimpArgs false
set_option linter.unusedVariables false
namespace Go.Tr
open Go Go.RowKit
section
variable {kv:List (Int×Bool)}{xs ys:List ah}
theorem Twin.pos(T:Twin kv xs ys):0<ys.length:=by rw[←T.len];exact T.rl
end
end Go.Tr
