
/- Lazy reductions: the searches, upon the reducers' own nets. -/
import Derived.Test.YtcjhkgfmklgikaaGreatHg
import Derived.Test.YtcjhkgfmklgikaaGreatHi
set_option linter.unusedSimpArgs false
set_option linter.unusedVariables false
set_option linter.unusedSectionVars false
namespace Go.Proofs.YtcjhkgfmklgikaaGreat
open Go Go.RowKit Go.Proofs Go.Tr
section
variable {kv:List (Int×Bool)}{xs Y:List aj}(T:Tr.Twin kv xs Y)(hl:xs.length≤1000000)(hk9:∀a:Int,0≤a→a<(xs.length:Nat)→(ah xs a).2.2.2.2.length≤1048576)(us:List Value)(bk:List (List aj))
include T hl hk9
end
section
variable {k:List (Int×Bool)}{z P:List aj}(T:Tr.Twin k z P)(hl:P.length≤1000000)(hk9:∀a:Int,0≤a→a<(P.length:Nat)→(ah P a).2.2.2.2.length≤1048576)(us:List Value)(pk:Int)(tr:List Int)
include T hl hk9
end
end Go.Proofs.YtcjhkgfmklgikaaGreat
