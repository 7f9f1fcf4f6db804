
/- Lazy reductions on both sides: the states on the way. -/
import Derived.Test.YtcjhkgfmklgikaaGreatYr
import Derived.Test.YtcjhkgfmklgikaaGreatHh
set_option linter.unusedSimpArgs false
set_option linter.unusedVariables false
namespace Go.Tr
open Go Go.RowKit
end Go.Tr
namespace Go.Proofs.YtcjhkgfmklgikaaGreat
open Go Go.RowKit Go.Proofs Go.Tr
variable (fl:Bool)(bk:List (List aj))(most:Int)
variable {fl bk most}
end Go.Proofs.YtcjhkgfmklgikaaGreat
