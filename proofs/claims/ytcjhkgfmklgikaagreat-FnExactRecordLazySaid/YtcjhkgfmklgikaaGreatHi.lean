
/- Lazy reductions on both sides: the states on the way. -/
import Derived.Test.YtcjhkgfmklgikaaGreatYn
import Derived.Test.YtcjhkgfmklgikaaGreatHh
set_option linter.unusedSimpArgs false
set_option linter.unusedVariables false
namespace Go.Tr
open Go Go.RowKit
def OX(r:Int×Int):Int×Int:=(min r.1 r.2,max r.1 r.2)
end Go.Tr
namespace Go.Proofs.YtcjhkgfmklgikaaGreat
open Go Go.RowKit Go.Proofs Go.Tr
variable (fl:Bool)(bk:List (List aj))(most:Int)
variable {fl bk most}
end Go.Proofs.YtcjhkgfmklgikaaGreat
