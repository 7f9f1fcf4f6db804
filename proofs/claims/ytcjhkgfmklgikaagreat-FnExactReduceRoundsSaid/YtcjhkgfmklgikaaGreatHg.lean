
/- Lazy reductions: the reference's next pair. Printed by gen_hg.py. -/
import Derived.Test.YtcjhkgfmklgikaaGreatHe
import Derived.Test.YtcjhkgfmklgikaaGreatHf
set_option linter.unusedSimpArgs false
set_option linter.unusedVariables false
set_option linter.unusedSectionVars false
namespace Go.Tr
open Go Go.RowKit
end Go.Tr
namespace Go.Proofs.YtcjhkgfmklgikaaGreat
open Go Go.RowKit Go.Proofs Go.Tr
section
variable (A:List aj)(D:Int→Prop)(W:Wd A D)(hA:bf A)(hl:A.length≤1000000)(hk9:∀a:Int,0≤a→a<(A.length:Nat)→(ah A a).2.2.2.2.length≤1048576)
include W hA hl in
set_option maxRecDepth 100000 in
set_option maxHeartbeats 4000000 in
include W hA hl hk9 in
end
end Go.Proofs.YtcjhkgfmklgikaaGreat
