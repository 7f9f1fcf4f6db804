
/- Lazy reductions: the program's search through the demanded ports. Printed by gen_hf.py. -/
import Derived.Test.YtcjhkgfmklgikaaGreatHb
import Derived.Test.YtcjhkgfmklgikaaGreatHd
set_option linter.unusedSimpArgs false
set_option linter.unusedVariables false
set_option linter.unusedSectionVars false
namespace Go.Proofs.YtcjhkgfmklgikaaGreat
open Go Go.RowKit Go.Proofs Go.Tr
section
variable (A:List aj)(D:Int→Prop)(W:Wd A D)(hl:A.length≤1000000)(hk9:∀a:Int,0≤a→a<(A.length:Nat)→(ah A a).2.2.2.2.length≤1048576)
set_option maxRecDepth 100000 in
set_option maxHeartbeats 4000000 in
include W hl hk9 in
set_option maxRecDepth 100000 in
set_option maxHeartbeats 4000000 in
include W hl hk9 in
end
end Go.Proofs.YtcjhkgfmklgikaaGreat
