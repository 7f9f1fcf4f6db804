
/- The recorder's active pairs. Printed by gen_uc.py. -/
import Derived.Test.YtemalpelcdmemaaGreatUb
import Derived.Test.YtemalpelcdmemaaGreatIo
set_option linter.unusedSimpArgs false
set_option linter.unusedVariables false
namespace Go.Proofs.YtemalpelcdmemaaGreat
open Go Go.RowKit Go.Proofs Go.Tr
section
variable (xs:List NAgent)(us:List Value)(bk:List (List NAgent))(kv:List (Int×Bool))(ev:List bW)
end
end Go.Proofs.YtemalpelcdmemaaGreat
