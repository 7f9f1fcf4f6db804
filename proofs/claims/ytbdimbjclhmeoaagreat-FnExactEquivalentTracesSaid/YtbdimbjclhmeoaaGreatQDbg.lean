
/- Equality of structs of integers. Printed by gen_eq.py. -/
import Derived.Test.YtbdimbjclhmeoaaGreatProg
import Derived.Test.YtbdimbjclhmeoaaGreatValid
set_option linter.unusedSimpArgs false
set_option linter.unusedVariables false
namespace Go.Proofs.YtbdimbjclhmeoaaGreat
open Go Go.RowKit Go.Proofs Go.Tr
end Go.Proofs.YtbdimbjclhmeoaaGreat
