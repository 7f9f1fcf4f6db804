
/- Equality of structs of integers. Printed by gen_eq.py. -/
import Derived.Test.YtjpaeopdljfjpaaProg
import Derived.Test.YtjpaeopdljfjpaaNet
set_option linter.unusedSimpArgs false
set_option linter.unusedVariables false
namespace Go.Proofs.Ytjpaeopdljfjpaa
open Go Go.RowKit Go.Proofs Go.Tr
end Go.Proofs.Ytjpaeopdljfjpaa
