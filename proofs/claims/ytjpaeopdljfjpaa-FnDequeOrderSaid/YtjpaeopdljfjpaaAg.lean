
/- Kinds, levels and classes of agents, on both sides, by the symbolic machine. -/
import Derived.Test.YtjpaeopdljfjpaaProg
import Derived.Test.YtjpaeopdljfjpaaVti
import Derived.Test.YtjpaeopdljfjpaaVV
import Derived.Test.YtjpaeopdljfjpaaNet
set_option linter.unusedSimpArgs false
set_option linter.unusedVariables false
namespace Go.Proofs.Ytjpaeopdljfjpaa
open Go Go.RowKit Go.Proofs Go.Tr
end Go.Proofs.Ytjpaeopdljfjpaa
