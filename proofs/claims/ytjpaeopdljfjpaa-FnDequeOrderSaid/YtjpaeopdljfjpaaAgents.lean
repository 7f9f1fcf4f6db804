
/- Kinds, levels and classes of agents: what the program's functions and the reference's return. -/
import Derived.Test.YtjpaeopdljfjpaaProg
import Derived.Test.YtjpaeopdljfjpaaNet
set_option linter.unusedSimpArgs false
set_option linter.unusedVariables false
namespace Go.Proofs.Ytjpaeopdljfjpaa
open Go Go.RowKit Go.Proofs Go.Tr
end Go.Proofs.Ytjpaeopdljfjpaa
