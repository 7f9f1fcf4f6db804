
/- The program's functions on agents: what makes them valid. Printed by gen_neti.py. -/
import Derived.Test.YtjpaeopdljfjpaaProg
import Derived.Test.YtjpaeopdljfjpaaAgents
import Derived.Test.YtjpaeopdljfjpaaNet
import Derived.Test.YtjpaeopdljfjpaaQDbg
import Derived.Test.YtjpaeopdljfjpaaSc
import Derived.BigGuardPart
import Derived.Outline
import Derived.Deep.CutBlock
import Derived.Test.YtjpaeopdljfjpaaVti
import Derived.Test.YtjpaeopdljfjpaaVV
import Derived.Test.YtjpaeopdljfjpaaNm
import Derived.Test.YtjpaeopdljfjpaaAg
set_option linter.unusedSimpArgs false
set_option linter.unusedVariables false
namespace Go.Proofs.Ytjpaeopdljfjpaa
open Go Go.RowKit Go.Proofs Go.Tr
end Go.Proofs.Ytjpaeopdljfjpaa
namespace Go.Tr
open Go Go.RowKit
end Go.Tr
namespace Go.Proofs.Ytjpaeopdljfjpaa
open Go Go.RowKit Go.Proofs Go.Tr
end Go.Proofs.Ytjpaeopdljfjpaa
