/- Equality of structs of integers. Printed by gen_eq.py. -/
import Derived.Test.YthciaodffkbljaaGreatProg
import Derived.Test.YthciaodffkbljaaGreatDDbg
set_option linter.unusedSimpArgs false
set_option linter.unusedVariables false
namespace Go.Proofs.YthciaodffkbljaaGreat
open Go Go.RowKit Go.Proofs Go.Tr

end Go.Proofs.YthciaodffkbljaaGreat
