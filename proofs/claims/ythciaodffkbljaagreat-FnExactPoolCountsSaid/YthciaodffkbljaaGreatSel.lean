/- Selections of numbers; rows of one call's own as results. No program in it. -/
import Derived.Test.YthciaodffkbljaaGreatApp
import Derived.Test.YthciaodffkbljaaGreatMk
set_option linter.unusedSimpArgs false
set_option linter.unusedVariables false
namespace Go.Tr
open Go Go.RowKit

end Go.Tr
