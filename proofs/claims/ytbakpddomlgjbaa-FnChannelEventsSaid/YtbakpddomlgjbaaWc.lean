
/- Rows of a result that are data for ever, beside things that stay. -/
import Derived.Test.YtbakpddomlgjbaaWb
set_option linter.unusedSimpArgs false
set_option linter.unusedVariables false
namespace Go.Tr
open Go Go.RowKit
variable {P:Program}
end Go.Tr
