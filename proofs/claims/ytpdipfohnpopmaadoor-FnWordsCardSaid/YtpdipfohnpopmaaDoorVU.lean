
/- The symbolic machine, in use: a call upon things that are more than is asked for. -/
import Derived.Test.YtpdipfohnpopmaaDoorVV
set_option linter.unusedSimpArgs false
set_option linter.unusedVariables false
namespace Go.Tr
open Go Go.RowKit
end Go.Tr
