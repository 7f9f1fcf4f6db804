
/- Plain arithmetic: 32-bit wraps, the operators of the language, bounds as Bools. No program in it. -/
import Derived.Test.YtbakpddomlgjbaaSc
set_option linter.unusedSimpArgs false
set_option linter.unusedVariables false
namespace Go.Tr
open Go Go.RowKit
end Go.Tr
