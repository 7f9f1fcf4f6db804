/- Core terms: ShiftCore of both sides. -/
import Derived.Test.YtieemijapiiiiaaGreatOh
set_option linter.unusedSimpArgs false
set_option linter.unusedVariables false
namespace Go.Proofs.YtieemijapiiiiaaGreat
open Go Go.RowKit Go.Proofs Go.Tr
end Go.Proofs.YtieemijapiiiiaaGreat
