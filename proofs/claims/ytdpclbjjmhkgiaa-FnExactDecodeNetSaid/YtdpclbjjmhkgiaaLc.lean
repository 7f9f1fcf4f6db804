
/- Draws: one of some, an element of a list. -/
import Derived.Test.YtdpclbjjmhkgiaaLa
set_option linter.unusedSimpArgs false
set_option linter.unusedVariables false
namespace Go.Proofs.Ytdpclbjjmhkgiaa
open Go Go.RowKit Go.Proofs Go.Tr
section
variable (code:List Int)(d:DS)
end
end Go.Proofs.Ytdpclbjjmhkgiaa
