
/- Drawn nets: a law's net is valid. -/
import Derived.Test.YtdpclbjjmhkgiaaBg
import Derived.Test.YtdpclbjjmhkgiaaWc
set_option linter.unusedSimpArgs false
set_option linter.unusedVariables false
namespace Go.Proofs.Ytdpclbjjmhkgiaa
open Go Go.RowKit Go.Proofs Go.Tr
end Go.Proofs.Ytdpclbjjmhkgiaa
