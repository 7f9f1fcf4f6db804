
/- Drawn nets, walked: the whole. -/
import Derived.Test.YtdpclbjjmhkgiaaBd
set_option linter.unusedSimpArgs false
set_option linter.unusedVariables false
namespace Go.Proofs.Ytdpclbjjmhkgiaa
open Go Go.RowKit Go.Proofs Go.Tr
end Go.Proofs.Ytdpclbjjmhkgiaa
