
/- Drawn nets, walked: one agent more, two agents that are an active pair. -/
import Derived.Test.YtdpclbjjmhkgiaaBb
set_option linter.unusedSimpArgs false
set_option linter.unusedVariables false
namespace Go.Proofs.Ytdpclbjjmhkgiaa
open Go Go.RowKit Go.Proofs Go.Tr
section
variable (code:List Int)(d:DS)
end
end Go.Proofs.Ytdpclbjjmhkgiaa
