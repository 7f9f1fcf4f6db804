
/- Drawn nets: l11Some. Printed by gen_bg.py. -/
import Derived.Test.YtdpclbjjmhkgiaaBf
import Derived.Test.YtdpclbjjmhkgiaaVV
set_option linter.unusedSimpArgs false
set_option linter.unusedVariables false
namespace Go.Proofs.Ytdpclbjjmhkgiaa
open Go Go.RowKit Go.Proofs Go.Tr
abbrev St:=List ah×DS
end Go.Proofs.Ytdpclbjjmhkgiaa
