
/- RecordTrace: what the program does. -/
import Derived.Test.YtemalpelcdmemaaGreatUf
set_option linter.unusedSimpArgs false
set_option linter.unusedVariables false
namespace Go.Proofs.YtemalpelcdmemaaGreat
open Go Go.RowKit Go.Proofs Go.Tr
theorem selE(sch:List Int)(ps:List (Int×Int))(k:Int)(hs:∀z∈sch,0≤z)(hk:0≤k)(hp:0<ps.length):FCall Tryz.prog 77 [.rsl (.int .i64) sch,.sl 10000,.int .i64 k] [.row 10000 96 2 uPort ps []] (vP (uH sch ps k)) [.row 10000 96 2 uPort ps []]:=FCall.of_q ti_ok [0,91,0] X5 (selQ sch ps k hs hk hp) rfl
section
variable (bk:List (List NAgent))(xs:List NAgent)(sch:List Int)(st:Int)
end
end Go.Proofs.YtemalpelcdmemaaGreat
