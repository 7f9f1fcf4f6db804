
/- The symbolic machine with calls that leave data which is never written again: regions whose order is open. -/
import Derived.Test.YtpdipfohnpopmaaDoorWa
set_option linter.unusedSimpArgs false
set_option linter.unusedVariables false
namespace Go.Tr
open Go Go.RowKit
universe u
section
variable {cx cx':Cx}{β β' β'':Nat->Value}{P:Program}{ti:TI}{n:Nat}{a a' a'':Act}{env env':Ev}{rs:List Tok}{fr:List aM}{w w':World}{g:Option (Nat×Bool)}{v:SV}{dst:Option Nat}{ty:TypeId}{pos:String}{aft:Array Edge}{gd:Option (Nat×Bool)}
end
end Go.Tr
