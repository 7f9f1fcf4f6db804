
/- The reference and the program ask the same of a memory. No program in it. -/
import Derived.Test.YtjpaeopdljfjpaaShort
import Derived.Test.YtjpaeopdljfjpaaNm
set_option linter.unusedSimpArgs false
set_option linter.unusedVariables false
namespace Go.Tr
open Go Go.RowKit
theorem getD_set_ne{l:List Int}{i j:Nat}{x:Int}(h:j≠i):(l.set j x).getD i 0=l.getD i 0:=by
 rw[qC,qC,List.getElem?_set_ne h]
end Go.Tr
