
/- The symbolic machine, in use: a call upon things that are more than is asked for. -/
import Derived.Test.YtbakpddomlgjbaaVV
set_option linter.unusedSimpArgs false
set_option linter.unusedVariables false
namespace Go.Tr
open Go Go.RowKit
theorem au.le{P:Program}{f:Nat}{args:List SV}{ts0 ts ts':List Tok}{r:SV}(hl:ts0.length=ts.length)(h:cZ ts0 ts)(hF:au P f args ts r ts'):au P f args ts0 r ts':=by
 refine⟨hF.1,fun cx β w fr vs hI hd=> ?_⟩;have:=hF.2 cx β w fr vs (eG h hI) hd;rw[<-hl]at this;exact this
end Go.Tr
