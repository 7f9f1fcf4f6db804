
/- Deques. Printed by gx_dq.py. -/
import Derived.Test.YtjpaeopdljfjpaaProg
import Derived.Test.YtjpaeopdljfjpaaSc
import Derived.Test.YtjpaeopdljfjpaaDDq
import Derived.Test.YtjpaeopdljfjpaaNet
import Derived.IntWalk
import Derived.Test.YtjpaeopdljfjpaaDq4
import Derived.Test.YtjpaeopdljfjpaaDq5
set_option linter.unusedSimpArgs false
set_option linter.unusedVariables false
namespace Go.Tr
def jV(y:aQ)(k:Nat)(r:aQ×ah):aQ:={ r.1 with actors:=y.actors.set k r.2}
def bP(y:aQ)(k:Nat)(a:ah):aQ:=jV y k (cond (decide ((0:Int)<((k:Nat):Int))) (iO y a ((k:Nat):Int)) (cond (a.todo.headD 0==0) (ku y a) (l8 y a)))
end Go.Tr
namespace Go.Proofs.Ytjpaeopdljfjpaa
open Go Go.RowKit Go.Proofs Go.Tr
end Go.Proofs.Ytjpaeopdljfjpaa
