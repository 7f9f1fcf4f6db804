
/- Deques. Printed by gx_dq.py. -/
import Derived.Test.YtjpaeopdljfjpaaProg
import Derived.Test.YtjpaeopdljfjpaaSc
import Derived.Test.YtjpaeopdljfjpaaDDq
import Derived.Test.YtjpaeopdljfjpaaNet
import Derived.IntWalk
set_option linter.unusedSimpArgs false
set_option linter.unusedVariables false
namespace Go.Tr
def bS(n:Int)(ow:Bool):Bool:= !((n !=0)&&(!ow|| !aP n 1 1000))
def bW(a:ah)(ow:Bool):Bool:=match a.todo[0]? with|none=>true|some n=>cond (n !=0) (decide (a.pc<3)&&decide (0≤a.b)) (ow||decide (0≤a.b))
def aT(a:ah)(ow:Bool):Bool:= !decide ((10:Int)<((a.todo.length:Nat):Int))&&aP a.pc 0 3&&aP a.t 0 1000&&aP a.b (-1) 1000&&aP a.x 0 1000&&a.todo.all (fun n=>bS n ow)&&
 cond (a.pc==0||((a.todo.length:Nat):Int)==0) (a.pc==0&&a.t==0&&a.b==0&&a.x==0) (bW a ow)
def bZ(a:ah):Bool:=match a.todo[0]? with|none=>false|some n=>n==0
def y5(a:ah):Int:=cond (decide (0<a.pc)&&bZ a) (-1) 0
def uK(x:aQ)(a:ah):Bool:=aP (IntKind.i64.wrap (x.bottom-x.top)) (y5 a) ((x.buffer.length:Nat):Int)
def Jy(i:Int)(n:Nat):Int:=Int.tmod (IntKind.i64.wrap (Int.tmod i ((n:Nat):Int)+((n:Nat):Int))) ((n:Nat):Int)
end Go.Tr
namespace Go.Proofs.Ytjpaeopdljfjpaa
open Go Go.RowKit Go.Proofs Go.Tr
end Go.Proofs.Ytjpaeopdljfjpaa
