
/- The codes of interactions and of events, told by data alone. No program in it. -/
import Derived.Test.YtbdimbjclhmeoaaGreatNy
set_option linter.unusedSimpArgs false
set_option linter.unusedVariables false
namespace Go.Tr
open Go Go.RowKit
def kU(bk:List (List aj))(ys:List aj)(a b:Int):Int:=
 if(eG bk (ah ys (au ys a b).1) (ah ys (au ys a b).2)).2≠0 then(eG bk (ah ys (au ys a b).1) (ah ys (au ys a b).2)).2
 else if 600<IntKind.i64.wrap ((eU ys ys.length:Nat)+(eG bk (ah ys (au ys a b).1) (ah ys (au ys a b).2)).1)then 4 else 0
def nU(ys:List aj)(a b:Int):Int:=aS (ah ys (au ys a b).1) (ah ys (au ys a b).2)
def bN(bk:List (List aj))(ys:List aj)(a b:Int):List aj:=dP bk ys (nU ys a b) (au ys a b).1 (au ys a b).2
def eO(ys:List aj)(k:Int):Prop:=0≤k∧k<(ys.length:Nat)∧(ah ys k).1≠0
def zO(ys:List aj)(a b:Int):Prop:=0<a∧a<b∧ay ys (a,0)=(b,0)
instance (ys:List aj)(k:Int):Decidable (eO ys k):=by unfold eO;exact inferInstance
instance (ys:List aj)(a b:Int):Decidable (zO ys a b):=by unfold zO;exact inferInstance
def RB(bk:List (List aj))(ys:List aj)(a b:Int):aB:=(a,b,aS (ah ys a) (ah ys b),((ys.length:Nat):Int),(((bN bk ys a b).length:Nat):Int)-((ys.length:Nat):Int))
def iH(bk:List (List aj))(ys:List aj)(e:aB):Int:=
 if ¬(eO ys e.1∧eO ys e.2.1)then 3 else if ¬zO ys e.1 e.2.1 then 5 else if kU bk ys e.1 e.2.1≠0 then kU bk ys e.1 e.2.1
 else if(3000:Int)<((bN bk ys e.1 e.2.1).length:Nat)then 4 else if RB bk ys e.1 e.2.1≠e then 14 else 0
abbrev dR(bk:List (List aj))(ys:List aj)(e:aB):List aj:=bN bk ys e.1 e.2.1
def oG(bk:List (List aj)):List aj→List aB→Int
 |_,[]=>0
 |ys,e::es=>if iH bk ys e≠0 then iH bk ys e else oG bk (dR bk ys e) es
def sP(bk:List (List aj)):List aj→List aB→List aj
 |ys,[]=>ys
 |ys,e::es=>sP bk (dR bk ys e) es
end Go.Tr
