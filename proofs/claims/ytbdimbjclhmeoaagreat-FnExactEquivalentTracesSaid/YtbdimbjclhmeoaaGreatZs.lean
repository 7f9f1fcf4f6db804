
/- The codes of interactions and of events, told by data alone. No program in it. -/
import Derived.Test.YtbdimbjclhmeoaaGreatNw
set_option linter.unusedSimpArgs false
set_option linter.unusedVariables false
namespace Go.Tr
open Go Go.RowKit
def w9(bk:List (List ak))(ys:List ak)(a b:Int):Int:=
 if(dM bk (ah ys (au ys a b).1) (ah ys (au ys a b).2)).2≠0 then(dM bk (ah ys (au ys a b).1) (ah ys (au ys a b).2)).2
 else if 600<IntKind.i64.wrap ((fE ys ys.length:Nat)+(dM bk (ah ys (au ys a b).1) (ah ys (au ys a b).2)).1)then 4 else 0
def oO(ys:List ak)(a b:Int):Int:=aR (ah ys (au ys a b).1) (ah ys (au ys a b).2)
def aX(bk:List (List ak))(ys:List ak)(a b:Int):List ak:=dX bk ys (oO ys a b) (au ys a b).1 (au ys a b).2
def dx(ys:List ak)(k:Int):Prop:=0<=k/\k<(ys.length:Nat)/\(ah ys k).1≠0
def yT(ys:List ak)(a b:Int):Prop:=0<a/\a<b/\ay ys (a,0)=(b,0)
instance (ys:List ak)(k:Int):Decidable (dx ys k):=by unfold dx;exact inferInstance
instance (ys:List ak)(a b:Int):Decidable (yT ys a b):=by unfold yT;exact inferInstance
def KN(bk:List (List ak))(ys:List ak)(a b:Int):aB:=(a,b,aR (ah ys a) (ah ys b),((ys.length:Nat):Int),(((aX bk ys a b).length:Nat):Int)-((ys.length:Nat):Int))
def rG(bk:List (List ak))(ys:List ak)(e:aB):Int:=
 if ¬(dx ys e.1/\dx ys e.2.1)then 3 else if ¬yT ys e.1 e.2.1 then 5 else if w9 bk ys e.1 e.2.1≠0 then w9 bk ys e.1 e.2.1
 else if(3000:Int)<((aX bk ys e.1 e.2.1).length:Nat)then 4 else if KN bk ys e.1 e.2.1≠e then 14 else 0
abbrev Eu(bk:List (List ak))(ys:List ak)(e:aB):List ak:=aX bk ys e.1 e.2.1
def Fp(bk:List (List ak)):List ak->List aB->Int
 |_,[]=>0
 |ys,e::es=>if rG bk ys e≠0 then rG bk ys e else Fp bk (Eu bk ys e) es
def MV(bk:List (List ak)):List ak->List aB->List ak
 |ys,[]=>ys
 |ys,e::es=>MV bk (Eu bk ys e) es
end Go.Tr
