
/- Known values, and the pair on which a value waits, on both sides. Printed by gen_hc.py. -/
import Derived.Test.YtcjhkgfmklgikaaGreatHb
import Derived.Test.YtcjhkgfmklgikaaGreatIo
import Derived.Test.YtcjhkgfmklgikaaGreatJh
set_option linter.unusedSimpArgs false
set_option linter.unusedVariables false
namespace Go.Tr
open Go Go.RowKit
def Dn(A:List aj):Nat→Int→List Int
 |0,_=>[]
 |n+1,a=>a::(bif (au A (a,0)).2==0 then[]else Dn A n (au A (a,0)).1)
def way(A:List aj)(q:aD):List Int:=bif q.2==0 then[]else Dn A A.length q.1
def vW(A:List aj)(q:aD)(last:Int)(m:Nat):Option (Int×Int):=bif q.2==0 then(bif q.1==0 then none else some (last,q.1))else gF A m q.1
theorem ES(A:List aj)(q:aD)(last:Int)(m:Nat)(h:(q.2==0)=false):vW A q last (m+1)=vW A (au A (q.1,0)) q.1 m:=by
 unfold vW;rw[h];rfl
theorem Ka(A:List aj)(q:aD)(m:Nat)(h:(q.2==0)=false):(bif q.2==0 then[]else Dn A (m+1) q.1)=q.1::(bif (au A (q.1,0)).2==0 then[]else Dn A m (au A (q.1,0)).1):=by
 rw[h];rfl
end Go.Tr
namespace Go.Proofs.YtcjhkgfmklgikaaGreat
open Go Go.RowKit Go.Proofs Go.Tr
end Go.Proofs.YtcjhkgfmklgikaaGreat
