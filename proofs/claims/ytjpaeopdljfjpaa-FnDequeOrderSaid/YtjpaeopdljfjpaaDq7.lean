
/- Deques. Printed by gx_dq.py. -/
import Derived.Test.YtjpaeopdljfjpaaShort
import Derived.Test.YtjpaeopdljfjpaaProg
import Derived.Test.YtjpaeopdljfjpaaSc
import Derived.Test.YtjpaeopdljfjpaaDDq
import Derived.Test.YtjpaeopdljfjpaaNet
import Derived.IntWalk
import Derived.Test.YtjpaeopdljfjpaaDq1
set_option linter.unusedSimpArgs false
set_option linter.unusedVariables false
namespace Go.Tr
def aW(xs:List ah):Nat→List Int
 |0=>[]
 |k+1=>aW xs k++(match xs[k]? with|some a=>if 0<a.todo.length then[((k:Nat):Int)]else[]|none=>[])
theorem xU(xs:List ah):∀k,(aW xs k).length≤k
 |0=>Nat.le_refl _
 |k+1=>by
  have:=xU xs k;unfold aW;rw[qA];cases xs[k]? with
  |none=>simp;omega
  |some a=>by_cases h:0<a.todo.length<;>simp[h]<;>omega
theorem J3{xs:List ah}{k:Nat}{a:ah}(hx:xs[k]? =some a)(h:0<a.todo.length):aW xs (k+1)=aW xs k++[((k:Nat):Int)]:=by simp only[aW,hx,if_pos h]
theorem J2{xs:List ah}{k:Nat}{a:ah}(hx:xs[k]? =some a)(h:a.todo=[]):aW xs (k+1)=aW xs k:=by simp[aW,hx,h]
def sF(xs:List Int):Bool:= !decide ((200:Int)<((xs.length:Nat):Int))&&xs.all (fun n=>aP n 0 600)
def pJ(xs:List ah)(i:Nat):Bool:=match xs[i]? with|some a=>aT a (((i:Nat):Int)==0)|none=>true
def eG(n:Int):Bool:= !((n !=0)&& !aP n 1 1000)
def lg(m:Nat)(h:ak):Bool:=aP h.actor 0 (IntKind.i64.wrap (((m:Nat):Int)-1))&&aP h.value 0 1000
def okB(x:aQ):Bool:=aP ((x.buffer.length:Nat):Int) 1 8&&aP x.top 0 1000&&aP x.bottom (-1) 1000&&aP ((x.actors.length:Nat):Int) 1 4&& !decide ((1000:Int)<((x.taken.length:Nat):Int))&& !decide ((1000:Int)<((x.refused.length:Nat):Int))&&
 x.buffer.all eG&&kg x.actors.length (pJ x.actors)&&x.taken.all (lg x.actors.length)&&x.refused.all (fun n=>aP n 1 1000)&&(match x.actors[0]? with|some a=>uK x a|none=>true)
end Go.Tr
namespace Go.Proofs.Ytjpaeopdljfjpaa
open Go Go.RowKit Go.Proofs Go.Tr
end Go.Proofs.Ytjpaeopdljfjpaa
