
/- Deques. Printed by gx_dq.py. -/
import Derived.Test.YtjpaeopdljfjpaaShort
import Derived.Test.YtjpaeopdljfjpaaProg
import Derived.Test.YtjpaeopdljfjpaaSc
import Derived.Test.YtjpaeopdljfjpaaDDq
import Derived.Test.YtjpaeopdljfjpaaNet
import Derived.IntWalk
import Derived.Test.YtjpaeopdljfjpaaDq17
import Derived.Test.YtjpaeopdljfjpaaDq16
import Derived.Test.YtjpaeopdljfjpaaDq13
import Derived.Test.YtjpaeopdljfjpaaDqP
set_option linter.unusedSimpArgs false
set_option linter.unusedVariables false
namespace Go.Tr
def HY(x:aQ):Prop:=∀(k:Nat) (a:ah),0<k→x.actors[k]? =some a→∀n∈a.todo,n=0
theorem Jj{x:aQ}(h:okB x=true):HY x:=by
 intro k a h0 hk n hn;have h1:=zT ((zf x).1 h).acts (qE.1 hk).1;simp only[pJ,hk]at h1;rw[show(((k:Nat):Int)==0)=false by simp;omega]at h1;simp only[aT,qD,List.all_eq_true]at h1;have h2:=h1.1.2 n hn;simpa[bS]using h2
theorem Ey{y:aQ}{k:Nat}{n0:Int}{tl:List Int}{pc t b x:Int}(h:HY y)(hk:y.actors[k]? =some ⟨n0::tl,pc,t,b,x⟩)(hpc:pc=0∨pc=1∨pc=2∨pc=3)(hp0:k=0→n0≠0→pc≠3):HY (bP y k ⟨n0::tl,pc,t,b,x⟩):=by
 intro j a h0 hj n hn;rw[qw]at hj
 by_cases hkj:k=j
 ·subst hkj;rw[List.getElem?_set_self (qE.1 hk).1]at hj;obtain rfl:=Option.some.inj hj;rcases uj (y:=y) (tl:=tl) (t:=t) (b:=b) (x:=x) hpc hp0 with h1|⟨h1,_⟩
  ·rw[h1]at hn;exact h k _ h0 hk n (List.mem_cons_of_mem _ hn)
  ·rw[h1]at hn;exact h k _ h0 hk n hn
 ·rw[List.getElem?_set_ne hkj]at hj;exact h j a h0 hj n hn
end Go.Tr
namespace Go.Proofs.Ytjpaeopdljfjpaa
open Go Go.RowKit Go.Proofs Go.Tr
end Go.Proofs.Ytjpaeopdljfjpaa
