
/- RecordTrace: both sides; the contracts for the law. -/
import Derived.Test.YtemalpelcdmemaaGreatUg
import Derived.Test.YtemalpelcdmemaaGreatRm
import Derived.Test.YtemalpelcdmemaaGreatKEv
set_option linter.unusedSimpArgs false
set_option linter.unusedVariables false
namespace Go.Tr
open Go Go.RowKit
theorem RH{l:List Int}(h:schedB l=true):∀z∈l,0≤z:=fun z hz=>by
 unfold schedB at h;rw[Bool.and_eq_true]at h;obtain⟨i,hi,rfl⟩:=List.mem_iff_getElem.1 hz;have:=kV h.2 hi;have e:eD l i=l[i]:=by unfold eD;rw[List.getD_eq_getElem?_getD,List.getElem?_eq_getElem hi];rfl
 rw[e]at this;exact(kr this).1
end Go.Tr
namespace Go.Proofs.YtemalpelcdmemaaGreat
open Go Go.RowKit Go.Proofs Go.Tr
section
variable (a0:List aH){A0:Option Addr}{c0:Nat}{p0:List Nat}(a1:aH){p1:List Nat}{u1:List Value}(a2:List Int){A2:Option Addr}{c2:Nat}{p2:List Nat}(a3:Int)(r0:List GEvent)(r1:Int)
end
end Go.Proofs.YtemalpelcdmemaaGreat
