
/- The program's recorder: what is selected, what may be recorded. -/
import Derived.Test.YtemalpelcdmemaaGreatShort
import Derived.Test.YtemalpelcdmemaaGreatUc
import Derived.Test.YtemalpelcdmemaaGreatRa
import Derived.Test.YtemalpelcdmemaaGreatIo
set_option linter.unusedSimpArgs false
set_option linter.unusedVariables false
namespace Go.Proofs.YtemalpelcdmemaaGreat
open Go Go.RowKit Go.Proofs Go.Tr
theorem X5:callOk Tryz.prog 77=true:=by kernel_rfl
set_option maxRecDepth 100000 in
theorem selQ(sch:List Int)(ps:List (Int×Int))(k:Int)(hs:∀z∈sch,0≤z)(hk:0≤k)(hp:0<ps.length):aO Tryz.prog 77 [.rsl (.int .i64) sch,.rsl uPort ps,.int .i64 k] (vP (uH sch ps k)):=by
 refine aO.intro (nt:=25) ti_ok mixed X5 Tryz.func77 rfl rfl rfl rfl rfl ?_;have hb:=selI_in hs (n:=((ps.length:Nat):Int)) (by omega) k;refine aI (fun q1=> ?_) (fun q1=> ?_)
 ·have q2:decide (0<((sch.length:Nat):Int))=true:=q1;have q3:0<((sch.length:Nat):Int):=by simpa using q2
  have e:elt 0 sch (k.tmod ((sch.length:Nat):Int))=schS sch k:=by unfold schS;rw[q2];rfl
  refine aI (show((sch.length:Nat):Int)≠0 by omega) ?_;refine aI (tmodU hk q3) ?_;refine aI (show((ps.length:Nat):Int)≠0 by omega) ?_;refine aI ?_ ?_
  ·show 0≤(elt 0 sch (k.tmod ((sch.length:Nat):Int))).tmod _∧(elt 0 sch (k.tmod ((sch.length:Nat):Int))).tmod _<_;rw[e];exact hb
  ·have e2:uH sch ps k=elt (dflt uPort) ps ((elt 0 sch (k.tmod ((sch.length:Nat):Int))).tmod ((ps.length:Nat):Int)):=by rw[e];rfl
   rw[e2];exact rfl
 ·have q2:decide (0<((sch.length:Nat):Int))=false:=q1;have e:(0:Int)=schS sch k:=by unfold schS;rw[q2];rfl
  refine aI (show((ps.length:Nat):Int)≠0 by omega) ?_;refine aI ?_ ?_
  ·show 0≤(0:Int).tmod ((ps.length:Nat):Int)∧(0:Int).tmod ((ps.length:Nat):Int)<((ps.length:Nat):Int);rw[Int.zero_tmod];omega
  ·have e2:uH sch ps k=elt (dflt uPort) ps ((0:Int).tmod ((ps.length:Nat):Int)):=by unfold uH OC;rw[←e]
   rw[e2];exact rfl
def askN(a b:Bool):Int:=bif a then(bif b then 0 else 2)else 1
noncomputable def vldB(bk:List (List NAgent))(xs:List NAgent):Bool:=mW (bk.map gN)&&je (gN xs)
theorem VL(bk:List (List NAgent))(xs:List NAgent)(h:(bif !mW (bk.map gN)then true else !je (gN xs))=true):vldB bk xs=false:=by
 unfold vldB;revert h;cases mW (bk.map gN)<;>cases je (gN xs)<;>simp
theorem Yv(bk:List (List NAgent))(xs:List NAgent)(h:(bif !mW (bk.map gN)then true else !je (gN xs))=false):vldB bk xs=true:=by
 unfold vldB;revert h;cases mW (bk.map gN)<;>cases je (gN xs)<;>simp
theorem Sk(m st:Int):(!([st].any (Xa m)))=inB st 0 m:=by
 unfold inB Xa;simp only[List.any_cons,List.any_nil,Bool.or_false]
 by_cases h1:st<0
 ·rw[decide_eq_true h1,decide_eq_false (show ¬0≤st by omega)];rfl
 ·rw[decide_eq_false h1,decide_eq_true (show 0≤st by omega),cond_false,Bool.true_and]
  by_cases h2:m<st
  ·rw[decide_eq_true h2,decide_eq_false (show ¬st≤m by omega)];rfl
  ·rw[decide_eq_false h2,decide_eq_true (show st≤m by omega)];rfl
section
variable (bk:List (List NAgent))(xs:List NAgent)(sch:List Int)(st:Int)
end
end Go.Proofs.YtemalpelcdmemaaGreat
