
/- RecordTrace: what the reference does. -/
import Derived.Test.YtemalpelcdmemaaGreatShort
import Derived.Test.YtemalpelcdmemaaGreatUe
import Derived.Test.YtemalpelcdmemaaGreatRg
import Derived.Test.YtemalpelcdmemaaGreatUd
set_option linter.unusedSimpArgs false
set_option linter.unusedVariables false
namespace Go.Proofs.YtemalpelcdmemaaGreat
open Go Go.RowKit Go.Proofs Go.Tr
theorem UG:callOk Tryz.prog 89=true:=by kernel_rfl
section
variable (bk:List (List NAgent))(xs:List NAgent)(sch:List Int)(st:Int)
set_option maxRecDepth 100000 in
theorem askQ:aO Tryz.prog 89 [.rsl uNet bk,.rp uNet xs,.rsl (.int .i64) sch,.int .i64 st] (.int .i64 (askN (vldB bk xs) (schedB sch&&inB st 0 4000))):=by
 refine aO.intro (nt:=25) ti_ok mixed UG Tryz.func89 rfl rfl rfl rfl rfl ?_;refine Or.inl (eI _ (aI (Z4 bk) ?_));refine Or.inl (eI _ (aI (fun _=>netQ xs) ?_));refine aI (fun q=> ?_) (fun q=> ?_)
 ·have e:(1:Int)=askN (vldB bk xs) (schedB sch&&inB st 0 4000):=by rw[VL bk xs q];rfl
  exact⟨e,rfl⟩
 have hv:=Yv bk xs q;refine Or.inl (eI _ (aI (Zo sch) ?_));refine Or.inl (eI _ (aI (fun _=>Kk st 0 4000) ?_));refine aI (fun q1=> ?_) (fun q1=> ?_)
 ·have q2:(bif !schedB sch then true else !inB st 0 4000)=true:=q1
  have e:(2:Int)=askN (vldB bk xs) (schedB sch&&inB st 0 4000):=by
   rw[hv];revert q2;cases schedB sch<;>cases inB st 0 4000<;>simp[askN]
  exact⟨e,rfl⟩
 ·have q2:(bif !schedB sch then true else !inB st 0 4000)=false:=q1
  have e:(0:Int)=askN (vldB bk xs) (schedB sch&&inB st 0 4000):=by
   rw[hv];revert q2;cases schedB sch<;>cases inB st 0 4000<;>simp[askN]
  exact⟨e,rfl⟩
theorem sel_t(ps:List (Int×Int))(k:Int)(h:decide (0<((sch.length:Nat):Int))=true):elt (dflt uPort) ps ((elt 0 sch (k.tmod ((sch.length:Nat):Int))).tmod ((ps.length:Nat):Int))=uH sch ps k:=by
 unfold uH OC schS;rw[h];rfl
theorem sel_f(ps:List (Int×Int))(k:Int)(h:decide (0<((sch.length:Nat):Int))=false):elt (dflt uPort) ps 0=uH sch ps k:=by
 unfold uH OC schS;rw[h,cond_false,Int.zero_tmod]
end
end Go.Proofs.YtemalpelcdmemaaGreat
