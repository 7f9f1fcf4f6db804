
/- The program's pairs of a net. -/
import Derived.Test.YtjpaeopdljfjpaaGreatShort
import Derived.Test.YtjpaeopdljfjpaaGreatIo
import Derived.Test.YtjpaeopdljfjpaaGreatVV
import Derived.Test.YtjpaeopdljfjpaaGreatUp
import Derived.Test.YtjpaeopdljfjpaaGreatRd
import Derived.Test.YtjpaeopdljfjpaaGreatRa
set_option linter.unusedSimpArgs false
set_option linter.unusedVariables false
namespace Go.Proofs.YtjpaeopdljfjpaaGreat
open Go Go.RowKit Go.Proofs Go.Tr
section
variable (xs:List ah)(us:List Value)(bk:List (List ah))(kv:List (Int×Bool))(ev:List tV)
end
end Go.Proofs.YtjpaeopdljfjpaaGreat
namespace Go.Proofs.YtjpaeopdljfjpaaGreat
open Go Go.RowKit Go.Proofs Go.Tr
def p9(a b:Bool):Int:=bif a then(bif b then 0 else 2)else 1
noncomputable def jh(bk:List (List ah))(xs:List ah):Bool:=ig (bk.map gN)&&eY (gN xs)
theorem QO(bk:List (List ah))(xs:List ah)(h:(bif !ig (bk.map gN)then true else !eY (gN xs))=true):jh bk xs=false:=by
 unfold jh;revert h;cases ig (bk.map gN)<;>cases eY (gN xs)<;>simp
theorem QS(bk:List (List ah))(xs:List ah)(h:(bif !ig (bk.map gN)then true else !eY (gN xs))=false):jh bk xs=true:=by
 unfold jh;revert h;cases ig (bk.map gN)<;>cases eY (gN xs)<;>simp
theorem K6:fD Tryz.prog 21=true:=by kernel_rfl
section
variable (bk:List (List ah))(xs:List ah)(sch:List Int)(st:Int)
set_option maxRecDepth 100000 in
theorem Rb:bE Tryz.prog 21 [.rsl fG bk,.rp fG xs,.rsl (.int .i64) sch,.int .i64 st] (.int .i64 (p9 (jh bk xs) (bn sch&&cB st 0 4000))):=by
 refine bE.intro (nt:=25) fJ mixed K6 Tryz.func21 rfl rfl rfl rfl rfl ?_;refine Or.inl (eI _ (aI (Qg bk) ?_));refine Or.inl (eI _ (aI (fun _=>RN xs) ?_));refine aI (fun q=> ?_) (fun q=> ?_)
 ·have e:(1:Int)=p9 (jh bk xs) (bn sch&&cB st 0 4000):=by rw[QO bk xs q];rfl
  exact⟨e,rfl⟩
 have hv:=QS bk xs q;refine Or.inl (eI _ (aI (Pv sch) ?_));refine Or.inl (eI _ (aI (fun _=>KJ st 0 4000) ?_));refine aI (fun q1=> ?_) (fun q1=> ?_)
 ·have q2:(bif !bn sch then true else !cB st 0 4000)=true:=q1
  have e:(2:Int)=p9 (jh bk xs) (bn sch&&cB st 0 4000):=by
   rw[hv];revert q2;cases bn sch<;>cases cB st 0 4000<;>simp[p9]
  exact⟨e,rfl⟩
 ·have q2:(bif !bn sch then true else !cB st 0 4000)=false:=q1
  have e:(0:Int)=p9 (jh bk xs) (bn sch&&cB st 0 4000):=by
   rw[hv];revert q2;cases bn sch<;>cases cB st 0 4000<;>simp[p9]
  exact⟨e,rfl⟩
end
end Go.Proofs.YtjpaeopdljfjpaaGreat
