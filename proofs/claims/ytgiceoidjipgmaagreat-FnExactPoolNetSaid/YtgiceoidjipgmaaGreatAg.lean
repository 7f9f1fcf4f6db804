
/- Kinds, levels and classes of agents, on both sides, by the symbolic machine. -/
import Derived.Test.YtgiceoidjipgmaaGreatShort
import Derived.Test.YtgiceoidjipgmaaGreatProg
import Derived.Test.YtgiceoidjipgmaaGreatVti
import Derived.Test.YtgiceoidjipgmaaGreatVV
import Derived.Test.YtgiceoidjipgmaaGreatNet
set_option linter.unusedSimpArgs false
set_option linter.unusedVariables false
namespace Go.Proofs.YtgiceoidjipgmaaGreat
open Go Go.RowKit Go.Proofs Go.Tr
theorem qX(a b:Bool):(bif a then b else false)=(a&&b):=by cases a<;>rfl
theorem LH(a b:Bool):(bif a then true else b)=(a||b):=by cases a<;>rfl
theorem K7(n lo hi:Int):aF Tryz.prog 31 [.int .i64 n,.int .i64 lo,.int .i64 hi] (.bool (bJ n lo hi)):=by
 refine aF.intro (nt:=15) aQ mixed (by kernel_rfl) Tryz.func31 rfl rfl rfl rfl rfl ?_;exact qX _ _
theorem K9(n:Int):aF Tryz.prog 151 [.int .i64 n] (.bool (kg n)):=by
 refine aF.intro (nt:=9) aQ mixed (by kernel_rfl) Tryz.func151 rfl rfl rfl rfl rfl ?_;exact qX _ _
theorem Mg(n:Int):aF Tryz.prog 153 [.int .i64 n] (.bool (Ky n)):=by
 refine aF.intro (nt:=9) aQ mixed (by kernel_rfl) Tryz.func153 rfl rfl rfl rfl rfl ?_;exact qX _ _
theorem Ko(k:Int):aF Tryz.prog 152 [.int .i64 k] (.bool (lS k)):=by
 refine aF.intro (nt:=17) aQ mixed (by kernel_rfl) Tryz.func152 rfl rfl rfl rfl rfl ?_;refine Or.inl (eI _ (aI (K9 k) ?_));refine Eq.trans (Eq.refl _) ?_;simp only[qX,lS]
theorem LD(k l:Int):aF Tryz.prog 143 [.int .i64 k,.int .i64 l] (.bool (iZ k l)):=by
 refine aF.intro (nt:=19) aQ mixed (by kernel_rfl) Tryz.func143 rfl rfl rfl rfl rfl ?_;refine Or.inl (eI _ (aI (K9 k) ?_));refine Or.inl (eI _ (aI (fun _=>Ko k) ?_));refine Or.inl (eI _ (aI (fun _=>Mg l) ?_));refine Eq.trans (Eq.refl _) ?_;simp only[qX,LH,iZ]
end Go.Proofs.YtgiceoidjipgmaaGreat
