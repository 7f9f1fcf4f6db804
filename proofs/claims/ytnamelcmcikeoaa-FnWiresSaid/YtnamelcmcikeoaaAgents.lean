
/- Kinds, levels and classes of agents: what the program's functions and the reference's return. -/
import Derived.Test.YtnamelcmcikeoaaProg
import Derived.Test.YtnamelcmcikeoaaValid
set_option maxHeartbeats 400000
set_option linter.unusedSimpArgs false
set_option linter.unusedVariables false
namespace Go.Proofs.Ytnamelcmcikeoaa
open Go Go.RowKit Go.Proofs Go.Tr
theorem lH(n lo hi:Int)(w:World):Calls Try.prog 46 #[.int .i64 n,.int .i64 lo,.int .i64 hi] w fun e w'=>e=.returned (.bool (fK n lo hi))∧w=w':=by
 by_cases h1:lo≤n
 ·have e1:fK n lo hi=decide (n≤hi):=by simp[fK,h1]
  have E1:=Lib.hid e1;clear e1
  go_enter Try.func46,Try.ntmps46
  go_wp2
  go_ret;simp[E1.out]
 ·have e1:fK n lo hi=false:=by simp[fK,h1]
  have E1:=Lib.hid e1;clear e1;have h2:decide (lo≤n)=false:=by simpa using h1
  go_enter Try.func46,Try.ntmps46
  go_wp2
  go_ret;simp[E1.out]
theorem Ew(n:Int)(w:World):Calls Try.prog 66 #[.int .i64 n] w fun e w'=>e=.returned (.bool (dz n))∧w=w':=by
 by_cases h1:1≤n
 ·have e1:dz n=decide (n≤12):=by simp[dz,fK,h1]
  have E1:=Lib.hid e1;clear e1
  go_enter Try.func66,Try.ntmps66
  go_wp2
  go_ret;simp[E1.out]
 ·have e1:dz n=false:=by simp[dz,fK,h1]
  have E1:=Lib.hid e1;clear e1;have h2:decide (1≤n)=false:=by simpa using h1
  go_enter Try.func66,Try.ntmps66
  go_wp2
  go_ret;simp[E1.out]
theorem kD(n:Int)(w:World):Calls Try.prog 70 #[.int .i64 n] w fun e w'=>e=.returned (.bool (bn n))∧w=w':=by
 cases hk:dz n
 ·rw[nu hk];have h:=NW hk
  go_enter Try.func70,Try.ntmps70
  go_wp2
  all_goals go_ret
  all_goals first|exact⟨rfl,rfl⟩|(exfalso;omega)
 ·rcases ru hk with rfl|rfl|rfl|rfl|rfl|rfl|rfl|rfl|rfl|rfl|rfl|rfl
  all_goals
   go_enter Try.func70,Try.ntmps70
   go_wp2
   go_ret;exact⟨rfl,rfl⟩
theorem vC(n:Int)(w:World):Calls Try.prog 71 #[.int .i64 n] w fun e w'=>e=.returned (.bool (dz n))∧w=w':=by
 go_enter Try.func71,Try.ntmps71
 go_wp2_with (first|(go_at_call 46;refine(lH _ _ _ _).mono ?_;rintro e w1 ⟨rfl,rfl⟩))
 go_ret;exact⟨rfl,rfl⟩
theorem AL(k l:Int)(w:World):Calls Try.prog 64 #[.int .i64 k,.int .i64 l] w fun e w'=>e=.returned (.bool (dH k l))∧w=w':=by
 cases hh:bn k
 ·cases hk:dz k
  ·have E:=Lib.hid (vQ (l:=l) hk)
   go_enter Try.func64,Try.ntmps64
   go_wp2_with (first|(go_at_call 70;refine(kD _ _).mono ?_;rintro e w1 ⟨rfl,rfl⟩)|(go_at_call 71;refine(vC _ _).mono ?_;rintro e w1 ⟨rfl,rfl⟩))
   go_ret;exact⟨by rw[E.out];rfl,rfl⟩
  ·have E:=Lib.hid (show dH k l=(l==0) by simp only[dH,hk,hh,Bool.true_and,Bool.false_and,Bool.or_false])
   go_enter Try.func64,Try.ntmps64
   go_wp2_with (first|(go_at_call 70;refine(kD _ _).mono ?_;rintro e w1 ⟨rfl,rfl⟩)|(go_at_call 71;refine(vC _ _).mono ?_;rintro e w1 ⟨rfl,rfl⟩))
   go_ret;exact⟨by rw[E.out];rfl,rfl⟩
 ·have hk:dz k=true:=by
   cases hk:dz k
   ·rw[nu hk]at hh;cases hh
   ·rfl
  have E:=Lib.hid (show dH k l=fK l 0 8 by
   simp only[dH,hk,hh,Bool.true_and,uJ];cases h0:(l==0)
   ·rfl
   ·have:l=0:=by simpa using h0
    subst this;rfl)
  go_enter Try.func64,Try.ntmps64
  go_wp2_with (first|(go_at_call 70;refine(kD _ _).mono ?_;rintro e w1 ⟨rfl,rfl⟩)|(go_at_call 46;refine(lH _ _ _ _).mono ?_;rintro e w1 ⟨rfl,rfl⟩))
  go_ret;exact⟨by rw[E.out];rfl,rfl⟩
end Go.Proofs.Ytnamelcmcikeoaa
