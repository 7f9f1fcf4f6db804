
/- Kinds, levels and classes of agents: what the program's functions and the reference's return. -/
import Derived.Test.YtgiceoidjipgmaaGreatProg
import Derived.Test.YtgiceoidjipgmaaGreatNet
set_option maxHeartbeats 400000
set_option linter.unusedSimpArgs false
set_option linter.unusedVariables false
namespace Go.Proofs.YtgiceoidjipgmaaGreat
open Go Go.RowKit Go.Proofs Go.Tr
theorem pO(n lo hi:Int)(w:World):Calls Tryz.prog 31 #[.int .i64 n,.int .i64 lo,.int .i64 hi] w fun e w'=>e=.returned (.bool (bJ n lo hi))∧w=w':=by
 by_cases h1:lo≤n
 ·have e1:bJ n lo hi=decide (n≤hi):=by simp[bJ,h1]
  have E1:=Lib.hid e1;clear e1
  go_enter Tryz.func31,Tryz.ntmps31
  go_wp2
  go_ret;simp[E1.out]
 ·have e1:bJ n lo hi=false:=by simp[bJ,h1]
  have E1:=Lib.hid e1;clear e1;have h2:decide (lo≤n)=false:=by simpa using h1
  go_enter Tryz.func31,Tryz.ntmps31
  go_wp2
  go_ret;simp[E1.out]
theorem DC(n:Int)(w:World):Calls Tryz.prog 151 #[.int .i64 n] w fun e w'=>e=.returned (.bool (kg n))∧w=w':=by
 by_cases h1:1≤n
 ·have e1:kg n=decide (n≤12):=by simp[kg,bJ,h1]
  have E1:=Lib.hid e1;clear e1
  go_enter Tryz.func151,Tryz.ntmps151
  go_wp2
  go_ret;simp[E1.out]
 ·have e1:kg n=false:=by simp[kg,bJ,h1]
  have E1:=Lib.hid e1;clear e1;have h2:decide (1≤n)=false:=by simpa using h1
  go_enter Tryz.func151,Tryz.ntmps151
  go_wp2
  go_ret;simp[E1.out]
theorem jX(n:Int)(w:World):Calls Tryz.prog 148 #[.int .i64 n] w fun e w'=>e=.returned (.bool (lS n))∧w=w':=by
 cases hk:kg n
 ·rw[mq hk];have h:=K6 hk
  go_enter Tryz.func148,Tryz.ntmps148
  go_wp2
  all_goals go_ret
  all_goals first|exact⟨rfl,rfl⟩|(exfalso;omega)
 ·rcases wI hk with rfl|rfl|rfl|rfl|rfl|rfl|rfl|rfl|rfl|rfl|rfl|rfl
  all_goals
   go_enter Tryz.func148,Tryz.ntmps148
   go_wp2
   go_ret;exact⟨rfl,rfl⟩
theorem uH(n:Int)(w:World):Calls Tryz.prog 149 #[.int .i64 n] w fun e w'=>e=.returned (.bool (kg n))∧w=w':=by
 go_enter Tryz.func149,Tryz.ntmps149
 go_wp2_with (first|(go_at_call 31;refine(pO _ _ _ _).mono ?_;rintro e w1 ⟨rfl,rfl⟩))
 go_ret;exact⟨rfl,rfl⟩
theorem Au(k l:Int)(w:World):Calls Tryz.prog 136 #[.int .i64 k,.int .i64 l] w fun e w'=>e=.returned (.bool (iZ k l))∧w=w':=by
 cases hh:lS k
 ·cases hk:kg k
  ·have E:=Lib.hid (uP (l:=l) hk)
   go_enter Tryz.func136,Tryz.ntmps136
   go_wp2_with (first|(go_at_call 148;refine(jX _ _).mono ?_;rintro e w1 ⟨rfl,rfl⟩)|(go_at_call 149;refine(uH _ _).mono ?_;rintro e w1 ⟨rfl,rfl⟩))
   go_ret;exact⟨by rw[E.out];rfl,rfl⟩
  ·have E:=Lib.hid (show iZ k l=(l==0) by simp only[iZ,hk,hh,Bool.true_and,Bool.false_and,Bool.or_false])
   go_enter Tryz.func136,Tryz.ntmps136
   go_wp2_with (first|(go_at_call 148;refine(jX _ _).mono ?_;rintro e w1 ⟨rfl,rfl⟩)|(go_at_call 149;refine(uH _ _).mono ?_;rintro e w1 ⟨rfl,rfl⟩))
   go_ret;exact⟨by rw[E.out];rfl,rfl⟩
 ·have hk:kg k=true:=by
   cases hk:kg k
   ·rw[mq hk]at hh;cases hh
   ·rfl
  have E:=Lib.hid (show iZ k l=bJ l 0 8 by
   simp only[iZ,hk,hh,Bool.true_and,Ky];cases h0:(l==0)
   ·rfl
   ·have:l=0:=by simpa using h0
    subst this;rfl)
  go_enter Tryz.func136,Tryz.ntmps136
  go_wp2_with (first|(go_at_call 148;refine(jX _ _).mono ?_;rintro e w1 ⟨rfl,rfl⟩)|(go_at_call 31;refine(pO _ _ _ _).mono ?_;rintro e w1 ⟨rfl,rfl⟩))
  go_ret;exact⟨by rw[E.out];rfl,rfl⟩
end Go.Proofs.YtgiceoidjipgmaaGreat
