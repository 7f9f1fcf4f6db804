
/- Kinds, levels and classes of agents: what the program's functions and the reference's return. -/
import Derived.Test.YtcjhkgfmklgikaaGreatProg
import Derived.Test.YtcjhkgfmklgikaaGreatValid
set_option maxHeartbeats 400000
set_option linter.unusedSimpArgs false
set_option linter.unusedVariables false
namespace Go.Proofs.YtcjhkgfmklgikaaGreat
open Go Go.RowKit Go.Proofs Go.Tr
theorem nE(n lo hi:Int)(w:World):Calls Tryz.prog 55 #[.int .i64 n,.int .i64 lo,.int .i64 hi] w fun e w'=>e=.returned (.bool (dS n lo hi))∧w=w':=by
 by_cases h1:lo≤n
 ·have e1:dS n lo hi=decide (n≤hi):=by simp[dS,h1]
  have E1:=Lib.hid e1;clear e1
  go_enter Tryz.func55,Tryz.ntmps55
  go_wp2
  go_ret;simp[E1.out]
 ·have e1:dS n lo hi=false:=by simp[dS,h1]
  have E1:=Lib.hid e1;clear e1;have h2:decide (lo≤n)=false:=by simpa using h1
  go_enter Tryz.func55,Tryz.ntmps55
  go_wp2
  go_ret;simp[E1.out]
theorem KN(n:Int)(w:World):Calls Tryz.prog 155 #[.int .i64 n] w fun e w'=>e=.returned (.bool (kr n))∧w=w':=by
 by_cases h1:1≤n
 ·have e1:kr n=decide (n≤12):=by simp[kr,dS,h1]
  have E1:=Lib.hid e1;clear e1
  go_enter Tryz.func155,Tryz.ntmps155
  go_wp2
  go_ret;simp[E1.out]
 ·have e1:kr n=false:=by simp[kr,dS,h1]
  have E1:=Lib.hid e1;clear e1;have h2:decide (1≤n)=false:=by simpa using h1
  go_enter Tryz.func155,Tryz.ntmps155
  go_wp2
  go_ret;simp[E1.out]
theorem nK(n:Int)(w:World):Calls Tryz.prog 148 #[.int .i64 n] w fun e w'=>e=.returned (.bool (bR n))∧w=w':=by
 cases hk:kr n
 ·rw[nu hk];have h:=Qk hk
  go_enter Tryz.func148,Tryz.ntmps148
  go_wp2
  all_goals go_ret
  all_goals first|exact⟨rfl,rfl⟩|(exfalso;omega)
 ·rcases CJ hk with rfl|rfl|rfl|rfl|rfl|rfl|rfl|rfl|rfl|rfl|rfl|rfl
  all_goals
   go_enter Tryz.func148,Tryz.ntmps148
   go_wp2
   go_ret;exact⟨rfl,rfl⟩
theorem Bb(n:Int)(w:World):Calls Tryz.prog 175 #[.int .i64 n] w fun e w'=>e=.returned (.bool (kr n))∧w=w':=by
 go_enter Tryz.func175,Tryz.ntmps175
 go_wp2_with (first|(go_at_call 55;refine(nE _ _ _ _).mono ?_;rintro e w1 ⟨rfl,rfl⟩))
 go_ret;exact⟨rfl,rfl⟩
theorem GX(k l:Int)(w:World):Calls Tryz.prog 163 #[.int .i64 k,.int .i64 l] w fun e w'=>e=.returned (.bool (cB k l))∧w=w':=by
 cases hh:bR k
 ·cases hk:kr k
  ·have E:=Lib.hid (Bo (l:=l) hk)
   go_enter Tryz.func163,Tryz.ntmps163
   go_wp2_with (first|(go_at_call 148;refine(nK _ _).mono ?_;rintro e w1 ⟨rfl,rfl⟩)|(go_at_call 175;refine(Bb _ _).mono ?_;rintro e w1 ⟨rfl,rfl⟩))
   go_ret;exact⟨by rw[E.out];rfl,rfl⟩
  ·have E:=Lib.hid (show cB k l=(l==0) by simp only[cB,hk,hh,Bool.true_and,Bool.false_and,Bool.or_false])
   go_enter Tryz.func163,Tryz.ntmps163
   go_wp2_with (first|(go_at_call 148;refine(nK _ _).mono ?_;rintro e w1 ⟨rfl,rfl⟩)|(go_at_call 175;refine(Bb _ _).mono ?_;rintro e w1 ⟨rfl,rfl⟩))
   go_ret;exact⟨by rw[E.out];rfl,rfl⟩
 ·have hk:kr k=true:=by
   cases hk:kr k
   ·rw[nu hk]at hh;cases hh
   ·rfl
  have E:=Lib.hid (show cB k l=dS l 0 8 by
   simp only[cB,hk,hh,Bool.true_and,xD];cases h0:(l==0)
   ·rfl
   ·have:l=0:=by simpa using h0
    subst this;rfl)
  go_enter Tryz.func163,Tryz.ntmps163
  go_wp2_with (first|(go_at_call 148;refine(nK _ _).mono ?_;rintro e w1 ⟨rfl,rfl⟩)|(go_at_call 55;refine(nE _ _ _ _).mono ?_;rintro e w1 ⟨rfl,rfl⟩))
  go_ret;exact⟨by rw[E.out];rfl,rfl⟩
end Go.Proofs.YtcjhkgfmklgikaaGreat
