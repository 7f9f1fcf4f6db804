
/- Kinds, levels and classes of agents: what the program's functions and the reference's return. -/
import Derived.Test.YtjijpkphkicoeaaGreatProg
import Derived.Test.YtjijpkphkicoeaaGreatValid
set_option maxHeartbeats 400000
set_option linter.unusedSimpArgs false
set_option linter.unusedVariables false
namespace Go.Proofs.YtjijpkphkicoeaaGreat
open Go Go.RowKit Go.Proofs Go.Tr
theorem kI(n lo hi:Int)(w:World):Calls Tryz.prog 87 #[.int .i64 n,.int .i64 lo,.int .i64 hi] w fun e w'=>e=.returned (.bool (inB n lo hi))∧w=w':=by
 by_cases h1:lo≤n
 ·have e1:inB n lo hi=decide (n≤hi):=by simp[inB,h1]
  have E1:=Lib.hid e1;clear e1
  go_enter Tryz.func87,Tryz.ntmps87
  go_wp2
  go_ret;simp[E1.out]
 ·have e1:inB n lo hi=false:=by simp[inB,h1]
  have E1:=Lib.hid e1;clear e1;have h2:decide (lo≤n)=false:=by simpa using h1
  go_enter Tryz.func87,Tryz.ntmps87
  go_wp2
  go_ret;simp[E1.out]
theorem GL(n:Int)(w:World):Calls Tryz.prog 187 #[.int .i64 n] w fun e w'=>e=.returned (.bool (iM n))∧w=w':=by
 by_cases h1:1≤n
 ·have e1:iM n=decide (n≤12):=by simp[iM,inB,h1]
  have E1:=Lib.hid e1;clear e1
  go_enter Tryz.func187,Tryz.ntmps187
  go_wp2
  go_ret;simp[E1.out]
 ·have e1:iM n=false:=by simp[iM,inB,h1]
  have E1:=Lib.hid e1;clear e1;have h2:decide (1≤n)=false:=by simpa using h1
  go_enter Tryz.func187,Tryz.ntmps187
  go_wp2
  go_ret;simp[E1.out]
theorem kN(n:Int)(w:World):Calls Tryz.prog 180 #[.int .i64 n] w fun e w'=>e=.returned (.bool (aU n))∧w=w':=by
 cases hk:iM n
 ·rw[kG hk];have h:=Mh hk
  go_enter Tryz.func180,Tryz.ntmps180
  go_wp2
  all_goals go_ret
  all_goals first|exact⟨rfl,rfl⟩|(exfalso;omega)
 ·rcases zm hk with rfl|rfl|rfl|rfl|rfl|rfl|rfl|rfl|rfl|rfl|rfl|rfl
  all_goals
   go_enter Tryz.func180,Tryz.ntmps180
   go_wp2
   go_ret;exact⟨rfl,rfl⟩
theorem xV(n:Int)(w:World):Calls Tryz.prog 207 #[.int .i64 n] w fun e w'=>e=.returned (.bool (iM n))∧w=w':=by
 go_enter Tryz.func207,Tryz.ntmps207
 go_wp2_with (first|(go_at_call 87;refine(kI _ _ _ _).mono ?_;rintro e w1 ⟨rfl,rfl⟩))
 go_ret;exact⟨rfl,rfl⟩
theorem Du(k l:Int)(w:World):Calls Tryz.prog 195 #[.int .i64 k,.int .i64 l] w fun e w'=>e=.returned (.bool (bf k l))∧w=w':=by
 cases hh:aU k
 ·cases hk:iM k
  ·have E:=Lib.hid (yc (l:=l) hk)
   go_enter Tryz.func195,Tryz.ntmps195
   go_wp2_with (first|(go_at_call 180;refine(kN _ _).mono ?_;rintro e w1 ⟨rfl,rfl⟩)|(go_at_call 207;refine(xV _ _).mono ?_;rintro e w1 ⟨rfl,rfl⟩))
   go_ret;exact⟨by rw[E.out];rfl,rfl⟩
  ·have E:=Lib.hid (show bf k l=(l==0) by simp only[bf,hk,hh,Bool.true_and,Bool.false_and,Bool.or_false])
   go_enter Tryz.func195,Tryz.ntmps195
   go_wp2_with (first|(go_at_call 180;refine(kN _ _).mono ?_;rintro e w1 ⟨rfl,rfl⟩)|(go_at_call 207;refine(xV _ _).mono ?_;rintro e w1 ⟨rfl,rfl⟩))
   go_ret;exact⟨by rw[E.out];rfl,rfl⟩
 ·have hk:iM k=true:=by
   cases hk:iM k
   ·rw[kG hk]at hh;cases hh
   ·rfl
  have E:=Lib.hid (show bf k l=inB l 0 8 by
   simp only[bf,hk,hh,Bool.true_and,tC];cases h0:(l==0)
   ·rfl
   ·have:l=0:=by simpa using h0
    subst this;rfl)
  go_enter Tryz.func195,Tryz.ntmps195
  go_wp2_with (first|(go_at_call 180;refine(kN _ _).mono ?_;rintro e w1 ⟨rfl,rfl⟩)|(go_at_call 87;refine(kI _ _ _ _).mono ?_;rintro e w1 ⟨rfl,rfl⟩))
  go_ret;exact⟨by rw[E.out];rfl,rfl⟩
end Go.Proofs.YtjijpkphkicoeaaGreat
