
/- Kinds, levels and classes of agents: what the program's functions and the reference's return. -/
import Derived.Test.YtjijpkphkicoeaaGreatProg
import Derived.Test.YtjijpkphkicoeaaGreatValid
set_option maxHeartbeats 400000
set_option linter.unusedSimpArgs false
set_option linter.unusedVariables false
namespace Go.Proofs.YtjijpkphkicoeaaGreat
open Go Go.RowKit Go.Proofs Go.Tr
theorem nu(n lo hi:Int)(w:World):Calls Tryz.prog 87 #[.int .i64 n,.int .i64 lo,.int .i64 hi] w fun e w'=>e=.returned (.bool (dX n lo hi))∧w=w':=by
 by_cases h1:lo≤n
 ·have e1:dX n lo hi=decide (n≤hi):=by simp[dX,h1]
  have E1:=Lib.hid e1;clear e1
  go_enter Tryz.func87,Tryz.ntmps87
  go_wp2
  go_ret;simp[E1.out]
 ·have e1:dX n lo hi=false:=by simp[dX,h1]
  have E1:=Lib.hid e1;clear e1;have h2:decide (lo≤n)=false:=by simpa using h1
  go_enter Tryz.func87,Tryz.ntmps87
  go_wp2
  go_ret;simp[E1.out]
theorem LC(n:Int)(w:World):Calls Tryz.prog 187 #[.int .i64 n] w fun e w'=>e=.returned (.bool (kg n))∧w=w':=by
 by_cases h1:1≤n
 ·have e1:kg n=decide (n≤12):=by simp[kg,dX,h1]
  have E1:=Lib.hid e1;clear e1
  go_enter Tryz.func187,Tryz.ntmps187
  go_wp2
  go_ret;simp[E1.out]
 ·have e1:kg n=false:=by simp[kg,dX,h1]
  have E1:=Lib.hid e1;clear e1;have h2:decide (1≤n)=false:=by simpa using h1
  go_enter Tryz.func187,Tryz.ntmps187
  go_wp2
  go_ret;simp[E1.out]
theorem nH(n:Int)(w:World):Calls Tryz.prog 180 #[.int .i64 n] w fun e w'=>e=.returned (.bool (bR n))∧w=w':=by
 cases hk:kg n
 ·rw[ng hk];have h:=Ri hk
  go_enter Tryz.func180,Tryz.ntmps180
  go_wp2
  all_goals go_ret
  all_goals first|exact⟨rfl,rfl⟩|(exfalso;omega)
 ·rcases CY hk with rfl|rfl|rfl|rfl|rfl|rfl|rfl|rfl|rfl|rfl|rfl|rfl
  all_goals
   go_enter Tryz.func180,Tryz.ntmps180
   go_wp2
   go_ret;exact⟨rfl,rfl⟩
theorem Bh(n:Int)(w:World):Calls Tryz.prog 207 #[.int .i64 n] w fun e w'=>e=.returned (.bool (kg n))∧w=w':=by
 go_enter Tryz.func207,Tryz.ntmps207
 go_wp2_with (first|(go_at_call 87;refine(nu _ _ _ _).mono ?_;rintro e w1 ⟨rfl,rfl⟩))
 go_ret;exact⟨rfl,rfl⟩
theorem Ie(k l:Int)(w:World):Calls Tryz.prog 195 #[.int .i64 k,.int .i64 l] w fun e w'=>e=.returned (.bool (cO k l))∧w=w':=by
 cases hh:bR k
 ·cases hk:kg k
  ·have E:=Lib.hid (Bv (l:=l) hk)
   go_enter Tryz.func195,Tryz.ntmps195
   go_wp2_with (first|(go_at_call 180;refine(nH _ _).mono ?_;rintro e w1 ⟨rfl,rfl⟩)|(go_at_call 207;refine(Bh _ _).mono ?_;rintro e w1 ⟨rfl,rfl⟩))
   go_ret;exact⟨by rw[E.out];rfl,rfl⟩
  ·have E:=Lib.hid (show cO k l=(l==0) by simp only[cO,hk,hh,Bool.true_and,Bool.false_and,Bool.or_false])
   go_enter Tryz.func195,Tryz.ntmps195
   go_wp2_with (first|(go_at_call 180;refine(nH _ _).mono ?_;rintro e w1 ⟨rfl,rfl⟩)|(go_at_call 207;refine(Bh _ _).mono ?_;rintro e w1 ⟨rfl,rfl⟩))
   go_ret;exact⟨by rw[E.out];rfl,rfl⟩
 ·have hk:kg k=true:=by
   cases hk:kg k
   ·rw[ng hk]at hh;cases hh
   ·rfl
  have E:=Lib.hid (show cO k l=dX l 0 8 by
   simp only[cO,hk,hh,Bool.true_and,xH];cases h0:(l==0)
   ·rfl
   ·have:l=0:=by simpa using h0
    subst this;rfl)
  go_enter Tryz.func195,Tryz.ntmps195
  go_wp2_with (first|(go_at_call 180;refine(nH _ _).mono ?_;rintro e w1 ⟨rfl,rfl⟩)|(go_at_call 87;refine(nu _ _ _ _).mono ?_;rintro e w1 ⟨rfl,rfl⟩))
  go_ret;exact⟨by rw[E.out];rfl,rfl⟩
end Go.Proofs.YtjijpkphkicoeaaGreat
