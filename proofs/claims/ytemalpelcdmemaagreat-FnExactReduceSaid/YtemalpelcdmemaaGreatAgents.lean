
/- Kinds, levels and classes of agents: what the program's functions and the reference's return. -/
import Derived.Test.YtemalpelcdmemaaGreatProg
import Derived.Test.YtemalpelcdmemaaGreatValid
set_option maxHeartbeats 400000
set_option linter.unusedSimpArgs false
set_option linter.unusedVariables false
namespace Go.Proofs.YtemalpelcdmemaaGreat
open Go Go.RowKit Go.Proofs Go.Tr
theorem oJ(n lo hi:Int)(w:World):Calls Tryz.prog 81 #[.int .i64 n,.int .i64 lo,.int .i64 hi] w fun e w'=>e=.returned (.bool (inB n lo hi))∧w=w':=by
 by_cases h1:lo≤n
 ·have e1:inB n lo hi=decide (n≤hi):=by simp[inB,h1]
  have E1:=Lib.hid e1;clear e1
  go_enter Tryz.func81,Tryz.ntmps81
  go_wp2
  go_ret;simp[E1.out]
 ·have e1:inB n lo hi=false:=by simp[inB,h1]
  have E1:=Lib.hid e1;clear e1;have h2:decide (lo≤n)=false:=by simpa using h1
  go_enter Tryz.func81,Tryz.ntmps81
  go_wp2
  go_ret;simp[E1.out]
theorem MW(n:Int)(w:World):Calls Tryz.prog 220 #[.int .i64 n] w fun e w'=>e=.returned (.bool (kW n))∧w=w':=by
 by_cases h1:1≤n
 ·have e1:kW n=decide (n≤12):=by simp[kW,inB,h1]
  have E1:=Lib.hid e1;clear e1
  go_enter Tryz.func220,Tryz.ntmps220
  go_wp2
  go_ret;simp[E1.out]
 ·have e1:kW n=false:=by simp[kW,inB,h1]
  have E1:=Lib.hid e1;clear e1;have h2:decide (1≤n)=false:=by simpa using h1
  go_enter Tryz.func220,Tryz.ntmps220
  go_wp2
  go_ret;simp[E1.out]
theorem oQ(n:Int)(w:World):Calls Tryz.prog 219 #[.int .i64 n] w fun e w'=>e=.returned (.bool (bW n))∧w=w':=by
 cases hk:kW n
 ·rw[oH hk];have h:=Sl hk
  go_enter Tryz.func219,Tryz.ntmps219
  go_wp2
  all_goals go_ret
  all_goals first|exact⟨rfl,rfl⟩|(exfalso;omega)
 ·rcases EC hk with rfl|rfl|rfl|rfl|rfl|rfl|rfl|rfl|rfl|rfl|rfl|rfl
  all_goals
   go_enter Tryz.func219,Tryz.ntmps219
   go_wp2
   go_ret;exact⟨rfl,rfl⟩
theorem CQ(n:Int)(w:World):Calls Tryz.prog 239 #[.int .i64 n] w fun e w'=>e=.returned (.bool (kW n))∧w=w':=by
 go_enter Tryz.func239,Tryz.ntmps239
 go_wp2_with (first|(go_at_call 81;refine(oJ _ _ _ _).mono ?_;rintro e w1 ⟨rfl,rfl⟩))
 go_ret;exact⟨rfl,rfl⟩
theorem JA(k l:Int)(w:World):Calls Tryz.prog 227 #[.int .i64 k,.int .i64 l] w fun e w'=>e=.returned (.bool (dz k l))∧w=w':=by
 cases hh:bW k
 ·cases hk:kW k
  ·have E:=Lib.hid (CY (l:=l) hk)
   go_enter Tryz.func227,Tryz.ntmps227
   go_wp2_with (first|(go_at_call 219;refine(oQ _ _).mono ?_;rintro e w1 ⟨rfl,rfl⟩)|(go_at_call 239;refine(CQ _ _).mono ?_;rintro e w1 ⟨rfl,rfl⟩))
   go_ret;exact⟨by rw[E.out];rfl,rfl⟩
  ·have E:=Lib.hid (show dz k l=(l==0) by simp only[dz,hk,hh,Bool.true_and,Bool.false_and,Bool.or_false])
   go_enter Tryz.func227,Tryz.ntmps227
   go_wp2_with (first|(go_at_call 219;refine(oQ _ _).mono ?_;rintro e w1 ⟨rfl,rfl⟩)|(go_at_call 239;refine(CQ _ _).mono ?_;rintro e w1 ⟨rfl,rfl⟩))
   go_ret;exact⟨by rw[E.out];rfl,rfl⟩
 ·have hk:kW k=true:=by
   cases hk:kW k
   ·rw[oH hk]at hh;cases hh
   ·rfl
  have E:=Lib.hid (show dz k l=inB l 0 8 by
   simp only[dz,hk,hh,Bool.true_and,yJ];cases h0:(l==0)
   ·rfl
   ·have:l=0:=by simpa using h0
    subst this;rfl)
  go_enter Tryz.func227,Tryz.ntmps227
  go_wp2_with (first|(go_at_call 219;refine(oQ _ _).mono ?_;rintro e w1 ⟨rfl,rfl⟩)|(go_at_call 81;refine(oJ _ _ _ _).mono ?_;rintro e w1 ⟨rfl,rfl⟩))
  go_ret;exact⟨by rw[E.out];rfl,rfl⟩
end Go.Proofs.YtemalpelcdmemaaGreat
