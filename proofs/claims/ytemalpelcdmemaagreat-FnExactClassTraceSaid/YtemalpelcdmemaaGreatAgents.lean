
/- Kinds, levels and classes of agents: what the program's functions and the reference's return. -/
import Derived.Test.YtemalpelcdmemaaGreatProg
import Derived.Test.YtemalpelcdmemaaGreatValid
set_option maxHeartbeats 400000
set_option linter.unusedSimpArgs false
set_option linter.unusedVariables false
namespace Go.Proofs.YtemalpelcdmemaaGreat
open Go Go.RowKit Go.Proofs Go.Tr
theorem oQ(n lo hi:Int)(w:World):Calls Tryz.prog 81 #[.int .i64 n,.int .i64 lo,.int .i64 hi] w fun e w'=>e=.returned (.bool (inB n lo hi))∧w=w':=by
 by_cases h1:lo≤n
 ·have e1:inB n lo hi=decide (n≤hi):=by simp[inB,h1]
  have E1:=Lib.hid e1;clear e1
  go_enter Tryz.func81,Tryz.ntmps81
  go_wp2
  go_ret;simp[E1.out]
 ·have e1:inB n lo hi=false:=by simp[inB,h1]
  have E1:=Lib.hid e1;clear e1;have h2:decide (lo≤n)=false:=by simpa using h1
  go_enter Tryz.func81,Tryz.ntmps81
  go_wp2
  go_ret;simp[E1.out]
theorem NY(n:Int)(w:World):Calls Tryz.prog 220 #[.int .i64 n] w fun e w'=>e=.returned (.bool (lC n))∧w=w':=by
 by_cases h1:1≤n
 ·have e1:lC n=decide (n≤12):=by simp[lC,inB,h1]
  have E1:=Lib.hid e1;clear e1
  go_enter Tryz.func220,Tryz.ntmps220
  go_wp2
  go_ret;simp[E1.out]
 ·have e1:lC n=false:=by simp[lC,inB,h1]
  have E1:=Lib.hid e1;clear e1;have h2:decide (1≤n)=false:=by simpa using h1
  go_enter Tryz.func220,Tryz.ntmps220
  go_wp2
  go_ret;simp[E1.out]
theorem pE(n:Int)(w:World):Calls Tryz.prog 219 #[.int .i64 n] w fun e w'=>e=.returned (.bool (bV n))∧w=w':=by
 cases hk:lC n
 ·rw[oN hk];have h:=Ug hk
  go_enter Tryz.func219,Tryz.ntmps219
  go_wp2
  all_goals go_ret
  all_goals first|exact⟨rfl,rfl⟩|(exfalso;omega)
 ·rcases FL hk with rfl|rfl|rfl|rfl|rfl|rfl|rfl|rfl|rfl|rfl|rfl|rfl
  all_goals
   go_enter Tryz.func219,Tryz.ntmps219
   go_wp2
   go_ret;exact⟨rfl,rfl⟩
theorem DC(n:Int)(w:World):Calls Tryz.prog 239 #[.int .i64 n] w fun e w'=>e=.returned (.bool (lC n))∧w=w':=by
 go_enter Tryz.func239,Tryz.ntmps239
 go_wp2_with (first|(go_at_call 81;refine(oQ _ _ _ _).mono ?_;rintro e w1 ⟨rfl,rfl⟩))
 go_ret;exact⟨rfl,rfl⟩
theorem Kt(k l:Int)(w:World):Calls Tryz.prog 227 #[.int .i64 k,.int .i64 l] w fun e w'=>e=.returned (.bool (dx k l))∧w=w':=by
 cases hh:bV k
 ·cases hk:lC k
  ·have E:=Lib.hid (DR (l:=l) hk)
   go_enter Tryz.func227,Tryz.ntmps227
   go_wp2_with (first|(go_at_call 219;refine(pE _ _).mono ?_;rintro e w1 ⟨rfl,rfl⟩)|(go_at_call 239;refine(DC _ _).mono ?_;rintro e w1 ⟨rfl,rfl⟩))
   go_ret;exact⟨by rw[E.out];rfl,rfl⟩
  ·have E:=Lib.hid (show dx k l=(l==0) by simp only[dx,hk,hh,Bool.true_and,Bool.false_and,Bool.or_false])
   go_enter Tryz.func227,Tryz.ntmps227
   go_wp2_with (first|(go_at_call 219;refine(pE _ _).mono ?_;rintro e w1 ⟨rfl,rfl⟩)|(go_at_call 239;refine(DC _ _).mono ?_;rintro e w1 ⟨rfl,rfl⟩))
   go_ret;exact⟨by rw[E.out];rfl,rfl⟩
 ·have hk:lC k=true:=by
   cases hk:lC k
   ·rw[oN hk]at hh;cases hh
   ·rfl
  have E:=Lib.hid (show dx k l=inB l 0 8 by
   simp only[dx,hk,hh,Bool.true_and,zk];cases h0:(l==0)
   ·rfl
   ·have:l=0:=by simpa using h0
    subst this;rfl)
  go_enter Tryz.func227,Tryz.ntmps227
  go_wp2_with (first|(go_at_call 219;refine(pE _ _).mono ?_;rintro e w1 ⟨rfl,rfl⟩)|(go_at_call 81;refine(oQ _ _ _ _).mono ?_;rintro e w1 ⟨rfl,rfl⟩))
  go_ret;exact⟨by rw[E.out];rfl,rfl⟩
end Go.Proofs.YtemalpelcdmemaaGreat
