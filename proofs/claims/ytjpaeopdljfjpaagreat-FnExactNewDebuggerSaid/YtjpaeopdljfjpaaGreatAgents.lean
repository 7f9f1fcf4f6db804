
/- Kinds, levels and classes of agents: what the program's functions and the reference's return. -/
import Derived.Test.YtjpaeopdljfjpaaGreatProg
import Derived.Test.YtjpaeopdljfjpaaGreatValid
set_option maxHeartbeats 400000
set_option linter.unusedSimpArgs false
set_option linter.unusedVariables false
namespace Go.Proofs.YtjpaeopdljfjpaaGreat
open Go Go.RowKit Go.Proofs Go.Tr
theorem kM(n lo hi:Int)(w:World):Calls Tryz.prog 22 #[.int .i64 n,.int .i64 lo,.int .i64 hi] w fun e w'=>e=.returned (.bool (cB n lo hi))∧w=w':=by
 by_cases h1:lo≤n
 ·have e1:cB n lo hi=decide (n≤hi):=by simp[cB,h1]
  have E1:=Lib.hid e1;clear e1
  go_enter Tryz.func22,Tryz.ntmps22
  go_wp2
  go_ret;simp[E1.out]
 ·have e1:cB n lo hi=false:=by simp[cB,h1]
  have E1:=Lib.hid e1;clear e1;have h2:decide (lo≤n)=false:=by simpa using h1
  go_enter Tryz.func22,Tryz.ntmps22
  go_wp2
  go_ret;simp[E1.out]
theorem FN(n:Int)(w:World):Calls Tryz.prog 99 #[.int .i64 n] w fun e w'=>e=.returned (.bool (jV n))∧w=w':=by
 by_cases h1:1≤n
 ·have e1:jV n=decide (n≤12):=by simp[jV,cB,h1]
  have E1:=Lib.hid e1;clear e1
  go_enter Tryz.func99,Tryz.ntmps99
  go_wp2
  go_ret;simp[E1.out]
 ·have e1:jV n=false:=by simp[jV,cB,h1]
  have E1:=Lib.hid e1;clear e1;have h2:decide (1≤n)=false:=by simpa using h1
  go_enter Tryz.func99,Tryz.ntmps99
  go_wp2
  go_ret;simp[E1.out]
theorem kU(n:Int)(w:World):Calls Tryz.prog 102 #[.int .i64 n] w fun e w'=>e=.returned (.bool (gQ n))∧w=w':=by
 cases hk:jV n
 ·rw[nT hk];have h:=NH hk
  go_enter Tryz.func102,Tryz.ntmps102
  go_wp2
  all_goals go_ret
  all_goals first|exact⟨rfl,rfl⟩|(exfalso;omega)
 ·rcases zA hk with rfl|rfl|rfl|rfl|rfl|rfl|rfl|rfl|rfl|rfl|rfl|rfl
  all_goals
   go_enter Tryz.func102,Tryz.ntmps102
   go_wp2
   go_ret;exact⟨rfl,rfl⟩
theorem xO(n:Int)(w:World):Calls Tryz.prog 103 #[.int .i64 n] w fun e w'=>e=.returned (.bool (jV n))∧w=w':=by
 go_enter Tryz.func103,Tryz.ntmps103
 go_wp2_with (first|(go_at_call 22;refine(kM _ _ _ _).mono ?_;rintro e w1 ⟨rfl,rfl⟩))
 go_ret;exact⟨rfl,rfl⟩
theorem CF(k l:Int)(w:World):Calls Tryz.prog 97 #[.int .i64 k,.int .i64 l] w fun e w'=>e=.returned (.bool (dK k l))∧w=w':=by
 cases hh:gQ k
 ·cases hk:jV k
  ·have E:=Lib.hid (yc (l:=l) hk)
   go_enter Tryz.func97,Tryz.ntmps97
   go_wp2_with (first|(go_at_call 102;refine(kU _ _).mono ?_;rintro e w1 ⟨rfl,rfl⟩)|(go_at_call 103;refine(xO _ _).mono ?_;rintro e w1 ⟨rfl,rfl⟩))
   go_ret;exact⟨by rw[E.out];rfl,rfl⟩
  ·have E:=Lib.hid (show dK k l=(l==0) by simp only[dK,hk,hh,Bool.true_and,Bool.false_and,Bool.or_false])
   go_enter Tryz.func97,Tryz.ntmps97
   go_wp2_with (first|(go_at_call 102;refine(kU _ _).mono ?_;rintro e w1 ⟨rfl,rfl⟩)|(go_at_call 103;refine(xO _ _).mono ?_;rintro e w1 ⟨rfl,rfl⟩))
   go_ret;exact⟨by rw[E.out];rfl,rfl⟩
 ·have hk:jV k=true:=by
   cases hk:jV k
   ·rw[nT hk]at hh;cases hh
   ·rfl
  have E:=Lib.hid (show dK k l=cB l 0 8 by
   simp only[dK,hk,hh,Bool.true_and,KQ];cases h0:(l==0)
   ·rfl
   ·have:l=0:=by simpa using h0
    subst this;rfl)
  go_enter Tryz.func97,Tryz.ntmps97
  go_wp2_with (first|(go_at_call 102;refine(kU _ _).mono ?_;rintro e w1 ⟨rfl,rfl⟩)|(go_at_call 22;refine(kM _ _ _ _).mono ?_;rintro e w1 ⟨rfl,rfl⟩))
  go_ret;exact⟨by rw[E.out];rfl,rfl⟩
end Go.Proofs.YtjpaeopdljfjpaaGreat
