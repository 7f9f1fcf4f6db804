
/- Kinds, levels and classes of agents: what the program's functions and the reference's return. -/
import Derived.Test.YtbdimbjclhmeoaaGreatProg
import Derived.Test.YtbdimbjclhmeoaaGreatValid
set_option linter.unusedSimpArgs false
set_option linter.unusedVariables false
namespace Go.Proofs.YtbdimbjclhmeoaaGreat
open Go Go.RowKit Go.Proofs Go.Tr
set_option maxHeartbeats 400000 in
theorem QW(n lo hi:Int)(w:World):Calls Tryz.prog 38 #[.int .i64 n,.int .i64 lo,.int .i64 hi] w fun e w'=>e=.returned (.bool (gG n lo hi))/\w=w':=by
 by_cases h1:lo<=n
 .have e1:gG n lo hi=decide (n<=hi):=by simp[gG,h1]
  have E1:=Lib.hid e1;clear e1
  go_enter Tryz.func38,Tryz.ntmps38
  go_wp2
  go_ret;simp[E1.out]
 .have e1:gG n lo hi=false:=by simp[gG,h1]
  have E1:=Lib.hid e1;clear e1;have h2:decide (lo<=n)=false:=by simpa using h1
  go_enter Tryz.func38,Tryz.ntmps38
  go_wp2
  go_ret;simp[E1.out]
set_option maxHeartbeats 400000 in
theorem Na(n:Int)(w:World):Calls Tryz.prog 213 #[.int .i64 n] w fun e w'=>e=.returned (.bool (oG n))/\w=w':=by
 by_cases h1:1<=n
 .have e1:oG n=decide (n<=12):=by simp[oG,gG,h1]
  have E1:=Lib.hid e1;clear e1
  go_enter Tryz.func213,Tryz.ntmps213
  go_wp2
  go_ret;simp[E1.out]
 .have e1:oG n=false:=by simp[oG,gG,h1]
  have E1:=Lib.hid e1;clear e1;have h2:decide (1<=n)=false:=by simpa using h1
  go_enter Tryz.func213,Tryz.ntmps213
  go_wp2
  go_ret;simp[E1.out]
end Go.Proofs.YtbdimbjclhmeoaaGreat
