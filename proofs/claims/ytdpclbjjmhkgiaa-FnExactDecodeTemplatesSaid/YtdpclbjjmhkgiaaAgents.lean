
/- Kinds, levels and classes of agents: what the program's functions and the reference's return. -/
import Derived.Test.YtdpclbjjmhkgiaaProg
import Derived.Test.YtdpclbjjmhkgiaaValid
set_option linter.unusedSimpArgs false
set_option linter.unusedVariables false
namespace Go.Proofs.Ytdpclbjjmhkgiaa
open Go Go.RowKit Go.Proofs Go.Tr
set_option maxHeartbeats 400000 in
theorem Je(n:Int)(w:World):Calls Try.prog 81 #[.int .i64 n] w fun e w'=>e=.returned (.bool (kV n))∧w=w':=by
 by_cases h1:1≤n
 ·have e1:kV n=decide (n≤12):=by simp[kV,iy,h1]
  have E1:=Lib.hid e1;clear e1
  go_enter Try.func81,Try.ntmps81
  go_wp2
  go_ret;simp[E1.out]
 ·have e1:kV n=false:=by simp[kV,iy,h1]
  have E1:=Lib.hid e1;clear e1;have h2:decide (1≤n)=false:=by simpa using h1
  go_enter Try.func81,Try.ntmps81
  go_wp2
  go_ret;simp[E1.out]
end Go.Proofs.Ytdpclbjjmhkgiaa
