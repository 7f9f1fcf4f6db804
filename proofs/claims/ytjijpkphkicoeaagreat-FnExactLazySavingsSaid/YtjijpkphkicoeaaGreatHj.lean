
/- Lazy reductions: the searches, upon the reducers' own nets. -/
import Derived.Test.YtjijpkphkicoeaaGreatHg
import Derived.Test.YtjijpkphkicoeaaGreatHi
set_option linter.unusedSimpArgs false
set_option linter.unusedVariables false
set_option linter.unusedSectionVars false
namespace Go.Proofs.YtjijpkphkicoeaaGreat
open Go Go.RowKit Go.Proofs Go.Tr
section
variable {kv:List (Int×Bool)}{xs Y:List aj}(T:Tr.Twin kv xs Y)(hl:xs.length≤1000000)(hk9:∀a:Int,0≤a→a<(xs.length:Nat)→(ah xs a).2.2.2.2.length≤1048576)(us:List Value)(bk:List (List aj))
include T hl hk9
theorem unkU:aA Tryz.prog 68 [.ptr 10000 0] (tW xs us bk kv) (.tup [vP (nJ true xs).2,.bool (!(nJ true xs).1)]) (tW xs us bk kv):=
 aA.yC (ts2:=[]) aH [61] VW (unkI xs (Gone kv) T.wd hl hk9) rfl rfl rfl
omit hk9 in
theorem Pn{p:aF}(hp:Live (Gone kv) xs p)(h:fF xs (au xs p)=none):aA Tryz.prog 74 [.ptr 10000 0,vP p] (tW xs us bk kv) (.tup [.raw (.slice none 0 0),vP (0,0),.bool false]) (tW xs us bk kv):=
 aA.yC (ts2:=[]) aH [61,0] zH (RB xs (Gone kv) p T.wd T.uq hp hl h) rfl rfl rfl
omit hk9 in
theorem wY{p:aF}(hp:Live (Gone kv) xs p){X:Int×Int}(h:fF xs (au xs p)=some X):aA Tryz.prog 74 [.ptr 10000 0,vP p] (tW xs us bk kv) (.tup [.sl 10003,vP (Xo X),.bool true]) (tW xs us bk kv++[.row 10003 2 1 (.int .i64) (way xs (au xs p)) []]):=
 (aA.yC (ts2:=[.row 10003 2 1 (.int .i64) (way xs (au xs p)) []]) aH [61,0] zH (RD xs (Gone kv) p T.wd T.uq hp hl h) rfl rfl rfl:aA Tryz.prog 74 [.ptr 10000 0,vP p] (tW xs us bk kv) (.tup [.sl 10003,vP (Xo X),.bool true]) (.row 10003 2 1 (.int .i64) (way xs (au xs p)) []::tW xs us bk kv)).Zj
omit hk9 in
end
section
variable {k:List (Int×Bool)}{z P:List aj}(T:Tr.Twin k z P)(hl:P.length≤1000000)(hk9:∀a:Int,0≤a→a<(P.length:Nat)→(ah P a).2.2.2.2.length≤1048576)(us:List Value)(pk:Int)(tr:List Int)
include T hl hk9
theorem YQ:aA Tryz.prog 71 [.ptr 10000 0,vP (0,0)] (tB P us pk tr) (.tup [vP (jI P (nJ true P)).1,.int .i64 (jI P (nJ true P)).2]) (tB P us pk tr):=
 aA.yC (ts2:=[]) aH [61,0] NV (VR P (Gone k) T.ZA T.Bw hl hk9 (P.length+1) [] (0,0) .root (Nat.le_add_left _ _)) rfl rfl rfl
omit hk9 in
end
end Go.Proofs.YtjijpkphkicoeaaGreat
