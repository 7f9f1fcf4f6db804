
/- Lazy reductions: the searches, upon the reducers' own nets. -/
import Derived.Test.YtcjhkgfmklgikaaGreatHg
import Derived.Test.YtcjhkgfmklgikaaGreatHi
set_option linter.unusedSimpArgs false
set_option linter.unusedVariables false
set_option linter.unusedSectionVars false
namespace Go.Proofs.YtcjhkgfmklgikaaGreat
open Go Go.RowKit Go.Proofs Go.Tr
section
variable {kv:List (Int×Bool)}{xs Y:List aj}(T:Tr.Twin kv xs Y)(hl:xs.length≤1000000)(hk9:∀a:Int,0≤a→a<(xs.length:Nat)→(ah xs a).2.2.2.2.length≤1048576)(us:List Value)(bk:List (List aj))
include T hl hk9
theorem Yg:aA Tryz.prog 47 [.ptr 10000 0] (tW xs us bk kv) (.tup [vP (xI true xs).2,.bool (!(xI true xs).1)]) (tW xs us bk kv):=
 aA.Ey (ts2:=[]) aJ [51] UU (ZJ xs (Gone kv) T.wd hl hk9) rfl rfl rfl
omit hk9 in
theorem Oq{p:aD}(hp:Live (Gone kv) xs p)(h:fU xs (au xs p)=none):aA Tryz.prog 48 [.ptr 10000 0,vP p] (tW xs us bk kv) (.tup [.raw (.slice none 0 0),vP (0,0),.bool false]) (tW xs us bk kv):=
 aA.Ey (ts2:=[]) aJ [51,0] zy (QB xs (Gone kv) p T.wd T.uq hp hl h) rfl rfl rfl
omit hk9 in
theorem tV{p:aD}(hp:Live (Gone kv) xs p){X:Int×Int}(h:fU xs (au xs p)=some X):aA Tryz.prog 48 [.ptr 10000 0,vP p] (tW xs us bk kv) (.tup [.sl 10003,vP (OX X),.bool true]) (tW xs us bk kv++[.row 10003 2 1 (.int .i64) (way xs (au xs p)) []]):=
 (aA.Ey (ts2:=[.row 10003 2 1 (.int .i64) (way xs (au xs p)) []]) aJ [51,0] zy (QD xs (Gone kv) p T.wd T.uq hp hl h) rfl rfl rfl:aA Tryz.prog 48 [.ptr 10000 0,vP p] (tW xs us bk kv) (.tup [.sl 10003,vP (OX X),.bool true]) (.row 10003 2 1 (.int .i64) (way xs (au xs p)) []::tW xs us bk kv)).rot
omit hk9 in
end
section
variable {k:List (Int×Bool)}{z P:List aj}(T:Tr.Twin k z P)(hl:P.length≤1000000)(hk9:∀a:Int,0≤a→a<(P.length:Nat)→(ah P a).2.2.2.2.length≤1048576)(us:List Value)(pk:Int)(tr:List Int)
include T hl hk9
end
end Go.Proofs.YtcjhkgfmklgikaaGreat
