
/- Lazy reductions: the functions of both sides. Printed by gen_hm.py. -/
import Derived.Test.YtjijpkphkicoeaaGreatShort
import Derived.Test.YtjijpkphkicoeaaGreatHl
import Derived.Test.YtjijpkphkicoeaaGreatYq
set_option linter.unusedSimpArgs false
set_option linter.unusedVariables false
namespace Go.Proofs.YtjijpkphkicoeaaGreat
open Go Go.RowKit Go.Proofs Go.Tr
theorem Xa{bk:List (List aj)}{s:kY}(g:vI bk s):∀a:Int,0≤a→a<(s.xs.length:Nat)→(ah s.xs a).2.2.2.2.length≤1048576:=fun a h0 h1=>by
 have:=(fu (g.rs.wx a h0 h1 id)).2;omega
theorem VG{bk:List (List aj)}(s:kY)(g:vI bk s):Qb true 68 bk s:=by
 obtain⟨Y,f,T,_⟩:=g.rs.tx;have lx:=g.lx;exact unkU T (by omega) (Xa g) [] bk
section
variable (bk:List (List aj))(xs:List aj)(st:Int)
theorem l17E{fl:Bool}{P:List aj}{pk:Int}{tr:List Int}(h:aA Tryz.prog 66 [.rsl aR bk,.rp aR xs,.int .i64 st,.bool fl] [] (.tup [.ptr 10000 0,.int .i64 0]) [.bV 10000 66 [.sl 10001,.sl 10002,.int .i64 pk],.row 10001 131 5 aD P [],.row 10002 2 1 (.int .i64) tr []]):aA Tryz.prog 66 [.rsl aR bk,.ptr 10000 0,.int .i64 st,.bool fl] [.bV 10000 30 [.rsl aD xs]] (.tup [.ptr 10001 0,.int .i64 0]) [.bV 10001 66 [.sl 10002,.sl 10003,.int .i64 pk],.row 10002 131 5 aD P [],.row 10003 2 1 (.int .i64) tr [],.bV 10000 30 [.rsl aD xs]]:=
 aA.yC (r2:=.tup [.ptr 10001 0,.int .i64 0]) (ts2:=[.bV 10001 66 [.sl 10002,.sl 10003,.int .i64 pk],.row 10002 131 5 aD P [],.row 10003 2 1 (.int .i64) tr []]) aH [0,61,0,0] BU h rfl rfl rfl
theorem l17F{fl:Bool}{c:Int}(h:aA Tryz.prog 66 [.rsl aR bk,.rp aR xs,.int .i64 st,.bool fl] [] (.tup [.raw (.pointer none),.int .i64 c]) []):aA Tryz.prog 66 [.rsl aR bk,.ptr 10000 0,.int .i64 st,.bool fl] [.bV 10000 30 [.rsl aD xs]] (.tup [.raw (.pointer none),.int .i64 c]) [.bV 10000 30 [.rsl aD xs]]:=
 aA.yC (r2:=.tup [.raw (.pointer none),.int .i64 c]) (ts2:=[]) aH [0,61,0,0] BU h rfl rfl rfl
theorem Xm(fl:Bool)(h:mg (ku bk xs) (bY []&&dX st 0 4000)=0):bE xs∧∃c t,Fj fl bk st (g0 xs) c t:=by
 obtain⟨hv,_,hi⟩:=MN bk xs [] st h;have hs:=OC h;unfold ku at hv;rw[qD]at hv;exact⟨hs,NA (Jr hv.1).1 (iU hi).2 4000 (VI (BS hv.2)) (by show((([]:List Int).length:Nat):Int)≤st;rw[qR];have:=(iU hi).1;omega) (by show st≤((([]:List Int).length+4000:Nat):Int);rw[qR];have:=(iU hi).2;omega)⟩
end
end Go.Proofs.YtjijpkphkicoeaaGreat
