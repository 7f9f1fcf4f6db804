
/- StandardTrace and EventDepths: the program. -/
import Derived.Test.YtbdimbjclhmeoaaGreatKl
set_option linter.unusedSimpArgs false
set_option linter.unusedVariables false
namespace Go.Proofs.YtbdimbjclhmeoaaGreat
open Go Go.RowKit Go.Proofs Go.Tr
theorem UY:bH Tryz.prog 35=true:=by kernel_rfl
section
variable {bk:iQ}{y0:aS}{T:List aB}
set_option maxRecDepth 100000 in
theorem Yb{c:Int}(hc:c≠0)(h:RY bk y0 T c):aA Tryz.prog 35 [.rsl aZ bk,.agg [.rsl aD y0],.rsl aV T] [] (.tup [.raw (.slice none 0 0),.int .i64 c]) []:=by
 refine aA.intro (nt:=27) aG mixed UY Tryz.func35 rfl rfl rfl rfl rfl rfl ?_;refine oY h ?_;refine aI (fun q=> ?_) (fun q=> ?_)
 .exact fin [] (aI rfl trivial)
 .exfalso;have q2:(c !=0)=false:=q;simp at q2;exact hc q2
set_option maxRecDepth 100000 in
theorem Zag{r:RS}(h:ZaB bk y0 T r):aA Tryz.prog 35 [.rsl aZ bk,.agg [.rsl aD y0],.rsl aV T] [] (.tup [.sl 10000,.int .i64 0]) [.row 10000 67 5 aV r.ev []]:=by
 refine aA.intro (nt:=27) aG mixed UY Tryz.func35 rfl rfl rfl rfl rfl rfl ?_;refine oY h ?_;refine aI (fun q=>by cases q) (fun _=> ?_);exact fin [(10000,5000014)] (aI rfl ⟨⟨rfl,nP⟩,trivial⟩)
end
end Go.Proofs.YtbdimbjclhmeoaaGreat
