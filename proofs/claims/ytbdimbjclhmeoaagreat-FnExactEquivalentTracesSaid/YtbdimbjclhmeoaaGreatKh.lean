
/- StandardTrace and EventDepths: the reference. -/
import Derived.Test.YtbdimbjclhmeoaaGreatKl
set_option maxRecDepth 100000
set_option linter.unusedSimpArgs false
set_option linter.unusedVariables false
namespace Go.Proofs.YtbdimbjclhmeoaaGreat
open Go Go.RowKit Go.Proofs Go.Tr
theorem ED:bH Tryz.prog 58=true:=by kernel_rfl
section
variable (bk:iQ)(xs:aS)(es:List aB)
abbrev Ou(c:Int):Prop:=aA Tryz.prog 58 [.rsl aZ bk,.rp aZ xs,.rsl aV es] [] (.tup [.raw (.slice none 0 0),.int .i64 c]) []
abbrev Dr(out:List aB):Prop:=aA Tryz.prog 58 [.rsl aZ bk,.rp aZ xs,.rsl aV es] [] (.tup [.sl 10000,.int .i64 0]) [.row 10000 67 5 aV out []]
theorem std1{c:Int}(hc:c≠0)(h:SBd bk xs es c):Ou bk xs es c:=by
 refine aA.intro (nt:=34) aG mixed ED Tryz.func58 rfl rfl rfl rfl rfl rfl ?_;refine oY h ?_;refine aI (fun q=> ?_) (fun q=> ?_)
 .exact fin [] (aI rfl trivial)
 .exfalso;have q2:(c !=0)=false:=q;simp at q2;exact hc q2
theorem std2{c:Int}{g:aS}(h0:SGd bk xs es g)(h:Ym bk xs es c):Ou bk xs es c:=by
 refine aA.intro (nt:=34) aG mixed ED Tryz.func58 rfl rfl rfl rfl rfl rfl ?_;refine oY h0 ?_;refine aI (fun q=>by cases q) (fun q=> ?_);refine oY h ?_;exact fin [] (aI rfl trivial)
theorem ZcB{out:List aB}{fa fb:List Int}{g:aS}(h0:SGd bk xs es g)(h:ZaF bk xs es out fa fb):Dr bk xs es out:=by
 refine aA.intro (nt:=34) aG mixed ED Tryz.func58 rfl rfl rfl rfl rfl rfl ?_;refine oY h0 ?_;refine aI (fun q=>by cases q) (fun q=> ?_);refine oY h ?_;exact fin [(10000,27)] (aI rfl ⟨⟨rfl,nP⟩,trivial⟩)
theorem Zaf{c:Int}(h:Ou bk xs es c):aA Tryz.prog 58 [.rsl aZ bk,.ptr 10000 0,.rsl aV es] [.dL 10000 37 [.rsl aD xs]] (.tup [.raw (.slice none 0 0),.int .i64 c]) [.dL 10000 37 [.rsl aD xs]]:=
 aA.Ey (ts2:=[]) aG [0,64,0] ED h rfl rfl rfl
theorem ZbW{out:List aB}(h:Dr bk xs es out):aA Tryz.prog 58 [.rsl aZ bk,.ptr 10000 0,.rsl aV es] [.dL 10000 37 [.rsl aD xs]] (.tup [.sl 10001,.int .i64 0]) [.row 10001 67 5 aV out [],.dL 10000 37 [.rsl aD xs]]:=
 aA.Ey (ts2:=[.row 10001 67 5 aV out []]) aG [0,64,0] ED h rfl rfl rfl
abbrev IY:List SV:=[.rsl aZ bk,.agg [.rsl aD xs],.rsl aV es]
end
end Go.Proofs.YtbdimbjclhmeoaaGreat
