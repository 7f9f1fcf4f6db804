
/- The program's reducer: its things. -/
import Derived.Test.YtemalpelcdmemaaGreatShort
import Derived.Test.YtemalpelcdmemaaGreatIo
import Derived.Test.YtemalpelcdmemaaGreatRg
set_option linter.unusedSimpArgs false
set_option linter.unusedVariables false
namespace Go.Proofs.YtemalpelcdmemaaGreat
open Go Go.RowKit Go.Proofs Go.Tr
abbrev tU(xs:List NAgent)(us:List Value)(bk:List (List NAgent))(kv:List (Int×Bool))(cn tr cu ex:List Int):List Tok:=[.cel 10000 129 [.ptr 10001 0,.sl 10004,.sl 10005,.sl 10006,.sl 10007],.cel 10001 109 [.sl 10002,.rsl uNet bk,.mp 10003],.row 10002 150 5 uAgent xs us,.map 10003 .bool kv,.row 10004 2 1 (.int .i64) cn [],.row 10005 2 1 (.int .i64) tr [],.row 10006 2 1 (.int .i64) cu [],.row 10007 2 1 (.int .i64) ex []]
abbrev tUn(xs:List NAgent)(us:List Value)(bk:List (List NAgent))(kv:List (Int×Bool))(cn tr cu ex:List Int):List Tok:=[.cel 10000 129 [.ptr 10008 0,.sl 10004,.sl 10011,.sl 10012,.sl 10013],.cel 10008 109 [.sl 10009,.rsl uNet bk,.mp 10010],.row 10009 150 5 uAgent xs us,.map 10010 .bool kv,.row 10004 2 1 (.int .i64) cn [],.row 10011 2 1 (.int .i64) tr [],.row 10012 2 1 (.int .i64) cu [],.row 10013 2 1 (.int .i64) ex []]
section
variable (xs:List NAgent)(us:List Value)(bk:List (List NAgent))(kv:List (Int×Bool))(cn tr cu ex:List Int)
set_option maxRecDepth 100000 in
theorem X0:FCall Tryz.prog 100 [.ptr 10000 0] (tU xs us bk kv cn tr cu ex) (.int .i64 (tr.length:Nat)) (tU xs us bk kv cn tr cu ex):=by
 refine FCall.intro (nt:=8) ti_ok mixed (by kernel_rfl) Tryz.func100 rfl rfl rfl rfl rfl rfl ?_;refine fin [] (aI ⟨rfl,rfl⟩ ?_);exact⟨trivial,⟨rfl,rfl,rfl,rfl,rfl,trivial⟩,trivial,⟨rfl,rfl,rfl,trivial⟩,⟨rfl,List.prefix_refl _⟩,rfl,⟨rfl,List.nil_prefix⟩,⟨rfl,List.nil_prefix⟩,⟨rfl,List.nil_prefix⟩,⟨rfl,List.nil_prefix⟩,trivial⟩
end
end Go.Proofs.YtemalpelcdmemaaGreat
