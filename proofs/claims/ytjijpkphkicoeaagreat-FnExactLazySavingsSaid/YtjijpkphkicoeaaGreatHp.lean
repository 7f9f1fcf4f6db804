
/- LazySavings on both sides. Printed by gen_hn.py. -/
import Derived.Test.YtjijpkphkicoeaaGreatShort
import Derived.Test.YtjijpkphkicoeaaGreatHm
set_option maxRecDepth 100000
set_option linter.unusedSimpArgs false
set_option linter.unusedVariables false
namespace Go.Proofs.YtjijpkphkicoeaaGreat
open Go Go.RowKit Go.Proofs Go.Tr
theorem LV:bH Tryz.prog 45=true:=by kernel_rfl
theorem Iw:bH Tryz.prog 44=true:=by kernel_rfl
section
variable (bk:List (List aj))(xs:List aj)(st:Int)
theorem SF{c:Int}(hc:c≠0)(h1:aA Tryz.prog 65 [.rsl aR bk,.agg [.rsl aD xs],.rsl (.int .i64) [],.int .i64 st] [] (.tup [.raw (.pointer none),.int .i64 c]) []):aA Tryz.prog 45 [.rsl aR bk,.agg [.rsl aD xs],.int .i64 st] [] (.tup [.int .i64 0,.int .i64 c]) ([]):=by
 refine aA.intro (nt:=36) aH mixed LV Tryz.func45 rfl rfl rfl rfl rfl rfl ?_;refine Or.inr (eI _ (eI _ (aI (aA.lC (a:=[.rsl aR bk,.agg [.rsl aD xs]]) (b:=[.int .i64 st]) h1) ?_)));refine aI (fun q=> ?_) (fun q=> ?_)
 ·exact fin [] (aI rfl trivial)
 ·exfalso;have q2:(c !=0)=false:=q;simp at q2;exact hc q2
theorem Zk{c:Int}(hc:c≠0){t:kY}(h1:aA Tryz.prog 65 [.rsl aR bk,.agg [.rsl aD xs],.rsl (.int .i64) [],.int .i64 st] [] (.tup [.ptr 10000 0,.int .i64 0]) (tU t.xs [] bk t.kv t.cn t.tr t.cu t.ex))(h2:aA Tryz.prog 67 [.rsl aR bk,.agg [.rsl aD xs],.int .i64 st,.fn 68 []] [] (.tup [.raw (.pointer none),.int .i64 c]) []):aA Tryz.prog 45 [.rsl aR bk,.agg [.rsl aD xs],.int .i64 st] [] (.tup [.int .i64 0,.int .i64 c]) ([]):=by
 refine aA.intro (nt:=36) aH mixed LV Tryz.func45 rfl rfl rfl rfl rfl rfl ?_;refine Or.inr (eI _ (eI _ (aI (aA.lC (a:=[.rsl aR bk,.agg [.rsl aD xs]]) (b:=[.int .i64 st]) h1) ?_)));refine aI (fun q=>by cases q) (fun _=> ?_);refine Or.inr (eI _ (eI _ (aI (h2) ?_)));refine aI (fun q=> ?_) (fun q=> ?_)
 ·exact fin [] (aI rfl trivial)
 ·exfalso;have q2:(c !=0)=false:=q;simp at q2;exact hc q2
theorem Zl{s t:kY}(h1:aA Tryz.prog 65 [.rsl aR bk,.agg [.rsl aD xs],.rsl (.int .i64) [],.int .i64 st] [] (.tup [.ptr 10000 0,.int .i64 0]) (tU s.xs [] bk s.kv s.cn s.tr s.cu s.ex))(h2:aA Tryz.prog 67 [.rsl aR bk,.agg [.rsl aD xs],.int .i64 st,.fn 68 []] [] (.tup [.ptr 10000 0,.int .i64 0]) (tU t.xs [] bk t.kv t.cn t.tr t.cu t.ex)):aA Tryz.prog 45 [.rsl aR bk,.agg [.rsl aD xs],.int .i64 st] [] (.tup [.int .i64 (IntKind.i64.wrap (((s.tr.length:Nat):Int)-((t.tr.length:Nat):Int))),.int .i64 0]) ([]):=by
 refine aA.intro (nt:=36) aH mixed LV Tryz.func45 rfl rfl rfl rfl rfl rfl ?_;refine Or.inr (eI _ (eI _ (aI (aA.lC (a:=[.rsl aR bk,.agg [.rsl aD xs]]) (b:=[.int .i64 st]) h1) ?_)));refine aI (fun q=>by cases q) (fun _=> ?_);refine Or.inr (eI _ (eI _ (aI (h2) ?_)));refine aI (fun q=>by cases q) (fun _=> ?_);refine Or.inr (eI _ (eI _ (aI (Bj s.xs [] bk s.kv s.cn s.tr s.cu s.ex) ?_)));refine Or.inr (eI _ (eI _ (aI (Bj t.xs [] bk t.kv t.cn t.tr t.cu t.ex) ?_)));exact fin [] (aI rfl trivial)
theorem Zm{c:Int}(hc:c≠0)(h:mg (ku bk xs) (bY []&&dX st 0 4000)=c):aA Tryz.prog 44 [.rsl aR bk,.agg [.rsl aD xs],.int .i64 st] [] (.tup [.int .i64 0,.int .i64 c]) ([]):=by
 refine aA.intro (nt:=46) aH mixed Iw Tryz.func44 rfl rfl rfl rfl rfl rfl ?_;have hA:=Ub bk xs [] st;rw[h]at hA;refine Or.inr (eI _ (eI _ (aI (aA.lC (a:=[.rsl aR bk,.ptr 10000 0]) (b:=[.int .i64 st]) hA) ?_)));refine aI (fun q=> ?_) (fun q=> ?_)
 ·exact fin [] (aI rfl trivial)
 ·exfalso;have q2:(c !=0)=false:=q;simp at q2;exact hc q2
theorem Wj{c:Int}(hc:c≠0){P:List aj}{pk:Int}{tr:List Int}(h:mg (ku bk xs) (bY []&&dX st 0 4000)=0)(h1:aA Tryz.prog 82 [.rsl aR bk,.rp aR xs,.rsl (.int .i64) [],.int .i64 st] [] (.tup [.ptr 10000 0,.int .i64 c]) [.bV 10000 66 [.sl 10001,.sl 10002,.int .i64 pk],.row 10001 131 5 aD P [],.row 10002 2 1 (.int .i64) tr []]):aA Tryz.prog 44 [.rsl aR bk,.agg [.rsl aD xs],.int .i64 st] [] (.tup [.int .i64 0,.int .i64 c]) ([]):=by
 refine aA.intro (nt:=46) aH mixed Iw Tryz.func44 rfl rfl rfl rfl rfl rfl ?_;have hA:=Ub bk xs [] st;rw[h]at hA;refine Or.inr (eI _ (eI _ (aI (aA.lC (a:=[.rsl aR bk,.ptr 10000 0]) (b:=[.int .i64 st]) hA) ?_)));refine aI (fun q=>by cases q) (fun _=> ?_);refine Or.inr (eI _ (eI _ (aI (aA.lC (a:=[.rsl aR bk,.ptr 10000 0]) (b:=[.int .i64 st]) (WJ bk xs [] st h1)) ?_)));refine aI (fun q=> ?_) (fun q=> ?_)
 ·exact fin [] (aI rfl trivial)
 ·exfalso;have q2:(c !=0)=false:=q;simp at q2;exact hc q2
theorem Zn{c:Int}(hc:c≠0){P:List aj}{pk:Int}{tr:List Int}(h:mg (ku bk xs) (bY []&&dX st 0 4000)=0)(h1:aA Tryz.prog 82 [.rsl aR bk,.rp aR xs,.rsl (.int .i64) [],.int .i64 st] [] (.tup [.ptr 10000 0,.int .i64 0]) [.bV 10000 66 [.sl 10001,.sl 10002,.int .i64 pk],.row 10001 131 5 aD P [],.row 10002 2 1 (.int .i64) tr []])(h2:aA Tryz.prog 66 [.rsl aR bk,.rp aR xs,.int .i64 st,.bool true] [] (.tup [.raw (.pointer none),.int .i64 c]) []):aA Tryz.prog 44 [.rsl aR bk,.agg [.rsl aD xs],.int .i64 st] [] (.tup [.int .i64 0,.int .i64 c]) ([]):=by
 refine aA.intro (nt:=46) aH mixed Iw Tryz.func44 rfl rfl rfl rfl rfl rfl ?_;have hA:=Ub bk xs [] st;rw[h]at hA;refine Or.inr (eI _ (eI _ (aI (aA.lC (a:=[.rsl aR bk,.ptr 10000 0]) (b:=[.int .i64 st]) hA) ?_)));refine aI (fun q=>by cases q) (fun _=> ?_);refine Or.inr (eI _ (eI _ (aI (aA.lC (a:=[.rsl aR bk,.ptr 10000 0]) (b:=[.int .i64 st]) (WJ bk xs [] st h1)) ?_)));refine aI (fun q=>by cases q) (fun _=> ?_);refine Or.inr (eI _ (eI _ (aI (l17F bk xs st h2) ?_)));refine aI (fun q=> ?_) (fun q=> ?_)
 ·exact fin [] (aI rfl trivial)
 ·exfalso;have q2:(c !=0)=false:=q;simp at q2;exact hc q2
theorem Zo{P P2:List aj}{pk pk2:Int}{tr tr2:List Int}(h:mg (ku bk xs) (bY []&&dX st 0 4000)=0)(h1:aA Tryz.prog 82 [.rsl aR bk,.rp aR xs,.rsl (.int .i64) [],.int .i64 st] [] (.tup [.ptr 10000 0,.int .i64 0]) [.bV 10000 66 [.sl 10001,.sl 10002,.int .i64 pk],.row 10001 131 5 aD P [],.row 10002 2 1 (.int .i64) tr []])(h2:aA Tryz.prog 66 [.rsl aR bk,.rp aR xs,.int .i64 st,.bool true] [] (.tup [.ptr 10000 0,.int .i64 0]) [.bV 10000 66 [.sl 10001,.sl 10002,.int .i64 pk2],.row 10001 131 5 aD P2 [],.row 10002 2 1 (.int .i64) tr2 []]):aA Tryz.prog 44 [.rsl aR bk,.agg [.rsl aD xs],.int .i64 st] [] (.tup [.int .i64 (IntKind.i64.wrap (((tr.length:Nat):Int)-((tr2.length:Nat):Int))),.int .i64 0]) ([]):=by
 refine aA.intro (nt:=46) aH mixed Iw Tryz.func44 rfl rfl rfl rfl rfl rfl ?_;have hA:=Ub bk xs [] st;rw[h]at hA;refine Or.inr (eI _ (eI _ (aI (aA.lC (a:=[.rsl aR bk,.ptr 10000 0]) (b:=[.int .i64 st]) hA) ?_)));refine aI (fun q=>by cases q) (fun _=> ?_);refine Or.inr (eI _ (eI _ (aI (aA.lC (a:=[.rsl aR bk,.ptr 10000 0]) (b:=[.int .i64 st]) (WJ bk xs [] st h1)) ?_)));refine aI (fun q=>by cases q) (fun _=> ?_);refine Or.inr (eI _ (eI _ (aI (l17E bk xs st h2) ?_)));refine aI (fun q=>by cases q) (fun _=> ?_);refine aI (by kernel_rfl) ?_
 exact fin [] (aI rfl trivial)
end
end Go.Proofs.YtjijpkphkicoeaaGreat
