
/- Drawn nets: two agents that are an active pair. Printed by gen_bd.py. -/
import Derived.Test.YtdpclbjjmhkgiaaBc
set_option linter.unusedSimpArgs false
set_option linter.unusedVariables false
namespace Go.Tr
open Go Go.RowKit
theorem Qw.congr{A B:Int→Prop}{xs:List ah}(h:Qw A xs)(e:∀i,B i↔A i):Qw B xs:=
 ⟨h.l1,h.wf,h.rt,fun i hi=>h.a1 i ((e i).1 hi),h.wi.congr fun p=>by rw[e],fun i hi hA k=>h.ze i hi (fun k=>hA ((e _).2 k)) k⟩
end Go.Tr
namespace Go.Proofs.Ytdpclbjjmhkgiaa
open Go Go.RowKit Go.Proofs Go.Tr
end Go.Proofs.Ytdpclbjjmhkgiaa
