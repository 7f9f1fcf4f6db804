
/- Deques. Printed by gx_dq.py. -/
import Derived.Test.YtjpaeopdljfjpaaProg
import Derived.Test.YtjpaeopdljfjpaaSc
import Derived.Test.YtjpaeopdljfjpaaDDq
import Derived.Test.YtjpaeopdljfjpaaNet
import Derived.IntWalk
import Derived.Test.YtjpaeopdljfjpaaDq7
import Derived.Test.YtjpaeopdljfjpaaDq2
set_option linter.unusedSimpArgs false
set_option linter.unusedVariables false
namespace Go.Tr
theorem ak.flat:∀x:ak,∀d∈x.enc,∃v,d=D.v v:=by
 intro x d h;simp only[ak.enc,List.mem_cons,List.not_mem_nil,or_false]at h;rcases h with rfl|rfl<;>exact⟨_,rfl⟩
end Go.Tr
namespace Go.Proofs.Ytjpaeopdljfjpaa
open Go Go.RowKit Go.Proofs Go.Tr
end Go.Proofs.Ytjpaeopdljfjpaa
