/- Deques. Printed by gx_dq.py. -/
import Derived.Test.YthelpioccjjgfaaProg
import Derived.Test.YthelpioccjjgfaaSc
import Derived.Test.YthelpioccjjgfaaDDq
import Derived.Test.YthelpioccjjgfaaArith
import Derived.IntWalk
import Derived.Test.YthelpioccjjgfaaDq18
import Derived.Test.YthelpioccjjgfaaKDq
set_option linter.unusedSimpArgs false
set_option linter.unusedVariables false
namespace Go.Tr
theorem RunOk.cnt {x : GDeque} (h : RunOk x) : x.cnt ≤ 1099511627776 := by
  have h1 := GDeque.cnt_le x
  have h2 : wtl GDequeActor.wt x.actors ≤ 1000 + 1000 * 1000 := by
    unfold wtl
    have h3 := sum_le GDequeActor.wt 1000 (xs := x.actors) fun k a hk => by
      have := (h.acts k a hk).1
      unfold GDequeActor.wt; rw [wtl_flat]; exact this
    have h4 := h.n1
    have h5 := Nat.mul_le_mul_right 1000 h4
    omega
  unfold GDeque.wt at h1
  rw [wtl_flat, wtl_flat, wtl_flat] at h1
  have := h.b1; have := h.h1; have := h.r1
  omega
theorem zero_cnt : (GDeque.mk 0 0 [] [] [] []).cnt ≤ 1099511627776 := by
  have h1 := GDeque.cnt_le (GDeque.mk 0 0 [] [] [] [])
  have h2 : (GDeque.mk 0 0 [] [] [] []).wt = 0 := rfl
  omega
theorem stepS_ok {x : GDeque} (h : RunOk x) {k : Nat} {a : GDequeActor} (hk : x.actors[k]? = some a) (ht : a.todo ≠ []) (hf : fullB (stepS x k a) = false) : RunOk (stepS x k a) := by
  obtain ⟨n0, tl, pc, t, b, v, rfl⟩ := act_open ht
  obtain ⟨_, h2, h3, _⟩ := h.stp hk
  exact runOk_step h hk h2 h3 hf
end Go.Tr
namespace Go.Proofs.Ythelpioccjjgfaa
open Go Go.RowKit Go.Proofs Go.Tr
end Go.Proofs.Ythelpioccjjgfaa
