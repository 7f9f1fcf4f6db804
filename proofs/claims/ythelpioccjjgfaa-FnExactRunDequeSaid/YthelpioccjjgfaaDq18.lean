/- Deques. Printed by gx_dq.py. -/
import Derived.Test.YthelpioccjjgfaaProg
import Derived.Test.YthelpioccjjgfaaSc
import Derived.Test.YthelpioccjjgfaaDDq
import Derived.Test.YthelpioccjjgfaaArith
import Derived.IntWalk
import Derived.Test.YthelpioccjjgfaaDq17
import Derived.Test.YthelpioccjjgfaaDq16
import Derived.Test.YthelpioccjjgfaaDq13
import Derived.Test.YthelpioccjjgfaaDqP
set_option linter.unusedSimpArgs false
set_option linter.unusedVariables false
namespace Go.Tr
def ThOk (x : GDeque) : Prop := ∀ (k : Nat) (a : GDequeActor), 0 < k → x.actors[k]? = some a → ∀ n ∈ a.todo, n = 0
theorem thOk_of {x : GDeque} (h : okB x = true) : ThOk x := by
  intro k a h0 hk n hn
  have h1 := allTo_of ((okB_iff x).1 h).acts (List.getElem?_eq_some_iff.1 hk).1
  simp only [actF, hk] at h1
  rw [show (((k : Nat) : Int) == 0) = false by simp; omega] at h1
  simp only [actorB, Bool.and_eq_true, List.all_eq_true] at h1
  have h2 := h1.1.2 n hn
  simpa [todoOk] using h2
theorem thOk_step {y : GDeque} {k : Nat} {n0 : Int} {tl : List Int} {pc t b x : Int} (h : ThOk y) (hk : y.actors[k]? = some ⟨n0 :: tl, pc, t, b, x⟩) (hpc : pc = 0 ∨ pc = 1 ∨ pc = 2 ∨ pc = 3) (hp0 : k = 0 → n0 ≠ 0 → pc ≠ 3) : ThOk (stepS y k ⟨n0 :: tl, pc, t, b, x⟩) := by
  intro j a h0 hj n hn
  rw [stepS_acts] at hj
  by_cases hkj : k = j
  · subst hkj
    rw [List.getElem?_set_self (List.getElem?_eq_some_iff.1 hk).1] at hj
    obtain rfl := Option.some.inj hj
    rcases stepA_any (y := y) (tl := tl) (t := t) (b := b) (x := x) hpc hp0 with h1 | ⟨h1, _⟩
    · rw [h1] at hn; exact h k _ h0 hk n (List.mem_cons_of_mem _ hn)
    · rw [h1] at hn; exact h k _ h0 hk n hn
  · rw [List.getElem?_set_ne hkj] at hj
    exact h j a h0 hj n hn
end Go.Tr
namespace Go.Proofs.Ythelpioccjjgfaa
open Go Go.RowKit Go.Proofs Go.Tr
end Go.Proofs.Ythelpioccjjgfaa
