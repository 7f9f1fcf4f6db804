/- Deques. Printed by gx_dq.py. -/
import Derived.Test.YthelpioccjjgfaaProg
import Derived.Test.YthelpioccjjgfaaSc
import Derived.Test.YthelpioccjjgfaaDDq
import Derived.Test.YthelpioccjjgfaaArith
import Derived.IntWalk
import Derived.Test.YthelpioccjjgfaaDq18
import Derived.Test.YthelpioccjjgfaaKDq
set_option linter.unusedSimpArgs false
set_option linter.unusedVariables false
namespace Go.Tr
theorem RunOk.cnt {x : GDeque} (h : RunOk x) : x.cnt ≤ 1099511627776 := by
  have h1 := GDeque.cnt_le x
  have h2 : wtl GDequeActor.wt x.actors ≤ 1000 + 1000 * 1000 := by
    unfold wtl
    have h3 := sum_le GDequeActor.wt 1000 (xs := x.actors) fun k a hk => by
      have := (h.acts k a hk).1
      unfold GDequeActor.wt; rw [wtl_flat]; exact this
    have h4 := h.n1
    have h5 := Nat.mul_le_mul_right 1000 h4
    omega
  unfold GDeque.wt at h1
  rw [wtl_flat, wtl_flat, wtl_flat] at h1
  have := h.b1; have := h.h1; have := h.r1
  omega
theorem zero_cnt : (GDeque.mk 0 0 [] [] [] []).cnt ≤ 1099511627776 := by
  have h1 := GDeque.cnt_le (GDeque.mk 0 0 [] [] [] [])
  have h2 : (GDeque.mk 0 0 [] [] [] []).wt = 0 := rfl
  omega
theorem stepS_ok {x : GDeque} (h : RunOk x) {k : Nat} {a : GDequeActor} (hk : x.actors[k]? = some a) (ht : a.todo ≠ []) (hf : fullB (stepS x k a) = false) : RunOk (stepS x k a) := by
  obtain ⟨n0, tl, pc, t, b, v, rfl⟩ := act_open ht
  obtain ⟨_, h2, h3, _⟩ := h.stp hk
  exact runOk_step h hk h2 h3 hf
theorem stepDequeR_ok {x : GDeque} {i : Int} {r0 : GDeque} {r1 : Int} (h : (r0, r1) = stepDequeR x i) : r0 = ⟨0, 0, [], [], [], []⟩ ∨ RunOk r0 := by
  unfold stepDequeR at h
  cases hb : okB x with
  | false => rw [hb] at h; exact .inl (Prod.mk.inj h).1
  | true =>
    rw [hb] at h
    cases hi : inB i 0 (IntKind.i64.wrap (((x.actors.length : Nat) : Int) - 1)) with
    | false => rw [hi] at h; exact .inl (Prod.mk.inj h).1
    | true =>
      rw [hi] at h
      simp only [Bool.not_true, cond_false] at h
      cases ha : x.actors[i.toNat]? with
      | none => rw [ha] at h; exact .inl (Prod.mk.inj h).1
      | some a =>
        rw [ha] at h
        simp only at h
        cases ht : (((a.todo.length : Nat) : Int) == 0) with
        | true => rw [ht] at h; exact .inl (Prod.mk.inj h).1
        | false =>
          rw [ht] at h
          cases hf : fullB (stepS x i.toNat a) with
          | true => rw [hf] at h; exact .inl (Prod.mk.inj h).1
          | false =>
            rw [hf] at h
            have e := (Prod.mk.inj h).1
            rw [e]
            exact .inr (stepS_ok (runOk_of hb) ha (fun h0 => by rw [h0] at ht; simp at ht) hf)
def stepDeque (x : GDeque) (i : Int) : GDeque × Int := stepDequeR x i
theorem stepDeque_small (a0 : GDeque) (a1 : Int) (r0 : GDeque) (r1 : Int) (h : (r0, r1) = stepDeque a0 a1) (_ : a0.small) : r0.cnt ≤ 1099511627776 := by
  rcases stepDequeR_ok h with rfl | h
  · exact zero_cnt
  · exact h.cnt
end Go.Tr
namespace Go.Proofs.Ythelpioccjjgfaa
open Go Go.RowKit Go.Proofs Go.Tr
theorem stepDequeS_any (a0 : GDeque) {p0 : List Nat} {u0 : List Value} (a1 : Int) (r0 : GDeque) (r1 : Int) (hR : (r0, r1) = stepDeque a0 a1) (w : World) (h0 : TN w a0.enc p0 u0) : Calls Try.prog 48 #[.agg u0.toArray, .int .i64 a1] w fun e w' => ∃ (v0 : List Value) (q0 : List Nat), e = .returned (.tuple #[.agg v0.toArray, .int .i64 r1]) ∧ Ext w w' ∧ TN w' r0.enc q0 v0 := by
 obtain ⟨A2, c2, b2, A3, c3, b3, A4, c4, b4, A5, c5, b5, rfl, -, t2, -, -, t3, -, -, t4, -, -, t5, -, -⟩ := GDeque.us h0
 refine (stepDequeS_q a0 a1 A2 c2 A3 c3 A4 c4 A5 c5 r0 r1 hR w (Ro1.of t2) (Ro1.of t3) (Ro1.of t4) (Ro1.of t5)).mono ?_
 rintro _ w' ⟨us, rfl, hI⟩
 obtain ⟨q, hq, ho⟩ := hI.res
 exact ⟨us, q, rfl, hI.to_ext, hq⟩

theorem stepDequeI_any (a0 : GDeque) {p0 : List Nat} {u0 : List Value} (a1 : Int) (r0 : GDeque) (r1 : Int) (hR : (r0, r1) = stepDeque a0 a1) (w : World) (h0 : TN w a0.enc p0 u0) : Calls Try.prog 50 #[.agg u0.toArray, .int .i64 a1] w fun e w' => ∃ (v0 : List Value) (q0 : List Nat), e = .returned (.tuple #[.agg v0.toArray, .int .i64 r1]) ∧ Ext w w' ∧ TN w' r0.enc q0 v0 ∧ Own w.heap.size w' (q0) := by
 obtain ⟨A2, c2, b2, A3, c3, b3, A4, c4, b4, A5, c5, b5, rfl, -, t2, -, -, t3, -, -, t4, -, -, t5, -, -⟩ := GDeque.us h0
 refine (stepDequeI_q a0 a1 A2 c2 A3 c3 A4 c4 A5 c5 r0 r1 hR w (Ro1.of t2) (Ro1.of t3) (Ro1.of t4) (Ro1.of t5)).mono ?_
 rintro _ w' ⟨us, rfl, hI⟩
 obtain ⟨q, hq, ho⟩ := hI.res
 exact ⟨us, q, rfl, hI.to_ext, hq, ho⟩
end Go.Proofs.Ythelpioccjjgfaa
