/- Deques. Printed by gx_dq.py. -/
import Derived.Test.YthelpioccjjgfaaProg
import Derived.Test.YthelpioccjjgfaaSc
import Derived.Test.YthelpioccjjgfaaDDq
import Derived.Test.YthelpioccjjgfaaArith
import Derived.IntWalk
import Derived.Test.YthelpioccjjgfaaDq19
import Derived.Test.YthelpioccjjgfaaDq20
import Derived.Test.YthelpioccjjgfaaDq10
set_option linter.unusedSimpArgs false
set_option linter.unusedVariables false
namespace Go.Tr
theorem runD_ok {sch : List Int} : ∀ {f n : Nat} {y r0 : GDeque} {r1 r2 : Int}, RunOk y → (r0, r1, r2) = runD sch f y n → r0 = ⟨0, 0, [], [], [], []⟩ ∨ RunOk r0
  | 0, n, y, r0, r1, r2, hy, h => .inl (inj3 h).1
  | f + 1, n, y, r0, r1, r2, hy, h => by
    cases hb : ((((busyTo y.actors y.actors.length).length : Nat) : Int) == 0) with
    | true => rw [runD_end hb] at h; rw [(inj3 h).1]; exact .inr hy
    | false =>
      have hL : 0 < (busyTo y.actors y.actors.length).length := by
        simp only [beq_eq_false_iff_ne, ne_eq] at hb; omega
      obtain ⟨i, a, hbq, _, hbx, hbt⟩ := busy_at (nextI_lt (sch := sch) (n := n) hL)
      rw [runD_go hb rfl hbq hbx] at h
      cases hf : fullB (stepS y i a) with
      | true => rw [hf] at h; exact .inl (inj3 h).1
      | false => rw [hf] at h; exact runD_ok (stepS_ok hy hbx hbt hf) h
def runDeque (x : GDeque) (sch : List Int) : GDeque × Int × Int := runDequeR x sch
theorem runDeque_small (a0 : GDeque) (a1 : List Int) (r0 : GDeque) (r1 r2 : Int) (h : (r0, r1, r2) = runDeque a0 a1) (_ : a0.small) (_ : a1.length ≤ 1048576) : r0.cnt ≤ 1099511627776 := by
  have h1 : r0 = ⟨0, 0, [], [], [], []⟩ ∨ RunOk r0 := by
    unfold runDeque runDequeR at h
    cases hb : okB a0 with
    | false => rw [hb] at h; exact .inl (inj3 h).1
    | true =>
      rw [hb] at h
      cases hs : schB a1 with
      | false => rw [hs] at h; exact .inl (inj3 h).1
      | true => rw [hs] at h; exact runD_ok (runOk_of hb) h
  rcases h1 with rfl | h
  · exact zero_cnt
  · exact h.cnt
end Go.Tr
namespace Go.Proofs.Ythelpioccjjgfaa
open Go Go.RowKit Go.Proofs Go.Tr
theorem runDequeS_any (a0 : GDeque) {p0 : List Nat} {u0 : List Value} (a1 : (List Int)) {A1 : Option Addr} {c1 : Nat} {p1 : List Nat} (r0 : GDeque) (r1 : Int) (r2 : Int) (hR : (r0, r1, r2) = runDeque a0 a1) (w : World) (h0 : TN w a0.enc p0 u0) (h1 : T1 w (.sl a1.length (a1.flatMap intE)) p1 (.slice A1 a1.length c1)) : Calls Try.prog 54 #[.agg u0.toArray, .slice A1 a1.length c1] w fun e w' => ∃ (v0 : List Value) (q0 : List Nat), e = .returned (.tuple #[.agg v0.toArray, .int .i64 r1, .int .i64 r2]) ∧ Ext w w' ∧ TN w' r0.enc q0 v0 := by
 obtain ⟨A2, c2, b2, A3, c3, b3, A4, c4, b4, A5, c5, b5, rfl, -, t2, -, -, t3, -, -, t4, -, -, t5, -, -⟩ := GDeque.us h0
 refine (runDequeS_q a0 a1 A2 c2 A3 c3 A4 c4 A5 c5 A1 c1 r0 r1 r2 hR w (Ro1.of t2) (Ro1.of t3) (Ro1.of t4) (Ro1.of t5) (Ro1.of h1)).mono ?_
 rintro _ w' ⟨us, rfl, hI⟩
 obtain ⟨q, hq, ho⟩ := hI.res
 exact ⟨us, q, rfl, hI.to_ext, hq⟩

theorem runDequeI_any (a0 : GDeque) {p0 : List Nat} {u0 : List Value} (a1 : (List Int)) {A1 : Option Addr} {c1 : Nat} {p1 : List Nat} (r0 : GDeque) (r1 : Int) (r2 : Int) (hR : (r0, r1, r2) = runDeque a0 a1) (w : World) (h0 : TN w a0.enc p0 u0) (h1 : T1 w (.sl a1.length (a1.flatMap intE)) p1 (.slice A1 a1.length c1)) : Calls Try.prog 15 #[.agg u0.toArray, .slice A1 a1.length c1] w fun e w' => ∃ (v0 : List Value) (q0 : List Nat), e = .returned (.tuple #[.agg v0.toArray, .int .i64 r1, .int .i64 r2]) ∧ Ext w w' ∧ TN w' r0.enc q0 v0 ∧ Own w.heap.size w' (q0) := by
 obtain ⟨A2, c2, b2, A3, c3, b3, A4, c4, b4, A5, c5, b5, rfl, -, t2, -, -, t3, -, -, t4, -, -, t5, -, -⟩ := GDeque.us h0
 refine (runDequeI_q a0 a1 A2 c2 A3 c3 A4 c4 A5 c5 A1 c1 r0 r1 r2 hR w (Ro1.of t2) (Ro1.of t3) (Ro1.of t4) (Ro1.of t5) (Ro1.of h1)).mono ?_
 rintro _ w' ⟨us, rfl, hI⟩
 obtain ⟨q, hq, ho⟩ := hI.res
 exact ⟨us, q, rfl, hI.to_ext, hq, ho⟩
end Go.Proofs.Ythelpioccjjgfaa
