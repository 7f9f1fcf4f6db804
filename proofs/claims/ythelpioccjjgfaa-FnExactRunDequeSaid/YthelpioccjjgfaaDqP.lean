/- Deques. Printed by gx_dq.py. -/
import Derived.Test.YthelpioccjjgfaaProg
import Derived.Test.YthelpioccjjgfaaSc
import Derived.Test.YthelpioccjjgfaaDDq
import Derived.Test.YthelpioccjjgfaaArith
import Derived.IntWalk
import Derived.Test.YthelpioccjjgfaaDq9
set_option linter.unusedSimpArgs false
set_option linter.unusedVariables false
namespace Go.Tr
theorem dc1 {w : World} {b k : Nat} {v : Value} (h : w.cell? ⟨b, 0 + k, none⟩ = some v) : w.cell? ⟨b, k * 1, none⟩ = some v := by rw [Nat.mul_one]; rwa [Nat.zero_add] at h
theorem inj3 {α β γ : Type} {a a' : α} {b b' : β} {c c' : γ} (h : (a, b, c) = (a', b', c')) : a = a' ∧ b = b' ∧ c = c' := by
  injection h with h1 h2; injection h2 with h2 h3; exact ⟨h1, h2, h3⟩
def aM (a : GDequeActor) : Nat := 4 * a.todo.length - a.pc.toNat
def actM (x : GDeque) : Nat := (x.actors.map aM).sum
def nextI (sch : List Int) (n m : Nat) : Nat := if 0 < sch.length then ((sch[n % sch.length]?).getD 0).toNat % m else 0
theorem nextI_f {sch : List Int} {n m : Nat} (h : ¬ 0 < sch.length) : nextI sch n m = 0 := if_neg h
theorem nextI_t {sch : List Int} {n m j : Nat} (h : 0 < sch.length) (hx : sch[n % sch.length]? = some ((j : Nat) : Int)) : nextI sch n m = j % m := by
  unfold nextI; rw [if_pos h, hx]; rfl
def runD (sch : List Int) : Nat → GDeque → Nat → GDeque × Int × Int
  | 0, _, _ => (⟨0, 0, [], [], [], []⟩, 0, 0)
  | f + 1, y, n => cond ((((busyTo y.actors y.actors.length).length : Nat) : Int) == 0) (y, ((n : Nat) : Int), 0)
      (match y.actors[(((busyTo y.actors y.actors.length)[nextI sch n (busyTo y.actors y.actors.length).length]?).getD 0).toNat]? with
       | none => (⟨0, 0, [], [], [], []⟩, 0, 0)
       | some a => cond (fullB (stepS y (((busyTo y.actors y.actors.length)[nextI sch n (busyTo y.actors y.actors.length).length]?).getD 0).toNat a)) (⟨0, 0, [], [], [], []⟩, 0, 4) (runD sch f (stepS y (((busyTo y.actors y.actors.length)[nextI sch n (busyTo y.actors y.actors.length).length]?).getD 0).toNat a) (n + 1)))
theorem runD_end {sch : List Int} {f n : Nat} {y : GDeque} (h : ((((busyTo y.actors y.actors.length).length : Nat) : Int) == 0) = true) : runD sch (f + 1) y n = (y, ((n : Nat) : Int), 0) := by rw [runD, h]; rfl
theorem runD_go {sch : List Int} {f n q i : Nat} {y : GDeque} {a : GDequeActor} (h : ((((busyTo y.actors y.actors.length).length : Nat) : Int) == 0) = false) (hq : nextI sch n (busyTo y.actors y.actors.length).length = q) (hb : (busyTo y.actors y.actors.length)[q]? = some ((i : Nat) : Int)) (ha : y.actors[i]? = some a) :
    runD sch (f + 1) y n = cond (fullB (stepS y i a)) (⟨0, 0, [], [], [], []⟩, 0, 4) (runD sch f (stepS y i a) (n + 1)) := by
  rw [runD, h, hq, hb]
  simp only [Option.getD_some, Int.toNat_natCast, ha, cond_false]
def runDequeR (x : GDeque) (sch : List Int) : GDeque × Int × Int :=
  cond (!okB x) (⟨0, 0, [], [], [], []⟩, 0, 1) (cond (!schB sch) (⟨0, 0, [], [], [], []⟩, 0, 2) (runD sch (actM x + 1) x 0))
theorem sch_el {xs : List Int} {k : Nat} {v : Int} (h : schB xs = true) (hx : xs[k]? = some v) : ∃ j : Nat, v = ((j : Nat) : Int) := by
  simp only [schB, Bool.and_eq_true, List.all_eq_true] at h
  have h1 := inB_t (h.2 v (List.mem_of_getElem? hx))
  exact ⟨v.toNat, by omega⟩
theorem busy_at {xs : List GDequeActor} {q : Nat} : ∀ {n : Nat}, q < (busyTo xs n).length → ∃ (i : Nat) (a : GDequeActor), (busyTo xs n)[q]? = some ((i : Nat) : Int) ∧ i < n ∧ xs[i]? = some a ∧ a.todo ≠ []
  | 0, h => by simp [busyTo] at h
  | n + 1, h => by
    by_cases hq : q < (busyTo xs n).length
    · obtain ⟨i, a, h1, h2, h3, h4⟩ := busy_at hq
      exact ⟨i, a, by unfold busyTo; rw [List.getElem?_append_left hq]; exact h1, by omega, h3, h4⟩
    · unfold busyTo at h ⊢
      cases hx : xs[n]? with
      | none => rw [hx] at h; simp at h; omega
      | some a =>
        rw [hx] at h
        by_cases ht : 0 < a.todo.length
        · simp only [if_pos ht, List.length_append, List.length_cons, List.length_nil] at h ⊢
          refine ⟨n, a, ?_, by omega, hx, fun h0 => by rw [h0] at ht; simp at ht⟩
          rw [List.getElem?_append_right (by omega), show q - (busyTo xs n).length = 0 by omega]; rfl
        · simp only [if_neg ht, List.append_nil] at h; omega
theorem sum_set {α : Type} (f : α → Nat) : ∀ {xs : List α} {k : Nat} {a v : α}, xs[k]? = some a → ((xs.set k v).map f).sum + f a = (xs.map f).sum + f v
  | [], k, a, v, h => by simp at h
  | x :: xs, 0, a, v, h => by simp at h; subst h; simp; omega
  | x :: xs, k + 1, a, v, h => by
    have := sum_set f (v := v) (show xs[k]? = some a by simpa using h)
    simp only [List.set_cons_succ, List.map_cons, List.sum_cons]; omega
theorem sum_le {α : Type} (f : α → Nat) (m : Nat) : ∀ {xs : List α}, (∀ (k : Nat) (a : α), xs[k]? = some a → f a ≤ m) → (xs.map f).sum ≤ xs.length * m
  | [], _ => by simp
  | x :: xs, h => by
    have h1 := h 0 x rfl
    have h2 := sum_le f m (xs := xs) fun k a hk => h (k + 1) a (by simpa using hk)
    simp only [List.map_cons, List.sum_cons, List.length_cons, Nat.add_mul]; omega
theorem actM_le {x : GDeque} (h : RunOk x) : actM x ≤ 4000000 := by
  have h1 := sum_le aM 4000 (xs := x.actors) fun k a hk => by have := (h.acts k a hk).1; unfold aM; omega
  have h2 := h.n1
  unfold actM
  exact Nat.le_trans h1 (Nat.le_trans (Nat.mul_le_mul_right 4000 h2) (by decide))
/-- What a step makes of its actor. -/
def stepA (y : GDeque) (k : Nat) (a : GDequeActor) : GDequeActor := (cond (decide ((0 : Int) < ((k : Nat) : Int))) (stealS y a ((k : Nat) : Int)) (cond (a.todo.headD 0 == 0) (takeS y a) (pushS y a))).2
theorem stepS_acts (y : GDeque) (k : Nat) (a : GDequeActor) : (stepS y k a).actors = y.actors.set k (stepA y k a) := rfl
theorem stepA_any {y : GDeque} {k : Nat} {n0 : Int} {tl : List Int} {pc t b x : Int} (hpc : pc = 0 ∨ pc = 1 ∨ pc = 2 ∨ pc = 3) (hp0 : k = 0 → n0 ≠ 0 → pc ≠ 3) :
    (stepA y k ⟨n0 :: tl, pc, t, b, x⟩ = endA ⟨n0 :: tl, pc, t, b, x⟩) ∨ ((stepA y k ⟨n0 :: tl, pc, t, b, x⟩).todo = n0 :: tl ∧ pc < (stepA y k ⟨n0 :: tl, pc, t, b, x⟩).pc ∧ (stepA y k ⟨n0 :: tl, pc, t, b, x⟩).pc ≤ 3 ∧ (k = 0 → n0 ≠ 0 → (stepA y k ⟨n0 :: tl, pc, t, b, x⟩).pc ≠ 3)) := by
  unfold stepA
  by_cases hk : k = 0
  · subst hk
    rw [show decide ((0 : Int) < (((0 : Nat) : Nat) : Int)) = false from rfl, cond_false]
    by_cases hn : n0 = 0
    · subst hn
      rw [show (List.headD ((0 : Int) :: tl) 0 == 0) = true from rfl, cond_true]
      rcases hpc with rfl | rfl | rfl | rfl <;> simp only [takeS, Bool.cond_eq_ite] <;> simp <;> (repeat' split) <;> simp
    · rw [show (List.headD (n0 :: tl) 0 == 0) = false by simpa using hn, cond_false]
      have hp3 := hp0 rfl hn
      rcases hpc with rfl | rfl | rfl | rfl <;> simp only [pushS, Bool.cond_eq_ite] <;> simp <;> (repeat' split) <;> simp
      all_goals exact absurd rfl hp3
  · rw [show decide ((0 : Int) < ((k : Nat) : Int)) = true by simp; omega, cond_true]
    rcases hpc with rfl | rfl | rfl | rfl <;> simp only [stealS, Bool.cond_eq_ite] <;> simp <;> (repeat' split) <;> (try simp) <;> omega
theorem actM_step {y : GDeque} {k : Nat} {n0 : Int} {tl : List Int} {pc t b x : Int} (hk : y.actors[k]? = some ⟨n0 :: tl, pc, t, b, x⟩) (hpc : pc = 0 ∨ pc = 1 ∨ pc = 2 ∨ pc = 3) (hp0 : k = 0 → n0 ≠ 0 → pc ≠ 3) : actM (stepS y k ⟨n0 :: tl, pc, t, b, x⟩) + 1 ≤ actM y := by
  unfold actM
  have h1 := sum_set aM (v := stepA y k ⟨n0 :: tl, pc, t, b, x⟩) hk
  rw [← stepS_acts] at h1
  have h3 : aM (stepA y k ⟨n0 :: tl, pc, t, b, x⟩) + 1 ≤ aM ⟨n0 :: tl, pc, t, b, x⟩ := by
    rcases stepA_any (y := y) (tl := tl) (t := t) (b := b) (x := x) hpc hp0 with h | ⟨h, h4, h5, _⟩
    · rw [h]; simp only [aM, endA, List.tail_cons, List.length_cons]; omega
    · simp only [aM, h, List.length_cons]; omega
  omega
theorem runOk_step {y : GDeque} {k : Nat} {n0 : Int} {tl : List Int} {pc t b x : Int} (h : RunOk y) (hk : y.actors[k]? = some ⟨n0 :: tl, pc, t, b, x⟩) (hpc : pc = 0 ∨ pc = 1 ∨ pc = 2 ∨ pc = 3) (hp0 : k = 0 → n0 ≠ 0 → pc ≠ 3) (hf : fullB (stepS y k ⟨n0 :: tl, pc, t, b, x⟩) = false) : RunOk (stepS y k ⟨n0 :: tl, pc, t, b, x⟩) := by
  simp only [fullB, Bool.or_eq_false_iff, decide_eq_false_iff_not] at hf
  obtain ⟨e1, e2⟩ := stepS_len y k ⟨n0 :: tl, pc, t, b, x⟩
  refine ⟨e1 ▸ h.b0, e1 ▸ h.b1, by omega, by omega, e2 ▸ h.n1, e2 ▸ h.n0, fun j a hj => ?_⟩
  rw [stepS_acts] at hj
  by_cases hkj : k = j
  · subst hkj
    rw [List.getElem?_set_self (List.getElem?_eq_some_iff.1 hk).1] at hj
    obtain rfl := Option.some.inj hj
    have h2 := (h.acts k _ hk).1
    simp only [List.length_cons] at h2
    rcases stepA_any (y := y) (tl := tl) (t := t) (b := b) (x := x) hpc hp0 with h | ⟨h, h4, h5, h6⟩
    · rw [h]; refine ⟨?_, .inl rfl, fun _ _ => by simp [endA]⟩
      simp only [endA, List.tail_cons]; omega
    · rw [h]; refine ⟨by simpa using h2, by omega, fun h0 hn => h6 h0 (by simpa using hn)⟩
  · rw [List.getElem?_set_ne hkj] at hj
    exact h.acts j a hj
end Go.Tr
namespace Go.Proofs.Ythelpioccjjgfaa
open Go Go.RowKit Go.Proofs Go.Tr
end Go.Proofs.Ythelpioccjjgfaa
