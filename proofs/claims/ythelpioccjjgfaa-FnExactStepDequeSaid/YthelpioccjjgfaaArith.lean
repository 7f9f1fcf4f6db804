/- Plain arithmetic: 32-bit wraps, the operators of the language, bounds as Bools. No program in it. -/
import Derived.Test.YthelpioccjjgfaaLib
set_option linter.unusedSimpArgs false
set_option linter.unusedVariables false
namespace Go.Tr
open Go Go.RowKit
def I64 (x : Int) : Prop := -9223372036854775808 ≤ x ∧ x ≤ 9223372036854775807

def w32 (x : Int) : Int := (x + 2147483648) % 4294967296 - 2147483648
theorem w32_in (x : Int) : -2147483648 ≤ w32 x ∧ w32 x ≤ 2147483647 := by unfold w32; omega
theorem w32_id {x : Int} (h0 : -2147483648 ≤ x) (h1 : x ≤ 2147483647) : w32 x = x := by unfold w32; omega
theorem wrap_i32 (x : Int) : IntKind.i32.wrap x = w32 x := by unfold w32; simp [IntKind.wrap, IntKind.signed, IntKind.bits]; omega
def b2i (b : Bool) : Int := if b then 1 else 0
def opv (o a b : Int) : Int :=
  if o = 1 then w32 (w32 a + w32 b) else if o = 2 then w32 (w32 a - w32 b) else if o = 3 then w32 (w32 a * w32 b)
  else if o = 4 then (if w32 b = 0 then 0 else w32 ((w32 a).tdiv (w32 b))) else if o = 5 then b2i (decide (w32 a < w32 b)) else if o = 6 then b2i (w32 a == w32 b) else 0
theorem mul_in {x y : Int} (hx0 : -2147483648 ≤ x) (hx1 : x ≤ 2147483647) (hy0 : -2147483648 ≤ y) (hy1 : y ≤ 2147483647) : -4611686018427387904 ≤ x * y ∧ x * y ≤ 4611686018427387904 := by
  have h := Int.natAbs_mul x y
  have h1 : x.natAbs ≤ 2147483648 := by omega
  have h2 : y.natAbs ≤ 2147483648 := by omega
  have h3 : x.natAbs * y.natAbs ≤ 2147483648 * 2147483648 := Nat.mul_le_mul h1 h2
  omega
theorem tdiv_in {x y : Int} (hx0 : -2147483648 ≤ x) (hx1 : x ≤ 2147483647) : -2147483648 ≤ x.tdiv y ∧ x.tdiv y ≤ 2147483648 := by
  have h := Int.natAbs_tdiv_le_natAbs x y
  omega
def inB (n lo hi : Int) : Bool := decide (lo ≤ n) && decide (n ≤ hi)
theorem inB_t {n lo hi : Int} (h : inB n lo hi = true) : lo ≤ n ∧ n ≤ hi := by simpa [inB] using h
theorem inB_f {n lo hi : Int} (h : inB n lo hi = false) : n < lo ∨ hi < n := by
  simp only [inB, Bool.and_eq_false_iff, decide_eq_false_iff_not] at h; omega
theorem inB_mk {n lo hi : Int} (h1 : lo ≤ n) (h2 : n ≤ hi) : inB n lo hi = true := by simp [inB, h1, h2]
theorem inB_no {n lo hi : Int} (h : n < lo ∨ hi < n) : inB n lo hi = false := by
  simp only [inB, Bool.and_eq_false_iff, decide_eq_false_iff_not]; omega
def opText (o : Int) : List UInt8 := if o = 1 then [43] else if o = 2 then [45] else if o = 3 then [42] else if o = 4 then [47] else if o = 5 then [60] else if o = 6 then [61] else []
def opIs (t : List UInt8) (o : Int) : Bool := opText o == t
def opOf (t : List UInt8) : Int := if opIs t 1 then 1 else if opIs t 2 then 2 else if opIs t 3 then 3 else if opIs t 4 then 4 else if opIs t 5 then 5 else if opIs t 6 then 6 else 0
theorem opOf_at {t : List UInt8} {k : Nat} (hk : k < 6) (h : opIs t (k + 1) = true) (hb : ∀ j : Nat, j < k → opIs t (j + 1) = false) : opOf t = k + 1 := by
  unfold opOf
  have hc : k = 0 ∨ k = 1 ∨ k = 2 ∨ k = 3 ∨ k = 4 ∨ k = 5 := by omega
  rcases hc with rfl | rfl | rfl | rfl | rfl | rfl
  all_goals (have g0 := hb 0; have g1 := hb 1; have g2 := hb 2; have g3 := hb 3; have g4 := hb 4; simp at g0 g1 g2 g3 g4 h; simp [*])
theorem opOf_no {t : List UInt8} (hb : ∀ j : Nat, j < 6 → opIs t (j + 1) = false) : opOf t = 0 := by
  unfold opOf
  have g0 := hb 0; have g1 := hb 1; have g2 := hb 2; have g3 := hb 3; have g4 := hb 4; have g5 := hb 5
  simp at g0 g1 g2 g3 g4 g5; simp [*]
theorem snoc_no {t : List UInt8} {k : Nat} (h : Hid (∀ j : Nat, j < k → opIs t (j + 1) = false)) (hk : opIs t (k + 1) = false) : Hid (∀ j : Nat, j < k + 1 → opIs t (j + 1) = false) := by
  intro j hj
  by_cases e : j = k
  · subst e; exact hk
  · exact h.out j (by omega)

theorem f_addsub {a b : Int} (h5 : -2147483648 ≤ a) (h6 : a ≤ 2147483647) : (opv 2 (opv 1 a b) b != a) = false := by
  have : opv 2 (opv 1 a b) b = a := by simp only [opv]; simp; unfold w32; omega
  simp [this]
theorem f_wrap {a x : Int} (h5 : -2147483648 ≤ a) (h6 : a ≤ 2147483647) : (w32 (wrap64 (a + wrap64 (x - x.tmod 4294967296))) != a) = false := by
  have : w32 (wrap64 (a + wrap64 (x - x.tmod 4294967296))) = a := by
    have h1 := Int.mul_tdiv_add_tmod x 4294967296
    generalize x.tdiv 4294967296 = q at *
    generalize x.tmod 4294967296 = r at *
    unfold w32 wrap64
    omega
  simp [this]
theorem f_mul (a b : Int) : (opv 3 a b != opv 3 b a) = false := by
  have : opv 3 a b = opv 3 b a := by simp only [opv]; simp; rw [Int.mul_comm]
  simp [this]
theorem f_add (a b : Int) : (opv 1 a b == opv 1 b a) = true := by
  have : opv 1 a b = opv 1 b a := by simp only [opv]; simp; rw [Int.add_comm]
  simp [this]
theorem q_zero (a : Int) : opv 4 a 0 = 0 := by simp [opv, w32]
theorem r_zero {a : Int} (h5 : -2147483648 ≤ a) (h6 : a ≤ 2147483647) (q : Int) : opv 2 a (opv 3 q 0) = a := by simp only [opv]; simp; unfold w32; simp; omega
theorem tmod_in (a b : Int) (hb : b ≠ 0) : (a.tmod b).natAbs < b.natAbs ∧ (0 ≤ a → 0 ≤ a.tmod b) ∧ (a ≤ 0 → a.tmod b ≤ 0) := by
  refine ⟨?_, fun h => Int.tmod_nonneg _ h, fun h => ?_⟩
  · rw [Int.natAbs_tmod]; exact Nat.mod_lt _ (by omega)
  · have := Int.tmod_nonneg b (show 0 ≤ -a by omega)
    rw [Int.neg_tmod] at this; omega
theorem r_is {a b : Int} (h5 : -2147483648 ≤ a) (h6 : a ≤ 2147483647) (h7 : -2147483648 ≤ b) (h8 : b ≤ 2147483647) (hb : b ≠ 0) : opv 2 a (opv 3 (opv 4 a b) b) = a.tmod b := by
  have h1 := Int.mul_tdiv_add_tmod a b
  have h2 := tmod_in a b hb
  have h3 := tdiv_in (x := a) (y := b) h5 h6
  have ea := w32_id h5 h6
  have eb := w32_id h7 h8
  have e4 : opv 4 a b = w32 (a.tdiv b) := by simp only [opv]; simp [ea, eb, hb]
  have e3 : ∀ q, -2147483648 ≤ q → q ≤ 2147483647 → opv 3 q b = w32 (q * b) := fun q u v => by simp only [opv]; simp [w32_id u v, eb]
  have e2 : ∀ z, opv 2 a z = w32 (a - w32 z) := fun z => by simp only [opv]; simp [ea]
  rw [e4, e2]
  by_cases hq : a.tdiv b = 2147483648
  · have hq' : w32 (a.tdiv b) = -2147483648 := by rw [hq]; decide
    rw [hq', e3 _ (by omega) (by omega)]
    have : b = -1 ∧ a = -2147483648 := by
      rw [hq] at h1
      omega
    obtain ⟨rfl, rfl⟩ := this
    decide
  · rw [w32_id h3.1 (by omega), e3 _ h3.1 (by omega), Int.mul_comm]
    generalize a.tdiv b = q at *
    generalize a.tmod b = r at *
    generalize b * q = z at *
    unfold w32
    omega
theorem less_facts {a b : Int} (h5 : -2147483648 ≤ a) (h6 : a ≤ 2147483647) (h7 : -2147483648 ≤ b) (h8 : b ≤ 2147483647) :
    opv 5 a b = b2i (decide (a < b)) ∧ opv 5 b a = b2i (decide (b < a)) ∧ opv 6 a b = b2i (a == b) := by
  simp only [opv]; simp [w32_id h5 h6, w32_id h7 h8]
theorem b2i_t : b2i true = 1 := rfl
theorem b2i_f : b2i false = 0 := rfl
theorem three (a b : Int) : (decide (a < b) = true ∧ decide (b < a) = false ∧ (a == b) = false) ∨ (decide (a < b) = false ∧ decide (b < a) = true ∧ (a == b) = false) ∨ (decide (a < b) = false ∧ decide (b < a) = false ∧ (a == b) = true) := by
  simp only [decide_eq_true_eq, decide_eq_false_iff_not, beq_eq_false_iff_ne, beq_iff_eq]; omega
end Go.Tr
