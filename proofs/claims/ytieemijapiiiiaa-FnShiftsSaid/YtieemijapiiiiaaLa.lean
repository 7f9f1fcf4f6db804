/- Draws out of bytes: the source of the laws. -/
import Derived.Test.YtieemijapiiiiaaWb
import Derived.Test.YtieemijapiiiiaaVti
import Derived.Test.YtieemijapiiiiaaKinds
set_option linter.unusedSimpArgs false
set_option linter.unusedVariables false
namespace Go.Tr
open Go Go.RowKit
/-- Where a source is, and its seed. -/
structure DS where
  k : Nat
  s : Int
def seedN (s b : Int) : Int := IntKind.u64.wrap (IntKind.u64.wrap (IntKind.u64.wrap (s * 6364136223846793005) + IntKind.u64.wrap b) + 1442695040888963407)
def byteN (code : List Int) (k : Nat) : Int := bif decide ((k : Int) < (code.length : Nat)) then IntKind.i64.wrap (elt 0 code (k : Nat)) else 0
def tailN (s : Int) : Int := IntKind.i64.wrap (bits .and .u64 (s.fdiv (2 ^ (min (40 : Int).toNat IntKind.u64.bits))) 255)
def nx (code : List Int) (d : DS) : Int × DS :=
  (bif decide (((d.k + 1 : Nat) : Int) ≤ (code.length : Nat)) then byteN code d.k else tailN (seedN d.s (byteN code d.k)), ⟨d.k + 1, seedN d.s (byteN code d.k)⟩)
def pk (code : List Int) (d : DS) (n : Int) : Int × DS :=
  bif decide (n ≤ 1) then (0, d) else bif decide (200 < n) then
    ((IntKind.i64.wrap (IntKind.i64.wrap ((nx code d).1 * 256) + (nx code (nx code d).2).1)).tmod n, (nx code (nx code d).2).2) else ((nx code d).1.tmod n, (nx code d).2)
/-- The bytes are bytes. -/
def Bytes (code : List Int) : Prop := code.length ≤ 1048576 ∧ ∀ x ∈ code, 0 ≤ x ∧ x ≤ 255
theorem byteN_in {code : List Int} (h : Bytes code) (k : Nat) : 0 ≤ byteN code k ∧ byteN code k ≤ 255 := by
  unfold byteN
  cases hd : decide ((k : Int) < (code.length : Nat)) with
  | false => simp
  | true =>
    have hk : k < code.length := by simpa using hd
    have hm : elt 0 code (k : Nat) ∈ code := by
      unfold elt
      rw [show (((k : Nat) : Int)).toNat = k by omega, List.getD_eq_getElem?_getD, List.getElem?_eq_getElem hk]
      exact List.getElem_mem hk
    have := h.2 _ hm
    simp only [cond_true]
    rw [IntWalk.i64_in _ (by omega)]
    exact this
theorem tailN_in (s b : Int) : 0 ≤ tailN (seedN s b) ∧ tailN (seedN s b) ≤ 255 := by
  have h : ∀ y : Int, 0 ≤ IntKind.u64.wrap y ∧ IntKind.u64.wrap y < 18446744073709551616 := fun y => by
    have : IntKind.u64.wrap y = y % 18446744073709551616 := by simp [IntKind.wrap, IntKind.signed, IntKind.bits]
    rw [this]; omega
  unfold tailN seedN
  have h1 := h (IntKind.u64.wrap (IntKind.u64.wrap (s * 6364136223846793005) + IntKind.u64.wrap b) + 1442695040888963407)
  generalize IntKind.u64.wrap (IntKind.u64.wrap (IntKind.u64.wrap (s * 6364136223846793005) + IntKind.u64.wrap b) + 1442695040888963407) = z at *
  have e : z.fdiv (2 ^ (min (40 : Int).toNat IntKind.u64.bits)) = z / 1099511627776 := by
    have : ((2 : Int) ^ (min (40 : Int).toNat IntKind.u64.bits)) = 1099511627776 := by decide
    rw [this, Int.fdiv_eq_ediv_of_nonneg _ (by decide)]
  rw [e, u64_and _ _ (by omega) (by omega) (by omega) (by omega)]
  have h2 : (z / 1099511627776).toNat &&& (255 : Int).toNat ≤ 255 := Nat.and_le_right
  generalize (z / 1099511627776).toNat &&& (255 : Int).toNat = q at *
  rw [IntWalk.i64_in _ (by omega)]
  omega
theorem nx_in {code : List Int} (h : Bytes code) (d : DS) : 0 ≤ (nx code d).1 ∧ (nx code d).1 ≤ 255 := by
  unfold nx
  simp only
  cases decide (((d.k + 1 : Nat) : Int) ≤ (code.length : Nat)) with
  | true => exact byteN_in h _
  | false => exact tailN_in _ _
theorem pk_k (code : List Int) (d : DS) (n : Int) : d.k ≤ (pk code d n).2.k ∧ (pk code d n).2.k ≤ d.k + 2 := by
  unfold pk
  cases decide (n ≤ 1) <;> cases decide (200 < n) <;> simp [nx] <;> omega
theorem pk_0 {code : List Int} (h : Bytes code) (d : DS) (n : Int) : 0 ≤ (pk code d n).1 := by
  have h1 := nx_in h d
  have h2 := nx_in h (nx code d).2
  unfold pk
  cases decide (n ≤ 1) <;> cases decide (200 < n) <;> simp only [cond_true, cond_false] <;> first | exact Int.le_refl _ | skip
  · exact Int.tmod_nonneg _ h1.1
  · rw [IntWalk.i64_in ((nx code d).1 * 256) (by omega), IntWalk.i64_in _ (by omega)]
    exact Int.tmod_nonneg _ (by omega)
theorem pk_lt {code : List Int} (h : Bytes code) (d : DS) {n : Int} (hn : 1 ≤ n) : (pk code d n).1 < n := by
  have h1 := nx_in h d
  have h2 := nx_in h (nx code d).2
  unfold pk
  cases hd : decide (n ≤ 1) <;> cases decide (200 < n) <;> simp only [cond_true, cond_false]
  · exact Int.tmod_lt_of_pos _ (by omega)
  · exact Int.tmod_lt_of_pos _ (by omega)
  · omega
  · omega
/-- Some draws. -/
def pks (code : List Int) (n : Int) : Nat → DS → List Int
  | 0, _ => []
  | m + 1, d => (pk code d n).1 :: pks code n m (pk code d n).2
theorem pks_len (code : List Int) (n : Int) : ∀ (m : Nat) (d : DS), (pks code n m d).length = m
  | 0, _ => rfl
  | m + 1, d => by rw [pks, List.length_cons, pks_len]
theorem wrapPredI {i : Nat} (h : i ≤ 1000000000) : IntKind.i64.wrap (((i + 1 : Nat) : Int) - 1) = ((i : Nat) : Int) := by rw [IntWalk.i64_in _ (by omega)]; omega
abbrev uByte : U := .int .u8
end Go.Tr
namespace Go.Proofs.Ytieemijapiiiiaa
open Go Go.RowKit Go.Proofs Go.Tr
/-- A source, as a thing. -/
abbrev tSrc (code : List Int) (d : DS) : List Tok := [.cel 10000 59 [.rsl uByte code, .int .i64 (d.k : Nat), .int .u64 d.s]]
theorem okFrom : callOk Try.prog 17 = true := by kernel_rfl
theorem okNext : callOk Try.prog 65 = true := by kernel_rfl
theorem okPick : callOk Try.prog 54 = true := by kernel_rfl
section
variable (code : List Int) (d : DS)
theorem fromW : FCall Try.prog 17 [.rsl uByte code] [] (.ptr 10000 0) (tSrc code ⟨0, 0⟩) := by
  refine FCall.intro (nt := 6) ti_ok mixed okFrom Try.func17 rfl rfl rfl rfl rfl rfl ?_
  refine fin [(10000, 5)] (And.intro rfl ?_)
  exact ⟨trivial, ⟨rfl, ⟨rfl, rfl⟩, ⟨rfl, rfl⟩, trivial⟩, trivial⟩
set_option maxRecDepth 100000 in
theorem nextW (hb : Bytes code) (hk : d.k ≤ 100000000) : FCall Try.prog 65 [.ptr 10000 0] (tSrc code d) (.int .i64 (nx code d).1) (tSrc code (nx code d).2) := by
  refine FCall.intro (nt := 62) ti_ok mixed okNext Try.func65 rfl rfl rfl rfl rfl rfl ?_
  have hs := wrapS (k := d.k) (by omega)
  have e2 : ∀ b, byteN code d.k = b → (nx code d) = (bif decide (((d.k + 1 : Nat) : Int) ≤ (code.length : Nat)) then b else tailN (seedN d.s b), ⟨d.k + 1, seedN d.s b⟩) := fun b e => by subst e; rfl
  refine And.intro (by kernel_rfl) ?_
  refine And.intro (fun q1 => ?_) (fun q1 => ?_)
  · have hb1 : byteN code d.k = IntKind.i64.wrap (elt 0 code (d.k : Nat)) := by unfold byteN; rw [show decide ((d.k : Int) < (code.length : Nat)) = true from q1]; rfl
    rw [e2 _ hb1]
    refine And.intro (show 0 ≤ ((d.k : Nat) : Int) ∧ ((d.k : Nat) : Int) < (code.length : Nat) from ⟨by omega, of_decide_eq_true q1⟩) ?_
    refine And.intro (by kernel_rfl) ?_
    refine And.intro (by kernel_rfl) ?_
    refine And.intro (fun q2 => ?_) (fun q2 => ?_)
    · have q3 : decide (((d.k + 1 : Nat) : Int) ≤ (code.length : Nat)) = true := by rw [← hs]; exact q2
      rw [q3]
      refine fin [] (And.intro ⟨rfl, rfl⟩ ?_)
      exact ⟨trivial, ⟨rfl, ⟨hs, rfl⟩, ⟨rfl, rfl⟩, trivial⟩, trivial⟩
    · have q3 : decide (((d.k + 1 : Nat) : Int) ≤ (code.length : Nat)) = false := by rw [← hs]; exact q2
      rw [q3]
      refine And.intro (by decide) ?_
      refine fin [] (And.intro ⟨rfl, rfl⟩ ?_)
      exact ⟨trivial, ⟨rfl, ⟨hs, rfl⟩, ⟨rfl, rfl⟩, trivial⟩, trivial⟩
  · have hb1 : byteN code d.k = 0 := by unfold byteN; rw [show decide ((d.k : Int) < (code.length : Nat)) = false from q1]; rfl
    rw [e2 _ hb1]
    refine And.intro (by kernel_rfl) ?_
    refine And.intro (fun q2 => ?_) (fun q2 => ?_)
    · have q3 : decide (((d.k + 1 : Nat) : Int) ≤ (code.length : Nat)) = true := by rw [← hs]; exact q2
      rw [q3]
      refine fin [] (And.intro ⟨rfl, rfl⟩ ?_)
      exact ⟨trivial, ⟨rfl, ⟨hs, rfl⟩, ⟨rfl, rfl⟩, trivial⟩, trivial⟩
    · have q3 : decide (((d.k + 1 : Nat) : Int) ≤ (code.length : Nat)) = false := by rw [← hs]; exact q2
      rw [q3]
      refine And.intro (by decide) ?_
      refine fin [] (And.intro ⟨rfl, rfl⟩ ?_)
      exact ⟨trivial, ⟨rfl, ⟨hs, rfl⟩, ⟨rfl, rfl⟩, trivial⟩, trivial⟩
set_option maxRecDepth 100000 in
theorem pickW (hb : Bytes code) (hk : d.k ≤ 99999999) (n : Int) : FCall Try.prog 54 [.ptr 10000 0, .int .i64 n] (tSrc code d) (.int .i64 (pk code d n).1) (tSrc code (pk code d n).2) := by
  refine FCall.intro (nt := 20) ti_ok mixed okPick Try.func54 rfl rfl rfl rfl rfl rfl ?_
  have tk : ∀ d : DS, svEqL [.rsl uByte code, .int .i64 (d.k : Nat), .int .u64 d.s] [.rsl uByte code, .int .i64 (d.k : Nat), .int .u64 d.s] := fun d => ⟨rfl, ⟨rfl, rfl⟩, ⟨rfl, rfl⟩, trivial⟩
  unfold pk
  refine And.intro (fun q1 => ?_) (fun q1 => ?_)
  · rw [show decide (n ≤ 1) = true from q1]
    refine fin [] (And.intro ⟨rfl, rfl⟩ ?_)
    exact ⟨trivial, tk _, trivial⟩
  have hn : n ≠ 0 := by
    have : ¬ n ≤ 1 := of_decide_eq_false q1
    omega
  rw [show decide (n ≤ 1) = false from q1]
  refine Or.inr (Exists.intro _ (Exists.intro _ (And.intro (nextW code d hb (by omega)) ?_)))
  refine And.intro (fun q2 => ?_) (fun q2 => ?_)
  · rw [show decide (200 < n) = true from q2]
    refine Or.inr (Exists.intro _ (Exists.intro _ (And.intro (nextW code (nx code d).2 hb (by show d.k + 1 ≤ _; omega)) ?_)))
    refine And.intro hn ?_
    refine fin [] (And.intro ⟨rfl, rfl⟩ ?_)
    exact ⟨trivial, tk _, trivial⟩
  · rw [show decide (200 < n) = false from q2]
    refine And.intro hn ?_
    refine fin [] (And.intro ⟨rfl, rfl⟩ ?_)
    exact ⟨trivial, tk _, trivial⟩
end
end Go.Proofs.Ytieemijapiiiiaa
