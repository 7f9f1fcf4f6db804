/- More of data trees: what the generated texts use. No program in it. -/
import Derived.Test.YthciaodffkbljaaGreatLib
set_option linter.unusedSimpArgs false
set_option linter.unusedVariables false
namespace Go.Tr
open Go Go.RowKit

noncomputable def eqb {α : Type} (x y : α) : Bool := @decide (x = y) (Classical.propDecidable _)
theorem eqb_t {α : Type} {x y : α} (h : eqb x y = true) : x = y := by simpa [eqb] using h
theorem eqb_f {α : Type} {x y : α} (h : x ≠ y) : eqb x y = false := by simpa [eqb] using h
theorem eqb_nf {α : Type} {x y : α} (h : eqb x y = false) : x ≠ y := by simpa [eqb] using h
theorem eqb_self {α : Type} (x : α) : eqb x x = true := by simp [eqb]
theorem eqb_of {α : Type} {x y : α} (h : x = y) : eqb x y = true := by subst h; exact eqb_self x

theorem T1.slice {w : World} {n ds bs u} (h : T1 w (.sl n ds) bs u) : ∃ A c, u = .slice A n c ∧ n ≤ c ∧ c ≤ maxLen := by
  unfold T1 at h
  obtain ⟨A, c, h1, h2, h3, _⟩ := h
  exact ⟨A, c, h1, h2, h3⟩
theorem TN.v_cons {w : World} {x ds bs us} (h : TN w (.v x :: ds) bs us) : ∃ us', us = x :: us' ∧ TN w ds bs us' := by
  obtain ⟨b1, b2, u, us', rfl, rfl, h1, h2⟩ := TN.cons.1 h
  obtain ⟨rfl, rfl, _⟩ := T1.v.1 h1
  exact ⟨us', rfl, h2⟩
theorem TN.v_mk {w : World} {x ds bs us} (h1 : x.oneCell' = true) (h : TN w ds bs us) : TN w (.v x :: ds) bs (x :: us) := TN.cons.2 ⟨[], bs, x, us, rfl, rfl, T1.v.2 ⟨rfl, rfl, h1⟩, h⟩
theorem TN.sl_cons {w : World} {n es ds bs us} (h : TN w (.sl n es :: ds) bs us) : ∃ A c b1 b2 us', us = .slice A n c :: us' ∧ bs = b1 ++ b2 ∧ T1 w (.sl n es) b1 (.slice A n c) ∧ n ≤ c ∧ c ≤ maxLen ∧ TN w ds b2 us' := by
  obtain ⟨b1, b2, u, us', rfl, rfl, h1, h2⟩ := TN.cons.1 h
  obtain ⟨A, c, rfl, h3, h4⟩ := h1.slice
  exact ⟨A, c, b1, b2, us', rfl, rfl, h1, h3, h4, h2⟩
theorem TN.sl_mk {w : World} {d ds b1 b2 u us} (h : T1 w d b1 u) (h2 : TN w ds b2 us) : TN w (d :: ds) (b1 ++ b2) (u :: us) := TN.cons.2 ⟨b1, b2, u, us, rfl, rfl, h, h2⟩
theorem TN.end_ {w : World} {bs us} (h : TN w [] bs us) : us = [] ∧ bs = [] := TN.nil.1 h
theorem TN.done {w : World} : TN w [] [] [] := TN.nil.2 ⟨rfl, rfl⟩

theorem T1.oneC {w : World} : ∀ {d : D} {bs : List Nat} {u : Value}, T1 w d bs u → u.oneCell' = true
  | .v x, bs, u, h => by obtain ⟨rfl, _, h⟩ := T1.v.1 h; exact h
  | .sl n ds, bs, u, h => by obtain ⟨A, c, rfl, _, _⟩ := h.slice; rfl
theorem TN.oneC {w : World} : ∀ {ds : List D} {bs us}, TN w ds bs us → us.all (·.oneCell') = true
  | [], bs, us, h => by obtain ⟨rfl, _⟩ := TN.nil.1 h; rfl
  | d :: ds, bs, us, h => by
    obtain ⟨b1, b2, u, us', rfl, rfl, h1, h2⟩ := TN.cons.1 h
    simp [h1.oneC, List.all_eq_true.1 h2.oneC]
    exact fun x hx => List.all_eq_true.1 h2.oneC x hx

/-- Nothing but block g has changed. -/
structure But (g : Nat) (w w' : World) : Prop where
  os : w'.os = w.os
  tape : w'.tape = w.tape
  output : w'.output = w.output
  size : w.heap.size ≤ w'.heap.size
  block : ∀ k, k < w.heap.size → k ≠ g → w'.heap[k]? = w.heap[k]?
theorem But.refl (g : Nat) (w : World) : But g w w := ⟨rfl, rfl, rfl, Nat.le_refl _, fun _ _ _ => rfl⟩
theorem But.trans {g : Nat} {a b c : World} (h : But g a b) (k : But g b c) : But g a c :=
  ⟨k.os.trans h.os, k.tape.trans h.tape, k.output.trans h.output, Nat.le_trans h.size k.size, fun i hi hg => (k.block i (Nat.lt_of_lt_of_le hi h.size) hg).trans (h.block i hi hg)⟩
theorem But.of_below {g : Nat} {w w' : World} (h : Below w.heap.size w w') : But g w w' := ⟨h.os, h.tape, h.output, h.size, fun k hk _ => h.block k hk⟩
theorem But.below {B g : Nat} {w w' : World} (h : But g w w') (hB : B ≤ w.heap.size) (hg : B ≤ g) : Below B w w' := ⟨h.os, h.tape, h.output, h.size, fun k hk => h.block k (by omega) (by omega)⟩
theorem But.drewN {g : Nat} {w w' : World} (h : But g w w') (n : Nat) : But g w (w'.drewN n) := ⟨h.os, h.tape, h.output, h.size, h.block⟩
theorem But.setCell {g : Nat} {w w' : World} (h : But g w w') (o : Nat) (v : Value) : But g w (w'.setCell ⟨g, o, none⟩ v) :=
  h.trans ⟨rfl, rfl, rfl, by simp [World.setCell], fun k _ hg => Below.heap_setCell _ _ _ _ hg⟩
theorem T1.but {w w' : World} {g d bs u} (h : T1 w d bs u) (hb : But g w w') (hg : g ∉ bs) : T1 w' d bs u := h.keep ⟨hb.size, fun b hb' => hb.block b (h.lt b hb') (fun e => hg (e ▸ hb'))⟩
theorem TN.but {w w' : World} {g ds bs us} (h : TN w ds bs us) (hb : But g w w') (hg : g ∉ bs) : TN w' ds bs us := h.keep ⟨hb.size, fun b hb' => hb.block b (h.lt b hb') (fun e => hg (e ▸ hb'))⟩

/-- Blocks of the call's own, each once, none frozen. -/
def Own (lo : Nat) (w : World) (bs : List Nat) : Prop := bs.Nodup ∧ ∀ b ∈ bs, lo ≤ b ∧ ∃ cur t, w.heap[b]? = some (.cells cur t (0, 0))
theorem Own.nil (lo : Nat) (w : World) : Own lo w [] := ⟨List.nodup_nil, by simp⟩
theorem Own.lt {lo w bs} (h : Own lo w bs) : ∀ b ∈ bs, b < w.heap.size := fun b hb => by
  obtain ⟨_, cur, t, h⟩ := h.2 b hb
  exact (Array.getElem?_eq_some_iff.1 h).1
theorem Own.but {lo g : Nat} {w w' : World} {bs} (h : Own lo w bs) (hb : But g w w') (hg : g ∉ bs) : Own lo w' bs :=
  ⟨h.1, fun b hb' => ⟨(h.2 b hb').1, by
    obtain ⟨_, cur, t, h2⟩ := h.2 b hb'
    exact ⟨cur, t, (hb.block b (h.lt b hb') (fun e => hg (e ▸ hb'))).trans h2⟩⟩⟩
theorem Own.below {lo : Nat} {w w' : World} {bs} (h : Own lo w bs) (hb : Below w.heap.size w w') : Own lo w' bs :=
  ⟨h.1, fun b hb' => ⟨(h.2 b hb').1, by
    obtain ⟨_, cur, t, h2⟩ := h.2 b hb'
    exact ⟨cur, t, (hb.block b (h.lt b hb')).trans h2⟩⟩⟩
theorem Own.mono {lo lo' : Nat} {w : World} {bs} (h : Own lo w bs) (hl : lo' ≤ lo) : Own lo' w bs := ⟨h.1, fun b hb => ⟨Nat.le_trans hl (h.2 b hb).1, (h.2 b hb).2⟩⟩
theorem Own.notin {lo : Nat} {w : World} {bs} (h : Own lo w bs) {g : Nat} (hg : g < lo) : g ∉ bs := fun hb => by have := (h.2 g hb).1; omega
theorem Own.append {lo hi : Nat} {w : World} {b1 b2} (h1 : Own lo w b1) (hl : ∀ b ∈ b1, b < hi) (h2 : Own hi w b2) (hlo : lo ≤ hi) : Own lo w (b1 ++ b2) :=
  ⟨List.nodup_append.2 ⟨h1.1, h2.1, fun a ha b hb e => by
    subst e
    have := hl a ha
    have := (h2.2 a hb).1
    omega⟩, fun b hb => by
    rcases List.mem_append.1 hb with h | h
    · exact h1.2 b h
    · exact ⟨Nat.le_trans hlo (h2.2 b h).1, (h2.2 b h).2⟩⟩
theorem Own.cons {lo g : Nat} {w : World} {bs} {cur t} (hg : w.heap[g]? = some (.cells cur t (0, 0))) (hlo : lo ≤ g) (h : Own (g + 1) w bs) : Own lo w (g :: bs) :=
  ⟨List.nodup_cons.2 ⟨h.notin (by omega), h.1⟩, fun b hb => by
    rcases List.mem_cons.1 hb with rfl | hb
    · exact ⟨hlo, cur, t, hg⟩
    · have := (h.2 b hb).1
      exact ⟨by omega, (h.2 b hb).2⟩⟩

theorem bcell {W w1 : World} (hb : Below W.heap.size W w1) : (∀ b o, b < W.heap.size → w1.cell? ⟨b, o, none⟩ = W.cell? ⟨b, o, none⟩) ∧ (∀ b o, b < W.heap.size → w1.frozen? ⟨b, o, none⟩ = W.frozen? ⟨b, o, none⟩) :=
  ⟨fun b o h => hb.cell (p := ⟨b, o, none⟩) h, fun b o h => hb.frozen (p := ⟨b, o, none⟩) h⟩

def intE (x : Int) : List D := [.v (.int .i64 x)]
theorem intE_us {w : World} {x bs us} (h : TN w (intE x) bs us) : us = [.int .i64 x] ∧ bs = [] := by
  obtain ⟨us', rfl, h2⟩ := TN.v_cons h
  obtain ⟨rfl, rfl⟩ := h2.end_
  exact ⟨rfl, rfl⟩
theorem intE_at {w : World} {xs : List Int} {bs : List Nat} {A : Option Addr} {n c : Nat} (h : T1 w (.sl n (xs.flatMap intE)) bs (.slice A n c)) (hm : xs.length = n) {k : Nat} (hk : k < n) :
    ∃ b off x, A = some ⟨b, off, none⟩ ∧ b ∈ bs ∧ b < w.heap.size ∧ Hid (xs[k]? = some x) ∧ w.cell? ⟨b, off + k, none⟩ = some (.int .i64 x) := by
  obtain ⟨_, b, off, b1, b2, b3, us, hA, rfl, hb, hc, ht⟩ := T1.at_ (s := 1) (fun _ => rfl) h hm hk
  obtain ⟨rfl, rfl⟩ := intE_us ht
  have := hc 0 _ rfl
  exact ⟨b, off, xs[k], hA, by simp, hb, List.getElem?_eq_getElem (hm ▸ hk), by simpa using this⟩
/-- A slice as an element. -/
def slE {α : Type} (f : α → List D) (xs : List α) : List D := [.sl xs.length (xs.flatMap f)]
/-- The blocks from lo on are as they were. -/
def Abv (lo : Nat) (w w' : World) : Prop := w.heap.size ≤ w'.heap.size ∧ ∀ k, lo ≤ k → k < w.heap.size → w'.heap[k]? = w.heap[k]?
theorem Abv.refl (lo : Nat) (w : World) : Abv lo w w := ⟨Nat.le_refl _, fun _ _ _ => rfl⟩
theorem Abv.trans {lo : Nat} {a b c : World} (h : Abv lo a b) (k : Abv lo b c) : Abv lo a c := ⟨Nat.le_trans h.1 k.1, fun i hl hi => (k.2 i hl (Nat.lt_of_lt_of_le hi h.1)).trans (h.2 i hl hi)⟩
theorem Abv.of_below {lo : Nat} {w w' : World} (h : Below w.heap.size w w') : Abv lo w w' := ⟨h.size, fun k _ hk => h.block k hk⟩
theorem Abv.below {lo : Nat} {a w w' : World} (h : Abv lo a w) (h2 : Below w.heap.size w w') : Abv lo a w' := h.trans (.of_below h2)
theorem Abv.setCell {lo : Nat} {a w : World} (h : Abv lo a w) {p : Addr} (hp : p.block < lo) (v : Value) : Abv lo a (w.setCell p v) :=
  h.trans ⟨by simp [World.setCell], fun k hl _ => Below.heap_setCell _ _ _ _ (by omega)⟩
theorem Abv.alloc {lo : Nat} {a w : World} (h : Abv lo a w) (o : Obj) : Abv lo a (w.alloc o) := h.trans ⟨by simp, fun k _ hk => Below.heap_alloc _ _ _ hk⟩
theorem T1.abv {lo : Nat} {w w' : World} {d bs u} (h : T1 w d bs u) (hb : Abv lo w w') (hl : ∀ b ∈ bs, lo ≤ b) : T1 w' d bs u := h.keep ⟨hb.1, fun b hb' => hb.2 b (hl b hb') (h.lt b hb')⟩
theorem TN.abv {lo : Nat} {w w' : World} {d bs u} (h : TN w d bs u) (hb : Abv lo w w') (hl : ∀ b ∈ bs, lo ≤ b) : TN w' d bs u := h.keep ⟨hb.1, fun b hb' => hb.2 b (hl b hb') (h.lt b hb')⟩
theorem Own.abv {lo l : Nat} {w w' : World} {bs} (h : Own lo w bs) (hb : Abv l w w') (hl : l ≤ lo) : Own lo w' bs :=
  ⟨h.1, fun b hb' => ⟨(h.2 b hb').1, by
    obtain ⟨hlo, cur, t, h2⟩ := h.2 b hb'
    exact ⟨cur, t, (hb.2 b (Nat.le_trans hl hlo) (h.lt b hb')).trans h2⟩⟩⟩
theorem Own.ge {lo : Nat} {w : World} {bs} (h : Own lo w bs) : ∀ b ∈ bs, lo ≤ b := fun b hb => (h.2 b hb).1
theorem RowAt.abv {lo : Nat} {w w' : World} {g t n sz vs} (h : RowAt w g t n sz vs) (hb : Abv lo w w') (hl : lo ≤ g) : RowAt w' g t n sz vs := h.keep (hb.2 g hl h.lt)
theorem RowAt.own {w : World} {g t n sz vs} (h : RowAt w g t n sz vs) : ∃ cur t', w.heap[g]? = some (.cells cur t' (0, 0)) := by
  obtain ⟨cur, h, _⟩ := h
  exact ⟨cur, t, h⟩
theorem info_parts' {P : Program} {t : TypeId} {s : Nat} (h : (P.info? t).map (fun i => (i.zero.isSome, i.size, decide (i.bytes ≤ 100000000))) = some (true, s, true)) :
    ∃ i z, P.info? t = some i ∧ i.zero = some z ∧ i.size = s ∧ i.bytes ≤ 100000000 := by
  obtain ⟨i, hi, hzz⟩ := Option.map_eq_some_iff.1 h
  simp only [Prod.mk.injEq, decide_eq_true_eq] at hzz
  obtain ⟨z, hz⟩ := Option.isSome_iff_exists.1 hzz.1
  exact ⟨i, z, hi, hz, hzz.2.1, hzz.2.2⟩
theorem bytes_fit {b n : Nat} (hb : b ≤ 100000000) (hn : n ≤ 1048576) : (b : Int) * (n : Int) ≤ 281474976710656 := by
  have h := Nat.mul_le_mul hb hn
  rw [← Int.natCast_mul]
  omega
structure SzOf (P : Program) (e : TypeId) (s : Nat) : Prop where
  h : (P.info? e).map (·.size) = some s
/-- A made slice: a row of the call's own, of the right length. -/
theorem make_fresh {P : Program} {t e : TypeId} {s n : Nat} (h : (P.info? e).map (fun i => (i.zero.isSome, i.size, decide (i.bytes ≤ 100000000))) = some (true, s, true)) (hu : P.underlying t = some (.slice e)) (hn : n ≤ 1048576) :
    ∃ M : Array Value, M.size = n * s ∧ (∀ W : World, (Instr.makeSlice t (.int .i64 n) (.int .i64 n)).run P W = .ok (.slice (some ⟨W.heap.size, 0, none⟩) n n) (W.alloc (.cells M e))) ∧ SzOf P e s := by
  obtain ⟨i0, z0, hi0, hz0, hz1, hz2⟩ := info_parts' h
  refine ⟨madeCells z0.cells (n * i0.size), by rw [size_madeCells, hz1], fun W => ?_, ⟨by rw [hi0, ← hz1]; rfl⟩⟩
  have := run_make (P := P) (w := W) t e i0 z0 hu hi0 hz0 .i64 .i64 n n (by omega) (by omega) (bytes_fit hz2 hn) (by omega)
  simpa using this
theorem rows3 (w : World) (a b c : Obj) : (((w.alloc a).alloc b).alloc c).heap[w.heap.size]? = some a ∧ (((w.alloc a).alloc b).alloc c).heap[w.heap.size + 1]? = some b ∧ (((w.alloc a).alloc b).alloc c).heap[w.heap.size + 1 + 1]? = some c := by
  have s1 : (w.alloc a).heap.size = w.heap.size + 1 := by simp
  have s2 : ((w.alloc a).alloc b).heap.size = w.heap.size + 1 + 1 := by simp
  have n1 := heap_alloc_new w a
  have n2 := heap_alloc_new (w.alloc a) b
  have n3 := heap_alloc_new ((w.alloc a).alloc b) c
  rw [s1] at n2
  rw [s2] at n3
  exact ⟨(Below.heap_alloc _ _ _ (by omega)).trans ((Below.heap_alloc _ _ _ (by omega)).trans n1), (Below.heap_alloc _ _ _ (by omega)).trans n2, n3⟩
theorem fz_of_row {w : World} {g : Nat} {cs : Array Value} {t : TypeId} (h : w.heap[g]? = some (.cells cs t (0, 0))) (o : Nat) : w.frozen? ⟨g, o, none⟩ = false := by
  simp [World.frozen?, h]
theorem Rows.heap_set_same {w : World} {b i : Nat} {cs : Array Value} {T : TypeId} {fr : Nat × Nat} {v : Value} (hb : w.heap[b]? = some (.cells cs T fr)) :
    (w.setCell ⟨b, i, none⟩ v).heap[b]? = some (.cells (cs.setIfInBounds i v) T fr) := by
  simp [World.setCell, Array.getElem?_modify, hb]
/-- How many elements the slices of a value have, all in all. -/
def wtl {α : Type} (f : α → Nat) (xs : List α) : Nat := xs.length + (xs.map f).sum
theorem wtl_flat {α : Type} (xs : List α) : wtl (fun _ => 0) xs = xs.length := by
  unfold wtl
  induction xs with
  | nil => rfl
  | cons x xs ih =>
    simp only [List.map_cons, List.sum_cons, List.length_cons]
    omega
theorem wt_snoc {α : Type} {f : α → Nat} {xs : List α} {k : Nat} {x : α} (h : xs[k]? = some x) : ((xs.take (k + 1)).map f).sum = ((xs.take k).map f).sum + f x := by
  rw [List.take_add_one, h]
  simp
/-- What a counting function leaves: too many, or what is left of the bound, and then what was counted is small. -/
def SzPost (L : Int) (P : Prop) (W : Nat) (w : World) (e : Ending) (w' : World) : Prop :=
  Below w.heap.size w w' ∧ ∃ r : Int, e = .returned (.int .i64 r) ∧ (r = -1 ∨ (0 ≤ r ∧ r = L - W ∧ P))
theorem take_all_snoc {α : Type} {xs : List α} {k : Nat} {x : α} {P : α → Prop} (h : ∀ y ∈ xs.take k, P y) (hx : xs[k]? = some x) (hp : P x) : ∀ y ∈ xs.take (k + 1), P y := by
  intro y hy
  rw [List.take_add_one, hx] at hy
  rcases List.mem_append.1 hy with hy | hy
  · exact h y hy
  · simp at hy; exact hy ▸ hp
end Go.Tr
