/- Data trees in memory: what a slice of structs, with slices in it, reads as; kept where its blocks are kept. -/
import Derived.WalkKit
import Derived.Lib.Hide
import Derived.Deep.QuietTactic
import Derived.BigQuiet
import Derived.KernelRfl
set_option linter.unusedSimpArgs false
set_option linter.unusedVariables false
namespace Go.Tr
open Go Go.RowKit

inductive D where
  | v (x : Value)
  | sl (n : Nat) (ds : List D)

def cellsAt (w : World) (b off : Nat) (us : List Value) : Prop := ∀ j u, us[j]? = some u → w.cell? ⟨b, off + j, none⟩ = some u

mutual
def T1 (w : World) : D → List Nat → Value → Prop
  | .v x, bs, u => u = x ∧ bs = [] ∧ x.oneCell' = true
  | .sl n ds, bs, u => ∃ A c, u = .slice A n c ∧ n ≤ c ∧ c ≤ maxLen ∧ ((n = 0 ∧ ds = [] ∧ bs = []) ∨ (0 < n ∧ ∃ b off us bs', A = some ⟨b, off, none⟩ ∧ bs = b :: bs' ∧ b < w.heap.size ∧ cellsAt w b off us ∧ TN w ds bs' us))
def TN (w : World) : List D → List Nat → List Value → Prop
  | [], bs, us => us = [] ∧ bs = []
  | d :: ds, bs, us => ∃ b1 b2 u us', us = u :: us' ∧ bs = b1 ++ b2 ∧ T1 w d b1 u ∧ TN w ds b2 us'
end

/-- w' keeps the blocks of bs. -/
def Keeps (w w' : World) (bs : List Nat) : Prop := w.heap.size ≤ w'.heap.size ∧ ∀ b ∈ bs, w'.heap[b]? = w.heap[b]?
theorem Keeps.cell {w w' : World} {bs : List Nat} (h : Keeps w w' bs) {b : Nat} (hb : b ∈ bs) (o : Nat) : w'.cell? ⟨b, o, none⟩ = w.cell? ⟨b, o, none⟩ :=
  World.cell?_of_block (h.2 b hb)
theorem Keeps.sub {w w' : World} {bs cs : List Nat} (h : Keeps w w' bs) (hs : ∀ b ∈ cs, b ∈ bs) : Keeps w w' cs := ⟨h.1, fun b hb => h.2 b (hs b hb)⟩

theorem cellsAt.keep {w w' : World} {b off : Nat} {us : List Value} (h : cellsAt w b off us) (hk : w'.heap[b]? = w.heap[b]?) : cellsAt w' b off us :=
  fun j u hu => (World.cell?_of_block hk).trans (h j u hu)

mutual
theorem T1.keep {w w' : World} : ∀ {d : D} {bs : List Nat} {u : Value}, T1 w d bs u → Keeps w w' bs → T1 w' d bs u
  | .v x, bs, u, h, _ => by unfold T1 at *; exact h
  | .sl n ds, bs, u, h, hk => by
    unfold T1 at h ⊢
    obtain ⟨A, c, rfl, hn, hc, h⟩ := h
    refine ⟨A, c, rfl, hn, hc, ?_⟩
    rcases h with h | ⟨h0, b, off, us, bs', rfl, rfl, hb, hca, ht⟩
    · exact .inl h
    · exact .inr ⟨h0, b, off, us, bs', rfl, rfl, Nat.lt_of_lt_of_le hb hk.1, hca.keep (hk.2 b (by simp)), TN.keep ht (hk.sub fun b' hb' => by simp [hb'])⟩
theorem TN.keep {w w' : World} : ∀ {ds : List D} {bs : List Nat} {us : List Value}, TN w ds bs us → Keeps w w' bs → TN w' ds bs us
  | [], bs, us, h, _ => by unfold TN at *; exact h
  | d :: ds, bs, us, h, hk => by
    unfold TN at h ⊢
    obtain ⟨b1, b2, u, us', rfl, rfl, h1, h2⟩ := h
    exact ⟨b1, b2, u, us', rfl, rfl, T1.keep h1 (hk.sub fun b hb => by simp [hb]), TN.keep h2 (hk.sub fun b hb => by simp [hb])⟩
end

mutual
theorem T1.lt {w : World} : ∀ {d : D} {bs : List Nat} {u : Value}, T1 w d bs u → ∀ b ∈ bs, b < w.heap.size
  | .v x, bs, u, h => by unfold T1 at h; obtain ⟨_, rfl, _⟩ := h; simp
  | .sl n ds, bs, u, h => by
    unfold T1 at h
    obtain ⟨A, c, rfl, hn, hc, h⟩ := h
    rcases h with ⟨_, _, rfl⟩ | ⟨h0, b, off, us, bs', rfl, rfl, hb, hca, ht⟩
    · simp
    · intro b' hb'
      rcases List.mem_cons.1 hb' with rfl | hb'
      · exact hb
      · exact TN.lt ht b' hb'
theorem TN.lt {w : World} : ∀ {ds : List D} {bs : List Nat} {us : List Value}, TN w ds bs us → ∀ b ∈ bs, b < w.heap.size
  | [], bs, us, h => by unfold TN at h; obtain ⟨_, rfl⟩ := h; simp
  | d :: ds, bs, us, h => by
    unfold TN at h
    obtain ⟨b1, b2, u, us', rfl, rfl, h1, h2⟩ := h
    intro b hb
    rcases List.mem_append.1 hb with hb | hb
    · exact T1.lt h1 b hb
    · exact TN.lt h2 b hb
end

theorem Keeps.of_below {w w' : World} {B : Nat} {bs : List Nat} (h : Below B w w') (hl : ∀ b ∈ bs, b < B) : Keeps w w' bs := ⟨h.size, fun b hb => h.block b (hl b hb)⟩

theorem TN.below {w w' : World} {ds bs us} (h : TN w ds bs us) (hb : Below w.heap.size w w') : TN w' ds bs us := h.keep (.of_below hb h.lt)
theorem T1.below {w w' : World} {d bs u} (h : T1 w d bs u) (hb : Below w.heap.size w w') : T1 w' d bs u := h.keep (.of_below hb h.lt)

theorem TN.length {w : World} : ∀ {ds : List D} {bs us}, TN w ds bs us → us.length = ds.length
  | [], bs, us, h => by unfold TN at h; simp [h.1]
  | d :: ds, bs, us, h => by
    unfold TN at h
    obtain ⟨b1, b2, u, us', rfl, rfl, h1, h2⟩ := h
    simp [h2.length]

theorem TN.nil {w : World} {bs us} : TN w [] bs us ↔ us = [] ∧ bs = [] := by unfold TN; rfl
theorem TN.cons {w : World} {d ds bs us} : TN w (d :: ds) bs us ↔ ∃ b1 b2 u us', us = u :: us' ∧ bs = b1 ++ b2 ∧ T1 w d b1 u ∧ TN w ds b2 us' := by rw [TN]
theorem T1.v {w : World} {x bs u} : T1 w (.v x) bs u ↔ u = x ∧ bs = [] ∧ x.oneCell' = true := by rw [T1]

/-- A part of a row of cells: what stands before, in and behind it. -/
theorem TN.append {w : World} : ∀ {ds es : List D} {bs us}, TN w (ds ++ es) bs us ↔ ∃ b1 b2 u1 u2, us = u1 ++ u2 ∧ bs = b1 ++ b2 ∧ TN w ds b1 u1 ∧ TN w es b2 u2
  | [], es, bs, us => by
    constructor
    · intro h; exact ⟨[], bs, [], us, rfl, rfl, TN.nil.2 ⟨rfl, rfl⟩, h⟩
    · rintro ⟨b1, b2, u1, u2, rfl, rfl, h1, h2⟩
      obtain ⟨rfl, rfl⟩ := TN.nil.1 h1
      exact h2
  | d :: ds, es, bs, us => by
    rw [List.cons_append, TN.cons]
    constructor
    · rintro ⟨b1, b2, u, us', rfl, rfl, h1, h2⟩
      obtain ⟨c1, c2, u1, u2, rfl, rfl, h3, h4⟩ := TN.append.1 h2
      exact ⟨b1 ++ c1, c2, u :: u1, u2, rfl, by simp, TN.cons.2 ⟨b1, c1, u, u1, rfl, rfl, h1, h3⟩, h4⟩
    · rintro ⟨b1, b2, u1, u2, rfl, rfl, h1, h2⟩
      obtain ⟨c1, c2, u, us', rfl, rfl, h3, h4⟩ := TN.cons.1 h1
      exact ⟨c1, c2 ++ b2, u, us' ++ u2, rfl, by simp, h3, TN.append.2 ⟨c2, b2, us', u2, rfl, rfl, h4, h2⟩⟩

theorem TN.scalars {w : World} : ∀ {us : List Value}, us.all (·.oneCell') = true → TN w (us.map D.v) [] us
  | [], _ => TN.nil.2 ⟨rfl, rfl⟩
  | u :: us, h => by
    simp only [List.all_cons, Bool.and_eq_true] at h
    exact TN.cons.2 ⟨[], [], u, us, rfl, rfl, T1.v.2 ⟨rfl, rfl, h.1⟩, TN.scalars h.2⟩
theorem flat_snoc {α β : Type} (f : α → List β) {xs : List α} {k : Nat} {x : α} (h : Hid (xs[k]? = some x)) : (xs.take (k + 1)).flatMap f = (xs.take k).flatMap f ++ f x := by
  rw [List.take_add_one, h.out]
  simp
theorem flat_len {α β : Type} (f : α → List β) (s : Nat) (hs : ∀ x, (f x).length = s) (xs : List α) : (xs.flatMap f).length = xs.length * s := by
  induction xs with
  | nil => simp
  | cons x xs ih => simp [ih, hs, Nat.add_mul, Nat.add_comm]
/-- Element k of a row of structs of equal size. -/
theorem flat_get {α : Type} (f : α → List D) (s : Nat) (hs : ∀ x, (f x).length = s) : ∀ (xs : List α) (k : Nat) (hk : k < xs.length), ∃ l r, xs.flatMap f = l ++ f xs[k] ++ r ∧ l = (xs.take k).flatMap f ∧ r = (xs.drop (k + 1)).flatMap f ∧ l.length = k * s
  | x :: xs, 0, _ => ⟨[], xs.flatMap f, by simp, by simp, by simp, by simp⟩
  | x :: xs, k + 1, hk => by
    obtain ⟨l, r, h, h1, h2, h3⟩ := flat_get f s hs xs k (by simpa using hk)
    refine ⟨f x ++ l, r, by simp [h], by simp [h1], by simp [h2], by simp [h3, hs, Nat.add_mul, Nat.add_comm]⟩

/-- The slice value u reads as the list xs of structs. -/
theorem T1.at_ {α : Type} {f : α → List D} {s : Nat} (hs : ∀ x, (f x).length = s) {w : World} {xs : List α} {bs : List Nat} {A : Option Addr} {n c m : Nat} (h : T1 w (.sl m (xs.flatMap f)) bs (.slice A n c)) (hm : xs.length = m) {k : Nat} (hk : k < m) :
    n = m ∧ ∃ b off b1 b2 b3 us, A = some ⟨b, off, none⟩ ∧ bs = b :: (b1 ++ b2 ++ b3) ∧ b < w.heap.size ∧ cellsAt w b (off + k * s) us ∧ TN w (f (xs[k]'(hm ▸ hk))) b2 us := by
  unfold T1 at h
  obtain ⟨A', c', he, hn, hc, h⟩ := h
  injection he with hA hn' hc'
  subst hA hn' hc'
  refine ⟨rfl, ?_⟩
  rcases h with ⟨rfl, _, _⟩ | ⟨h0, b, off, us, bs', rfl, rfl, hb, hca, ht⟩
  · omega
  · obtain ⟨l, r, he, _, _, hl⟩ := flat_get f s hs xs k (hm ▸ hk)
    rw [he] at ht
    obtain ⟨b1, b3, u1, u3, rfl, rfl, h1, h3⟩ := TN.append.1 ht
    obtain ⟨b1, b2, u1, u2, rfl, rfl, h1, h2⟩ := TN.append.1 h1
    refine ⟨b, off, b1, b2, b3, u2, rfl, rfl, hb, ?_, h2⟩
    intro j u hu
    have hl1 := h1.length
    have := hca (k * s + j) u (by
      rw [List.append_assoc, List.getElem?_append_right (by omega), List.getElem?_append_left (by
        have := (List.getElem?_eq_some_iff.1 hu).1; omega)]
      rw [hl1, hl, Nat.add_sub_cancel_left]; exact hu)
    rwa [← Nat.add_assoc] at this

/-- The worlds that a world has become by new blocks alone. -/
structure ExtOf (w : World) where
  to : World
  h : Below w.heap.size w to
instance (w : World) : Inhabited (ExtOf w) := ⟨⟨w, Below.refl _ _⟩⟩
theorem ExtOf.cell {w : World} : ∀ (e : ExtOf w) (b o : Nat), b < w.heap.size → e.to.cell? ⟨b, o, none⟩ = w.cell? ⟨b, o, none⟩ := fun e _ _ hb => World.cell?_of_block (e.h.block _ hb)

theorem wp_region_ext_lit {P : Program} {id : Nat} {Q : Exit → Act → World → Prop} {a : Act} {w : World} {l : List Oper} (hm : P.follows .mixedOrders = true) (hB : Region.lexB .any l.toArray = true)
    (h : wpQuiet P l.toArray (fun w' => ∃ e : ExtOf w, w' = e.to) (fun a' => ∀ w', (∃ e : ExtOf w, w' = e.to) → Q .normal a' w') l a) : (Code.region id l.toArray true).wp P Q a w :=
  wp_region_quiet (C := fun w' => ∃ e : ExtOf w, w' = e.to) hm hB ⟨⟨w.drew, (Below.refl _ _).drew⟩, rfl⟩ (by simpa using h)

theorem Calls.quiet_ext {P : Program} {f : FuncId} {args : Array Value} {w : World} {e : ExtOf w} {v : Value}
    (h : Calls P f args e.to fun x w' => x = .returned v ∧ Below e.to.heap.size e.to w') : Calls P f args e.to fun x w'' => x = .returned v ∧ ∃ e : ExtOf w, w'' = e.to :=
  h.mono fun _ w' ⟨he, hm⟩ => ⟨he, ⟨w', e.h.trans (hm.mono e.h.size)⟩, rfl⟩

theorem take_eq_snoc {α : Type} {xs ys : List α} {k : Nat} {x y : α} (h : Hid (xs.take k = ys.take k)) (hx : Hid (xs[k]? = some x)) (hy : Hid (ys[k]? = some y)) (e : x = y) : Hid (xs.take (k + 1) = ys.take (k + 1)) := by
  show _ = _
  rw [List.take_add_one, List.take_add_one, h.out, hx.out, hy.out, e]
theorem take_eq_all {α : Type} {xs ys : List α} {n : Nat} (h : Hid (xs.take n = ys.take n)) (hx : Hid (xs.length = n)) (hy : Hid (ys.length = n)) : xs = ys := by
  have h1 := h.out
  rwa [List.take_of_length_le (by rw [hx.out]; exact Nat.le_refl _), List.take_of_length_le (by rw [hy.out]; exact Nat.le_refl _)] at h1
theorem ne_at {α : Type} {xs ys : List α} {k : Nat} {x y : α} (hx : Hid (xs[k]? = some x)) (hy : Hid (ys[k]? = some y)) (e : x ≠ y) : xs ≠ ys := by
  rintro rfl
  exact e (Option.some.inj (hx.out.symm.trans hy.out))
theorem ne_len {α : Type} {xs ys : List α} {n m : Nat} (hx : Hid (xs.length = n)) (hy : Hid (ys.length = m)) (e : n ≠ m) : xs ≠ ys := by
  rintro rfl
  exact e (hx.out.symm.trans hy.out)

/-- Block g is a row of n elements of sz cells each, its first cells are vs. -/
def RowAt (w : World) (g : Nat) (t : TypeId) (n sz : Nat) (vs : List Value) : Prop :=
  ∃ cur, w.heap[g]? = some (.cells cur t (0, 0)) ∧ cur.size = n * sz ∧ cur.toList.take vs.length = vs

theorem RowAt.new (w : World) (cur : Array Value) (t : TypeId) (n sz : Nat) (h : cur.size = n * sz) : RowAt (w.alloc (.cells cur t)) w.heap.size t n sz [] :=
  ⟨cur, heap_alloc_new w _, h, by simp⟩
theorem RowAt.lt {w : World} {g t n sz vs} (h : RowAt w g t n sz vs) : g < w.heap.size := by
  obtain ⟨cur, h, _⟩ := h
  exact (Array.getElem?_eq_some_iff.1 h).1
theorem RowAt.keep {w w' : World} {g t n sz vs} (h : RowAt w g t n sz vs) (hk : w'.heap[g]? = w.heap[g]?) : RowAt w' g t n sz vs := by
  obtain ⟨cur, h, r⟩ := h
  exact ⟨cur, hk.trans h, r⟩
theorem RowAt.below {w w' : World} {g t n sz vs} (h : RowAt w g t n sz vs) (hb : Below w.heap.size w w') : RowAt w' g t n sz vs := h.keep (hb.block g h.lt)
theorem RowAt.cells {w : World} {g t n sz vs} (h : RowAt w g t n sz vs) : cellsAt w g 0 vs := by
  obtain ⟨cur, h, _, ht⟩ := h
  intro j u hu
  rw [Nat.zero_add]
  have : w.cell? ⟨g, j, none⟩ = cur[j]? := cell_of_row w g j cur t (0, 0) h
  rw [this]
  rw [← ht, List.getElem?_take] at hu
  split at hu
  · simpa using hu
  · cases hu
theorem T1.of_row {w : World} {g t n sz vs ds bs} (h : RowAt w g t n sz vs) (hn : 0 < n) (hm : n ≤ maxLen) (ht : TN w ds bs vs) : T1 w (.sl n ds) (g :: bs) (.slice (some ⟨g, 0, none⟩) n n) := by
  unfold T1
  exact ⟨_, _, rfl, Nat.le_refl _, hm, .inr ⟨hn, g, 0, vs, bs, rfl, rfl, h.lt, h.cells, ht⟩⟩
theorem T1.empty {w : World} (A : Option Addr) : T1 w (.sl 0 []) [] (.slice A 0 0) := by
  unfold T1
  exact ⟨_, _, rfl, Nat.le_refl _, Nat.zero_le _, .inl ⟨rfl, rfl, rfl⟩⟩

/-- A slice that was written out. -/
theorem T1.lit (w : World) (t : TypeId) (us : List Value) (n : Nat) (hn : 0 < n) (hm : n ≤ maxLen) (h1 : us.all (·.oneCell') = true) : T1 (w.alloc (.cells us.toArray t)) (.sl n (us.map D.v)) [w.heap.size] (.slice (some ⟨w.heap.size, 0, none⟩) n n) := by
  unfold T1
  refine ⟨_, _, rfl, Nat.le_refl _, hm, .inr ⟨hn, w.heap.size, 0, us, [], rfl, rfl, by simp, fun j u hu => ?_, TN.scalars h1⟩⟩
  rw [Nat.zero_add, cell_of_row _ _ j us.toArray t (0, 0) (heap_alloc_new w _)]
  simpa using hu

/-- The next element of the call's own row is stored. -/
theorem run_store_next {P : Program} {w : World} {g t n sz : Nat} {vs : List Value} {ty : TypeId} {k : Nat} {v : Value} (h : RowAt w g t n sz vs) (hk : vs.length = k * sz) (hkn : k < n)
    (hi : (P.info? ty).map (·.size) = some sz) (hv : v.cells.size = sz) (h1 : ∀ u ∈ v.cells.toList, u.oneCell' = true) :
    ∃ w', (Instr.storeAt ty (.pointer (some ⟨g, k * sz, none⟩)) v).run P w = .ok () w' ∧ RowAt w' g t n sz (vs ++ v.cells.toList) ∧ Below g w w' ∧ w'.heap.size = w.heap.size ∧ (∀ b, b ≠ g → w'.heap[b]? = w.heap[b]?) := by
  obtain ⟨cur, hg, hs, ht⟩ := h
  have hfit : k * sz + v.cells.toList.length ≤ cur.size := by
    have := Nat.mul_le_mul_right sz (show k + 1 ≤ n by omega)
    rw [Nat.add_mul] at this
    simp [hv, hs]; omega
  have hst := run_storeCells_at P g (k * sz) t v.cells.toList 0 cur w hg (by simpa using hfit) h1
  simp only [Nat.add_zero] at hst
  have hrun : (Instr.storeAt ty (.pointer (some ⟨g, k * sz, none⟩)) v).run P w = .ok () (w.setRow g (cur.toList.take (k * sz) ++ v.cells.toList ++ cur.toList.drop (k * sz + v.cells.toList.length)).toArray) := by
    cases hq : P.info? ty with
    | none => simp [hq] at hi
    | some i =>
      have hsz : v.cells.size = i.size := by simp [hq] at hi; omega
      simp only [Instr.storeAt, Instr.sureAddr, Sem.run_bind, Sem.run_pure, Result.andThen_ok]
      simp [storeVar, sizeOf, typeInfo, hq, hsz, hst]
  have htk : (cur.toList.take (k * sz)) = vs := by rw [← hk]; exact ht
  refine ⟨_, hrun, ⟨_, setRow_heap w g cur _ t _ hg, ?_, ?_⟩, ⟨rfl, rfl, rfl, by simp, fun b hb => setRow_other w g b _ (by omega)⟩, by simp, fun b hb => setRow_other w g b _ hb⟩
  · simp only [List.size_toArray, List.length_append, List.length_take, List.length_drop, Array.length_toList] at hfit ⊢
    omega
  · simp only []
    rw [htk, List.take_left']
    rfl

theorem wpList_store_next {P : Program} {ops : Array Oper} {rest : List Oper} {op : Oper} {a : Act} {w : World} {Q : Exit → Act → World → Prop} (hgd : op.guard = none) (ty : TypeId) (x y : Operand) (ho : op.op = .store ty x y)
    (g t n sz k : Nat) (vs : List Value) (v : Value) (hx : a.eval x = .pointer (some ⟨g, k * sz, none⟩)) (hy : a.eval y = v) (h : RowAt w g t n sz vs) (hk : vs.length = k * sz) (hkn : k < n)
    (hi : (P.info? ty).map (·.size) = some sz) (hv : v.cells.size = sz) (h1 : v.cells.toList.all (·.oneCell') = true)
    (hc : ∀ w', RowAt w' g t n sz (vs ++ v.cells.toList) → Below g w w' → w'.heap.size = w.heap.size → (∀ b, b ≠ g → w'.heap[b]? = w.heap[b]?) → wpList P ops Q rest (a.put op.dst undef) w') : wpList P ops Q (op :: rest) a w :=
  wpList_plain hgd fun _ hK => by
    obtain ⟨w', hr, h2, h3, h4, h5⟩ := run_store_next (P := P) h hk hkn hi hv (List.all_eq_true.1 h1)
    unfold Oper.wp execOp
    simp only [ho, hx, hy, Sem.run_bind, hr, Result.andThen_ok, Sem.run_pure]
    exact hK _ _ (hc w' h2 h3 h4 h5)

theorem _root_.Go.RowKit.Below.drewN {B : Nat} {a w : World} (h : Below B a w) (n : Nat) : Below B a (w.drewN n) := ⟨h.os, h.tape, h.output, h.size, h.block⟩

/-- '==' of structs of integers, field by field. -/
def eqInts : List Int → List Int → Bool
  | x :: xs, y :: ys => x == y && eqInts xs ys
  | _, _ => true
theorem run_eqFields_go {P : Program} (w : World) (d : Nat) : ∀ (fs : List Field) (pre : Nat) (l : List (String × TypeId × Nat)) (xs ys : List Int) (px py : List Value),
    fs.map (fun f => (f.name, f.type, f.offset)) = l → (∀ t ∈ l.map (·.2.1), P.underlying t = some (.int .i64)) → l.map (·.2.2) = List.range' pre l.length → (l.all fun x => x.1 != "_") = true → xs.length = l.length → ys.length = l.length → px.length = pre → py.length = pre →
    (Op.eqFields (d + 1) (px ++ xs.map (Value.int .i64)).toArray (py ++ ys.map (Value.int .i64)).toArray fs).run P w = .ok (eqInts xs ys) w
  | [], pre, l, xs, ys, px, py, hl, _, _, _, hx, hy, _, _ => by
    simp at hl
    subst hl
    obtain rfl : xs = [] := List.eq_nil_of_length_eq_zero (by simpa using hx)
    obtain rfl : ys = [] := List.eq_nil_of_length_eq_zero (by simpa using hy)
    simp [Op.eqFields, eqInts]
  | f :: fs, pre, l, xs, ys, px, py, hl, hu, ho, hnm, hx, hy, hpx, hpy => by
    subst hl
    match xs, ys, hx, hy with
    | x :: xs, y :: ys, hx, hy =>
      simp only [List.map_cons, List.length_cons, List.range'_succ, List.cons.injEq, List.all_cons, Bool.and_eq_true, bne_iff_ne, ne_eq] at ho hnm
      have hut : P.underlying f.type = some (.int .i64) := hu _ (by simp)
      have hp : ∀ (pz : List Value) (z : Int) (zs : List Int), pz.length = pre → (part f.type (pz ++ (z :: zs).map (Value.int .i64)).toArray f.offset).run P w = .ok (.int .i64 z) w := by
        intro pz z zs hz
        have hg : (pz ++ (z :: zs).map (Value.int .i64)).toArray[f.offset]? = some (.int .i64 z) := by
          rw [ho.1]
          simp [← hz]
        simp only [part, isAgg, Sem.run_bind, run_underlying hut, Result.andThen_ok, hg]
        simp
      have ih := run_eqFields_go (P := P) w d fs (pre + 1) _ xs ys (px ++ [.int .i64 x]) (py ++ [.int .i64 y]) rfl (fun t ht => hu t (by simp at ht ⊢; exact .inr ht)) (by simpa using ho.2) hnm.2 (by simpa using hx) (by simpa using hy) (by simp [hpx]) (by simp [hpy])
      simp only [List.append_assoc, List.singleton_append] at ih
      simp only [Op.eqFields, ne_eq, hnm.1, not_false_eq_true, if_true, Sem.run_bind, hp px x xs hpx, hp py y ys hpy, Result.andThen_ok, run_equalIn_int w d f.type .i64 .i64 x y hut]
      by_cases hxy : x = y
      · subst hxy
        simp only [beq_self_eq_true, Bool.not_true, Bool.false_eq_true, if_false, eqInts, Bool.true_and]
        exact ih
      · have : (x == y) = false := by simpa using hxy
        simp [this, eqInts]
theorem run_eqFields_ints {P : Program} (w : World) (d : Nat) (t : TypeId) (l : List (String × TypeId × Nat)) (ht : P.underlying t = some (.struct (P.fieldsOf t))) (hp : P.stoodInHeld t = false)
    (hl : (P.fieldsOf t).toList.map (fun f => (f.name, f.type, f.offset)) = l) (hu : ∀ t ∈ l.map (·.2.1), P.underlying t = some (.int .i64)) (xs ys : List Int)
    (ho : (l.map (·.2.2) == List.range' 0 l.length && l.all fun x => x.1 != "_") = true) (hxy : (xs.length == l.length && ys.length == l.length) = true) :
    (Op.equalIn (d + 2) t (.agg (xs.map (Value.int .i64)).toArray) (.agg (ys.map (Value.int .i64)).toArray)).run P w = .ok (eqInts xs ys) w := by
  simp only [Bool.and_eq_true, beq_iff_eq] at ho hxy
  rw [run_equalIn_struct w (d + 1) t _ _ ht hp]
  exact run_eqFields_go (P := P) w d _ 0 l xs ys [] [] hl hu ho.1 ho.2 hxy.1 hxy.2 rfl rfl
end Go.Tr
