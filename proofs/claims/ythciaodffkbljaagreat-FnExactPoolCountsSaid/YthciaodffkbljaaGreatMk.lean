/- Numbering the leaves of data trees in order: what the laws' mark does, and what their held looks for. No program in it. -/
import Derived.Test.YthciaodffkbljaaGreatMark
import Derived.Test.YthciaodffkbljaaGreatQuiet
set_option linter.unusedSimpArgs false
set_option linter.unusedVariables false
namespace Go.Tr
open Go Go.RowKit

def mkTxt (k : Int) : List UInt8 := if k ≤ 0 then [109, 48] else 109 :: (Nat.toDigits 10 k.toNat).map (fun c => c.toNat.toUInt8)
def mkV (x : Value) (k : Int) : Value := match x with
  | .int .i64 _ => .int .i64 k
  | .bool _ => .bool (k % 3 == 0)
  | .string _ => .string ⟨(mkTxt k).toArray⟩
  | x => x
mutual
def mkD : D → Int → D
  | .v x, k => .v (mkV x k)
  | .sl n ds, k => .sl n (mkN ds k)
def mkN : List D → Int → List D
  | [], _ => []
  | d :: ds, k => mkD d k :: mkN ds (k + (cD d : Nat))
def cD : D → Nat
  | .v _ => 1
  | .sl _ ds => cN ds
def cN : List D → Nat
  | [] => 0
  | d :: ds => cD d + cN ds
end
theorem cN_nil : cN [] = 0 := by unfold cN; rfl
theorem cN_cons (d : D) (ds : List D) : cN (d :: ds) = cD d + cN ds := by rw [cN]
theorem cD_v (x : Value) : cD (.v x) = 1 := by unfold cD; rfl
theorem cD_sl (n : Nat) (ds : List D) : cD (.sl n ds) = cN ds := by rw [cD]
theorem mkN_nil (k : Int) : mkN [] k = [] := by unfold mkN; rfl
theorem mkN_cons (d : D) (ds : List D) (k : Int) : mkN (d :: ds) k = mkD d k :: mkN ds (k + (cD d : Nat)) := by rw [mkN]
theorem mkD_sl (n : Nat) (ds : List D) (k : Int) : mkD (.sl n ds) k = .sl n (mkN ds k) := by rw [mkD]
theorem mkD_int (x k : Int) : mkD (.v (.int .i64 x)) k = .v (.int .i64 k) := by rw [mkD]; rfl
theorem cN_append : ∀ a b : List D, cN (a ++ b) = cN a + cN b
  | [], b => by rw [cN_nil]; simp
  | d :: a, b => by rw [List.cons_append, cN_cons, cN_cons, cN_append a b]; omega
theorem mkN_append : ∀ (a b : List D) (k : Int), mkN (a ++ b) k = mkN a k ++ mkN b (k + (cN a : Nat))
  | [], b, k => by rw [mkN_nil, cN_nil]; simp
  | d :: a, b, k => by
    rw [List.cons_append, mkN_cons, mkN_cons, mkN_append a b, List.cons_append, cN_cons]
    congr 3
    omega
theorem mkN_len : ∀ (a : List D) (k : Int), (mkN a k).length = a.length
  | [], k => by rw [mkN_nil]
  | d :: a, k => by rw [mkN_cons, List.length_cons, List.length_cons, mkN_len a]

/-- Of the old blocks only those of bs have changed, and rows have stayed rows. -/
structure Onl (bs : List Nat) (w w' : World) : Prop where
  os : w'.os = w.os
  tape : w'.tape = w.tape
  output : w'.output = w.output
  size : w.heap.size ≤ w'.heap.size
  other : ∀ b, b < w.heap.size → b ∉ bs → w'.heap[b]? = w.heap[b]?
  row : ∀ (b : Nat) cs t, w.heap[b]? = some (.cells cs t (0, 0)) → ∃ cs', w'.heap[b]? = some (.cells cs' t (0, 0))
theorem lt_of_row {w : World} {b : Nat} {o : Obj} (h : w.heap[b]? = some o) : b < w.heap.size := (Array.getElem?_eq_some_iff.1 h).1
theorem Onl.refl (bs : List Nat) (w : World) : Onl bs w w := ⟨rfl, rfl, rfl, Nat.le_refl _, fun _ _ _ => rfl, fun _ cs _ h => ⟨cs, h⟩⟩
theorem Onl.trans {bs : List Nat} {a b c : World} (h : Onl bs a b) (k : Onl bs b c) : Onl bs a c :=
  ⟨k.os.trans h.os, k.tape.trans h.tape, k.output.trans h.output, Nat.le_trans h.size k.size, fun i hs hi => (k.other i (Nat.lt_of_lt_of_le hs h.size) hi).trans (h.other i hs hi),
    fun b cs t hb => by obtain ⟨cs', h'⟩ := h.row b cs t hb; exact k.row b cs' t h'⟩
theorem Onl.sub {bs cs : List Nat} {w w' : World} (h : Onl bs w w') (hs : ∀ b ∈ bs, b ∈ cs) : Onl cs w w' := ⟨h.os, h.tape, h.output, h.size, fun b hl hb => h.other b hl (fun hc => hb (hs b hc)), h.row⟩
theorem Onl.of_ext {bs : List Nat} {w w' : World} (h : Below w.heap.size w w') : Onl bs w w' := ⟨h.os, h.tape, h.output, h.size, fun b hl _ => h.block b hl, fun b cs t hb => ⟨cs, (h.block b (lt_of_row hb)).trans hb⟩⟩
theorem Onl.drewN {bs : List Nat} {w w' : World} (h : Onl bs w w') (n : Nat) : Onl bs w (w'.drewN n) := ⟨h.os, h.tape, h.output, h.size, h.other, h.row⟩
theorem Onl.below {B : Nat} {bs : List Nat} {w w' : World} (h : Onl bs w w') (hB : B ≤ w.heap.size) (hb : ∀ b ∈ bs, B ≤ b) : Below B w w' :=
  ⟨h.os, h.tape, h.output, h.size, fun k hk => h.other k (by omega) (fun hc => by have := hb k hc; omega)⟩
theorem Onl.setCell {bs : List Nat} {w w' : World} (h : Onl bs w w') {b : Nat} (hb : b ∈ bs) (o : Nat) (v : Value) : Onl bs w (w'.setCell ⟨b, o, none⟩ v) :=
  h.trans ⟨rfl, rfl, rfl, by simp [World.setCell], fun b' _ hb' => Below.heap_setCell _ _ _ _ (fun e => hb' (by simp at e; exact e ▸ hb)), fun b' cs t hr => by
    by_cases e : b' = b
    · subst e; exact ⟨_, Rows.heap_set_same hr⟩
    · exact ⟨cs, (Below.heap_setCell _ _ _ _ e).trans hr⟩⟩
theorem T1.onl {bs : List Nat} {w w' : World} {d cs u} (h : T1 w d cs u) (ho : Onl bs w w') (hd : ∀ b ∈ cs, b ∉ bs) : T1 w' d cs u :=
  h.keep ⟨ho.size, fun b hb => ho.other b (h.lt b hb) (hd b hb)⟩
theorem TN.onl {bs : List Nat} {w w' : World} {d cs u} (h : TN w d cs u) (ho : Onl bs w w') (hd : ∀ b ∈ cs, b ∉ bs) : TN w' d cs u :=
  h.keep ⟨ho.size, fun b hb => ho.other b (h.lt b hb) (hd b hb)⟩
theorem Own.onl {lo : Nat} {bs cs : List Nat} {w w' : World} (h : Own lo w bs) (ho : Onl cs w w') : Own lo w' bs :=
  ⟨h.1, fun b hb => ⟨(h.2 b hb).1, by obtain ⟨_, cur, t, h2⟩ := h.2 b hb; obtain ⟨cs', h3⟩ := ho.row b cur t h2; exact ⟨cs', t, h3⟩⟩⟩

theorem Own.join {lo : Nat} {w : World} {a b : List Nat} (h1 : Own lo w a) (h2 : Own lo w b) (h : ∀ y ∈ a, y ∉ b) : Own lo w (a ++ b) :=
  ⟨List.nodup_append.2 ⟨h1.1, h2.1, fun y hy z hz e => h y hy (e ▸ hz)⟩, fun y hy => (List.mem_append.1 hy).elim (h1.2 y) (h2.2 y)⟩
theorem Own.parts {lo : Nat} {w : World} {a b : List Nat} (h : Own lo w (a ++ b)) : Own lo w a ∧ Own lo w b ∧ ∀ y ∈ a, y ∉ b := by
  obtain ⟨h1, h2, h3⟩ := List.nodup_append.1 h.1
  exact ⟨⟨h1, fun y hy => h.2 y (by simp [hy])⟩, ⟨h2, fun y hy => h.2 y (by simp [hy])⟩, fun y hy hb => h3 y hy y hb rfl⟩
/-- The place of one leaf or slice in a row. -/
theorem T1.pos {w : World} {n n' : Nat} {l r : List D} {d : D} {bs : List Nat} {A : Option Addr} {c : Nat} (h : T1 w (.sl n (l ++ d :: r)) bs (.slice A n' c)) :
    n' = n ∧ ∃ b off u b1 b2 b3, A = some ⟨b, off, none⟩ ∧ bs = b :: (b1 ++ (b2 ++ b3)) ∧ b < w.heap.size ∧ w.cell? ⟨b, off + l.length, none⟩ = some u ∧ T1 w d b2 u ∧
      ∀ (w' : World) (d' : D) (u' : Value), w.heap.size ≤ w'.heap.size → (∀ j, j ≠ off + l.length → w'.cell? ⟨b, j, none⟩ = w.cell? ⟨b, j, none⟩) → (∀ b' ∈ b1 ++ b3, w'.heap[b']? = w.heap[b']?) →
        w'.cell? ⟨b, off + l.length, none⟩ = some u' → T1 w' d' b2 u' → T1 w' (.sl n (l ++ d' :: r)) bs (.slice A n' c) := by
  unfold T1 at h
  obtain ⟨A', c', he, hn, hc, h⟩ := h
  injection he with hA hn' hc'
  subst hA hc' hn'
  refine ⟨rfl, ?_⟩
  rcases h with ⟨_, h, _⟩ | ⟨h0, b, off, us, bs', rfl, rfl, hb, hca, ht⟩
  · exact absurd h (by simp)
  obtain ⟨b1, b', u1, u', rfl, rfl, t1, ht⟩ := TN.append.1 ht
  obtain ⟨b2, b3, u, u3, rfl, rfl, t2, t3⟩ := TN.cons.1 ht
  have l1 := t1.length
  refine ⟨b, off, u, b1, b2, b3, rfl, rfl, hb, hca l.length u (by rw [List.getElem?_append_right (by omega), l1]; simp), t2, fun w' d' u2 hsz hcell hkeep hc' ht' => ?_⟩
  unfold T1
  refine ⟨_, _, rfl, hn, hc, .inr ⟨h0, b, off, u1 ++ (u2 :: u3), b1 ++ (b2 ++ b3), rfl, rfl, Nat.lt_of_lt_of_le hb hsz, fun j v hv => ?_, ?_⟩⟩
  · by_cases hj : j = l.length
    · subst hj
      rw [List.getElem?_append_right (by omega), l1] at hv
      simp at hv
      rw [hc', hv]
    · rw [hcell _ (by omega)]
      refine hca j v ?_
      by_cases hj1 : j < l.length
      · rw [List.getElem?_append_left (by omega)] at hv ⊢
        exact hv
      · rw [List.getElem?_append_right (by omega)] at hv ⊢
        obtain ⟨i, hi⟩ : ∃ i, j - u1.length = i + 1 := ⟨j - u1.length - 1, by omega⟩
        rw [hi] at hv ⊢
        simpa using hv
  · exact TN.append.2 ⟨b1, _, u1, _, rfl, rfl, t1.keep ⟨hsz, fun b' hb' => hkeep b' (by simp [hb'])⟩, TN.cons.2 ⟨b2, b3, u2, u3, rfl, rfl, ht', t3.keep ⟨hsz, fun b' hb' => hkeep b' (by simp [hb'])⟩⟩⟩

/-- One leaf is written over. -/
theorem T1.leaf {w : World} {n n' : Nat} {l r : List D} {x : Value} {bs : List Nat} {A : Option Addr} {c lo o : Nat} (h : T1 w (.sl n (l ++ .v x :: r)) bs (.slice A n' c)) (ho : Own lo w bs) {b off : Nat} (hA : A = some ⟨b, off, none⟩) (hl : off + l.length = o) :
    w.cell? ⟨b, o, none⟩ = some x ∧ ∀ y, y.oneCell' = true → T1 (w.setCell ⟨b, o, none⟩ y) (.sl n (l ++ .v y :: r)) bs (.slice A n' c) ∧ Onl bs w (w.setCell ⟨b, o, none⟩ y) ∧ Own lo (w.setCell ⟨b, o, none⟩ y) bs := by
  subst hl
  obtain ⟨rfl, b', off', u, b1, b2, b3, hA', rfl, hb, hc, ht, hback⟩ := h.pos
  obtain ⟨rfl, rfl⟩ : b' = b ∧ off' = off := by rw [hA] at hA'; simpa [eq_comm] using hA'
  obtain ⟨rfl, rfl, _⟩ := T1.v.1 ht
  refine ⟨hc, fun y hy => ?_⟩
  have hon : Onl (b' :: (b1 ++ ([] ++ b3))) w (w.setCell ⟨b', off' + l.length, none⟩ y) := (Onl.refl _ _).setCell (by simp) _ _
  refine ⟨hback _ _ y (by simp [World.setCell]) (fun j hj => cell_setCell_off _ _ _ _ _ hj) (fun b2 hb2 => Below.heap_setCell _ _ _ _ (fun e => ?_)) (World.cell?_setCell_same' _ _ _ (by rw [hc]; rfl)) (T1.v.2 ⟨rfl, rfl, hy⟩), hon, ho.onl hon⟩
  have hnd := (List.nodup_cons.1 ho.1).1
  simp only [List.nil_append] at hnd
  exact hnd (by simp at e; rw [← e]; exact hb2)

/-- The place of a row: its block and where it begins; its flags. -/
theorem T1.row {w : World} {n n' : Nat} {l r : List D} {d : D} {bs : List Nat} {A : Option Addr} {c lo : Nat} (h : T1 w (.sl n (l ++ d :: r)) bs (.slice A n' c)) (ho : Own lo w bs) :
    ∃ b off, A = some ⟨b, off, none⟩ ∧ n' = n ∧ b ∈ bs ∧ b < w.heap.size ∧ lo ≤ b ∧ ∀ o, w.frozen? ⟨b, o, none⟩ = false := by
  obtain ⟨rfl, b, off, u, b1, b2, b3, rfl, rfl, hb, hc, ht, hback⟩ := h.pos
  obtain ⟨hlo, cur, t, hrow⟩ := ho.2 b (by simp)
  exact ⟨b, off, rfl, rfl, by simp, hb, hlo, fun o => by simp [World.frozen?, hrow]⟩

/-- A slice within a row, and what becomes of the row when the slice's own blocks are written. -/
theorem T1.sub {w : World} {n n' m : Nat} {l r es : List D} {bs : List Nat} {A : Option Addr} {c lo o : Nat} (h : T1 w (.sl n (l ++ .sl m es :: r)) bs (.slice A n' c)) (ho : Own lo w bs) {b off : Nat} (hA : A = some ⟨b, off, none⟩) (hl : off + l.length = o) :
    ∃ A2 c2 b2, w.cell? ⟨b, o, none⟩ = some (.slice A2 m c2) ∧ T1 w (.sl m es) b2 (.slice A2 m c2) ∧ m ≤ maxLen ∧ Own lo w b2 ∧ b ∉ b2 ∧
      ∀ w' es', Onl b2 w w' → T1 w' (.sl m es') b2 (.slice A2 m c2) → T1 w' (.sl n (l ++ .sl m es' :: r)) bs (.slice A n' c) ∧ Onl bs w w' ∧ Own lo w' bs := by
  subst hl
  obtain ⟨rfl, b', off', u, b1, b2, b3, hA', rfl, hb, hc, ht, hback⟩ := h.pos
  obtain ⟨rfl, rfl⟩ : b' = b ∧ off' = off := by rw [hA] at hA'; simpa [eq_comm] using hA'
  obtain ⟨A2, c2, rfl, hm1, hm2⟩ := ht.slice
  have hnd := ho.1
  have hlt : ∀ y ∈ b1 ++ b3, y < w.heap.size := fun y hy => ho.lt y (by rcases List.mem_append.1 hy with h | h <;> simp [h])
  rw [List.nodup_cons, List.nodup_append, List.nodup_append] at hnd
  obtain ⟨hb', n1, ⟨n2, n3, n23⟩, n123⟩ := hnd
  refine ⟨A2, c2, b2, hc, ht, Nat.le_trans hm1 hm2, ⟨n2, fun y hy => ho.2 y (by simp [hy])⟩, fun hx => hb' (by simp [hx]), fun w' es' hon ht' => ?_⟩
  have hon' : Onl (b' :: (b1 ++ (b2 ++ b3))) w w' := hon.sub (fun y hy => by simp [hy])
  have hk : w'.heap[b']? = w.heap[b']? := hon.other b' hb (fun hx => hb' (by simp [hx]))
  refine ⟨hback w' _ _ hon.size (fun j _ => World.cell?_of_block hk) (fun y hy => hon.other y (hlt y hy) (fun hx => ?_)) ((World.cell?_of_block hk).trans hc) ht', hon', ho.onl hon'⟩
  rcases List.mem_append.1 hy with hy | hy
  · exact n123 y hy y (by simp [hx]) rfl
  · exact n23 y hx y hy rfl

theorem flat_split {α : Type} (f : α → List D) (s : Nat) (hs : ∀ x, (f x).length = s) {xs : List α} {n k : Nat} (hn : Hid (xs.length = n)) (hk : k < n) :
    ∃ x, Hid (xs[k]? = some x) ∧ Hid (xs.flatMap f = (xs.take k).flatMap f ++ (f x ++ (xs.drop (k + 1)).flatMap f)) ∧ ((xs.take k).flatMap f).length = k * s ∧ Hid ((xs.take (k + 1)).flatMap f = (xs.take k).flatMap f ++ f x) ∧ Hid (xs.drop k = x :: xs.drop (k + 1)) := by
  have hk' : k < xs.length := hn.out ▸ hk
  refine ⟨xs[k], List.getElem?_eq_getElem hk', ?_, ?_, flat_snoc f (List.getElem?_eq_getElem hk'), List.drop_eq_getElem_cons hk'⟩
  · show _ = _
    conv => lhs; rw [← List.take_append_drop k xs, List.drop_eq_getElem_cons hk', List.flatMap_append, List.flatMap_cons]
  · rw [flat_len f s hs, List.length_take, Nat.min_eq_left (Nat.le_of_lt hk')]
theorem cons_eq {a b : D} {l m : List D} (h : a = b) (k : l = m) : a :: l = b :: m := by rw [h, k]
theorem vI_eq {a b : Int} (h : a = b) : D.v (.int .i64 a) = D.v (.int .i64 b) := by rw [h]
theorem slK_eq {n : Nat} {ds : List D} {a b : Int} (h : a = b) : D.sl n (mkN ds a) = D.sl n (mkN ds b) := by rw [h]
/-- What a leaf holds, whatever new blocks come. -/
theorem T1.kleaf {w : World} {n n' : Nat} {l r : List D} {x : Value} {bs : List Nat} {A : Option Addr} {c o : Nat} (h : T1 w (.sl n (l ++ .v x :: r)) bs (.slice A n' c)) {b off : Nat} (hA : A = some ⟨b, off, none⟩) (hl : off + l.length = o) : Kn w b o x := by
  subst hl
  obtain ⟨rfl, b', off', u, b1, b2, b3, hA', rfl, hb, hc, ht, hback⟩ := h.pos
  obtain ⟨rfl, rfl⟩ : b' = b ∧ off' = off := by rw [hA] at hA'; simpa [eq_comm] using hA'
  obtain ⟨rfl, rfl, _⟩ := T1.v.1 ht
  exact fun e => (e.cell b' _ hb).trans hc
theorem T1.krow {w : World} {n n' : Nat} {l r : List D} {d : D} {bs : List Nat} {A : Option Addr} {c : Nat} (h : T1 w (.sl n (l ++ d :: r)) bs (.slice A n' c)) : ∃ b off, A = some ⟨b, off, none⟩ := by
  obtain ⟨_, b, off, u, b1, b2, b3, hA, _⟩ := h.pos
  exact ⟨b, off, hA⟩
theorem Kn.onl {w w' : World} {b o : Nat} {v : Value} (h : Kn w b o v) (e : ExtOf w) {bs : List Nat} (hf : Onl bs e.to w') (hb : b < w.heap.size) (hn : b ∉ bs) : Kn w' b o v := fun e' => by
  have h1 := h e
  rw [← h1, ExtOf.cell e' b o (Nat.lt_of_lt_of_le (Nat.lt_of_lt_of_le hb e.h.size) hf.size)]
  exact World.cell?_of_block (hf.other b (Nat.lt_of_lt_of_le hb e.h.size) hn)
theorem intE_cn (x : Int) : cN (intE x) ≤ 32 * (1 + (fun _ => 0) x) := by unfold intE; rw [cN_cons, cN_nil, cD_v]; omega
theorem cN_flat_le {α : Type} {f : α → List D} {g : α → Nat} (h : ∀ x, cN (f x) ≤ 32 * (1 + g x)) : ∀ xs : List α, cN (xs.flatMap f) ≤ 32 * wtl g xs
  | [] => by rw [List.flatMap_nil, cN_nil]; omega
  | x :: xs => by
    rw [List.flatMap_cons, cN_append]
    have h1 := h x
    have h2 := cN_flat_le h xs
    have h3 : wtl g (x :: xs) = 1 + g x + wtl g xs := by unfold wtl; simp; omega
    omega
theorem cN_ints (xs : List Int) : cN (xs.flatMap intE) = xs.length := by
  induction xs with
  | nil => rw [List.flatMap_nil, cN_nil]; rfl
  | cons x xs ih => rw [List.flatMap_cons, cN_append, ih]; unfold intE; rw [cN_cons, cN_nil, cD_v, List.length_cons]; omega
end Go.Tr
