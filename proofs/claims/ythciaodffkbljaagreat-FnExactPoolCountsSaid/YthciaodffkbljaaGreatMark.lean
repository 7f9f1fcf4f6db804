/- Writing into data trees: one element of a slice changed, the rest as it was. No program in it. -/
import Derived.Test.YthciaodffkbljaaGreatData
set_option linter.unusedSimpArgs false
set_option linter.unusedVariables false
namespace Go.Tr
open Go Go.RowKit

/-- Only blocks of bs have changed, and rows have stayed rows. -/
structure Only (bs : List Nat) (w w' : World) : Prop where
  os : w'.os = w.os
  tape : w'.tape = w.tape
  output : w'.output = w.output
  size : w'.heap.size = w.heap.size
  other : ∀ b, b ∉ bs → w'.heap[b]? = w.heap[b]?
  row : ∀ (b : Nat) cs t, w.heap[b]? = some (.cells cs t (0, 0)) → ∃ cs', w'.heap[b]? = some (.cells cs' t (0, 0))
theorem Only.refl (bs : List Nat) (w : World) : Only bs w w := ⟨rfl, rfl, rfl, rfl, fun _ _ => rfl, fun _ cs _ h => ⟨cs, h⟩⟩
theorem Only.trans {bs : List Nat} {a b c : World} (h : Only bs a b) (k : Only bs b c) : Only bs a c :=
  ⟨k.os.trans h.os, k.tape.trans h.tape, k.output.trans h.output, k.size.trans h.size, fun i hi => (k.other i hi).trans (h.other i hi),
    fun b cs t hb => by obtain ⟨cs', h'⟩ := h.row b cs t hb; exact k.row b cs' t h'⟩
theorem Only.sub {bs cs : List Nat} {w w' : World} (h : Only bs w w') (hs : ∀ b ∈ bs, b ∈ cs) : Only cs w w' := ⟨h.os, h.tape, h.output, h.size, fun b hb => h.other b (fun hc => hb (hs b hc)), h.row⟩
theorem Only.drewN {bs : List Nat} {w w' : World} (h : Only bs w w') (n : Nat) : Only bs w (w'.drewN n) := ⟨h.os, h.tape, h.output, h.size, h.other, h.row⟩
theorem Only.below {B : Nat} {bs : List Nat} {w w' : World} (h : Only bs w w') (hb : ∀ b ∈ bs, B ≤ b) : Below B w w' :=
  ⟨h.os, h.tape, h.output, by rw [h.size]; exact Nat.le_refl _, fun k hk => h.other k (fun hc => by have := hb k hc; omega)⟩
theorem Only.setCell {bs : List Nat} {w w' : World} (h : Only bs w w') {b : Nat} (hb : b ∈ bs) (o : Nat) (v : Value) : Only bs w (w'.setCell ⟨b, o, none⟩ v) :=
  h.trans ⟨rfl, rfl, rfl, by simp [World.setCell], fun b' hb' => Below.heap_setCell _ _ _ _ (fun e => hb' (by simp at e; exact e ▸ hb)), fun b' cs t hr => by
    by_cases e : b' = b
    · subst e; exact ⟨_, Rows.heap_set_same hr⟩
    · exact ⟨cs, (Below.heap_setCell _ _ _ _ e).trans hr⟩⟩
theorem T1.only {bs : List Nat} {w w' : World} {d cs u} (h : T1 w d cs u) (ho : Only bs w w') (hd : ∀ b ∈ cs, b ∉ bs) : T1 w' d cs u :=
  h.keep ⟨by rw [ho.size]; exact Nat.le_refl _, fun b hb => ho.other b (hd b hb)⟩
theorem TN.only {bs : List Nat} {w w' : World} {d cs u} (h : TN w d cs u) (ho : Only bs w w') (hd : ∀ b ∈ cs, b ∉ bs) : TN w' d cs u :=
  h.keep ⟨by rw [ho.size]; exact Nat.le_refl _, fun b hb => ho.other b (hd b hb)⟩
theorem Own.only {lo : Nat} {bs cs : List Nat} {w w' : World} (h : Own lo w bs) (ho : Only cs w w') : Own lo w' bs :=
  ⟨h.1, fun b hb => ⟨(h.2 b hb).1, by obtain ⟨_, cur, t, h2⟩ := h.2 b hb; obtain ⟨cs', h3⟩ := ho.row b cur t h2; exact ⟨cs', t, h3⟩⟩⟩

/-- Only a part of one row has changed, and blocks of P. -/
structure Foc (b lo hi : Nat) (P : List Nat) (w w' : World) : Prop where
  only : Only (b :: P) w w'
  cells : ∀ j, (j < lo ∨ hi ≤ j) → w'.cell? ⟨b, j, none⟩ = w.cell? ⟨b, j, none⟩
theorem Foc.refl (b lo hi : Nat) (P : List Nat) (w : World) : Foc b lo hi P w w := ⟨Only.refl _ _, fun _ _ => rfl⟩
theorem Foc.trans {b lo hi : Nat} {P : List Nat} {x y z : World} (h : Foc b lo hi P x y) (k : Foc b lo hi P y z) : Foc b lo hi P x z := ⟨h.only.trans k.only, fun j hj => (k.cells j hj).trans (h.cells j hj)⟩
theorem cell_setCell_off (w : World) (b o o' : Nat) (v : Value) (h : o' ≠ o) : (w.setCell ⟨b, o, none⟩ v).cell? ⟨b, o', none⟩ = w.cell? ⟨b, o', none⟩ := by
  simp only [World.cell?, World.setCell, Array.getElem?_modify]
  cases hb : w.heap[b]? with
  | none => simp
  | some ob => cases ob <;> simp [Ne.symm h]
theorem Foc.setCell {b lo hi : Nat} {P : List Nat} {w w' : World} (h : Foc b lo hi P w w') {o : Nat} (h1 : lo ≤ o) (h2 : o < hi) (v : Value) : Foc b lo hi P w (w'.setCell ⟨b, o, none⟩ v) :=
  ⟨h.only.setCell (by simp) o v, fun j hj => (cell_setCell_off _ _ _ _ _ (by omega)).trans (h.cells j hj)⟩
theorem Foc.then {b lo hi : Nat} {P Q : List Nat} {w w1 w2 : World} (h : Foc b lo hi P w w1) (k : Only Q w1 w2) (hQ : ∀ x ∈ Q, x ∈ P) (hb : b ∉ Q) : Foc b lo hi P w w2 :=
  ⟨h.only.trans (k.sub fun x hx => by simp [hQ x hx]), fun j hj => (World.cell?_of_block (a := ⟨b, j, none⟩) (k.other b hb)).trans (h.cells j hj)⟩

theorem T1.focus {α : Type} {f : α → List D} {s : Nat} (hs : ∀ x, (f x).length = s) {w : World} {xs : List α} {bs : List Nat} {A : Option Addr} {n c : Nat} (h : T1 w (.sl n (xs.flatMap f)) bs (.slice A n c)) (hm : xs.length = n) {k : Nat} (hk : k < n) :
    ∃ b off b1 b2 b3 us, A = some ⟨b, off, none⟩ ∧ bs = b :: (b1 ++ b2 ++ b3) ∧ b < w.heap.size ∧ cellsAt w b (off + k * s) us ∧ TN w (f (xs[k]'(hm ▸ hk))) b2 us ∧
      ∀ w' x' us', w.heap.size ≤ w'.heap.size → (∀ j, (j < off + k * s ∨ off + k * s + s ≤ j) → w'.cell? ⟨b, j, none⟩ = w.cell? ⟨b, j, none⟩) → (∀ b' ∈ b1 ++ b3, w'.heap[b']? = w.heap[b']?) →
        cellsAt w' b (off + k * s) us' → TN w' (f x') b2 us' → T1 w' (.sl n ((xs.set k x').flatMap f)) bs (.slice A n c) := by
  have hk' : k < xs.length := hm ▸ hk
  unfold T1 at h
  obtain ⟨A', c', he, hn, hc, h⟩ := h
  injection he with hA hn' hc'
  subst hA hc'
  rcases h with ⟨rfl, _, _⟩ | ⟨h0, b, off, us, bs', rfl, rfl, hb, hca, ht⟩
  · omega
  have hx : xs.flatMap f = (xs.take k).flatMap f ++ (f xs[k] ++ (xs.drop (k + 1)).flatMap f) := by
    conv => lhs; rw [← List.take_append_drop k xs, List.drop_eq_getElem_cons hk', List.flatMap_append, List.flatMap_cons]
  have hl : ((xs.take k).flatMap f).length = k * s := by rw [flat_len f s hs, List.length_take, Nat.min_eq_left (Nat.le_of_lt hk')]
  rw [hx] at ht
  obtain ⟨b1, b', u1, u', rfl, rfl, t1, ht⟩ := TN.append.1 ht
  obtain ⟨b2, b3, u2, u3, rfl, rfl, t2, t3⟩ := TN.append.1 ht
  have l1 := t1.length
  have l2 := t2.length
  rw [hl] at l1
  rw [hs] at l2
  refine ⟨b, off, b1, b2, b3, u2, rfl, by simp, hb, fun j u hu => ?_, t2, fun w' x' us' hsz hcell hkeep hca' ht' => ?_⟩
  · have hj := (List.getElem?_eq_some_iff.1 hu).1
    have := hca (k * s + j) u (by
      rw [List.getElem?_append_right (by omega), l1, Nat.add_sub_cancel_left, List.getElem?_append_left hj]; exact hu)
    rwa [← Nat.add_assoc] at this
  · have l2' := ht'.length
    rw [hs] at l2'
    unfold T1
    refine ⟨_, _, rfl, hn, hc, .inr ⟨h0, b, off, u1 ++ (us' ++ u3), b1 ++ (b2 ++ b3), rfl, rfl, Nat.lt_of_lt_of_le hb hsz, fun j u hu => ?_, ?_⟩⟩
    · by_cases hj1 : j < k * s
      · rw [List.getElem?_append_left (by omega)] at hu
        rw [hcell _ (by omega)]
        exact hca j u (by rw [List.getElem?_append_left (by omega)]; exact hu)
      · rw [List.getElem?_append_right (by omega), l1] at hu
        by_cases hj2 : j - k * s < s
        · rw [List.getElem?_append_left (by omega)] at hu
          have := hca' (j - k * s) u hu
          rwa [show off + k * s + (j - k * s) = off + j by omega] at this
        · rw [List.getElem?_append_right (by omega), l2'] at hu
          rw [hcell _ (by omega)]
          exact hca j u (by rw [List.getElem?_append_right (by omega), l1, List.getElem?_append_right (by omega), l2]; exact hu)
    · have e : (xs.set k x').flatMap f = (xs.take k).flatMap f ++ (f x' ++ (xs.drop (k + 1)).flatMap f) := by
        rw [List.set_eq_take_append_cons_drop, if_pos hk', List.flatMap_append, List.flatMap_cons]
      rw [e]
      exact TN.append.2 ⟨b1, _, u1, _, rfl, rfl, t1.keep ⟨hsz, fun b' hb' => hkeep b' (by simp [hb'])⟩,
        TN.append.2 ⟨b2, b3, us', u3, rfl, rfl, ht', t3.keep ⟨hsz, fun b' hb' => hkeep b' (by simp [hb'])⟩⟩⟩
/-- A list whose numbers count on from k. -/
def MkL {α : Type} (M : α → Int → Prop) (c : α → Nat) : List α → Int → Prop
  | [], _ => True
  | x :: xs, k => M x k ∧ MkL M c xs (k + c x)
def cntl {α : Type} (c : α → Nat) (xs : List α) : Nat := (xs.map c).sum
theorem MkL.snoc {α : Type} {M : α → Int → Prop} {c : α → Nat} : ∀ {l : List α} {k : Int} {x : α}, MkL M c l k → M x (k + cntl c l) → MkL M c (l ++ [x]) k
  | [], k, x, _, h => ⟨by simpa [cntl] using h, trivial⟩
  | y :: l, k, x, h1, h => ⟨h1.1, MkL.snoc h1.2 (by
      have : k + ((c y : Nat) : Int) + (cntl c l : Nat) = k + (cntl c (y :: l) : Nat) := by simp only [cntl, List.map_cons, List.sum_cons]; omega
      rw [this]; exact h)⟩
structure MkSt {α : Type} (M : α → Int → Prop) (c : α → Nat) (xs : List α) (k : Int) (n j : Nat) (ys : List α) : Prop where
  len : ys.length = n
  rest : ys.drop j = xs.drop j
  done : MkL M c (ys.take j) k
  cnt : (ys.take j).map c = (xs.take j).map c
theorem MkSt.start {α : Type} {M : α → Int → Prop} {c : α → Nat} {xs : List α} {k : Int} {n : Nat} (h : xs.length = n) : MkSt M c xs k n 0 xs := ⟨h, rfl, by simp [MkL], rfl⟩
theorem MkSt.step {α : Type} {M : α → Int → Prop} {c : α → Nat} {xs ys : List α} {k : Int} {n j : Nat} {x x' : α} (h : MkSt M c xs k n j ys) (hx : ys[j]? = some x) (hm : M x' (k + cntl c (xs.take j))) (hc : c x' = c x) :
    MkSt M c xs k n (j + 1) (ys.set j x') ∧ cntl c (xs.take (j + 1)) = cntl c (xs.take j) + c x := by
  have hj : j < ys.length := (List.getElem?_eq_some_iff.1 hx).1
  have hx2 : xs[j]? = some x := by
    have := congrArg (fun l => l[0]?) h.rest
    simpa [List.getElem?_drop, hx] using this.symm
  have e1 : (ys.set j x').take (j + 1) = ys.take j ++ [x'] := by
    rw [List.take_add_one, List.take_set_of_le (Nat.le_refl _), List.getElem?_set_self hj]; rfl
  have e2 : xs.take (j + 1) = xs.take j ++ [x] := by rw [List.take_add_one, hx2]; rfl
  have ec : cntl c (ys.take j) = cntl c (xs.take j) := by unfold cntl; rw [h.cnt]
  refine ⟨⟨by rw [List.length_set]; exact h.len, ?_, ?_, ?_⟩, ?_⟩
  · rw [List.drop_set_of_lt (Nat.lt_succ_self j)]
    have := congrArg (List.drop 1) h.rest
    simpa [List.drop_drop, Nat.add_comm] using this
  · rw [e1]; exact MkL.snoc h.done (by rw [ec]; exact hm)
  · rw [e1, e2, List.map_append, List.map_append, h.cnt]; simp [hc]
  · rw [e2]; simp [cntl]
theorem MkSt.fin {α : Type} {M : α → Int → Prop} {c : α → Nat} {xs ys : List α} {k : Int} {n : Nat} (h : MkSt M c xs k n n ys) : MkL M c ys k ∧ ys.map c = xs.map c := by
  have hl : xs.length ≤ n := by
    have := congrArg List.length h.rest
    simp [h.len] at this
    omega
  have h1 := h.done
  have h2 := h.cnt
  rw [List.take_of_length_le (by rw [h.len]; exact Nat.le_refl _)] at h1 h2
  rw [List.take_of_length_le hl] at h2
  exact ⟨h1, h2⟩
theorem cntl_le {α : Type} (c : α → Nat) (xs : List α) (j : Nat) : cntl c (xs.take j) ≤ cntl c xs := by
  have h : cntl c xs = cntl c (xs.take j) + cntl c (xs.drop j) := by
    unfold cntl
    rw [← List.sum_append, ← List.map_append, List.take_append_drop]
  omega
theorem MkSt.next {α : Type} {M : α → Int → Prop} {c : α → Nat} {xs ys : List α} {k : Int} {n j : Nat} {x : α} (h : MkSt M c xs k n j ys) (hx : ys[j]? = some x) : cntl c (xs.take j) + c x ≤ cntl c xs := by
  have hx2 : xs[j]? = some x := by
    have := congrArg (fun l => l[0]?) h.rest
    simpa [List.getElem?_drop, hx] using this.symm
  have e2 : xs.take (j + 1) = xs.take j ++ [x] := by rw [List.take_add_one, hx2]; rfl
  have := cntl_le c xs (j + 1)
  rw [e2] at this
  simpa [cntl] using this
end Go.Tr
