/- From the readings of a law's arguments to trees in memory: structs and slices of them. No program in it. -/
import Derived.Test.YthciaodffkbljaaGreatLaw
import Derived.Test.YthciaodffkbljaaGreatData
set_option linter.unusedSimpArgs false
set_option linter.unusedVariables false
namespace Go.Tr
open Go Go.RowKit Go.ChangeShapes Go.WideShapes Go.Deep
section
variable {H : Type} {enc : TypeId × Value → H} {P : Program} {w : World} {spare : Nat → Bool} {held : Bool}

theorem agg_of {base : Nat} {v : Value} {t : TypeId} {fs : Array Field} (ht : P.underlying t = some (.struct fs)) (h : Value.okWide P w .any base t v) : v = .agg v.cells.toList.toArray := by
  cases v with
  | agg cs => rfl
  | _ => simp [Value.okWide, ht, Cell.okWide, Cell.ok] at h
/-- Whatever can be read at a type reads as data. -/
def Dec (P : Program) (w : World) (enc : TypeId × Value → H) (spare : Nat → Bool) (held : Bool) (t : TypeId) {α : Type} (f : α → List D) : Prop :=
  ∀ fuel cs x, DataW.trod enc P w 0 spare held fuel t cs = some x → ∃ (a : α) (bs : List Nat), TN w (f a) bs cs
theorem dec_int {t : TypeId} (ht : P.underlying t = some (.int .i64)) : Dec P w enc spare held t intE := fun _ _ _ h => by
  obtain ⟨n, rfl, _, _⟩ := DataW.trod_int ht h
  exact ⟨n, [], TN.v_mk rfl TN.done⟩
theorem dec_slice {α : Type} {f : α → List D} (s : Nat) (h0 : 0 < s) {t e : TypeId} (ht : P.underlying t = some (.slice e)) (he : P.cellsOf e = s) (hT : Dec P w enc spare held e f) : Dec P w enc spare held t (slE f) := fun _ _ _ h => by
  obtain ⟨A, n, c, xs, bs, rfl, hn, _, _, h1⟩ := slice_dec f s h0 ht he hT h
  have hn := hn.out
  subst hn
  exact ⟨xs, bs, TN.cons.2 ⟨bs, [], _, _, rfl, by simp, h1, TN.done⟩⟩
theorem trod_len {t : TypeId} {fs : Array Field} (ht : P.underlying t = some (.struct fs)) {fuel cs x} (h : DataW.trod enc P w 0 spare held fuel t cs = some x) : cs.length = P.cellsOf t := by
  obtain ⟨_, _, _, _, hl, _⟩ := DataW.trod_struct ht h
  exact hl
/-- A field of a struct that can be read. -/
theorem dec_field {α : Type} {f : α → List D} {t : TypeId} {fs : Array Field} (ht : P.underlying t = some (.struct fs)) {fuel cs x} (h : DataW.trod enc P w 0 spare held fuel t cs = some x) (i : Nat) {fd : Field} (hi : fs[i]? = some fd) {o s : Nat} (ho : fd.offset = o) (hs : P.cellsOf fd.type = s)
    (hd : Dec P w enc spare held fd.type f) : ∃ (a : α) (bs : List Nat), TN w (f a) bs ((cs.drop o).take s) := by
  obtain ⟨xs, n, _, _, _, hlen, hf⟩ := DataW.trod_struct ht h
  have h1 := hf i fd hi
  rw [ho, hs] at h1
  have hlt : i < xs.length := by rw [hlen]; exact (Array.getElem?_eq_some_iff.1 hi).1
  rw [List.getElem?_eq_getElem hlt] at h1
  exact hd _ _ _ h1
theorem TN.piece {cs : List Value} {o s : Nat} {ds1 ds2 : List D} {b1 b2 : List Nat} (h1 : TN w ds1 b1 ((cs.drop o).take s)) (h2 : TN w ds2 b2 (cs.drop (o + s))) : TN w (ds1 ++ ds2) (b1 ++ b2) (cs.drop o) :=
  TN.append.2 ⟨b1, b2, _, _, by rw [← List.drop_drop, List.take_append_drop], rfl, h1, h2⟩
theorem TN.pend {cs : List Value} {o : Nat} (h : cs.length = o) : TN w [] [] (cs.drop o) := by
  rw [List.drop_eq_nil_of_le (by omega)]
  exact TN.done
end
end Go.Tr
