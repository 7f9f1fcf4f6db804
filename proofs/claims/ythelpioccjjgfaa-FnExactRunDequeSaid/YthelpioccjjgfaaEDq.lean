/- What arguments of these types read as. Printed by gen_dec.py. -/
import Derived.Test.YthelpioccjjgfaaProg
import Derived.Test.YthelpioccjjgfaaDec
import Derived.Test.YthelpioccjjgfaaDDq
import Derived.KernelRfl
set_option linter.unusedSimpArgs false
set_option linter.unusedVariables false
namespace Go.Proofs.Ythelpioccjjgfaa
open Go Go.RowKit Go.Proofs Go.Tr

theorem decDequeActor {H : Type} {enc : TypeId × Value → H} {w : World} {spare : Nat → Bool} {held : Bool} : Dec Try.prog w enc spare held 242 GDequeActor.enc := fun _ _ _ h => by
  have hl := trod_len Try.underlying242 h
  rw [show Try.prog.cellsOf 242 = 5 by kernel_rfl] at hl
  obtain ⟨a0, b0, h0⟩ := dec_field Try.underlying242 h 0 rfl (o := 0) (s := 1) rfl (by kernel_rfl) (dec_slice 1 (by omega) Try.underlying24 (by kernel_rfl) (dec_int Try.underlying2))
  obtain ⟨a1, b1, h1⟩ := dec_field Try.underlying242 h 1 rfl (o := 1) (s := 1) rfl (by kernel_rfl) (dec_int Try.underlying2)
  obtain ⟨a2, b2, h2⟩ := dec_field Try.underlying242 h 2 rfl (o := 2) (s := 1) rfl (by kernel_rfl) (dec_int Try.underlying2)
  obtain ⟨a3, b3, h3⟩ := dec_field Try.underlying242 h 3 rfl (o := 3) (s := 1) rfl (by kernel_rfl) (dec_int Try.underlying2)
  obtain ⟨a4, b4, h4⟩ := dec_field Try.underlying242 h 4 rfl (o := 4) (s := 1) rfl (by kernel_rfl) (dec_int Try.underlying2)
  exact ⟨⟨a0, a1, a2, a3, a4⟩, _, TN.piece h0 (TN.piece h1 (TN.piece h2 (TN.piece h3 (TN.piece h4 (TN.pend hl)))))⟩

theorem decHanded {H : Type} {enc : TypeId × Value → H} {w : World} {spare : Nat → Bool} {held : Bool} : Dec Try.prog w enc spare held 248 GHanded.enc := fun _ _ _ h => by
  have hl := trod_len Try.underlying248 h
  rw [show Try.prog.cellsOf 248 = 2 by kernel_rfl] at hl
  obtain ⟨a0, b0, h0⟩ := dec_field Try.underlying248 h 0 rfl (o := 0) (s := 1) rfl (by kernel_rfl) (dec_int Try.underlying2)
  obtain ⟨a1, b1, h1⟩ := dec_field Try.underlying248 h 1 rfl (o := 1) (s := 1) rfl (by kernel_rfl) (dec_int Try.underlying2)
  exact ⟨⟨a0, a1⟩, _, TN.piece h0 (TN.piece h1 (TN.pend hl))⟩

theorem decDeque {H : Type} {enc : TypeId × Value → H} {w : World} {spare : Nat → Bool} {held : Bool} : Dec Try.prog w enc spare held 102 GDeque.enc := fun _ _ _ h => by
  have hl := trod_len Try.underlying102 h
  rw [show Try.prog.cellsOf 102 = 6 by kernel_rfl] at hl
  obtain ⟨a0, b0, h0⟩ := dec_field Try.underlying102 h 0 rfl (o := 0) (s := 1) rfl (by kernel_rfl) (dec_int Try.underlying2)
  obtain ⟨a1, b1, h1⟩ := dec_field Try.underlying102 h 1 rfl (o := 1) (s := 1) rfl (by kernel_rfl) (dec_int Try.underlying2)
  obtain ⟨a2, b2, h2⟩ := dec_field Try.underlying102 h 2 rfl (o := 2) (s := 1) rfl (by kernel_rfl) (dec_slice 1 (by omega) Try.underlying24 (by kernel_rfl) (dec_int Try.underlying2))
  obtain ⟨a3, b3, h3⟩ := dec_field Try.underlying102 h 3 rfl (o := 3) (s := 1) rfl (by kernel_rfl) (dec_slice 5 (by omega) Try.underlying99 (by kernel_rfl) decDequeActor)
  obtain ⟨a4, b4, h4⟩ := dec_field Try.underlying102 h 4 rfl (o := 4) (s := 1) rfl (by kernel_rfl) (dec_slice 2 (by omega) Try.underlying100 (by kernel_rfl) decHanded)
  obtain ⟨a5, b5, h5⟩ := dec_field Try.underlying102 h 5 rfl (o := 5) (s := 1) rfl (by kernel_rfl) (dec_slice 1 (by omega) Try.underlying24 (by kernel_rfl) (dec_int Try.underlying2))
  exact ⟨⟨a0, a1, a2, a3, a4, a5⟩, _, TN.piece h0 (TN.piece h1 (TN.piece h2 (TN.piece h3 (TN.piece h4 (TN.piece h5 (TN.pend hl))))))⟩
end Go.Proofs.Ythelpioccjjgfaa
