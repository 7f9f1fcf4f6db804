/- What arguments of these types read as. Printed by gen_dec.py. -/
import Derived.Test.YthciaodffkbljaaGreatProg
import Derived.Test.YthciaodffkbljaaGreatDec
import Derived.Test.YthciaodffkbljaaGreatDPool
import Derived.KernelRfl
set_option linter.unusedSimpArgs false
set_option linter.unusedVariables false
namespace Go.Proofs.YthciaodffkbljaaGreat
open Go Go.RowKit Go.Proofs Go.Tr

theorem decWord {H : Type} {enc : TypeId × Value → H} {w : World} {spare : Nat → Bool} {held : Bool} : Dec Tryz.prog w enc spare held 24 GWord.enc := fun _ _ _ h => by
  have hl := trod_len Tryz.underlying24 h
  rw [show Tryz.prog.cellsOf 24 = 2 by kernel_rfl] at hl
  obtain ⟨a0, b0, h0⟩ := dec_field Tryz.underlying24 h 0 rfl (o := 0) (s := 1) rfl (by kernel_rfl) (dec_int Tryz.underlying2)
  obtain ⟨a1, b1, h1⟩ := dec_field Tryz.underlying24 h 1 rfl (o := 1) (s := 1) rfl (by kernel_rfl) (dec_int Tryz.underlying2)
  exact ⟨⟨a0, a1⟩, _, TN.piece h0 (TN.piece h1 (TN.pend hl))⟩

theorem decCell {H : Type} {enc : TypeId × Value → H} {w : World} {spare : Nat → Bool} {held : Bool} : Dec Tryz.prog w enc spare held 197 GCell.enc := fun _ _ _ h => by
  have hl := trod_len Tryz.underlying197 h
  rw [show Tryz.prog.cellsOf 197 = 5 by kernel_rfl] at hl
  obtain ⟨a0, b0, h0⟩ := dec_field Tryz.underlying197 h 0 rfl (o := 0) (s := 1) rfl (by kernel_rfl) (dec_int Tryz.underlying2)
  obtain ⟨a1, b1, h1⟩ := dec_field Tryz.underlying197 h 1 rfl (o := 1) (s := 1) rfl (by kernel_rfl) (dec_int Tryz.underlying2)
  obtain ⟨a2, b2, h2⟩ := dec_field Tryz.underlying197 h 2 rfl (o := 2) (s := 1) rfl (by kernel_rfl) (dec_int Tryz.underlying2)
  obtain ⟨a3, b3, h3⟩ := dec_field Tryz.underlying197 h 3 rfl (o := 3) (s := 1) rfl (by kernel_rfl) (dec_slice 1 (by omega) Tryz.underlying48 (by kernel_rfl) (dec_int Tryz.underlying2))
  obtain ⟨a4, b4, h4⟩ := dec_field Tryz.underlying197 h 4 rfl (o := 4) (s := 1) rfl (by kernel_rfl) (dec_slice 2 (by omega) Tryz.underlying195 (by kernel_rfl) decWord)
  exact ⟨⟨a0, a1, a2, a3, a4⟩, _, TN.piece h0 (TN.piece h1 (TN.piece h2 (TN.piece h3 (TN.piece h4 (TN.pend hl)))))⟩

theorem decPair {H : Type} {enc : TypeId × Value → H} {w : World} {spare : Nat → Bool} {held : Bool} : Dec Tryz.prog w enc spare held 208 GPair.enc := fun _ _ _ h => by
  have hl := trod_len Tryz.underlying208 h
  rw [show Tryz.prog.cellsOf 208 = 2 by kernel_rfl] at hl
  obtain ⟨a0, b0, h0⟩ := dec_field Tryz.underlying208 h 0 rfl (o := 0) (s := 1) rfl (by kernel_rfl) (dec_int Tryz.underlying2)
  obtain ⟨a1, b1, h1⟩ := dec_field Tryz.underlying208 h 1 rfl (o := 1) (s := 1) rfl (by kernel_rfl) (dec_int Tryz.underlying2)
  exact ⟨⟨a0, a1⟩, _, TN.piece h0 (TN.piece h1 (TN.pend hl))⟩

theorem decMemory {H : Type} {enc : TypeId × Value → H} {w : World} {spare : Nat → Bool} {held : Bool} : Dec Tryz.prog w enc spare held 27 GMemory.enc := fun _ _ _ h => by
  have hl := trod_len Tryz.underlying27 h
  rw [show Tryz.prog.cellsOf 27 = 5 by kernel_rfl] at hl
  obtain ⟨a0, b0, h0⟩ := dec_field Tryz.underlying27 h 0 rfl (o := 0) (s := 1) rfl (by kernel_rfl) (dec_slice 5 (by omega) Tryz.underlying22 (by kernel_rfl) decCell)
  obtain ⟨a1, b1, h1⟩ := dec_field Tryz.underlying27 h 1 rfl (o := 1) (s := 1) rfl (by kernel_rfl) (dec_int Tryz.underlying2)
  obtain ⟨a2, b2, h2⟩ := dec_field Tryz.underlying27 h 2 rfl (o := 2) (s := 2) rfl (by kernel_rfl) decWord
  obtain ⟨a3, b3, h3⟩ := dec_field Tryz.underlying27 h 3 rfl (o := 4) (s := 1) rfl (by kernel_rfl) (dec_slice 2 (by omega) Tryz.underlying25 (by kernel_rfl) decPair)
  exact ⟨⟨a0, a1, a2, a3⟩, _, TN.piece h0 (TN.piece h1 (TN.piece h2 (TN.piece h3 (TN.pend hl))))⟩

theorem decLink {H : Type} {enc : TypeId × Value → H} {w : World} {spare : Nat → Bool} {held : Bool} : Dec Tryz.prog w enc spare held 235 GLink.enc := fun _ _ _ h => by
  have hl := trod_len Tryz.underlying235 h
  rw [show Tryz.prog.cellsOf 235 = 4 by kernel_rfl] at hl
  obtain ⟨a0, b0, h0⟩ := dec_field Tryz.underlying235 h 0 rfl (o := 0) (s := 2) rfl (by kernel_rfl) decWord
  obtain ⟨a1, b1, h1⟩ := dec_field Tryz.underlying235 h 1 rfl (o := 2) (s := 2) rfl (by kernel_rfl) decWord
  exact ⟨⟨a0, a1⟩, _, TN.piece h0 (TN.piece h1 (TN.pend hl))⟩

theorem decWorker {H : Type} {enc : TypeId × Value → H} {w : World} {spare : Nat → Bool} {held : Bool} : Dec Tryz.prog w enc spare held 128 GWorker.enc := fun _ _ _ h => by
  have hl := trod_len Tryz.underlying128 h
  rw [show Tryz.prog.cellsOf 128 = 5 by kernel_rfl] at hl
  obtain ⟨a0, b0, h0⟩ := dec_field Tryz.underlying128 h 0 rfl (o := 0) (s := 1) rfl (by kernel_rfl) (dec_int Tryz.underlying2)
  obtain ⟨a1, b1, h1⟩ := dec_field Tryz.underlying128 h 1 rfl (o := 1) (s := 1) rfl (by kernel_rfl) (dec_int Tryz.underlying2)
  obtain ⟨a2, b2, h2⟩ := dec_field Tryz.underlying128 h 2 rfl (o := 2) (s := 1) rfl (by kernel_rfl) (dec_slice 2 (by omega) Tryz.underlying25 (by kernel_rfl) decPair)
  obtain ⟨a3, b3, h3⟩ := dec_field Tryz.underlying128 h 3 rfl (o := 3) (s := 1) rfl (by kernel_rfl) (dec_slice 4 (by omega) Tryz.underlying126 (by kernel_rfl) decLink)
  obtain ⟨a4, b4, h4⟩ := dec_field Tryz.underlying128 h 4 rfl (o := 4) (s := 1) rfl (by kernel_rfl) (dec_slice 1 (by omega) Tryz.underlying48 (by kernel_rfl) (dec_int Tryz.underlying2))
  exact ⟨⟨a0, a1, a2, a3, a4⟩, _, TN.piece h0 (TN.piece h1 (TN.piece h2 (TN.piece h3 (TN.piece h4 (TN.pend hl)))))⟩

theorem decPool {H : Type} {enc : TypeId × Value → H} {w : World} {spare : Nat → Bool} {held : Bool} : Dec Tryz.prog w enc spare held 30 GPool.enc := fun _ _ _ h => by
  have hl := trod_len Tryz.underlying30 h
  rw [show Tryz.prog.cellsOf 30 = 7 by kernel_rfl] at hl
  obtain ⟨a0, b0, h0⟩ := dec_field Tryz.underlying30 h 0 rfl (o := 0) (s := 5) rfl (by kernel_rfl) decMemory
  obtain ⟨a1, b1, h1⟩ := dec_field Tryz.underlying30 h 1 rfl (o := 5) (s := 1) rfl (by kernel_rfl) (dec_slice 5 (by omega) Tryz.underlying28 (by kernel_rfl) decWorker)
  obtain ⟨a2, b2, h2⟩ := dec_field Tryz.underlying30 h 2 rfl (o := 6) (s := 1) rfl (by kernel_rfl) (dec_int Tryz.underlying2)
  exact ⟨⟨a0, a1, a2⟩, _, TN.piece h0 (TN.piece h1 (TN.piece h2 (TN.pend hl)))⟩
end Go.Proofs.YthciaodffkbljaaGreat
