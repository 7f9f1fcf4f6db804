/- What arguments of these types read as. Printed by gen_dec.py. -/
import Derived.Test.YtmmdkchhahnenaaGreatProg
import Derived.Test.YtmmdkchhahnenaaGreatDec
import Derived.Test.YtmmdkchhahnenaaGreatDDbg
import Derived.KernelRfl
set_option linter.unusedSimpArgs false
set_option linter.unusedVariables false
namespace Go.Proofs.YtmmdkchhahnenaaGreat
open Go Go.RowKit Go.Proofs Go.Tr

theorem decPort {H : Type} {enc : TypeId × Value → H} {w : World} {spare : Nat → Bool} {held : Bool} : Dec Tryz.prog w enc spare held 271 GPort.enc := fun _ _ _ h => by
  have hl := trod_len Tryz.underlying271 h
  rw [show Tryz.prog.cellsOf 271 = 2 by kernel_rfl] at hl
  obtain ⟨a0, b0, h0⟩ := dec_field Tryz.underlying271 h 0 rfl (o := 0) (s := 1) rfl (by kernel_rfl) (dec_int Tryz.underlying2)
  obtain ⟨a1, b1, h1⟩ := dec_field Tryz.underlying271 h 1 rfl (o := 1) (s := 1) rfl (by kernel_rfl) (dec_int Tryz.underlying2)
  exact ⟨⟨a0, a1⟩, _, TN.piece h0 (TN.piece h1 (TN.pend hl))⟩

theorem decAgent {H : Type} {enc : TypeId × Value → H} {w : World} {spare : Nat → Bool} {held : Bool} : Dec Tryz.prog w enc spare held 175 GAgent.enc := fun _ _ _ h => by
  have hl := trod_len Tryz.underlying175 h
  rw [show Tryz.prog.cellsOf 175 = 5 by kernel_rfl] at hl
  obtain ⟨a0, b0, h0⟩ := dec_field Tryz.underlying175 h 0 rfl (o := 0) (s := 1) rfl (by kernel_rfl) (dec_int Tryz.underlying2)
  obtain ⟨a1, b1, h1⟩ := dec_field Tryz.underlying175 h 1 rfl (o := 1) (s := 1) rfl (by kernel_rfl) (dec_int Tryz.underlying2)
  obtain ⟨a2, b2, h2⟩ := dec_field Tryz.underlying175 h 2 rfl (o := 2) (s := 1) rfl (by kernel_rfl) (dec_int Tryz.underlying2)
  obtain ⟨a3, b3, h3⟩ := dec_field Tryz.underlying175 h 3 rfl (o := 3) (s := 1) rfl (by kernel_rfl) (dec_slice 1 (by omega) Tryz.underlying48 (by kernel_rfl) (dec_int Tryz.underlying2))
  obtain ⟨a4, b4, h4⟩ := dec_field Tryz.underlying175 h 4 rfl (o := 4) (s := 1) rfl (by kernel_rfl) (dec_slice 2 (by omega) Tryz.underlying173 (by kernel_rfl) decPort)
  exact ⟨⟨a0, a1, a2, a3, a4⟩, _, TN.piece h0 (TN.piece h1 (TN.piece h2 (TN.piece h3 (TN.piece h4 (TN.pend hl)))))⟩

theorem decNet {H : Type} {enc : TypeId × Value → H} {w : World} {spare : Nat → Bool} {held : Bool} : Dec Tryz.prog w enc spare held 47 GNet.enc := fun _ _ _ h => by
  have hl := trod_len Tryz.underlying47 h
  rw [show Tryz.prog.cellsOf 47 = 1 by kernel_rfl] at hl
  obtain ⟨a0, b0, h0⟩ := dec_field Tryz.underlying47 h 0 rfl (o := 0) (s := 1) rfl (by kernel_rfl) (dec_slice 5 (by omega) Tryz.underlying45 (by kernel_rfl) decAgent)
  exact ⟨⟨a0⟩, _, TN.piece h0 (TN.pend hl)⟩

theorem decOrigin {H : Type} {enc : TypeId × Value → H} {w : World} {spare : Nat → Bool} {held : Bool} : Dec Tryz.prog w enc spare held 211 GOrigin.enc := fun _ _ _ h => by
  have hl := trod_len Tryz.underlying211 h
  rw [show Tryz.prog.cellsOf 211 = 3 by kernel_rfl] at hl
  obtain ⟨a0, b0, h0⟩ := dec_field Tryz.underlying211 h 0 rfl (o := 0) (s := 1) rfl (by kernel_rfl) (dec_int Tryz.underlying2)
  obtain ⟨a1, b1, h1⟩ := dec_field Tryz.underlying211 h 1 rfl (o := 1) (s := 1) rfl (by kernel_rfl) (dec_int Tryz.underlying2)
  obtain ⟨a2, b2, h2⟩ := dec_field Tryz.underlying211 h 2 rfl (o := 2) (s := 1) rfl (by kernel_rfl) (dec_int Tryz.underlying2)
  exact ⟨⟨a0, a1, a2⟩, _, TN.piece h0 (TN.piece h1 (TN.piece h2 (TN.pend hl)))⟩

theorem decBreak {H : Type} {enc : TypeId × Value → H} {w : World} {spare : Nat → Bool} {held : Bool} : Dec Tryz.prog w enc spare held 213 GBreak.enc := fun _ _ _ h => by
  have hl := trod_len Tryz.underlying213 h
  rw [show Tryz.prog.cellsOf 213 = 2 by kernel_rfl] at hl
  obtain ⟨a0, b0, h0⟩ := dec_field Tryz.underlying213 h 0 rfl (o := 0) (s := 1) rfl (by kernel_rfl) (dec_int Tryz.underlying2)
  obtain ⟨a1, b1, h1⟩ := dec_field Tryz.underlying213 h 1 rfl (o := 1) (s := 1) rfl (by kernel_rfl) (dec_int Tryz.underlying2)
  exact ⟨⟨a0, a1⟩, _, TN.piece h0 (TN.piece h1 (TN.pend hl))⟩

theorem decCheckpoint {H : Type} {enc : TypeId × Value → H} {w : World} {spare : Nat → Bool} {held : Bool} : Dec Tryz.prog w enc spare held 206 GCheckpoint.enc := fun _ _ _ h => by
  have hl := trod_len Tryz.underlying206 h
  rw [show Tryz.prog.cellsOf 206 = 3 by kernel_rfl] at hl
  obtain ⟨a0, b0, h0⟩ := dec_field Tryz.underlying206 h 0 rfl (o := 0) (s := 1) rfl (by kernel_rfl) (dec_int Tryz.underlying2)
  obtain ⟨a1, b1, h1⟩ := dec_field Tryz.underlying206 h 1 rfl (o := 1) (s := 1) rfl (by kernel_rfl) decNet
  obtain ⟨a2, b2, h2⟩ := dec_field Tryz.underlying206 h 2 rfl (o := 2) (s := 1) rfl (by kernel_rfl) (dec_slice 3 (by omega) Tryz.underlying74 (by kernel_rfl) decOrigin)
  exact ⟨⟨a0, a1, a2⟩, _, TN.piece h0 (TN.piece h1 (TN.piece h2 (TN.pend hl)))⟩

theorem decDebugger {H : Type} {enc : TypeId × Value → H} {w : World} {spare : Nat → Bool} {held : Bool} : Dec Tryz.prog w enc spare held 78 GDebugger.enc := fun _ _ _ h => by
  have hl := trod_len Tryz.underlying78 h
  rw [show Tryz.prog.cellsOf 78 = 8 by kernel_rfl] at hl
  obtain ⟨a0, b0, h0⟩ := dec_field Tryz.underlying78 h 0 rfl (o := 0) (s := 1) rfl (by kernel_rfl) (dec_slice 1 (by omega) Tryz.underlying44 (by kernel_rfl) decNet)
  obtain ⟨a1, b1, h1⟩ := dec_field Tryz.underlying78 h 1 rfl (o := 1) (s := 1) rfl (by kernel_rfl) (dec_slice 1 (by omega) Tryz.underlying48 (by kernel_rfl) (dec_int Tryz.underlying2))
  obtain ⟨a2, b2, h2⟩ := dec_field Tryz.underlying78 h 2 rfl (o := 2) (s := 1) rfl (by kernel_rfl) (dec_int Tryz.underlying2)
  obtain ⟨a3, b3, h3⟩ := dec_field Tryz.underlying78 h 3 rfl (o := 3) (s := 1) rfl (by kernel_rfl) (dec_int Tryz.underlying2)
  obtain ⟨a4, b4, h4⟩ := dec_field Tryz.underlying78 h 4 rfl (o := 4) (s := 1) rfl (by kernel_rfl) decNet
  obtain ⟨a5, b5, h5⟩ := dec_field Tryz.underlying78 h 5 rfl (o := 5) (s := 1) rfl (by kernel_rfl) (dec_slice 3 (by omega) Tryz.underlying74 (by kernel_rfl) decOrigin)
  obtain ⟨a6, b6, h6⟩ := dec_field Tryz.underlying78 h 6 rfl (o := 6) (s := 1) rfl (by kernel_rfl) (dec_slice 2 (by omega) Tryz.underlying75 (by kernel_rfl) decBreak)
  obtain ⟨a7, b7, h7⟩ := dec_field Tryz.underlying78 h 7 rfl (o := 7) (s := 1) rfl (by kernel_rfl) (dec_slice 3 (by omega) Tryz.underlying76 (by kernel_rfl) decCheckpoint)
  exact ⟨⟨a0, a1, a2, a3, a4, a5, a6, a7⟩, _, TN.piece h0 (TN.piece h1 (TN.piece h2 (TN.piece h3 (TN.piece h4 (TN.piece h5 (TN.piece h6 (TN.piece h7 (TN.pend hl))))))))⟩
end Go.Proofs.YtmmdkchhahnenaaGreat
