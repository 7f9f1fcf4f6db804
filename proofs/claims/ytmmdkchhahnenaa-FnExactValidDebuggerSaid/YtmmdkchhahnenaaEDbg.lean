/- What arguments of these types read as. Printed by gen_dec.py. -/
import Derived.Test.YtmmdkchhahnenaaProg
import Derived.Test.YtmmdkchhahnenaaDec
import Derived.Test.YtmmdkchhahnenaaDDbg
import Derived.KernelRfl
set_option linter.unusedSimpArgs false
set_option linter.unusedVariables false
namespace Go.Proofs.Ytmmdkchhahnenaa
open Go Go.RowKit Go.Proofs Go.Tr

theorem decPort {H : Type} {enc : TypeId × Value → H} {w : World} {spare : Nat → Bool} {held : Bool} : Dec Try.prog w enc spare held 324 GPort.enc := fun _ _ _ h => by
  have hl := trod_len Try.underlying324 h
  rw [show Try.prog.cellsOf 324 = 2 by kernel_rfl] at hl
  obtain ⟨a0, b0, h0⟩ := dec_field Try.underlying324 h 0 rfl (o := 0) (s := 1) rfl (by kernel_rfl) (dec_int Try.underlying2)
  obtain ⟨a1, b1, h1⟩ := dec_field Try.underlying324 h 1 rfl (o := 1) (s := 1) rfl (by kernel_rfl) (dec_int Try.underlying2)
  exact ⟨⟨a0, a1⟩, _, TN.piece h0 (TN.piece h1 (TN.pend hl))⟩

theorem decAgent {H : Type} {enc : TypeId × Value → H} {w : World} {spare : Nat → Bool} {held : Bool} : Dec Try.prog w enc spare held 284 GAgent.enc := fun _ _ _ h => by
  have hl := trod_len Try.underlying284 h
  rw [show Try.prog.cellsOf 284 = 5 by kernel_rfl] at hl
  obtain ⟨a0, b0, h0⟩ := dec_field Try.underlying284 h 0 rfl (o := 0) (s := 1) rfl (by kernel_rfl) (dec_int Try.underlying2)
  obtain ⟨a1, b1, h1⟩ := dec_field Try.underlying284 h 1 rfl (o := 1) (s := 1) rfl (by kernel_rfl) (dec_int Try.underlying2)
  obtain ⟨a2, b2, h2⟩ := dec_field Try.underlying284 h 2 rfl (o := 2) (s := 1) rfl (by kernel_rfl) (dec_int Try.underlying2)
  obtain ⟨a3, b3, h3⟩ := dec_field Try.underlying284 h 3 rfl (o := 3) (s := 1) rfl (by kernel_rfl) (dec_slice 1 (by omega) Try.underlying24 (by kernel_rfl) (dec_int Try.underlying2))
  obtain ⟨a4, b4, h4⟩ := dec_field Try.underlying284 h 4 rfl (o := 4) (s := 1) rfl (by kernel_rfl) (dec_slice 2 (by omega) Try.underlying282 (by kernel_rfl) decPort)
  exact ⟨⟨a0, a1, a2, a3, a4⟩, _, TN.piece h0 (TN.piece h1 (TN.piece h2 (TN.piece h3 (TN.piece h4 (TN.pend hl)))))⟩

theorem decNet {H : Type} {enc : TypeId × Value → H} {w : World} {spare : Nat → Bool} {held : Bool} : Dec Try.prog w enc spare held 56 GNet.enc := fun _ _ _ h => by
  have hl := trod_len Try.underlying56 h
  rw [show Try.prog.cellsOf 56 = 1 by kernel_rfl] at hl
  obtain ⟨a0, b0, h0⟩ := dec_field Try.underlying56 h 0 rfl (o := 0) (s := 1) rfl (by kernel_rfl) (dec_slice 5 (by omega) Try.underlying54 (by kernel_rfl) decAgent)
  exact ⟨⟨a0⟩, _, TN.piece h0 (TN.pend hl)⟩

theorem decOrigin {H : Type} {enc : TypeId × Value → H} {w : World} {spare : Nat → Bool} {held : Bool} : Dec Try.prog w enc spare held 230 GOrigin.enc := fun _ _ _ h => by
  have hl := trod_len Try.underlying230 h
  rw [show Try.prog.cellsOf 230 = 3 by kernel_rfl] at hl
  obtain ⟨a0, b0, h0⟩ := dec_field Try.underlying230 h 0 rfl (o := 0) (s := 1) rfl (by kernel_rfl) (dec_int Try.underlying2)
  obtain ⟨a1, b1, h1⟩ := dec_field Try.underlying230 h 1 rfl (o := 1) (s := 1) rfl (by kernel_rfl) (dec_int Try.underlying2)
  obtain ⟨a2, b2, h2⟩ := dec_field Try.underlying230 h 2 rfl (o := 2) (s := 1) rfl (by kernel_rfl) (dec_int Try.underlying2)
  exact ⟨⟨a0, a1, a2⟩, _, TN.piece h0 (TN.piece h1 (TN.piece h2 (TN.pend hl)))⟩

theorem decBreak {H : Type} {enc : TypeId × Value → H} {w : World} {spare : Nat → Bool} {held : Bool} : Dec Try.prog w enc spare held 232 GBreak.enc := fun _ _ _ h => by
  have hl := trod_len Try.underlying232 h
  rw [show Try.prog.cellsOf 232 = 2 by kernel_rfl] at hl
  obtain ⟨a0, b0, h0⟩ := dec_field Try.underlying232 h 0 rfl (o := 0) (s := 1) rfl (by kernel_rfl) (dec_int Try.underlying2)
  obtain ⟨a1, b1, h1⟩ := dec_field Try.underlying232 h 1 rfl (o := 1) (s := 1) rfl (by kernel_rfl) (dec_int Try.underlying2)
  exact ⟨⟨a0, a1⟩, _, TN.piece h0 (TN.piece h1 (TN.pend hl))⟩

theorem decCheckpoint {H : Type} {enc : TypeId × Value → H} {w : World} {spare : Nat → Bool} {held : Bool} : Dec Try.prog w enc spare held 222 GCheckpoint.enc := fun _ _ _ h => by
  have hl := trod_len Try.underlying222 h
  rw [show Try.prog.cellsOf 222 = 3 by kernel_rfl] at hl
  obtain ⟨a0, b0, h0⟩ := dec_field Try.underlying222 h 0 rfl (o := 0) (s := 1) rfl (by kernel_rfl) (dec_int Try.underlying2)
  obtain ⟨a1, b1, h1⟩ := dec_field Try.underlying222 h 1 rfl (o := 1) (s := 1) rfl (by kernel_rfl) decNet
  obtain ⟨a2, b2, h2⟩ := dec_field Try.underlying222 h 2 rfl (o := 2) (s := 1) rfl (by kernel_rfl) (dec_slice 3 (by omega) Try.underlying57 (by kernel_rfl) decOrigin)
  exact ⟨⟨a0, a1, a2⟩, _, TN.piece h0 (TN.piece h1 (TN.piece h2 (TN.pend hl)))⟩

theorem decDebugger {H : Type} {enc : TypeId × Value → H} {w : World} {spare : Nat → Bool} {held : Bool} : Dec Try.prog w enc spare held 61 GDebugger.enc := fun _ _ _ h => by
  have hl := trod_len Try.underlying61 h
  rw [show Try.prog.cellsOf 61 = 8 by kernel_rfl] at hl
  obtain ⟨a0, b0, h0⟩ := dec_field Try.underlying61 h 0 rfl (o := 0) (s := 1) rfl (by kernel_rfl) (dec_slice 1 (by omega) Try.underlying53 (by kernel_rfl) decNet)
  obtain ⟨a1, b1, h1⟩ := dec_field Try.underlying61 h 1 rfl (o := 1) (s := 1) rfl (by kernel_rfl) (dec_slice 1 (by omega) Try.underlying24 (by kernel_rfl) (dec_int Try.underlying2))
  obtain ⟨a2, b2, h2⟩ := dec_field Try.underlying61 h 2 rfl (o := 2) (s := 1) rfl (by kernel_rfl) (dec_int Try.underlying2)
  obtain ⟨a3, b3, h3⟩ := dec_field Try.underlying61 h 3 rfl (o := 3) (s := 1) rfl (by kernel_rfl) (dec_int Try.underlying2)
  obtain ⟨a4, b4, h4⟩ := dec_field Try.underlying61 h 4 rfl (o := 4) (s := 1) rfl (by kernel_rfl) decNet
  obtain ⟨a5, b5, h5⟩ := dec_field Try.underlying61 h 5 rfl (o := 5) (s := 1) rfl (by kernel_rfl) (dec_slice 3 (by omega) Try.underlying57 (by kernel_rfl) decOrigin)
  obtain ⟨a6, b6, h6⟩ := dec_field Try.underlying61 h 6 rfl (o := 6) (s := 1) rfl (by kernel_rfl) (dec_slice 2 (by omega) Try.underlying58 (by kernel_rfl) decBreak)
  obtain ⟨a7, b7, h7⟩ := dec_field Try.underlying61 h 7 rfl (o := 7) (s := 1) rfl (by kernel_rfl) (dec_slice 3 (by omega) Try.underlying59 (by kernel_rfl) decCheckpoint)
  exact ⟨⟨a0, a1, a2, a3, a4, a5, a6, a7⟩, _, TN.piece h0 (TN.piece h1 (TN.piece h2 (TN.piece h3 (TN.piece h4 (TN.piece h5 (TN.piece h6 (TN.piece h7 (TN.pend hl))))))))⟩
end Go.Proofs.Ytmmdkchhahnenaa
