/- Values at pointers: cells that last. Printed by gen_pt.py. No program in it. -/
import Derived.Test.YthciaodffkbljaaGreatQuiet
import Derived.Test.YthciaodffkbljaaGreatDPool
set_option linter.unusedSimpArgs false
set_option linter.unusedVariables false
namespace Go.Tr
open Go Go.RowKit

theorem GWord.pt {w : World} {x : GWord} {b o bs} (h : PtAt w b o x.enc bs) : Kn w b (o) (.int .i64 x.tag) ∧ Kn w b (o + 1) (.int .i64 x.at_) := by
  obtain ⟨hlt, us, hc, ht⟩ := h
  obtain ⟨rfl, rfl⟩ := GWord.us ht
  exact ⟨hc.always hlt 0 _ rfl, hc.always hlt 1 _ rfl⟩

theorem GCell.pt {w : World} {x : GCell} {b o bs} (h : PtAt w b o x.enc bs) : ∃ (A3 : Option Addr) (c3 : Nat) (b3 : List Nat) (A4 : Option Addr) (c4 : Nat) (b4 : List Nat), Kn w b (o) (.int .i64 x.kind) ∧ Kn w b (o + 1) (.int .i64 x.level) ∧ Kn w b (o + 2) (.int .i64 x.value) ∧ Kn w b (o + 3) (.slice A3 x.data.length c3) ∧ Kn w b (o + 4) (.slice A4 x.words.length c4) ∧ T1 w (.sl x.data.length (x.data.flatMap intE)) b3 (.slice A3 x.data.length c3) ∧ T1 w (.sl x.words.length (x.words.flatMap GWord.enc)) b4 (.slice A4 x.words.length c4) := by
  obtain ⟨hlt, us, hc, ht⟩ := h
  obtain ⟨A3, c3, b3, A4, c4, b4, rfl, rfl, t3, l3, m3, t4, l4, m4⟩ := GCell.us ht
  exact ⟨_, _, _, _, _, _, hc.always hlt 0 _ rfl, hc.always hlt 1 _ rfl, hc.always hlt 2 _ rfl, hc.always hlt 3 _ rfl, hc.always hlt 4 _ rfl, t3, t4⟩

theorem GPair.pt {w : World} {x : GPair} {b o bs} (h : PtAt w b o x.enc bs) : Kn w b (o) (.int .i64 x.a) ∧ Kn w b (o + 1) (.int .i64 x.b) := by
  obtain ⟨hlt, us, hc, ht⟩ := h
  obtain ⟨rfl, rfl⟩ := GPair.us ht
  exact ⟨hc.always hlt 0 _ rfl, hc.always hlt 1 _ rfl⟩

theorem GMemory.pt {w : World} {x : GMemory} {b o bs} (h : PtAt w b o x.enc bs) : ∃ (A0 : Option Addr) (c0 : Nat) (b0 : List Nat) (A4 : Option Addr) (c4 : Nat) (b4 : List Nat), Kn w b (o) (.slice A0 x.cells.length c0) ∧ Kn w b (o + 1) (.int .i64 x.free) ∧ Kn w b (o + 2) (.int .i64 x.root.tag) ∧ Kn w b (o + 3) (.int .i64 x.root.at_) ∧ Kn w b (o + 4) (.slice A4 x.redexes.length c4) ∧ T1 w (.sl x.cells.length (x.cells.flatMap GCell.enc)) b0 (.slice A0 x.cells.length c0) ∧ T1 w (.sl x.redexes.length (x.redexes.flatMap GPair.enc)) b4 (.slice A4 x.redexes.length c4) := by
  obtain ⟨hlt, us, hc, ht⟩ := h
  obtain ⟨A0, c0, b0, A4, c4, b4, rfl, rfl, t0, l0, m0, t4, l4, m4⟩ := GMemory.us ht
  exact ⟨_, _, _, _, _, _, hc.always hlt 0 _ rfl, hc.always hlt 1 _ rfl, hc.always hlt 2 _ rfl, hc.always hlt 3 _ rfl, hc.always hlt 4 _ rfl, t0, t4⟩

theorem GLink.pt {w : World} {x : GLink} {b o bs} (h : PtAt w b o x.enc bs) : Kn w b (o) (.int .i64 x.a.tag) ∧ Kn w b (o + 1) (.int .i64 x.a.at_) ∧ Kn w b (o + 2) (.int .i64 x.b.tag) ∧ Kn w b (o + 3) (.int .i64 x.b.at_) := by
  obtain ⟨hlt, us, hc, ht⟩ := h
  obtain ⟨rfl, rfl⟩ := GLink.us ht
  exact ⟨hc.always hlt 0 _ rfl, hc.always hlt 1 _ rfl, hc.always hlt 2 _ rfl, hc.always hlt 3 _ rfl⟩

theorem GWorker.pt {w : World} {x : GWorker} {b o bs} (h : PtAt w b o x.enc bs) : ∃ (A2 : Option Addr) (c2 : Nat) (b2 : List Nat) (A3 : Option Addr) (c3 : Nat) (b3 : List Nat) (A4 : Option Addr) (c4 : Nat) (b4 : List Nat), Kn w b (o) (.int .i64 x.phase) ∧ Kn w b (o + 1) (.int .i64 x.victim) ∧ Kn w b (o + 2) (.slice A2 x.redexes.length c2) ∧ Kn w b (o + 3) (.slice A3 x.links.length c3) ∧ Kn w b (o + 4) (.slice A4 x.counts.length c4) ∧ T1 w (.sl x.redexes.length (x.redexes.flatMap GPair.enc)) b2 (.slice A2 x.redexes.length c2) ∧ T1 w (.sl x.links.length (x.links.flatMap GLink.enc)) b3 (.slice A3 x.links.length c3) ∧ T1 w (.sl x.counts.length (x.counts.flatMap intE)) b4 (.slice A4 x.counts.length c4) := by
  obtain ⟨hlt, us, hc, ht⟩ := h
  obtain ⟨A2, c2, b2, A3, c3, b3, A4, c4, b4, rfl, rfl, t2, l2, m2, t3, l3, m3, t4, l4, m4⟩ := GWorker.us ht
  exact ⟨_, _, _, _, _, _, _, _, _, hc.always hlt 0 _ rfl, hc.always hlt 1 _ rfl, hc.always hlt 2 _ rfl, hc.always hlt 3 _ rfl, hc.always hlt 4 _ rfl, t2, t3, t4⟩

theorem GPool.pt {w : World} {x : GPool} {b o bs} (h : PtAt w b o x.enc bs) : ∃ (A0 : Option Addr) (c0 : Nat) (b0 : List Nat) (A4 : Option Addr) (c4 : Nat) (b4 : List Nat) (A5 : Option Addr) (c5 : Nat) (b5 : List Nat), Kn w b (o) (.slice A0 x.memory.cells.length c0) ∧ Kn w b (o + 1) (.int .i64 x.memory.free) ∧ Kn w b (o + 2) (.int .i64 x.memory.root.tag) ∧ Kn w b (o + 3) (.int .i64 x.memory.root.at_) ∧ Kn w b (o + 4) (.slice A4 x.memory.redexes.length c4) ∧ Kn w b (o + 5) (.slice A5 x.workers.length c5) ∧ Kn w b (o + 6) (.int .i64 x.active) ∧ T1 w (.sl x.memory.cells.length (x.memory.cells.flatMap GCell.enc)) b0 (.slice A0 x.memory.cells.length c0) ∧ T1 w (.sl x.memory.redexes.length (x.memory.redexes.flatMap GPair.enc)) b4 (.slice A4 x.memory.redexes.length c4) ∧ T1 w (.sl x.workers.length (x.workers.flatMap GWorker.enc)) b5 (.slice A5 x.workers.length c5) := by
  obtain ⟨hlt, us, hc, ht⟩ := h
  obtain ⟨A0, c0, b0, A4, c4, b4, A5, c5, b5, rfl, rfl, t0, l0, m0, t4, l4, m4, t5, l5, m5⟩ := GPool.us ht
  exact ⟨_, _, _, _, _, _, _, _, _, hc.always hlt 0 _ rfl, hc.always hlt 1 _ rfl, hc.always hlt 2 _ rfl, hc.always hlt 3 _ rfl, hc.always hlt 4 _ rfl, hc.always hlt 5 _ rfl, hc.always hlt 6 _ rfl, t0, t4, t5⟩

theorem GWord.pt0 {w : World} {x : GWord} {b bs} (h : PtAt w b 0 x.enc bs) : Kn w b 0 (.int .i64 x.tag) ∧ Kn w b 1 (.int .i64 x.at_) := by
  have := GWord.pt h
  simpa only [Nat.zero_add] using this

theorem GCell.pt0 {w : World} {x : GCell} {b bs} (h : PtAt w b 0 x.enc bs) : ∃ (A3 : Option Addr) (c3 : Nat) (b3 : List Nat) (A4 : Option Addr) (c4 : Nat) (b4 : List Nat), Kn w b 0 (.int .i64 x.kind) ∧ Kn w b 1 (.int .i64 x.level) ∧ Kn w b 2 (.int .i64 x.value) ∧ Kn w b 3 (.slice A3 x.data.length c3) ∧ Kn w b 4 (.slice A4 x.words.length c4) ∧ T1 w (.sl x.data.length (x.data.flatMap intE)) b3 (.slice A3 x.data.length c3) ∧ T1 w (.sl x.words.length (x.words.flatMap GWord.enc)) b4 (.slice A4 x.words.length c4) := by
  have := GCell.pt h
  simpa only [Nat.zero_add] using this

theorem GPair.pt0 {w : World} {x : GPair} {b bs} (h : PtAt w b 0 x.enc bs) : Kn w b 0 (.int .i64 x.a) ∧ Kn w b 1 (.int .i64 x.b) := by
  have := GPair.pt h
  simpa only [Nat.zero_add] using this

theorem GMemory.pt0 {w : World} {x : GMemory} {b bs} (h : PtAt w b 0 x.enc bs) : ∃ (A0 : Option Addr) (c0 : Nat) (b0 : List Nat) (A4 : Option Addr) (c4 : Nat) (b4 : List Nat), Kn w b 0 (.slice A0 x.cells.length c0) ∧ Kn w b 1 (.int .i64 x.free) ∧ Kn w b 2 (.int .i64 x.root.tag) ∧ Kn w b 3 (.int .i64 x.root.at_) ∧ Kn w b 4 (.slice A4 x.redexes.length c4) ∧ T1 w (.sl x.cells.length (x.cells.flatMap GCell.enc)) b0 (.slice A0 x.cells.length c0) ∧ T1 w (.sl x.redexes.length (x.redexes.flatMap GPair.enc)) b4 (.slice A4 x.redexes.length c4) := by
  have := GMemory.pt h
  simpa only [Nat.zero_add] using this

theorem GLink.pt0 {w : World} {x : GLink} {b bs} (h : PtAt w b 0 x.enc bs) : Kn w b 0 (.int .i64 x.a.tag) ∧ Kn w b 1 (.int .i64 x.a.at_) ∧ Kn w b 2 (.int .i64 x.b.tag) ∧ Kn w b 3 (.int .i64 x.b.at_) := by
  have := GLink.pt h
  simpa only [Nat.zero_add] using this

theorem GWorker.pt0 {w : World} {x : GWorker} {b bs} (h : PtAt w b 0 x.enc bs) : ∃ (A2 : Option Addr) (c2 : Nat) (b2 : List Nat) (A3 : Option Addr) (c3 : Nat) (b3 : List Nat) (A4 : Option Addr) (c4 : Nat) (b4 : List Nat), Kn w b 0 (.int .i64 x.phase) ∧ Kn w b 1 (.int .i64 x.victim) ∧ Kn w b 2 (.slice A2 x.redexes.length c2) ∧ Kn w b 3 (.slice A3 x.links.length c3) ∧ Kn w b 4 (.slice A4 x.counts.length c4) ∧ T1 w (.sl x.redexes.length (x.redexes.flatMap GPair.enc)) b2 (.slice A2 x.redexes.length c2) ∧ T1 w (.sl x.links.length (x.links.flatMap GLink.enc)) b3 (.slice A3 x.links.length c3) ∧ T1 w (.sl x.counts.length (x.counts.flatMap intE)) b4 (.slice A4 x.counts.length c4) := by
  have := GWorker.pt h
  simpa only [Nat.zero_add] using this

theorem GPool.pt0 {w : World} {x : GPool} {b bs} (h : PtAt w b 0 x.enc bs) : ∃ (A0 : Option Addr) (c0 : Nat) (b0 : List Nat) (A4 : Option Addr) (c4 : Nat) (b4 : List Nat) (A5 : Option Addr) (c5 : Nat) (b5 : List Nat), Kn w b 0 (.slice A0 x.memory.cells.length c0) ∧ Kn w b 1 (.int .i64 x.memory.free) ∧ Kn w b 2 (.int .i64 x.memory.root.tag) ∧ Kn w b 3 (.int .i64 x.memory.root.at_) ∧ Kn w b 4 (.slice A4 x.memory.redexes.length c4) ∧ Kn w b 5 (.slice A5 x.workers.length c5) ∧ Kn w b 6 (.int .i64 x.active) ∧ T1 w (.sl x.memory.cells.length (x.memory.cells.flatMap GCell.enc)) b0 (.slice A0 x.memory.cells.length c0) ∧ T1 w (.sl x.memory.redexes.length (x.memory.redexes.flatMap GPair.enc)) b4 (.slice A4 x.memory.redexes.length c4) ∧ T1 w (.sl x.workers.length (x.workers.flatMap GWorker.enc)) b5 (.slice A5 x.workers.length c5) := by
  have := GPool.pt h
  simpa only [Nat.zero_add] using this
end Go.Tr
