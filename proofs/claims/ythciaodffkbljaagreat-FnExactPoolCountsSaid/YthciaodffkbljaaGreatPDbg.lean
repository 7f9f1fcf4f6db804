/- Values at pointers: cells that last. Printed by gen_pt.py. No program in it. -/
import Derived.Test.YthciaodffkbljaaGreatQuiet
import Derived.Test.YthciaodffkbljaaGreatDDbg
set_option linter.unusedSimpArgs false
set_option linter.unusedVariables false
namespace Go.Tr
open Go Go.RowKit

theorem GPort.pt {w : World} {x : GPort} {b o bs} (h : PtAt w b o x.enc bs) : Kn w b (o) (.int .i64 x.agent) ∧ Kn w b (o + 1) (.int .i64 x.slot) := by
  obtain ⟨hlt, us, hc, ht⟩ := h
  obtain ⟨rfl, rfl⟩ := GPort.us ht
  exact ⟨hc.always hlt 0 _ rfl, hc.always hlt 1 _ rfl⟩

theorem GAgent.pt {w : World} {x : GAgent} {b o bs} (h : PtAt w b o x.enc bs) : ∃ (A3 : Option Addr) (c3 : Nat) (b3 : List Nat) (A4 : Option Addr) (c4 : Nat) (b4 : List Nat), Kn w b (o) (.int .i64 x.kind) ∧ Kn w b (o + 1) (.int .i64 x.level) ∧ Kn w b (o + 2) (.int .i64 x.value) ∧ Kn w b (o + 3) (.slice A3 x.data.length c3) ∧ Kn w b (o + 4) (.slice A4 x.ports.length c4) ∧ T1 w (.sl x.data.length (x.data.flatMap intE)) b3 (.slice A3 x.data.length c3) ∧ T1 w (.sl x.ports.length (x.ports.flatMap GPort.enc)) b4 (.slice A4 x.ports.length c4) := by
  obtain ⟨hlt, us, hc, ht⟩ := h
  obtain ⟨A3, c3, b3, A4, c4, b4, rfl, rfl, t3, l3, m3, t4, l4, m4⟩ := GAgent.us ht
  exact ⟨_, _, _, _, _, _, hc.always hlt 0 _ rfl, hc.always hlt 1 _ rfl, hc.always hlt 2 _ rfl, hc.always hlt 3 _ rfl, hc.always hlt 4 _ rfl, t3, t4⟩

theorem GNet.pt {w : World} {x : GNet} {b o bs} (h : PtAt w b o x.enc bs) : ∃ (A0 : Option Addr) (c0 : Nat) (b0 : List Nat), Kn w b (o) (.slice A0 x.agents.length c0) ∧ T1 w (.sl x.agents.length (x.agents.flatMap GAgent.enc)) b0 (.slice A0 x.agents.length c0) := by
  obtain ⟨hlt, us, hc, ht⟩ := h
  obtain ⟨A0, c0, b0, rfl, rfl, t0, l0, m0⟩ := GNet.us ht
  exact ⟨_, _, _, hc.always hlt 0 _ rfl, t0⟩

theorem GOrigin.pt {w : World} {x : GOrigin} {b o bs} (h : PtAt w b o x.enc bs) : Kn w b (o) (.int .i64 x.step) ∧ Kn w b (o + 1) (.int .i64 x.def_) ∧ Kn w b (o + 2) (.int .i64 x.source) := by
  obtain ⟨hlt, us, hc, ht⟩ := h
  obtain ⟨rfl, rfl⟩ := GOrigin.us ht
  exact ⟨hc.always hlt 0 _ rfl, hc.always hlt 1 _ rfl, hc.always hlt 2 _ rfl⟩

theorem GBreak.pt {w : World} {x : GBreak} {b o bs} (h : PtAt w b o x.enc bs) : Kn w b (o) (.int .i64 x.kind) ∧ Kn w b (o + 1) (.int .i64 x.value) := by
  obtain ⟨hlt, us, hc, ht⟩ := h
  obtain ⟨rfl, rfl⟩ := GBreak.us ht
  exact ⟨hc.always hlt 0 _ rfl, hc.always hlt 1 _ rfl⟩

theorem GCheckpoint.pt {w : World} {x : GCheckpoint} {b o bs} (h : PtAt w b o x.enc bs) : ∃ (A1 : Option Addr) (c1 : Nat) (b1 : List Nat) (A2 : Option Addr) (c2 : Nat) (b2 : List Nat), Kn w b (o) (.int .i64 x.at_) ∧ Kn w b (o + 1) (.slice A1 x.net.agents.length c1) ∧ Kn w b (o + 2) (.slice A2 x.origins.length c2) ∧ T1 w (.sl x.net.agents.length (x.net.agents.flatMap GAgent.enc)) b1 (.slice A1 x.net.agents.length c1) ∧ T1 w (.sl x.origins.length (x.origins.flatMap GOrigin.enc)) b2 (.slice A2 x.origins.length c2) := by
  obtain ⟨hlt, us, hc, ht⟩ := h
  obtain ⟨A1, c1, b1, A2, c2, b2, rfl, rfl, t1, l1, m1, t2, l2, m2⟩ := GCheckpoint.us ht
  exact ⟨_, _, _, _, _, _, hc.always hlt 0 _ rfl, hc.always hlt 1 _ rfl, hc.always hlt 2 _ rfl, t1, t2⟩

theorem GDebugger.pt {w : World} {x : GDebugger} {b o bs} (h : PtAt w b o x.enc bs) : ∃ (A0 : Option Addr) (c0 : Nat) (b0 : List Nat) (A1 : Option Addr) (c1 : Nat) (b1 : List Nat) (A4 : Option Addr) (c4 : Nat) (b4 : List Nat) (A5 : Option Addr) (c5 : Nat) (b5 : List Nat) (A6 : Option Addr) (c6 : Nat) (b6 : List Nat) (A7 : Option Addr) (c7 : Nat) (b7 : List Nat), Kn w b (o) (.slice A0 x.book.length c0) ∧ Kn w b (o + 1) (.slice A1 x.schedule.length c1) ∧ Kn w b (o + 2) (.int .i64 x.every) ∧ Kn w b (o + 3) (.int .i64 x.at_) ∧ Kn w b (o + 4) (.slice A4 x.net.agents.length c4) ∧ Kn w b (o + 5) (.slice A5 x.origins.length c5) ∧ Kn w b (o + 6) (.slice A6 x.breaks.length c6) ∧ Kn w b (o + 7) (.slice A7 x.points.length c7) ∧ T1 w (.sl x.book.length (x.book.flatMap GNet.enc)) b0 (.slice A0 x.book.length c0) ∧ T1 w (.sl x.schedule.length (x.schedule.flatMap intE)) b1 (.slice A1 x.schedule.length c1) ∧ T1 w (.sl x.net.agents.length (x.net.agents.flatMap GAgent.enc)) b4 (.slice A4 x.net.agents.length c4) ∧ T1 w (.sl x.origins.length (x.origins.flatMap GOrigin.enc)) b5 (.slice A5 x.origins.length c5) ∧ T1 w (.sl x.breaks.length (x.breaks.flatMap GBreak.enc)) b6 (.slice A6 x.breaks.length c6) ∧ T1 w (.sl x.points.length (x.points.flatMap GCheckpoint.enc)) b7 (.slice A7 x.points.length c7) := by
  obtain ⟨hlt, us, hc, ht⟩ := h
  obtain ⟨A0, c0, b0, A1, c1, b1, A4, c4, b4, A5, c5, b5, A6, c6, b6, A7, c7, b7, rfl, rfl, t0, l0, m0, t1, l1, m1, t4, l4, m4, t5, l5, m5, t6, l6, m6, t7, l7, m7⟩ := GDebugger.us ht
  exact ⟨_, _, _, _, _, _, _, _, _, _, _, _, _, _, _, _, _, _, hc.always hlt 0 _ rfl, hc.always hlt 1 _ rfl, hc.always hlt 2 _ rfl, hc.always hlt 3 _ rfl, hc.always hlt 4 _ rfl, hc.always hlt 5 _ rfl, hc.always hlt 6 _ rfl, hc.always hlt 7 _ rfl, t0, t1, t4, t5, t6, t7⟩

theorem GPort.pt0 {w : World} {x : GPort} {b bs} (h : PtAt w b 0 x.enc bs) : Kn w b 0 (.int .i64 x.agent) ∧ Kn w b 1 (.int .i64 x.slot) := by
  have := GPort.pt h
  simpa only [Nat.zero_add] using this

theorem GAgent.pt0 {w : World} {x : GAgent} {b bs} (h : PtAt w b 0 x.enc bs) : ∃ (A3 : Option Addr) (c3 : Nat) (b3 : List Nat) (A4 : Option Addr) (c4 : Nat) (b4 : List Nat), Kn w b 0 (.int .i64 x.kind) ∧ Kn w b 1 (.int .i64 x.level) ∧ Kn w b 2 (.int .i64 x.value) ∧ Kn w b 3 (.slice A3 x.data.length c3) ∧ Kn w b 4 (.slice A4 x.ports.length c4) ∧ T1 w (.sl x.data.length (x.data.flatMap intE)) b3 (.slice A3 x.data.length c3) ∧ T1 w (.sl x.ports.length (x.ports.flatMap GPort.enc)) b4 (.slice A4 x.ports.length c4) := by
  have := GAgent.pt h
  simpa only [Nat.zero_add] using this

theorem GNet.pt0 {w : World} {x : GNet} {b bs} (h : PtAt w b 0 x.enc bs) : ∃ (A0 : Option Addr) (c0 : Nat) (b0 : List Nat), Kn w b 0 (.slice A0 x.agents.length c0) ∧ T1 w (.sl x.agents.length (x.agents.flatMap GAgent.enc)) b0 (.slice A0 x.agents.length c0) := by
  have := GNet.pt h
  simpa only [Nat.zero_add] using this

theorem GOrigin.pt0 {w : World} {x : GOrigin} {b bs} (h : PtAt w b 0 x.enc bs) : Kn w b 0 (.int .i64 x.step) ∧ Kn w b 1 (.int .i64 x.def_) ∧ Kn w b 2 (.int .i64 x.source) := by
  have := GOrigin.pt h
  simpa only [Nat.zero_add] using this

theorem GBreak.pt0 {w : World} {x : GBreak} {b bs} (h : PtAt w b 0 x.enc bs) : Kn w b 0 (.int .i64 x.kind) ∧ Kn w b 1 (.int .i64 x.value) := by
  have := GBreak.pt h
  simpa only [Nat.zero_add] using this

theorem GCheckpoint.pt0 {w : World} {x : GCheckpoint} {b bs} (h : PtAt w b 0 x.enc bs) : ∃ (A1 : Option Addr) (c1 : Nat) (b1 : List Nat) (A2 : Option Addr) (c2 : Nat) (b2 : List Nat), Kn w b 0 (.int .i64 x.at_) ∧ Kn w b 1 (.slice A1 x.net.agents.length c1) ∧ Kn w b 2 (.slice A2 x.origins.length c2) ∧ T1 w (.sl x.net.agents.length (x.net.agents.flatMap GAgent.enc)) b1 (.slice A1 x.net.agents.length c1) ∧ T1 w (.sl x.origins.length (x.origins.flatMap GOrigin.enc)) b2 (.slice A2 x.origins.length c2) := by
  have := GCheckpoint.pt h
  simpa only [Nat.zero_add] using this

theorem GDebugger.pt0 {w : World} {x : GDebugger} {b bs} (h : PtAt w b 0 x.enc bs) : ∃ (A0 : Option Addr) (c0 : Nat) (b0 : List Nat) (A1 : Option Addr) (c1 : Nat) (b1 : List Nat) (A4 : Option Addr) (c4 : Nat) (b4 : List Nat) (A5 : Option Addr) (c5 : Nat) (b5 : List Nat) (A6 : Option Addr) (c6 : Nat) (b6 : List Nat) (A7 : Option Addr) (c7 : Nat) (b7 : List Nat), Kn w b 0 (.slice A0 x.book.length c0) ∧ Kn w b 1 (.slice A1 x.schedule.length c1) ∧ Kn w b 2 (.int .i64 x.every) ∧ Kn w b 3 (.int .i64 x.at_) ∧ Kn w b 4 (.slice A4 x.net.agents.length c4) ∧ Kn w b 5 (.slice A5 x.origins.length c5) ∧ Kn w b 6 (.slice A6 x.breaks.length c6) ∧ Kn w b 7 (.slice A7 x.points.length c7) ∧ T1 w (.sl x.book.length (x.book.flatMap GNet.enc)) b0 (.slice A0 x.book.length c0) ∧ T1 w (.sl x.schedule.length (x.schedule.flatMap intE)) b1 (.slice A1 x.schedule.length c1) ∧ T1 w (.sl x.net.agents.length (x.net.agents.flatMap GAgent.enc)) b4 (.slice A4 x.net.agents.length c4) ∧ T1 w (.sl x.origins.length (x.origins.flatMap GOrigin.enc)) b5 (.slice A5 x.origins.length c5) ∧ T1 w (.sl x.breaks.length (x.breaks.flatMap GBreak.enc)) b6 (.slice A6 x.breaks.length c6) ∧ T1 w (.sl x.points.length (x.points.flatMap GCheckpoint.enc)) b7 (.slice A7 x.points.length c7) := by
  have := GDebugger.pt h
  simpa only [Nat.zero_add] using this
end Go.Tr
namespace Go.Tr
def GPort.cells (p : GPort) : List Value := [.int .i64 p.agent, .int .i64 p.slot]
end Go.Tr
