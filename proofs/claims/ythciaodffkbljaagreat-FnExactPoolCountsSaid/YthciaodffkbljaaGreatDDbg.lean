/- Data of the program as structures, and how they lie in memory. No program in it. Printed by gen_fam.py. -/
import Derived.Test.YthciaodffkbljaaGreatData
set_option linter.unusedSimpArgs false
set_option linter.unusedVariables false
namespace Go.Tr
open Go Go.RowKit

structure GPort where
  agent : Int
  slot : Int

def GPort.enc (x : GPort) : List D := [.v (.int .i64 x.agent), .v (.int .i64 x.slot)]
theorem GPort.enc_len (x : GPort) : x.enc.length = 2 := rfl
theorem GPort.us {w : World} {x : GPort} {bs us} (h0 : TN w x.enc bs us) : us = [.int .i64 x.agent, .int .i64 x.slot] ∧ bs = [] := by
  unfold GPort.enc at h0
  obtain ⟨u0, rfl, h1⟩ := TN.v_cons h0
  obtain ⟨u1, rfl, h2⟩ := TN.v_cons h1
  obtain ⟨rfl, rfl⟩ := TN.end_ h2
  exact ⟨rfl, rfl⟩

theorem GPort.mk_ {w : World} {x : GPort}  : TN w x.enc ([]) [.int .i64 x.agent, .int .i64 x.slot] := by
  have h := (show TN w [.v (.int .i64 x.agent), .v (.int .i64 x.slot)] _ _ from TN.v_mk rfl (TN.v_mk rfl (TN.done)))
  try simp only [List.append_nil] at h
  unfold GPort.enc
  first | exact h | simpa only [List.append_assoc] using h

theorem GPort.get_ {w : World} {xs : List GPort} {bs : List Nat} {A : Option Addr} {n n' c : Nat} (h : T1 w (.sl n (xs.flatMap GPort.enc)) bs (.slice A n' c)) (hm : xs.length = n) {k : Nat} (hk : k < n) :
    ∃ (b off : Nat) (x : GPort) , A = some ⟨b, off, none⟩ ∧ b < w.heap.size ∧ Hid (xs[k]? = some x) ∧ w.cell? ⟨b, off + k * 2, none⟩ = some (.int .i64 x.agent) ∧ w.cell? ⟨b, off + k * 2 + 1, none⟩ = some (.int .i64 x.slot) := by
  obtain ⟨_, b, off, p1, p2, p3, us, hA, _, hb, hc, ht⟩ := T1.at_ GPort.enc_len h hm hk
  obtain ⟨rfl, _⟩ := GPort.us ht
  exact ⟨b, off, xs[k], hA, hb, List.getElem?_eq_getElem (hm ▸ hk), hc 0 _ rfl, hc 1 _ rfl⟩

theorem GPort.ext_ {x y : GPort} (h0 : x.agent = y.agent) (h1 : x.slot = y.slot) : x = y := by
  cases x; cases y; simp_all

def GPort.wt (_x : GPort) : Nat := 0
def GPort.small (_x : GPort) : Prop := True
structure GAgent where
  kind : Int
  level : Int
  value : Int
  data : (List Int)
  ports : (List GPort)

def GAgent.enc (x : GAgent) : List D := [.v (.int .i64 x.kind), .v (.int .i64 x.level), .v (.int .i64 x.value), .sl x.data.length (x.data.flatMap intE), .sl x.ports.length (x.ports.flatMap GPort.enc)]
theorem GAgent.enc_len (x : GAgent) : x.enc.length = 5 := rfl
theorem GAgent.us {w : World} {x : GAgent} {bs us} (h0 : TN w x.enc bs us) : ∃ (A3 : Option Addr) (c3 : Nat) (b3 : List Nat) (A4 : Option Addr) (c4 : Nat) (b4 : List Nat), us = [.int .i64 x.kind, .int .i64 x.level, .int .i64 x.value, .slice A3 x.data.length c3, .slice A4 x.ports.length c4] ∧ bs = b3 ++ b4 ∧ T1 w (.sl x.data.length (x.data.flatMap intE)) b3 (.slice A3 x.data.length c3) ∧ x.data.length ≤ c3 ∧ c3 ≤ maxLen ∧ T1 w (.sl x.ports.length (x.ports.flatMap GPort.enc)) b4 (.slice A4 x.ports.length c4) ∧ x.ports.length ≤ c4 ∧ c4 ≤ maxLen := by
  unfold GAgent.enc at h0
  obtain ⟨u0, rfl, h1⟩ := TN.v_cons h0
  obtain ⟨u1, rfl, h2⟩ := TN.v_cons h1
  obtain ⟨u2, rfl, h3⟩ := TN.v_cons h2
  obtain ⟨A3, c3, b3, r3, u3, rfl, rfl, t3, l3, m3, h4⟩ := TN.sl_cons h3
  obtain ⟨A4, c4, b4, r4, u4, rfl, rfl, t4, l4, m4, h5⟩ := TN.sl_cons h4
  obtain ⟨rfl, rfl⟩ := TN.end_ h5
  exact ⟨A3, c3, b3, A4, c4, b4, rfl, by simp, t3, l3, m3, t4, l4, m4⟩

theorem GAgent.mk_ {w : World} {x : GAgent} {A3 c3 b3} (t3 : T1 w (.sl x.data.length (x.data.flatMap intE)) b3 (.slice A3 x.data.length c3)) {A4 c4 b4} (t4 : T1 w (.sl x.ports.length (x.ports.flatMap GPort.enc)) b4 (.slice A4 x.ports.length c4)) : TN w x.enc (b3 ++ b4) [.int .i64 x.kind, .int .i64 x.level, .int .i64 x.value, .slice A3 x.data.length c3, .slice A4 x.ports.length c4] := by
  have h := (show TN w [.v (.int .i64 x.kind), .v (.int .i64 x.level), .v (.int .i64 x.value), .sl x.data.length (x.data.flatMap intE), .sl x.ports.length (x.ports.flatMap GPort.enc)] _ _ from TN.v_mk rfl (TN.v_mk rfl (TN.v_mk rfl (TN.sl_mk t3 (TN.sl_mk t4 (TN.done))))))
  try simp only [List.append_nil] at h
  unfold GAgent.enc
  first | exact h | simpa only [List.append_assoc] using h

theorem GAgent.get_ {w : World} {xs : List GAgent} {bs : List Nat} {A : Option Addr} {n n' c : Nat} (h : T1 w (.sl n (xs.flatMap GAgent.enc)) bs (.slice A n' c)) (hm : xs.length = n) {k : Nat} (hk : k < n) :
    ∃ (b off : Nat) (x : GAgent) (A3 : Option Addr) (c3 : Nat) (b3 : List Nat) (A4 : Option Addr) (c4 : Nat) (b4 : List Nat), A = some ⟨b, off, none⟩ ∧ b < w.heap.size ∧ Hid (xs[k]? = some x) ∧ w.cell? ⟨b, off + k * 5, none⟩ = some (.int .i64 x.kind) ∧ w.cell? ⟨b, off + k * 5 + 1, none⟩ = some (.int .i64 x.level) ∧ w.cell? ⟨b, off + k * 5 + 2, none⟩ = some (.int .i64 x.value) ∧ w.cell? ⟨b, off + k * 5 + 3, none⟩ = some (.slice A3 x.data.length c3) ∧ w.cell? ⟨b, off + k * 5 + 4, none⟩ = some (.slice A4 x.ports.length c4) ∧ T1 w (.sl x.data.length (x.data.flatMap intE)) b3 (.slice A3 x.data.length c3) ∧ x.data.length ≤ c3 ∧ c3 ≤ maxLen ∧ T1 w (.sl x.ports.length (x.ports.flatMap GPort.enc)) b4 (.slice A4 x.ports.length c4) ∧ x.ports.length ≤ c4 ∧ c4 ≤ maxLen := by
  obtain ⟨_, b, off, p1, p2, p3, us, hA, _, hb, hc, ht⟩ := T1.at_ GAgent.enc_len h hm hk
  obtain ⟨A3, c3, b3, A4, c4, b4, rfl, _, t3, l3, m3, t4, l4, m4⟩ := GAgent.us ht
  exact ⟨b, off, xs[k], A3, c3, b3, A4, c4, b4, hA, hb, List.getElem?_eq_getElem (hm ▸ hk), hc 0 _ rfl, hc 1 _ rfl, hc 2 _ rfl, hc 3 _ rfl, hc 4 _ rfl, t3, l3, m3, t4, l4, m4⟩

theorem GAgent.ext_ {x y : GAgent} (h0 : x.kind = y.kind) (h1 : x.level = y.level) (h2 : x.value = y.value) (h3 : x.data = y.data) (h4 : x.ports = y.ports) : x = y := by
  cases x; cases y; simp_all

def GAgent.wt (x : GAgent) : Nat := wtl (fun _ => 0) x.data + wtl (fun _ => 0) x.ports
def GAgent.small (x : GAgent) : Prop := (x.data.length ≤ 1048576) ∧ (x.ports.length ≤ 1048576 ∧ ∀ y ∈ x.ports, GPort.small y)
structure GNet where
  agents : (List GAgent)

def GNet.enc (x : GNet) : List D := [.sl x.agents.length (x.agents.flatMap GAgent.enc)]
theorem GNet.enc_len (x : GNet) : x.enc.length = 1 := rfl
theorem GNet.us {w : World} {x : GNet} {bs us} (h0 : TN w x.enc bs us) : ∃ (A0 : Option Addr) (c0 : Nat) (b0 : List Nat), us = [.slice A0 x.agents.length c0] ∧ bs = b0 ∧ T1 w (.sl x.agents.length (x.agents.flatMap GAgent.enc)) b0 (.slice A0 x.agents.length c0) ∧ x.agents.length ≤ c0 ∧ c0 ≤ maxLen := by
  unfold GNet.enc at h0
  obtain ⟨A0, c0, b0, r0, u0, rfl, rfl, t0, l0, m0, h1⟩ := TN.sl_cons h0
  obtain ⟨rfl, rfl⟩ := TN.end_ h1
  exact ⟨A0, c0, b0, rfl, by simp, t0, l0, m0⟩

theorem GNet.mk_ {w : World} {x : GNet} {A0 c0 b0} (t0 : T1 w (.sl x.agents.length (x.agents.flatMap GAgent.enc)) b0 (.slice A0 x.agents.length c0)) : TN w x.enc (b0) [.slice A0 x.agents.length c0] := by
  have h := (show TN w [.sl x.agents.length (x.agents.flatMap GAgent.enc)] _ _ from TN.sl_mk t0 (TN.done))
  try simp only [List.append_nil] at h
  unfold GNet.enc
  first | exact h | simpa only [List.append_assoc] using h

theorem GNet.get_ {w : World} {xs : List GNet} {bs : List Nat} {A : Option Addr} {n n' c : Nat} (h : T1 w (.sl n (xs.flatMap GNet.enc)) bs (.slice A n' c)) (hm : xs.length = n) {k : Nat} (hk : k < n) :
    ∃ (b off : Nat) (x : GNet) (A0 : Option Addr) (c0 : Nat) (b0 : List Nat), A = some ⟨b, off, none⟩ ∧ b < w.heap.size ∧ Hid (xs[k]? = some x) ∧ w.cell? ⟨b, off + k, none⟩ = some (.slice A0 x.agents.length c0) ∧ T1 w (.sl x.agents.length (x.agents.flatMap GAgent.enc)) b0 (.slice A0 x.agents.length c0) ∧ x.agents.length ≤ c0 ∧ c0 ≤ maxLen := by
  obtain ⟨_, b, off, p1, p2, p3, us, hA, _, hb, hc, ht⟩ := T1.at_ GNet.enc_len h hm hk
  obtain ⟨A0, c0, b0, rfl, _, t0, l0, m0⟩ := GNet.us ht
  exact ⟨b, off, xs[k], A0, c0, b0, hA, hb, List.getElem?_eq_getElem (hm ▸ hk), by simpa using hc 0 _ rfl, t0, l0, m0⟩

theorem GNet.ext_ {x y : GNet} (h0 : x.agents = y.agents) : x = y := by
  cases x; cases y; simp_all

def GNet.wt (x : GNet) : Nat := wtl GAgent.wt x.agents
def GNet.small (x : GNet) : Prop := (x.agents.length ≤ 1048576 ∧ ∀ y ∈ x.agents, GAgent.small y)
structure GOrigin where
  step : Int
  def_ : Int
  source : Int

def GOrigin.enc (x : GOrigin) : List D := [.v (.int .i64 x.step), .v (.int .i64 x.def_), .v (.int .i64 x.source)]
theorem GOrigin.enc_len (x : GOrigin) : x.enc.length = 3 := rfl
theorem GOrigin.us {w : World} {x : GOrigin} {bs us} (h0 : TN w x.enc bs us) : us = [.int .i64 x.step, .int .i64 x.def_, .int .i64 x.source] ∧ bs = [] := by
  unfold GOrigin.enc at h0
  obtain ⟨u0, rfl, h1⟩ := TN.v_cons h0
  obtain ⟨u1, rfl, h2⟩ := TN.v_cons h1
  obtain ⟨u2, rfl, h3⟩ := TN.v_cons h2
  obtain ⟨rfl, rfl⟩ := TN.end_ h3
  exact ⟨rfl, rfl⟩

theorem GOrigin.mk_ {w : World} {x : GOrigin}  : TN w x.enc ([]) [.int .i64 x.step, .int .i64 x.def_, .int .i64 x.source] := by
  have h := (show TN w [.v (.int .i64 x.step), .v (.int .i64 x.def_), .v (.int .i64 x.source)] _ _ from TN.v_mk rfl (TN.v_mk rfl (TN.v_mk rfl (TN.done))))
  try simp only [List.append_nil] at h
  unfold GOrigin.enc
  first | exact h | simpa only [List.append_assoc] using h

theorem GOrigin.get_ {w : World} {xs : List GOrigin} {bs : List Nat} {A : Option Addr} {n n' c : Nat} (h : T1 w (.sl n (xs.flatMap GOrigin.enc)) bs (.slice A n' c)) (hm : xs.length = n) {k : Nat} (hk : k < n) :
    ∃ (b off : Nat) (x : GOrigin) , A = some ⟨b, off, none⟩ ∧ b < w.heap.size ∧ Hid (xs[k]? = some x) ∧ w.cell? ⟨b, off + k * 3, none⟩ = some (.int .i64 x.step) ∧ w.cell? ⟨b, off + k * 3 + 1, none⟩ = some (.int .i64 x.def_) ∧ w.cell? ⟨b, off + k * 3 + 2, none⟩ = some (.int .i64 x.source) := by
  obtain ⟨_, b, off, p1, p2, p3, us, hA, _, hb, hc, ht⟩ := T1.at_ GOrigin.enc_len h hm hk
  obtain ⟨rfl, _⟩ := GOrigin.us ht
  exact ⟨b, off, xs[k], hA, hb, List.getElem?_eq_getElem (hm ▸ hk), hc 0 _ rfl, hc 1 _ rfl, hc 2 _ rfl⟩

theorem GOrigin.ext_ {x y : GOrigin} (h0 : x.step = y.step) (h1 : x.def_ = y.def_) (h2 : x.source = y.source) : x = y := by
  cases x; cases y; simp_all

def GOrigin.wt (_x : GOrigin) : Nat := 0
def GOrigin.small (_x : GOrigin) : Prop := True
structure GBreak where
  kind : Int
  value : Int

def GBreak.enc (x : GBreak) : List D := [.v (.int .i64 x.kind), .v (.int .i64 x.value)]
theorem GBreak.enc_len (x : GBreak) : x.enc.length = 2 := rfl
theorem GBreak.us {w : World} {x : GBreak} {bs us} (h0 : TN w x.enc bs us) : us = [.int .i64 x.kind, .int .i64 x.value] ∧ bs = [] := by
  unfold GBreak.enc at h0
  obtain ⟨u0, rfl, h1⟩ := TN.v_cons h0
  obtain ⟨u1, rfl, h2⟩ := TN.v_cons h1
  obtain ⟨rfl, rfl⟩ := TN.end_ h2
  exact ⟨rfl, rfl⟩

theorem GBreak.mk_ {w : World} {x : GBreak}  : TN w x.enc ([]) [.int .i64 x.kind, .int .i64 x.value] := by
  have h := (show TN w [.v (.int .i64 x.kind), .v (.int .i64 x.value)] _ _ from TN.v_mk rfl (TN.v_mk rfl (TN.done)))
  try simp only [List.append_nil] at h
  unfold GBreak.enc
  first | exact h | simpa only [List.append_assoc] using h

theorem GBreak.get_ {w : World} {xs : List GBreak} {bs : List Nat} {A : Option Addr} {n n' c : Nat} (h : T1 w (.sl n (xs.flatMap GBreak.enc)) bs (.slice A n' c)) (hm : xs.length = n) {k : Nat} (hk : k < n) :
    ∃ (b off : Nat) (x : GBreak) , A = some ⟨b, off, none⟩ ∧ b < w.heap.size ∧ Hid (xs[k]? = some x) ∧ w.cell? ⟨b, off + k * 2, none⟩ = some (.int .i64 x.kind) ∧ w.cell? ⟨b, off + k * 2 + 1, none⟩ = some (.int .i64 x.value) := by
  obtain ⟨_, b, off, p1, p2, p3, us, hA, _, hb, hc, ht⟩ := T1.at_ GBreak.enc_len h hm hk
  obtain ⟨rfl, _⟩ := GBreak.us ht
  exact ⟨b, off, xs[k], hA, hb, List.getElem?_eq_getElem (hm ▸ hk), hc 0 _ rfl, hc 1 _ rfl⟩

theorem GBreak.ext_ {x y : GBreak} (h0 : x.kind = y.kind) (h1 : x.value = y.value) : x = y := by
  cases x; cases y; simp_all

def GBreak.wt (_x : GBreak) : Nat := 0
def GBreak.small (_x : GBreak) : Prop := True
structure GCheckpoint where
  at_ : Int
  net : GNet
  origins : (List GOrigin)

def GCheckpoint.enc (x : GCheckpoint) : List D := [.v (.int .i64 x.at_), .sl x.net.agents.length (x.net.agents.flatMap GAgent.enc), .sl x.origins.length (x.origins.flatMap GOrigin.enc)]
theorem GCheckpoint.enc_len (x : GCheckpoint) : x.enc.length = 3 := rfl
theorem GCheckpoint.us {w : World} {x : GCheckpoint} {bs us} (h0 : TN w x.enc bs us) : ∃ (A1 : Option Addr) (c1 : Nat) (b1 : List Nat) (A2 : Option Addr) (c2 : Nat) (b2 : List Nat), us = [.int .i64 x.at_, .slice A1 x.net.agents.length c1, .slice A2 x.origins.length c2] ∧ bs = b1 ++ b2 ∧ T1 w (.sl x.net.agents.length (x.net.agents.flatMap GAgent.enc)) b1 (.slice A1 x.net.agents.length c1) ∧ x.net.agents.length ≤ c1 ∧ c1 ≤ maxLen ∧ T1 w (.sl x.origins.length (x.origins.flatMap GOrigin.enc)) b2 (.slice A2 x.origins.length c2) ∧ x.origins.length ≤ c2 ∧ c2 ≤ maxLen := by
  unfold GCheckpoint.enc at h0
  obtain ⟨u0, rfl, h1⟩ := TN.v_cons h0
  obtain ⟨A1, c1, b1, r1, u1, rfl, rfl, t1, l1, m1, h2⟩ := TN.sl_cons h1
  obtain ⟨A2, c2, b2, r2, u2, rfl, rfl, t2, l2, m2, h3⟩ := TN.sl_cons h2
  obtain ⟨rfl, rfl⟩ := TN.end_ h3
  exact ⟨A1, c1, b1, A2, c2, b2, rfl, by simp, t1, l1, m1, t2, l2, m2⟩

theorem GCheckpoint.mk_ {w : World} {x : GCheckpoint} {A1 c1 b1} (t1 : T1 w (.sl x.net.agents.length (x.net.agents.flatMap GAgent.enc)) b1 (.slice A1 x.net.agents.length c1)) {A2 c2 b2} (t2 : T1 w (.sl x.origins.length (x.origins.flatMap GOrigin.enc)) b2 (.slice A2 x.origins.length c2)) : TN w x.enc (b1 ++ b2) [.int .i64 x.at_, .slice A1 x.net.agents.length c1, .slice A2 x.origins.length c2] := by
  have h := (show TN w [.v (.int .i64 x.at_), .sl x.net.agents.length (x.net.agents.flatMap GAgent.enc), .sl x.origins.length (x.origins.flatMap GOrigin.enc)] _ _ from TN.v_mk rfl (TN.sl_mk t1 (TN.sl_mk t2 (TN.done))))
  try simp only [List.append_nil] at h
  unfold GCheckpoint.enc
  first | exact h | simpa only [List.append_assoc] using h

theorem GCheckpoint.get_ {w : World} {xs : List GCheckpoint} {bs : List Nat} {A : Option Addr} {n n' c : Nat} (h : T1 w (.sl n (xs.flatMap GCheckpoint.enc)) bs (.slice A n' c)) (hm : xs.length = n) {k : Nat} (hk : k < n) :
    ∃ (b off : Nat) (x : GCheckpoint) (A1 : Option Addr) (c1 : Nat) (b1 : List Nat) (A2 : Option Addr) (c2 : Nat) (b2 : List Nat), A = some ⟨b, off, none⟩ ∧ b < w.heap.size ∧ Hid (xs[k]? = some x) ∧ w.cell? ⟨b, off + k * 3, none⟩ = some (.int .i64 x.at_) ∧ w.cell? ⟨b, off + k * 3 + 1, none⟩ = some (.slice A1 x.net.agents.length c1) ∧ w.cell? ⟨b, off + k * 3 + 2, none⟩ = some (.slice A2 x.origins.length c2) ∧ T1 w (.sl x.net.agents.length (x.net.agents.flatMap GAgent.enc)) b1 (.slice A1 x.net.agents.length c1) ∧ x.net.agents.length ≤ c1 ∧ c1 ≤ maxLen ∧ T1 w (.sl x.origins.length (x.origins.flatMap GOrigin.enc)) b2 (.slice A2 x.origins.length c2) ∧ x.origins.length ≤ c2 ∧ c2 ≤ maxLen := by
  obtain ⟨_, b, off, p1, p2, p3, us, hA, _, hb, hc, ht⟩ := T1.at_ GCheckpoint.enc_len h hm hk
  obtain ⟨A1, c1, b1, A2, c2, b2, rfl, _, t1, l1, m1, t2, l2, m2⟩ := GCheckpoint.us ht
  exact ⟨b, off, xs[k], A1, c1, b1, A2, c2, b2, hA, hb, List.getElem?_eq_getElem (hm ▸ hk), hc 0 _ rfl, hc 1 _ rfl, hc 2 _ rfl, t1, l1, m1, t2, l2, m2⟩

theorem GCheckpoint.ext_ {x y : GCheckpoint} (h0 : x.at_ = y.at_) (h1 : x.net = y.net) (h2 : x.origins = y.origins) : x = y := by
  cases x; cases y; simp_all

def GCheckpoint.wt (x : GCheckpoint) : Nat := x.net.wt + wtl (fun _ => 0) x.origins
def GCheckpoint.small (x : GCheckpoint) : Prop := (x.net.small) ∧ (x.origins.length ≤ 1048576 ∧ ∀ y ∈ x.origins, GOrigin.small y)
structure GDebugger where
  book : (List GNet)
  schedule : (List Int)
  every : Int
  at_ : Int
  net : GNet
  origins : (List GOrigin)
  breaks : (List GBreak)
  points : (List GCheckpoint)

def GDebugger.enc (x : GDebugger) : List D := [.sl x.book.length (x.book.flatMap GNet.enc), .sl x.schedule.length (x.schedule.flatMap intE), .v (.int .i64 x.every), .v (.int .i64 x.at_), .sl x.net.agents.length (x.net.agents.flatMap GAgent.enc), .sl x.origins.length (x.origins.flatMap GOrigin.enc), .sl x.breaks.length (x.breaks.flatMap GBreak.enc), .sl x.points.length (x.points.flatMap GCheckpoint.enc)]
theorem GDebugger.enc_len (x : GDebugger) : x.enc.length = 8 := rfl
theorem GDebugger.us {w : World} {x : GDebugger} {bs us} (h0 : TN w x.enc bs us) : ∃ (A0 : Option Addr) (c0 : Nat) (b0 : List Nat) (A1 : Option Addr) (c1 : Nat) (b1 : List Nat) (A4 : Option Addr) (c4 : Nat) (b4 : List Nat) (A5 : Option Addr) (c5 : Nat) (b5 : List Nat) (A6 : Option Addr) (c6 : Nat) (b6 : List Nat) (A7 : Option Addr) (c7 : Nat) (b7 : List Nat), us = [.slice A0 x.book.length c0, .slice A1 x.schedule.length c1, .int .i64 x.every, .int .i64 x.at_, .slice A4 x.net.agents.length c4, .slice A5 x.origins.length c5, .slice A6 x.breaks.length c6, .slice A7 x.points.length c7] ∧ bs = b0 ++ b1 ++ b4 ++ b5 ++ b6 ++ b7 ∧ T1 w (.sl x.book.length (x.book.flatMap GNet.enc)) b0 (.slice A0 x.book.length c0) ∧ x.book.length ≤ c0 ∧ c0 ≤ maxLen ∧ T1 w (.sl x.schedule.length (x.schedule.flatMap intE)) b1 (.slice A1 x.schedule.length c1) ∧ x.schedule.length ≤ c1 ∧ c1 ≤ maxLen ∧ T1 w (.sl x.net.agents.length (x.net.agents.flatMap GAgent.enc)) b4 (.slice A4 x.net.agents.length c4) ∧ x.net.agents.length ≤ c4 ∧ c4 ≤ maxLen ∧ T1 w (.sl x.origins.length (x.origins.flatMap GOrigin.enc)) b5 (.slice A5 x.origins.length c5) ∧ x.origins.length ≤ c5 ∧ c5 ≤ maxLen ∧ T1 w (.sl x.breaks.length (x.breaks.flatMap GBreak.enc)) b6 (.slice A6 x.breaks.length c6) ∧ x.breaks.length ≤ c6 ∧ c6 ≤ maxLen ∧ T1 w (.sl x.points.length (x.points.flatMap GCheckpoint.enc)) b7 (.slice A7 x.points.length c7) ∧ x.points.length ≤ c7 ∧ c7 ≤ maxLen := by
  unfold GDebugger.enc at h0
  obtain ⟨A0, c0, b0, r0, u0, rfl, rfl, t0, l0, m0, h1⟩ := TN.sl_cons h0
  obtain ⟨A1, c1, b1, r1, u1, rfl, rfl, t1, l1, m1, h2⟩ := TN.sl_cons h1
  obtain ⟨u2, rfl, h3⟩ := TN.v_cons h2
  obtain ⟨u3, rfl, h4⟩ := TN.v_cons h3
  obtain ⟨A4, c4, b4, r4, u4, rfl, rfl, t4, l4, m4, h5⟩ := TN.sl_cons h4
  obtain ⟨A5, c5, b5, r5, u5, rfl, rfl, t5, l5, m5, h6⟩ := TN.sl_cons h5
  obtain ⟨A6, c6, b6, r6, u6, rfl, rfl, t6, l6, m6, h7⟩ := TN.sl_cons h6
  obtain ⟨A7, c7, b7, r7, u7, rfl, rfl, t7, l7, m7, h8⟩ := TN.sl_cons h7
  obtain ⟨rfl, rfl⟩ := TN.end_ h8
  exact ⟨A0, c0, b0, A1, c1, b1, A4, c4, b4, A5, c5, b5, A6, c6, b6, A7, c7, b7, rfl, by simp, t0, l0, m0, t1, l1, m1, t4, l4, m4, t5, l5, m5, t6, l6, m6, t7, l7, m7⟩

theorem GDebugger.mk_ {w : World} {x : GDebugger} {A0 c0 b0} (t0 : T1 w (.sl x.book.length (x.book.flatMap GNet.enc)) b0 (.slice A0 x.book.length c0)) {A1 c1 b1} (t1 : T1 w (.sl x.schedule.length (x.schedule.flatMap intE)) b1 (.slice A1 x.schedule.length c1)) {A4 c4 b4} (t4 : T1 w (.sl x.net.agents.length (x.net.agents.flatMap GAgent.enc)) b4 (.slice A4 x.net.agents.length c4)) {A5 c5 b5} (t5 : T1 w (.sl x.origins.length (x.origins.flatMap GOrigin.enc)) b5 (.slice A5 x.origins.length c5)) {A6 c6 b6} (t6 : T1 w (.sl x.breaks.length (x.breaks.flatMap GBreak.enc)) b6 (.slice A6 x.breaks.length c6)) {A7 c7 b7} (t7 : T1 w (.sl x.points.length (x.points.flatMap GCheckpoint.enc)) b7 (.slice A7 x.points.length c7)) : TN w x.enc (b0 ++ b1 ++ b4 ++ b5 ++ b6 ++ b7) [.slice A0 x.book.length c0, .slice A1 x.schedule.length c1, .int .i64 x.every, .int .i64 x.at_, .slice A4 x.net.agents.length c4, .slice A5 x.origins.length c5, .slice A6 x.breaks.length c6, .slice A7 x.points.length c7] := by
  have h := (show TN w [.sl x.book.length (x.book.flatMap GNet.enc), .sl x.schedule.length (x.schedule.flatMap intE), .v (.int .i64 x.every), .v (.int .i64 x.at_), .sl x.net.agents.length (x.net.agents.flatMap GAgent.enc), .sl x.origins.length (x.origins.flatMap GOrigin.enc), .sl x.breaks.length (x.breaks.flatMap GBreak.enc), .sl x.points.length (x.points.flatMap GCheckpoint.enc)] _ _ from TN.sl_mk t0 (TN.sl_mk t1 (TN.v_mk rfl (TN.v_mk rfl (TN.sl_mk t4 (TN.sl_mk t5 (TN.sl_mk t6 (TN.sl_mk t7 (TN.done)))))))))
  try simp only [List.append_nil] at h
  unfold GDebugger.enc
  first | exact h | simpa only [List.append_assoc] using h

theorem GDebugger.get_ {w : World} {xs : List GDebugger} {bs : List Nat} {A : Option Addr} {n n' c : Nat} (h : T1 w (.sl n (xs.flatMap GDebugger.enc)) bs (.slice A n' c)) (hm : xs.length = n) {k : Nat} (hk : k < n) :
    ∃ (b off : Nat) (x : GDebugger) (A0 : Option Addr) (c0 : Nat) (b0 : List Nat) (A1 : Option Addr) (c1 : Nat) (b1 : List Nat) (A4 : Option Addr) (c4 : Nat) (b4 : List Nat) (A5 : Option Addr) (c5 : Nat) (b5 : List Nat) (A6 : Option Addr) (c6 : Nat) (b6 : List Nat) (A7 : Option Addr) (c7 : Nat) (b7 : List Nat), A = some ⟨b, off, none⟩ ∧ b < w.heap.size ∧ Hid (xs[k]? = some x) ∧ w.cell? ⟨b, off + k * 8, none⟩ = some (.slice A0 x.book.length c0) ∧ w.cell? ⟨b, off + k * 8 + 1, none⟩ = some (.slice A1 x.schedule.length c1) ∧ w.cell? ⟨b, off + k * 8 + 2, none⟩ = some (.int .i64 x.every) ∧ w.cell? ⟨b, off + k * 8 + 3, none⟩ = some (.int .i64 x.at_) ∧ w.cell? ⟨b, off + k * 8 + 4, none⟩ = some (.slice A4 x.net.agents.length c4) ∧ w.cell? ⟨b, off + k * 8 + 5, none⟩ = some (.slice A5 x.origins.length c5) ∧ w.cell? ⟨b, off + k * 8 + 6, none⟩ = some (.slice A6 x.breaks.length c6) ∧ w.cell? ⟨b, off + k * 8 + 7, none⟩ = some (.slice A7 x.points.length c7) ∧ T1 w (.sl x.book.length (x.book.flatMap GNet.enc)) b0 (.slice A0 x.book.length c0) ∧ x.book.length ≤ c0 ∧ c0 ≤ maxLen ∧ T1 w (.sl x.schedule.length (x.schedule.flatMap intE)) b1 (.slice A1 x.schedule.length c1) ∧ x.schedule.length ≤ c1 ∧ c1 ≤ maxLen ∧ T1 w (.sl x.net.agents.length (x.net.agents.flatMap GAgent.enc)) b4 (.slice A4 x.net.agents.length c4) ∧ x.net.agents.length ≤ c4 ∧ c4 ≤ maxLen ∧ T1 w (.sl x.origins.length (x.origins.flatMap GOrigin.enc)) b5 (.slice A5 x.origins.length c5) ∧ x.origins.length ≤ c5 ∧ c5 ≤ maxLen ∧ T1 w (.sl x.breaks.length (x.breaks.flatMap GBreak.enc)) b6 (.slice A6 x.breaks.length c6) ∧ x.breaks.length ≤ c6 ∧ c6 ≤ maxLen ∧ T1 w (.sl x.points.length (x.points.flatMap GCheckpoint.enc)) b7 (.slice A7 x.points.length c7) ∧ x.points.length ≤ c7 ∧ c7 ≤ maxLen := by
  obtain ⟨_, b, off, p1, p2, p3, us, hA, _, hb, hc, ht⟩ := T1.at_ GDebugger.enc_len h hm hk
  obtain ⟨A0, c0, b0, A1, c1, b1, A4, c4, b4, A5, c5, b5, A6, c6, b6, A7, c7, b7, rfl, _, t0, l0, m0, t1, l1, m1, t4, l4, m4, t5, l5, m5, t6, l6, m6, t7, l7, m7⟩ := GDebugger.us ht
  exact ⟨b, off, xs[k], A0, c0, b0, A1, c1, b1, A4, c4, b4, A5, c5, b5, A6, c6, b6, A7, c7, b7, hA, hb, List.getElem?_eq_getElem (hm ▸ hk), hc 0 _ rfl, hc 1 _ rfl, hc 2 _ rfl, hc 3 _ rfl, hc 4 _ rfl, hc 5 _ rfl, hc 6 _ rfl, hc 7 _ rfl, t0, l0, m0, t1, l1, m1, t4, l4, m4, t5, l5, m5, t6, l6, m6, t7, l7, m7⟩

theorem GDebugger.ext_ {x y : GDebugger} (h0 : x.book = y.book) (h1 : x.schedule = y.schedule) (h2 : x.every = y.every) (h3 : x.at_ = y.at_) (h4 : x.net = y.net) (h5 : x.origins = y.origins) (h6 : x.breaks = y.breaks) (h7 : x.points = y.points) : x = y := by
  cases x; cases y; simp_all

def GDebugger.wt (x : GDebugger) : Nat := wtl GNet.wt x.book + wtl (fun _ => 0) x.schedule + x.net.wt + wtl (fun _ => 0) x.origins + wtl (fun _ => 0) x.breaks + wtl GCheckpoint.wt x.points
def GDebugger.small (x : GDebugger) : Prop := (x.book.length ≤ 1048576 ∧ ∀ y ∈ x.book, GNet.small y) ∧ (x.schedule.length ≤ 1048576) ∧ (x.net.small) ∧ (x.origins.length ≤ 1048576 ∧ ∀ y ∈ x.origins, GOrigin.small y) ∧ (x.breaks.length ≤ 1048576 ∧ ∀ y ∈ x.breaks, GBreak.small y) ∧ (x.points.length ≤ 1048576 ∧ ∀ y ∈ x.points, GCheckpoint.small y)
end Go.Tr
