
/- Plain arithmetic: 32-bit wraps, the operators of the language, bounds as Bools. No program in it. -/
import Derived.Test.YtemalpelcdmemaaGreatSc
set_option linter.unusedSimpArgs false
set_option linter.unusedVariables false
namespace Go.Tr
open Go Go.RowKit
def inB (n lo hi : Int) : Bool := decide (lo ≤ n) && decide (n ≤ hi)
theorem inB_t {n lo hi : Int} (h : inB n lo hi = true) : lo ≤ n ∧ n ≤ hi := by simpa [inB] using h
theorem inB_f {n lo hi : Int} (h : inB n lo hi = false) : n < lo ∨ hi < n := by
 simp only [inB, Bool.and_eq_false_iff, decide_eq_false_iff_not] at h; omega
theorem inB_mk {n lo hi : Int} (h1 : lo ≤ n) (h2 : n ≤ hi) : inB n lo hi = true := by simp [inB, h1, h2]
theorem inB_no {n lo hi : Int} (h : n < lo ∨ hi < n) : inB n lo hi = false := by
 simp only [inB, Bool.and_eq_false_iff, decide_eq_false_iff_not]; omega
def kindB (k : Int) : Bool := inB k 1 12
def hasLevB (k : Int) : Bool := kindB k && k != 1 && k != 5 && k != 6
def levB (n : Int) : Bool := inB n 0 8
def allowB (k l : Int) : Bool := kindB k && (l == 0 || (hasLevB k && levB l))
def consB (k : Int) : Bool := k == 3 || k == 7 || k == 8 || k == 10 || k == 11
def dupB (t k l : Int) : Bool := levB t && allowB k l && (k == 6 || k == 12 || (hasLevB k && decide (t < l)))
def rule (ka la kb lb : Int) : Int :=
 if ka = 5 then 4
 else if ka = 4 then (if kb == 4 && la == lb then 2 else if dupB la kb lb then 3 else 0)
 else if ka = 2 then (if kb == 3 && la == lb then 1 else 0)
 else if ka = 6 then (if kb == 7 || kb == 8 then 5 else if kb == 11 then 6 else 0)
 else if ka = 9 then (if kb == 10 then 6 else 0)
 else if ka = 12 then (if consB kb then 7 else 0)
 else 0
def pairB (ka la kb lb : Int) : Bool := allowB ka la && allowB kb lb && ka != 1 && kb != 1
def pairClass (ka la kb lb : Int) : Int := if pairB ka la kb lb then (if rule ka la kb lb = 0 then (if rule kb lb ka la = 0 then 8 else rule kb lb ka la) else rule ka la kb lb) else 0
def pairFirst (ka la kb lb : Int) : Int := if pairB ka la kb lb then (if rule ka la kb lb = 0 then (if rule kb lb ka la = 0 then 0 else 2) else 1) else 0
def portsOf (k f : Int) : Int :=
 if k = 9 then (if inB f 0 3 then f + 1 else 0) else if f = 0 then
  (if k = 1 ∨ k = 5 ∨ k = 6 ∨ k = 12 then 1 else if k = 8 ∨ k = 10 ∨ k = 11 then 2 else if k = 2 ∨ k = 3 ∨ k = 4 ∨ k = 7 then 3 else 0) else 0
theorem kind_cases {k : Int} (h : kindB k = true) : k = 1 ∨ k = 2 ∨ k = 3 ∨ k = 4 ∨ k = 5 ∨ k = 6 ∨ k = 7 ∨ k = 8 ∨ k = 9 ∨ k = 10 ∨ k = 11 ∨ k = 12 := by
 have := inB_t h; omega
theorem allow_of_kind_f {k l : Int} (h : kindB k = false) : allowB k l = false := by simp [allowB, h]
theorem hasLev_of_kind_f {k : Int} (h : kindB k = false) : hasLevB k = false := by simp [hasLevB, h]
theorem rule_range (ka la kb lb : Int) : 0 ≤ rule ka la kb lb ∧ rule ka la kb lb ≤ 7 := by
 unfold rule; (repeat' split) <;> omega
theorem dup_fan {i k : Int} (h : dupB i 4 k = true) : i < k := by
 simp only [dupB, Bool.and_eq_true, Bool.or_eq_true] at h; obtain ⟨_, h⟩ := h; rcases h with (h | h) | h
 ·exact absurd h (by decide)
 ·exact absurd h (by decide)
 ·simpa using h.2
theorem dup_kind {i b k : Int} (h : dupB i b k = true) : b ≠ 5 := by
 rintro rfl; simp [dupB, hasLevB] at h
theorem rule_both {ka la kb lb : Int} (h1 : rule ka la kb lb ≠ 0) (h2 : rule kb lb ka la ≠ 0) : rule ka la kb lb = rule kb lb ka la ∧ (rule ka la kb lb = 2 ∨ rule ka la kb lb = 4) := by
 by_cases a5 : ka = 5
 ·subst a5
  by_cases b5 : kb = 5
  ·subst b5; simp [rule]
  ·exfalso; revert h2; unfold rule; rw [if_neg b5]; split
   ·rw [if_neg (by simp), if_neg (fun h => dup_kind h rfl)]; simp
   ·simp [consB]
 by_cases b5 : kb = 5
 ·subst b5; exfalso; revert h1; unfold rule; rw [if_neg a5]; split
  ·rw [if_neg (by simp), if_neg (fun h => dup_kind h rfl)]; simp
  ·simp [consB]
 by_cases a4 : ka = 4
 ·subst a4
  by_cases b4 : kb = 4
  ·subst b4
   by_cases e : la = lb
   ·subst e; simp [rule]
   ·exfalso; have e' : ¬ lb = la := fun h => e h.symm
    simp [rule, e, e'] at h1 h2; have := dup_fan h1; have := dup_fan h2; omega
  ·exfalso; revert h2; unfold rule; simp [b5, b4, consB]
 by_cases b4 : kb = 4
 ·subst b4; exfalso; revert h1; unfold rule; simp [a5, a4, consB]
 exfalso; revert h1 h2; unfold rule; simp only [a5, b5, a4, b4, if_false]
 by_cases a2 : ka = 2
 ·subst a2; simp [consB]
  try (intro h _; subst h; simp)
 by_cases a6 : ka = 6
 ·subst a6; simp [consB]
  try
   split
   ·rename_i h; rcases h with rfl | rfl <;> simp
   ·split
    ·rename_i h; subst h; simp
    ·simp
 by_cases a9 : ka = 9
 ·subst a9; simp [consB]
  try (intro h; subst h; simp)
 by_cases a12 : ka = 12
 ·subst a12; intro h
  have hc : consB kb = true := by
   cases hc : consB kb with
   | true => rfl
   | false => simp [hc] at h
  simp only [consB, Bool.or_eq_true, beq_iff_eq] at hc; rcases hc with (((rfl | rfl) | rfl) | rfl) | rfl <;> simp
 ·simp [a2, a6, a9, a12]
theorem pairB_sym (ka la kb lb : Int) : pairB ka la kb lb = pairB kb lb ka la := by
 simp only [pairB]; cases allowB ka la <;> cases allowB kb lb <;> cases (ka != 1) <;> cases (kb != 1) <;> rfl
theorem pairClass_sym (ka la kb lb : Int) : pairClass kb lb ka la = pairClass ka la kb lb := by
 unfold pairClass; rw [pairB_sym kb lb ka la]
 by_cases h1 : rule ka la kb lb = 0 <;> by_cases h2 : rule kb lb ka la = 0
 ·simp [h1, h2]
 ·simp [h1, h2]
 ·simp [h1, h2]
 ·simp [h1, h2, (rule_both h1 h2).1]
structure GPort where
 agent : Int
 slot : Int
def GPort.enc (x : GPort) : List D := [.v (.int .i64 x.agent), .v (.int .i64 x.slot)]
theorem GPort.enc_len (x : GPort) : x.enc.length = 2 := rfl
theorem GPort.us {w : World} {x : GPort} {bs us} (h0 : TN w x.enc bs us) : us = [.int .i64 x.agent, .int .i64 x.slot] ∧ bs = [] := by
 unfold GPort.enc at h0; obtain ⟨u0, rfl, h1⟩ := TN.v_cons h0; obtain ⟨u1, rfl, h2⟩ := TN.v_cons h1; obtain ⟨rfl, rfl⟩ := TN.end_ h2; exact ⟨rfl, rfl⟩
theorem GPort.mk_ {w : World} {x : GPort}  : TN w x.enc ([]) [.int .i64 x.agent, .int .i64 x.slot] := by
 have h := (show TN w [.v (.int .i64 x.agent), .v (.int .i64 x.slot)] _ _ from TN.v_mk rfl (TN.v_mk rfl (TN.done)))
 try simp only [List.append_nil] at h
 unfold GPort.enc
 first | exact h | simpa only [List.append_assoc] using h
theorem GPort.get_ {w : World} {xs : List GPort} {bs : List Nat} {A : Option Addr} {n n' c : Nat} (h : T1 w (.sl n (xs.flatMap GPort.enc)) bs (.slice A n' c)) (hm : xs.length = n) {k : Nat} (hk : k < n) :
  ∃ (b off : Nat) (x : GPort) , A = some ⟨b, off, none⟩ ∧ b < w.heap.size ∧ Hid (xs[k]? = some x) ∧ w.cell? ⟨b, off + k * 2, none⟩ = some (.int .i64 x.agent) ∧ w.cell? ⟨b, off + k * 2 + 1, none⟩ = some (.int .i64 x.slot) := by
 obtain ⟨_, b, off, p1, p2, p3, us, hA, _, hb, hc, ht⟩ := T1.at_ GPort.enc_len h hm hk; obtain ⟨rfl, _⟩ := GPort.us ht; exact ⟨b, off, xs[k], hA, hb, List.getElem?_eq_getElem (hm ▸ hk), hc 0 _ rfl, hc 1 _ rfl⟩
theorem GPort.ext_ {x y : GPort} (h0 : x.agent = y.agent) (h1 : x.slot = y.slot) : x = y := by
 cases x; cases y; simp_all
def GPort.wt (_x : GPort) : Nat := 0
def GPort.small (_x : GPort) : Prop := True
structure GAgent where
 kind : Int
 level : Int
 value : Int
 data : (List Int)
 ports : (List GPort)
def GAgent.enc (x : GAgent) : List D := [.v (.int .i64 x.kind), .v (.int .i64 x.level), .v (.int .i64 x.value), .sl x.data.length (x.data.flatMap intE), .sl x.ports.length (x.ports.flatMap GPort.enc)]
theorem GAgent.enc_len (x : GAgent) : x.enc.length = 5 := rfl
theorem GAgent.us {w : World} {x : GAgent} {bs us} (h0 : TN w x.enc bs us) : ∃ (A3 : Option Addr) (c3 : Nat) (b3 : List Nat) (A4 : Option Addr) (c4 : Nat) (b4 : List Nat), us = [.int .i64 x.kind, .int .i64 x.level, .int .i64 x.value, .slice A3 x.data.length c3, .slice A4 x.ports.length c4] ∧ bs = b3 ++ b4 ∧ T1 w (.sl x.data.length (x.data.flatMap intE)) b3 (.slice A3 x.data.length c3) ∧ x.data.length ≤ c3 ∧ c3 ≤ maxLen ∧ T1 w (.sl x.ports.length (x.ports.flatMap GPort.enc)) b4 (.slice A4 x.ports.length c4) ∧ x.ports.length ≤ c4 ∧ c4 ≤ maxLen := by
 unfold GAgent.enc at h0; obtain ⟨u0, rfl, h1⟩ := TN.v_cons h0; obtain ⟨u1, rfl, h2⟩ := TN.v_cons h1; obtain ⟨u2, rfl, h3⟩ := TN.v_cons h2; obtain ⟨A3, c3, b3, r3, u3, rfl, rfl, t3, l3, m3, h4⟩ := TN.sl_cons h3; obtain ⟨A4, c4, b4, r4, u4, rfl, rfl, t4, l4, m4, h5⟩ := TN.sl_cons h4; obtain ⟨rfl, rfl⟩ := TN.end_ h5; exact ⟨A3, c3, b3, A4, c4, b4, rfl, by simp, t3, l3, m3, t4, l4, m4⟩
theorem GAgent.mk_ {w : World} {x : GAgent} {A3 c3 b3} (t3 : T1 w (.sl x.data.length (x.data.flatMap intE)) b3 (.slice A3 x.data.length c3)) {A4 c4 b4} (t4 : T1 w (.sl x.ports.length (x.ports.flatMap GPort.enc)) b4 (.slice A4 x.ports.length c4)) : TN w x.enc (b3 ++ b4) [.int .i64 x.kind, .int .i64 x.level, .int .i64 x.value, .slice A3 x.data.length c3, .slice A4 x.ports.length c4] := by
 have h := (show TN w [.v (.int .i64 x.kind), .v (.int .i64 x.level), .v (.int .i64 x.value), .sl x.data.length (x.data.flatMap intE), .sl x.ports.length (x.ports.flatMap GPort.enc)] _ _ from TN.v_mk rfl (TN.v_mk rfl (TN.v_mk rfl (TN.sl_mk t3 (TN.sl_mk t4 (TN.done))))))
 try simp only [List.append_nil] at h
 unfold GAgent.enc
 first | exact h | simpa only [List.append_assoc] using h
theorem GAgent.get_ {w : World} {xs : List GAgent} {bs : List Nat} {A : Option Addr} {n n' c : Nat} (h : T1 w (.sl n (xs.flatMap GAgent.enc)) bs (.slice A n' c)) (hm : xs.length = n) {k : Nat} (hk : k < n) :
  ∃ (b off : Nat) (x : GAgent) (A3 : Option Addr) (c3 : Nat) (b3 : List Nat) (A4 : Option Addr) (c4 : Nat) (b4 : List Nat), A = some ⟨b, off, none⟩ ∧ b < w.heap.size ∧ Hid (xs[k]? = some x) ∧ w.cell? ⟨b, off + k * 5, none⟩ = some (.int .i64 x.kind) ∧ w.cell? ⟨b, off + k * 5 + 1, none⟩ = some (.int .i64 x.level) ∧ w.cell? ⟨b, off + k * 5 + 2, none⟩ = some (.int .i64 x.value) ∧ w.cell? ⟨b, off + k * 5 + 3, none⟩ = some (.slice A3 x.data.length c3) ∧ w.cell? ⟨b, off + k * 5 + 4, none⟩ = some (.slice A4 x.ports.length c4) ∧ T1 w (.sl x.data.length (x.data.flatMap intE)) b3 (.slice A3 x.data.length c3) ∧ x.data.length ≤ c3 ∧ c3 ≤ maxLen ∧ T1 w (.sl x.ports.length (x.ports.flatMap GPort.enc)) b4 (.slice A4 x.ports.length c4) ∧ x.ports.length ≤ c4 ∧ c4 ≤ maxLen := by
 obtain ⟨_, b, off, p1, p2, p3, us, hA, _, hb, hc, ht⟩ := T1.at_ GAgent.enc_len h hm hk; obtain ⟨A3, c3, b3, A4, c4, b4, rfl, _, t3, l3, m3, t4, l4, m4⟩ := GAgent.us ht; exact ⟨b, off, xs[k], A3, c3, b3, A4, c4, b4, hA, hb, List.getElem?_eq_getElem (hm ▸ hk), hc 0 _ rfl, hc 1 _ rfl, hc 2 _ rfl, hc 3 _ rfl, hc 4 _ rfl, t3, l3, m3, t4, l4, m4⟩
theorem GAgent.ext_ {x y : GAgent} (h0 : x.kind = y.kind) (h1 : x.level = y.level) (h2 : x.value = y.value) (h3 : x.data = y.data) (h4 : x.ports = y.ports) : x = y := by
 cases x; cases y; simp_all
def GAgent.wt (x : GAgent) : Nat := wtl (fun _ => 0) x.data + wtl (fun _ => 0) x.ports
def GAgent.small (x : GAgent) : Prop := (x.data.length ≤ 1048576) ∧ (x.ports.length ≤ 1048576 ∧ ∀ y ∈ x.ports, GPort.small y)
structure GNet where
 agents : (List GAgent)
def GNet.enc (x : GNet) : List D := [.sl x.agents.length (x.agents.flatMap GAgent.enc)]
theorem GNet.enc_len (x : GNet) : x.enc.length = 1 := rfl
theorem GNet.us {w : World} {x : GNet} {bs us} (h0 : TN w x.enc bs us) : ∃ (A0 : Option Addr) (c0 : Nat) (b0 : List Nat), us = [.slice A0 x.agents.length c0] ∧ bs = b0 ∧ T1 w (.sl x.agents.length (x.agents.flatMap GAgent.enc)) b0 (.slice A0 x.agents.length c0) ∧ x.agents.length ≤ c0 ∧ c0 ≤ maxLen := by
 unfold GNet.enc at h0; obtain ⟨A0, c0, b0, r0, u0, rfl, rfl, t0, l0, m0, h1⟩ := TN.sl_cons h0; obtain ⟨rfl, rfl⟩ := TN.end_ h1; exact ⟨A0, c0, b0, rfl, by simp, t0, l0, m0⟩
theorem GNet.mk_ {w : World} {x : GNet} {A0 c0 b0} (t0 : T1 w (.sl x.agents.length (x.agents.flatMap GAgent.enc)) b0 (.slice A0 x.agents.length c0)) : TN w x.enc (b0) [.slice A0 x.agents.length c0] := by
 have h := (show TN w [.sl x.agents.length (x.agents.flatMap GAgent.enc)] _ _ from TN.sl_mk t0 (TN.done))
 try simp only [List.append_nil] at h
 unfold GNet.enc
 first | exact h | simpa only [List.append_assoc] using h
theorem GNet.get_ {w : World} {xs : List GNet} {bs : List Nat} {A : Option Addr} {n n' c : Nat} (h : T1 w (.sl n (xs.flatMap GNet.enc)) bs (.slice A n' c)) (hm : xs.length = n) {k : Nat} (hk : k < n) :
  ∃ (b off : Nat) (x : GNet) (A0 : Option Addr) (c0 : Nat) (b0 : List Nat), A = some ⟨b, off, none⟩ ∧ b < w.heap.size ∧ Hid (xs[k]? = some x) ∧ w.cell? ⟨b, off + k, none⟩ = some (.slice A0 x.agents.length c0) ∧ T1 w (.sl x.agents.length (x.agents.flatMap GAgent.enc)) b0 (.slice A0 x.agents.length c0) ∧ x.agents.length ≤ c0 ∧ c0 ≤ maxLen := by
 obtain ⟨_, b, off, p1, p2, p3, us, hA, _, hb, hc, ht⟩ := T1.at_ GNet.enc_len h hm hk; obtain ⟨A0, c0, b0, rfl, _, t0, l0, m0⟩ := GNet.us ht; exact ⟨b, off, xs[k], A0, c0, b0, hA, hb, List.getElem?_eq_getElem (hm ▸ hk), by simpa using hc 0 _ rfl, t0, l0, m0⟩
theorem GNet.ext_ {x y : GNet} (h0 : x.agents = y.agents) : x = y := by
 cases x; cases y; simp_all
def GNet.wt (x : GNet) : Nat := wtl GAgent.wt x.agents
def GNet.small (x : GNet) : Prop := (x.agents.length ≤ 1048576 ∧ ∀ y ∈ x.agents, GAgent.small y)
structure GOrigin where
 step : Int
 def_ : Int
 source : Int
def GOrigin.enc (x : GOrigin) : List D := [.v (.int .i64 x.step), .v (.int .i64 x.def_), .v (.int .i64 x.source)]
theorem GOrigin.enc_len (x : GOrigin) : x.enc.length = 3 := rfl
theorem GOrigin.us {w : World} {x : GOrigin} {bs us} (h0 : TN w x.enc bs us) : us = [.int .i64 x.step, .int .i64 x.def_, .int .i64 x.source] ∧ bs = [] := by
 unfold GOrigin.enc at h0; obtain ⟨u0, rfl, h1⟩ := TN.v_cons h0; obtain ⟨u1, rfl, h2⟩ := TN.v_cons h1; obtain ⟨u2, rfl, h3⟩ := TN.v_cons h2; obtain ⟨rfl, rfl⟩ := TN.end_ h3; exact ⟨rfl, rfl⟩
theorem GOrigin.mk_ {w : World} {x : GOrigin}  : TN w x.enc ([]) [.int .i64 x.step, .int .i64 x.def_, .int .i64 x.source] := by
 have h := (show TN w [.v (.int .i64 x.step), .v (.int .i64 x.def_), .v (.int .i64 x.source)] _ _ from TN.v_mk rfl (TN.v_mk rfl (TN.v_mk rfl (TN.done))))
 try simp only [List.append_nil] at h
 unfold GOrigin.enc
 first | exact h | simpa only [List.append_assoc] using h
theorem GOrigin.get_ {w : World} {xs : List GOrigin} {bs : List Nat} {A : Option Addr} {n n' c : Nat} (h : T1 w (.sl n (xs.flatMap GOrigin.enc)) bs (.slice A n' c)) (hm : xs.length = n) {k : Nat} (hk : k < n) :
  ∃ (b off : Nat) (x : GOrigin) , A = some ⟨b, off, none⟩ ∧ b < w.heap.size ∧ Hid (xs[k]? = some x) ∧ w.cell? ⟨b, off + k * 3, none⟩ = some (.int .i64 x.step) ∧ w.cell? ⟨b, off + k * 3 + 1, none⟩ = some (.int .i64 x.def_) ∧ w.cell? ⟨b, off + k * 3 + 2, none⟩ = some (.int .i64 x.source) := by
 obtain ⟨_, b, off, p1, p2, p3, us, hA, _, hb, hc, ht⟩ := T1.at_ GOrigin.enc_len h hm hk; obtain ⟨rfl, _⟩ := GOrigin.us ht; exact ⟨b, off, xs[k], hA, hb, List.getElem?_eq_getElem (hm ▸ hk), hc 0 _ rfl, hc 1 _ rfl, hc 2 _ rfl⟩
theorem GOrigin.ext_ {x y : GOrigin} (h0 : x.step = y.step) (h1 : x.def_ = y.def_) (h2 : x.source = y.source) : x = y := by
 cases x; cases y; simp_all
def GOrigin.wt (_x : GOrigin) : Nat := 0
def GOrigin.small (_x : GOrigin) : Prop := True
structure GBreak where
 kind : Int
 value : Int
def GBreak.enc (x : GBreak) : List D := [.v (.int .i64 x.kind), .v (.int .i64 x.value)]
theorem GBreak.enc_len (x : GBreak) : x.enc.length = 2 := rfl
theorem GBreak.us {w : World} {x : GBreak} {bs us} (h0 : TN w x.enc bs us) : us = [.int .i64 x.kind, .int .i64 x.value] ∧ bs = [] := by
 unfold GBreak.enc at h0; obtain ⟨u0, rfl, h1⟩ := TN.v_cons h0; obtain ⟨u1, rfl, h2⟩ := TN.v_cons h1; obtain ⟨rfl, rfl⟩ := TN.end_ h2; exact ⟨rfl, rfl⟩
theorem GBreak.mk_ {w : World} {x : GBreak}  : TN w x.enc ([]) [.int .i64 x.kind, .int .i64 x.value] := by
 have h := (show TN w [.v (.int .i64 x.kind), .v (.int .i64 x.value)] _ _ from TN.v_mk rfl (TN.v_mk rfl (TN.done)))
 try simp only [List.append_nil] at h
 unfold GBreak.enc
 first | exact h | simpa only [List.append_assoc] using h
theorem GBreak.get_ {w : World} {xs : List GBreak} {bs : List Nat} {A : Option Addr} {n n' c : Nat} (h : T1 w (.sl n (xs.flatMap GBreak.enc)) bs (.slice A n' c)) (hm : xs.length = n) {k : Nat} (hk : k < n) :
  ∃ (b off : Nat) (x : GBreak) , A = some ⟨b, off, none⟩ ∧ b < w.heap.size ∧ Hid (xs[k]? = some x) ∧ w.cell? ⟨b, off + k * 2, none⟩ = some (.int .i64 x.kind) ∧ w.cell? ⟨b, off + k * 2 + 1, none⟩ = some (.int .i64 x.value) := by
 obtain ⟨_, b, off, p1, p2, p3, us, hA, _, hb, hc, ht⟩ := T1.at_ GBreak.enc_len h hm hk; obtain ⟨rfl, _⟩ := GBreak.us ht; exact ⟨b, off, xs[k], hA, hb, List.getElem?_eq_getElem (hm ▸ hk), hc 0 _ rfl, hc 1 _ rfl⟩
theorem GBreak.ext_ {x y : GBreak} (h0 : x.kind = y.kind) (h1 : x.value = y.value) : x = y := by
 cases x; cases y; simp_all
def GBreak.wt (_x : GBreak) : Nat := 0
def GBreak.small (_x : GBreak) : Prop := True
structure GCheckpoint where
 at_ : Int
 net : GNet
 origins : (List GOrigin)
def GCheckpoint.enc (x : GCheckpoint) : List D := [.v (.int .i64 x.at_), .sl x.net.agents.length (x.net.agents.flatMap GAgent.enc), .sl x.origins.length (x.origins.flatMap GOrigin.enc)]
theorem GCheckpoint.enc_len (x : GCheckpoint) : x.enc.length = 3 := rfl
theorem GCheckpoint.us {w : World} {x : GCheckpoint} {bs us} (h0 : TN w x.enc bs us) : ∃ (A1 : Option Addr) (c1 : Nat) (b1 : List Nat) (A2 : Option Addr) (c2 : Nat) (b2 : List Nat), us = [.int .i64 x.at_, .slice A1 x.net.agents.length c1, .slice A2 x.origins.length c2] ∧ bs = b1 ++ b2 ∧ T1 w (.sl x.net.agents.length (x.net.agents.flatMap GAgent.enc)) b1 (.slice A1 x.net.agents.length c1) ∧ x.net.agents.length ≤ c1 ∧ c1 ≤ maxLen ∧ T1 w (.sl x.origins.length (x.origins.flatMap GOrigin.enc)) b2 (.slice A2 x.origins.length c2) ∧ x.origins.length ≤ c2 ∧ c2 ≤ maxLen := by
 unfold GCheckpoint.enc at h0; obtain ⟨u0, rfl, h1⟩ := TN.v_cons h0; obtain ⟨A1, c1, b1, r1, u1, rfl, rfl, t1, l1, m1, h2⟩ := TN.sl_cons h1; obtain ⟨A2, c2, b2, r2, u2, rfl, rfl, t2, l2, m2, h3⟩ := TN.sl_cons h2; obtain ⟨rfl, rfl⟩ := TN.end_ h3; exact ⟨A1, c1, b1, A2, c2, b2, rfl, by simp, t1, l1, m1, t2, l2, m2⟩
theorem GCheckpoint.mk_ {w : World} {x : GCheckpoint} {A1 c1 b1} (t1 : T1 w (.sl x.net.agents.length (x.net.agents.flatMap GAgent.enc)) b1 (.slice A1 x.net.agents.length c1)) {A2 c2 b2} (t2 : T1 w (.sl x.origins.length (x.origins.flatMap GOrigin.enc)) b2 (.slice A2 x.origins.length c2)) : TN w x.enc (b1 ++ b2) [.int .i64 x.at_, .slice A1 x.net.agents.length c1, .slice A2 x.origins.length c2] := by
 have h := (show TN w [.v (.int .i64 x.at_), .sl x.net.agents.length (x.net.agents.flatMap GAgent.enc), .sl x.origins.length (x.origins.flatMap GOrigin.enc)] _ _ from TN.v_mk rfl (TN.sl_mk t1 (TN.sl_mk t2 (TN.done))))
 try simp only [List.append_nil] at h
 unfold GCheckpoint.enc
 first | exact h | simpa only [List.append_assoc] using h
theorem GCheckpoint.get_ {w : World} {xs : List GCheckpoint} {bs : List Nat} {A : Option Addr} {n n' c : Nat} (h : T1 w (.sl n (xs.flatMap GCheckpoint.enc)) bs (.slice A n' c)) (hm : xs.length = n) {k : Nat} (hk : k < n) :
  ∃ (b off : Nat) (x : GCheckpoint) (A1 : Option Addr) (c1 : Nat) (b1 : List Nat) (A2 : Option Addr) (c2 : Nat) (b2 : List Nat), A = some ⟨b, off, none⟩ ∧ b < w.heap.size ∧ Hid (xs[k]? = some x) ∧ w.cell? ⟨b, off + k * 3, none⟩ = some (.int .i64 x.at_) ∧ w.cell? ⟨b, off + k * 3 + 1, none⟩ = some (.slice A1 x.net.agents.length c1) ∧ w.cell? ⟨b, off + k * 3 + 2, none⟩ = some (.slice A2 x.origins.length c2) ∧ T1 w (.sl x.net.agents.length (x.net.agents.flatMap GAgent.enc)) b1 (.slice A1 x.net.agents.length c1) ∧ x.net.agents.length ≤ c1 ∧ c1 ≤ maxLen ∧ T1 w (.sl x.origins.length (x.origins.flatMap GOrigin.enc)) b2 (.slice A2 x.origins.length c2) ∧ x.origins.length ≤ c2 ∧ c2 ≤ maxLen := by
 obtain ⟨_, b, off, p1, p2, p3, us, hA, _, hb, hc, ht⟩ := T1.at_ GCheckpoint.enc_len h hm hk; obtain ⟨A1, c1, b1, A2, c2, b2, rfl, _, t1, l1, m1, t2, l2, m2⟩ := GCheckpoint.us ht; exact ⟨b, off, xs[k], A1, c1, b1, A2, c2, b2, hA, hb, List.getElem?_eq_getElem (hm ▸ hk), hc 0 _ rfl, hc 1 _ rfl, hc 2 _ rfl, t1, l1, m1, t2, l2, m2⟩
theorem GCheckpoint.ext_ {x y : GCheckpoint} (h0 : x.at_ = y.at_) (h1 : x.net = y.net) (h2 : x.origins = y.origins) : x = y := by
 cases x; cases y; simp_all
def GCheckpoint.wt (x : GCheckpoint) : Nat := x.net.wt + wtl (fun _ => 0) x.origins
def GCheckpoint.small (x : GCheckpoint) : Prop := (x.net.small) ∧ (x.origins.length ≤ 1048576 ∧ ∀ y ∈ x.origins, GOrigin.small y)
structure GDebugger where
 book : (List GNet)
 schedule : (List Int)
 every : Int
 at_ : Int
 net : GNet
 origins : (List GOrigin)
 breaks : (List GBreak)
 points : (List GCheckpoint)
def GDebugger.enc (x : GDebugger) : List D := [.sl x.book.length (x.book.flatMap GNet.enc), .sl x.schedule.length (x.schedule.flatMap intE), .v (.int .i64 x.every), .v (.int .i64 x.at_), .sl x.net.agents.length (x.net.agents.flatMap GAgent.enc), .sl x.origins.length (x.origins.flatMap GOrigin.enc), .sl x.breaks.length (x.breaks.flatMap GBreak.enc), .sl x.points.length (x.points.flatMap GCheckpoint.enc)]
theorem GDebugger.enc_len (x : GDebugger) : x.enc.length = 8 := rfl
theorem GDebugger.us {w : World} {x : GDebugger} {bs us} (h0 : TN w x.enc bs us) : ∃ (A0 : Option Addr) (c0 : Nat) (b0 : List Nat) (A1 : Option Addr) (c1 : Nat) (b1 : List Nat) (A4 : Option Addr) (c4 : Nat) (b4 : List Nat) (A5 : Option Addr) (c5 : Nat) (b5 : List Nat) (A6 : Option Addr) (c6 : Nat) (b6 : List Nat) (A7 : Option Addr) (c7 : Nat) (b7 : List Nat), us = [.slice A0 x.book.length c0, .slice A1 x.schedule.length c1, .int .i64 x.every, .int .i64 x.at_, .slice A4 x.net.agents.length c4, .slice A5 x.origins.length c5, .slice A6 x.breaks.length c6, .slice A7 x.points.length c7] ∧ bs = b0 ++ b1 ++ b4 ++ b5 ++ b6 ++ b7 ∧ T1 w (.sl x.book.length (x.book.flatMap GNet.enc)) b0 (.slice A0 x.book.length c0) ∧ x.book.length ≤ c0 ∧ c0 ≤ maxLen ∧ T1 w (.sl x.schedule.length (x.schedule.flatMap intE)) b1 (.slice A1 x.schedule.length c1) ∧ x.schedule.length ≤ c1 ∧ c1 ≤ maxLen ∧ T1 w (.sl x.net.agents.length (x.net.agents.flatMap GAgent.enc)) b4 (.slice A4 x.net.agents.length c4) ∧ x.net.agents.length ≤ c4 ∧ c4 ≤ maxLen ∧ T1 w (.sl x.origins.length (x.origins.flatMap GOrigin.enc)) b5 (.slice A5 x.origins.length c5) ∧ x.origins.length ≤ c5 ∧ c5 ≤ maxLen ∧ T1 w (.sl x.breaks.length (x.breaks.flatMap GBreak.enc)) b6 (.slice A6 x.breaks.length c6) ∧ x.breaks.length ≤ c6 ∧ c6 ≤ maxLen ∧ T1 w (.sl x.points.length (x.points.flatMap GCheckpoint.enc)) b7 (.slice A7 x.points.length c7) ∧ x.points.length ≤ c7 ∧ c7 ≤ maxLen := by
 unfold GDebugger.enc at h0; obtain ⟨A0, c0, b0, r0, u0, rfl, rfl, t0, l0, m0, h1⟩ := TN.sl_cons h0; obtain ⟨A1, c1, b1, r1, u1, rfl, rfl, t1, l1, m1, h2⟩ := TN.sl_cons h1; obtain ⟨u2, rfl, h3⟩ := TN.v_cons h2; obtain ⟨u3, rfl, h4⟩ := TN.v_cons h3; obtain ⟨A4, c4, b4, r4, u4, rfl, rfl, t4, l4, m4, h5⟩ := TN.sl_cons h4; obtain ⟨A5, c5, b5, r5, u5, rfl, rfl, t5, l5, m5, h6⟩ := TN.sl_cons h5; obtain ⟨A6, c6, b6, r6, u6, rfl, rfl, t6, l6, m6, h7⟩ := TN.sl_cons h6; obtain ⟨A7, c7, b7, r7, u7, rfl, rfl, t7, l7, m7, h8⟩ := TN.sl_cons h7; obtain ⟨rfl, rfl⟩ := TN.end_ h8; exact ⟨A0, c0, b0, A1, c1, b1, A4, c4, b4, A5, c5, b5, A6, c6, b6, A7, c7, b7, rfl, by simp, t0, l0, m0, t1, l1, m1, t4, l4, m4, t5, l5, m5, t6, l6, m6, t7, l7, m7⟩
theorem GDebugger.mk_ {w : World} {x : GDebugger} {A0 c0 b0} (t0 : T1 w (.sl x.book.length (x.book.flatMap GNet.enc)) b0 (.slice A0 x.book.length c0)) {A1 c1 b1} (t1 : T1 w (.sl x.schedule.length (x.schedule.flatMap intE)) b1 (.slice A1 x.schedule.length c1)) {A4 c4 b4} (t4 : T1 w (.sl x.net.agents.length (x.net.agents.flatMap GAgent.enc)) b4 (.slice A4 x.net.agents.length c4)) {A5 c5 b5} (t5 : T1 w (.sl x.origins.length (x.origins.flatMap GOrigin.enc)) b5 (.slice A5 x.origins.length c5)) {A6 c6 b6} (t6 : T1 w (.sl x.breaks.length (x.breaks.flatMap GBreak.enc)) b6 (.slice A6 x.breaks.length c6)) {A7 c7 b7} (t7 : T1 w (.sl x.points.length (x.points.flatMap GCheckpoint.enc)) b7 (.slice A7 x.points.length c7)) : TN w x.enc (b0 ++ b1 ++ b4 ++ b5 ++ b6 ++ b7) [.slice A0 x.book.length c0, .slice A1 x.schedule.length c1, .int .i64 x.every, .int .i64 x.at_, .slice A4 x.net.agents.length c4, .slice A5 x.origins.length c5, .slice A6 x.breaks.length c6, .slice A7 x.points.length c7] := by
 have h := (show TN w [.sl x.book.length (x.book.flatMap GNet.enc), .sl x.schedule.length (x.schedule.flatMap intE), .v (.int .i64 x.every), .v (.int .i64 x.at_), .sl x.net.agents.length (x.net.agents.flatMap GAgent.enc), .sl x.origins.length (x.origins.flatMap GOrigin.enc), .sl x.breaks.length (x.breaks.flatMap GBreak.enc), .sl x.points.length (x.points.flatMap GCheckpoint.enc)] _ _ from TN.sl_mk t0 (TN.sl_mk t1 (TN.v_mk rfl (TN.v_mk rfl (TN.sl_mk t4 (TN.sl_mk t5 (TN.sl_mk t6 (TN.sl_mk t7 (TN.done)))))))))
 try simp only [List.append_nil] at h
 unfold GDebugger.enc
 first | exact h | simpa only [List.append_assoc] using h
theorem GDebugger.get_ {w : World} {xs : List GDebugger} {bs : List Nat} {A : Option Addr} {n n' c : Nat} (h : T1 w (.sl n (xs.flatMap GDebugger.enc)) bs (.slice A n' c)) (hm : xs.length = n) {k : Nat} (hk : k < n) :
  ∃ (b off : Nat) (x : GDebugger) (A0 : Option Addr) (c0 : Nat) (b0 : List Nat) (A1 : Option Addr) (c1 : Nat) (b1 : List Nat) (A4 : Option Addr) (c4 : Nat) (b4 : List Nat) (A5 : Option Addr) (c5 : Nat) (b5 : List Nat) (A6 : Option Addr) (c6 : Nat) (b6 : List Nat) (A7 : Option Addr) (c7 : Nat) (b7 : List Nat), A = some ⟨b, off, none⟩ ∧ b < w.heap.size ∧ Hid (xs[k]? = some x) ∧ w.cell? ⟨b, off + k * 8, none⟩ = some (.slice A0 x.book.length c0) ∧ w.cell? ⟨b, off + k * 8 + 1, none⟩ = some (.slice A1 x.schedule.length c1) ∧ w.cell? ⟨b, off + k * 8 + 2, none⟩ = some (.int .i64 x.every) ∧ w.cell? ⟨b, off + k * 8 + 3, none⟩ = some (.int .i64 x.at_) ∧ w.cell? ⟨b, off + k * 8 + 4, none⟩ = some (.slice A4 x.net.agents.length c4) ∧ w.cell? ⟨b, off + k * 8 + 5, none⟩ = some (.slice A5 x.origins.length c5) ∧ w.cell? ⟨b, off + k * 8 + 6, none⟩ = some (.slice A6 x.breaks.length c6) ∧ w.cell? ⟨b, off + k * 8 + 7, none⟩ = some (.slice A7 x.points.length c7) ∧ T1 w (.sl x.book.length (x.book.flatMap GNet.enc)) b0 (.slice A0 x.book.length c0) ∧ x.book.length ≤ c0 ∧ c0 ≤ maxLen ∧ T1 w (.sl x.schedule.length (x.schedule.flatMap intE)) b1 (.slice A1 x.schedule.length c1) ∧ x.schedule.length ≤ c1 ∧ c1 ≤ maxLen ∧ T1 w (.sl x.net.agents.length (x.net.agents.flatMap GAgent.enc)) b4 (.slice A4 x.net.agents.length c4) ∧ x.net.agents.length ≤ c4 ∧ c4 ≤ maxLen ∧ T1 w (.sl x.origins.length (x.origins.flatMap GOrigin.enc)) b5 (.slice A5 x.origins.length c5) ∧ x.origins.length ≤ c5 ∧ c5 ≤ maxLen ∧ T1 w (.sl x.breaks.length (x.breaks.flatMap GBreak.enc)) b6 (.slice A6 x.breaks.length c6) ∧ x.breaks.length ≤ c6 ∧ c6 ≤ maxLen ∧ T1 w (.sl x.points.length (x.points.flatMap GCheckpoint.enc)) b7 (.slice A7 x.points.length c7) ∧ x.points.length ≤ c7 ∧ c7 ≤ maxLen := by
 obtain ⟨_, b, off, p1, p2, p3, us, hA, _, hb, hc, ht⟩ := T1.at_ GDebugger.enc_len h hm hk; obtain ⟨A0, c0, b0, A1, c1, b1, A4, c4, b4, A5, c5, b5, A6, c6, b6, A7, c7, b7, rfl, _, t0, l0, m0, t1, l1, m1, t4, l4, m4, t5, l5, m5, t6, l6, m6, t7, l7, m7⟩ := GDebugger.us ht; exact ⟨b, off, xs[k], A0, c0, b0, A1, c1, b1, A4, c4, b4, A5, c5, b5, A6, c6, b6, A7, c7, b7, hA, hb, List.getElem?_eq_getElem (hm ▸ hk), hc 0 _ rfl, hc 1 _ rfl, hc 2 _ rfl, hc 3 _ rfl, hc 4 _ rfl, hc 5 _ rfl, hc 6 _ rfl, hc 7 _ rfl, t0, l0, m0, t1, l1, m1, t4, l4, m4, t5, l5, m5, t6, l6, m6, t7, l7, m7⟩
theorem GDebugger.ext_ {x y : GDebugger} (h0 : x.book = y.book) (h1 : x.schedule = y.schedule) (h2 : x.every = y.every) (h3 : x.at_ = y.at_) (h4 : x.net = y.net) (h5 : x.origins = y.origins) (h6 : x.breaks = y.breaks) (h7 : x.points = y.points) : x = y := by
 cases x; cases y; simp_all
def GDebugger.wt (x : GDebugger) : Nat := wtl GNet.wt x.book + wtl (fun _ => 0) x.schedule + x.net.wt + wtl (fun _ => 0) x.origins + wtl (fun _ => 0) x.breaks + wtl GCheckpoint.wt x.points
def GDebugger.small (x : GDebugger) : Prop := (x.book.length ≤ 1048576 ∧ ∀ y ∈ x.book, GNet.small y) ∧ (x.schedule.length ≤ 1048576) ∧ (x.net.small) ∧ (x.origins.length ≤ 1048576 ∧ ∀ y ∈ x.origins, GOrigin.small y) ∧ (x.breaks.length ≤ 1048576 ∧ ∀ y ∈ x.breaks, GBreak.small y) ∧ (x.points.length ≤ 1048576 ∧ ∀ y ∈ x.points, GCheckpoint.small y)
theorem GPort.pt {w : World} {x : GPort} {b o bs} (h : PtAt w b o x.enc bs) : Kn w b (o) (.int .i64 x.agent) ∧ Kn w b (o + 1) (.int .i64 x.slot) := by
 obtain ⟨hlt, us, hc, ht⟩ := h; obtain ⟨rfl, rfl⟩ := GPort.us ht; exact ⟨hc.always hlt 0 _ rfl, hc.always hlt 1 _ rfl⟩
theorem GAgent.pt {w : World} {x : GAgent} {b o bs} (h : PtAt w b o x.enc bs) : ∃ (A3 : Option Addr) (c3 : Nat) (b3 : List Nat) (A4 : Option Addr) (c4 : Nat) (b4 : List Nat), Kn w b (o) (.int .i64 x.kind) ∧ Kn w b (o + 1) (.int .i64 x.level) ∧ Kn w b (o + 2) (.int .i64 x.value) ∧ Kn w b (o + 3) (.slice A3 x.data.length c3) ∧ Kn w b (o + 4) (.slice A4 x.ports.length c4) ∧ T1 w (.sl x.data.length (x.data.flatMap intE)) b3 (.slice A3 x.data.length c3) ∧ T1 w (.sl x.ports.length (x.ports.flatMap GPort.enc)) b4 (.slice A4 x.ports.length c4) := by
 obtain ⟨hlt, us, hc, ht⟩ := h; obtain ⟨A3, c3, b3, A4, c4, b4, rfl, rfl, t3, l3, m3, t4, l4, m4⟩ := GAgent.us ht; exact ⟨_, _, _, _, _, _, hc.always hlt 0 _ rfl, hc.always hlt 1 _ rfl, hc.always hlt 2 _ rfl, hc.always hlt 3 _ rfl, hc.always hlt 4 _ rfl, t3, t4⟩
theorem GNet.pt {w : World} {x : GNet} {b o bs} (h : PtAt w b o x.enc bs) : ∃ (A0 : Option Addr) (c0 : Nat) (b0 : List Nat), Kn w b (o) (.slice A0 x.agents.length c0) ∧ T1 w (.sl x.agents.length (x.agents.flatMap GAgent.enc)) b0 (.slice A0 x.agents.length c0) := by
 obtain ⟨hlt, us, hc, ht⟩ := h; obtain ⟨A0, c0, b0, rfl, rfl, t0, l0, m0⟩ := GNet.us ht; exact ⟨_, _, _, hc.always hlt 0 _ rfl, t0⟩
theorem GOrigin.pt {w : World} {x : GOrigin} {b o bs} (h : PtAt w b o x.enc bs) : Kn w b (o) (.int .i64 x.step) ∧ Kn w b (o + 1) (.int .i64 x.def_) ∧ Kn w b (o + 2) (.int .i64 x.source) := by
 obtain ⟨hlt, us, hc, ht⟩ := h; obtain ⟨rfl, rfl⟩ := GOrigin.us ht; exact ⟨hc.always hlt 0 _ rfl, hc.always hlt 1 _ rfl, hc.always hlt 2 _ rfl⟩
theorem GBreak.pt {w : World} {x : GBreak} {b o bs} (h : PtAt w b o x.enc bs) : Kn w b (o) (.int .i64 x.kind) ∧ Kn w b (o + 1) (.int .i64 x.value) := by
 obtain ⟨hlt, us, hc, ht⟩ := h; obtain ⟨rfl, rfl⟩ := GBreak.us ht; exact ⟨hc.always hlt 0 _ rfl, hc.always hlt 1 _ rfl⟩
theorem GCheckpoint.pt {w : World} {x : GCheckpoint} {b o bs} (h : PtAt w b o x.enc bs) : ∃ (A1 : Option Addr) (c1 : Nat) (b1 : List Nat) (A2 : Option Addr) (c2 : Nat) (b2 : List Nat), Kn w b (o) (.int .i64 x.at_) ∧ Kn w b (o + 1) (.slice A1 x.net.agents.length c1) ∧ Kn w b (o + 2) (.slice A2 x.origins.length c2) ∧ T1 w (.sl x.net.agents.length (x.net.agents.flatMap GAgent.enc)) b1 (.slice A1 x.net.agents.length c1) ∧ T1 w (.sl x.origins.length (x.origins.flatMap GOrigin.enc)) b2 (.slice A2 x.origins.length c2) := by
 obtain ⟨hlt, us, hc, ht⟩ := h; obtain ⟨A1, c1, b1, A2, c2, b2, rfl, rfl, t1, l1, m1, t2, l2, m2⟩ := GCheckpoint.us ht; exact ⟨_, _, _, _, _, _, hc.always hlt 0 _ rfl, hc.always hlt 1 _ rfl, hc.always hlt 2 _ rfl, t1, t2⟩
theorem GDebugger.pt {w : World} {x : GDebugger} {b o bs} (h : PtAt w b o x.enc bs) : ∃ (A0 : Option Addr) (c0 : Nat) (b0 : List Nat) (A1 : Option Addr) (c1 : Nat) (b1 : List Nat) (A4 : Option Addr) (c4 : Nat) (b4 : List Nat) (A5 : Option Addr) (c5 : Nat) (b5 : List Nat) (A6 : Option Addr) (c6 : Nat) (b6 : List Nat) (A7 : Option Addr) (c7 : Nat) (b7 : List Nat), Kn w b (o) (.slice A0 x.book.length c0) ∧ Kn w b (o + 1) (.slice A1 x.schedule.length c1) ∧ Kn w b (o + 2) (.int .i64 x.every) ∧ Kn w b (o + 3) (.int .i64 x.at_) ∧ Kn w b (o + 4) (.slice A4 x.net.agents.length c4) ∧ Kn w b (o + 5) (.slice A5 x.origins.length c5) ∧ Kn w b (o + 6) (.slice A6 x.breaks.length c6) ∧ Kn w b (o + 7) (.slice A7 x.points.length c7) ∧ T1 w (.sl x.book.length (x.book.flatMap GNet.enc)) b0 (.slice A0 x.book.length c0) ∧ T1 w (.sl x.schedule.length (x.schedule.flatMap intE)) b1 (.slice A1 x.schedule.length c1) ∧ T1 w (.sl x.net.agents.length (x.net.agents.flatMap GAgent.enc)) b4 (.slice A4 x.net.agents.length c4) ∧ T1 w (.sl x.origins.length (x.origins.flatMap GOrigin.enc)) b5 (.slice A5 x.origins.length c5) ∧ T1 w (.sl x.breaks.length (x.breaks.flatMap GBreak.enc)) b6 (.slice A6 x.breaks.length c6) ∧ T1 w (.sl x.points.length (x.points.flatMap GCheckpoint.enc)) b7 (.slice A7 x.points.length c7) := by
 obtain ⟨hlt, us, hc, ht⟩ := h; obtain ⟨A0, c0, b0, A1, c1, b1, A4, c4, b4, A5, c5, b5, A6, c6, b6, A7, c7, b7, rfl, rfl, t0, l0, m0, t1, l1, m1, t4, l4, m4, t5, l5, m5, t6, l6, m6, t7, l7, m7⟩ := GDebugger.us ht; exact ⟨_, _, _, _, _, _, _, _, _, _, _, _, _, _, _, _, _, _, hc.always hlt 0 _ rfl, hc.always hlt 1 _ rfl, hc.always hlt 2 _ rfl, hc.always hlt 3 _ rfl, hc.always hlt 4 _ rfl, hc.always hlt 5 _ rfl, hc.always hlt 6 _ rfl, hc.always hlt 7 _ rfl, t0, t1, t4, t5, t6, t7⟩
theorem GPort.pt0 {w : World} {x : GPort} {b bs} (h : PtAt w b 0 x.enc bs) : Kn w b 0 (.int .i64 x.agent) ∧ Kn w b 1 (.int .i64 x.slot) := by
 have := GPort.pt h; simpa only [Nat.zero_add] using this
theorem GAgent.pt0 {w : World} {x : GAgent} {b bs} (h : PtAt w b 0 x.enc bs) : ∃ (A3 : Option Addr) (c3 : Nat) (b3 : List Nat) (A4 : Option Addr) (c4 : Nat) (b4 : List Nat), Kn w b 0 (.int .i64 x.kind) ∧ Kn w b 1 (.int .i64 x.level) ∧ Kn w b 2 (.int .i64 x.value) ∧ Kn w b 3 (.slice A3 x.data.length c3) ∧ Kn w b 4 (.slice A4 x.ports.length c4) ∧ T1 w (.sl x.data.length (x.data.flatMap intE)) b3 (.slice A3 x.data.length c3) ∧ T1 w (.sl x.ports.length (x.ports.flatMap GPort.enc)) b4 (.slice A4 x.ports.length c4) := by
 have := GAgent.pt h; simpa only [Nat.zero_add] using this
theorem GNet.pt0 {w : World} {x : GNet} {b bs} (h : PtAt w b 0 x.enc bs) : ∃ (A0 : Option Addr) (c0 : Nat) (b0 : List Nat), Kn w b 0 (.slice A0 x.agents.length c0) ∧ T1 w (.sl x.agents.length (x.agents.flatMap GAgent.enc)) b0 (.slice A0 x.agents.length c0) := by
 have := GNet.pt h; simpa only [Nat.zero_add] using this
theorem GOrigin.pt0 {w : World} {x : GOrigin} {b bs} (h : PtAt w b 0 x.enc bs) : Kn w b 0 (.int .i64 x.step) ∧ Kn w b 1 (.int .i64 x.def_) ∧ Kn w b 2 (.int .i64 x.source) := by
 have := GOrigin.pt h; simpa only [Nat.zero_add] using this
theorem GBreak.pt0 {w : World} {x : GBreak} {b bs} (h : PtAt w b 0 x.enc bs) : Kn w b 0 (.int .i64 x.kind) ∧ Kn w b 1 (.int .i64 x.value) := by
 have := GBreak.pt h; simpa only [Nat.zero_add] using this
theorem GCheckpoint.pt0 {w : World} {x : GCheckpoint} {b bs} (h : PtAt w b 0 x.enc bs) : ∃ (A1 : Option Addr) (c1 : Nat) (b1 : List Nat) (A2 : Option Addr) (c2 : Nat) (b2 : List Nat), Kn w b 0 (.int .i64 x.at_) ∧ Kn w b 1 (.slice A1 x.net.agents.length c1) ∧ Kn w b 2 (.slice A2 x.origins.length c2) ∧ T1 w (.sl x.net.agents.length (x.net.agents.flatMap GAgent.enc)) b1 (.slice A1 x.net.agents.length c1) ∧ T1 w (.sl x.origins.length (x.origins.flatMap GOrigin.enc)) b2 (.slice A2 x.origins.length c2) := by
 have := GCheckpoint.pt h; simpa only [Nat.zero_add] using this
theorem GDebugger.pt0 {w : World} {x : GDebugger} {b bs} (h : PtAt w b 0 x.enc bs) : ∃ (A0 : Option Addr) (c0 : Nat) (b0 : List Nat) (A1 : Option Addr) (c1 : Nat) (b1 : List Nat) (A4 : Option Addr) (c4 : Nat) (b4 : List Nat) (A5 : Option Addr) (c5 : Nat) (b5 : List Nat) (A6 : Option Addr) (c6 : Nat) (b6 : List Nat) (A7 : Option Addr) (c7 : Nat) (b7 : List Nat), Kn w b 0 (.slice A0 x.book.length c0) ∧ Kn w b 1 (.slice A1 x.schedule.length c1) ∧ Kn w b 2 (.int .i64 x.every) ∧ Kn w b 3 (.int .i64 x.at_) ∧ Kn w b 4 (.slice A4 x.net.agents.length c4) ∧ Kn w b 5 (.slice A5 x.origins.length c5) ∧ Kn w b 6 (.slice A6 x.breaks.length c6) ∧ Kn w b 7 (.slice A7 x.points.length c7) ∧ T1 w (.sl x.book.length (x.book.flatMap GNet.enc)) b0 (.slice A0 x.book.length c0) ∧ T1 w (.sl x.schedule.length (x.schedule.flatMap intE)) b1 (.slice A1 x.schedule.length c1) ∧ T1 w (.sl x.net.agents.length (x.net.agents.flatMap GAgent.enc)) b4 (.slice A4 x.net.agents.length c4) ∧ T1 w (.sl x.origins.length (x.origins.flatMap GOrigin.enc)) b5 (.slice A5 x.origins.length c5) ∧ T1 w (.sl x.breaks.length (x.breaks.flatMap GBreak.enc)) b6 (.slice A6 x.breaks.length c6) ∧ T1 w (.sl x.points.length (x.points.flatMap GCheckpoint.enc)) b7 (.slice A7 x.points.length c7) := by
 have := GDebugger.pt h; simpa only [Nat.zero_add] using this
end Go.Tr
namespace Go.Tr
def GPort.cells (p : GPort) : List Value := [.int .i64 p.agent, .int .i64 p.slot]
end Go.Tr
namespace Go.Tr
open Go Go.RowKit
theorem _root_.Go.Calls.q {P : Program} {f : FuncId} {args : Array Value} {W : World} {v : Value} (h : Calls P f args W fun e w' => e = .returned v ∧ W = w') : Calls P f args W fun e w' => e = .returned v ∧ Ext W w' :=
 h.mono fun _ _ ⟨a, b⟩ => ⟨a, b ▸ Below.refl _ _⟩
def fieldsK (k p : Int) : Int := if k == 9 then p - 1 else 0
def fieldsOf (a : GAgent) : Int := fieldsK a.kind a.ports.length
def defB (n : Int) : Bool := inB n 0 23
def intB (n : Int) : Bool := inB n (-2147483648) 2147483647
def operB (n : Int) : Bool := inB n 1 6
def intAt (l : List Int) (k : Nat) : Int := l.getD k 0
theorem intAt_of {l : List Int} {k : Nat} {x : Int} (h : Hid (l[k]? = some x)) : intAt l k = x := by unfold intAt; rw [List.getD_eq_getElem?_getD, h.out]; rfl
def defsB (l : List Int) : Bool := allTo l.length fun k => defB (intAt l k)
def contentB (a : GAgent) : Bool :=
 if a.kind == 6 then ((a.data.length : Int) == 0) && intB a.value
 else if a.kind == 7 then ((a.data.length : Int) == 0) && operB a.value
 else if a.kind == 8 then ((a.data.length : Int) == 1) && operB a.value && intB (intAt a.data 0)
 else if a.kind == 9 then ((a.data.length : Int) == 0) && inB a.value 0 3
 else if a.kind == 12 then ((a.data.length : Int) == 0) && defB a.value
 else if a.kind == 10 then a.value == 0 && inB a.data.length 1 4 && defsB a.data
 else if a.kind == 11 then a.value == 0 && ((a.data.length : Int) == 2) && defsB a.data
 else a.value == 0 && ((a.data.length : Int) == 0)
def agentB (a : GAgent) : Bool := decide (0 < portsOf a.kind (fieldsOf a)) && (a.ports.length : Int) == portsOf a.kind (fieldsOf a) && allowB a.kind a.level && contentB a
def nilAgent : GAgent := ⟨0, 0, 0, [], []⟩
def nilPort : GPort := ⟨0, 0⟩
def agentAt (l : List GAgent) (k : Nat) : GAgent := l.getD k nilAgent
def portAt (l : List GPort) (k : Nat) : GPort := l.getD k nilPort
theorem getD_of {α : Type} {l : List α} {k : Nat} {x d : α} (h : Hid (l[k]? = some x)) : l.getD k d = x := by rw [List.getD_eq_getElem?_getD, h.out]; rfl
theorem agentAt_of {l : List GAgent} {k : Nat} {x : GAgent} (h : Hid (l[k]? = some x)) : agentAt l k = x := getD_of h
theorem portAt_of {l : List GPort} {k : Nat} {x : GPort} (h : Hid (l[k]? = some x)) : portAt l k = x := getD_of h
def agentOk (l : List GAgent) (k : Nat) : Bool := agentB (agentAt l k) && ((agentAt l k).kind == 1) == ((k : Int) == 0)
def agentsB (l : List GAgent) : Bool := inB l.length 1 600 && allTo l.length (agentOk l)
def portIn (l : List GAgent) (p : GPort) : Bool := inB p.agent 0 ((l.length : Int) - 1) && inB p.slot 0 (((agentAt l p.agent.toNat).ports.length : Int) - 1)
def peerOf (l : List GAgent) (p : GPort) : GPort := portAt (agentAt l p.agent.toNat).ports p.slot.toNat
noncomputable def wireB (l : List GAgent) (me p : GPort) : Bool := !eqb p me && portIn l p && eqb (peerOf l p) me
noncomputable def wiresOk (l : List GAgent) (i : Nat) : Bool := allTo (agentAt l i).ports.length fun k => wireB l ⟨i, k⟩ (portAt (agentAt l i).ports k)
noncomputable def netB (n : GNet) : Bool := agentsB n.agents && allTo n.agents.length (wiresOk n.agents)
theorem portIn_t {l : List GAgent} {p : GPort} (h : portIn l p = true) : ∃ (i k : Nat) (a : GAgent) (q : GPort), p = ⟨i, k⟩ ∧ i < l.length ∧ Hid (l[i]? = some a) ∧ k < a.ports.length ∧ Hid (a.ports[k]? = some q) ∧ peerOf l p = q := by
 unfold portIn at h; rw [Bool.and_eq_true] at h; obtain ⟨h1, h2⟩ := h; have h1 := inB_t h1; have h2 := inB_t h2; obtain ⟨pa, ps⟩ := p; simp only at h1 h2; obtain ⟨i, rfl⟩ := Int.eq_ofNat_of_zero_le h1.1; obtain ⟨k, rfl⟩ := Int.eq_ofNat_of_zero_le h2.1; have hi : i < l.length := by omega
 have ha : Hid (l[i]? = some l[i]) := List.getElem?_eq_getElem hi; rw [Int.toNat_natCast, agentAt_of ha] at h2; have hk : k < (l[i]).ports.length := by omega
 have hq : Hid ((l[i]).ports[k]? = some (l[i]).ports[k]) := List.getElem?_eq_getElem hk; refine ⟨i, k, l[i], _, rfl, hi, ha, hk, hq, ?_⟩; unfold peerOf; rw [Int.toNat_natCast, Int.toNat_natCast, agentAt_of ha, portAt_of hq]
def nilNet : GNet := ⟨[]⟩
def netAt (l : List GNet) (k : Nat) : GNet := l.getD k nilNet
theorem netAt_of {l : List GNet} {k : Nat} {x : GNet} (h : Hid (l[k]? = some x)) : netAt l k = x := getD_of h
noncomputable def bookB (l : List GNet) : Bool := decide ((l.length : Int) ≤ 24) && allTo l.length fun k => netB (netAt l k)
end Go.Tr
