/- Data of the program as structures, and how they lie in memory. No program in it. Printed by gen_fam.py. -/
import Derived.Test.YthelpioccjjgfaaData
set_option linter.unusedSimpArgs false
set_option linter.unusedVariables false
namespace Go.Tr
open Go Go.RowKit

structure GDequeActor where
  todo : (List Int)
  pc : Int
  t : Int
  b : Int
  x : Int

def GDequeActor.enc (x : GDequeActor) : List D := [.sl x.todo.length (x.todo.flatMap intE), .v (.int .i64 x.pc), .v (.int .i64 x.t), .v (.int .i64 x.b), .v (.int .i64 x.x)]
theorem GDequeActor.enc_len (x : GDequeActor) : x.enc.length = 5 := rfl
theorem GDequeActor.us {w : World} {x : GDequeActor} {bs us} (h0 : TN w x.enc bs us) : ∃ (A0 : Option Addr) (c0 : Nat) (b0 : List Nat), us = [.slice A0 x.todo.length c0, .int .i64 x.pc, .int .i64 x.t, .int .i64 x.b, .int .i64 x.x] ∧ bs = b0 ∧ T1 w (.sl x.todo.length (x.todo.flatMap intE)) b0 (.slice A0 x.todo.length c0) ∧ x.todo.length ≤ c0 ∧ c0 ≤ maxLen := by
  unfold GDequeActor.enc at h0
  obtain ⟨A0, c0, b0, r0, u0, rfl, rfl, t0, l0, m0, h1⟩ := TN.sl_cons h0
  obtain ⟨u1, rfl, h2⟩ := TN.v_cons h1
  obtain ⟨u2, rfl, h3⟩ := TN.v_cons h2
  obtain ⟨u3, rfl, h4⟩ := TN.v_cons h3
  obtain ⟨u4, rfl, h5⟩ := TN.v_cons h4
  obtain ⟨rfl, rfl⟩ := TN.end_ h5
  exact ⟨A0, c0, b0, rfl, by simp, t0, l0, m0⟩

theorem GDequeActor.mk_ {w : World} {x : GDequeActor} {A0 c0 b0} (t0 : T1 w (.sl x.todo.length (x.todo.flatMap intE)) b0 (.slice A0 x.todo.length c0)) : TN w x.enc (b0) [.slice A0 x.todo.length c0, .int .i64 x.pc, .int .i64 x.t, .int .i64 x.b, .int .i64 x.x] := by
  have h := (show TN w [.sl x.todo.length (x.todo.flatMap intE), .v (.int .i64 x.pc), .v (.int .i64 x.t), .v (.int .i64 x.b), .v (.int .i64 x.x)] _ _ from TN.sl_mk t0 (TN.v_mk rfl (TN.v_mk rfl (TN.v_mk rfl (TN.v_mk rfl (TN.done))))))
  try simp only [List.append_nil] at h
  unfold GDequeActor.enc
  first | exact h | simpa only [List.append_assoc] using h

theorem GDequeActor.get_ {w : World} {xs : List GDequeActor} {bs : List Nat} {A : Option Addr} {n n' c : Nat} (h : T1 w (.sl n (xs.flatMap GDequeActor.enc)) bs (.slice A n' c)) (hm : xs.length = n) {k : Nat} (hk : k < n) :
    ∃ (b off : Nat) (x : GDequeActor) (A0 : Option Addr) (c0 : Nat) (b0 : List Nat), A = some ⟨b, off, none⟩ ∧ b < w.heap.size ∧ Hid (xs[k]? = some x) ∧ w.cell? ⟨b, off + k * 5, none⟩ = some (.slice A0 x.todo.length c0) ∧ w.cell? ⟨b, off + k * 5 + 1, none⟩ = some (.int .i64 x.pc) ∧ w.cell? ⟨b, off + k * 5 + 2, none⟩ = some (.int .i64 x.t) ∧ w.cell? ⟨b, off + k * 5 + 3, none⟩ = some (.int .i64 x.b) ∧ w.cell? ⟨b, off + k * 5 + 4, none⟩ = some (.int .i64 x.x) ∧ T1 w (.sl x.todo.length (x.todo.flatMap intE)) b0 (.slice A0 x.todo.length c0) ∧ x.todo.length ≤ c0 ∧ c0 ≤ maxLen := by
  obtain ⟨_, b, off, p1, p2, p3, us, hA, _, hb, hc, ht⟩ := T1.at_ GDequeActor.enc_len h hm hk
  obtain ⟨A0, c0, b0, rfl, _, t0, l0, m0⟩ := GDequeActor.us ht
  exact ⟨b, off, xs[k], A0, c0, b0, hA, hb, List.getElem?_eq_getElem (hm ▸ hk), hc 0 _ rfl, hc 1 _ rfl, hc 2 _ rfl, hc 3 _ rfl, hc 4 _ rfl, t0, l0, m0⟩

theorem GDequeActor.ext_ {x y : GDequeActor} (h0 : x.todo = y.todo) (h1 : x.pc = y.pc) (h2 : x.t = y.t) (h3 : x.b = y.b) (h4 : x.x = y.x) : x = y := by
  cases x; cases y; simp_all

def GDequeActor.wt (x : GDequeActor) : Nat := wtl (fun _ => 0) x.todo
def GDequeActor.small (x : GDequeActor) : Prop := (x.todo.length ≤ 1048576)
structure GHanded where
  actor : Int
  value : Int

def GHanded.enc (x : GHanded) : List D := [.v (.int .i64 x.actor), .v (.int .i64 x.value)]
theorem GHanded.enc_len (x : GHanded) : x.enc.length = 2 := rfl
theorem GHanded.us {w : World} {x : GHanded} {bs us} (h0 : TN w x.enc bs us) : us = [.int .i64 x.actor, .int .i64 x.value] ∧ bs = [] := by
  unfold GHanded.enc at h0
  obtain ⟨u0, rfl, h1⟩ := TN.v_cons h0
  obtain ⟨u1, rfl, h2⟩ := TN.v_cons h1
  obtain ⟨rfl, rfl⟩ := TN.end_ h2
  exact ⟨rfl, rfl⟩

theorem GHanded.mk_ {w : World} {x : GHanded}  : TN w x.enc ([]) [.int .i64 x.actor, .int .i64 x.value] := by
  have h := (show TN w [.v (.int .i64 x.actor), .v (.int .i64 x.value)] _ _ from TN.v_mk rfl (TN.v_mk rfl (TN.done)))
  try simp only [List.append_nil] at h
  unfold GHanded.enc
  first | exact h | simpa only [List.append_assoc] using h

theorem GHanded.get_ {w : World} {xs : List GHanded} {bs : List Nat} {A : Option Addr} {n n' c : Nat} (h : T1 w (.sl n (xs.flatMap GHanded.enc)) bs (.slice A n' c)) (hm : xs.length = n) {k : Nat} (hk : k < n) :
    ∃ (b off : Nat) (x : GHanded) , A = some ⟨b, off, none⟩ ∧ b < w.heap.size ∧ Hid (xs[k]? = some x) ∧ w.cell? ⟨b, off + k * 2, none⟩ = some (.int .i64 x.actor) ∧ w.cell? ⟨b, off + k * 2 + 1, none⟩ = some (.int .i64 x.value) := by
  obtain ⟨_, b, off, p1, p2, p3, us, hA, _, hb, hc, ht⟩ := T1.at_ GHanded.enc_len h hm hk
  obtain ⟨rfl, _⟩ := GHanded.us ht
  exact ⟨b, off, xs[k], hA, hb, List.getElem?_eq_getElem (hm ▸ hk), hc 0 _ rfl, hc 1 _ rfl⟩

theorem GHanded.ext_ {x y : GHanded} (h0 : x.actor = y.actor) (h1 : x.value = y.value) : x = y := by
  cases x; cases y; simp_all

def GHanded.wt (_x : GHanded) : Nat := 0
def GHanded.small (_x : GHanded) : Prop := True
structure GDeque where
  top : Int
  bottom : Int
  buffer : (List Int)
  actors : (List GDequeActor)
  taken : (List GHanded)
  refused : (List Int)

def GDeque.enc (x : GDeque) : List D := [.v (.int .i64 x.top), .v (.int .i64 x.bottom), .sl x.buffer.length (x.buffer.flatMap intE), .sl x.actors.length (x.actors.flatMap GDequeActor.enc), .sl x.taken.length (x.taken.flatMap GHanded.enc), .sl x.refused.length (x.refused.flatMap intE)]
theorem GDeque.enc_len (x : GDeque) : x.enc.length = 6 := rfl
theorem GDeque.us {w : World} {x : GDeque} {bs us} (h0 : TN w x.enc bs us) : ∃ (A2 : Option Addr) (c2 : Nat) (b2 : List Nat) (A3 : Option Addr) (c3 : Nat) (b3 : List Nat) (A4 : Option Addr) (c4 : Nat) (b4 : List Nat) (A5 : Option Addr) (c5 : Nat) (b5 : List Nat), us = [.int .i64 x.top, .int .i64 x.bottom, .slice A2 x.buffer.length c2, .slice A3 x.actors.length c3, .slice A4 x.taken.length c4, .slice A5 x.refused.length c5] ∧ bs = b2 ++ b3 ++ b4 ++ b5 ∧ T1 w (.sl x.buffer.length (x.buffer.flatMap intE)) b2 (.slice A2 x.buffer.length c2) ∧ x.buffer.length ≤ c2 ∧ c2 ≤ maxLen ∧ T1 w (.sl x.actors.length (x.actors.flatMap GDequeActor.enc)) b3 (.slice A3 x.actors.length c3) ∧ x.actors.length ≤ c3 ∧ c3 ≤ maxLen ∧ T1 w (.sl x.taken.length (x.taken.flatMap GHanded.enc)) b4 (.slice A4 x.taken.length c4) ∧ x.taken.length ≤ c4 ∧ c4 ≤ maxLen ∧ T1 w (.sl x.refused.length (x.refused.flatMap intE)) b5 (.slice A5 x.refused.length c5) ∧ x.refused.length ≤ c5 ∧ c5 ≤ maxLen := by
  unfold GDeque.enc at h0
  obtain ⟨u0, rfl, h1⟩ := TN.v_cons h0
  obtain ⟨u1, rfl, h2⟩ := TN.v_cons h1
  obtain ⟨A2, c2, b2, r2, u2, rfl, rfl, t2, l2, m2, h3⟩ := TN.sl_cons h2
  obtain ⟨A3, c3, b3, r3, u3, rfl, rfl, t3, l3, m3, h4⟩ := TN.sl_cons h3
  obtain ⟨A4, c4, b4, r4, u4, rfl, rfl, t4, l4, m4, h5⟩ := TN.sl_cons h4
  obtain ⟨A5, c5, b5, r5, u5, rfl, rfl, t5, l5, m5, h6⟩ := TN.sl_cons h5
  obtain ⟨rfl, rfl⟩ := TN.end_ h6
  exact ⟨A2, c2, b2, A3, c3, b3, A4, c4, b4, A5, c5, b5, rfl, by simp, t2, l2, m2, t3, l3, m3, t4, l4, m4, t5, l5, m5⟩

theorem GDeque.mk_ {w : World} {x : GDeque} {A2 c2 b2} (t2 : T1 w (.sl x.buffer.length (x.buffer.flatMap intE)) b2 (.slice A2 x.buffer.length c2)) {A3 c3 b3} (t3 : T1 w (.sl x.actors.length (x.actors.flatMap GDequeActor.enc)) b3 (.slice A3 x.actors.length c3)) {A4 c4 b4} (t4 : T1 w (.sl x.taken.length (x.taken.flatMap GHanded.enc)) b4 (.slice A4 x.taken.length c4)) {A5 c5 b5} (t5 : T1 w (.sl x.refused.length (x.refused.flatMap intE)) b5 (.slice A5 x.refused.length c5)) : TN w x.enc (b2 ++ b3 ++ b4 ++ b5) [.int .i64 x.top, .int .i64 x.bottom, .slice A2 x.buffer.length c2, .slice A3 x.actors.length c3, .slice A4 x.taken.length c4, .slice A5 x.refused.length c5] := by
  have h := (show TN w [.v (.int .i64 x.top), .v (.int .i64 x.bottom), .sl x.buffer.length (x.buffer.flatMap intE), .sl x.actors.length (x.actors.flatMap GDequeActor.enc), .sl x.taken.length (x.taken.flatMap GHanded.enc), .sl x.refused.length (x.refused.flatMap intE)] _ _ from TN.v_mk rfl (TN.v_mk rfl (TN.sl_mk t2 (TN.sl_mk t3 (TN.sl_mk t4 (TN.sl_mk t5 (TN.done)))))))
  try simp only [List.append_nil] at h
  unfold GDeque.enc
  first | exact h | simpa only [List.append_assoc] using h

theorem GDeque.get_ {w : World} {xs : List GDeque} {bs : List Nat} {A : Option Addr} {n n' c : Nat} (h : T1 w (.sl n (xs.flatMap GDeque.enc)) bs (.slice A n' c)) (hm : xs.length = n) {k : Nat} (hk : k < n) :
    ∃ (b off : Nat) (x : GDeque) (A2 : Option Addr) (c2 : Nat) (b2 : List Nat) (A3 : Option Addr) (c3 : Nat) (b3 : List Nat) (A4 : Option Addr) (c4 : Nat) (b4 : List Nat) (A5 : Option Addr) (c5 : Nat) (b5 : List Nat), A = some ⟨b, off, none⟩ ∧ b < w.heap.size ∧ Hid (xs[k]? = some x) ∧ w.cell? ⟨b, off + k * 6, none⟩ = some (.int .i64 x.top) ∧ w.cell? ⟨b, off + k * 6 + 1, none⟩ = some (.int .i64 x.bottom) ∧ w.cell? ⟨b, off + k * 6 + 2, none⟩ = some (.slice A2 x.buffer.length c2) ∧ w.cell? ⟨b, off + k * 6 + 3, none⟩ = some (.slice A3 x.actors.length c3) ∧ w.cell? ⟨b, off + k * 6 + 4, none⟩ = some (.slice A4 x.taken.length c4) ∧ w.cell? ⟨b, off + k * 6 + 5, none⟩ = some (.slice A5 x.refused.length c5) ∧ T1 w (.sl x.buffer.length (x.buffer.flatMap intE)) b2 (.slice A2 x.buffer.length c2) ∧ x.buffer.length ≤ c2 ∧ c2 ≤ maxLen ∧ T1 w (.sl x.actors.length (x.actors.flatMap GDequeActor.enc)) b3 (.slice A3 x.actors.length c3) ∧ x.actors.length ≤ c3 ∧ c3 ≤ maxLen ∧ T1 w (.sl x.taken.length (x.taken.flatMap GHanded.enc)) b4 (.slice A4 x.taken.length c4) ∧ x.taken.length ≤ c4 ∧ c4 ≤ maxLen ∧ T1 w (.sl x.refused.length (x.refused.flatMap intE)) b5 (.slice A5 x.refused.length c5) ∧ x.refused.length ≤ c5 ∧ c5 ≤ maxLen := by
  obtain ⟨_, b, off, p1, p2, p3, us, hA, _, hb, hc, ht⟩ := T1.at_ GDeque.enc_len h hm hk
  obtain ⟨A2, c2, b2, A3, c3, b3, A4, c4, b4, A5, c5, b5, rfl, _, t2, l2, m2, t3, l3, m3, t4, l4, m4, t5, l5, m5⟩ := GDeque.us ht
  exact ⟨b, off, xs[k], A2, c2, b2, A3, c3, b3, A4, c4, b4, A5, c5, b5, hA, hb, List.getElem?_eq_getElem (hm ▸ hk), hc 0 _ rfl, hc 1 _ rfl, hc 2 _ rfl, hc 3 _ rfl, hc 4 _ rfl, hc 5 _ rfl, t2, l2, m2, t3, l3, m3, t4, l4, m4, t5, l5, m5⟩

theorem GDeque.ext_ {x y : GDeque} (h0 : x.top = y.top) (h1 : x.bottom = y.bottom) (h2 : x.buffer = y.buffer) (h3 : x.actors = y.actors) (h4 : x.taken = y.taken) (h5 : x.refused = y.refused) : x = y := by
  cases x; cases y; simp_all

def GDeque.wt (x : GDeque) : Nat := wtl (fun _ => 0) x.buffer + wtl GDequeActor.wt x.actors + wtl (fun _ => 0) x.taken + wtl (fun _ => 0) x.refused
def GDeque.small (x : GDeque) : Prop := (x.buffer.length ≤ 1048576) ∧ (x.actors.length ≤ 1048576 ∧ ∀ y ∈ x.actors, GDequeActor.small y) ∧ (x.taken.length ≤ 1048576 ∧ ∀ y ∈ x.taken, GHanded.small y) ∧ (x.refused.length ≤ 1048576)
end Go.Tr
