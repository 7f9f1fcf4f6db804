/- Data of the program as structures, and how they lie in memory. No program in it. Printed by gen_fam.py. -/
import Derived.Test.YthciaodffkbljaaGreatData
set_option linter.unusedSimpArgs false
set_option linter.unusedVariables false
namespace Go.Tr
open Go Go.RowKit

structure GWord where
  tag : Int
  at_ : Int

def GWord.enc (x : GWord) : List D := [.v (.int .i64 x.tag), .v (.int .i64 x.at_)]
theorem GWord.enc_len (x : GWord) : x.enc.length = 2 := rfl
theorem GWord.us {w : World} {x : GWord} {bs us} (h0 : TN w x.enc bs us) : us = [.int .i64 x.tag, .int .i64 x.at_] ∧ bs = [] := by
  unfold GWord.enc at h0
  obtain ⟨u0, rfl, h1⟩ := TN.v_cons h0
  obtain ⟨u1, rfl, h2⟩ := TN.v_cons h1
  obtain ⟨rfl, rfl⟩ := TN.end_ h2
  exact ⟨rfl, rfl⟩

theorem GWord.mk_ {w : World} {x : GWord}  : TN w x.enc ([]) [.int .i64 x.tag, .int .i64 x.at_] := by
  have h := (show TN w [.v (.int .i64 x.tag), .v (.int .i64 x.at_)] _ _ from TN.v_mk rfl (TN.v_mk rfl (TN.done)))
  try simp only [List.append_nil] at h
  unfold GWord.enc
  first | exact h | simpa only [List.append_assoc] using h

theorem GWord.get_ {w : World} {xs : List GWord} {bs : List Nat} {A : Option Addr} {n n' c : Nat} (h : T1 w (.sl n (xs.flatMap GWord.enc)) bs (.slice A n' c)) (hm : xs.length = n) {k : Nat} (hk : k < n) :
    ∃ (b off : Nat) (x : GWord) , A = some ⟨b, off, none⟩ ∧ b < w.heap.size ∧ Hid (xs[k]? = some x) ∧ w.cell? ⟨b, off + k * 2, none⟩ = some (.int .i64 x.tag) ∧ w.cell? ⟨b, off + k * 2 + 1, none⟩ = some (.int .i64 x.at_) := by
  obtain ⟨_, b, off, p1, p2, p3, us, hA, _, hb, hc, ht⟩ := T1.at_ GWord.enc_len h hm hk
  obtain ⟨rfl, _⟩ := GWord.us ht
  exact ⟨b, off, xs[k], hA, hb, List.getElem?_eq_getElem (hm ▸ hk), hc 0 _ rfl, hc 1 _ rfl⟩

theorem GWord.ext_ {x y : GWord} (h0 : x.tag = y.tag) (h1 : x.at_ = y.at_) : x = y := by
  cases x; cases y; simp_all

def GWord.wt (_x : GWord) : Nat := 0
def GWord.small (_x : GWord) : Prop := True
structure GCell where
  kind : Int
  level : Int
  value : Int
  data : (List Int)
  words : (List GWord)

def GCell.enc (x : GCell) : List D := [.v (.int .i64 x.kind), .v (.int .i64 x.level), .v (.int .i64 x.value), .sl x.data.length (x.data.flatMap intE), .sl x.words.length (x.words.flatMap GWord.enc)]
theorem GCell.enc_len (x : GCell) : x.enc.length = 5 := rfl
theorem GCell.us {w : World} {x : GCell} {bs us} (h0 : TN w x.enc bs us) : ∃ (A3 : Option Addr) (c3 : Nat) (b3 : List Nat) (A4 : Option Addr) (c4 : Nat) (b4 : List Nat), us = [.int .i64 x.kind, .int .i64 x.level, .int .i64 x.value, .slice A3 x.data.length c3, .slice A4 x.words.length c4] ∧ bs = b3 ++ b4 ∧ T1 w (.sl x.data.length (x.data.flatMap intE)) b3 (.slice A3 x.data.length c3) ∧ x.data.length ≤ c3 ∧ c3 ≤ maxLen ∧ T1 w (.sl x.words.length (x.words.flatMap GWord.enc)) b4 (.slice A4 x.words.length c4) ∧ x.words.length ≤ c4 ∧ c4 ≤ maxLen := by
  unfold GCell.enc at h0
  obtain ⟨u0, rfl, h1⟩ := TN.v_cons h0
  obtain ⟨u1, rfl, h2⟩ := TN.v_cons h1
  obtain ⟨u2, rfl, h3⟩ := TN.v_cons h2
  obtain ⟨A3, c3, b3, r3, u3, rfl, rfl, t3, l3, m3, h4⟩ := TN.sl_cons h3
  obtain ⟨A4, c4, b4, r4, u4, rfl, rfl, t4, l4, m4, h5⟩ := TN.sl_cons h4
  obtain ⟨rfl, rfl⟩ := TN.end_ h5
  exact ⟨A3, c3, b3, A4, c4, b4, rfl, by simp, t3, l3, m3, t4, l4, m4⟩

theorem GCell.mk_ {w : World} {x : GCell} {A3 c3 b3} (t3 : T1 w (.sl x.data.length (x.data.flatMap intE)) b3 (.slice A3 x.data.length c3)) {A4 c4 b4} (t4 : T1 w (.sl x.words.length (x.words.flatMap GWord.enc)) b4 (.slice A4 x.words.length c4)) : TN w x.enc (b3 ++ b4) [.int .i64 x.kind, .int .i64 x.level, .int .i64 x.value, .slice A3 x.data.length c3, .slice A4 x.words.length c4] := by
  have h := (show TN w [.v (.int .i64 x.kind), .v (.int .i64 x.level), .v (.int .i64 x.value), .sl x.data.length (x.data.flatMap intE), .sl x.words.length (x.words.flatMap GWord.enc)] _ _ from TN.v_mk rfl (TN.v_mk rfl (TN.v_mk rfl (TN.sl_mk t3 (TN.sl_mk t4 (TN.done))))))
  try simp only [List.append_nil] at h
  unfold GCell.enc
  first | exact h | simpa only [List.append_assoc] using h

theorem GCell.get_ {w : World} {xs : List GCell} {bs : List Nat} {A : Option Addr} {n n' c : Nat} (h : T1 w (.sl n (xs.flatMap GCell.enc)) bs (.slice A n' c)) (hm : xs.length = n) {k : Nat} (hk : k < n) :
    ∃ (b off : Nat) (x : GCell) (A3 : Option Addr) (c3 : Nat) (b3 : List Nat) (A4 : Option Addr) (c4 : Nat) (b4 : List Nat), A = some ⟨b, off, none⟩ ∧ b < w.heap.size ∧ Hid (xs[k]? = some x) ∧ w.cell? ⟨b, off + k * 5, none⟩ = some (.int .i64 x.kind) ∧ w.cell? ⟨b, off + k * 5 + 1, none⟩ = some (.int .i64 x.level) ∧ w.cell? ⟨b, off + k * 5 + 2, none⟩ = some (.int .i64 x.value) ∧ w.cell? ⟨b, off + k * 5 + 3, none⟩ = some (.slice A3 x.data.length c3) ∧ w.cell? ⟨b, off + k * 5 + 4, none⟩ = some (.slice A4 x.words.length c4) ∧ T1 w (.sl x.data.length (x.data.flatMap intE)) b3 (.slice A3 x.data.length c3) ∧ x.data.length ≤ c3 ∧ c3 ≤ maxLen ∧ T1 w (.sl x.words.length (x.words.flatMap GWord.enc)) b4 (.slice A4 x.words.length c4) ∧ x.words.length ≤ c4 ∧ c4 ≤ maxLen := by
  obtain ⟨_, b, off, p1, p2, p3, us, hA, _, hb, hc, ht⟩ := T1.at_ GCell.enc_len h hm hk
  obtain ⟨A3, c3, b3, A4, c4, b4, rfl, _, t3, l3, m3, t4, l4, m4⟩ := GCell.us ht
  exact ⟨b, off, xs[k], A3, c3, b3, A4, c4, b4, hA, hb, List.getElem?_eq_getElem (hm ▸ hk), hc 0 _ rfl, hc 1 _ rfl, hc 2 _ rfl, hc 3 _ rfl, hc 4 _ rfl, t3, l3, m3, t4, l4, m4⟩

theorem GCell.ext_ {x y : GCell} (h0 : x.kind = y.kind) (h1 : x.level = y.level) (h2 : x.value = y.value) (h3 : x.data = y.data) (h4 : x.words = y.words) : x = y := by
  cases x; cases y; simp_all

def GCell.wt (x : GCell) : Nat := wtl (fun _ => 0) x.data + wtl (fun _ => 0) x.words
def GCell.small (x : GCell) : Prop := (x.data.length ≤ 1048576) ∧ (x.words.length ≤ 1048576 ∧ ∀ y ∈ x.words, GWord.small y)
structure GPair where
  a : Int
  b : Int

def GPair.enc (x : GPair) : List D := [.v (.int .i64 x.a), .v (.int .i64 x.b)]
theorem GPair.enc_len (x : GPair) : x.enc.length = 2 := rfl
theorem GPair.us {w : World} {x : GPair} {bs us} (h0 : TN w x.enc bs us) : us = [.int .i64 x.a, .int .i64 x.b] ∧ bs = [] := by
  unfold GPair.enc at h0
  obtain ⟨u0, rfl, h1⟩ := TN.v_cons h0
  obtain ⟨u1, rfl, h2⟩ := TN.v_cons h1
  obtain ⟨rfl, rfl⟩ := TN.end_ h2
  exact ⟨rfl, rfl⟩

theorem GPair.mk_ {w : World} {x : GPair}  : TN w x.enc ([]) [.int .i64 x.a, .int .i64 x.b] := by
  have h := (show TN w [.v (.int .i64 x.a), .v (.int .i64 x.b)] _ _ from TN.v_mk rfl (TN.v_mk rfl (TN.done)))
  try simp only [List.append_nil] at h
  unfold GPair.enc
  first | exact h | simpa only [List.append_assoc] using h

theorem GPair.get_ {w : World} {xs : List GPair} {bs : List Nat} {A : Option Addr} {n n' c : Nat} (h : T1 w (.sl n (xs.flatMap GPair.enc)) bs (.slice A n' c)) (hm : xs.length = n) {k : Nat} (hk : k < n) :
    ∃ (b off : Nat) (x : GPair) , A = some ⟨b, off, none⟩ ∧ b < w.heap.size ∧ Hid (xs[k]? = some x) ∧ w.cell? ⟨b, off + k * 2, none⟩ = some (.int .i64 x.a) ∧ w.cell? ⟨b, off + k * 2 + 1, none⟩ = some (.int .i64 x.b) := by
  obtain ⟨_, b, off, p1, p2, p3, us, hA, _, hb, hc, ht⟩ := T1.at_ GPair.enc_len h hm hk
  obtain ⟨rfl, _⟩ := GPair.us ht
  exact ⟨b, off, xs[k], hA, hb, List.getElem?_eq_getElem (hm ▸ hk), hc 0 _ rfl, hc 1 _ rfl⟩

theorem GPair.ext_ {x y : GPair} (h0 : x.a = y.a) (h1 : x.b = y.b) : x = y := by
  cases x; cases y; simp_all

def GPair.wt (_x : GPair) : Nat := 0
def GPair.small (_x : GPair) : Prop := True
structure GMemory where
  cells : (List GCell)
  free : Int
  root : GWord
  redexes : (List GPair)

def GMemory.enc (x : GMemory) : List D := [.sl x.cells.length (x.cells.flatMap GCell.enc), .v (.int .i64 x.free), .v (.int .i64 x.root.tag), .v (.int .i64 x.root.at_), .sl x.redexes.length (x.redexes.flatMap GPair.enc)]
theorem GMemory.enc_len (x : GMemory) : x.enc.length = 5 := rfl
theorem GMemory.us {w : World} {x : GMemory} {bs us} (h0 : TN w x.enc bs us) : ∃ (A0 : Option Addr) (c0 : Nat) (b0 : List Nat) (A4 : Option Addr) (c4 : Nat) (b4 : List Nat), us = [.slice A0 x.cells.length c0, .int .i64 x.free, .int .i64 x.root.tag, .int .i64 x.root.at_, .slice A4 x.redexes.length c4] ∧ bs = b0 ++ b4 ∧ T1 w (.sl x.cells.length (x.cells.flatMap GCell.enc)) b0 (.slice A0 x.cells.length c0) ∧ x.cells.length ≤ c0 ∧ c0 ≤ maxLen ∧ T1 w (.sl x.redexes.length (x.redexes.flatMap GPair.enc)) b4 (.slice A4 x.redexes.length c4) ∧ x.redexes.length ≤ c4 ∧ c4 ≤ maxLen := by
  unfold GMemory.enc at h0
  obtain ⟨A0, c0, b0, r0, u0, rfl, rfl, t0, l0, m0, h1⟩ := TN.sl_cons h0
  obtain ⟨u1, rfl, h2⟩ := TN.v_cons h1
  obtain ⟨u2, rfl, h3⟩ := TN.v_cons h2
  obtain ⟨u3, rfl, h4⟩ := TN.v_cons h3
  obtain ⟨A4, c4, b4, r4, u4, rfl, rfl, t4, l4, m4, h5⟩ := TN.sl_cons h4
  obtain ⟨rfl, rfl⟩ := TN.end_ h5
  exact ⟨A0, c0, b0, A4, c4, b4, rfl, by simp, t0, l0, m0, t4, l4, m4⟩

theorem GMemory.mk_ {w : World} {x : GMemory} {A0 c0 b0} (t0 : T1 w (.sl x.cells.length (x.cells.flatMap GCell.enc)) b0 (.slice A0 x.cells.length c0)) {A4 c4 b4} (t4 : T1 w (.sl x.redexes.length (x.redexes.flatMap GPair.enc)) b4 (.slice A4 x.redexes.length c4)) : TN w x.enc (b0 ++ b4) [.slice A0 x.cells.length c0, .int .i64 x.free, .int .i64 x.root.tag, .int .i64 x.root.at_, .slice A4 x.redexes.length c4] := by
  have h := (show TN w [.sl x.cells.length (x.cells.flatMap GCell.enc), .v (.int .i64 x.free), .v (.int .i64 x.root.tag), .v (.int .i64 x.root.at_), .sl x.redexes.length (x.redexes.flatMap GPair.enc)] _ _ from TN.sl_mk t0 (TN.v_mk rfl (TN.v_mk rfl (TN.v_mk rfl (TN.sl_mk t4 (TN.done))))))
  try simp only [List.append_nil] at h
  unfold GMemory.enc
  first | exact h | simpa only [List.append_assoc] using h

theorem GMemory.get_ {w : World} {xs : List GMemory} {bs : List Nat} {A : Option Addr} {n n' c : Nat} (h : T1 w (.sl n (xs.flatMap GMemory.enc)) bs (.slice A n' c)) (hm : xs.length = n) {k : Nat} (hk : k < n) :
    ∃ (b off : Nat) (x : GMemory) (A0 : Option Addr) (c0 : Nat) (b0 : List Nat) (A4 : Option Addr) (c4 : Nat) (b4 : List Nat), A = some ⟨b, off, none⟩ ∧ b < w.heap.size ∧ Hid (xs[k]? = some x) ∧ w.cell? ⟨b, off + k * 5, none⟩ = some (.slice A0 x.cells.length c0) ∧ w.cell? ⟨b, off + k * 5 + 1, none⟩ = some (.int .i64 x.free) ∧ w.cell? ⟨b, off + k * 5 + 2, none⟩ = some (.int .i64 x.root.tag) ∧ w.cell? ⟨b, off + k * 5 + 3, none⟩ = some (.int .i64 x.root.at_) ∧ w.cell? ⟨b, off + k * 5 + 4, none⟩ = some (.slice A4 x.redexes.length c4) ∧ T1 w (.sl x.cells.length (x.cells.flatMap GCell.enc)) b0 (.slice A0 x.cells.length c0) ∧ x.cells.length ≤ c0 ∧ c0 ≤ maxLen ∧ T1 w (.sl x.redexes.length (x.redexes.flatMap GPair.enc)) b4 (.slice A4 x.redexes.length c4) ∧ x.redexes.length ≤ c4 ∧ c4 ≤ maxLen := by
  obtain ⟨_, b, off, p1, p2, p3, us, hA, _, hb, hc, ht⟩ := T1.at_ GMemory.enc_len h hm hk
  obtain ⟨A0, c0, b0, A4, c4, b4, rfl, _, t0, l0, m0, t4, l4, m4⟩ := GMemory.us ht
  exact ⟨b, off, xs[k], A0, c0, b0, A4, c4, b4, hA, hb, List.getElem?_eq_getElem (hm ▸ hk), hc 0 _ rfl, hc 1 _ rfl, hc 2 _ rfl, hc 3 _ rfl, hc 4 _ rfl, t0, l0, m0, t4, l4, m4⟩

theorem GMemory.ext_ {x y : GMemory} (h0 : x.cells = y.cells) (h1 : x.free = y.free) (h2 : x.root = y.root) (h3 : x.redexes = y.redexes) : x = y := by
  cases x; cases y; simp_all

def GMemory.wt (x : GMemory) : Nat := wtl GCell.wt x.cells + wtl (fun _ => 0) x.redexes
def GMemory.small (x : GMemory) : Prop := (x.cells.length ≤ 1048576 ∧ ∀ y ∈ x.cells, GCell.small y) ∧ (x.root.small) ∧ (x.redexes.length ≤ 1048576 ∧ ∀ y ∈ x.redexes, GPair.small y)
structure GLink where
  a : GWord
  b : GWord

def GLink.enc (x : GLink) : List D := [.v (.int .i64 x.a.tag), .v (.int .i64 x.a.at_), .v (.int .i64 x.b.tag), .v (.int .i64 x.b.at_)]
theorem GLink.enc_len (x : GLink) : x.enc.length = 4 := rfl
theorem GLink.us {w : World} {x : GLink} {bs us} (h0 : TN w x.enc bs us) : us = [.int .i64 x.a.tag, .int .i64 x.a.at_, .int .i64 x.b.tag, .int .i64 x.b.at_] ∧ bs = [] := by
  unfold GLink.enc at h0
  obtain ⟨u0, rfl, h1⟩ := TN.v_cons h0
  obtain ⟨u1, rfl, h2⟩ := TN.v_cons h1
  obtain ⟨u2, rfl, h3⟩ := TN.v_cons h2
  obtain ⟨u3, rfl, h4⟩ := TN.v_cons h3
  obtain ⟨rfl, rfl⟩ := TN.end_ h4
  exact ⟨rfl, rfl⟩

theorem GLink.mk_ {w : World} {x : GLink}  : TN w x.enc ([]) [.int .i64 x.a.tag, .int .i64 x.a.at_, .int .i64 x.b.tag, .int .i64 x.b.at_] := by
  have h := (show TN w [.v (.int .i64 x.a.tag), .v (.int .i64 x.a.at_), .v (.int .i64 x.b.tag), .v (.int .i64 x.b.at_)] _ _ from TN.v_mk rfl (TN.v_mk rfl (TN.v_mk rfl (TN.v_mk rfl (TN.done)))))
  try simp only [List.append_nil] at h
  unfold GLink.enc
  first | exact h | simpa only [List.append_assoc] using h

theorem GLink.get_ {w : World} {xs : List GLink} {bs : List Nat} {A : Option Addr} {n n' c : Nat} (h : T1 w (.sl n (xs.flatMap GLink.enc)) bs (.slice A n' c)) (hm : xs.length = n) {k : Nat} (hk : k < n) :
    ∃ (b off : Nat) (x : GLink) , A = some ⟨b, off, none⟩ ∧ b < w.heap.size ∧ Hid (xs[k]? = some x) ∧ w.cell? ⟨b, off + k * 4, none⟩ = some (.int .i64 x.a.tag) ∧ w.cell? ⟨b, off + k * 4 + 1, none⟩ = some (.int .i64 x.a.at_) ∧ w.cell? ⟨b, off + k * 4 + 2, none⟩ = some (.int .i64 x.b.tag) ∧ w.cell? ⟨b, off + k * 4 + 3, none⟩ = some (.int .i64 x.b.at_) := by
  obtain ⟨_, b, off, p1, p2, p3, us, hA, _, hb, hc, ht⟩ := T1.at_ GLink.enc_len h hm hk
  obtain ⟨rfl, _⟩ := GLink.us ht
  exact ⟨b, off, xs[k], hA, hb, List.getElem?_eq_getElem (hm ▸ hk), hc 0 _ rfl, hc 1 _ rfl, hc 2 _ rfl, hc 3 _ rfl⟩

theorem GLink.ext_ {x y : GLink} (h0 : x.a = y.a) (h1 : x.b = y.b) : x = y := by
  cases x; cases y; simp_all

def GLink.wt (_x : GLink) : Nat := 0
def GLink.small (x : GLink) : Prop := (x.a.small) ∧ (x.b.small)
structure GWorker where
  phase : Int
  victim : Int
  redexes : (List GPair)
  links : (List GLink)
  counts : (List Int)

def GWorker.enc (x : GWorker) : List D := [.v (.int .i64 x.phase), .v (.int .i64 x.victim), .sl x.redexes.length (x.redexes.flatMap GPair.enc), .sl x.links.length (x.links.flatMap GLink.enc), .sl x.counts.length (x.counts.flatMap intE)]
theorem GWorker.enc_len (x : GWorker) : x.enc.length = 5 := rfl
theorem GWorker.us {w : World} {x : GWorker} {bs us} (h0 : TN w x.enc bs us) : ∃ (A2 : Option Addr) (c2 : Nat) (b2 : List Nat) (A3 : Option Addr) (c3 : Nat) (b3 : List Nat) (A4 : Option Addr) (c4 : Nat) (b4 : List Nat), us = [.int .i64 x.phase, .int .i64 x.victim, .slice A2 x.redexes.length c2, .slice A3 x.links.length c3, .slice A4 x.counts.length c4] ∧ bs = b2 ++ b3 ++ b4 ∧ T1 w (.sl x.redexes.length (x.redexes.flatMap GPair.enc)) b2 (.slice A2 x.redexes.length c2) ∧ x.redexes.length ≤ c2 ∧ c2 ≤ maxLen ∧ T1 w (.sl x.links.length (x.links.flatMap GLink.enc)) b3 (.slice A3 x.links.length c3) ∧ x.links.length ≤ c3 ∧ c3 ≤ maxLen ∧ T1 w (.sl x.counts.length (x.counts.flatMap intE)) b4 (.slice A4 x.counts.length c4) ∧ x.counts.length ≤ c4 ∧ c4 ≤ maxLen := by
  unfold GWorker.enc at h0
  obtain ⟨u0, rfl, h1⟩ := TN.v_cons h0
  obtain ⟨u1, rfl, h2⟩ := TN.v_cons h1
  obtain ⟨A2, c2, b2, r2, u2, rfl, rfl, t2, l2, m2, h3⟩ := TN.sl_cons h2
  obtain ⟨A3, c3, b3, r3, u3, rfl, rfl, t3, l3, m3, h4⟩ := TN.sl_cons h3
  obtain ⟨A4, c4, b4, r4, u4, rfl, rfl, t4, l4, m4, h5⟩ := TN.sl_cons h4
  obtain ⟨rfl, rfl⟩ := TN.end_ h5
  exact ⟨A2, c2, b2, A3, c3, b3, A4, c4, b4, rfl, by simp, t2, l2, m2, t3, l3, m3, t4, l4, m4⟩

theorem GWorker.mk_ {w : World} {x : GWorker} {A2 c2 b2} (t2 : T1 w (.sl x.redexes.length (x.redexes.flatMap GPair.enc)) b2 (.slice A2 x.redexes.length c2)) {A3 c3 b3} (t3 : T1 w (.sl x.links.length (x.links.flatMap GLink.enc)) b3 (.slice A3 x.links.length c3)) {A4 c4 b4} (t4 : T1 w (.sl x.counts.length (x.counts.flatMap intE)) b4 (.slice A4 x.counts.length c4)) : TN w x.enc (b2 ++ b3 ++ b4) [.int .i64 x.phase, .int .i64 x.victim, .slice A2 x.redexes.length c2, .slice A3 x.links.length c3, .slice A4 x.counts.length c4] := by
  have h := (show TN w [.v (.int .i64 x.phase), .v (.int .i64 x.victim), .sl x.redexes.length (x.redexes.flatMap GPair.enc), .sl x.links.length (x.links.flatMap GLink.enc), .sl x.counts.length (x.counts.flatMap intE)] _ _ from TN.v_mk rfl (TN.v_mk rfl (TN.sl_mk t2 (TN.sl_mk t3 (TN.sl_mk t4 (TN.done))))))
  try simp only [List.append_nil] at h
  unfold GWorker.enc
  first | exact h | simpa only [List.append_assoc] using h

theorem GWorker.get_ {w : World} {xs : List GWorker} {bs : List Nat} {A : Option Addr} {n n' c : Nat} (h : T1 w (.sl n (xs.flatMap GWorker.enc)) bs (.slice A n' c)) (hm : xs.length = n) {k : Nat} (hk : k < n) :
    ∃ (b off : Nat) (x : GWorker) (A2 : Option Addr) (c2 : Nat) (b2 : List Nat) (A3 : Option Addr) (c3 : Nat) (b3 : List Nat) (A4 : Option Addr) (c4 : Nat) (b4 : List Nat), A = some ⟨b, off, none⟩ ∧ b < w.heap.size ∧ Hid (xs[k]? = some x) ∧ w.cell? ⟨b, off + k * 5, none⟩ = some (.int .i64 x.phase) ∧ w.cell? ⟨b, off + k * 5 + 1, none⟩ = some (.int .i64 x.victim) ∧ w.cell? ⟨b, off + k * 5 + 2, none⟩ = some (.slice A2 x.redexes.length c2) ∧ w.cell? ⟨b, off + k * 5 + 3, none⟩ = some (.slice A3 x.links.length c3) ∧ w.cell? ⟨b, off + k * 5 + 4, none⟩ = some (.slice A4 x.counts.length c4) ∧ T1 w (.sl x.redexes.length (x.redexes.flatMap GPair.enc)) b2 (.slice A2 x.redexes.length c2) ∧ x.redexes.length ≤ c2 ∧ c2 ≤ maxLen ∧ T1 w (.sl x.links.length (x.links.flatMap GLink.enc)) b3 (.slice A3 x.links.length c3) ∧ x.links.length ≤ c3 ∧ c3 ≤ maxLen ∧ T1 w (.sl x.counts.length (x.counts.flatMap intE)) b4 (.slice A4 x.counts.length c4) ∧ x.counts.length ≤ c4 ∧ c4 ≤ maxLen := by
  obtain ⟨_, b, off, p1, p2, p3, us, hA, _, hb, hc, ht⟩ := T1.at_ GWorker.enc_len h hm hk
  obtain ⟨A2, c2, b2, A3, c3, b3, A4, c4, b4, rfl, _, t2, l2, m2, t3, l3, m3, t4, l4, m4⟩ := GWorker.us ht
  exact ⟨b, off, xs[k], A2, c2, b2, A3, c3, b3, A4, c4, b4, hA, hb, List.getElem?_eq_getElem (hm ▸ hk), hc 0 _ rfl, hc 1 _ rfl, hc 2 _ rfl, hc 3 _ rfl, hc 4 _ rfl, t2, l2, m2, t3, l3, m3, t4, l4, m4⟩

theorem GWorker.ext_ {x y : GWorker} (h0 : x.phase = y.phase) (h1 : x.victim = y.victim) (h2 : x.redexes = y.redexes) (h3 : x.links = y.links) (h4 : x.counts = y.counts) : x = y := by
  cases x; cases y; simp_all

def GWorker.wt (x : GWorker) : Nat := wtl (fun _ => 0) x.redexes + wtl (fun _ => 0) x.links + wtl (fun _ => 0) x.counts
def GWorker.small (x : GWorker) : Prop := (x.redexes.length ≤ 1048576 ∧ ∀ y ∈ x.redexes, GPair.small y) ∧ (x.links.length ≤ 1048576 ∧ ∀ y ∈ x.links, GLink.small y) ∧ (x.counts.length ≤ 1048576)
structure GPool where
  memory : GMemory
  workers : (List GWorker)
  active : Int

def GPool.enc (x : GPool) : List D := [.sl x.memory.cells.length (x.memory.cells.flatMap GCell.enc), .v (.int .i64 x.memory.free), .v (.int .i64 x.memory.root.tag), .v (.int .i64 x.memory.root.at_), .sl x.memory.redexes.length (x.memory.redexes.flatMap GPair.enc), .sl x.workers.length (x.workers.flatMap GWorker.enc), .v (.int .i64 x.active)]
theorem GPool.enc_len (x : GPool) : x.enc.length = 7 := rfl
theorem GPool.us {w : World} {x : GPool} {bs us} (h0 : TN w x.enc bs us) : ∃ (A0 : Option Addr) (c0 : Nat) (b0 : List Nat) (A4 : Option Addr) (c4 : Nat) (b4 : List Nat) (A5 : Option Addr) (c5 : Nat) (b5 : List Nat), us = [.slice A0 x.memory.cells.length c0, .int .i64 x.memory.free, .int .i64 x.memory.root.tag, .int .i64 x.memory.root.at_, .slice A4 x.memory.redexes.length c4, .slice A5 x.workers.length c5, .int .i64 x.active] ∧ bs = b0 ++ b4 ++ b5 ∧ T1 w (.sl x.memory.cells.length (x.memory.cells.flatMap GCell.enc)) b0 (.slice A0 x.memory.cells.length c0) ∧ x.memory.cells.length ≤ c0 ∧ c0 ≤ maxLen ∧ T1 w (.sl x.memory.redexes.length (x.memory.redexes.flatMap GPair.enc)) b4 (.slice A4 x.memory.redexes.length c4) ∧ x.memory.redexes.length ≤ c4 ∧ c4 ≤ maxLen ∧ T1 w (.sl x.workers.length (x.workers.flatMap GWorker.enc)) b5 (.slice A5 x.workers.length c5) ∧ x.workers.length ≤ c5 ∧ c5 ≤ maxLen := by
  unfold GPool.enc at h0
  obtain ⟨A0, c0, b0, r0, u0, rfl, rfl, t0, l0, m0, h1⟩ := TN.sl_cons h0
  obtain ⟨u1, rfl, h2⟩ := TN.v_cons h1
  obtain ⟨u2, rfl, h3⟩ := TN.v_cons h2
  obtain ⟨u3, rfl, h4⟩ := TN.v_cons h3
  obtain ⟨A4, c4, b4, r4, u4, rfl, rfl, t4, l4, m4, h5⟩ := TN.sl_cons h4
  obtain ⟨A5, c5, b5, r5, u5, rfl, rfl, t5, l5, m5, h6⟩ := TN.sl_cons h5
  obtain ⟨u6, rfl, h7⟩ := TN.v_cons h6
  obtain ⟨rfl, rfl⟩ := TN.end_ h7
  exact ⟨A0, c0, b0, A4, c4, b4, A5, c5, b5, rfl, by simp, t0, l0, m0, t4, l4, m4, t5, l5, m5⟩

theorem GPool.mk_ {w : World} {x : GPool} {A0 c0 b0} (t0 : T1 w (.sl x.memory.cells.length (x.memory.cells.flatMap GCell.enc)) b0 (.slice A0 x.memory.cells.length c0)) {A4 c4 b4} (t4 : T1 w (.sl x.memory.redexes.length (x.memory.redexes.flatMap GPair.enc)) b4 (.slice A4 x.memory.redexes.length c4)) {A5 c5 b5} (t5 : T1 w (.sl x.workers.length (x.workers.flatMap GWorker.enc)) b5 (.slice A5 x.workers.length c5)) : TN w x.enc (b0 ++ b4 ++ b5) [.slice A0 x.memory.cells.length c0, .int .i64 x.memory.free, .int .i64 x.memory.root.tag, .int .i64 x.memory.root.at_, .slice A4 x.memory.redexes.length c4, .slice A5 x.workers.length c5, .int .i64 x.active] := by
  have h := (show TN w [.sl x.memory.cells.length (x.memory.cells.flatMap GCell.enc), .v (.int .i64 x.memory.free), .v (.int .i64 x.memory.root.tag), .v (.int .i64 x.memory.root.at_), .sl x.memory.redexes.length (x.memory.redexes.flatMap GPair.enc), .sl x.workers.length (x.workers.flatMap GWorker.enc), .v (.int .i64 x.active)] _ _ from TN.sl_mk t0 (TN.v_mk rfl (TN.v_mk rfl (TN.v_mk rfl (TN.sl_mk t4 (TN.sl_mk t5 (TN.v_mk rfl (TN.done))))))))
  try simp only [List.append_nil] at h
  unfold GPool.enc
  first | exact h | simpa only [List.append_assoc] using h

theorem GPool.get_ {w : World} {xs : List GPool} {bs : List Nat} {A : Option Addr} {n n' c : Nat} (h : T1 w (.sl n (xs.flatMap GPool.enc)) bs (.slice A n' c)) (hm : xs.length = n) {k : Nat} (hk : k < n) :
    ∃ (b off : Nat) (x : GPool) (A0 : Option Addr) (c0 : Nat) (b0 : List Nat) (A4 : Option Addr) (c4 : Nat) (b4 : List Nat) (A5 : Option Addr) (c5 : Nat) (b5 : List Nat), A = some ⟨b, off, none⟩ ∧ b < w.heap.size ∧ Hid (xs[k]? = some x) ∧ w.cell? ⟨b, off + k * 7, none⟩ = some (.slice A0 x.memory.cells.length c0) ∧ w.cell? ⟨b, off + k * 7 + 1, none⟩ = some (.int .i64 x.memory.free) ∧ w.cell? ⟨b, off + k * 7 + 2, none⟩ = some (.int .i64 x.memory.root.tag) ∧ w.cell? ⟨b, off + k * 7 + 3, none⟩ = some (.int .i64 x.memory.root.at_) ∧ w.cell? ⟨b, off + k * 7 + 4, none⟩ = some (.slice A4 x.memory.redexes.length c4) ∧ w.cell? ⟨b, off + k * 7 + 5, none⟩ = some (.slice A5 x.workers.length c5) ∧ w.cell? ⟨b, off + k * 7 + 6, none⟩ = some (.int .i64 x.active) ∧ T1 w (.sl x.memory.cells.length (x.memory.cells.flatMap GCell.enc)) b0 (.slice A0 x.memory.cells.length c0) ∧ x.memory.cells.length ≤ c0 ∧ c0 ≤ maxLen ∧ T1 w (.sl x.memory.redexes.length (x.memory.redexes.flatMap GPair.enc)) b4 (.slice A4 x.memory.redexes.length c4) ∧ x.memory.redexes.length ≤ c4 ∧ c4 ≤ maxLen ∧ T1 w (.sl x.workers.length (x.workers.flatMap GWorker.enc)) b5 (.slice A5 x.workers.length c5) ∧ x.workers.length ≤ c5 ∧ c5 ≤ maxLen := by
  obtain ⟨_, b, off, p1, p2, p3, us, hA, _, hb, hc, ht⟩ := T1.at_ GPool.enc_len h hm hk
  obtain ⟨A0, c0, b0, A4, c4, b4, A5, c5, b5, rfl, _, t0, l0, m0, t4, l4, m4, t5, l5, m5⟩ := GPool.us ht
  exact ⟨b, off, xs[k], A0, c0, b0, A4, c4, b4, A5, c5, b5, hA, hb, List.getElem?_eq_getElem (hm ▸ hk), hc 0 _ rfl, hc 1 _ rfl, hc 2 _ rfl, hc 3 _ rfl, hc 4 _ rfl, hc 5 _ rfl, hc 6 _ rfl, t0, l0, m0, t4, l4, m4, t5, l5, m5⟩

theorem GPool.ext_ {x y : GPool} (h0 : x.memory = y.memory) (h1 : x.workers = y.workers) (h2 : x.active = y.active) : x = y := by
  cases x; cases y; simp_all

def GPool.wt (x : GPool) : Nat := x.memory.wt + wtl GWorker.wt x.workers
def GPool.small (x : GPool) : Prop := (x.memory.small) ∧ (x.workers.length ≤ 1048576 ∧ ∀ y ∈ x.workers, GWorker.small y)
end Go.Tr
