/- Core terms as the laws' data. Printed by gen_core.py. -/
import Derived.Test.YtieemijapiiiiaaGreatSc
import Derived.Test.YtieemijapiiiiaaGreatOa
set_option linter.unusedSimpArgs false
set_option linter.unusedVariables false
namespace Go.Tr
open Go Go.RowKit
abbrev GCore := Cor
abbrev Tree.kind (c : Cor) : Int := (Tree.val c).1
abbrev Tree.value (c : Cor) : Int := (Tree.val c).2.1
abbrev Tree.data (c : Cor) : List Int := (Tree.val c).2.2
def GKid.enc (x : Cor) : List D := Go.Tr.enc uCor x
mutual
def GKid.wt : Cor → Nat
  | .node x l => wtl (fun _ => 0) x.2.2 + GKid.wtL l
def GKid.wtL : List Cor → Nat
  | [] => 0
  | t :: l => 1 + GKid.wt t + GKid.wtL l
end
mutual
def GKid.small : Cor → Prop
  | .node x l => x.2.2.length ≤ 1048576 ∧ (l.length ≤ 1048576 ∧ GKid.smallL l)
def GKid.smallL : List Cor → Prop
  | [] => True
  | t :: l => GKid.small t ∧ GKid.smallL l
end
theorem GKid.wtL_eq : ∀ l : List Cor, GKid.wtL l = wtl GKid.wt l
  | [] => rfl
  | t :: l => by
    rw [GKid.wtL, GKid.wtL_eq l]
    unfold wtl
    simp
    omega
theorem GKid.smallL_iff : ∀ {l : List Cor}, GKid.smallL l ↔ ∀ y ∈ l, GKid.small y
  | [] => by simp [GKid.smallL]
  | t :: l => by rw [GKid.smallL, GKid.smallL_iff (l := l)]; simp
def GCore.enc (x : GCore) : List D := [.v (.int .i64 x.kind), .v (.int .i64 x.value), .sl x.data.length (x.data.flatMap intE), .sl x.kids.length (x.kids.flatMap GKid.enc)]
def GCore.wt (x : GCore) : Nat := wtl (fun _ => 0) x.data + wtl GKid.wt x.kids
def GCore.small (x : GCore) : Prop := (x.data.length ≤ 1048576) ∧ (x.kids.length ≤ 1048576 ∧ ∀ y ∈ x.kids, GKid.small y)
theorem GCore.enc_eq : GKid.enc = GCore.enc := funext fun x => by
  unfold GKid.enc GCore.enc
  rw [enc_tree]
  rfl
theorem GCore.wt_eq : GKid.wt = GCore.wt := funext fun x => by
  cases x with
  | node x l => unfold GKid.wt; rw [GKid.wtL_eq]; rfl
theorem GCore.small_eq : GKid.small = GCore.small := funext fun x => by
  cases x with
  | node x l => unfold GKid.small; rw [GKid.smallL_iff]; rfl
theorem sizL_one : ∀ (l : List Cor) (a : Nat), sizL l (a + 1) = sizL l a + 1
  | [], a => by unfold sizL; rfl
  | t :: l, a => by
    rw [sizL, sizL, ← sizL_one l (a + sizT t), show a + 1 + sizT t = a + sizT t + 1 by omega]
theorem kidsLt {x : Cor} {N : Nat} (h : sizT x ≤ N) : sizL x.kids 0 < N := by
  cases x with
  | node x l =>
    rw [sizT_node] at h
    have h1 : sizL l 1 = sizL l 0 + 1 := sizL_one l 0
    show sizL l 0 < N
    omega
theorem memLe {xs : List Cor} {k : Nat} {x : Cor} {N : Nat} (h : xs[k]? = some x) (hN : sizL xs 0 ≤ N) : sizT x ≤ N := by
  have h1 : sizT x + 0 ≤ sizL xs 0 := sizL_mem (List.mem_of_getElem? h)
  omega
theorem GCore.enc_len (x : GCore) : (GCore.enc x).length = 4 := rfl
theorem GCore.us {w : World} {x : GCore} {bs us} (h0 : TN w (GCore.enc x) bs us) : ∃ (A2 : Option Addr) (c2 : Nat) (b2 : List Nat) (A3 : Option Addr) (c3 : Nat) (b3 : List Nat), us = [.int .i64 x.kind, .int .i64 x.value, .slice A2 x.data.length c2, .slice A3 x.kids.length c3] ∧ bs = b2 ++ b3 ∧ T1 w (.sl x.data.length (x.data.flatMap intE)) b2 (.slice A2 x.data.length c2) ∧ x.data.length ≤ c2 ∧ c2 ≤ maxLen ∧ T1 w (.sl x.kids.length (x.kids.flatMap GKid.enc)) b3 (.slice A3 x.kids.length c3) ∧ x.kids.length ≤ c3 ∧ c3 ≤ maxLen := by
  unfold GCore.enc at h0
  obtain ⟨u0, rfl, h1⟩ := TN.v_cons h0
  obtain ⟨u1, rfl, h2⟩ := TN.v_cons h1
  obtain ⟨A2, c2, b2, r2, u2, rfl, rfl, t2, l2, m2, h3⟩ := TN.sl_cons h2
  obtain ⟨A3, c3, b3, r3, u3, rfl, rfl, t3, l3, m3, h4⟩ := TN.sl_cons h3
  obtain ⟨rfl, rfl⟩ := TN.end_ h4
  exact ⟨A2, c2, b2, A3, c3, b3, rfl, by simp, t2, l2, m2, t3, l3, m3⟩
theorem GCore.mk_ {w : World} {x : GCore} {A2 c2 b2} (t2 : T1 w (.sl x.data.length (x.data.flatMap intE)) b2 (.slice A2 x.data.length c2)) {A3 c3 b3} (t3 : T1 w (.sl x.kids.length (x.kids.flatMap GKid.enc)) b3 (.slice A3 x.kids.length c3)) : TN w (GCore.enc x) (b2 ++ b3) [.int .i64 x.kind, .int .i64 x.value, .slice A2 x.data.length c2, .slice A3 x.kids.length c3] := by
  have h := (show TN w [.v (.int .i64 x.kind), .v (.int .i64 x.value), .sl x.data.length (x.data.flatMap intE), .sl x.kids.length (x.kids.flatMap GKid.enc)] _ _ from TN.v_mk rfl (TN.v_mk rfl (TN.sl_mk t2 (TN.sl_mk t3 (TN.done)))))
  try simp only [List.append_nil] at h
  unfold GCore.enc
  first | exact h | simpa only [List.append_assoc] using h
theorem GCore.get_ {w : World} {xs : List GCore} {bs : List Nat} {A : Option Addr} {n n' c : Nat} (h : T1 w (.sl n (xs.flatMap GCore.enc)) bs (.slice A n' c)) (hm : xs.length = n) {k : Nat} (hk : k < n) :
    ∃ (b off : Nat) (x : GCore) (A2 : Option Addr) (c2 : Nat) (b2 : List Nat) (A3 : Option Addr) (c3 : Nat) (b3 : List Nat), A = some ⟨b, off, none⟩ ∧ b < w.heap.size ∧ Hid (xs[k]? = some x) ∧ w.cell? ⟨b, off + k * 4, none⟩ = some (.int .i64 x.kind) ∧ w.cell? ⟨b, off + k * 4 + 1, none⟩ = some (.int .i64 x.value) ∧ w.cell? ⟨b, off + k * 4 + 2, none⟩ = some (.slice A2 x.data.length c2) ∧ w.cell? ⟨b, off + k * 4 + 3, none⟩ = some (.slice A3 x.kids.length c3) ∧ T1 w (.sl x.data.length (x.data.flatMap intE)) b2 (.slice A2 x.data.length c2) ∧ x.data.length ≤ c2 ∧ c2 ≤ maxLen ∧ T1 w (.sl x.kids.length (x.kids.flatMap GKid.enc)) b3 (.slice A3 x.kids.length c3) ∧ x.kids.length ≤ c3 ∧ c3 ≤ maxLen := by
  obtain ⟨_, b, off, p1, p2, p3, us, hA, _, hb, hc, ht⟩ := T1.at_ GCore.enc_len h hm hk
  obtain ⟨A2, c2, b2, A3, c3, b3, rfl, _, t2, l2, m2, t3, l3, m3⟩ := GCore.us ht
  exact ⟨b, off, xs[k], A2, c2, b2, A3, c3, b3, hA, hb, List.getElem?_eq_getElem (hm ▸ hk), hc 0 _ rfl, hc 1 _ rfl, hc 2 _ rfl, hc 3 _ rfl, t2, l2, m2, t3, l3, m3⟩
theorem GCore.ext_ {x y : GCore} (h0 : x.kind = y.kind) (h1 : x.value = y.value) (h2 : x.data = y.data) (h3 : x.kids = y.kids) : x = y := by
  cases x with
  | node x l =>
    cases y with
    | node y m =>
      obtain ⟨a, b, c⟩ := x
      obtain ⟨a2, b2, c2⟩ := y
      simp_all [Tree.kind, Tree.value, Tree.data, Tree.val, Tree.kids]
structure GBook where
  defs : (List GCore)
def GBook.enc (x : GBook) : List D := [.sl x.defs.length (x.defs.flatMap GCore.enc)]
theorem GBook.enc_len (x : GBook) : x.enc.length = 1 := rfl
theorem GBook.us {w : World} {x : GBook} {bs us} (h0 : TN w x.enc bs us) : ∃ (A0 : Option Addr) (c0 : Nat) (b0 : List Nat), us = [.slice A0 x.defs.length c0] ∧ bs = b0 ∧ T1 w (.sl x.defs.length (x.defs.flatMap GCore.enc)) b0 (.slice A0 x.defs.length c0) ∧ x.defs.length ≤ c0 ∧ c0 ≤ maxLen := by
  unfold GBook.enc at h0
  obtain ⟨A0, c0, b0, r0, u0, rfl, rfl, t0, l0, m0, h1⟩ := TN.sl_cons h0
  obtain ⟨rfl, rfl⟩ := TN.end_ h1
  exact ⟨A0, c0, b0, rfl, by simp, t0, l0, m0⟩
theorem GBook.mk_ {w : World} {x : GBook} {A0 c0 b0} (t0 : T1 w (.sl x.defs.length (x.defs.flatMap GCore.enc)) b0 (.slice A0 x.defs.length c0)) : TN w x.enc (b0) [.slice A0 x.defs.length c0] := by
  have h := (show TN w [.sl x.defs.length (x.defs.flatMap GCore.enc)] _ _ from TN.sl_mk t0 (TN.done))
  try simp only [List.append_nil] at h
  unfold GBook.enc
  first | exact h | simpa only [List.append_assoc] using h
theorem GBook.get_ {w : World} {xs : List GBook} {bs : List Nat} {A : Option Addr} {n n' c : Nat} (h : T1 w (.sl n (xs.flatMap GBook.enc)) bs (.slice A n' c)) (hm : xs.length = n) {k : Nat} (hk : k < n) :
    ∃ (b off : Nat) (x : GBook) (A0 : Option Addr) (c0 : Nat) (b0 : List Nat), A = some ⟨b, off, none⟩ ∧ b < w.heap.size ∧ Hid (xs[k]? = some x) ∧ w.cell? ⟨b, off + k, none⟩ = some (.slice A0 x.defs.length c0) ∧ T1 w (.sl x.defs.length (x.defs.flatMap GCore.enc)) b0 (.slice A0 x.defs.length c0) ∧ x.defs.length ≤ c0 ∧ c0 ≤ maxLen := by
  obtain ⟨_, b, off, p1, p2, p3, us, hA, _, hb, hc, ht⟩ := T1.at_ GBook.enc_len h hm hk
  obtain ⟨A0, c0, b0, rfl, _, t0, l0, m0⟩ := GBook.us ht
  exact ⟨b, off, xs[k], A0, c0, b0, hA, hb, List.getElem?_eq_getElem (hm ▸ hk), by simpa using hc 0 _ rfl, t0, l0, m0⟩
theorem GBook.ext_ {x y : GBook} (h0 : x.defs = y.defs) : x = y := by
  cases x; cases y; simp_all
def GBook.wt (x : GBook) : Nat := wtl GCore.wt x.defs
def GBook.small (x : GBook) : Prop := (x.defs.length ≤ 1048576 ∧ ∀ y ∈ x.defs, GCore.small y)
end Go.Tr
