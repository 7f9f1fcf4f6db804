/- What the laws number and look for again in these types. Printed by gen_mk.py. -/
import Derived.Test.YtieemijapiiiiaaGreatProg
import Derived.Test.YtieemijapiiiiaaGreatSc
import Derived.Test.YtieemijapiiiiaaGreatDCr
import Derived.BigGuardPart
import Derived.Outline
import Derived.Deep.CutBlock
set_option linter.unusedSimpArgs false
set_option linter.unusedVariables false
namespace Go.Tr
open Go Go.RowKit
def GCore.mked (x : GCore) (k : Int) : List D := [.v (.int .i64 x.kind)] ++ ([.v (.int .i64 x.value)] ++ ([.sl x.data.length (mkN (x.data.flatMap intE) (k))] ++ ([.sl x.kids.length (mkN (x.kids.flatMap GKid.enc) (k + (cN (x.data.flatMap intE) : Nat)))])))
def GCore.cnt (x : GCore) : Nat := cN (x.data.flatMap intE) + cN (x.kids.flatMap GKid.enc)
def GBook.mked (x : GBook) (k : Int) : List D := [.sl x.defs.length (mkN (x.defs.flatMap GCore.enc) (k))]
def GBook.cnt (x : GBook) : Nat := cN (x.defs.flatMap GCore.enc)
mutual
theorem GKid.cnE : ∀ x : Cor, cN (GKid.enc x) ≤ 32 * (1 + GKid.wt x)
  | .node x l => by
    have h2 := cN_flat_le (f := intE) (g := (fun _ => 0)) intE_cn x.2.2
    have h3 := GKid.cnL l
    have hc : cN (GCore.enc (.node x l)) = 1 + 1 + cN (x.2.2.flatMap intE) + cN (l.flatMap GKid.enc) := by show cN [.v (.int .i64 x.1), .v (.int .i64 x.2.1), .sl x.2.2.length (x.2.2.flatMap intE), .sl l.length (l.flatMap GKid.enc)] = _; simp only [cN_cons, cD_v, cD_sl, cN_nil] <;> omega
    rw [GCore.enc_eq, hc, GKid.wt]
    omega
theorem GKid.cnL : ∀ l : List Cor, cN (l.flatMap GKid.enc) ≤ 32 * GKid.wtL l
  | [] => by rw [List.flatMap_nil, cN_nil]; omega
  | t :: l => by
    rw [List.flatMap_cons, cN_append, GKid.wtL]
    have h1 := GKid.cnE t
    have h2 := GKid.cnL l
    omega
end
theorem GCore.cnE (x : GCore) : cN (GCore.enc x) ≤ 32 * (1 + (GCore.wt x)) := by
  have h2 := cN_flat_le (f := intE) (g := (fun _ => 0)) intE_cn x.data
  have h3 := cN_flat_le (f := GKid.enc) (g := GKid.wt) GKid.cnE x.kids
  have hw : (GCore.wt x) = wtl (fun _ => 0) x.data + wtl GKid.wt x.kids := rfl
  have hc : cN (GCore.enc x) = 1 + 1 + cN (x.data.flatMap intE) + cN (x.kids.flatMap GKid.enc) := by show cN [.v (.int .i64 x.kind), .v (.int .i64 x.value), .sl x.data.length (x.data.flatMap intE), .sl x.kids.length (x.kids.flatMap GKid.enc)] = _; simp only [cN_cons, cD_v, cD_sl, cN_nil] <;> omega
  omega
theorem GCore.cnt_le (x : GCore) : (GCore.cnt x) ≤ 32 * (GCore.wt x) := by
  have h2 := cN_flat_le (f := intE) (g := (fun _ => 0)) intE_cn x.data
  have h3 := cN_flat_le (f := GKid.enc) (g := GKid.wt) GKid.cnE x.kids
  have hw : (GCore.wt x) = wtl (fun _ => 0) x.data + wtl GKid.wt x.kids := rfl
  have hc : (GCore.cnt x) = cN (x.data.flatMap intE) + cN (x.kids.flatMap GKid.enc) := rfl
  omega
theorem GBook.cnE (x : GBook) : cN x.enc ≤ 32 * (1 + x.wt) := by
  have h0 := cN_flat_le (f := GCore.enc) (g := GCore.wt) GCore.cnE x.defs
  have hw : x.wt = wtl GCore.wt x.defs := rfl
  have hc : cN x.enc = cN (x.defs.flatMap GCore.enc) := by show cN [.sl x.defs.length (x.defs.flatMap GCore.enc)] = _; simp only [cN_cons, cD_v, cD_sl, cN_nil] <;> omega
  omega
theorem GBook.cnt_le (x : GBook) : x.cnt ≤ 32 * x.wt := by
  have h0 := cN_flat_le (f := GCore.enc) (g := GCore.wt) GCore.cnE x.defs
  have hw : x.wt = wtl GCore.wt x.defs := rfl
  have hc : x.cnt = cN (x.defs.flatMap GCore.enc) := rfl
  omega
end Go.Tr
namespace Go.Proofs.YtieemijapiiiiaaGreat
open Go Go.RowKit Go.Proofs Go.Tr
set_option maxHeartbeats 4000000 in
theorem markInt64S_any (xs : List Int) (k : Int) {A : Option Addr} {c lo : Nat} {bs} (w : World) (hx : T1 w (.sl xs.length (xs.flatMap intE)) bs (.slice A xs.length c)) (ho : Own lo w bs) (hn' : xs.length ≤ maxLen) (hk0 : 0 ≤ k) (hk1 : k + (cN (xs.flatMap intE) : Nat) ≤ 4611686018427387904) :
    Calls Tryz.prog 19 #[.slice A xs.length c, .int .i64 k] w fun e w' => ∃ r : Int, e = .returned (.int .i64 r) ∧ Hid (r = k + (cN (xs.flatMap intE) : Nat)) ∧ T1 w' (.sl xs.length (mkN (xs.flatMap intE) k)) bs (.slice A xs.length c) ∧ Onl bs w w' ∧ Own lo w' bs := by
  unfold maxLen at hn'
  obtain ⟨n, hn⟩ : ∃ n, xs.length = n := ⟨_, rfl⟩
  rw [hn] at hx hn' ⊢
  have Hn : Hid (xs.length = n) := hn
  clear hn
  have hkk := Lib.hid hk1
  clear hk1
  go_enter Tryz.func19, Tryz.ntmps19
  go_wp2_with fail
  go_loopw [1, 5] (fun l i w' => ∃ (j : Nat) (m : Int), j ≤ n ∧ i = .int .i64 j ∧ l = .int .i64 m ∧ Hid (m = k + (cN ((xs.take j).flatMap intE) : Nat)) ∧ 0 ≤ m ∧ T1 w' (.sl n (mkN ((xs.take j).flatMap intE) k ++ (xs.drop j).flatMap intE)) bs (.slice A n c) ∧ Onl bs w w' ∧ Own lo w' bs) (fun _ i _ => n - (intOf i).toNat)
  case atStart => exact ⟨0, k, Nat.zero_le _, rfl, rfl, Lib.hid (by simp [cN_nil]), hk0, by simpa [mkN_nil] using hx, Onl.refl _ _, ho⟩
  case round =>
    obtain ⟨j, m, hj, rfl, rfl, hm, hm0, ht, hon, hw⟩ := hrel
    by_cases hlt : j < n
    · obtain ⟨x, hxk, hsp, hll, hsn, hdr⟩ := flat_split intE 1 (fun _ => rfl) Hn hlt
      rw [hdr.out, List.flatMap_cons] at ht
      have hml : (mkN ((xs.take j).flatMap intE) k).length = j * 1 := by rw [mkN_len, hll]
      generalize hL : mkN ((xs.take j).flatMap intE) k = L at ht hml
      have HL := Lib.hid hL
      clear hL hll
      have hcx : Hid (cN (intE x) = 1) := by show cN [.v (.int .i64 x)] = _; simp only [cN_cons, cD_v, cD_sl, cN_nil] <;> omega
      have hbd : m + 1 ≤ 4611686018427387904 := by
        have h1 := hm.out; have h2 := hkk.out; have h3 := hcx.out
        have h4 := hsp.out
        have h5 : cN (xs.flatMap intE) = cN ((xs.take j).flatMap intE) + (cN (intE x) + cN ((xs.drop (j + 1)).flatMap intE)) := by rw [h4, cN_append, cN_append]
        omega
      replace ht : T1 wr (.sl n (L ++ (.v (.int .i64 x)) :: (xs.drop (j + 1)).flatMap intE)) bs (.slice A n c) := ht
      generalize hR : (xs.drop (j + 1)).flatMap intE = R at ht
      have HR := Lib.hid hR
      clear hR
      obtain ⟨b, off, rfl, -, hbm, hbl, hblo, hfz⟩ := ht.row hw
      have z0_0 : T1 wr (.sl n (L ++ (.v (.int .i64 x)) :: R)) bs (.slice (some ⟨b, off, none⟩) n c) := by exact ht
      have y0_0 := (z0_0.leaf hw (o := off + j) rfl (by simp only [List.length_append, List.length_cons, List.length_nil, hml] <;> omega)).1
      obtain ⟨t0, u0, v0⟩ := (ht.leaf hw (o := off + j) rfl (by simp only [List.length_append, List.length_cons, List.length_nil, hml] <;> omega)).2 (.int .i64 m) rfl
      replace t0 : T1 (World.setCell wr ⟨b, off + j, none⟩ (.int .i64 m)) (.sl n (L ++ (.v (.int .i64 m)) :: R)) bs (.slice (some ⟨b, off, none⟩) n c) := t0
      clear z0_0
      go_wp2_with fail
      have hmk : mkN (intE x) m = [.v (.int .i64 m)] := by
        show mkN [.v (.int .i64 x)] m = _
        simp only [mkN_cons, mkN_nil, mkD_int, mkD_sl, cD_v, cD_sl]
        all_goals (exact (cons_eq (vI_eq (by omega)) rfl))
      have hfin : mkN ((xs.take (j + 1)).flatMap intE) k ++ (xs.drop (j + 1)).flatMap intE = L ++ (.v (.int .i64 m)) :: R := by
        rw [hsn.out, mkN_append, HL.out, ← hm.out, hmk, List.append_assoc, HR.out]; rfl
      exact ⟨⟨j + 1, m + 1, by omega, by go_num, by first | rfl | go_num, Lib.hid (by rw [hsn.out, cN_append]; have h8 := hcx.out; have h9 := hm.out; omega), by omega, by rw [hfin]; exact t0, (hon).trans u0, v0⟩, by simp [intOf]; omega⟩
    · have : j = n := by omega
      subst this
      go_wp2_with fail
      go_ret
      have hl := Hn.out
      rw [List.take_of_length_le (by omega), List.drop_of_length_le (by omega)] at ht
      have hm' := hm.out
      rw [List.take_of_length_le (by omega)] at hm'
      exact ⟨m, rfl, hm', by simpa using ht, hon, hw⟩

set_option maxHeartbeats 4000000 in
theorem heldInt64S_any (xs : List Int) (k r : Int) (n : Nat) {A : Option Addr} {c : Nat} {bs : List Nat} (w : World) (hx : T1 w (.sl n (mkN (xs.flatMap intE) k)) bs (.slice A n c)) (Hn : Hid (xs.length = n)) (hk0 : 0 ≤ k) (hk1 : r ≤ 4611686018427387904) (Hr : Hid (r = k + (cN (xs.flatMap intE) : Nat))) : Calls Tryz.prog 20 #[.slice A n c, .int .i64 k] w fun e w' => e = .returned (.int .i64 (r)) ∧ Ext w w' := by
  refine quiet_start fun e => ?_
  have hn := hx.nle
  go_enter Tryz.func20, Tryz.ntmps20
  go_wp2_with fail
  repeat (refine wp_region_ext0 _ (by kernel_rfl) (by kernel_rfl) ?_; (repeat (go_big_quiet_step (fail))); refine wpQuiet_nil ?_; intro e; go_wp2_with fail)
  go_loopw [1, 5] (fun l i w' => ∃ (j : Nat) (m : Int), j ≤ n ∧ i = .int .i64 j ∧ l = .int .i64 m ∧ Hid (m = k + (cN ((xs.take j).flatMap intE) : Nat)) ∧ 0 ≤ m ∧ ∃ e : ExtOf w, w' = e.to) (fun _ i _ => n - (intOf i).toNat)
  case atStart => exact ⟨0, k, Nat.zero_le _, rfl, rfl, Lib.hid (by simp [cN_nil]), hk0, _, rfl⟩
  case round =>
    obtain ⟨j, m, hj, rfl, rfl, hm, hm0, e, rfl⟩ := hrel
    by_cases hlt : j < n
    · obtain ⟨x, hxk, hsp, hll, hsn, -⟩ := flat_split intE 1 (fun _ => rfl) Hn hlt
      have hcx : Hid (cN (intE x) = 1) := by show cN [.v (.int .i64 x)] = _; simp only [cN_cons, cD_v, cD_sl, cN_nil] <;> omega
      have hbd : m + 1 ≤ 4611686018427387904 := by
        have h1 := hm.out; have h2 := Hr.out; have h3 := hcx.out
        have h5 : cN (xs.flatMap intE) = cN ((xs.take j).flatMap intE) + (cN (intE x) + cN ((xs.drop (j + 1)).flatMap intE)) := by rw [hsp.out, cN_append, cN_append]
        omega
      have hmk : mkN (intE x) m = [.v (.int .i64 (m))] := by
        show mkN [.v (.int .i64 x)] m = _
        simp only [mkN_cons, mkN_nil, mkD_int, mkD_sl, cD_v, cD_sl]
        all_goals (exact (cons_eq (vI_eq (by omega)) rfl))
      have hxx := hx
      rw [hsp.out, mkN_append, mkN_append, ← hm.out, hmk] at hxx
      have hml : (mkN ((xs.take j).flatMap intE) k).length = j * 1 := by rw [mkN_len, hll]
      generalize hL : mkN ((xs.take j).flatMap intE) k = L at hxx hml
      clear hL hll hmk
      generalize hR : mkN ((xs.drop (j + 1)).flatMap intE) (m + (cN (intE x) : Nat)) = R at hxx
      clear hR
      replace hxx : T1 w (.sl n (L ++ (.v (.int .i64 (m))) :: R)) bs (.slice A n c) := hxx
      obtain ⟨b, off, rfl⟩ := hxx.krow
      have z0 : T1 w (.sl n (L ++ (.v (.int .i64 (m))) :: R)) bs (.slice (some ⟨b, off, none⟩) n c) := by exact hxx
      have y0 := z0.kleaf (o := off + j) rfl (by simp only [List.length_append, List.length_cons, List.length_nil, hml] <;> omega)
      clear hxx z0
      go_wp2_with fail
      repeat (refine wp_region_ext0 _ (by kernel_rfl) (by kernel_rfl) ?_; (repeat (go_big_quiet_step (fail))); refine wpQuiet_nil ?_; intro e; go_wp2_with fail)
      exact ⟨⟨j + 1, m + 1, by omega, by go_num, by first | rfl | go_num, Lib.hid (by rw [hsn.out, cN_append]; have h8 := hcx.out; have h9 := hm.out; omega), by omega, _, rfl⟩, by simp [intOf]; omega⟩
    · have : j = n := by omega
      subst this
      have E : Hid (r = m) := by
        have h1 := hm.out; have h2 := Hr.out; have h3 := Hn.out
        rw [List.take_of_length_le (by omega)] at h1
        show _ = _; omega
      go_wp2_with fail
      repeat (refine wp_region_ext0 _ (by kernel_rfl) (by kernel_rfl) ?_; (repeat (go_big_quiet_step (fail))); refine wpQuiet_nil ?_; intro e; go_wp2_with fail)
      go_ret
      exact ⟨by rw [E.out]; rfl, _, rfl⟩

def MarkKidP (N : Nat) : Prop := ∀ (xs : List Cor), sizL xs 0 < N → ∀  (k : Int) {A : Option Addr} {c lo : Nat} {bs : List Nat} (w : World) (hx : T1 w (.sl xs.length (xs.flatMap GKid.enc)) bs (.slice A xs.length c)) (ho : Own lo w bs) (hn' : xs.length ≤ maxLen) (hk0 : 0 ≤ k) (hk1 : k + (cN (xs.flatMap GKid.enc) : Nat) ≤ 4611686018427387904), Calls Tryz.prog 33 #[.slice A xs.length c, .int .i64 k] w fun e w' => ∃ r : Int, e = .returned (.int .i64 r) ∧ Hid (r = k + (cN (xs.flatMap GKid.enc) : Nat)) ∧ T1 w' (.sl xs.length (mkN (xs.flatMap GKid.enc) k)) bs (.slice A xs.length c) ∧ Onl bs w w' ∧ Own lo w' bs
set_option maxHeartbeats 4000000 in
theorem markCore_of (N : Nat) (IH : MarkKidP N) (x : GCore) (hN : sizT x ≤ N) (k : Int) {bs us} {lo : Nat} (w : World) (hx : TN w (GCore.enc x) bs us) (ho : Own lo w bs) (hk0 : 0 ≤ k) (hk1 : k + ((GCore.cnt x) : Nat) ≤ 4611686018427387904) :
    Calls Tryz.prog 14 #[.agg us.toArray, .int .i64 k] w fun e w' => ∃ r : Int, e = .returned (.int .i64 r) ∧ Hid (r = k + ((GCore.cnt x) : Nat)) ∧ TN w' (GCore.mked x k) bs us ∧ Onl bs w w' ∧ Own lo w' bs := by
  have hlt := hx.lt
  obtain ⟨A2, c2, b2, A3, c3, b3, rfl, rfl, t2, l2, m2, t3, l3, m3⟩ := GCore.us hx
  obtain ⟨o2, o3, d3⟩ := Own.parts ho
  have e2_3 : ∀ y ∈ b2, y ∉ b3 := fun y hm => d3 y hm
  have g2 : w.heap.size ∉ b2 := fun hm => by have := hlt _ (show w.heap.size ∈ b2 ++ b3 by simp [hm]); omega
  have g3 : w.heap.size ∉ b3 := fun hm => by have := hlt _ (show w.heap.size ∈ b2 ++ b3 by simp [hm]); omega
  have B0 : ∀ S, Below w.heap.size w (w.alloc S) := fun _ => (Below.refl _ _).alloc (Nat.le_refl _) _
  have hcn : (GCore.cnt x) = cN (x.data.flatMap intE) + cN (x.kids.flatMap GKid.enc) := rfl
  rw [hcn] at hk1
  clear hcn hx
  go_enter Tryz.func14, Tryz.ntmps14
  go_wp2_with fail
  refine (markInt64S_any x.data k _ (t2.below (B0 _)) (o2.below (B0 _)) (Nat.le_trans l2 m2) (by omega) (by omega)).mono ?_
  rintro _ w1 ⟨r1, rfl, hr1, S0, f1, V0⟩
  have p1 : 0 ≤ r1 := by have := hr1.out; omega
  have b1_ : r1 + (cN (x.kids.flatMap GKid.enc) : Nat) ≤ 4611686018427387904 := by have := hr1.out; omega
  have u1 := (f1.other w.heap.size (by simp) g2).trans (heap_alloc_new w _)
  have z1 : w.heap.size < w1.heap.size := by have := f1.size; simp at this; omega
  have F1 : Onl (b2 ++ b3) w w1 := Onl.trans (Onl.of_ext (B0 _)) (f1.sub (fun y hy => by first | exact hy | (simp at hy ⊢; grind)))
  have q1_0 := cell_of_row _ _ 0 _ _ _ u1
  have q1_1 := cell_of_row _ _ 1 _ _ _ u1
  have q1_2 := cell_of_row _ _ 2 _ _ _ u1
  have q1_3 := cell_of_row _ _ 3 _ _ _ u1
  simp only [List.getElem?_toArray, List.getElem?_cons_zero, List.getElem?_cons_succ] at q1_0 q1_1 q1_2 q1_3
  replace t3 := T1.onl (t3.below (B0 _)) f1 (fun y hy hm => e2_3 y hm hy)
  replace o3 := (o3.below (B0 _)).onl f1
  go_wp2_with fail
  refine (IH x.kids (kidsLt hN) r1 _ t3 o3 (Nat.le_trans l3 m3) (by omega) (by omega)).mono ?_
  rintro _ w2 ⟨r2, rfl, hr2, S1, f2, V1⟩
  have p2 : 0 ≤ r2 := by have := hr2.out; omega
  have b2_ : r2 + 0 ≤ 4611686018427387904 := by have := hr2.out; omega
  have u2 := (f2.other w.heap.size z1 g3).trans u1
  have z2 : w.heap.size < w2.heap.size := by have := f2.size; omega
  have F2 := F1.trans (f2.sub (cs := b2 ++ b3) (fun y hy => by first | exact hy | (simp at hy ⊢; grind)))
  clear q1_0 q1_1 q1_2 q1_3 u1
  have q2_0 := cell_of_row _ _ 0 _ _ _ u2
  have q2_1 := cell_of_row _ _ 1 _ _ _ u2
  have q2_2 := cell_of_row _ _ 2 _ _ _ u2
  have q2_3 := cell_of_row _ _ 3 _ _ _ u2
  simp only [List.getElem?_toArray, List.getElem?_cons_zero, List.getElem?_cons_succ] at q2_0 q2_1 q2_2 q2_3
  replace S0 := T1.onl S0 f2 e2_3
  go_wp2_with fail
  go_ret
  refine ⟨r2, rfl, ?_, ?_, F2, ho.onl F2⟩
  · show _ = _
    have hcn : (GCore.cnt x) = cN (x.data.flatMap intE) + cN (x.kids.flatMap GKid.enc) := rfl
    have h1 := hr1.out; have h2 := hr2.out; omega
  · have h1 := hr1.out; have h2 := hr2.out; skip
    rw [show r1 = k + (cN (x.data.flatMap intE) : Nat) from by omega] at S1
    have h := (TN.append.2 ⟨_, _, _, _, rfl, rfl, (TN.v_mk (x := .int .i64 x.kind) rfl TN.done), (TN.append.2 ⟨_, _, _, _, rfl, rfl, (TN.v_mk (x := .int .i64 x.value) rfl TN.done), (TN.append.2 ⟨_, _, _, _, rfl, rfl, (TN.sl_mk S0 TN.done), (TN.sl_mk S1 TN.done)⟩)⟩)⟩)
    simp only [List.append_nil, List.nil_append, List.append_assoc, List.cons_append] at h
    unfold GCore.mked
    simpa only [List.append_nil, List.nil_append, List.append_assoc, List.cons_append] using h
def HeldKidP (N : Nat) : Prop := ∀ (xs : List Cor), sizL xs 0 < N → ∀  (k r : Int) (n : Nat) {A : Option Addr} {c : Nat} {bs : List Nat} (w : World) (hx : T1 w (.sl n (mkN (xs.flatMap GKid.enc) k)) bs (.slice A n c)) (Hn : Hid (xs.length = n)) (hk0 : 0 ≤ k) (hk1 : r ≤ 4611686018427387904) (Hr : Hid (r = k + (cN (xs.flatMap GKid.enc) : Nat))), Calls Tryz.prog 34 #[.slice A n c, .int .i64 k] w fun e w' => e = .returned (.int .i64 (r)) ∧ Ext w w'
set_option maxHeartbeats 4000000 in
theorem heldCore_of (N : Nat) (IH : HeldKidP N) (x : GCore) (hN : sizT x ≤ N) (k r : Int) {bs us} (w : World) (hx : TN w (GCore.mked x k) bs us) (hk0 : 0 ≤ k) (hk1 : r ≤ 4611686018427387904) (Hr : Hid (r = k + ((GCore.cnt x) : Nat))) : Calls Tryz.prog 15 #[.agg us.toArray, .int .i64 k] w fun e w' => e = .returned (.int .i64 (r)) ∧ Ext w w' := by
  refine quiet_start fun e => ?_
  unfold GCore.mked at hx
  obtain ⟨p1, P1, u1, U1, rfl, rfl, x1, hx1⟩ := TN.append.1 hx
  clear hx
  obtain ⟨U_1, rfl, x1_⟩ := TN.v_cons x1
  obtain ⟨rfl, rfl⟩ := TN.end_ x1_
  clear x1_ x1
  obtain ⟨p2, P2, u2, U2, rfl, rfl, x2, hx2⟩ := TN.append.1 hx1
  clear hx1
  obtain ⟨U_2, rfl, x2_⟩ := TN.v_cons x2
  obtain ⟨rfl, rfl⟩ := TN.end_ x2_
  clear x2_ x2
  obtain ⟨p3, P3, u3, U3, rfl, rfl, x3, hx3⟩ := TN.append.1 hx2
  clear hx2
  obtain ⟨A2, c2, b2, r2_, U_3, rfl, rfl, t2, l2, m2, x3_⟩ := TN.sl_cons x3
  obtain ⟨rfl, rfl⟩ := TN.end_ x3_
  clear x3_ x3
  have x4 := hx3
  clear hx3
  obtain ⟨A3, c3, b3, r3_, U_4, rfl, rfl, t3, l3, m3, x4_⟩ := TN.sl_cons x4
  obtain ⟨rfl, rfl⟩ := TN.end_ x4_
  clear x4_ x4
  obtain ⟨r1, hr1⟩ : ∃ q : Int, q = k + ((cN (x.data.flatMap intE) : Nat) : Int) := ⟨_, rfl⟩
  obtain ⟨r2, hr2⟩ : ∃ q : Int, q = r1 + ((cN (x.kids.flatMap GKid.enc) : Nat) : Int) := ⟨_, rfl⟩
  rw [show k + (cN (x.data.flatMap intE) : Nat) = r1 from by omega] at t3
  have hcn : (GCore.cnt x) = cN (x.data.flatMap intE) + cN (x.kids.flatMap GKid.enc) := rfl
  have hE : r2 = r := by have h1 := Hr.out; omega
  have E := Lib.hid hE
  have p1 : 0 ≤ r1 := by omega
  have q1 : r1 ≤ 4611686018427387904 := by have h1 := Hr.out; omega
  have Hr1 : Hid (r1 = k + ((cN (x.data.flatMap intE) : Nat) : Int)) := hr1
  have p2 : 0 ≤ r2 := by omega
  have q2 : r2 ≤ 4611686018427387904 := by have h1 := Hr.out; omega
  have Hr2 : Hid (r2 = r1 + ((cN (x.kids.flatMap GKid.enc) : Nat) : Int)) := hr2
  clear hcn hE Hr hr1 hr2
  go_enter Tryz.func15, Tryz.ntmps15
  go_upto_region 1 with (fail)
  generalize hgg : e.to.heap.size = g
  refine rebase_box e hgg (fun w1 e hx1 hgeg hltg cg => ?_)
  clear hgg
  replace t2 := t2.below hx1
  replace t3 := t3.below hx1
  simp only [List.cons_append, List.nil_append, List.append_nil] at cg
  have y0 := cg.always hltg 0 _ rfl
  have y1 := cg.always hltg 1 _ rfl
  have y2 := cg.always hltg 2 _ rfl
  have y3 := cg.always hltg 3 _ rfl
  simp only [Nat.zero_add] at y0 y1 y2 y3
  clear cg
  have C1 : Hid (QC Tryz.prog w1 _ _ _) := fun W hW => heldInt64S_any x.data (k) r1 x.data.length W (t2.below hW) Hid_rfl (by omega) q1 Hr1
  have C2 : Hid (QC Tryz.prog w1 _ _ _) := fun W hW => IH x.kids (kidsLt hN) (r1) r2 x.kids.length W (t3.below hW) Hid_rfl (by omega) q2 Hr2
  go_wp2_with (first | (go_at_call 20; with_reducible refine (C1.out.at_ _).mono ?_; rintro _ _ ⟨rfl, e, rfl⟩) | (go_at_call 34; with_reducible refine (C2.out.at_ _).mono ?_; rintro _ _ ⟨rfl, e, rfl⟩))
  repeat (refine wp_region_ext0 _ (by kernel_rfl) (by kernel_rfl) ?_; (repeat (go_big_quiet_step ((first | with_reducible exact C1.out.at_ _ | with_reducible exact C2.out.at_ _)))); refine wpQuiet_nil ?_; intro e; go_wp2_with (first | (go_at_call 20; with_reducible refine (C1.out.at_ _).mono ?_; rintro _ _ ⟨rfl, e, rfl⟩) | (go_at_call 34; with_reducible refine (C2.out.at_ _).mono ?_; rintro _ _ ⟨rfl, e, rfl⟩)))
  go_ret
  exact ⟨by rw [← E.out]; rfl, ExtOf.old hx1 e⟩
set_option maxHeartbeats 4000000 in
theorem markCoreS_of (N : Nat) (IH : MarkKidP N) (xs : List GCore) (hN : sizL xs 0 ≤ N) (k : Int) {A : Option Addr} {c lo : Nat} {bs} (w : World) (hx : T1 w (.sl xs.length (xs.flatMap GCore.enc)) bs (.slice A xs.length c)) (ho : Own lo w bs) (hn' : xs.length ≤ maxLen) (hk0 : 0 ≤ k) (hk1 : k + (cN (xs.flatMap GCore.enc) : Nat) ≤ 4611686018427387904) :
    Calls Tryz.prog 33 #[.slice A xs.length c, .int .i64 k] w fun e w' => ∃ r : Int, e = .returned (.int .i64 r) ∧ Hid (r = k + (cN (xs.flatMap GCore.enc) : Nat)) ∧ T1 w' (.sl xs.length (mkN (xs.flatMap GCore.enc) k)) bs (.slice A xs.length c) ∧ Onl bs w w' ∧ Own lo w' bs := by
  unfold maxLen at hn'
  obtain ⟨n, hn⟩ : ∃ n, xs.length = n := ⟨_, rfl⟩
  rw [hn] at hx hn' ⊢
  have Hn : Hid (xs.length = n) := hn
  clear hn
  have hkk := Lib.hid hk1
  clear hk1
  go_enter Tryz.func33, Tryz.ntmps33
  go_wp2_with fail
  go_loopw [1, 5] (fun l i w' => ∃ (j : Nat) (m : Int), j ≤ n ∧ i = .int .i64 j ∧ l = .int .i64 m ∧ Hid (m = k + (cN ((xs.take j).flatMap GCore.enc) : Nat)) ∧ 0 ≤ m ∧ T1 w' (.sl n (mkN ((xs.take j).flatMap GCore.enc) k ++ (xs.drop j).flatMap GCore.enc)) bs (.slice A n c) ∧ Onl bs w w' ∧ Own lo w' bs) (fun _ i _ => n - (intOf i).toNat)
  case atStart => exact ⟨0, k, Nat.zero_le _, rfl, rfl, Lib.hid (by simp [cN_nil]), hk0, by simpa [mkN_nil] using hx, Onl.refl _ _, ho⟩
  case round =>
    obtain ⟨j, m, hj, rfl, rfl, hm, hm0, ht, hon, hw⟩ := hrel
    by_cases hlt : j < n
    · obtain ⟨x, hxk, hsp, hll, hsn, hdr⟩ := flat_split GCore.enc 4 GCore.enc_len Hn hlt
      rw [hdr.out, List.flatMap_cons] at ht
      have hml : (mkN ((xs.take j).flatMap GCore.enc) k).length = j * 4 := by rw [mkN_len, hll]
      generalize hL : mkN ((xs.take j).flatMap GCore.enc) k = L at ht hml
      have HL := Lib.hid hL
      clear hL hll
      have hcx : Hid (cN (GCore.enc x) = 1 + 1 + cN (x.data.flatMap intE) + cN (x.kids.flatMap GKid.enc)) := by show cN [.v (.int .i64 x.kind), .v (.int .i64 x.value), .sl x.data.length (x.data.flatMap intE), .sl x.kids.length (x.kids.flatMap GKid.enc)] = _; simp only [cN_cons, cD_v, cD_sl, cN_nil] <;> omega
      have hbd : m + 1 + 1 + (cN (x.data.flatMap intE) : Nat) + (cN (x.kids.flatMap GKid.enc) : Nat) ≤ 4611686018427387904 := by
        have h1 := hm.out; have h2 := hkk.out; have h3 := hcx.out
        have h4 := hsp.out
        have h5 : cN (xs.flatMap GCore.enc) = cN ((xs.take j).flatMap GCore.enc) + (cN (GCore.enc x) + cN ((xs.drop (j + 1)).flatMap GCore.enc)) := by rw [h4, cN_append, cN_append]
        omega
      replace ht : T1 wr (.sl n (L ++ (.v (.int .i64 x.kind)) :: (.v (.int .i64 x.value)) :: (.sl x.data.length (x.data.flatMap intE)) :: (.sl x.kids.length (x.kids.flatMap GKid.enc)) :: (xs.drop (j + 1)).flatMap GCore.enc)) bs (.slice A n c) := ht
      generalize hR : (xs.drop (j + 1)).flatMap GCore.enc = R at ht
      have HR := Lib.hid hR
      clear hR
      obtain ⟨b, off, rfl, -, hbm, hbl, hblo, hfz⟩ := ht.row hw
      have z0_0 : T1 wr (.sl n (L ++ (.v (.int .i64 x.kind)) :: (.v (.int .i64 x.value)) :: (.sl x.data.length (x.data.flatMap intE)) :: (.sl x.kids.length (x.kids.flatMap GKid.enc)) :: R)) bs (.slice (some ⟨b, off, none⟩) n c) := by exact ht
      have y0_0 := (z0_0.leaf hw (o := off + j * 4) rfl (by simp only [List.length_append, List.length_cons, List.length_nil, hml] <;> omega)).1
      have z0_1 : T1 wr (.sl n ((L ++ [.v (.int .i64 x.kind)]) ++ (.v (.int .i64 x.value)) :: (.sl x.data.length (x.data.flatMap intE)) :: (.sl x.kids.length (x.kids.flatMap GKid.enc)) :: R)) bs (.slice (some ⟨b, off, none⟩) n c) := by rw [List.append_assoc]; exact ht
      have y0_1 := (z0_1.leaf hw (o := off + j * 4 + 1) rfl (by simp only [List.length_append, List.length_cons, List.length_nil, hml] <;> omega)).1
      have z0_2 : T1 wr (.sl n ((L ++ [.v (.int .i64 x.kind), .v (.int .i64 x.value)]) ++ (.sl x.data.length (x.data.flatMap intE)) :: (.sl x.kids.length (x.kids.flatMap GKid.enc)) :: R)) bs (.slice (some ⟨b, off, none⟩) n c) := by rw [List.append_assoc]; exact ht
      obtain ⟨A0_2, c0_2, b0_2, y0_2, -⟩ := z0_2.sub hw (o := off + j * 4 + 2) rfl (by simp only [List.length_append, List.length_cons, List.length_nil, hml] <;> omega)
      obtain ⟨t0, u0, v0⟩ := (ht.leaf hw (o := off + j * 4) rfl (by simp only [List.length_append, List.length_cons, List.length_nil, hml] <;> omega)).2 (.int .i64 m) rfl
      replace t0 : T1 (World.setCell wr ⟨b, off + j * 4, none⟩ (.int .i64 m)) (.sl n (L ++ (.v (.int .i64 m)) :: (.v (.int .i64 x.value)) :: (.sl x.data.length (x.data.flatMap intE)) :: (.sl x.kids.length (x.kids.flatMap GKid.enc)) :: R)) bs (.slice (some ⟨b, off, none⟩) n c) := t0
      replace t0 : T1 (World.setCell wr ⟨b, off + j * 4, none⟩ (.int .i64 m)) (.sl n ((L ++ [.v (.int .i64 m)]) ++ (.v (.int .i64 x.value)) :: (.sl x.data.length (x.data.flatMap intE)) :: (.sl x.kids.length (x.kids.flatMap GKid.enc)) :: R)) bs (.slice (some ⟨b, off, none⟩) n c) := by rw [List.append_assoc]; exact t0
      obtain ⟨t1, u1, v1⟩ := (t0.leaf v0 (o := off + j * 4 + 1) rfl (by simp only [List.length_append, List.length_cons, List.length_nil, hml] <;> omega)).2 (.int .i64 (m + 1)) rfl
      rw [List.append_assoc] at t1
      replace t1 : T1 (World.setCell (World.setCell wr ⟨b, off + j * 4, none⟩ (.int .i64 m)) ⟨b, off + j * 4 + 1, none⟩ (.int .i64 (m + 1))) (.sl n (L ++ (.v (.int .i64 m)) :: (.v (.int .i64 (m + 1))) :: (.sl x.data.length (x.data.flatMap intE)) :: (.sl x.kids.length (x.kids.flatMap GKid.enc)) :: R)) bs (.slice (some ⟨b, off, none⟩) n c) := t1
      have g2 : T1 (World.setCell (World.setCell wr ⟨b, off + j * 4, none⟩ (.int .i64 m)) ⟨b, off + j * 4 + 1, none⟩ (.int .i64 (m + 1))) (.sl n ((L ++ [.v (.int .i64 m), .v (.int .i64 (m + 1))]) ++ (.sl x.data.length (x.data.flatMap intE)) :: (.sl x.kids.length (x.kids.flatMap GKid.enc)) :: R)) bs (.slice (some ⟨b, off, none⟩) n c) := by rw [List.append_assoc]; exact t1
      obtain ⟨A2, c2, b2, k2, s2, n2, o2, nb2, back2⟩ := g2.sub v1 (o := off + j * 4 + 2) rfl (by simp only [List.length_append, List.length_cons, List.length_nil, hml] <;> omega)
      obtain ⟨rfl, rfl⟩ : A0_2 = A2 ∧ c0_2 = c2 := by
        have hh := k2
        rw [cell_setCell_off _ _ _ _ _ (by omega)] at hh; rw [cell_setCell_off _ _ _ _ _ (by omega)] at hh; rw [y0_2] at hh; simpa using hh
      clear k2
      have HB2 := Lib.hid back2
      clear back2 g2
      clear z0_0 z0_1 z0_2
      go_wp2_with fail
      refine (markInt64S_any x.data (m + 1 + 1) _ s2 o2 n2 (by omega) (by omega)).mono ?_
      rintro _ W1 ⟨r1, rfl, hr1, q2, f2, -⟩
      obtain ⟨t2, u2, v2⟩ := HB2.out W1 _ f2 q2
      have p1 : 0 ≤ r1 := by have := hr1.out; omega
      have l1 : r1 + (cN (x.kids.flatMap GKid.enc) : Nat) ≤ 4611686018427387904 := by have := hr1.out; omega
      rw [List.append_assoc] at t2
      replace t2 : T1 W1 (.sl n (L ++ (.v (.int .i64 m)) :: (.v (.int .i64 (m + 1))) :: (.sl x.data.length (mkN (x.data.flatMap intE) (m + 1 + 1))) :: (.sl x.kids.length (x.kids.flatMap GKid.enc)) :: R)) bs (.slice (some ⟨b, off, none⟩) n c) := t2
      have hfz1 : ∀ o, World.frozen? W1 ⟨b, o, none⟩ = false := fun o => (by obtain ⟨_, cur, tt, hrow⟩ := v2.2 b hbm; simp [World.frozen?, hrow])
      have z1_3 : T1 W1 (.sl n ((L ++ [.v (.int .i64 m), .v (.int .i64 (m + 1)), .sl x.data.length (mkN (x.data.flatMap intE) (m + 1 + 1))]) ++ (.sl x.kids.length (x.kids.flatMap GKid.enc)) :: R)) bs (.slice (some ⟨b, off, none⟩) n c) := by rw [List.append_assoc]; exact t2
      obtain ⟨A1_3, c1_3, b1_3, y1_3, -⟩ := z1_3.sub v2 (o := off + j * 4 + 3) rfl (by simp only [List.length_append, List.length_cons, List.length_nil, hml] <;> omega)
      have g3 : T1 W1 (.sl n ((L ++ [.v (.int .i64 m), .v (.int .i64 (m + 1)), .sl x.data.length (mkN (x.data.flatMap intE) (m + 1 + 1))]) ++ (.sl x.kids.length (x.kids.flatMap GKid.enc)) :: R)) bs (.slice (some ⟨b, off, none⟩) n c) := by rw [List.append_assoc]; exact t2
      obtain ⟨A3, c3, b3, k3, s3, n3, o3, nb3, back3⟩ := g3.sub v2 (o := off + j * 4 + 3) rfl (by simp only [List.length_append, List.length_cons, List.length_nil, hml] <;> omega)
      obtain ⟨rfl, rfl⟩ : A1_3 = A3 ∧ c1_3 = c3 := by
        have hh := k3
        rw [y1_3] at hh; simpa using hh
      clear k3
      have HB3 := Lib.hid back3
      clear back3 g3
      clear z1_3
      go_wp2_with fail
      refine (IH x.kids (kidsLt (memLe hxk.out hN)) (r1) _ s3 o3 n3 (by omega) (by omega)).mono ?_
      rintro _ W2 ⟨r2, rfl, hr2, q3, f3, -⟩
      obtain ⟨t3, u3, v3⟩ := HB3.out W2 _ f3 q3
      have p2 : 0 ≤ r2 := by have := hr2.out; omega
      have l2 : r2 + 0 ≤ 4611686018427387904 := by have := hr2.out; omega
      rw [List.append_assoc] at t3
      replace t3 : T1 W2 (.sl n (L ++ (.v (.int .i64 m)) :: (.v (.int .i64 (m + 1))) :: (.sl x.data.length (mkN (x.data.flatMap intE) (m + 1 + 1))) :: (.sl x.kids.length (mkN (x.kids.flatMap GKid.enc) (r1))) :: R)) bs (.slice (some ⟨b, off, none⟩) n c) := t3
      go_wp2_with fail
      have hmk : mkN (GCore.enc x) m = [.v (.int .i64 m), .v (.int .i64 (m + 1)), .sl x.data.length (mkN (x.data.flatMap intE) (m + 1 + 1)), .sl x.kids.length (mkN (x.kids.flatMap GKid.enc) (r1))] := by
        show mkN [.v (.int .i64 x.kind), .v (.int .i64 x.value), .sl x.data.length (x.data.flatMap intE), .sl x.kids.length (x.kids.flatMap GKid.enc)] m = _
        simp only [mkN_cons, mkN_nil, mkD_int, mkD_sl, cD_v, cD_sl]
        all_goals (have h1 := hr1.out; have h2 := hr2.out; exact (cons_eq (vI_eq (by omega)) (cons_eq (vI_eq (by omega)) (cons_eq (slK_eq (by omega)) (cons_eq (slK_eq (by omega)) rfl)))))
      have hfin : mkN ((xs.take (j + 1)).flatMap GCore.enc) k ++ (xs.drop (j + 1)).flatMap GCore.enc = L ++ (.v (.int .i64 m)) :: (.v (.int .i64 (m + 1))) :: (.sl x.data.length (mkN (x.data.flatMap intE) (m + 1 + 1))) :: (.sl x.kids.length (mkN (x.kids.flatMap GKid.enc) (r1))) :: R := by
        rw [hsn.out, mkN_append, HL.out, ← hm.out, hmk, List.append_assoc, HR.out]; rfl
      exact ⟨⟨j + 1, r2, by omega, by go_num, by first | rfl | go_num, Lib.hid (by rw [hsn.out, cN_append]; have h1 := hr1.out; have h2 := hr2.out; have h8 := hcx.out; have h9 := hm.out; omega), by omega, by rw [hfin]; exact t3, ((((hon).trans u0).trans u1).trans u2).trans u3, v3⟩, by simp [intOf]; omega⟩
    · have : j = n := by omega
      subst this
      go_wp2_with fail
      go_ret
      have hl := Hn.out
      rw [List.take_of_length_le (by omega), List.drop_of_length_le (by omega)] at ht
      have hm' := hm.out
      rw [List.take_of_length_le (by omega)] at hm'
      exact ⟨m, rfl, hm', by simpa using ht, hon, hw⟩
theorem markKid_all : ∀ N : Nat, MarkKidP N
  | 0 => fun xs h => absurd h (Nat.not_lt_zero _)
  | N + 1 => fun xs h => by
    rw [GCore.enc_eq]
    exact markCoreS_of N (markKid_all N) xs (Nat.le_of_lt_succ h)
theorem markCore_any (x : GCore) (k : Int) {bs us} {lo : Nat} (w : World) (hx : TN w (GCore.enc x) bs us) (ho : Own lo w bs) (hk0 : 0 ≤ k) (hk1 : k + ((GCore.cnt x) : Nat) ≤ 4611686018427387904) :
    Calls Tryz.prog 14 #[.agg us.toArray, .int .i64 k] w fun e w' => ∃ r : Int, e = .returned (.int .i64 r) ∧ Hid (r = k + ((GCore.cnt x) : Nat)) ∧ TN w' (GCore.mked x k) bs us ∧ Onl bs w w' ∧ Own lo w' bs := markCore_of (sizT x) (markKid_all _) x (Nat.le_refl _) k w hx ho hk0 hk1
theorem markCoreS_any (xs : List GCore) (k : Int) {A : Option Addr} {c lo : Nat} {bs} (w : World) (hx : T1 w (.sl xs.length (xs.flatMap GCore.enc)) bs (.slice A xs.length c)) (ho : Own lo w bs) (hn' : xs.length ≤ maxLen) (hk0 : 0 ≤ k) (hk1 : k + (cN (xs.flatMap GCore.enc) : Nat) ≤ 4611686018427387904) :
    Calls Tryz.prog 33 #[.slice A xs.length c, .int .i64 k] w fun e w' => ∃ r : Int, e = .returned (.int .i64 r) ∧ Hid (r = k + (cN (xs.flatMap GCore.enc) : Nat)) ∧ T1 w' (.sl xs.length (mkN (xs.flatMap GCore.enc) k)) bs (.slice A xs.length c) ∧ Onl bs w w' ∧ Own lo w' bs := markCoreS_of (sizL xs 0) (markKid_all _) xs (Nat.le_refl _) k w hx ho hn' hk0 hk1
set_option maxHeartbeats 4000000 in
theorem heldCoreS_of (N : Nat) (IH : HeldKidP N) (xs : List GCore) (hN : sizL xs 0 ≤ N) (k r : Int) (n : Nat) {A : Option Addr} {c : Nat} {bs : List Nat} (w : World) (hx : T1 w (.sl n (mkN (xs.flatMap GCore.enc) k)) bs (.slice A n c)) (Hn : Hid (xs.length = n)) (hk0 : 0 ≤ k) (hk1 : r ≤ 4611686018427387904) (Hr : Hid (r = k + (cN (xs.flatMap GCore.enc) : Nat))) : Calls Tryz.prog 34 #[.slice A n c, .int .i64 k] w fun e w' => e = .returned (.int .i64 (r)) ∧ Ext w w' := by
  refine quiet_start fun e => ?_
  have hn := hx.nle
  go_enter Tryz.func34, Tryz.ntmps34
  go_wp2_with fail
  repeat (refine wp_region_ext0 _ (by kernel_rfl) (by kernel_rfl) ?_; (repeat (go_big_quiet_step (fail))); refine wpQuiet_nil ?_; intro e; go_wp2_with fail)
  go_loopw [1, 5] (fun l i w' => ∃ (j : Nat) (m : Int), j ≤ n ∧ i = .int .i64 j ∧ l = .int .i64 m ∧ Hid (m = k + (cN ((xs.take j).flatMap GCore.enc) : Nat)) ∧ 0 ≤ m ∧ ∃ e : ExtOf w, w' = e.to) (fun _ i _ => n - (intOf i).toNat)
  case atStart => exact ⟨0, k, Nat.zero_le _, rfl, rfl, Lib.hid (by simp [cN_nil]), hk0, _, rfl⟩
  case round =>
    obtain ⟨j, m, hj, rfl, rfl, hm, hm0, e, rfl⟩ := hrel
    by_cases hlt : j < n
    · obtain ⟨x, hxk, hsp, hll, hsn, -⟩ := flat_split GCore.enc 4 GCore.enc_len Hn hlt
      have hcx : Hid (cN (GCore.enc x) = 1 + 1 + cN (x.data.flatMap intE) + cN (x.kids.flatMap GKid.enc)) := by show cN [.v (.int .i64 x.kind), .v (.int .i64 x.value), .sl x.data.length (x.data.flatMap intE), .sl x.kids.length (x.kids.flatMap GKid.enc)] = _; simp only [cN_cons, cD_v, cD_sl, cN_nil] <;> omega
      have hbd : m + 1 + 1 + (cN (x.data.flatMap intE) : Nat) + (cN (x.kids.flatMap GKid.enc) : Nat) ≤ 4611686018427387904 := by
        have h1 := hm.out; have h2 := Hr.out; have h3 := hcx.out
        have h5 : cN (xs.flatMap GCore.enc) = cN ((xs.take j).flatMap GCore.enc) + (cN (GCore.enc x) + cN ((xs.drop (j + 1)).flatMap GCore.enc)) := by rw [hsp.out, cN_append, cN_append]
        omega
      obtain ⟨r1, hr1⟩ : ∃ q : Int, q = m + 1 + 1 + ((cN (x.data.flatMap intE) : Nat) : Int) := ⟨_, rfl⟩
      obtain ⟨r2, hr2⟩ : ∃ q : Int, q = r1 + ((cN (x.kids.flatMap GKid.enc) : Nat) : Int) := ⟨_, rfl⟩
      have hmk : mkN (GCore.enc x) m = [.v (.int .i64 (m)), .v (.int .i64 (m + 1)), .sl x.data.length (mkN (x.data.flatMap intE) (m + 1 + 1)), .sl x.kids.length (mkN (x.kids.flatMap GKid.enc) (r1))] := by
        show mkN [.v (.int .i64 x.kind), .v (.int .i64 x.value), .sl x.data.length (x.data.flatMap intE), .sl x.kids.length (x.kids.flatMap GKid.enc)] m = _
        simp only [mkN_cons, mkN_nil, mkD_int, mkD_sl, cD_v, cD_sl]
        all_goals (exact (cons_eq (vI_eq (by omega)) (cons_eq (vI_eq (by omega)) (cons_eq (slK_eq (by omega)) (cons_eq (slK_eq (by omega)) rfl)))))
      have hxx := hx
      rw [hsp.out, mkN_append, mkN_append, ← hm.out, hmk] at hxx
      have hml : (mkN ((xs.take j).flatMap GCore.enc) k).length = j * 4 := by rw [mkN_len, hll]
      generalize hL : mkN ((xs.take j).flatMap GCore.enc) k = L at hxx hml
      clear hL hll hmk
      generalize hR : mkN ((xs.drop (j + 1)).flatMap GCore.enc) (m + (cN (GCore.enc x) : Nat)) = R at hxx
      clear hR
      replace hxx : T1 w (.sl n (L ++ (.v (.int .i64 (m))) :: (.v (.int .i64 (m + 1))) :: (.sl x.data.length (mkN (x.data.flatMap intE) (m + 1 + 1))) :: (.sl x.kids.length (mkN (x.kids.flatMap GKid.enc) (r1))) :: R)) bs (.slice A n c) := hxx
      obtain ⟨b, off, rfl⟩ := hxx.krow
      have z0 : T1 w (.sl n (L ++ (.v (.int .i64 (m))) :: (.v (.int .i64 (m + 1))) :: (.sl x.data.length (mkN (x.data.flatMap intE) (m + 1 + 1))) :: (.sl x.kids.length (mkN (x.kids.flatMap GKid.enc) (r1))) :: R)) bs (.slice (some ⟨b, off, none⟩) n c) := by exact hxx
      have y0 := z0.kleaf (o := off + j * 4) rfl (by simp only [List.length_append, List.length_cons, List.length_nil, hml] <;> omega)
      have z1 : T1 w (.sl n ((L ++ [.v (.int .i64 (m))]) ++ (.v (.int .i64 (m + 1))) :: (.sl x.data.length (mkN (x.data.flatMap intE) (m + 1 + 1))) :: (.sl x.kids.length (mkN (x.kids.flatMap GKid.enc) (r1))) :: R)) bs (.slice (some ⟨b, off, none⟩) n c) := by rw [List.append_assoc]; exact hxx
      have y1 := z1.kleaf (o := off + j * 4 + 1) rfl (by simp only [List.length_append, List.length_cons, List.length_nil, hml] <;> omega)
      have z2 : T1 w (.sl n ((L ++ [.v (.int .i64 (m)), .v (.int .i64 (m + 1))]) ++ (.sl x.data.length (mkN (x.data.flatMap intE) (m + 1 + 1))) :: (.sl x.kids.length (mkN (x.kids.flatMap GKid.enc) (r1))) :: R)) bs (.slice (some ⟨b, off, none⟩) n c) := by rw [List.append_assoc]; exact hxx
      obtain ⟨A2, c2, b2, y2, s2, n2⟩ := z2.ksub (o := off + j * 4 + 2) rfl (by simp only [List.length_append, List.length_cons, List.length_nil, hml] <;> omega)
      have z3 : T1 w (.sl n ((L ++ [.v (.int .i64 (m)), .v (.int .i64 (m + 1)), .sl x.data.length (mkN (x.data.flatMap intE) (m + 1 + 1))]) ++ (.sl x.kids.length (mkN (x.kids.flatMap GKid.enc) (r1))) :: R)) bs (.slice (some ⟨b, off, none⟩) n c) := by rw [List.append_assoc]; exact hxx
      obtain ⟨A3, c3, b3, y3, s3, n3⟩ := z3.ksub (o := off + j * 4 + 3) rfl (by simp only [List.length_append, List.length_cons, List.length_nil, hml] <;> omega)
      clear hxx z0 z1 z2 z3
      have p1 : 0 ≤ r1 := by omega
      have l1 : r1 ≤ 4611686018427387904 := by omega
      have ll1 : r1 + (cN (x.kids.flatMap GKid.enc) : Nat) ≤ 4611686018427387904 := by omega
      have Hr1 : Hid (r1 = m + 1 + 1 + ((cN (x.data.flatMap intE) : Nat) : Int)) := hr1
      have C1 : Hid (QC Tryz.prog w _ _ _) := fun W hW => heldInt64S_any x.data (m + 1 + 1) r1 x.data.length W (s2.below hW) Hid_rfl (by omega) l1 Hr1
      have p2 : 0 ≤ r2 := by omega
      have l2 : r2 ≤ 4611686018427387904 := by omega
      have Hr2 : Hid (r2 = r1 + ((cN (x.kids.flatMap GKid.enc) : Nat) : Int)) := hr2
      have C2 : Hid (QC Tryz.prog w _ _ _) := fun W hW => IH x.kids (kidsLt (memLe hxk.out hN)) (r1) r2 x.kids.length W (s3.below hW) Hid_rfl (by omega) l2 Hr2
      clear hr1 hr2
      go_wp2_with (first | (go_at_call 20; with_reducible refine (C1.out.at_ _).mono ?_; rintro _ _ ⟨rfl, e, rfl⟩) | (go_at_call 34; with_reducible refine (C2.out.at_ _).mono ?_; rintro _ _ ⟨rfl, e, rfl⟩))
      repeat (refine wp_region_ext0 _ (by kernel_rfl) (by kernel_rfl) ?_; (repeat (go_big_quiet_step ((first | with_reducible exact C1.out.at_ _ | with_reducible exact C2.out.at_ _)))); refine wpQuiet_nil ?_; intro e; go_wp2_with (first | (go_at_call 20; with_reducible refine (C1.out.at_ _).mono ?_; rintro _ _ ⟨rfl, e, rfl⟩) | (go_at_call 34; with_reducible refine (C2.out.at_ _).mono ?_; rintro _ _ ⟨rfl, e, rfl⟩)))
      exact ⟨⟨j + 1, r2, by omega, by go_num, by first | rfl | go_num, Lib.hid (by rw [hsn.out, cN_append]; have h1 := Hr1.out; have h2 := Hr2.out; have h8 := hcx.out; have h9 := hm.out; omega), by omega, _, rfl⟩, by simp [intOf]; omega⟩
    · have : j = n := by omega
      subst this
      have E : Hid (r = m) := by
        have h1 := hm.out; have h2 := Hr.out; have h3 := Hn.out
        rw [List.take_of_length_le (by omega)] at h1
        show _ = _; omega
      go_wp2_with fail
      repeat (refine wp_region_ext0 _ (by kernel_rfl) (by kernel_rfl) ?_; (repeat (go_big_quiet_step (fail))); refine wpQuiet_nil ?_; intro e; go_wp2_with fail)
      go_ret
      exact ⟨by rw [E.out]; rfl, _, rfl⟩
theorem heldKid_all : ∀ N : Nat, HeldKidP N
  | 0 => fun xs h => absurd h (Nat.not_lt_zero _)
  | N + 1 => fun xs h => by
    rw [GCore.enc_eq]
    exact heldCoreS_of N (heldKid_all N) xs (Nat.le_of_lt_succ h)
theorem heldCore_any (x : GCore) (k r : Int) {bs us} (w : World) (hx : TN w (GCore.mked x k) bs us) (hk0 : 0 ≤ k) (hk1 : r ≤ 4611686018427387904) (Hr : Hid (r = k + ((GCore.cnt x) : Nat))) : Calls Tryz.prog 15 #[.agg us.toArray, .int .i64 k] w fun e w' => e = .returned (.int .i64 (r)) ∧ Ext w w' := heldCore_of (sizT x) (heldKid_all _) x (Nat.le_refl _) k r w hx hk0 hk1 Hr
set_option maxHeartbeats 4000000 in
theorem markBook_any (x : GBook) (k : Int) {bs us} {lo : Nat} (w : World) (hx : TN w x.enc bs us) (ho : Own lo w bs) (hk0 : 0 ≤ k) (hk1 : k + (x.cnt : Nat) ≤ 4611686018427387904) :
    Calls Tryz.prog 13 #[.agg us.toArray, .int .i64 k] w fun e w' => ∃ r : Int, e = .returned (.int .i64 r) ∧ Hid (r = k + (x.cnt : Nat)) ∧ TN w' (x.mked k) bs us ∧ Onl bs w w' ∧ Own lo w' bs := by
  have hlt := hx.lt
  obtain ⟨A0, c0, b0, rfl, rfl, t0, l0, m0⟩ := GBook.us hx
  have o0 := ho
  have g0 : w.heap.size ∉ bs := fun hm => by have := hlt _ (show w.heap.size ∈ bs by simp [hm]); omega
  have B0 : ∀ S, Below w.heap.size w (w.alloc S) := fun _ => (Below.refl _ _).alloc (Nat.le_refl _) _
  have hcn : x.cnt = cN (x.defs.flatMap GCore.enc) := rfl
  rw [hcn] at hk1
  clear hcn hx
  go_enter Tryz.func13, Tryz.ntmps13
  go_wp2_with fail
  refine (markCoreS_any x.defs k _ (t0.below (B0 _)) (o0.below (B0 _)) (Nat.le_trans l0 m0) (by omega) (by omega)).mono ?_
  rintro _ w1 ⟨r1, rfl, hr1, S0, f1, V0⟩
  have p1 : 0 ≤ r1 := by have := hr1.out; omega
  have b1_ : r1 + 0 ≤ 4611686018427387904 := by have := hr1.out; omega
  have u1 := (f1.other w.heap.size (by simp) g0).trans (heap_alloc_new w _)
  have z1 : w.heap.size < w1.heap.size := by have := f1.size; simp at this; omega
  have F1 : Onl (bs) w w1 := Onl.trans (Onl.of_ext (B0 _)) (f1.sub (fun y hy => by first | exact hy | (simp at hy ⊢; grind)))
  have q1_0 := cell_of_row _ _ 0 _ _ _ u1
  simp only [List.getElem?_toArray, List.getElem?_cons_zero, List.getElem?_cons_succ] at q1_0
  go_wp2_with fail
  go_ret
  refine ⟨r1, rfl, ?_, ?_, F1, ho.onl F1⟩
  · show _ = _
    have hcn : x.cnt = cN (x.defs.flatMap GCore.enc) := rfl
    have h1 := hr1.out; omega
  · have h1 := hr1.out; skip
    have h := (TN.sl_mk S0 TN.done)
    simp only [List.append_nil, List.nil_append, List.append_assoc, List.cons_append] at h
    unfold GBook.mked
    simpa only [List.append_nil, List.nil_append, List.append_assoc, List.cons_append] using h

end Go.Proofs.YtieemijapiiiiaaGreat
