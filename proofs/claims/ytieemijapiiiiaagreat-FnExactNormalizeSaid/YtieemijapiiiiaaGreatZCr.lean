/- Sizes of these types. Printed by gen_fam.py. -/
import Derived.Test.YtieemijapiiiiaaGreatProg
import Derived.Test.YtieemijapiiiiaaGreatDCr
set_option linter.unusedSimpArgs false
set_option linter.unusedVariables false
namespace Go.Proofs.YtieemijapiiiiaaGreat
open Go Go.RowKit Go.Proofs Go.Tr

set_option maxHeartbeats 1000000 in
theorem szInt64S_any (xs : List Int) (L : Int) {A : Option Addr} {c : Nat} {b1} (w : World) (hx : T1 w (.sl xs.length (xs.flatMap intE)) b1 (.slice A xs.length c)) (hn' : xs.length ≤ maxLen) (hL0 : 0 ≤ L) (hL1 : L ≤ 1048576) :
    Calls Tryz.prog 22 #[.slice A xs.length c, .int .i64 L] w (SzPost L (xs.length ≤ 1048576) (wtl (fun _ => 0) xs) w) := by
  unfold maxLen at hn'
  by_cases hneg : L - (xs.length : Int) < 0
  · generalize xs.length = n at *
    clear hx
    go_enter Tryz.func22, Tryz.ntmps22
    go_wp2_with fail
    go_ret
    exact ⟨Below.refl _ _, _, rfl, .inl rfl⟩
  · have HS : Hid (xs.length ≤ 1048576) := Lib.hid (by omega)
    obtain ⟨n, hn⟩ : ∃ n, xs.length = n := ⟨_, rfl⟩
    rw [hn] at hx hneg hn' ⊢
    have Hn := Lib.hid hn
    clear hx hn
    go_enter Tryz.func22, Tryz.ntmps22
    go_wp2_with fail
    go_ret
    exact ⟨Below.refl _ _, _, rfl, .inr ⟨by omega, by rw [wtl_flat, Hn.out], by rw [← Hn.out]; exact HS.out⟩⟩

def SzKidP (N : Nat) : Prop := ∀ (xs : List Cor), sizL xs 0 < N → ∀  (L : Int) {A : Option Addr} {c : Nat} {b1 : List Nat} (w : World) (hx : T1 w (.sl xs.length (xs.flatMap GKid.enc)) b1 (.slice A xs.length c)) (hn' : xs.length ≤ maxLen) (hL0 : 0 ≤ L) (hL1 : L ≤ 1048576), Calls Tryz.prog 21 #[.slice A xs.length c, .int .i64 L] w (SzPost L (xs.length ≤ 1048576 ∧ ∀ y ∈ xs, GKid.small y) (wtl GKid.wt xs) w)
set_option maxHeartbeats 1000000 in
theorem szCore_of (N : Nat) (IH : SzKidP N) (x : GCore) (hN : sizT x ≤ N) (L : Int) {b us} (w : World) (hx : TN w (GCore.enc x) b us) (hm2 : x.data.length ≤ maxLen) (hm3 : x.kids.length ≤ maxLen) (hL0 : 0 ≤ L) (hL1 : L ≤ 1048576) :
    Calls Tryz.prog 6 #[.agg us.toArray, .int .i64 L] w (SzPost L (GCore.small x) (GCore.wt x) w) := by
  obtain ⟨Ax2, cx2, bx2, Ax3, cx3, bx3, rfl, rfl, tx2, lx2, mx2, tx3, lx3, mx3⟩ := GCore.us hx
  clear lx2 mx2 lx3 mx3 hx
  have B0 : ∀ S, Below w.heap.size w (w.alloc S) := fun _ => (Below.refl _ _).alloc (Nat.le_refl _) _
  go_enter Tryz.func6, Tryz.ntmps6
  go_wp2_with fail
  refine (szInt64S_any x.data L _ (tx2.below (B0 _)) hm2 (by omega) (by omega)).mono ?_
  rintro e w1 ⟨hb1, r1, rfl, h1⟩
  have z1 : w.heap.size < w1.heap.size := by have := hb1.size; (try simp at this); omega
  have B1 : Below w.heap.size w w1 := Below.trans (B0 _) (hb1.mono (by first | omega | (simp; done) | (simp; omega)))
  have u1 := (hb1.block w.heap.size (by simp <;> omega)).trans (heap_alloc_new w _)
  have q1_0 := cell_of_row _ _ 0 _ _ _ u1
  have q1_1 := cell_of_row _ _ 1 _ _ _ u1
  have q1_2 := cell_of_row _ _ 2 _ _ _ u1
  have q1_3 := cell_of_row _ _ 3 _ _ _ u1
  simp only [List.getElem?_toArray, List.getElem?_cons_zero, List.getElem?_cons_succ] at q1_0 q1_1 q1_2 q1_3
  clear hb1
  rcases h1 with rfl | ⟨a1, c1, s1⟩
  · go_wp2_with fail
    go_ret
    exact ⟨B1, _, rfl, .inl rfl⟩
  have hd1 : decide (r1 < 0) = false := by simp; omega
  have S1 := Lib.hid s1
  have e1 : r1 ≤ L := by omega
  have C1 := Lib.hid c1
  clear s1 c1
  go_wp2_with fail
  refine (IH x.kids (kidsLt hN) r1 _ (tx3.below B1) hm3 (by omega) (by omega)).mono ?_
  rintro e w2 ⟨hb2, r2, rfl, h2⟩
  have z2 : w.heap.size < w2.heap.size := by have := hb2.size; (try simp at this); omega
  have B2 : Below w.heap.size w w2 := Below.trans B1 (hb2.mono (by first | omega | (simp; done) | (simp; omega)))
  have u2 := (hb2.block w.heap.size (by omega)).trans u1
  have q2_0 := cell_of_row _ _ 0 _ _ _ u2
  have q2_1 := cell_of_row _ _ 1 _ _ _ u2
  have q2_2 := cell_of_row _ _ 2 _ _ _ u2
  have q2_3 := cell_of_row _ _ 3 _ _ _ u2
  simp only [List.getElem?_toArray, List.getElem?_cons_zero, List.getElem?_cons_succ] at q2_0 q2_1 q2_2 q2_3
  clear u1 q1_0 q1_1 q1_2 q1_3
  clear hb2
  rcases h2 with rfl | ⟨a2, c2, s2⟩
  · go_wp2_with fail
    go_ret
    exact ⟨B2, _, rfl, .inl rfl⟩
  have hd2 : decide (r2 < 0) = false := by simp; omega
  have S2 := Lib.hid s2
  have e2 : r2 ≤ r1 := by omega
  have C2 := Lib.hid c2
  clear s2 c2
  go_wp2_with fail
  go_ret
  exact ⟨B2, _, rfl, .inr ⟨by omega, by unfold GCore.wt; have := C1.out; have := C2.out; omega, ⟨S1.out, S2.out⟩⟩⟩
set_option maxHeartbeats 1000000 in
theorem szCoreS_of (N : Nat) (IH : SzKidP N) (xs : List GCore) (hN : sizL xs 0 ≤ N) (L : Int) {A : Option Addr} {c : Nat} {b1} (w : World) (hx : T1 w (.sl xs.length (xs.flatMap GCore.enc)) b1 (.slice A xs.length c)) (hn' : xs.length ≤ maxLen) (hL0 : 0 ≤ L) (hL1 : L ≤ 1048576) :
    Calls Tryz.prog 21 #[.slice A xs.length c, .int .i64 L] w (SzPost L (xs.length ≤ 1048576 ∧ ∀ y ∈ xs, GCore.small y) (wtl GCore.wt xs) w) := by
  unfold maxLen at hn'
  by_cases hneg : L - (xs.length : Int) < 0
  · generalize xs.length = n at *
    clear hx
    go_enter Tryz.func21, Tryz.ntmps21
    go_wp2_with fail
    go_ret
    exact ⟨Below.refl _ _, _, rfl, .inl rfl⟩
  · have hn0 : xs.length ≤ 1048576 := by omega
    obtain ⟨n, hn⟩ : ∃ n, xs.length = n := ⟨_, rfl⟩
    rw [hn] at hx hneg hn' hn0 ⊢
    have Hn : Hid (xs.length = n) := hn
    clear hn hn'
    go_enter Tryz.func21, Tryz.ntmps21
    go_wp2_with fail
    go_loopw [1, 5] (fun l i w' => ∃ (r : Int) (k : Nat), l = .int .i64 r ∧ 0 ≤ r ∧ Hid (r = L - (n + ((xs.take k).map GCore.wt).sum : Nat)) ∧ r ≤ L ∧ k ≤ n ∧ i = .int .i64 k ∧ Hid (∀ y ∈ xs.take k, (GCore.small y)) ∧ Below w.heap.size w w') (fun _ i _ => n - (intOf i).toNat)
    case atStart => exact ⟨_, 0, rfl, by omega, Lib.hid (by simp), by omega, by omega, rfl, Lib.hid (by simp), Below.refl _ _⟩
    case round =>
      obtain ⟨r, k, rfl, hr0, hrw, hr1, hk, rfl, ht, hb⟩ := hrel
      by_cases hlt : k < n
      · obtain ⟨ba, oa, x, Ax2, cx2, px2, Ax3, cx3, px3, rfl, hba, hxk, x0, x1, x2, x3, tx2, lx2, mx2, tx3, lx3, mx3⟩ := GCore.get_ (hx.below hb) Hn.out hlt
        have nx := GCore.mk_ (w := wr) (x := x) tx2 tx3
        go_wp2_with fail
        refine (szCore_of N IH x (memLe hxk.out hN) r _ nx (Nat.le_trans lx2 mx2) (Nat.le_trans lx3 mx3) hr0 (by omega)).mono ?_
        rintro e w1 ⟨hb1, r1, rfl, h⟩
        rcases h with rfl | ⟨h0, h1', h2⟩
        · go_wp2_with fail
          go_ret
          exact ⟨hb.trans (hb1.mono hb.size), _, rfl, .inl rfl⟩
        · have hd : decide (r1 < 0) = false := by simp; omega
          have h1 : r1 ≤ r := by omega
          have H1 := Lib.hid h1'
          clear h1'
          have H2 := Lib.hid h2
          clear h2
          go_wp2_with fail
          go_roundw
          case rel => exact ⟨_, k+1, rfl, h0, Lib.hid (by rw [wt_snoc hxk.out, H1.out, hrw.out]; omega), by omega, by omega, by go_num, Lib.hid (take_all_snoc ht.out hxk.out H2.out), hb.trans (hb1.mono hb.size)⟩
          case measure => simp [intOf]; omega
      · have : k = n := by omega
        subst this
        go_wp2_with fail
        go_ret
        have ht' := ht.out
        have hrw' := hrw.out
        rw [List.take_of_length_le (by rw [Hn.out]; exact Nat.le_refl _)] at ht' hrw'
        rw [← Hn.out] at hrw'
        exact ⟨hb, _, rfl, .inr ⟨hr0, hrw', ⟨hn0, ht'⟩⟩⟩
theorem szKid_all : ∀ N : Nat, SzKidP N
  | 0 => fun xs h => absurd h (Nat.not_lt_zero _)
  | N + 1 => fun xs h => by
    rw [GCore.enc_eq, GCore.small_eq, GCore.wt_eq]
    exact szCoreS_of N (szKid_all N) xs (Nat.le_of_lt_succ h)
theorem szCore_any (x : GCore) (L : Int) {b us} (w : World) (hx : TN w (GCore.enc x) b us) (hm2 : x.data.length ≤ maxLen) (hm3 : x.kids.length ≤ maxLen) (hL0 : 0 ≤ L) (hL1 : L ≤ 1048576) :
    Calls Tryz.prog 6 #[.agg us.toArray, .int .i64 L] w (SzPost L (GCore.small x) (GCore.wt x) w) := szCore_of (sizT x) (szKid_all _) x (Nat.le_refl _) L w hx hm2 hm3 hL0 hL1
theorem szCoreS_any (xs : List GCore) (L : Int) {A : Option Addr} {c : Nat} {b1} (w : World) (hx : T1 w (.sl xs.length (xs.flatMap GCore.enc)) b1 (.slice A xs.length c)) (hn' : xs.length ≤ maxLen) (hL0 : 0 ≤ L) (hL1 : L ≤ 1048576) :
    Calls Tryz.prog 21 #[.slice A xs.length c, .int .i64 L] w (SzPost L (xs.length ≤ 1048576 ∧ ∀ y ∈ xs, GCore.small y) (wtl GCore.wt xs) w) := szCoreS_of (sizL xs 0) (szKid_all _) xs (Nat.le_refl _) L w hx hn' hL0 hL1
set_option maxHeartbeats 1000000 in
theorem szBook_any (x : GBook) (L : Int) {b us} (w : World) (hx : TN w x.enc b us) (hm0 : x.defs.length ≤ maxLen) (hL0 : 0 ≤ L) (hL1 : L ≤ 1048576) :
    Calls Tryz.prog 5 #[.agg us.toArray, .int .i64 L] w (SzPost L x.small x.wt w) := by
  obtain ⟨Ax0, cx0, bx0, rfl, rfl, tx0, lx0, mx0⟩ := GBook.us hx
  clear lx0 mx0 hx
  have B0 : ∀ S, Below w.heap.size w (w.alloc S) := fun _ => (Below.refl _ _).alloc (Nat.le_refl _) _
  go_enter Tryz.func5, Tryz.ntmps5
  go_wp2_with fail
  refine (szCoreS_any x.defs L _ (tx0.below (B0 _)) hm0 (by omega) (by omega)).mono ?_
  rintro e w1 ⟨hb1, r1, rfl, h1⟩
  have z1 : w.heap.size < w1.heap.size := by have := hb1.size; (try simp at this); omega
  have B1 : Below w.heap.size w w1 := Below.trans (B0 _) (hb1.mono (by first | omega | (simp; done) | (simp; omega)))
  have u1 := (hb1.block w.heap.size (by simp <;> omega)).trans (heap_alloc_new w _)
  have q1_0 := cell_of_row _ _ 0 _ _ _ u1
  simp only [List.getElem?_toArray, List.getElem?_cons_zero, List.getElem?_cons_succ] at q1_0
  clear hb1
  rcases h1 with rfl | ⟨a1, c1, s1⟩
  · go_wp2_with fail
    go_ret
    exact ⟨B1, _, rfl, .inl rfl⟩
  have hd1 : decide (r1 < 0) = false := by simp; omega
  have S1 := Lib.hid s1
  have e1 : r1 ≤ L := by omega
  have C1 := Lib.hid c1
  clear s1 c1
  go_wp2_with fail
  go_ret
  exact ⟨B1, _, rfl, .inr ⟨by omega, by unfold GBook.wt; have := C1.out; omega, S1.out⟩⟩

end Go.Proofs.YtieemijapiiiiaaGreat
