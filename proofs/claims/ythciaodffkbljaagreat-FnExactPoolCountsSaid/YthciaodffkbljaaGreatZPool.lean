/- Sizes of these types. Printed by gen_fam.py. -/
import Derived.Test.YthciaodffkbljaaGreatProg
import Derived.Test.YthciaodffkbljaaGreatDPool
set_option linter.unusedSimpArgs false
set_option linter.unusedVariables false
namespace Go.Proofs.YthciaodffkbljaaGreat
open Go Go.RowKit Go.Proofs Go.Tr

set_option maxHeartbeats 1000000 in
theorem szInt64S_any (xs : List Int) (L : Int) {A : Option Addr} {c : Nat} {b1} (w : World) (hx : T1 w (.sl xs.length (xs.flatMap intE)) b1 (.slice A xs.length c)) (hn' : xs.length ≤ maxLen) (hL0 : 0 ≤ L) (hL1 : L ≤ 1048576) :
    Calls Tryz.prog 143 #[.slice A xs.length c, .int .i64 L] w (SzPost L (xs.length ≤ 1048576) (wtl (fun _ => 0) xs) w) := by
  unfold maxLen at hn'
  by_cases hneg : L - (xs.length : Int) < 0
  · generalize xs.length = n at *
    clear hx
    go_enter Tryz.func143, Tryz.ntmps143
    go_wp2_with fail
    go_ret
    exact ⟨Below.refl _ _, _, rfl, .inl rfl⟩
  · have HS : Hid (xs.length ≤ 1048576) := Lib.hid (by omega)
    obtain ⟨n, hn⟩ : ∃ n, xs.length = n := ⟨_, rfl⟩
    rw [hn] at hx hneg hn' ⊢
    have Hn := Lib.hid hn
    clear hx hn
    go_enter Tryz.func143, Tryz.ntmps143
    go_wp2_with fail
    go_ret
    exact ⟨Below.refl _ _, _, rfl, .inr ⟨by omega, by rw [wtl_flat, Hn.out], by rw [← Hn.out]; exact HS.out⟩⟩

set_option maxHeartbeats 1000000 in
theorem szWordS_any (xs : List GWord) (L : Int) {A : Option Addr} {c : Nat} {b1} (w : World) (hx : T1 w (.sl xs.length (xs.flatMap GWord.enc)) b1 (.slice A xs.length c)) (hn' : xs.length ≤ maxLen) (hL0 : 0 ≤ L) (hL1 : L ≤ 1048576) :
    Calls Tryz.prog 176 #[.slice A xs.length c, .int .i64 L] w (SzPost L (xs.length ≤ 1048576 ∧ ∀ y ∈ xs, GWord.small y) (wtl (fun _ => 0) xs) w) := by
  unfold maxLen at hn'
  by_cases hneg : L - (xs.length : Int) < 0
  · generalize xs.length = n at *
    clear hx
    go_enter Tryz.func176, Tryz.ntmps176
    go_wp2_with fail
    go_ret
    exact ⟨Below.refl _ _, _, rfl, .inl rfl⟩
  · have HS : Hid (xs.length ≤ 1048576 ∧ ∀ y ∈ xs, GWord.small y) := Lib.hid ⟨by omega, fun y _ => by unfold GWord.small; trivial⟩
    obtain ⟨n, hn⟩ : ∃ n, xs.length = n := ⟨_, rfl⟩
    rw [hn] at hx hneg hn' ⊢
    have Hn := Lib.hid hn
    clear hx hn
    go_enter Tryz.func176, Tryz.ntmps176
    go_wp2_with fail
    go_ret
    exact ⟨Below.refl _ _, _, rfl, .inr ⟨by omega, by rw [wtl_flat, Hn.out], by rw [← Hn.out]; exact HS.out⟩⟩

set_option maxHeartbeats 1000000 in
theorem szCell_any (x : GCell) (L : Int) {b us} (w : World) (hx : TN w x.enc b us) (hm3 : x.data.length ≤ maxLen) (hm4 : x.words.length ≤ maxLen) (hL0 : 0 ≤ L) (hL1 : L ≤ 1048576) :
    Calls Tryz.prog 141 #[.agg us.toArray, .int .i64 L] w (SzPost L x.small x.wt w) := by
  obtain ⟨Ax3, cx3, bx3, Ax4, cx4, bx4, rfl, rfl, tx3, lx3, mx3, tx4, lx4, mx4⟩ := GCell.us hx
  clear lx3 mx3 lx4 mx4 hx
  have B0 : ∀ S, Below w.heap.size w (w.alloc S) := fun _ => (Below.refl _ _).alloc (Nat.le_refl _) _
  go_enter Tryz.func141, Tryz.ntmps141
  go_wp2_with fail
  refine (szInt64S_any x.data L _ (tx3.below (B0 _)) hm3 (by omega) (by omega)).mono ?_
  rintro e w1 ⟨hb1, r1, rfl, h1⟩
  have z1 : w.heap.size < w1.heap.size := by have := hb1.size; (try simp at this); omega
  have B1 : Below w.heap.size w w1 := Below.trans (B0 _) (hb1.mono (by first | omega | (simp; done) | (simp; omega)))
  have u1 := (hb1.block w.heap.size (by simp <;> omega)).trans (heap_alloc_new w _)
  have q1_0 := cell_of_row _ _ 0 _ _ _ u1
  have q1_1 := cell_of_row _ _ 1 _ _ _ u1
  have q1_2 := cell_of_row _ _ 2 _ _ _ u1
  have q1_3 := cell_of_row _ _ 3 _ _ _ u1
  have q1_4 := cell_of_row _ _ 4 _ _ _ u1
  simp only [List.getElem?_toArray, List.getElem?_cons_zero, List.getElem?_cons_succ] at q1_0 q1_1 q1_2 q1_3 q1_4
  clear hb1
  rcases h1 with rfl | ⟨a1, c1, s1⟩
  · go_wp2_with fail
    go_ret
    exact ⟨B1, _, rfl, .inl rfl⟩
  have hd1 : decide (r1 < 0) = false := by simp; omega
  have S1 := Lib.hid s1
  have e1 : r1 ≤ L := by omega
  have C1 := Lib.hid c1
  clear s1 c1
  go_wp2_with fail
  refine (szWordS_any x.words r1 _ (tx4.below B1) hm4 (by omega) (by omega)).mono ?_
  rintro e w2 ⟨hb2, r2, rfl, h2⟩
  have z2 : w.heap.size < w2.heap.size := by have := hb2.size; (try simp at this); omega
  have B2 : Below w.heap.size w w2 := Below.trans B1 (hb2.mono (by first | omega | (simp; done) | (simp; omega)))
  have u2 := (hb2.block w.heap.size (by omega)).trans u1
  have q2_0 := cell_of_row _ _ 0 _ _ _ u2
  have q2_1 := cell_of_row _ _ 1 _ _ _ u2
  have q2_2 := cell_of_row _ _ 2 _ _ _ u2
  have q2_3 := cell_of_row _ _ 3 _ _ _ u2
  have q2_4 := cell_of_row _ _ 4 _ _ _ u2
  simp only [List.getElem?_toArray, List.getElem?_cons_zero, List.getElem?_cons_succ] at q2_0 q2_1 q2_2 q2_3 q2_4
  clear u1 q1_0 q1_1 q1_2 q1_3 q1_4
  clear hb2
  rcases h2 with rfl | ⟨a2, c2, s2⟩
  · go_wp2_with fail
    go_ret
    exact ⟨B2, _, rfl, .inl rfl⟩
  have hd2 : decide (r2 < 0) = false := by simp; omega
  have S2 := Lib.hid s2
  have e2 : r2 ≤ r1 := by omega
  have C2 := Lib.hid c2
  clear s2 c2
  go_wp2_with fail
  go_ret
  exact ⟨B2, _, rfl, .inr ⟨by omega, by unfold GCell.wt; have := C1.out; have := C2.out; omega, ⟨S1.out, S2.out⟩⟩⟩

set_option maxHeartbeats 1000000 in
theorem szCellS_any (xs : List GCell) (L : Int) {A : Option Addr} {c : Nat} {b1} (w : World) (hx : T1 w (.sl xs.length (xs.flatMap GCell.enc)) b1 (.slice A xs.length c)) (hn' : xs.length ≤ maxLen) (hL0 : 0 ≤ L) (hL1 : L ≤ 1048576) :
    Calls Tryz.prog 80 #[.slice A xs.length c, .int .i64 L] w (SzPost L (xs.length ≤ 1048576 ∧ ∀ y ∈ xs, GCell.small y) (wtl GCell.wt xs) w) := by
  unfold maxLen at hn'
  by_cases hneg : L - (xs.length : Int) < 0
  · generalize xs.length = n at *
    clear hx
    go_enter Tryz.func80, Tryz.ntmps80
    go_wp2_with fail
    go_ret
    exact ⟨Below.refl _ _, _, rfl, .inl rfl⟩
  · have hn0 : xs.length ≤ 1048576 := by omega
    obtain ⟨n, hn⟩ : ∃ n, xs.length = n := ⟨_, rfl⟩
    rw [hn] at hx hneg hn' hn0 ⊢
    have Hn : Hid (xs.length = n) := hn
    clear hn hn'
    go_enter Tryz.func80, Tryz.ntmps80
    go_wp2_with fail
    go_loopw [1, 5] (fun l i w' => ∃ (r : Int) (k : Nat), l = .int .i64 r ∧ 0 ≤ r ∧ Hid (r = L - (n + ((xs.take k).map GCell.wt).sum : Nat)) ∧ r ≤ L ∧ k ≤ n ∧ i = .int .i64 k ∧ Hid (∀ y ∈ xs.take k, y.small) ∧ Below w.heap.size w w') (fun _ i _ => n - (intOf i).toNat)
    case atStart => exact ⟨_, 0, rfl, by omega, Lib.hid (by simp), by omega, by omega, rfl, Lib.hid (by simp), Below.refl _ _⟩
    case round =>
      obtain ⟨r, k, rfl, hr0, hrw, hr1, hk, rfl, ht, hb⟩ := hrel
      by_cases hlt : k < n
      · obtain ⟨ba, oa, x, Ax3, cx3, px3, Ax4, cx4, px4, rfl, hba, hxk, x0, x1, x2, x3, x4, tx3, lx3, mx3, tx4, lx4, mx4⟩ := GCell.get_ (hx.below hb) Hn.out hlt
        have nx := GCell.mk_ (w := wr) (x := x) tx3 tx4
        go_wp2_with fail
        refine (szCell_any x r _ nx (Nat.le_trans lx3 mx3) (Nat.le_trans lx4 mx4) hr0 (by omega)).mono ?_
        rintro e w1 ⟨hb1, r1, rfl, h⟩
        rcases h with rfl | ⟨h0, h1', h2⟩
        · go_wp2_with fail
          go_ret
          exact ⟨hb.trans (hb1.mono hb.size), _, rfl, .inl rfl⟩
        · have hd : decide (r1 < 0) = false := by simp; omega
          have h1 : r1 ≤ r := by omega
          have H1 := Lib.hid h1'
          clear h1'
          have H2 := Lib.hid h2
          clear h2
          go_wp2_with fail
          go_roundw
          case rel => exact ⟨_, k+1, rfl, h0, Lib.hid (by rw [wt_snoc hxk.out, H1.out, hrw.out]; omega), by omega, by omega, by go_num, Lib.hid (take_all_snoc ht.out hxk.out H2.out), hb.trans (hb1.mono hb.size)⟩
          case measure => simp [intOf]; omega
      · have : k = n := by omega
        subst this
        go_wp2_with fail
        go_ret
        have ht' := ht.out
        have hrw' := hrw.out
        rw [List.take_of_length_le (by rw [Hn.out]; exact Nat.le_refl _)] at ht' hrw'
        rw [← Hn.out] at hrw'
        exact ⟨hb, _, rfl, .inr ⟨hr0, hrw', ⟨hn0, ht'⟩⟩⟩

set_option maxHeartbeats 1000000 in
theorem szPairS_any (xs : List GPair) (L : Int) {A : Option Addr} {c : Nat} {b1} (w : World) (hx : T1 w (.sl xs.length (xs.flatMap GPair.enc)) b1 (.slice A xs.length c)) (hn' : xs.length ≤ maxLen) (hL0 : 0 ≤ L) (hL1 : L ≤ 1048576) :
    Calls Tryz.prog 81 #[.slice A xs.length c, .int .i64 L] w (SzPost L (xs.length ≤ 1048576 ∧ ∀ y ∈ xs, GPair.small y) (wtl (fun _ => 0) xs) w) := by
  unfold maxLen at hn'
  by_cases hneg : L - (xs.length : Int) < 0
  · generalize xs.length = n at *
    clear hx
    go_enter Tryz.func81, Tryz.ntmps81
    go_wp2_with fail
    go_ret
    exact ⟨Below.refl _ _, _, rfl, .inl rfl⟩
  · have HS : Hid (xs.length ≤ 1048576 ∧ ∀ y ∈ xs, GPair.small y) := Lib.hid ⟨by omega, fun y _ => by unfold GPair.small; trivial⟩
    obtain ⟨n, hn⟩ : ∃ n, xs.length = n := ⟨_, rfl⟩
    rw [hn] at hx hneg hn' ⊢
    have Hn := Lib.hid hn
    clear hx hn
    go_enter Tryz.func81, Tryz.ntmps81
    go_wp2_with fail
    go_ret
    exact ⟨Below.refl _ _, _, rfl, .inr ⟨by omega, by rw [wtl_flat, Hn.out], by rw [← Hn.out]; exact HS.out⟩⟩

set_option maxHeartbeats 1000000 in
theorem szMemory_any (x : GMemory) (L : Int) {b us} (w : World) (hx : TN w x.enc b us) (hm0 : x.cells.length ≤ maxLen) (hm4 : x.redexes.length ≤ maxLen) (hL0 : 0 ≤ L) (hL1 : L ≤ 1048576) :
    Calls Tryz.prog 34 #[.agg us.toArray, .int .i64 L] w (SzPost L x.small x.wt w) := by
  obtain ⟨Ax0, cx0, bx0, Ax4, cx4, bx4, rfl, rfl, tx0, lx0, mx0, tx4, lx4, mx4⟩ := GMemory.us hx
  clear lx0 mx0 lx4 mx4 hx
  have B0 : ∀ S, Below w.heap.size w (w.alloc S) := fun _ => (Below.refl _ _).alloc (Nat.le_refl _) _
  go_enter Tryz.func34, Tryz.ntmps34
  go_wp2_with fail
  refine (szCellS_any x.cells L _ (tx0.below (B0 _)) hm0 (by omega) (by omega)).mono ?_
  rintro e w1 ⟨hb1, r1, rfl, h1⟩
  have z1 : w.heap.size < w1.heap.size := by have := hb1.size; (try simp at this); omega
  have B1 : Below w.heap.size w w1 := Below.trans (B0 _) (hb1.mono (by first | omega | (simp; done) | (simp; omega)))
  have u1 := (hb1.block w.heap.size (by simp <;> omega)).trans (heap_alloc_new w _)
  have q1_0 := cell_of_row _ _ 0 _ _ _ u1
  have q1_1 := cell_of_row _ _ 1 _ _ _ u1
  have q1_2 := cell_of_row _ _ 2 _ _ _ u1
  have q1_3 := cell_of_row _ _ 3 _ _ _ u1
  have q1_4 := cell_of_row _ _ 4 _ _ _ u1
  simp only [List.getElem?_toArray, List.getElem?_cons_zero, List.getElem?_cons_succ] at q1_0 q1_1 q1_2 q1_3 q1_4
  clear hb1
  rcases h1 with rfl | ⟨a1, c1, s1⟩
  · go_wp2_with fail
    go_ret
    exact ⟨B1, _, rfl, .inl rfl⟩
  have hd1 : decide (r1 < 0) = false := by simp; omega
  have S1 := Lib.hid s1
  have e1 : r1 ≤ L := by omega
  have C1 := Lib.hid c1
  clear s1 c1
  go_wp2_with fail
  refine (szPairS_any x.redexes r1 _ (tx4.below B1) hm4 (by omega) (by omega)).mono ?_
  rintro e w2 ⟨hb2, r2, rfl, h2⟩
  have z2 : w.heap.size < w2.heap.size := by have := hb2.size; (try simp at this); omega
  have B2 : Below w.heap.size w w2 := Below.trans B1 (hb2.mono (by first | omega | (simp; done) | (simp; omega)))
  have u2 := (hb2.block w.heap.size (by omega)).trans u1
  have q2_0 := cell_of_row _ _ 0 _ _ _ u2
  have q2_1 := cell_of_row _ _ 1 _ _ _ u2
  have q2_2 := cell_of_row _ _ 2 _ _ _ u2
  have q2_3 := cell_of_row _ _ 3 _ _ _ u2
  have q2_4 := cell_of_row _ _ 4 _ _ _ u2
  simp only [List.getElem?_toArray, List.getElem?_cons_zero, List.getElem?_cons_succ] at q2_0 q2_1 q2_2 q2_3 q2_4
  clear u1 q1_0 q1_1 q1_2 q1_3 q1_4
  clear hb2
  rcases h2 with rfl | ⟨a2, c2, s2⟩
  · go_wp2_with fail
    go_ret
    exact ⟨B2, _, rfl, .inl rfl⟩
  have hd2 : decide (r2 < 0) = false := by simp; omega
  have S2 := Lib.hid s2
  have e2 : r2 ≤ r1 := by omega
  have C2 := Lib.hid c2
  clear s2 c2
  go_wp2_with fail
  go_ret
  exact ⟨B2, _, rfl, .inr ⟨by omega, by unfold GMemory.wt; have := C1.out; have := C2.out; omega, ⟨S1.out, (by unfold GWord.small; trivial), S2.out⟩⟩⟩

set_option maxHeartbeats 1000000 in
theorem szLinkS_any (xs : List GLink) (L : Int) {A : Option Addr} {c : Nat} {b1} (w : World) (hx : T1 w (.sl xs.length (xs.flatMap GLink.enc)) b1 (.slice A xs.length c)) (hn' : xs.length ≤ maxLen) (hL0 : 0 ≤ L) (hL1 : L ≤ 1048576) :
    Calls Tryz.prog 142 #[.slice A xs.length c, .int .i64 L] w (SzPost L (xs.length ≤ 1048576 ∧ ∀ y ∈ xs, GLink.small y) (wtl (fun _ => 0) xs) w) := by
  unfold maxLen at hn'
  by_cases hneg : L - (xs.length : Int) < 0
  · generalize xs.length = n at *
    clear hx
    go_enter Tryz.func142, Tryz.ntmps142
    go_wp2_with fail
    go_ret
    exact ⟨Below.refl _ _, _, rfl, .inl rfl⟩
  · have HS : Hid (xs.length ≤ 1048576 ∧ ∀ y ∈ xs, GLink.small y) := Lib.hid ⟨by omega, fun y _ => by unfold GLink.small; trivial⟩
    obtain ⟨n, hn⟩ : ∃ n, xs.length = n := ⟨_, rfl⟩
    rw [hn] at hx hneg hn' ⊢
    have Hn := Lib.hid hn
    clear hx hn
    go_enter Tryz.func142, Tryz.ntmps142
    go_wp2_with fail
    go_ret
    exact ⟨Below.refl _ _, _, rfl, .inr ⟨by omega, by rw [wtl_flat, Hn.out], by rw [← Hn.out]; exact HS.out⟩⟩

set_option maxHeartbeats 1000000 in
theorem szWorker_any (x : GWorker) (L : Int) {b us} (w : World) (hx : TN w x.enc b us) (hm2 : x.redexes.length ≤ maxLen) (hm3 : x.links.length ≤ maxLen) (hm4 : x.counts.length ≤ maxLen) (hL0 : 0 ≤ L) (hL1 : L ≤ 1048576) :
    Calls Tryz.prog 82 #[.agg us.toArray, .int .i64 L] w (SzPost L x.small x.wt w) := by
  obtain ⟨Ax2, cx2, bx2, Ax3, cx3, bx3, Ax4, cx4, bx4, rfl, rfl, tx2, lx2, mx2, tx3, lx3, mx3, tx4, lx4, mx4⟩ := GWorker.us hx
  clear lx2 mx2 lx3 mx3 lx4 mx4 hx
  have B0 : ∀ S, Below w.heap.size w (w.alloc S) := fun _ => (Below.refl _ _).alloc (Nat.le_refl _) _
  go_enter Tryz.func82, Tryz.ntmps82
  go_wp2_with fail
  refine (szPairS_any x.redexes L _ (tx2.below (B0 _)) hm2 (by omega) (by omega)).mono ?_
  rintro e w1 ⟨hb1, r1, rfl, h1⟩
  have z1 : w.heap.size < w1.heap.size := by have := hb1.size; (try simp at this); omega
  have B1 : Below w.heap.size w w1 := Below.trans (B0 _) (hb1.mono (by first | omega | (simp; done) | (simp; omega)))
  have u1 := (hb1.block w.heap.size (by simp <;> omega)).trans (heap_alloc_new w _)
  have q1_0 := cell_of_row _ _ 0 _ _ _ u1
  have q1_1 := cell_of_row _ _ 1 _ _ _ u1
  have q1_2 := cell_of_row _ _ 2 _ _ _ u1
  have q1_3 := cell_of_row _ _ 3 _ _ _ u1
  have q1_4 := cell_of_row _ _ 4 _ _ _ u1
  simp only [List.getElem?_toArray, List.getElem?_cons_zero, List.getElem?_cons_succ] at q1_0 q1_1 q1_2 q1_3 q1_4
  clear hb1
  rcases h1 with rfl | ⟨a1, c1, s1⟩
  · go_wp2_with fail
    go_ret
    exact ⟨B1, _, rfl, .inl rfl⟩
  have hd1 : decide (r1 < 0) = false := by simp; omega
  have S1 := Lib.hid s1
  have e1 : r1 ≤ L := by omega
  have C1 := Lib.hid c1
  clear s1 c1
  go_wp2_with fail
  refine (szLinkS_any x.links r1 _ (tx3.below B1) hm3 (by omega) (by omega)).mono ?_
  rintro e w2 ⟨hb2, r2, rfl, h2⟩
  have z2 : w.heap.size < w2.heap.size := by have := hb2.size; (try simp at this); omega
  have B2 : Below w.heap.size w w2 := Below.trans B1 (hb2.mono (by first | omega | (simp; done) | (simp; omega)))
  have u2 := (hb2.block w.heap.size (by omega)).trans u1
  have q2_0 := cell_of_row _ _ 0 _ _ _ u2
  have q2_1 := cell_of_row _ _ 1 _ _ _ u2
  have q2_2 := cell_of_row _ _ 2 _ _ _ u2
  have q2_3 := cell_of_row _ _ 3 _ _ _ u2
  have q2_4 := cell_of_row _ _ 4 _ _ _ u2
  simp only [List.getElem?_toArray, List.getElem?_cons_zero, List.getElem?_cons_succ] at q2_0 q2_1 q2_2 q2_3 q2_4
  clear u1 q1_0 q1_1 q1_2 q1_3 q1_4
  clear hb2
  rcases h2 with rfl | ⟨a2, c2, s2⟩
  · go_wp2_with fail
    go_ret
    exact ⟨B2, _, rfl, .inl rfl⟩
  have hd2 : decide (r2 < 0) = false := by simp; omega
  have S2 := Lib.hid s2
  have e2 : r2 ≤ r1 := by omega
  have C2 := Lib.hid c2
  clear s2 c2
  go_wp2_with fail
  refine (szInt64S_any x.counts r2 _ (tx4.below B2) hm4 (by omega) (by omega)).mono ?_
  rintro e w3 ⟨hb3, r3, rfl, h3⟩
  have z3 : w.heap.size < w3.heap.size := by have := hb3.size; (try simp at this); omega
  have B3 : Below w.heap.size w w3 := Below.trans B2 (hb3.mono (by first | omega | (simp; done) | (simp; omega)))
  have u3 := (hb3.block w.heap.size (by omega)).trans u2
  have q3_0 := cell_of_row _ _ 0 _ _ _ u3
  have q3_1 := cell_of_row _ _ 1 _ _ _ u3
  have q3_2 := cell_of_row _ _ 2 _ _ _ u3
  have q3_3 := cell_of_row _ _ 3 _ _ _ u3
  have q3_4 := cell_of_row _ _ 4 _ _ _ u3
  simp only [List.getElem?_toArray, List.getElem?_cons_zero, List.getElem?_cons_succ] at q3_0 q3_1 q3_2 q3_3 q3_4
  clear u2 q2_0 q2_1 q2_2 q2_3 q2_4
  clear hb3
  rcases h3 with rfl | ⟨a3, c3, s3⟩
  · go_wp2_with fail
    go_ret
    exact ⟨B3, _, rfl, .inl rfl⟩
  have hd3 : decide (r3 < 0) = false := by simp; omega
  have S3 := Lib.hid s3
  have e3 : r3 ≤ r2 := by omega
  have C3 := Lib.hid c3
  clear s3 c3
  go_wp2_with fail
  go_ret
  exact ⟨B3, _, rfl, .inr ⟨by omega, by unfold GWorker.wt; have := C1.out; have := C2.out; have := C3.out; omega, ⟨S1.out, S2.out, S3.out⟩⟩⟩

set_option maxHeartbeats 1000000 in
theorem szWorkerS_any (xs : List GWorker) (L : Int) {A : Option Addr} {c : Nat} {b1} (w : World) (hx : T1 w (.sl xs.length (xs.flatMap GWorker.enc)) b1 (.slice A xs.length c)) (hn' : xs.length ≤ maxLen) (hL0 : 0 ≤ L) (hL1 : L ≤ 1048576) :
    Calls Tryz.prog 35 #[.slice A xs.length c, .int .i64 L] w (SzPost L (xs.length ≤ 1048576 ∧ ∀ y ∈ xs, GWorker.small y) (wtl GWorker.wt xs) w) := by
  unfold maxLen at hn'
  by_cases hneg : L - (xs.length : Int) < 0
  · generalize xs.length = n at *
    clear hx
    go_enter Tryz.func35, Tryz.ntmps35
    go_wp2_with fail
    go_ret
    exact ⟨Below.refl _ _, _, rfl, .inl rfl⟩
  · have hn0 : xs.length ≤ 1048576 := by omega
    obtain ⟨n, hn⟩ : ∃ n, xs.length = n := ⟨_, rfl⟩
    rw [hn] at hx hneg hn' hn0 ⊢
    have Hn : Hid (xs.length = n) := hn
    clear hn hn'
    go_enter Tryz.func35, Tryz.ntmps35
    go_wp2_with fail
    go_loopw [1, 5] (fun l i w' => ∃ (r : Int) (k : Nat), l = .int .i64 r ∧ 0 ≤ r ∧ Hid (r = L - (n + ((xs.take k).map GWorker.wt).sum : Nat)) ∧ r ≤ L ∧ k ≤ n ∧ i = .int .i64 k ∧ Hid (∀ y ∈ xs.take k, y.small) ∧ Below w.heap.size w w') (fun _ i _ => n - (intOf i).toNat)
    case atStart => exact ⟨_, 0, rfl, by omega, Lib.hid (by simp), by omega, by omega, rfl, Lib.hid (by simp), Below.refl _ _⟩
    case round =>
      obtain ⟨r, k, rfl, hr0, hrw, hr1, hk, rfl, ht, hb⟩ := hrel
      by_cases hlt : k < n
      · obtain ⟨ba, oa, x, Ax2, cx2, px2, Ax3, cx3, px3, Ax4, cx4, px4, rfl, hba, hxk, x0, x1, x2, x3, x4, tx2, lx2, mx2, tx3, lx3, mx3, tx4, lx4, mx4⟩ := GWorker.get_ (hx.below hb) Hn.out hlt
        have nx := GWorker.mk_ (w := wr) (x := x) tx2 tx3 tx4
        go_wp2_with fail
        refine (szWorker_any x r _ nx (Nat.le_trans lx2 mx2) (Nat.le_trans lx3 mx3) (Nat.le_trans lx4 mx4) hr0 (by omega)).mono ?_
        rintro e w1 ⟨hb1, r1, rfl, h⟩
        rcases h with rfl | ⟨h0, h1', h2⟩
        · go_wp2_with fail
          go_ret
          exact ⟨hb.trans (hb1.mono hb.size), _, rfl, .inl rfl⟩
        · have hd : decide (r1 < 0) = false := by simp; omega
          have h1 : r1 ≤ r := by omega
          have H1 := Lib.hid h1'
          clear h1'
          have H2 := Lib.hid h2
          clear h2
          go_wp2_with fail
          go_roundw
          case rel => exact ⟨_, k+1, rfl, h0, Lib.hid (by rw [wt_snoc hxk.out, H1.out, hrw.out]; omega), by omega, by omega, by go_num, Lib.hid (take_all_snoc ht.out hxk.out H2.out), hb.trans (hb1.mono hb.size)⟩
          case measure => simp [intOf]; omega
      · have : k = n := by omega
        subst this
        go_wp2_with fail
        go_ret
        have ht' := ht.out
        have hrw' := hrw.out
        rw [List.take_of_length_le (by rw [Hn.out]; exact Nat.le_refl _)] at ht' hrw'
        rw [← Hn.out] at hrw'
        exact ⟨hb, _, rfl, .inr ⟨hr0, hrw', ⟨hn0, ht'⟩⟩⟩

set_option maxHeartbeats 1000000 in
theorem szPool_any (x : GPool) (L : Int) {b us} (w : World) (hx : TN w x.enc b us) (hm0 : x.memory.cells.length ≤ maxLen) (hm4 : x.memory.redexes.length ≤ maxLen) (hm5 : x.workers.length ≤ maxLen) (hL0 : 0 ≤ L) (hL1 : L ≤ 1048576) :
    Calls Tryz.prog 7 #[.agg us.toArray, .int .i64 L] w (SzPost L x.small x.wt w) := by
  obtain ⟨Ax0, cx0, bx0, Ax4, cx4, bx4, Ax5, cx5, bx5, rfl, rfl, tx0, lx0, mx0, tx4, lx4, mx4, tx5, lx5, mx5⟩ := GPool.us hx
  clear lx0 mx0 lx4 mx4 lx5 mx5 hx
  have B0 : ∀ S, Below w.heap.size w (w.alloc S) := fun _ => (Below.refl _ _).alloc (Nat.le_refl _) _
  go_enter Tryz.func7, Tryz.ntmps7
  go_wp2_with fail
  refine (szMemory_any x.memory L _ (GMemory.mk_ (x := x.memory) (tx0.below (B0 _)) (tx4.below (B0 _))) hm0 hm4 (by omega) (by omega)).mono ?_
  rintro e w1 ⟨hb1, r1, rfl, h1⟩
  have z1 : w.heap.size < w1.heap.size := by have := hb1.size; (try simp at this); omega
  have B1 : Below w.heap.size w w1 := Below.trans (B0 _) (hb1.mono (by first | omega | (simp; done) | (simp; omega)))
  have u1 := (hb1.block w.heap.size (by simp <;> omega)).trans (heap_alloc_new w _)
  have q1_0 := cell_of_row _ _ 0 _ _ _ u1
  have q1_1 := cell_of_row _ _ 1 _ _ _ u1
  have q1_2 := cell_of_row _ _ 2 _ _ _ u1
  have q1_3 := cell_of_row _ _ 3 _ _ _ u1
  have q1_4 := cell_of_row _ _ 4 _ _ _ u1
  have q1_5 := cell_of_row _ _ 5 _ _ _ u1
  have q1_6 := cell_of_row _ _ 6 _ _ _ u1
  simp only [List.getElem?_toArray, List.getElem?_cons_zero, List.getElem?_cons_succ] at q1_0 q1_1 q1_2 q1_3 q1_4 q1_5 q1_6
  clear hb1
  rcases h1 with rfl | ⟨a1, c1, s1⟩
  · go_wp2_with fail
    go_ret
    exact ⟨B1, _, rfl, .inl rfl⟩
  have hd1 : decide (r1 < 0) = false := by simp; omega
  have S1 := Lib.hid s1
  have e1 : r1 ≤ L := by omega
  have C1 := Lib.hid c1
  clear s1 c1
  go_wp2_with fail
  refine (szWorkerS_any x.workers r1 _ (tx5.below B1) hm5 (by omega) (by omega)).mono ?_
  rintro e w2 ⟨hb2, r2, rfl, h2⟩
  have z2 : w.heap.size < w2.heap.size := by have := hb2.size; (try simp at this); omega
  have B2 : Below w.heap.size w w2 := Below.trans B1 (hb2.mono (by first | omega | (simp; done) | (simp; omega)))
  have u2 := (hb2.block w.heap.size (by omega)).trans u1
  have q2_0 := cell_of_row _ _ 0 _ _ _ u2
  have q2_1 := cell_of_row _ _ 1 _ _ _ u2
  have q2_2 := cell_of_row _ _ 2 _ _ _ u2
  have q2_3 := cell_of_row _ _ 3 _ _ _ u2
  have q2_4 := cell_of_row _ _ 4 _ _ _ u2
  have q2_5 := cell_of_row _ _ 5 _ _ _ u2
  have q2_6 := cell_of_row _ _ 6 _ _ _ u2
  simp only [List.getElem?_toArray, List.getElem?_cons_zero, List.getElem?_cons_succ] at q2_0 q2_1 q2_2 q2_3 q2_4 q2_5 q2_6
  clear u1 q1_0 q1_1 q1_2 q1_3 q1_4 q1_5 q1_6
  clear hb2
  rcases h2 with rfl | ⟨a2, c2, s2⟩
  · go_wp2_with fail
    go_ret
    exact ⟨B2, _, rfl, .inl rfl⟩
  have hd2 : decide (r2 < 0) = false := by simp; omega
  have S2 := Lib.hid s2
  have e2 : r2 ≤ r1 := by omega
  have C2 := Lib.hid c2
  clear s2 c2
  go_wp2_with fail
  go_ret
  exact ⟨B2, _, rfl, .inr ⟨by omega, by unfold GPool.wt; have := C1.out; have := C2.out; omega, ⟨S1.out, S2.out⟩⟩⟩

end Go.Proofs.YthciaodffkbljaaGreat
