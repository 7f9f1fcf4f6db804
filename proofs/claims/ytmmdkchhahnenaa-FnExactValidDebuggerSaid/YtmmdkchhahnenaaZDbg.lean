/- Sizes of these types. Printed by gen_fam.py. -/
import Derived.Test.YtmmdkchhahnenaaProg
import Derived.Test.YtmmdkchhahnenaaDDbg
set_option linter.unusedSimpArgs false
set_option linter.unusedVariables false
namespace Go.Proofs.Ytmmdkchhahnenaa
open Go Go.RowKit Go.Proofs Go.Tr

set_option maxHeartbeats 1000000 in
theorem szInt64S_any (xs : List Int) (L : Int) {A : Option Addr} {c : Nat} {b1} (w : World) (hx : T1 w (.sl xs.length (xs.flatMap intE)) b1 (.slice A xs.length c)) (hn' : xs.length ≤ maxLen) (hL0 : 0 ≤ L) (hL1 : L ≤ 1048576) :
    Calls Try.prog 71 #[.slice A xs.length c, .int .i64 L] w (SzPost L (xs.length ≤ 1048576) (wtl (fun _ => 0) xs) w) := by
  unfold maxLen at hn'
  by_cases hneg : L - (xs.length : Int) < 0
  · generalize xs.length = n at *
    clear hx
    go_enter Try.func71, Try.ntmps71
    go_wp2_with fail
    go_ret
    exact ⟨Below.refl _ _, _, rfl, .inl rfl⟩
  · have HS : Hid (xs.length ≤ 1048576) := Lib.hid (by omega)
    obtain ⟨n, hn⟩ : ∃ n, xs.length = n := ⟨_, rfl⟩
    rw [hn] at hx hneg hn' ⊢
    have Hn := Lib.hid hn
    clear hx hn
    go_enter Try.func71, Try.ntmps71
    go_wp2_with fail
    go_ret
    exact ⟨Below.refl _ _, _, rfl, .inr ⟨by omega, by rw [wtl_flat, Hn.out], by rw [← Hn.out]; exact HS.out⟩⟩

set_option maxHeartbeats 1000000 in
theorem szPortS_any (xs : List GPort) (L : Int) {A : Option Addr} {c : Nat} {b1} (w : World) (hx : T1 w (.sl xs.length (xs.flatMap GPort.enc)) b1 (.slice A xs.length c)) (hn' : xs.length ≤ maxLen) (hL0 : 0 ≤ L) (hL1 : L ≤ 1048576) :
    Calls Try.prog 271 #[.slice A xs.length c, .int .i64 L] w (SzPost L (xs.length ≤ 1048576 ∧ ∀ y ∈ xs, GPort.small y) (wtl (fun _ => 0) xs) w) := by
  unfold maxLen at hn'
  by_cases hneg : L - (xs.length : Int) < 0
  · generalize xs.length = n at *
    clear hx
    go_enter Try.func271, Try.ntmps271
    go_wp2_with fail
    go_ret
    exact ⟨Below.refl _ _, _, rfl, .inl rfl⟩
  · have HS : Hid (xs.length ≤ 1048576 ∧ ∀ y ∈ xs, GPort.small y) := Lib.hid ⟨by omega, fun y _ => by unfold GPort.small; trivial⟩
    obtain ⟨n, hn⟩ : ∃ n, xs.length = n := ⟨_, rfl⟩
    rw [hn] at hx hneg hn' ⊢
    have Hn := Lib.hid hn
    clear hx hn
    go_enter Try.func271, Try.ntmps271
    go_wp2_with fail
    go_ret
    exact ⟨Below.refl _ _, _, rfl, .inr ⟨by omega, by rw [wtl_flat, Hn.out], by rw [← Hn.out]; exact HS.out⟩⟩

set_option maxHeartbeats 1000000 in
theorem szAgent_any (x : GAgent) (L : Int) {b us} (w : World) (hx : TN w x.enc b us) (hm3 : x.data.length ≤ maxLen) (hm4 : x.ports.length ≤ maxLen) (hL0 : 0 ≤ L) (hL1 : L ≤ 1048576) :
    Calls Try.prog 236 #[.agg us.toArray, .int .i64 L] w (SzPost L x.small x.wt w) := by
  obtain ⟨Ax3, cx3, bx3, Ax4, cx4, bx4, rfl, rfl, tx3, lx3, mx3, tx4, lx4, mx4⟩ := GAgent.us hx
  clear lx3 mx3 lx4 mx4 hx
  have B0 : ∀ S, Below w.heap.size w (w.alloc S) := fun _ => (Below.refl _ _).alloc (Nat.le_refl _) _
  go_enter Try.func236, Try.ntmps236
  go_wp2_with fail
  refine (szInt64S_any x.data L _ (tx3.below (B0 _)) hm3 (by omega) (by omega)).mono ?_
  rintro e w1 ⟨hb1, r1, rfl, h1⟩
  have z1 : w.heap.size < w1.heap.size := by have := hb1.size; (try simp at this); omega
  have B1 : Below w.heap.size w w1 := Below.trans (B0 _) (hb1.mono (by first | omega | (simp; done) | (simp; omega)))
  have u1 := (hb1.block w.heap.size (by simp <;> omega)).trans (heap_alloc_new w _)
  have q1_0 := cell_of_row _ _ 0 _ _ _ u1
  have q1_1 := cell_of_row _ _ 1 _ _ _ u1
  have q1_2 := cell_of_row _ _ 2 _ _ _ u1
  have q1_3 := cell_of_row _ _ 3 _ _ _ u1
  have q1_4 := cell_of_row _ _ 4 _ _ _ u1
  simp only [List.getElem?_toArray, List.getElem?_cons_zero, List.getElem?_cons_succ] at q1_0 q1_1 q1_2 q1_3 q1_4
  clear hb1
  rcases h1 with rfl | ⟨a1, c1, s1⟩
  · go_wp2_with fail
    go_ret
    exact ⟨B1, _, rfl, .inl rfl⟩
  have hd1 : decide (r1 < 0) = false := by simp; omega
  have S1 := Lib.hid s1
  have e1 : r1 ≤ L := by omega
  have C1 := Lib.hid c1
  clear s1 c1
  go_wp2_with fail
  refine (szPortS_any x.ports r1 _ (tx4.below B1) hm4 (by omega) (by omega)).mono ?_
  rintro e w2 ⟨hb2, r2, rfl, h2⟩
  have z2 : w.heap.size < w2.heap.size := by have := hb2.size; (try simp at this); omega
  have B2 : Below w.heap.size w w2 := Below.trans B1 (hb2.mono (by first | omega | (simp; done) | (simp; omega)))
  have u2 := (hb2.block w.heap.size (by omega)).trans u1
  have q2_0 := cell_of_row _ _ 0 _ _ _ u2
  have q2_1 := cell_of_row _ _ 1 _ _ _ u2
  have q2_2 := cell_of_row _ _ 2 _ _ _ u2
  have q2_3 := cell_of_row _ _ 3 _ _ _ u2
  have q2_4 := cell_of_row _ _ 4 _ _ _ u2
  simp only [List.getElem?_toArray, List.getElem?_cons_zero, List.getElem?_cons_succ] at q2_0 q2_1 q2_2 q2_3 q2_4
  clear u1 q1_0 q1_1 q1_2 q1_3 q1_4
  clear hb2
  rcases h2 with rfl | ⟨a2, c2, s2⟩
  · go_wp2_with fail
    go_ret
    exact ⟨B2, _, rfl, .inl rfl⟩
  have hd2 : decide (r2 < 0) = false := by simp; omega
  have S2 := Lib.hid s2
  have e2 : r2 ≤ r1 := by omega
  have C2 := Lib.hid c2
  clear s2 c2
  go_wp2_with fail
  go_ret
  exact ⟨B2, _, rfl, .inr ⟨by omega, by unfold GAgent.wt; have := C1.out; have := C2.out; omega, ⟨S1.out, S2.out⟩⟩⟩

set_option maxHeartbeats 1000000 in
theorem szAgentS_any (xs : List GAgent) (L : Int) {A : Option Addr} {c : Nat} {b1} (w : World) (hx : T1 w (.sl xs.length (xs.flatMap GAgent.enc)) b1 (.slice A xs.length c)) (hn' : xs.length ≤ maxLen) (hL0 : 0 ≤ L) (hL1 : L ≤ 1048576) :
    Calls Try.prog 168 #[.slice A xs.length c, .int .i64 L] w (SzPost L (xs.length ≤ 1048576 ∧ ∀ y ∈ xs, GAgent.small y) (wtl GAgent.wt xs) w) := by
  unfold maxLen at hn'
  by_cases hneg : L - (xs.length : Int) < 0
  · generalize xs.length = n at *
    clear hx
    go_enter Try.func168, Try.ntmps168
    go_wp2_with fail
    go_ret
    exact ⟨Below.refl _ _, _, rfl, .inl rfl⟩
  · have hn0 : xs.length ≤ 1048576 := by omega
    obtain ⟨n, hn⟩ : ∃ n, xs.length = n := ⟨_, rfl⟩
    rw [hn] at hx hneg hn' hn0 ⊢
    have Hn : Hid (xs.length = n) := hn
    clear hn hn'
    go_enter Try.func168, Try.ntmps168
    go_wp2_with fail
    go_loopw [1, 5] (fun l i w' => ∃ (r : Int) (k : Nat), l = .int .i64 r ∧ 0 ≤ r ∧ Hid (r = L - (n + ((xs.take k).map GAgent.wt).sum : Nat)) ∧ r ≤ L ∧ k ≤ n ∧ i = .int .i64 k ∧ Hid (∀ y ∈ xs.take k, y.small) ∧ Below w.heap.size w w') (fun _ i _ => n - (intOf i).toNat)
    case atStart => exact ⟨_, 0, rfl, by omega, Lib.hid (by simp), by omega, by omega, rfl, Lib.hid (by simp), Below.refl _ _⟩
    case round =>
      obtain ⟨r, k, rfl, hr0, hrw, hr1, hk, rfl, ht, hb⟩ := hrel
      by_cases hlt : k < n
      · obtain ⟨ba, oa, x, Ax3, cx3, px3, Ax4, cx4, px4, rfl, hba, hxk, x0, x1, x2, x3, x4, tx3, lx3, mx3, tx4, lx4, mx4⟩ := GAgent.get_ (hx.below hb) Hn.out hlt
        have nx := GAgent.mk_ (w := wr) (x := x) tx3 tx4
        go_wp2_with fail
        refine (szAgent_any x r _ nx (Nat.le_trans lx3 mx3) (Nat.le_trans lx4 mx4) hr0 (by omega)).mono ?_
        rintro e w1 ⟨hb1, r1, rfl, h⟩
        rcases h with rfl | ⟨h0, h1', h2⟩
        · go_wp2_with fail
          go_ret
          exact ⟨hb.trans (hb1.mono hb.size), _, rfl, .inl rfl⟩
        · have hd : decide (r1 < 0) = false := by simp; omega
          have h1 : r1 ≤ r := by omega
          have H1 := Lib.hid h1'
          clear h1'
          have H2 := Lib.hid h2
          clear h2
          go_wp2_with fail
          go_roundw
          case rel => exact ⟨_, k+1, rfl, h0, Lib.hid (by rw [wt_snoc hxk.out, H1.out, hrw.out]; omega), by omega, by omega, by go_num, Lib.hid (take_all_snoc ht.out hxk.out H2.out), hb.trans (hb1.mono hb.size)⟩
          case measure => simp [intOf]; omega
      · have : k = n := by omega
        subst this
        go_wp2_with fail
        go_ret
        have ht' := ht.out
        have hrw' := hrw.out
        rw [List.take_of_length_le (by rw [Hn.out]; exact Nat.le_refl _)] at ht' hrw'
        rw [← Hn.out] at hrw'
        exact ⟨hb, _, rfl, .inr ⟨hr0, hrw', ⟨hn0, ht'⟩⟩⟩

set_option maxHeartbeats 1000000 in
theorem szNet_any (x : GNet) (L : Int) {b us} (w : World) (hx : TN w x.enc b us) (hm0 : x.agents.length ≤ maxLen) (hL0 : 0 ≤ L) (hL1 : L ≤ 1048576) :
    Calls Try.prog 72 #[.agg us.toArray, .int .i64 L] w (SzPost L x.small x.wt w) := by
  obtain ⟨Ax0, cx0, bx0, rfl, rfl, tx0, lx0, mx0⟩ := GNet.us hx
  clear lx0 mx0 hx
  have B0 : ∀ S, Below w.heap.size w (w.alloc S) := fun _ => (Below.refl _ _).alloc (Nat.le_refl _) _
  go_enter Try.func72, Try.ntmps72
  go_wp2_with fail
  refine (szAgentS_any x.agents L _ (tx0.below (B0 _)) hm0 (by omega) (by omega)).mono ?_
  rintro e w1 ⟨hb1, r1, rfl, h1⟩
  have z1 : w.heap.size < w1.heap.size := by have := hb1.size; (try simp at this); omega
  have B1 : Below w.heap.size w w1 := Below.trans (B0 _) (hb1.mono (by first | omega | (simp; done) | (simp; omega)))
  have u1 := (hb1.block w.heap.size (by simp <;> omega)).trans (heap_alloc_new w _)
  have q1_0 := cell_of_row _ _ 0 _ _ _ u1
  simp only [List.getElem?_toArray, List.getElem?_cons_zero, List.getElem?_cons_succ] at q1_0
  clear hb1
  rcases h1 with rfl | ⟨a1, c1, s1⟩
  · go_wp2_with fail
    go_ret
    exact ⟨B1, _, rfl, .inl rfl⟩
  have hd1 : decide (r1 < 0) = false := by simp; omega
  have S1 := Lib.hid s1
  have e1 : r1 ≤ L := by omega
  have C1 := Lib.hid c1
  clear s1 c1
  go_wp2_with fail
  go_ret
  exact ⟨B1, _, rfl, .inr ⟨by omega, by unfold GNet.wt; have := C1.out; omega, S1.out⟩⟩



set_option maxHeartbeats 1000000 in
theorem szOriginS_any (xs : List GOrigin) (L : Int) {A : Option Addr} {c : Nat} {b1} (w : World) (hx : T1 w (.sl xs.length (xs.flatMap GOrigin.enc)) b1 (.slice A xs.length c)) (hn' : xs.length ≤ maxLen) (hL0 : 0 ≤ L) (hL1 : L ≤ 1048576) :
    Calls Try.prog 73 #[.slice A xs.length c, .int .i64 L] w (SzPost L (xs.length ≤ 1048576 ∧ ∀ y ∈ xs, GOrigin.small y) (wtl (fun _ => 0) xs) w) := by
  unfold maxLen at hn'
  by_cases hneg : L - (xs.length : Int) < 0
  · generalize xs.length = n at *
    clear hx
    go_enter Try.func73, Try.ntmps73
    go_wp2_with fail
    go_ret
    exact ⟨Below.refl _ _, _, rfl, .inl rfl⟩
  · have HS : Hid (xs.length ≤ 1048576 ∧ ∀ y ∈ xs, GOrigin.small y) := Lib.hid ⟨by omega, fun y _ => by unfold GOrigin.small; trivial⟩
    obtain ⟨n, hn⟩ : ∃ n, xs.length = n := ⟨_, rfl⟩
    rw [hn] at hx hneg hn' ⊢
    have Hn := Lib.hid hn
    clear hx hn
    go_enter Try.func73, Try.ntmps73
    go_wp2_with fail
    go_ret
    exact ⟨Below.refl _ _, _, rfl, .inr ⟨by omega, by rw [wtl_flat, Hn.out], by rw [← Hn.out]; exact HS.out⟩⟩

set_option maxHeartbeats 1000000 in
theorem szCheckpoint_any (x : GCheckpoint) (L : Int) {b us} (w : World) (hx : TN w x.enc b us) (hm1 : x.net.agents.length ≤ maxLen) (hm2 : x.origins.length ≤ maxLen) (hL0 : 0 ≤ L) (hL1 : L ≤ 1048576) :
    Calls Try.prog 169 #[.agg us.toArray, .int .i64 L] w (SzPost L x.small x.wt w) := by
  obtain ⟨Ax1, cx1, bx1, Ax2, cx2, bx2, rfl, rfl, tx1, lx1, mx1, tx2, lx2, mx2⟩ := GCheckpoint.us hx
  clear lx1 mx1 lx2 mx2 hx
  have B0 : ∀ S, Below w.heap.size w (w.alloc S) := fun _ => (Below.refl _ _).alloc (Nat.le_refl _) _
  go_enter Try.func169, Try.ntmps169
  go_wp2_with fail
  refine (szNet_any x.net L _ (GNet.mk_ (x := x.net) (tx1.below (B0 _))) hm1 (by omega) (by omega)).mono ?_
  rintro e w1 ⟨hb1, r1, rfl, h1⟩
  have z1 : w.heap.size < w1.heap.size := by have := hb1.size; (try simp at this); omega
  have B1 : Below w.heap.size w w1 := Below.trans (B0 _) (hb1.mono (by first | omega | (simp; done) | (simp; omega)))
  have u1 := (hb1.block w.heap.size (by simp <;> omega)).trans (heap_alloc_new w _)
  have q1_0 := cell_of_row _ _ 0 _ _ _ u1
  have q1_1 := cell_of_row _ _ 1 _ _ _ u1
  have q1_2 := cell_of_row _ _ 2 _ _ _ u1
  simp only [List.getElem?_toArray, List.getElem?_cons_zero, List.getElem?_cons_succ] at q1_0 q1_1 q1_2
  clear hb1
  rcases h1 with rfl | ⟨a1, c1, s1⟩
  · go_wp2_with fail
    go_ret
    exact ⟨B1, _, rfl, .inl rfl⟩
  have hd1 : decide (r1 < 0) = false := by simp; omega
  have S1 := Lib.hid s1
  have e1 : r1 ≤ L := by omega
  have C1 := Lib.hid c1
  clear s1 c1
  go_wp2_with fail
  refine (szOriginS_any x.origins r1 _ (tx2.below B1) hm2 (by omega) (by omega)).mono ?_
  rintro e w2 ⟨hb2, r2, rfl, h2⟩
  have z2 : w.heap.size < w2.heap.size := by have := hb2.size; (try simp at this); omega
  have B2 : Below w.heap.size w w2 := Below.trans B1 (hb2.mono (by first | omega | (simp; done) | (simp; omega)))
  have u2 := (hb2.block w.heap.size (by omega)).trans u1
  have q2_0 := cell_of_row _ _ 0 _ _ _ u2
  have q2_1 := cell_of_row _ _ 1 _ _ _ u2
  have q2_2 := cell_of_row _ _ 2 _ _ _ u2
  simp only [List.getElem?_toArray, List.getElem?_cons_zero, List.getElem?_cons_succ] at q2_0 q2_1 q2_2
  clear u1 q1_0 q1_1 q1_2
  clear hb2
  rcases h2 with rfl | ⟨a2, c2, s2⟩
  · go_wp2_with fail
    go_ret
    exact ⟨B2, _, rfl, .inl rfl⟩
  have hd2 : decide (r2 < 0) = false := by simp; omega
  have S2 := Lib.hid s2
  have e2 : r2 ≤ r1 := by omega
  have C2 := Lib.hid c2
  clear s2 c2
  go_wp2_with fail
  go_ret
  exact ⟨B2, _, rfl, .inr ⟨by omega, by unfold GCheckpoint.wt; have := C1.out; have := C2.out; omega, ⟨S1.out, S2.out⟩⟩⟩

set_option maxHeartbeats 1000000 in
theorem szNetS_any (xs : List GNet) (L : Int) {A : Option Addr} {c : Nat} {b1} (w : World) (hx : T1 w (.sl xs.length (xs.flatMap GNet.enc)) b1 (.slice A xs.length c)) (hn' : xs.length ≤ maxLen) (hL0 : 0 ≤ L) (hL1 : L ≤ 1048576) :
    Calls Try.prog 70 #[.slice A xs.length c, .int .i64 L] w (SzPost L (xs.length ≤ 1048576 ∧ ∀ y ∈ xs, GNet.small y) (wtl GNet.wt xs) w) := by
  unfold maxLen at hn'
  by_cases hneg : L - (xs.length : Int) < 0
  · generalize xs.length = n at *
    clear hx
    go_enter Try.func70, Try.ntmps70
    go_wp2_with fail
    go_ret
    exact ⟨Below.refl _ _, _, rfl, .inl rfl⟩
  · have hn0 : xs.length ≤ 1048576 := by omega
    obtain ⟨n, hn⟩ : ∃ n, xs.length = n := ⟨_, rfl⟩
    rw [hn] at hx hneg hn' hn0 ⊢
    have Hn : Hid (xs.length = n) := hn
    clear hn hn'
    go_enter Try.func70, Try.ntmps70
    go_wp2_with fail
    go_loopw [1, 5] (fun l i w' => ∃ (r : Int) (k : Nat), l = .int .i64 r ∧ 0 ≤ r ∧ Hid (r = L - (n + ((xs.take k).map GNet.wt).sum : Nat)) ∧ r ≤ L ∧ k ≤ n ∧ i = .int .i64 k ∧ Hid (∀ y ∈ xs.take k, y.small) ∧ Below w.heap.size w w') (fun _ i _ => n - (intOf i).toNat)
    case atStart => exact ⟨_, 0, rfl, by omega, Lib.hid (by simp), by omega, by omega, rfl, Lib.hid (by simp), Below.refl _ _⟩
    case round =>
      obtain ⟨r, k, rfl, hr0, hrw, hr1, hk, rfl, ht, hb⟩ := hrel
      by_cases hlt : k < n
      · obtain ⟨ba, oa, x, Ax0, cx0, px0, rfl, hba, hxk, x0, tx0, lx0, mx0⟩ := GNet.get_ (hx.below hb) Hn.out hlt
        have nx := GNet.mk_ (w := wr) (x := x) tx0
        go_wp2_with fail
        refine (szNet_any x r _ nx (Nat.le_trans lx0 mx0) hr0 (by omega)).mono ?_
        rintro e w1 ⟨hb1, r1, rfl, h⟩
        rcases h with rfl | ⟨h0, h1', h2⟩
        · go_wp2_with fail
          go_ret
          exact ⟨hb.trans (hb1.mono hb.size), _, rfl, .inl rfl⟩
        · have hd : decide (r1 < 0) = false := by simp; omega
          have h1 : r1 ≤ r := by omega
          have H1 := Lib.hid h1'
          clear h1'
          have H2 := Lib.hid h2
          clear h2
          go_wp2_with fail
          go_roundw
          case rel => exact ⟨_, k+1, rfl, h0, Lib.hid (by rw [wt_snoc hxk.out, H1.out, hrw.out]; omega), by omega, by omega, by go_num, Lib.hid (take_all_snoc ht.out hxk.out H2.out), hb.trans (hb1.mono hb.size)⟩
          case measure => simp [intOf]; omega
      · have : k = n := by omega
        subst this
        go_wp2_with fail
        go_ret
        have ht' := ht.out
        have hrw' := hrw.out
        rw [List.take_of_length_le (by rw [Hn.out]; exact Nat.le_refl _)] at ht' hrw'
        rw [← Hn.out] at hrw'
        exact ⟨hb, _, rfl, .inr ⟨hr0, hrw', ⟨hn0, ht'⟩⟩⟩

set_option maxHeartbeats 1000000 in
theorem szBreakS_any (xs : List GBreak) (L : Int) {A : Option Addr} {c : Nat} {b1} (w : World) (hx : T1 w (.sl xs.length (xs.flatMap GBreak.enc)) b1 (.slice A xs.length c)) (hn' : xs.length ≤ maxLen) (hL0 : 0 ≤ L) (hL1 : L ≤ 1048576) :
    Calls Try.prog 74 #[.slice A xs.length c, .int .i64 L] w (SzPost L (xs.length ≤ 1048576 ∧ ∀ y ∈ xs, GBreak.small y) (wtl (fun _ => 0) xs) w) := by
  unfold maxLen at hn'
  by_cases hneg : L - (xs.length : Int) < 0
  · generalize xs.length = n at *
    clear hx
    go_enter Try.func74, Try.ntmps74
    go_wp2_with fail
    go_ret
    exact ⟨Below.refl _ _, _, rfl, .inl rfl⟩
  · have HS : Hid (xs.length ≤ 1048576 ∧ ∀ y ∈ xs, GBreak.small y) := Lib.hid ⟨by omega, fun y _ => by unfold GBreak.small; trivial⟩
    obtain ⟨n, hn⟩ : ∃ n, xs.length = n := ⟨_, rfl⟩
    rw [hn] at hx hneg hn' ⊢
    have Hn := Lib.hid hn
    clear hx hn
    go_enter Try.func74, Try.ntmps74
    go_wp2_with fail
    go_ret
    exact ⟨Below.refl _ _, _, rfl, .inr ⟨by omega, by rw [wtl_flat, Hn.out], by rw [← Hn.out]; exact HS.out⟩⟩

set_option maxHeartbeats 1000000 in
theorem szCheckpointS_any (xs : List GCheckpoint) (L : Int) {A : Option Addr} {c : Nat} {b1} (w : World) (hx : T1 w (.sl xs.length (xs.flatMap GCheckpoint.enc)) b1 (.slice A xs.length c)) (hn' : xs.length ≤ maxLen) (hL0 : 0 ≤ L) (hL1 : L ≤ 1048576) :
    Calls Try.prog 75 #[.slice A xs.length c, .int .i64 L] w (SzPost L (xs.length ≤ 1048576 ∧ ∀ y ∈ xs, GCheckpoint.small y) (wtl GCheckpoint.wt xs) w) := by
  unfold maxLen at hn'
  by_cases hneg : L - (xs.length : Int) < 0
  · generalize xs.length = n at *
    clear hx
    go_enter Try.func75, Try.ntmps75
    go_wp2_with fail
    go_ret
    exact ⟨Below.refl _ _, _, rfl, .inl rfl⟩
  · have hn0 : xs.length ≤ 1048576 := by omega
    obtain ⟨n, hn⟩ : ∃ n, xs.length = n := ⟨_, rfl⟩
    rw [hn] at hx hneg hn' hn0 ⊢
    have Hn : Hid (xs.length = n) := hn
    clear hn hn'
    go_enter Try.func75, Try.ntmps75
    go_wp2_with fail
    go_loopw [1, 5] (fun l i w' => ∃ (r : Int) (k : Nat), l = .int .i64 r ∧ 0 ≤ r ∧ Hid (r = L - (n + ((xs.take k).map GCheckpoint.wt).sum : Nat)) ∧ r ≤ L ∧ k ≤ n ∧ i = .int .i64 k ∧ Hid (∀ y ∈ xs.take k, y.small) ∧ Below w.heap.size w w') (fun _ i _ => n - (intOf i).toNat)
    case atStart => exact ⟨_, 0, rfl, by omega, Lib.hid (by simp), by omega, by omega, rfl, Lib.hid (by simp), Below.refl _ _⟩
    case round =>
      obtain ⟨r, k, rfl, hr0, hrw, hr1, hk, rfl, ht, hb⟩ := hrel
      by_cases hlt : k < n
      · obtain ⟨ba, oa, x, Ax1, cx1, px1, Ax2, cx2, px2, rfl, hba, hxk, x0, x1, x2, tx1, lx1, mx1, tx2, lx2, mx2⟩ := GCheckpoint.get_ (hx.below hb) Hn.out hlt
        have nx := GCheckpoint.mk_ (w := wr) (x := x) tx1 tx2
        go_wp2_with fail
        refine (szCheckpoint_any x r _ nx (Nat.le_trans lx1 mx1) (Nat.le_trans lx2 mx2) hr0 (by omega)).mono ?_
        rintro e w1 ⟨hb1, r1, rfl, h⟩
        rcases h with rfl | ⟨h0, h1', h2⟩
        · go_wp2_with fail
          go_ret
          exact ⟨hb.trans (hb1.mono hb.size), _, rfl, .inl rfl⟩
        · have hd : decide (r1 < 0) = false := by simp; omega
          have h1 : r1 ≤ r := by omega
          have H1 := Lib.hid h1'
          clear h1'
          have H2 := Lib.hid h2
          clear h2
          go_wp2_with fail
          go_roundw
          case rel => exact ⟨_, k+1, rfl, h0, Lib.hid (by rw [wt_snoc hxk.out, H1.out, hrw.out]; omega), by omega, by omega, by go_num, Lib.hid (take_all_snoc ht.out hxk.out H2.out), hb.trans (hb1.mono hb.size)⟩
          case measure => simp [intOf]; omega
      · have : k = n := by omega
        subst this
        go_wp2_with fail
        go_ret
        have ht' := ht.out
        have hrw' := hrw.out
        rw [List.take_of_length_le (by rw [Hn.out]; exact Nat.le_refl _)] at ht' hrw'
        rw [← Hn.out] at hrw'
        exact ⟨hb, _, rfl, .inr ⟨hr0, hrw', ⟨hn0, ht'⟩⟩⟩

set_option maxHeartbeats 1000000 in
theorem szDebugger_any (x : GDebugger) (L : Int) {b us} (w : World) (hx : TN w x.enc b us) (hm0 : x.book.length ≤ maxLen) (hm1 : x.schedule.length ≤ maxLen) (hm4 : x.net.agents.length ≤ maxLen) (hm5 : x.origins.length ≤ maxLen) (hm6 : x.breaks.length ≤ maxLen) (hm7 : x.points.length ≤ maxLen) (hL0 : 0 ≤ L) (hL1 : L ≤ 1048576) :
    Calls Try.prog 20 #[.agg us.toArray, .int .i64 L] w (SzPost L x.small x.wt w) := by
  obtain ⟨Ax0, cx0, bx0, Ax1, cx1, bx1, Ax4, cx4, bx4, Ax5, cx5, bx5, Ax6, cx6, bx6, Ax7, cx7, bx7, rfl, rfl, tx0, lx0, mx0, tx1, lx1, mx1, tx4, lx4, mx4, tx5, lx5, mx5, tx6, lx6, mx6, tx7, lx7, mx7⟩ := GDebugger.us hx
  clear lx0 mx0 lx1 mx1 lx4 mx4 lx5 mx5 lx6 mx6 lx7 mx7 hx
  have B0 : ∀ S, Below w.heap.size w (w.alloc S) := fun _ => (Below.refl _ _).alloc (Nat.le_refl _) _
  go_enter Try.func20, Try.ntmps20
  go_wp2_with fail
  refine (szNetS_any x.book L _ (tx0.below (B0 _)) hm0 (by omega) (by omega)).mono ?_
  rintro e w1 ⟨hb1, r1, rfl, h1⟩
  have z1 : w.heap.size < w1.heap.size := by have := hb1.size; (try simp at this); omega
  have B1 : Below w.heap.size w w1 := Below.trans (B0 _) (hb1.mono (by first | omega | (simp; done) | (simp; omega)))
  have u1 := (hb1.block w.heap.size (by simp <;> omega)).trans (heap_alloc_new w _)
  have q1_0 := cell_of_row _ _ 0 _ _ _ u1
  have q1_1 := cell_of_row _ _ 1 _ _ _ u1
  have q1_2 := cell_of_row _ _ 2 _ _ _ u1
  have q1_3 := cell_of_row _ _ 3 _ _ _ u1
  have q1_4 := cell_of_row _ _ 4 _ _ _ u1
  have q1_5 := cell_of_row _ _ 5 _ _ _ u1
  have q1_6 := cell_of_row _ _ 6 _ _ _ u1
  have q1_7 := cell_of_row _ _ 7 _ _ _ u1
  simp only [List.getElem?_toArray, List.getElem?_cons_zero, List.getElem?_cons_succ] at q1_0 q1_1 q1_2 q1_3 q1_4 q1_5 q1_6 q1_7
  clear hb1
  rcases h1 with rfl | ⟨a1, c1, s1⟩
  · go_wp2_with fail
    go_ret
    exact ⟨B1, _, rfl, .inl rfl⟩
  have hd1 : decide (r1 < 0) = false := by simp; omega
  have S1 := Lib.hid s1
  have e1 : r1 ≤ L := by omega
  have C1 := Lib.hid c1
  clear s1 c1
  go_wp2_with fail
  refine (szInt64S_any x.schedule r1 _ (tx1.below B1) hm1 (by omega) (by omega)).mono ?_
  rintro e w2 ⟨hb2, r2, rfl, h2⟩
  have z2 : w.heap.size < w2.heap.size := by have := hb2.size; (try simp at this); omega
  have B2 : Below w.heap.size w w2 := Below.trans B1 (hb2.mono (by first | omega | (simp; done) | (simp; omega)))
  have u2 := (hb2.block w.heap.size (by omega)).trans u1
  have q2_0 := cell_of_row _ _ 0 _ _ _ u2
  have q2_1 := cell_of_row _ _ 1 _ _ _ u2
  have q2_2 := cell_of_row _ _ 2 _ _ _ u2
  have q2_3 := cell_of_row _ _ 3 _ _ _ u2
  have q2_4 := cell_of_row _ _ 4 _ _ _ u2
  have q2_5 := cell_of_row _ _ 5 _ _ _ u2
  have q2_6 := cell_of_row _ _ 6 _ _ _ u2
  have q2_7 := cell_of_row _ _ 7 _ _ _ u2
  simp only [List.getElem?_toArray, List.getElem?_cons_zero, List.getElem?_cons_succ] at q2_0 q2_1 q2_2 q2_3 q2_4 q2_5 q2_6 q2_7
  clear u1 q1_0 q1_1 q1_2 q1_3 q1_4 q1_5 q1_6 q1_7
  clear hb2
  rcases h2 with rfl | ⟨a2, c2, s2⟩
  · go_wp2_with fail
    go_ret
    exact ⟨B2, _, rfl, .inl rfl⟩
  have hd2 : decide (r2 < 0) = false := by simp; omega
  have S2 := Lib.hid s2
  have e2 : r2 ≤ r1 := by omega
  have C2 := Lib.hid c2
  clear s2 c2
  go_wp2_with fail
  refine (szNet_any x.net r2 _ (GNet.mk_ (x := x.net) (tx4.below B2)) hm4 (by omega) (by omega)).mono ?_
  rintro e w3 ⟨hb3, r3, rfl, h3⟩
  have z3 : w.heap.size < w3.heap.size := by have := hb3.size; (try simp at this); omega
  have B3 : Below w.heap.size w w3 := Below.trans B2 (hb3.mono (by first | omega | (simp; done) | (simp; omega)))
  have u3 := (hb3.block w.heap.size (by omega)).trans u2
  have q3_0 := cell_of_row _ _ 0 _ _ _ u3
  have q3_1 := cell_of_row _ _ 1 _ _ _ u3
  have q3_2 := cell_of_row _ _ 2 _ _ _ u3
  have q3_3 := cell_of_row _ _ 3 _ _ _ u3
  have q3_4 := cell_of_row _ _ 4 _ _ _ u3
  have q3_5 := cell_of_row _ _ 5 _ _ _ u3
  have q3_6 := cell_of_row _ _ 6 _ _ _ u3
  have q3_7 := cell_of_row _ _ 7 _ _ _ u3
  simp only [List.getElem?_toArray, List.getElem?_cons_zero, List.getElem?_cons_succ] at q3_0 q3_1 q3_2 q3_3 q3_4 q3_5 q3_6 q3_7
  clear u2 q2_0 q2_1 q2_2 q2_3 q2_4 q2_5 q2_6 q2_7
  clear hb3
  rcases h3 with rfl | ⟨a3, c3, s3⟩
  · go_wp2_with fail
    go_ret
    exact ⟨B3, _, rfl, .inl rfl⟩
  have hd3 : decide (r3 < 0) = false := by simp; omega
  have S3 := Lib.hid s3
  have e3 : r3 ≤ r2 := by omega
  have C3 := Lib.hid c3
  clear s3 c3
  go_wp2_with fail
  refine (szOriginS_any x.origins r3 _ (tx5.below B3) hm5 (by omega) (by omega)).mono ?_
  rintro e w4 ⟨hb4, r4, rfl, h4⟩
  have z4 : w.heap.size < w4.heap.size := by have := hb4.size; (try simp at this); omega
  have B4 : Below w.heap.size w w4 := Below.trans B3 (hb4.mono (by first | omega | (simp; done) | (simp; omega)))
  have u4 := (hb4.block w.heap.size (by omega)).trans u3
  have q4_0 := cell_of_row _ _ 0 _ _ _ u4
  have q4_1 := cell_of_row _ _ 1 _ _ _ u4
  have q4_2 := cell_of_row _ _ 2 _ _ _ u4
  have q4_3 := cell_of_row _ _ 3 _ _ _ u4
  have q4_4 := cell_of_row _ _ 4 _ _ _ u4
  have q4_5 := cell_of_row _ _ 5 _ _ _ u4
  have q4_6 := cell_of_row _ _ 6 _ _ _ u4
  have q4_7 := cell_of_row _ _ 7 _ _ _ u4
  simp only [List.getElem?_toArray, List.getElem?_cons_zero, List.getElem?_cons_succ] at q4_0 q4_1 q4_2 q4_3 q4_4 q4_5 q4_6 q4_7
  clear u3 q3_0 q3_1 q3_2 q3_3 q3_4 q3_5 q3_6 q3_7
  clear hb4
  rcases h4 with rfl | ⟨a4, c4, s4⟩
  · go_wp2_with fail
    go_ret
    exact ⟨B4, _, rfl, .inl rfl⟩
  have hd4 : decide (r4 < 0) = false := by simp; omega
  have S4 := Lib.hid s4
  have e4 : r4 ≤ r3 := by omega
  have C4 := Lib.hid c4
  clear s4 c4
  go_wp2_with fail
  refine (szBreakS_any x.breaks r4 _ (tx6.below B4) hm6 (by omega) (by omega)).mono ?_
  rintro e w5 ⟨hb5, r5, rfl, h5⟩
  have z5 : w.heap.size < w5.heap.size := by have := hb5.size; (try simp at this); omega
  have B5 : Below w.heap.size w w5 := Below.trans B4 (hb5.mono (by first | omega | (simp; done) | (simp; omega)))
  have u5 := (hb5.block w.heap.size (by omega)).trans u4
  have q5_0 := cell_of_row _ _ 0 _ _ _ u5
  have q5_1 := cell_of_row _ _ 1 _ _ _ u5
  have q5_2 := cell_of_row _ _ 2 _ _ _ u5
  have q5_3 := cell_of_row _ _ 3 _ _ _ u5
  have q5_4 := cell_of_row _ _ 4 _ _ _ u5
  have q5_5 := cell_of_row _ _ 5 _ _ _ u5
  have q5_6 := cell_of_row _ _ 6 _ _ _ u5
  have q5_7 := cell_of_row _ _ 7 _ _ _ u5
  simp only [List.getElem?_toArray, List.getElem?_cons_zero, List.getElem?_cons_succ] at q5_0 q5_1 q5_2 q5_3 q5_4 q5_5 q5_6 q5_7
  clear u4 q4_0 q4_1 q4_2 q4_3 q4_4 q4_5 q4_6 q4_7
  clear hb5
  rcases h5 with rfl | ⟨a5, c5, s5⟩
  · go_wp2_with fail
    go_ret
    exact ⟨B5, _, rfl, .inl rfl⟩
  have hd5 : decide (r5 < 0) = false := by simp; omega
  have S5 := Lib.hid s5
  have e5 : r5 ≤ r4 := by omega
  have C5 := Lib.hid c5
  clear s5 c5
  go_wp2_with fail
  refine (szCheckpointS_any x.points r5 _ (tx7.below B5) hm7 (by omega) (by omega)).mono ?_
  rintro e w6 ⟨hb6, r6, rfl, h6⟩
  have z6 : w.heap.size < w6.heap.size := by have := hb6.size; (try simp at this); omega
  have B6 : Below w.heap.size w w6 := Below.trans B5 (hb6.mono (by first | omega | (simp; done) | (simp; omega)))
  have u6 := (hb6.block w.heap.size (by omega)).trans u5
  have q6_0 := cell_of_row _ _ 0 _ _ _ u6
  have q6_1 := cell_of_row _ _ 1 _ _ _ u6
  have q6_2 := cell_of_row _ _ 2 _ _ _ u6
  have q6_3 := cell_of_row _ _ 3 _ _ _ u6
  have q6_4 := cell_of_row _ _ 4 _ _ _ u6
  have q6_5 := cell_of_row _ _ 5 _ _ _ u6
  have q6_6 := cell_of_row _ _ 6 _ _ _ u6
  have q6_7 := cell_of_row _ _ 7 _ _ _ u6
  simp only [List.getElem?_toArray, List.getElem?_cons_zero, List.getElem?_cons_succ] at q6_0 q6_1 q6_2 q6_3 q6_4 q6_5 q6_6 q6_7
  clear u5 q5_0 q5_1 q5_2 q5_3 q5_4 q5_5 q5_6 q5_7
  clear hb6
  rcases h6 with rfl | ⟨a6, c6, s6⟩
  · go_wp2_with fail
    go_ret
    exact ⟨B6, _, rfl, .inl rfl⟩
  have hd6 : decide (r6 < 0) = false := by simp; omega
  have S6 := Lib.hid s6
  have e6 : r6 ≤ r5 := by omega
  have C6 := Lib.hid c6
  clear s6 c6
  go_wp2_with fail
  go_ret
  exact ⟨B6, _, rfl, .inr ⟨by omega, by unfold GDebugger.wt; have := C1.out; have := C2.out; have := C3.out; have := C4.out; have := C5.out; have := C6.out; omega, ⟨S1.out, S2.out, S3.out, S4.out, S5.out, S6.out⟩⟩⟩

end Go.Proofs.Ytmmdkchhahnenaa
