/- Sizes of these types. Printed by gen_fam.py. -/
import Derived.Test.YthelpioccjjgfaaProg
import Derived.Test.YthelpioccjjgfaaDDq
set_option linter.unusedSimpArgs false
set_option linter.unusedVariables false
namespace Go.Proofs.Ythelpioccjjgfaa
open Go Go.RowKit Go.Proofs Go.Tr
set_option maxHeartbeats 1000000 in
theorem szInt64S_any (xs : List Int) (L : Int) {A : Option Addr} {c : Nat} {b1} (w : World) (hx : T1 w (.sl xs.length (xs.flatMap intE)) b1 (.slice A xs.length c)) (hn' : xs.length ≤ maxLen) (hL0 : 0 ≤ L) (hL1 : L ≤ 1048576) :
    Calls Try.prog 131 #[.slice A xs.length c, .int .i64 L] w (SzPost L (xs.length ≤ 1048576) (wtl (fun _ => 0) xs) w) := by
  unfold maxLen at hn'
  by_cases hneg : L - (xs.length : Int) < 0
  · generalize xs.length = n at *
    clear hx
    go_enter Try.func131, Try.ntmps131
    go_wp2_with fail
    go_ret
    exact ⟨Below.refl _ _, _, rfl, .inl rfl⟩
  · have HS : Hid (xs.length ≤ 1048576) := Lib.hid (by omega)
    obtain ⟨n, hn⟩ : ∃ n, xs.length = n := ⟨_, rfl⟩
    rw [hn] at hx hneg hn' ⊢
    have Hn := Lib.hid hn
    clear hx hn
    go_enter Try.func131, Try.ntmps131
    go_wp2_with fail
    go_ret
    exact ⟨Below.refl _ _, _, rfl, .inr ⟨by omega, by rw [wtl_flat, Hn.out], by rw [← Hn.out]; exact HS.out⟩⟩

set_option maxHeartbeats 1000000 in
theorem szDequeActor_any (x : GDequeActor) (L : Int) {b us} (w : World) (hx : TN w x.enc b us) (hm0 : x.todo.length ≤ maxLen) (hL0 : 0 ≤ L) (hL1 : L ≤ 1048576) :
    Calls Try.prog 204 #[.agg us.toArray, .int .i64 L] w (SzPost L x.small x.wt w) := by
  obtain ⟨Ax0, cx0, bx0, rfl, rfl, tx0, lx0, mx0⟩ := GDequeActor.us hx
  clear lx0 mx0 hx
  have B0 : ∀ S, Below w.heap.size w (w.alloc S) := fun _ => (Below.refl _ _).alloc (Nat.le_refl _) _
  go_enter Try.func204, Try.ntmps204
  go_wp2_with fail
  refine (szInt64S_any x.todo L _ (tx0.below (B0 _)) hm0 (by omega) (by omega)).mono ?_
  rintro e w1 ⟨hb1, r1, rfl, h1⟩
  have z1 : w.heap.size < w1.heap.size := by have := hb1.size; (try simp at this); omega
  have B1 : Below w.heap.size w w1 := Below.trans (B0 _) (hb1.mono (by first | omega | (simp; done) | (simp; omega)))
  have u1 := (hb1.block w.heap.size (by simp <;> omega)).trans (heap_alloc_new w _)
  have q1_0 := cell_of_row _ _ 0 _ _ _ u1
  have q1_1 := cell_of_row _ _ 1 _ _ _ u1
  have q1_2 := cell_of_row _ _ 2 _ _ _ u1
  have q1_3 := cell_of_row _ _ 3 _ _ _ u1
  have q1_4 := cell_of_row _ _ 4 _ _ _ u1
  simp only [List.getElem?_toArray, List.getElem?_cons_zero, List.getElem?_cons_succ] at q1_0 q1_1 q1_2 q1_3 q1_4
  clear hb1
  rcases h1 with rfl | ⟨a1, c1, s1⟩
  · go_wp2_with fail
    go_ret
    exact ⟨B1, _, rfl, .inl rfl⟩
  have hd1 : decide (r1 < 0) = false := by simp; omega
  have S1 := Lib.hid s1
  have e1 : r1 ≤ L := by omega
  have C1 := Lib.hid c1
  clear s1 c1
  go_wp2_with fail
  go_ret
  exact ⟨B1, _, rfl, .inr ⟨by omega, by unfold GDequeActor.wt; have := C1.out; omega, S1.out⟩⟩

set_option maxHeartbeats 1000000 in
theorem szDequeActorS_any (xs : List GDequeActor) (L : Int) {A : Option Addr} {c : Nat} {b1} (w : World) (hx : T1 w (.sl xs.length (xs.flatMap GDequeActor.enc)) b1 (.slice A xs.length c)) (hn' : xs.length ≤ maxLen) (hL0 : 0 ≤ L) (hL1 : L ≤ 1048576) :
    Calls Try.prog 132 #[.slice A xs.length c, .int .i64 L] w (SzPost L (xs.length ≤ 1048576 ∧ ∀ y ∈ xs, GDequeActor.small y) (wtl GDequeActor.wt xs) w) := by
  unfold maxLen at hn'
  by_cases hneg : L - (xs.length : Int) < 0
  · generalize xs.length = n at *
    clear hx
    go_enter Try.func132, Try.ntmps132
    go_wp2_with fail
    go_ret
    exact ⟨Below.refl _ _, _, rfl, .inl rfl⟩
  · have hn0 : xs.length ≤ 1048576 := by omega
    obtain ⟨n, hn⟩ : ∃ n, xs.length = n := ⟨_, rfl⟩
    rw [hn] at hx hneg hn' hn0 ⊢
    have Hn : Hid (xs.length = n) := hn
    clear hn hn'
    go_enter Try.func132, Try.ntmps132
    go_wp2_with fail
    go_loopw [1, 5] (fun l i w' => ∃ (r : Int) (k : Nat), l = .int .i64 r ∧ 0 ≤ r ∧ Hid (r = L - (n + ((xs.take k).map GDequeActor.wt).sum : Nat)) ∧ r ≤ L ∧ k ≤ n ∧ i = .int .i64 k ∧ Hid (∀ y ∈ xs.take k, y.small) ∧ Below w.heap.size w w') (fun _ i _ => n - (intOf i).toNat)
    case atStart => exact ⟨_, 0, rfl, by omega, Lib.hid (by simp), by omega, by omega, rfl, Lib.hid (by simp), Below.refl _ _⟩
    case round =>
      obtain ⟨r, k, rfl, hr0, hrw, hr1, hk, rfl, ht, hb⟩ := hrel
      by_cases hlt : k < n
      · obtain ⟨ba, oa, x, Ax0, cx0, px0, rfl, hba, hxk, x0, x1, x2, x3, x4, tx0, lx0, mx0⟩ := GDequeActor.get_ (hx.below hb) Hn.out hlt
        have nx := GDequeActor.mk_ (w := wr) (x := x) tx0
        go_wp2_with fail
        refine (szDequeActor_any x r _ nx (Nat.le_trans lx0 mx0) hr0 (by omega)).mono ?_
        rintro e w1 ⟨hb1, r1, rfl, h⟩
        rcases h with rfl | ⟨h0, h1', h2⟩
        · go_wp2_with fail
          go_ret
          exact ⟨hb.trans (hb1.mono hb.size), _, rfl, .inl rfl⟩
        · have hd : decide (r1 < 0) = false := by simp; omega
          have h1 : r1 ≤ r := by omega
          have H1 := Lib.hid h1'
          clear h1'
          have H2 := Lib.hid h2
          clear h2
          go_wp2_with fail
          go_roundw
          case rel => exact ⟨_, k+1, rfl, h0, Lib.hid (by rw [wt_snoc hxk.out, H1.out, hrw.out]; omega), by omega, by omega, by go_num, Lib.hid (take_all_snoc ht.out hxk.out H2.out), hb.trans (hb1.mono hb.size)⟩
          case measure => simp [intOf]; omega
      · have : k = n := by omega
        subst this
        go_wp2_with fail
        go_ret
        have ht' := ht.out
        have hrw' := hrw.out
        rw [List.take_of_length_le (by rw [Hn.out]; exact Nat.le_refl _)] at ht' hrw'
        rw [← Hn.out] at hrw'
        exact ⟨hb, _, rfl, .inr ⟨hr0, hrw', ⟨hn0, ht'⟩⟩⟩

set_option maxHeartbeats 1000000 in
theorem szHandedS_any (xs : List GHanded) (L : Int) {A : Option Addr} {c : Nat} {b1} (w : World) (hx : T1 w (.sl xs.length (xs.flatMap GHanded.enc)) b1 (.slice A xs.length c)) (hn' : xs.length ≤ maxLen) (hL0 : 0 ≤ L) (hL1 : L ≤ 1048576) :
    Calls Try.prog 133 #[.slice A xs.length c, .int .i64 L] w (SzPost L (xs.length ≤ 1048576 ∧ ∀ y ∈ xs, GHanded.small y) (wtl (fun _ => 0) xs) w) := by
  unfold maxLen at hn'
  by_cases hneg : L - (xs.length : Int) < 0
  · generalize xs.length = n at *
    clear hx
    go_enter Try.func133, Try.ntmps133
    go_wp2_with fail
    go_ret
    exact ⟨Below.refl _ _, _, rfl, .inl rfl⟩
  · have HS : Hid (xs.length ≤ 1048576 ∧ ∀ y ∈ xs, GHanded.small y) := Lib.hid ⟨by omega, fun y _ => by unfold GHanded.small; trivial⟩
    obtain ⟨n, hn⟩ : ∃ n, xs.length = n := ⟨_, rfl⟩
    rw [hn] at hx hneg hn' ⊢
    have Hn := Lib.hid hn
    clear hx hn
    go_enter Try.func133, Try.ntmps133
    go_wp2_with fail
    go_ret
    exact ⟨Below.refl _ _, _, rfl, .inr ⟨by omega, by rw [wtl_flat, Hn.out], by rw [← Hn.out]; exact HS.out⟩⟩

set_option maxHeartbeats 1000000 in
theorem szDeque_any (x : GDeque) (L : Int) {b us} (w : World) (hx : TN w x.enc b us) (hm2 : x.buffer.length ≤ maxLen) (hm3 : x.actors.length ≤ maxLen) (hm4 : x.taken.length ≤ maxLen) (hm5 : x.refused.length ≤ maxLen) (hL0 : 0 ≤ L) (hL1 : L ≤ 1048576) :
    Calls Try.prog 47 #[.agg us.toArray, .int .i64 L] w (SzPost L x.small x.wt w) := by
  obtain ⟨Ax2, cx2, bx2, Ax3, cx3, bx3, Ax4, cx4, bx4, Ax5, cx5, bx5, rfl, rfl, tx2, lx2, mx2, tx3, lx3, mx3, tx4, lx4, mx4, tx5, lx5, mx5⟩ := GDeque.us hx
  clear lx2 mx2 lx3 mx3 lx4 mx4 lx5 mx5 hx
  have B0 : ∀ S, Below w.heap.size w (w.alloc S) := fun _ => (Below.refl _ _).alloc (Nat.le_refl _) _
  go_enter Try.func47, Try.ntmps47
  go_wp2_with fail
  refine (szInt64S_any x.buffer L _ (tx2.below (B0 _)) hm2 (by omega) (by omega)).mono ?_
  rintro e w1 ⟨hb1, r1, rfl, h1⟩
  have z1 : w.heap.size < w1.heap.size := by have := hb1.size; (try simp at this); omega
  have B1 : Below w.heap.size w w1 := Below.trans (B0 _) (hb1.mono (by first | omega | (simp; done) | (simp; omega)))
  have u1 := (hb1.block w.heap.size (by simp <;> omega)).trans (heap_alloc_new w _)
  have q1_0 := cell_of_row _ _ 0 _ _ _ u1
  have q1_1 := cell_of_row _ _ 1 _ _ _ u1
  have q1_2 := cell_of_row _ _ 2 _ _ _ u1
  have q1_3 := cell_of_row _ _ 3 _ _ _ u1
  have q1_4 := cell_of_row _ _ 4 _ _ _ u1
  have q1_5 := cell_of_row _ _ 5 _ _ _ u1
  simp only [List.getElem?_toArray, List.getElem?_cons_zero, List.getElem?_cons_succ] at q1_0 q1_1 q1_2 q1_3 q1_4 q1_5
  clear hb1
  rcases h1 with rfl | ⟨a1, c1, s1⟩
  · go_wp2_with fail
    go_ret
    exact ⟨B1, _, rfl, .inl rfl⟩
  have hd1 : decide (r1 < 0) = false := by simp; omega
  have S1 := Lib.hid s1
  have e1 : r1 ≤ L := by omega
  have C1 := Lib.hid c1
  clear s1 c1
  go_wp2_with fail
  refine (szDequeActorS_any x.actors r1 _ (tx3.below B1) hm3 (by omega) (by omega)).mono ?_
  rintro e w2 ⟨hb2, r2, rfl, h2⟩
  have z2 : w.heap.size < w2.heap.size := by have := hb2.size; (try simp at this); omega
  have B2 : Below w.heap.size w w2 := Below.trans B1 (hb2.mono (by first | omega | (simp; done) | (simp; omega)))
  have u2 := (hb2.block w.heap.size (by omega)).trans u1
  have q2_0 := cell_of_row _ _ 0 _ _ _ u2
  have q2_1 := cell_of_row _ _ 1 _ _ _ u2
  have q2_2 := cell_of_row _ _ 2 _ _ _ u2
  have q2_3 := cell_of_row _ _ 3 _ _ _ u2
  have q2_4 := cell_of_row _ _ 4 _ _ _ u2
  have q2_5 := cell_of_row _ _ 5 _ _ _ u2
  simp only [List.getElem?_toArray, List.getElem?_cons_zero, List.getElem?_cons_succ] at q2_0 q2_1 q2_2 q2_3 q2_4 q2_5
  clear u1 q1_0 q1_1 q1_2 q1_3 q1_4 q1_5
  clear hb2
  rcases h2 with rfl | ⟨a2, c2, s2⟩
  · go_wp2_with fail
    go_ret
    exact ⟨B2, _, rfl, .inl rfl⟩
  have hd2 : decide (r2 < 0) = false := by simp; omega
  have S2 := Lib.hid s2
  have e2 : r2 ≤ r1 := by omega
  have C2 := Lib.hid c2
  clear s2 c2
  go_wp2_with fail
  refine (szHandedS_any x.taken r2 _ (tx4.below B2) hm4 (by omega) (by omega)).mono ?_
  rintro e w3 ⟨hb3, r3, rfl, h3⟩
  have z3 : w.heap.size < w3.heap.size := by have := hb3.size; (try simp at this); omega
  have B3 : Below w.heap.size w w3 := Below.trans B2 (hb3.mono (by first | omega | (simp; done) | (simp; omega)))
  have u3 := (hb3.block w.heap.size (by omega)).trans u2
  have q3_0 := cell_of_row _ _ 0 _ _ _ u3
  have q3_1 := cell_of_row _ _ 1 _ _ _ u3
  have q3_2 := cell_of_row _ _ 2 _ _ _ u3
  have q3_3 := cell_of_row _ _ 3 _ _ _ u3
  have q3_4 := cell_of_row _ _ 4 _ _ _ u3
  have q3_5 := cell_of_row _ _ 5 _ _ _ u3
  simp only [List.getElem?_toArray, List.getElem?_cons_zero, List.getElem?_cons_succ] at q3_0 q3_1 q3_2 q3_3 q3_4 q3_5
  clear u2 q2_0 q2_1 q2_2 q2_3 q2_4 q2_5
  clear hb3
  rcases h3 with rfl | ⟨a3, c3, s3⟩
  · go_wp2_with fail
    go_ret
    exact ⟨B3, _, rfl, .inl rfl⟩
  have hd3 : decide (r3 < 0) = false := by simp; omega
  have S3 := Lib.hid s3
  have e3 : r3 ≤ r2 := by omega
  have C3 := Lib.hid c3
  clear s3 c3
  go_wp2_with fail
  refine (szInt64S_any x.refused r3 _ (tx5.below B3) hm5 (by omega) (by omega)).mono ?_
  rintro e w4 ⟨hb4, r4, rfl, h4⟩
  have z4 : w.heap.size < w4.heap.size := by have := hb4.size; (try simp at this); omega
  have B4 : Below w.heap.size w w4 := Below.trans B3 (hb4.mono (by first | omega | (simp; done) | (simp; omega)))
  have u4 := (hb4.block w.heap.size (by omega)).trans u3
  have q4_0 := cell_of_row _ _ 0 _ _ _ u4
  have q4_1 := cell_of_row _ _ 1 _ _ _ u4
  have q4_2 := cell_of_row _ _ 2 _ _ _ u4
  have q4_3 := cell_of_row _ _ 3 _ _ _ u4
  have q4_4 := cell_of_row _ _ 4 _ _ _ u4
  have q4_5 := cell_of_row _ _ 5 _ _ _ u4
  simp only [List.getElem?_toArray, List.getElem?_cons_zero, List.getElem?_cons_succ] at q4_0 q4_1 q4_2 q4_3 q4_4 q4_5
  clear u3 q3_0 q3_1 q3_2 q3_3 q3_4 q3_5
  clear hb4
  rcases h4 with rfl | ⟨a4, c4, s4⟩
  · go_wp2_with fail
    go_ret
    exact ⟨B4, _, rfl, .inl rfl⟩
  have hd4 : decide (r4 < 0) = false := by simp; omega
  have S4 := Lib.hid s4
  have e4 : r4 ≤ r3 := by omega
  have C4 := Lib.hid c4
  clear s4 c4
  go_wp2_with fail
  go_ret
  exact ⟨B4, _, rfl, .inr ⟨by omega, by unfold GDeque.wt; have := C1.out; have := C2.out; have := C3.out; have := C4.out; omega, ⟨S1.out, S2.out, S3.out, S4.out⟩⟩⟩

end Go.Proofs.Ythelpioccjjgfaa
