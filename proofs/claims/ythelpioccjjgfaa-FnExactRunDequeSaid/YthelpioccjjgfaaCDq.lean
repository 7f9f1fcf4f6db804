/- Copies of these types: what they read as, in memory of their own. Printed by gen_fam.py. -/
import Derived.Test.YthelpioccjjgfaaProg
import Derived.Test.YthelpioccjjgfaaDDq
set_option linter.unusedSimpArgs false
set_option linter.unusedVariables false
namespace Go.Proofs.Ythelpioccjjgfaa
open Go Go.RowKit Go.Proofs Go.Tr
set_option maxHeartbeats 2000000 in
theorem toInt64S_any (xs : List Int) {A : Option Addr} {c : Nat} {b1} (w : World) (hx : T1 w (.sl xs.length (xs.flatMap intE)) b1 (.slice A xs.length c)) (hs : xs.length ≤ 1048576) :
    Calls Try.prog 55 #[.slice A xs.length c] w fun e w' => ∃ A' c' bs, e = .returned (.slice A' xs.length c') ∧ Below w.heap.size w w' ∧ T1 w' (.sl xs.length (xs.flatMap intE)) bs (.slice A' xs.length c') ∧ Own w.heap.size w' bs := by
  have hs1 := Lib.hid hs
  have hn' : xs.length ≤ 1048576 := hs
  clear hs
  have hn : Hid (xs.length = xs.length) := rfl
  generalize hl : xs.length = n at hx hn' hn ⊢
  replace hn : Hid (xs.length = n) := hl
  clear hl
  obtain ⟨M, hms, hmk, hsz'⟩ := make_fresh (P := Try.prog) (t := 24) (e := 2) (s := 1) (by kernel_rfl) Try.underlying24 hn'
  have hsz := hsz'
  have Hms := Lib.hid hms
  clear hsz' hms
  go_enter Try.func55, Try.ntmps55
  go_wp2_with fail
  go_loopw [4] (fun i w' => ∃ k : Nat, k ≤ n ∧ i = .int .i64 k ∧ Below w.heap.size w w' ∧ ∃ bs us, RowAt w' w.heap.size 2 n 1 us ∧ us.length = k * 1 ∧ TN w' ((xs.take k).flatMap intE) bs us ∧ Own (w.heap.size + 1) w' bs) (fun i _ => n - (intOf i).toNat)
  case atStart => exact ⟨0, by omega, rfl, (Below.refl _ _).alloc (Nat.le_refl _) _, [], [], RowAt.new _ _ 2 n 1 Hms.out, by simp, by simpa using TN.done, Own.nil _ _⟩
  case round =>
    obtain ⟨k, hk, rfl, hb, bs, us, hrow, hul, ht, ho⟩ := hrel
    by_cases hlt : k < n
    · obtain ⟨ba, oa, x, rfl, _, hba, hxk, x0⟩ := intE_at (hx.below hb) hn.out hlt
      have hul' := Lib.hid hul
      clear hul
      have hT := TN.append.2 ⟨bs, [], us, _, rfl, rfl, ht, TN.v_mk (w := wr) (x := .int .i64 x) rfl TN.done⟩
      go_wp2_with (refine wpList_store_next rfl 2 (.tmp 20) (.tmp 19) rfl w.heap.size 2 n 1 k us (.int .i64 x) (by rw [Nat.mul_one]; rfl) rfl hrow hul'.out hlt hsz.h rfl rfl ?_; intro w2 hr2 hb2 hs2 ho2)
      have hbt : But w.heap.size wr w2 := ⟨hb2.os, hb2.tape, hb2.output, hb2.size, fun j _ hj => ho2 j hj⟩
      go_roundw
      case rel => exact ⟨k+1, by omega, by go_num, hb.trans hb2, bs ++ [], _, hr2, by simp [hul'.out, Value.cells, Nat.add_mul], by rw [flat_snoc intE hxk]; exact hT.but hbt (by simpa using ho.notin (by omega)), by simpa using ho.but hbt (ho.notin (by omega))⟩
      case measure => simp [intOf]; omega
    · have : k = n := by omega
      subst this
      go_wp2_with fail
      go_ret
      rw [List.take_of_length_le (by rw [hn.out]; exact Nat.le_refl _)] at ht
      rcases Nat.eq_zero_or_pos k with h0 | h0
      · subst h0
        have : xs = [] := List.eq_nil_of_length_eq_zero hn.out
        subst this
        exact ⟨_, _, [], rfl, hb, T1.empty _, Own.nil _ _⟩
      · obtain ⟨cur, t', hg⟩ := hrow.own
        exact ⟨_, _, w.heap.size :: bs, rfl, hb, T1.of_row hrow h0 (by unfold maxLen; omega) ht, Own.cons hg (Nat.le_refl _) ho⟩

set_option maxHeartbeats 4000000 in
theorem toDequeActor_any (x : GDequeActor) {b us} (w : World) (hx : TN w x.enc b us) (hs : x.small) :
    Calls Try.prog 212 #[.agg us.toArray] w fun e w' => ∃ vs bs, e = .returned (.agg vs.toArray) ∧ Below w.heap.size w w' ∧ TN w' x.enc bs vs ∧ Own w.heap.size w' bs := by
  obtain ⟨Ax0, cx0, bx0, rfl, rfl, tx0, lx0, mx0⟩ := GDequeActor.us hx
  have s0 := hs
  go_enter Try.func212, Try.ntmps212
  have B0 : ∀ S Z O, Below w.heap.size w (((w.alloc S).alloc Z).alloc O) := fun _ _ _ => (((Below.refl _ _).alloc (Nat.le_refl _) _).alloc (by simp) _).alloc (by simp; omega) _
  go_wp2_with fail
  refine (toInt64S_any x.todo _ (tx0.below (B0 _ _ _)) s0).mono ?_
  rintro e w1 ⟨A1, a1, d1, rfl, hb1, y1, o1⟩
  have z1 : w.heap.size + 2 < w1.heap.size := by have := hb1.size; simp at this; omega
  have B1 : Below w.heap.size w w1 := Below.trans (B0 _ _ _) (hb1.mono (by simp <;> omega))
  replace o1 : Own (w.heap.size + 3) w1 d1 := by simpa using o1
  have r1_0 := (hb1.block w.heap.size (by simp <;> omega)).trans (rows3 w _ _ _).1
  have r1_1 := (hb1.block (w.heap.size + 1) (by simp <;> omega)).trans (rows3 w _ _ _).2.1
  have r1_2 := (hb1.block (w.heap.size + 1 + 1) (by simp <;> omega)).trans (rows3 w _ _ _).2.2
  have q1_0_0 := cell_of_row _ _ 0 _ _ _ r1_0
  have q1_0_1 := cell_of_row _ _ 1 _ _ _ r1_0
  have q1_0_2 := cell_of_row _ _ 2 _ _ _ r1_0
  have q1_0_3 := cell_of_row _ _ 3 _ _ _ r1_0
  have q1_0_4 := cell_of_row _ _ 4 _ _ _ r1_0
  simp only [List.getElem?_toArray, List.getElem?_cons_zero, List.getElem?_cons_succ] at q1_0_0 q1_0_1 q1_0_2 q1_0_3 q1_0_4
  have f1_0 := fz_of_row r1_0
  have q1_1_0 := cell_of_row _ _ 0 _ _ _ r1_1
  have q1_1_1 := cell_of_row _ _ 1 _ _ _ r1_1
  have q1_1_2 := cell_of_row _ _ 2 _ _ _ r1_1
  have q1_1_3 := cell_of_row _ _ 3 _ _ _ r1_1
  have q1_1_4 := cell_of_row _ _ 4 _ _ _ r1_1
  simp only [List.getElem?_toArray, List.getElem?_cons_zero, List.getElem?_cons_succ] at q1_1_0 q1_1_1 q1_1_2 q1_1_3 q1_1_4
  have f1_1 := fz_of_row r1_1
  have q1_2_0 := cell_of_row _ _ 0 _ _ _ r1_2
  have q1_2_1 := cell_of_row _ _ 1 _ _ _ r1_2
  have q1_2_2 := cell_of_row _ _ 2 _ _ _ r1_2
  have q1_2_3 := cell_of_row _ _ 3 _ _ _ r1_2
  have q1_2_4 := cell_of_row _ _ 4 _ _ _ r1_2
  simp only [List.getElem?_toArray, List.getElem?_cons_zero, List.getElem?_cons_succ] at q1_2_0 q1_2_1 q1_2_2 q1_2_3 q1_2_4
  have f1_2 := fz_of_row r1_2
  clear hb1
  go_wp2_with fail
  have HG : ∀ W', Abv (w.heap.size + 3) w1 W' → TN W' x.enc (d1) [.slice A1 x.todo.length a1, .int .i64 x.pc, .int .i64 x.t, .int .i64 x.b, .int .i64 x.x] ∧ Own w.heap.size W' (d1) := by
    intro W' hW
    have k1 := hW
    have ht := GDequeActor.mk_ (w := W') (x := x) (y1.abv k1 o1.ge)
    have p1 : Own w.heap.size W' d1 := (o1.abv k1 (by omega)).mono (by omega)
    have l1 : ∀ b ∈ d1, b < w1.heap.size := o1.lt
    exact ⟨by simpa [List.append_assoc] using ht, p1⟩
  refine bodyPost_ret (v := .agg #[.slice A1 x.todo.length a1, .int .i64 x.pc, .int .i64 x.t, .int .i64 x.b, .int .i64 x.x]) (by simp [results, Try.results212, go_sem, q1_1_0, q1_1_1, q1_1_2, q1_1_3, q1_1_4]) rfl ?_
  refine ⟨_, _, rfl, ?_, HG _ ?_⟩
  · repeat (refine Below.setCell ?_ (by simp <;> omega) _)
    exact B1
  · repeat (refine Abv.setCell ?_ (by simp <;> omega) _)
    exact Abv.refl _ _

set_option maxHeartbeats 2000000 in
theorem toHanded_any (x : GHanded) (w : World) :
    Calls Try.prog 213 #[.agg #[.int .i64 x.actor, .int .i64 x.value]] w fun e w' => e = .returned (.agg #[.int .i64 x.actor, .int .i64 x.value]) ∧ Below w.heap.size w w' := by
  go_enter Try.func213, Try.ntmps213
  go_wp2
  refine bodyPost_ret (v := .agg #[.int .i64 x.actor, .int .i64 x.value]) (by simp [results, Try.results213, go_sem]) rfl ⟨rfl, ?_⟩
  exact (by repeat (first | exact Below.refl _ _ | assumption | (refine Below.setCell ?_ (by first | omega | (simp; done) | (simp; omega)) _) | (refine Below.alloc ?_ (by first | omega | (simp; done) | (simp; omega)) _)))

set_option maxHeartbeats 2000000 in
theorem toDequeActorS_any (xs : List GDequeActor) {A : Option Addr} {c : Nat} {b1} (w : World) (hx : T1 w (.sl xs.length (xs.flatMap GDequeActor.enc)) b1 (.slice A xs.length c)) (hs : xs.length ≤ 1048576 ∧ ∀ y ∈ xs, GDequeActor.small y) :
    Calls Try.prog 138 #[.slice A xs.length c] w fun e w' => ∃ A' c' bs, e = .returned (.slice A' xs.length c') ∧ Below w.heap.size w w' ∧ T1 w' (.sl xs.length (xs.flatMap GDequeActor.enc)) bs (.slice A' xs.length c') ∧ Own w.heap.size w' bs := by
  have hs1 := Lib.hid hs
  have hn' : xs.length ≤ 1048576 := hs.1
  clear hs
  have hn : Hid (xs.length = xs.length) := rfl
  generalize hl : xs.length = n at hx hn' hn ⊢
  replace hn : Hid (xs.length = n) := hl
  clear hl
  obtain ⟨M, hms, hmk, hsz'⟩ := make_fresh (P := Try.prog) (t := 27) (e := 119) (s := 5) (by kernel_rfl) Try.underlying27 hn'
  have hsz := hsz'
  have Hms := Lib.hid hms
  clear hsz' hms
  go_enter Try.func138, Try.ntmps138
  go_wp2_with fail
  go_loopw [4] (fun i w' => ∃ k : Nat, k ≤ n ∧ i = .int .i64 k ∧ Below w.heap.size w w' ∧ ∃ bs us, RowAt w' w.heap.size 119 n 5 us ∧ us.length = k * 5 ∧ TN w' ((xs.take k).flatMap GDequeActor.enc) bs us ∧ Own (w.heap.size + 1) w' bs) (fun i _ => n - (intOf i).toNat)
  case atStart => exact ⟨0, by omega, rfl, (Below.refl _ _).alloc (Nat.le_refl _) _, [], [], RowAt.new _ _ 119 n 5 Hms.out, by simp, by simpa using TN.done, Own.nil _ _⟩
  case round =>
    obtain ⟨k, hk, rfl, hb, bs, us, hrow, hul, ht, ho⟩ := hrel
    by_cases hlt : k < n
    · obtain ⟨ba, oa, x, Ax0, cx0, px0, rfl, hba, hxk, x0, x1, x2, x3, x4, tx0, lx0, mx0⟩ := GDequeActor.get_ (hx.below hb) hn.out hlt
      have nx := GDequeActor.mk_ (w := wr) (x := x) tx0
      have hul' := Lib.hid hul
      clear hul
      go_wp2_with fail
      refine (toDequeActor_any x _ nx (hs1.out.2 x (List.mem_of_getElem? hxk.out))).mono ?_
      rintro e w1 ⟨vs, ds, rfl, hb1, hy, oy⟩
      have hvl : vs.toArray.size = 5 := by have := hy.length; simpa [GDequeActor.enc] using this
      have hv1 : vs.all (·.oneCell') = true := hy.oneC
      have hT := TN.append.2 ⟨bs, _, us, vs, rfl, rfl, ht.below hb1, hy⟩
      have hO : Own (w.heap.size + 1) w1 (bs ++ ds) := Own.append (ho.below hb1) ho.lt oy (by have := hrow.lt; omega)
      go_wp2_with (refine wpList_store_next rfl 119 (.tmp 21) (.tmp 20) rfl w.heap.size 119 n 5 k us (.agg vs.toArray) (by first | rfl | (rw [Nat.mul_one]; rfl)) rfl (hrow.below hb1) hul'.out hlt hsz.h hvl (by simpa [Value.cells] using hv1) ?_; intro w2 hr2 hb2 hs2 ho2)
      have hbt : But w.heap.size w1 w2 := ⟨hb2.os, hb2.tape, hb2.output, hb2.size, fun j _ hj => ho2 j hj⟩
      go_roundw
      case rel => exact ⟨k+1, by omega, by go_num, (hb.trans (hb1.mono hb.size)).trans hb2, _, _, hr2, by have := hvl; simp [hul'.out, Value.cells, Nat.add_mul] at this ⊢; omega, by rw [flat_snoc GDequeActor.enc hxk]; exact hT.but hbt (hO.notin (by omega)), hO.but hbt (hO.notin (by omega))⟩
      case measure => simp [intOf]; omega
    · have : k = n := by omega
      subst this
      go_wp2_with fail
      go_ret
      rw [List.take_of_length_le (by rw [hn.out]; exact Nat.le_refl _)] at ht
      rcases Nat.eq_zero_or_pos k with h0 | h0
      · subst h0
        have : xs = [] := List.eq_nil_of_length_eq_zero hn.out
        subst this
        exact ⟨_, _, [], rfl, hb, T1.empty _, Own.nil _ _⟩
      · obtain ⟨cur, t', hg⟩ := hrow.own
        exact ⟨_, _, w.heap.size :: bs, rfl, hb, T1.of_row hrow h0 (by unfold maxLen; omega) ht, Own.cons hg (Nat.le_refl _) ho⟩

set_option maxHeartbeats 2000000 in
theorem toHandedS_any (xs : List GHanded) {A : Option Addr} {c : Nat} {b1} (w : World) (hx : T1 w (.sl xs.length (xs.flatMap GHanded.enc)) b1 (.slice A xs.length c)) (hs : xs.length ≤ 1048576 ∧ ∀ y ∈ xs, GHanded.small y) :
    Calls Try.prog 139 #[.slice A xs.length c] w fun e w' => ∃ A' c' bs, e = .returned (.slice A' xs.length c') ∧ Below w.heap.size w w' ∧ T1 w' (.sl xs.length (xs.flatMap GHanded.enc)) bs (.slice A' xs.length c') ∧ Own w.heap.size w' bs := by
  have hs1 := Lib.hid hs
  have hn' : xs.length ≤ 1048576 := hs.1
  clear hs
  have hn : Hid (xs.length = xs.length) := rfl
  generalize hl : xs.length = n at hx hn' hn ⊢
  replace hn : Hid (xs.length = n) := hl
  clear hl
  obtain ⟨M, hms, hmk, hsz'⟩ := make_fresh (P := Try.prog) (t := 28) (e := 36) (s := 2) (by kernel_rfl) Try.underlying28 hn'
  have hsz := hsz'
  have Hms := Lib.hid hms
  clear hsz' hms
  go_enter Try.func139, Try.ntmps139
  go_wp2_with fail
  go_loopw [4] (fun i w' => ∃ k : Nat, k ≤ n ∧ i = .int .i64 k ∧ Below w.heap.size w w' ∧ ∃ bs us, RowAt w' w.heap.size 36 n 2 us ∧ us.length = k * 2 ∧ TN w' ((xs.take k).flatMap GHanded.enc) bs us ∧ Own (w.heap.size + 1) w' bs) (fun i _ => n - (intOf i).toNat)
  case atStart => exact ⟨0, by omega, rfl, (Below.refl _ _).alloc (Nat.le_refl _) _, [], [], RowAt.new _ _ 36 n 2 Hms.out, by simp, by simpa using TN.done, Own.nil _ _⟩
  case round =>
    obtain ⟨k, hk, rfl, hb, bs, us, hrow, hul, ht, ho⟩ := hrel
    by_cases hlt : k < n
    · obtain ⟨ba, oa, x, rfl, hba, hxk, x0, x1⟩ := GHanded.get_ (hx.below hb) hn.out hlt
      have hul' := Lib.hid hul
      clear hul
      go_wp2_with fail
      refine (toHanded_any x _).mono ?_
      rintro e w1 ⟨rfl, hb1⟩
      have hT := TN.append.2 ⟨bs, [], us, _, rfl, rfl, ht.below hb1, GHanded.mk_ (w := w1) (x := x)⟩
      go_wp2_with (refine wpList_store_next rfl 36 (.tmp 21) (.tmp 20) rfl w.heap.size 36 n 2 k us (.agg #[.int .i64 x.actor, .int .i64 x.value]) rfl rfl (hrow.below hb1) hul'.out hlt hsz.h rfl rfl ?_; intro w2 hr2 hb2 hs2 ho2)
      have hbt : But w.heap.size w1 w2 := ⟨hb2.os, hb2.tape, hb2.output, hb2.size, fun j _ hj => ho2 j hj⟩
      go_roundw
      case rel => exact ⟨k+1, by omega, by go_num, (hb.trans (hb1.mono hb.size)).trans hb2, bs ++ [], _, hr2, by simp [hul'.out, Value.cells, Nat.add_mul], by rw [flat_snoc GHanded.enc hxk]; exact hT.but hbt (by simpa using ho.notin (by omega)), by simpa using (ho.below hb1).but hbt (ho.notin (by omega))⟩
      case measure => simp [intOf]; omega
    · have : k = n := by omega
      subst this
      go_wp2_with fail
      go_ret
      rw [List.take_of_length_le (by rw [hn.out]; exact Nat.le_refl _)] at ht
      rcases Nat.eq_zero_or_pos k with h0 | h0
      · subst h0
        have : xs = [] := List.eq_nil_of_length_eq_zero hn.out
        subst this
        exact ⟨_, _, [], rfl, hb, T1.empty _, Own.nil _ _⟩
      · obtain ⟨cur, t', hg⟩ := hrow.own
        exact ⟨_, _, w.heap.size :: bs, rfl, hb, T1.of_row hrow h0 (by unfold maxLen; omega) ht, Own.cons hg (Nat.le_refl _) ho⟩

set_option maxHeartbeats 4000000 in
theorem toDeque_any (x : GDeque) {b us} (w : World) (hx : TN w x.enc b us) (hs : x.small) :
    Calls Try.prog 49 #[.agg us.toArray] w fun e w' => ∃ vs bs, e = .returned (.agg vs.toArray) ∧ Below w.heap.size w w' ∧ TN w' x.enc bs vs ∧ Own w.heap.size w' bs := by
  obtain ⟨Ax2, cx2, bx2, Ax3, cx3, bx3, Ax4, cx4, bx4, Ax5, cx5, bx5, rfl, rfl, tx2, lx2, mx2, tx3, lx3, mx3, tx4, lx4, mx4, tx5, lx5, mx5⟩ := GDeque.us hx
  obtain ⟨s2, s3, s4, s5⟩ := hs
  go_enter Try.func49, Try.ntmps49
  have B0 : ∀ S Z O, Below w.heap.size w (((w.alloc S).alloc Z).alloc O) := fun _ _ _ => (((Below.refl _ _).alloc (Nat.le_refl _) _).alloc (by simp) _).alloc (by simp; omega) _
  go_wp2_with fail
  refine (toInt64S_any x.buffer _ (tx2.below (B0 _ _ _)) s2).mono ?_
  rintro e w1 ⟨A1, a1, d1, rfl, hb1, y1, o1⟩
  have z1 : w.heap.size + 2 < w1.heap.size := by have := hb1.size; simp at this; omega
  have B1 : Below w.heap.size w w1 := Below.trans (B0 _ _ _) (hb1.mono (by simp <;> omega))
  replace o1 : Own (w.heap.size + 3) w1 d1 := by simpa using o1
  have r1_0 := (hb1.block w.heap.size (by simp <;> omega)).trans (rows3 w _ _ _).1
  have r1_1 := (hb1.block (w.heap.size + 1) (by simp <;> omega)).trans (rows3 w _ _ _).2.1
  have r1_2 := (hb1.block (w.heap.size + 1 + 1) (by simp <;> omega)).trans (rows3 w _ _ _).2.2
  have q1_0_0 := cell_of_row _ _ 0 _ _ _ r1_0
  have q1_0_1 := cell_of_row _ _ 1 _ _ _ r1_0
  have q1_0_2 := cell_of_row _ _ 2 _ _ _ r1_0
  have q1_0_3 := cell_of_row _ _ 3 _ _ _ r1_0
  have q1_0_4 := cell_of_row _ _ 4 _ _ _ r1_0
  have q1_0_5 := cell_of_row _ _ 5 _ _ _ r1_0
  simp only [List.getElem?_toArray, List.getElem?_cons_zero, List.getElem?_cons_succ] at q1_0_0 q1_0_1 q1_0_2 q1_0_3 q1_0_4 q1_0_5
  have f1_0 := fz_of_row r1_0
  have q1_1_0 := cell_of_row _ _ 0 _ _ _ r1_1
  have q1_1_1 := cell_of_row _ _ 1 _ _ _ r1_1
  have q1_1_2 := cell_of_row _ _ 2 _ _ _ r1_1
  have q1_1_3 := cell_of_row _ _ 3 _ _ _ r1_1
  have q1_1_4 := cell_of_row _ _ 4 _ _ _ r1_1
  have q1_1_5 := cell_of_row _ _ 5 _ _ _ r1_1
  simp only [List.getElem?_toArray, List.getElem?_cons_zero, List.getElem?_cons_succ] at q1_1_0 q1_1_1 q1_1_2 q1_1_3 q1_1_4 q1_1_5
  have f1_1 := fz_of_row r1_1
  have q1_2_0 := cell_of_row _ _ 0 _ _ _ r1_2
  have q1_2_1 := cell_of_row _ _ 1 _ _ _ r1_2
  have q1_2_2 := cell_of_row _ _ 2 _ _ _ r1_2
  have q1_2_3 := cell_of_row _ _ 3 _ _ _ r1_2
  have q1_2_4 := cell_of_row _ _ 4 _ _ _ r1_2
  have q1_2_5 := cell_of_row _ _ 5 _ _ _ r1_2
  simp only [List.getElem?_toArray, List.getElem?_cons_zero, List.getElem?_cons_succ] at q1_2_0 q1_2_1 q1_2_2 q1_2_3 q1_2_4 q1_2_5
  have f1_2 := fz_of_row r1_2
  clear hb1
  go_wp2_with fail
  refine (toDequeActorS_any x.actors _ (tx3.below (B1.setCell (by simp <;> omega) _)) s3).mono ?_
  rintro e w2 ⟨A2, a2, d2, rfl, hb2, y2, o2⟩
  have z2 : w.heap.size + 2 < w2.heap.size := by have := hb2.size; simp at this; omega
  have B2 : Below w.heap.size w w2 := Below.trans (B1.setCell (by simp <;> omega) _) (hb2.mono (by simp <;> omega))
  have g2 : Abv (w.heap.size + 3) w1 w2 := Abv.below ((Abv.refl (w.heap.size + 3) _).setCell (by simp <;> omega) _) hb2
  replace o2 : Own w1.heap.size w2 d2 := by simpa using o2
  have r2_0 := (hb2.block w.heap.size (by simp <;> omega)).trans ((Below.heap_setCell _ _ _ _ (by simp <;> omega)).trans r1_0)
  have r2_1 := (hb2.block (w.heap.size + 1) (by simp <;> omega)).trans ((Below.heap_setCell _ _ _ _ (by simp <;> omega)).trans r1_1)
  have r2_2 := (hb2.block (w.heap.size + 1 + 1) (by simp <;> omega)).trans (Rows.heap_set_same r1_2)
  simp only [List.setIfInBounds_toArray, List.set_cons_zero, List.set_cons_succ] at r2_2
  have q2_0_0 := cell_of_row _ _ 0 _ _ _ r2_0
  have q2_0_1 := cell_of_row _ _ 1 _ _ _ r2_0
  have q2_0_2 := cell_of_row _ _ 2 _ _ _ r2_0
  have q2_0_3 := cell_of_row _ _ 3 _ _ _ r2_0
  have q2_0_4 := cell_of_row _ _ 4 _ _ _ r2_0
  have q2_0_5 := cell_of_row _ _ 5 _ _ _ r2_0
  simp only [List.getElem?_toArray, List.getElem?_cons_zero, List.getElem?_cons_succ] at q2_0_0 q2_0_1 q2_0_2 q2_0_3 q2_0_4 q2_0_5
  have f2_0 := fz_of_row r2_0
  have q2_1_0 := cell_of_row _ _ 0 _ _ _ r2_1
  have q2_1_1 := cell_of_row _ _ 1 _ _ _ r2_1
  have q2_1_2 := cell_of_row _ _ 2 _ _ _ r2_1
  have q2_1_3 := cell_of_row _ _ 3 _ _ _ r2_1
  have q2_1_4 := cell_of_row _ _ 4 _ _ _ r2_1
  have q2_1_5 := cell_of_row _ _ 5 _ _ _ r2_1
  simp only [List.getElem?_toArray, List.getElem?_cons_zero, List.getElem?_cons_succ] at q2_1_0 q2_1_1 q2_1_2 q2_1_3 q2_1_4 q2_1_5
  have f2_1 := fz_of_row r2_1
  have q2_2_0 := cell_of_row _ _ 0 _ _ _ r2_2
  have q2_2_1 := cell_of_row _ _ 1 _ _ _ r2_2
  have q2_2_2 := cell_of_row _ _ 2 _ _ _ r2_2
  have q2_2_3 := cell_of_row _ _ 3 _ _ _ r2_2
  have q2_2_4 := cell_of_row _ _ 4 _ _ _ r2_2
  have q2_2_5 := cell_of_row _ _ 5 _ _ _ r2_2
  simp only [List.getElem?_toArray, List.getElem?_cons_zero, List.getElem?_cons_succ] at q2_2_0 q2_2_1 q2_2_2 q2_2_3 q2_2_4 q2_2_5
  have f2_2 := fz_of_row r2_2
  clear r1_0 f1_0 q1_0_0 q1_0_1 q1_0_2 q1_0_3 q1_0_4 q1_0_5 r1_1 f1_1 q1_1_0 q1_1_1 q1_1_2 q1_1_3 q1_1_4 q1_1_5 r1_2 f1_2 q1_2_0 q1_2_1 q1_2_2 q1_2_3 q1_2_4 q1_2_5
  clear hb2
  go_wp2_with fail
  refine (toHandedS_any x.taken _ (tx4.below (B2.setCell (by simp <;> omega) _)) s4).mono ?_
  rintro e w3 ⟨A3, a3, d3, rfl, hb3, y3, o3⟩
  have z3 : w.heap.size + 2 < w3.heap.size := by have := hb3.size; simp at this; omega
  have B3 : Below w.heap.size w w3 := Below.trans (B2.setCell (by simp <;> omega) _) (hb3.mono (by simp <;> omega))
  have g3 : Abv (w.heap.size + 3) w2 w3 := Abv.below ((Abv.refl (w.heap.size + 3) _).setCell (by simp <;> omega) _) hb3
  replace o3 : Own w2.heap.size w3 d3 := by simpa using o3
  have r3_0 := (hb3.block w.heap.size (by simp <;> omega)).trans ((Below.heap_setCell _ _ _ _ (by simp <;> omega)).trans r2_0)
  have r3_1 := (hb3.block (w.heap.size + 1) (by simp <;> omega)).trans ((Below.heap_setCell _ _ _ _ (by simp <;> omega)).trans r2_1)
  have r3_2 := (hb3.block (w.heap.size + 1 + 1) (by simp <;> omega)).trans (Rows.heap_set_same r2_2)
  simp only [List.setIfInBounds_toArray, List.set_cons_zero, List.set_cons_succ] at r3_2
  have q3_0_0 := cell_of_row _ _ 0 _ _ _ r3_0
  have q3_0_1 := cell_of_row _ _ 1 _ _ _ r3_0
  have q3_0_2 := cell_of_row _ _ 2 _ _ _ r3_0
  have q3_0_3 := cell_of_row _ _ 3 _ _ _ r3_0
  have q3_0_4 := cell_of_row _ _ 4 _ _ _ r3_0
  have q3_0_5 := cell_of_row _ _ 5 _ _ _ r3_0
  simp only [List.getElem?_toArray, List.getElem?_cons_zero, List.getElem?_cons_succ] at q3_0_0 q3_0_1 q3_0_2 q3_0_3 q3_0_4 q3_0_5
  have f3_0 := fz_of_row r3_0
  have q3_1_0 := cell_of_row _ _ 0 _ _ _ r3_1
  have q3_1_1 := cell_of_row _ _ 1 _ _ _ r3_1
  have q3_1_2 := cell_of_row _ _ 2 _ _ _ r3_1
  have q3_1_3 := cell_of_row _ _ 3 _ _ _ r3_1
  have q3_1_4 := cell_of_row _ _ 4 _ _ _ r3_1
  have q3_1_5 := cell_of_row _ _ 5 _ _ _ r3_1
  simp only [List.getElem?_toArray, List.getElem?_cons_zero, List.getElem?_cons_succ] at q3_1_0 q3_1_1 q3_1_2 q3_1_3 q3_1_4 q3_1_5
  have f3_1 := fz_of_row r3_1
  have q3_2_0 := cell_of_row _ _ 0 _ _ _ r3_2
  have q3_2_1 := cell_of_row _ _ 1 _ _ _ r3_2
  have q3_2_2 := cell_of_row _ _ 2 _ _ _ r3_2
  have q3_2_3 := cell_of_row _ _ 3 _ _ _ r3_2
  have q3_2_4 := cell_of_row _ _ 4 _ _ _ r3_2
  have q3_2_5 := cell_of_row _ _ 5 _ _ _ r3_2
  simp only [List.getElem?_toArray, List.getElem?_cons_zero, List.getElem?_cons_succ] at q3_2_0 q3_2_1 q3_2_2 q3_2_3 q3_2_4 q3_2_5
  have f3_2 := fz_of_row r3_2
  clear r2_0 f2_0 q2_0_0 q2_0_1 q2_0_2 q2_0_3 q2_0_4 q2_0_5 r2_1 f2_1 q2_1_0 q2_1_1 q2_1_2 q2_1_3 q2_1_4 q2_1_5 r2_2 f2_2 q2_2_0 q2_2_1 q2_2_2 q2_2_3 q2_2_4 q2_2_5
  clear hb3
  go_wp2_with fail
  refine (toInt64S_any x.refused _ (tx5.below (B3.setCell (by simp <;> omega) _)) s5).mono ?_
  rintro e w4 ⟨A4, a4, d4, rfl, hb4, y4, o4⟩
  have z4 : w.heap.size + 2 < w4.heap.size := by have := hb4.size; simp at this; omega
  have B4 : Below w.heap.size w w4 := Below.trans (B3.setCell (by simp <;> omega) _) (hb4.mono (by simp <;> omega))
  have g4 : Abv (w.heap.size + 3) w3 w4 := Abv.below ((Abv.refl (w.heap.size + 3) _).setCell (by simp <;> omega) _) hb4
  replace o4 : Own w3.heap.size w4 d4 := by simpa using o4
  have r4_0 := (hb4.block w.heap.size (by simp <;> omega)).trans ((Below.heap_setCell _ _ _ _ (by simp <;> omega)).trans r3_0)
  have r4_1 := (hb4.block (w.heap.size + 1) (by simp <;> omega)).trans ((Below.heap_setCell _ _ _ _ (by simp <;> omega)).trans r3_1)
  have r4_2 := (hb4.block (w.heap.size + 1 + 1) (by simp <;> omega)).trans (Rows.heap_set_same r3_2)
  simp only [List.setIfInBounds_toArray, List.set_cons_zero, List.set_cons_succ] at r4_2
  have q4_0_0 := cell_of_row _ _ 0 _ _ _ r4_0
  have q4_0_1 := cell_of_row _ _ 1 _ _ _ r4_0
  have q4_0_2 := cell_of_row _ _ 2 _ _ _ r4_0
  have q4_0_3 := cell_of_row _ _ 3 _ _ _ r4_0
  have q4_0_4 := cell_of_row _ _ 4 _ _ _ r4_0
  have q4_0_5 := cell_of_row _ _ 5 _ _ _ r4_0
  simp only [List.getElem?_toArray, List.getElem?_cons_zero, List.getElem?_cons_succ] at q4_0_0 q4_0_1 q4_0_2 q4_0_3 q4_0_4 q4_0_5
  have f4_0 := fz_of_row r4_0
  have q4_1_0 := cell_of_row _ _ 0 _ _ _ r4_1
  have q4_1_1 := cell_of_row _ _ 1 _ _ _ r4_1
  have q4_1_2 := cell_of_row _ _ 2 _ _ _ r4_1
  have q4_1_3 := cell_of_row _ _ 3 _ _ _ r4_1
  have q4_1_4 := cell_of_row _ _ 4 _ _ _ r4_1
  have q4_1_5 := cell_of_row _ _ 5 _ _ _ r4_1
  simp only [List.getElem?_toArray, List.getElem?_cons_zero, List.getElem?_cons_succ] at q4_1_0 q4_1_1 q4_1_2 q4_1_3 q4_1_4 q4_1_5
  have f4_1 := fz_of_row r4_1
  have q4_2_0 := cell_of_row _ _ 0 _ _ _ r4_2
  have q4_2_1 := cell_of_row _ _ 1 _ _ _ r4_2
  have q4_2_2 := cell_of_row _ _ 2 _ _ _ r4_2
  have q4_2_3 := cell_of_row _ _ 3 _ _ _ r4_2
  have q4_2_4 := cell_of_row _ _ 4 _ _ _ r4_2
  have q4_2_5 := cell_of_row _ _ 5 _ _ _ r4_2
  simp only [List.getElem?_toArray, List.getElem?_cons_zero, List.getElem?_cons_succ] at q4_2_0 q4_2_1 q4_2_2 q4_2_3 q4_2_4 q4_2_5
  have f4_2 := fz_of_row r4_2
  clear r3_0 f3_0 q3_0_0 q3_0_1 q3_0_2 q3_0_3 q3_0_4 q3_0_5 r3_1 f3_1 q3_1_0 q3_1_1 q3_1_2 q3_1_3 q3_1_4 q3_1_5 r3_2 f3_2 q3_2_0 q3_2_1 q3_2_2 q3_2_3 q3_2_4 q3_2_5
  clear hb4
  go_wp2_with fail
  have HG : ∀ W', Abv (w.heap.size + 3) w4 W' → TN W' x.enc (d1 ++ d2 ++ d3 ++ d4) [.int .i64 x.top, .int .i64 x.bottom, .slice A1 x.buffer.length a1, .slice A2 x.actors.length a2, .slice A3 x.taken.length a3, .slice A4 x.refused.length a4] ∧ Own w.heap.size W' (d1 ++ d2 ++ d3 ++ d4) := by
    intro W' hW
    have k4 := hW
    have k3 := g4.trans k4
    have k2 := g3.trans k3
    have k1 := g2.trans k2
    have s_1 : w1.heap.size ≤ w2.heap.size := g2.1
    have s_2 : w2.heap.size ≤ w3.heap.size := g3.1
    have s_3 : w3.heap.size ≤ w4.heap.size := g4.1
    have ht := GDeque.mk_ (w := W') (x := x) (y1.abv k1 o1.ge) (y2.abv k2 (fun b hb => Nat.le_trans (by omega) (o2.ge b hb))) (y3.abv k3 (fun b hb => Nat.le_trans (by omega) (o3.ge b hb))) (y4.abv k4 (fun b hb => Nat.le_trans (by omega) (o4.ge b hb)))
    have p1 : Own w.heap.size W' d1 := (o1.abv k1 (by omega)).mono (by omega)
    have l1 : ∀ b ∈ d1, b < w1.heap.size := o1.lt
    have p2 : Own w.heap.size W' (d1 ++ d2) := Own.append p1 (fun b hb => Nat.lt_of_lt_of_le (l1 b hb) (by omega)) (o2.abv k2 (by omega)) (by omega)
    have l2 : ∀ b ∈ d1 ++ d2, b < w2.heap.size := fun b hb => (List.mem_append.1 hb).elim (fun h => Nat.lt_of_lt_of_le (l1 b h) (by omega)) (o2.lt b)
    have p3 : Own w.heap.size W' (d1 ++ d2 ++ d3) := Own.append p2 (fun b hb => Nat.lt_of_lt_of_le (l2 b hb) (by omega)) (o3.abv k3 (by omega)) (by omega)
    have l3 : ∀ b ∈ d1 ++ d2 ++ d3, b < w3.heap.size := fun b hb => (List.mem_append.1 hb).elim (fun h => Nat.lt_of_lt_of_le (l2 b h) (by omega)) (o3.lt b)
    have p4 : Own w.heap.size W' (d1 ++ d2 ++ d3 ++ d4) := Own.append p3 (fun b hb => Nat.lt_of_lt_of_le (l3 b hb) (by omega)) (o4.abv k4 (by omega)) (by omega)
    have l4 : ∀ b ∈ d1 ++ d2 ++ d3 ++ d4, b < w4.heap.size := fun b hb => (List.mem_append.1 hb).elim (fun h => Nat.lt_of_lt_of_le (l3 b h) (by omega)) (o4.lt b)
    exact ⟨by simpa [List.append_assoc] using ht, p4⟩
  refine bodyPost_ret (v := .agg #[.int .i64 x.top, .int .i64 x.bottom, .slice A1 x.buffer.length a1, .slice A2 x.actors.length a2, .slice A3 x.taken.length a3, .slice A4 x.refused.length a4]) (by simp [results, Try.results49, go_sem, q4_1_0, q4_1_1, q4_1_2, q4_1_3, q4_1_4, q4_1_5]) rfl ?_
  refine ⟨_, _, rfl, ?_, HG _ ?_⟩
  · repeat (refine Below.setCell ?_ (by simp <;> omega) _)
    exact B4
  · repeat (refine Abv.setCell ?_ (by simp <;> omega) _)
    exact Abv.refl _ _

end Go.Proofs.Ythelpioccjjgfaa
