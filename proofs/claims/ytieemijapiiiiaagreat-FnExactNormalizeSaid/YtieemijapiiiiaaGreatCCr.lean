/- Copies of these types: what they read as, in memory of their own. Printed by gen_fam.py. -/
import Derived.Test.YtieemijapiiiiaaGreatProg
import Derived.Test.YtieemijapiiiiaaGreatDCr
set_option linter.unusedSimpArgs false
set_option linter.unusedVariables false
namespace Go.Proofs.YtieemijapiiiiaaGreat
open Go Go.RowKit Go.Proofs Go.Tr
set_option maxHeartbeats 2000000 in
theorem toInt64S_any (xs : List Int) {A : Option Addr} {c : Nat} {b1} (w : World) (hx : T1 w (.sl xs.length (xs.flatMap intE)) b1 (.slice A xs.length c)) (hs : xs.length ≤ 1048576) :
    Calls Tryz.prog 27 #[.slice A xs.length c] w fun e w' => ∃ A' c' bs, e = .returned (.slice A' xs.length c') ∧ Below w.heap.size w w' ∧ T1 w' (.sl xs.length (xs.flatMap intE)) bs (.slice A' xs.length c') ∧ Own w.heap.size w' bs := by
  have hs1 := Lib.hid hs
  have hn' : xs.length ≤ 1048576 := hs
  clear hs
  have hn : Hid (xs.length = xs.length) := rfl
  generalize hl : xs.length = n at hx hn' hn ⊢
  replace hn : Hid (xs.length = n) := hl
  clear hl
  obtain ⟨M, hms, hmk, hsz'⟩ := make_fresh (P := Tryz.prog) (t := 25) (e := 2) (s := 1) (by kernel_rfl) Tryz.underlying25 hn'
  have hsz := hsz'
  have Hms := Lib.hid hms
  clear hsz' hms
  go_enter Tryz.func27, Tryz.ntmps27
  go_wp2_with fail
  go_loopw [4] (fun i w' => ∃ k : Nat, k ≤ n ∧ i = .int .i64 k ∧ Below w.heap.size w w' ∧ ∃ bs us, RowAt w' w.heap.size 2 n 1 us ∧ us.length = k * 1 ∧ TN w' ((xs.take k).flatMap intE) bs us ∧ Own (w.heap.size + 1) w' bs) (fun i _ => n - (intOf i).toNat)
  case atStart => exact ⟨0, by omega, rfl, (Below.refl _ _).alloc (Nat.le_refl _) _, [], [], RowAt.new _ _ 2 n 1 Hms.out, by simp, by simpa using TN.done, Own.nil _ _⟩
  case round =>
    obtain ⟨k, hk, rfl, hb, bs, us, hrow, hul, ht, ho⟩ := hrel
    by_cases hlt : k < n
    · obtain ⟨ba, oa, x, rfl, _, hba, hxk, x0⟩ := intE_at (hx.below hb) hn.out hlt
      have hul' := Lib.hid hul
      clear hul
      have hT := TN.append.2 ⟨bs, [], us, _, rfl, rfl, ht, TN.v_mk (w := wr) (x := .int .i64 x) rfl TN.done⟩
      go_wp2_with (refine wpList_store_next rfl 2 (.tmp 20) (.tmp 19) rfl w.heap.size 2 n 1 k us (.int .i64 x) (by rw [Nat.mul_one]; rfl) rfl hrow hul'.out hlt hsz.h rfl rfl ?_; intro w2 hr2 hb2 hs2 ho2)
      have hbt : But w.heap.size wr w2 := ⟨hb2.os, hb2.tape, hb2.output, hb2.size, fun j _ hj => ho2 j hj⟩
      go_roundw
      case rel => exact ⟨k+1, by omega, by go_num, hb.trans hb2, bs ++ [], _, hr2, by simp [hul'.out, Value.cells, Nat.add_mul], by rw [flat_snoc intE hxk]; exact hT.but hbt (by simpa using ho.notin (by omega)), by simpa using ho.but hbt (ho.notin (by omega))⟩
      case measure => simp [intOf]; omega
    · have : k = n := by omega
      subst this
      go_wp2_with fail
      go_ret
      rw [List.take_of_length_le (by rw [hn.out]; exact Nat.le_refl _)] at ht
      rcases Nat.eq_zero_or_pos k with h0 | h0
      · subst h0
        have : xs = [] := List.eq_nil_of_length_eq_zero hn.out
        subst this
        exact ⟨_, _, [], rfl, hb, T1.empty _, Own.nil _ _⟩
      · obtain ⟨cur, t', hg⟩ := hrow.own
        exact ⟨_, _, w.heap.size :: bs, rfl, hb, T1.of_row hrow h0 (by unfold maxLen; omega) ht, Own.cons hg (Nat.le_refl _) ho⟩

def ToKidP (N : Nat) : Prop := ∀ (xs : List Cor), sizL xs 0 < N → ∀  {A : Option Addr} {c : Nat} {b1 : List Nat} (w : World) (hx : T1 w (.sl xs.length (xs.flatMap GKid.enc)) b1 (.slice A xs.length c)) (hs : xs.length ≤ 1048576 ∧ ∀ y ∈ xs, GKid.small y), Calls Tryz.prog 26 #[.slice A xs.length c] w fun e w' => ∃ A' c' bs, e = .returned (.slice A' xs.length c') ∧ Below w.heap.size w w' ∧ T1 w' (.sl xs.length (xs.flatMap GKid.enc)) bs (.slice A' xs.length c') ∧ Own w.heap.size w' bs
set_option maxHeartbeats 4000000 in
theorem toCore_of (N : Nat) (IH : ToKidP N) (x : GCore) (hN : sizT x ≤ N) {b us} (w : World) (hx : TN w (GCore.enc x) b us) (hs : (GCore.small x)) :
    Calls Tryz.prog 9 #[.agg us.toArray] w fun e w' => ∃ vs bs, e = .returned (.agg vs.toArray) ∧ Below w.heap.size w w' ∧ TN w' (GCore.enc x) bs vs ∧ Own w.heap.size w' bs := by
  obtain ⟨Ax2, cx2, bx2, Ax3, cx3, bx3, rfl, rfl, tx2, lx2, mx2, tx3, lx3, mx3⟩ := GCore.us hx
  obtain ⟨s2, s3⟩ := hs
  go_enter Tryz.func9, Tryz.ntmps9
  have B0 : ∀ S Z O, Below w.heap.size w (((w.alloc S).alloc Z).alloc O) := fun _ _ _ => (((Below.refl _ _).alloc (Nat.le_refl _) _).alloc (by simp) _).alloc (by simp; omega) _
  go_wp2_with fail
  refine (toInt64S_any x.data _ (tx2.below (B0 _ _ _)) s2).mono ?_
  rintro e w1 ⟨A1, a1, d1, rfl, hb1, y1, o1⟩
  have z1 : w.heap.size + 2 < w1.heap.size := by have := hb1.size; simp at this; omega
  have B1 : Below w.heap.size w w1 := Below.trans (B0 _ _ _) (hb1.mono (by simp <;> omega))
  replace o1 : Own (w.heap.size + 3) w1 d1 := by simpa using o1
  have r1_0 := (hb1.block w.heap.size (by simp <;> omega)).trans (rows3 w _ _ _).1
  have r1_1 := (hb1.block (w.heap.size + 1) (by simp <;> omega)).trans (rows3 w _ _ _).2.1
  have r1_2 := (hb1.block (w.heap.size + 1 + 1) (by simp <;> omega)).trans (rows3 w _ _ _).2.2
  have q1_0_0 := cell_of_row _ _ 0 _ _ _ r1_0
  have q1_0_1 := cell_of_row _ _ 1 _ _ _ r1_0
  have q1_0_2 := cell_of_row _ _ 2 _ _ _ r1_0
  have q1_0_3 := cell_of_row _ _ 3 _ _ _ r1_0
  simp only [List.getElem?_toArray, List.getElem?_cons_zero, List.getElem?_cons_succ] at q1_0_0 q1_0_1 q1_0_2 q1_0_3
  have f1_0 := fz_of_row r1_0
  have q1_1_0 := cell_of_row _ _ 0 _ _ _ r1_1
  have q1_1_1 := cell_of_row _ _ 1 _ _ _ r1_1
  have q1_1_2 := cell_of_row _ _ 2 _ _ _ r1_1
  have q1_1_3 := cell_of_row _ _ 3 _ _ _ r1_1
  simp only [List.getElem?_toArray, List.getElem?_cons_zero, List.getElem?_cons_succ] at q1_1_0 q1_1_1 q1_1_2 q1_1_3
  have f1_1 := fz_of_row r1_1
  have q1_2_0 := cell_of_row _ _ 0 _ _ _ r1_2
  have q1_2_1 := cell_of_row _ _ 1 _ _ _ r1_2
  have q1_2_2 := cell_of_row _ _ 2 _ _ _ r1_2
  have q1_2_3 := cell_of_row _ _ 3 _ _ _ r1_2
  simp only [List.getElem?_toArray, List.getElem?_cons_zero, List.getElem?_cons_succ] at q1_2_0 q1_2_1 q1_2_2 q1_2_3
  have f1_2 := fz_of_row r1_2
  clear hb1
  go_wp2_with fail
  refine (IH x.kids (kidsLt hN) _ (tx3.below (B1.setCell (by simp <;> omega) _)) s3).mono ?_
  rintro e w2 ⟨A2, a2, d2, rfl, hb2, y2, o2⟩
  have z2 : w.heap.size + 2 < w2.heap.size := by have := hb2.size; simp at this; omega
  have B2 : Below w.heap.size w w2 := Below.trans (B1.setCell (by simp <;> omega) _) (hb2.mono (by simp <;> omega))
  have g2 : Abv (w.heap.size + 3) w1 w2 := Abv.below ((Abv.refl (w.heap.size + 3) _).setCell (by simp <;> omega) _) hb2
  replace o2 : Own w1.heap.size w2 d2 := by simpa using o2
  have r2_0 := (hb2.block w.heap.size (by simp <;> omega)).trans ((Below.heap_setCell _ _ _ _ (by simp <;> omega)).trans r1_0)
  have r2_1 := (hb2.block (w.heap.size + 1) (by simp <;> omega)).trans ((Below.heap_setCell _ _ _ _ (by simp <;> omega)).trans r1_1)
  have r2_2 := (hb2.block (w.heap.size + 1 + 1) (by simp <;> omega)).trans (Rows.heap_set_same r1_2)
  simp only [List.setIfInBounds_toArray, List.set_cons_zero, List.set_cons_succ] at r2_2
  have q2_0_0 := cell_of_row _ _ 0 _ _ _ r2_0
  have q2_0_1 := cell_of_row _ _ 1 _ _ _ r2_0
  have q2_0_2 := cell_of_row _ _ 2 _ _ _ r2_0
  have q2_0_3 := cell_of_row _ _ 3 _ _ _ r2_0
  simp only [List.getElem?_toArray, List.getElem?_cons_zero, List.getElem?_cons_succ] at q2_0_0 q2_0_1 q2_0_2 q2_0_3
  have f2_0 := fz_of_row r2_0
  have q2_1_0 := cell_of_row _ _ 0 _ _ _ r2_1
  have q2_1_1 := cell_of_row _ _ 1 _ _ _ r2_1
  have q2_1_2 := cell_of_row _ _ 2 _ _ _ r2_1
  have q2_1_3 := cell_of_row _ _ 3 _ _ _ r2_1
  simp only [List.getElem?_toArray, List.getElem?_cons_zero, List.getElem?_cons_succ] at q2_1_0 q2_1_1 q2_1_2 q2_1_3
  have f2_1 := fz_of_row r2_1
  have q2_2_0 := cell_of_row _ _ 0 _ _ _ r2_2
  have q2_2_1 := cell_of_row _ _ 1 _ _ _ r2_2
  have q2_2_2 := cell_of_row _ _ 2 _ _ _ r2_2
  have q2_2_3 := cell_of_row _ _ 3 _ _ _ r2_2
  simp only [List.getElem?_toArray, List.getElem?_cons_zero, List.getElem?_cons_succ] at q2_2_0 q2_2_1 q2_2_2 q2_2_3
  have f2_2 := fz_of_row r2_2
  clear r1_0 f1_0 q1_0_0 q1_0_1 q1_0_2 q1_0_3 r1_1 f1_1 q1_1_0 q1_1_1 q1_1_2 q1_1_3 r1_2 f1_2 q1_2_0 q1_2_1 q1_2_2 q1_2_3
  clear hb2
  go_wp2_with fail
  have HG : ∀ W', Abv (w.heap.size + 3) w2 W' → TN W' (GCore.enc x) (d1 ++ d2) [.int .i64 x.kind, .int .i64 x.value, .slice A1 x.data.length a1, .slice A2 x.kids.length a2] ∧ Own w.heap.size W' (d1 ++ d2) := by
    intro W' hW
    have k2 := hW
    have k1 := g2.trans k2
    have s_1 : w1.heap.size ≤ w2.heap.size := g2.1
    have ht := GCore.mk_ (w := W') (x := x) (y1.abv k1 o1.ge) (y2.abv k2 (fun b hb => Nat.le_trans (by omega) (o2.ge b hb)))
    have p1 : Own w.heap.size W' d1 := (o1.abv k1 (by omega)).mono (by omega)
    have l1 : ∀ b ∈ d1, b < w1.heap.size := o1.lt
    have p2 : Own w.heap.size W' (d1 ++ d2) := Own.append p1 (fun b hb => Nat.lt_of_lt_of_le (l1 b hb) (by omega)) (o2.abv k2 (by omega)) (by omega)
    have l2 : ∀ b ∈ d1 ++ d2, b < w2.heap.size := fun b hb => (List.mem_append.1 hb).elim (fun h => Nat.lt_of_lt_of_le (l1 b h) (by omega)) (o2.lt b)
    exact ⟨by simpa [List.append_assoc] using ht, p2⟩
  refine bodyPost_ret (v := .agg #[.int .i64 x.kind, .int .i64 x.value, .slice A1 x.data.length a1, .slice A2 x.kids.length a2]) (by simp [results, Tryz.results9, go_sem, q2_1_0, q2_1_1, q2_1_2, q2_1_3]) rfl ?_
  refine ⟨_, _, rfl, ?_, HG _ ?_⟩
  · repeat (refine Below.setCell ?_ (by simp <;> omega) _)
    exact B2
  · repeat (refine Abv.setCell ?_ (by simp <;> omega) _)
    exact Abv.refl _ _
set_option maxHeartbeats 2000000 in
theorem toCoreS_of (N : Nat) (IH : ToKidP N) (xs : List GCore) (hN : sizL xs 0 ≤ N) {A : Option Addr} {c : Nat} {b1} (w : World) (hx : T1 w (.sl xs.length (xs.flatMap GCore.enc)) b1 (.slice A xs.length c)) (hs : xs.length ≤ 1048576 ∧ ∀ y ∈ xs, GCore.small y) :
    Calls Tryz.prog 26 #[.slice A xs.length c] w fun e w' => ∃ A' c' bs, e = .returned (.slice A' xs.length c') ∧ Below w.heap.size w w' ∧ T1 w' (.sl xs.length (xs.flatMap GCore.enc)) bs (.slice A' xs.length c') ∧ Own w.heap.size w' bs := by
  have hs1 := Lib.hid hs
  have hn' : xs.length ≤ 1048576 := hs.1
  clear hs
  have hn : Hid (xs.length = xs.length) := rfl
  generalize hl : xs.length = n at hx hn' hn ⊢
  replace hn : Hid (xs.length = n) := hl
  clear hl
  obtain ⟨M, hms, hmk, hsz'⟩ := make_fresh (P := Tryz.prog) (t := 30) (e := 32) (s := 4) (by kernel_rfl) Tryz.underlying30 hn'
  have hsz := hsz'
  have Hms := Lib.hid hms
  clear hsz' hms
  go_enter Tryz.func26, Tryz.ntmps26
  go_wp2_with fail
  go_loopw [4] (fun i w' => ∃ k : Nat, k ≤ n ∧ i = .int .i64 k ∧ Below w.heap.size w w' ∧ ∃ bs us, RowAt w' w.heap.size 32 n 4 us ∧ us.length = k * 4 ∧ TN w' ((xs.take k).flatMap GCore.enc) bs us ∧ Own (w.heap.size + 1) w' bs) (fun i _ => n - (intOf i).toNat)
  case atStart => exact ⟨0, by omega, rfl, (Below.refl _ _).alloc (Nat.le_refl _) _, [], [], RowAt.new _ _ 32 n 4 Hms.out, by simp, by simpa using TN.done, Own.nil _ _⟩
  case round =>
    obtain ⟨k, hk, rfl, hb, bs, us, hrow, hul, ht, ho⟩ := hrel
    by_cases hlt : k < n
    · obtain ⟨ba, oa, x, Ax2, cx2, px2, Ax3, cx3, px3, rfl, hba, hxk, x0, x1, x2, x3, tx2, lx2, mx2, tx3, lx3, mx3⟩ := GCore.get_ (hx.below hb) hn.out hlt
      have nx := GCore.mk_ (w := wr) (x := x) tx2 tx3
      have hul' := Lib.hid hul
      clear hul
      go_wp2_with fail
      refine (toCore_of N IH x (memLe hxk.out hN) _ nx (hs1.out.2 x (List.mem_of_getElem? hxk.out))).mono ?_
      rintro e w1 ⟨vs, ds, rfl, hb1, hy, oy⟩
      have hvl : vs.toArray.size = 4 := by have := hy.length; simpa [GCore.enc] using this
      have hv1 : vs.all (·.oneCell') = true := hy.oneC
      have hT := TN.append.2 ⟨bs, _, us, vs, rfl, rfl, ht.below hb1, hy⟩
      have hO : Own (w.heap.size + 1) w1 (bs ++ ds) := Own.append (ho.below hb1) ho.lt oy (by have := hrow.lt; omega)
      go_wp2_with (refine wpList_store_next rfl 32 (.tmp 21) (.tmp 20) rfl w.heap.size 32 n 4 k us (.agg vs.toArray) (by first | rfl | (rw [Nat.mul_one]; rfl)) rfl (hrow.below hb1) hul'.out hlt hsz.h hvl (by simpa [Value.cells] using hv1) ?_; intro w2 hr2 hb2 hs2 ho2)
      have hbt : But w.heap.size w1 w2 := ⟨hb2.os, hb2.tape, hb2.output, hb2.size, fun j _ hj => ho2 j hj⟩
      go_roundw
      case rel => exact ⟨k+1, by omega, by go_num, (hb.trans (hb1.mono hb.size)).trans hb2, _, _, hr2, by have := hvl; simp [hul'.out, Value.cells, Nat.add_mul] at this ⊢; omega, by rw [flat_snoc GCore.enc hxk]; exact hT.but hbt (hO.notin (by omega)), hO.but hbt (hO.notin (by omega))⟩
      case measure => simp [intOf]; omega
    · have : k = n := by omega
      subst this
      go_wp2_with fail
      go_ret
      rw [List.take_of_length_le (by rw [hn.out]; exact Nat.le_refl _)] at ht
      rcases Nat.eq_zero_or_pos k with h0 | h0
      · subst h0
        have : xs = [] := List.eq_nil_of_length_eq_zero hn.out
        subst this
        exact ⟨_, _, [], rfl, hb, T1.empty _, Own.nil _ _⟩
      · obtain ⟨cur, t', hg⟩ := hrow.own
        exact ⟨_, _, w.heap.size :: bs, rfl, hb, T1.of_row hrow h0 (by unfold maxLen; omega) ht, Own.cons hg (Nat.le_refl _) ho⟩
theorem toKid_all : ∀ N : Nat, ToKidP N
  | 0 => fun xs h => absurd h (Nat.not_lt_zero _)
  | N + 1 => fun xs h => by
    rw [GCore.enc_eq, GCore.small_eq]
    exact toCoreS_of N (toKid_all N) xs (Nat.le_of_lt_succ h)
theorem toCore_any (x : GCore) {b us} (w : World) (hx : TN w (GCore.enc x) b us) (hs : (GCore.small x)) :
    Calls Tryz.prog 9 #[.agg us.toArray] w fun e w' => ∃ vs bs, e = .returned (.agg vs.toArray) ∧ Below w.heap.size w w' ∧ TN w' (GCore.enc x) bs vs ∧ Own w.heap.size w' bs := toCore_of (sizT x) (toKid_all _) x (Nat.le_refl _) w hx hs
theorem toCoreS_any (xs : List GCore) {A : Option Addr} {c : Nat} {b1} (w : World) (hx : T1 w (.sl xs.length (xs.flatMap GCore.enc)) b1 (.slice A xs.length c)) (hs : xs.length ≤ 1048576 ∧ ∀ y ∈ xs, GCore.small y) :
    Calls Tryz.prog 26 #[.slice A xs.length c] w fun e w' => ∃ A' c' bs, e = .returned (.slice A' xs.length c') ∧ Below w.heap.size w w' ∧ T1 w' (.sl xs.length (xs.flatMap GCore.enc)) bs (.slice A' xs.length c') ∧ Own w.heap.size w' bs := toCoreS_of (sizL xs 0) (toKid_all _) xs (Nat.le_refl _) w hx hs
set_option maxHeartbeats 4000000 in
theorem toBook_any (x : GBook) {b us} (w : World) (hx : TN w x.enc b us) (hs : x.small) :
    Calls Tryz.prog 8 #[.agg us.toArray] w fun e w' => ∃ vs bs, e = .returned (.agg vs.toArray) ∧ Below w.heap.size w w' ∧ TN w' x.enc bs vs ∧ Own w.heap.size w' bs := by
  obtain ⟨Ax0, cx0, bx0, rfl, rfl, tx0, lx0, mx0⟩ := GBook.us hx
  have s0 := hs
  go_enter Tryz.func8, Tryz.ntmps8
  have B0 : ∀ S Z O, Below w.heap.size w (((w.alloc S).alloc Z).alloc O) := fun _ _ _ => (((Below.refl _ _).alloc (Nat.le_refl _) _).alloc (by simp) _).alloc (by simp; omega) _
  go_wp2_with fail
  refine (toCoreS_any x.defs _ (tx0.below (B0 _ _ _)) s0).mono ?_
  rintro e w1 ⟨A1, a1, d1, rfl, hb1, y1, o1⟩
  have z1 : w.heap.size + 2 < w1.heap.size := by have := hb1.size; simp at this; omega
  have B1 : Below w.heap.size w w1 := Below.trans (B0 _ _ _) (hb1.mono (by simp <;> omega))
  replace o1 : Own (w.heap.size + 3) w1 d1 := by simpa using o1
  have r1_0 := (hb1.block w.heap.size (by simp <;> omega)).trans (rows3 w _ _ _).1
  have r1_1 := (hb1.block (w.heap.size + 1) (by simp <;> omega)).trans (rows3 w _ _ _).2.1
  have r1_2 := (hb1.block (w.heap.size + 1 + 1) (by simp <;> omega)).trans (rows3 w _ _ _).2.2
  have q1_0_0 := cell_of_row _ _ 0 _ _ _ r1_0
  simp only [List.getElem?_toArray, List.getElem?_cons_zero, List.getElem?_cons_succ] at q1_0_0
  have f1_0 := fz_of_row r1_0
  have q1_1_0 := cell_of_row _ _ 0 _ _ _ r1_1
  simp only [List.getElem?_toArray, List.getElem?_cons_zero, List.getElem?_cons_succ] at q1_1_0
  have f1_1 := fz_of_row r1_1
  have q1_2_0 := cell_of_row _ _ 0 _ _ _ r1_2
  simp only [List.getElem?_toArray, List.getElem?_cons_zero, List.getElem?_cons_succ] at q1_2_0
  have f1_2 := fz_of_row r1_2
  clear hb1
  go_wp2_with fail
  have HG : ∀ W', Abv (w.heap.size + 3) w1 W' → TN W' x.enc (d1) [.slice A1 x.defs.length a1] ∧ Own w.heap.size W' (d1) := by
    intro W' hW
    have k1 := hW
    have ht := GBook.mk_ (w := W') (x := x) (y1.abv k1 o1.ge)
    have p1 : Own w.heap.size W' d1 := (o1.abv k1 (by omega)).mono (by omega)
    have l1 : ∀ b ∈ d1, b < w1.heap.size := o1.lt
    exact ⟨by simpa [List.append_assoc] using ht, p1⟩
  refine bodyPost_ret (v := .agg #[.slice A1 x.defs.length a1]) (by simp [results, Tryz.results8, go_sem, q1_1_0]) rfl ?_
  refine ⟨_, _, rfl, ?_, HG _ ?_⟩
  · repeat (refine Below.setCell ?_ (by simp <;> omega) _)
    exact B1
  · repeat (refine Abv.setCell ?_ (by simp <;> omega) _)
    exact Abv.refl _ _

end Go.Proofs.YtieemijapiiiiaaGreat
