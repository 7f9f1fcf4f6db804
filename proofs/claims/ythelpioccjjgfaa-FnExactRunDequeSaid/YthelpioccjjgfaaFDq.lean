/- The helpers of the statements for these types: equal, copied, counted. Printed by gen_fam.py. -/
import Derived.Test.YthelpioccjjgfaaProg
import Derived.Test.YthelpioccjjgfaaDDq
set_option linter.unusedSimpArgs false
set_option linter.unusedVariables false
namespace Go.Proofs.Ythelpioccjjgfaa
open Go Go.RowKit Go.Proofs Go.Tr

set_option maxHeartbeats 1000000 in
theorem eqInt64S_any (xs ys : List Int) {A B : Option Addr} {c d : Nat} {b1 b2} (w : World) (hx : T1 w (.sl xs.length (xs.flatMap intE)) b1 (.slice A xs.length c)) (hy : T1 w (.sl ys.length (ys.flatMap intE)) b2 (.slice B ys.length d)) (hn' : xs.length ≤ maxLen) (hm' : ys.length ≤ maxLen) :
    Calls Try.prog 56 #[.slice A xs.length c, .slice B ys.length d] w fun e w' => e = .returned (.bool (eqb xs ys)) ∧ Below w.heap.size w w' := by
  unfold maxLen at hn' hm'
  by_cases hnm : xs.length = ys.length
  · obtain ⟨n, hn0⟩ : ∃ n, ys.length = n := ⟨_, rfl⟩
    rw [hn0] at hnm
    have hn : Hid (xs.length = n) := hnm
    have hm : Hid (ys.length = n) := hn0
    rw [hnm] at hx hn' ⊢
    rw [hn0] at hy hm' ⊢
    clear hnm hn0
    go_enter Try.func56, Try.ntmps56
    go_wp2_with fail
    go_loopw [5] (fun i w' => ∃ k : Nat, k ≤ n ∧ i = .int .i64 k ∧ Hid (xs.take k = ys.take k) ∧ Below w.heap.size w w') (fun i _ => n - (intOf i).toNat)
    case atStart => exact ⟨0, Nat.zero_le _, rfl, rfl, Below.refl _ _⟩
    case round =>
      obtain ⟨k, hk, rfl, ht, hb⟩ := hrel
      by_cases hlt : k < n
      · obtain ⟨ba, oa, x, rfl, _, hba, hxk, x0⟩ := intE_at (hx.below hb) hn.out hlt
        obtain ⟨bb, ob, y, rfl, _, hbb, hyk, y0⟩ := intE_at (hy.below hb) hm.out hlt
        cases hd : (x != y)
        case true =>
          go_wp2_with fail
          go_quiet (fail)
          go_wp2_with fail
          go_ret
          exact ⟨by rw [eqb_f (ne_at hxk hyk (by rintro rfl; simp at hd))]; rfl, hb.drewN _⟩
        go_wp2_with fail
        go_quiet (fail)
        go_wp2_with fail
        exact ⟨⟨k+1, by omega, by go_num, take_eq_snoc ht hxk hyk (by simpa using hd), hb.drewN _⟩, by simp [intOf]; omega⟩
      · have : k = n := by omega
        subst this
        go_wp2_with fail
        go_ret
        exact ⟨by rw [eqb_of (take_eq_all ht hn hm)]; rfl, hb⟩
  · have hne := eqb_f (ne_len (xs := xs) (ys := ys) rfl rfl hnm)
    generalize xs.length = n at *
    generalize ys.length = m at *
    go_enter Try.func56, Try.ntmps56
    go_wp2_with fail
    go_ret
    exact ⟨by rw [hne]; rfl, Below.refl _ _⟩

set_option maxHeartbeats 2000000 in
theorem eqDequeActor_any (x y : GDequeActor) {b1 b2 us vs} (w : World) (hx : TN w x.enc b1 us) (hy : TN w y.enc b2 vs) :
    Calls Try.prog 214 #[.agg us.toArray, .agg vs.toArray] w fun e w' => e = .returned (.bool (eqb x y)) ∧ Below w.heap.size w w' := by
  obtain ⟨Ax0, cx0, bx0, rfl, rfl, tx0, lx0, mx0⟩ := GDequeActor.us hx
  obtain ⟨Ay0, cy0, by0, rfl, rfl, ty0, ly0, my0⟩ := GDequeActor.us hy
  have HB := ((Below.refl w.heap.size w).alloc (Nat.le_refl _) (.cells #[.slice Ax0 x.todo.length cx0, .int .i64 x.pc, .int .i64 x.t, .int .i64 x.b, .int .i64 x.x] 119)).alloc (by simp) (.cells #[.slice Ay0 y.todo.length cy0, .int .i64 y.pc, .int .i64 y.t, .int .i64 y.b, .int .i64 y.x] 119)
  go_enter Try.func214, Try.ntmps214
  have sx0 := tx0.below HB
  have sy0 := ty0.below HB
  go_wp2_with fail
  refine (eqInt64S_any x.todo y.todo _ sx0 sy0 (Nat.le_trans lx0 mx0) (Nat.le_trans ly0 my0)).mono ?_
  rintro e w1 ⟨rfl, hb1⟩
  have B1 := HB.trans (hb1.mono HB.size)
  obtain ⟨hc1, hf1⟩ := bcell hb1
  have hz1 : w.heap.size + 1 < w1.heap.size := by have := hb1.size; simp at this; omega
  have ha1 := fun o => hc1 w.heap.size o (by first | (simp; done) | (simp; omega))
  have he1 := fun o => hc1 (w.heap.size + 1) o (by first | (simp; done) | (simp; omega))
  have hg1 := fun o => hf1 w.heap.size o (by first | (simp; done) | (simp; omega))
  have hi1 := fun o => hf1 (w.heap.size + 1) o (by first | (simp; done) | (simp; omega))
  clear hc1 hf1
  clear hb1
  cases hq0 : eqb x.todo y.todo
  case false =>
    go_wp2_with fail
    go_ret
    exact ⟨by rw [eqb_f (fun e => by rw [e] at hq0; exact absurd hq0 (by simp [eqb_self]))]; rfl, B1⟩
  cases hq1 : (x.pc != y.pc)
  case true =>
    go_wp2_with fail
    go_ret
    exact ⟨by rw [eqb_f (fun e => by rw [e] at hq1; simp at hq1)]; rfl, B1⟩
  cases hq2 : (x.t != y.t)
  case true =>
    go_wp2_with fail
    go_ret
    exact ⟨by rw [eqb_f (fun e => by rw [e] at hq2; simp at hq2)]; rfl, B1⟩
  cases hq3 : (x.b != y.b)
  case true =>
    go_wp2_with fail
    go_ret
    exact ⟨by rw [eqb_f (fun e => by rw [e] at hq3; simp at hq3)]; rfl, B1⟩
  cases hq4 : (x.x != y.x)
  case true =>
    go_wp2_with fail
    go_ret
    exact ⟨by rw [eqb_f (fun e => by rw [e] at hq4; simp at hq4)]; rfl, B1⟩
  go_wp2_with fail
  go_ret
  refine ⟨?_, B1⟩
  have hxy : x = y := GDequeActor.ext_ (eqb_t hq0) (show x.pc = y.pc by simpa using hq1) (show x.t = y.t by simpa using hq2) (show x.b = y.b by simpa using hq3) (show x.x = y.x by simpa using hq4)
  rw [eqb_of hxy]
  rfl

set_option maxHeartbeats 2000000 in
theorem eqHanded_any (x y : GHanded) {b1 b2 us vs} (w : World) (hx : TN w x.enc b1 us) (hy : TN w y.enc b2 vs) :
    Calls Try.prog 215 #[.agg us.toArray, .agg vs.toArray] w fun e w' => e = .returned (.bool (eqb x y)) ∧ Below w.heap.size w w' := by
  obtain ⟨rfl, rfl⟩ := GHanded.us hx
  obtain ⟨rfl, rfl⟩ := GHanded.us hy
  have HB := ((Below.refl w.heap.size w).alloc (Nat.le_refl _) (.cells #[.int .i64 x.actor, .int .i64 x.value] 36)).alloc (by simp) (.cells #[.int .i64 y.actor, .int .i64 y.value] 36)
  go_enter Try.func215, Try.ntmps215
  cases hq0 : (x.actor != y.actor)
  case true =>
    go_wp2_with fail
    go_ret
    exact ⟨by rw [eqb_f (fun e => by rw [e] at hq0; simp at hq0)]; rfl, HB⟩
  cases hq1 : (x.value != y.value)
  case true =>
    go_wp2_with fail
    go_ret
    exact ⟨by rw [eqb_f (fun e => by rw [e] at hq1; simp at hq1)]; rfl, HB⟩
  go_wp2_with fail
  go_ret
  refine ⟨?_, HB⟩
  have hxy : x = y := GHanded.ext_ (show x.actor = y.actor by simpa using hq0) (show x.value = y.value by simpa using hq1)
  rw [eqb_of hxy]
  rfl

set_option maxHeartbeats 1000000 in
theorem eqDequeActorS_any (xs ys : List GDequeActor) {A B : Option Addr} {c d : Nat} {b1 b2} (w : World) (hx : T1 w (.sl xs.length (xs.flatMap GDequeActor.enc)) b1 (.slice A xs.length c)) (hy : T1 w (.sl ys.length (ys.flatMap GDequeActor.enc)) b2 (.slice B ys.length d)) (hn' : xs.length ≤ maxLen) (hm' : ys.length ≤ maxLen) :
    Calls Try.prog 140 #[.slice A xs.length c, .slice B ys.length d] w fun e w' => e = .returned (.bool (eqb xs ys)) ∧ Below w.heap.size w w' := by
  unfold maxLen at hn' hm'
  by_cases hnm : xs.length = ys.length
  · obtain ⟨n, hn0⟩ : ∃ n, ys.length = n := ⟨_, rfl⟩
    rw [hn0] at hnm
    have hn : Hid (xs.length = n) := hnm
    have hm : Hid (ys.length = n) := hn0
    rw [hnm] at hx hn' ⊢
    rw [hn0] at hy hm' ⊢
    clear hnm hn0
    go_enter Try.func140, Try.ntmps140
    go_wp2_with fail
    go_loopw [5] (fun i w' => ∃ k : Nat, k ≤ n ∧ i = .int .i64 k ∧ Hid (xs.take k = ys.take k) ∧ Below w.heap.size w w') (fun i _ => n - (intOf i).toNat)
    case atStart => exact ⟨0, Nat.zero_le _, rfl, rfl, Below.refl _ _⟩
    case round =>
      obtain ⟨k, hk, rfl, ht, hb⟩ := hrel
      by_cases hlt : k < n
      · obtain ⟨ba, oa, x, Ax0, cx0, px0, rfl, hba, hxk, x0, x1, x2, x3, x4, tx0, lx0, mx0⟩ := GDequeActor.get_ (hx.below hb) hn.out hlt
        obtain ⟨bb, ob, y, Ay0, cy0, py0, rfl, hbb, hyk, y0, y1, y2, y3, y4, ty0, ly0, my0⟩ := GDequeActor.get_ (hy.below hb) hm.out hlt
        have nx := GDequeActor.mk_ (w := wr) (x := x) tx0
        have ny := GDequeActor.mk_ (w := wr) (x := y) ty0
        cases hd : eqb x y
        case false =>
          have hcall := fun e : ExtOf wr => eqDequeActor_any x y _ (nx.below e.h) (ny.below e.h)
          rw [hd] at hcall
          have HC := Lib.hid hcall
          clear hcall
          go_wp2_with fail
          have hext := ExtOf.cell (w := wr)
          refine wp_region_ext_lit (by kernel_rfl) (by kernel_rfl) ?_
          repeat (go_big_quiet_step (exact Calls.quiet_ext (HC.out _)))
          refine wpQuiet_nil ?_
          rintro _ ⟨e, rfl⟩
          have hbe := hb.trans (e.h.mono hb.size)
          clear hext
          go_wp2_with fail
          go_ret
          exact ⟨by rw [eqb_f (ne_at hxk hyk (eqb_nf hd))]; rfl, hbe⟩
        have hcall := fun e : ExtOf wr => eqDequeActor_any x y _ (nx.below e.h) (ny.below e.h)
        rw [hd] at hcall
        have HC := Lib.hid hcall
        clear hcall
        go_wp2_with fail
        have hext := ExtOf.cell (w := wr)
        refine wp_region_ext_lit (by kernel_rfl) (by kernel_rfl) ?_
        repeat (go_big_quiet_step (exact Calls.quiet_ext (HC.out _)))
        refine wpQuiet_nil ?_
        rintro _ ⟨e, rfl⟩
        have hbe := hb.trans (e.h.mono hb.size)
        clear hext
        go_wp2_with fail
        exact ⟨⟨k+1, by omega, by go_num, take_eq_snoc ht hxk hyk (eqb_t hd), hbe⟩, by simp [intOf]; omega⟩
      · have : k = n := by omega
        subst this
        go_wp2_with fail
        go_ret
        exact ⟨by rw [eqb_of (take_eq_all ht hn hm)]; rfl, hb⟩
  · have hne := eqb_f (ne_len (xs := xs) (ys := ys) rfl rfl hnm)
    generalize xs.length = n at *
    generalize ys.length = m at *
    go_enter Try.func140, Try.ntmps140
    go_wp2_with fail
    go_ret
    exact ⟨by rw [hne]; rfl, Below.refl _ _⟩

set_option maxHeartbeats 1000000 in
theorem eqHandedS_any (xs ys : List GHanded) {A B : Option Addr} {c d : Nat} {b1 b2} (w : World) (hx : T1 w (.sl xs.length (xs.flatMap GHanded.enc)) b1 (.slice A xs.length c)) (hy : T1 w (.sl ys.length (ys.flatMap GHanded.enc)) b2 (.slice B ys.length d)) (hn' : xs.length ≤ maxLen) (hm' : ys.length ≤ maxLen) :
    Calls Try.prog 141 #[.slice A xs.length c, .slice B ys.length d] w fun e w' => e = .returned (.bool (eqb xs ys)) ∧ Below w.heap.size w w' := by
  unfold maxLen at hn' hm'
  by_cases hnm : xs.length = ys.length
  · obtain ⟨n, hn0⟩ : ∃ n, ys.length = n := ⟨_, rfl⟩
    rw [hn0] at hnm
    have hn : Hid (xs.length = n) := hnm
    have hm : Hid (ys.length = n) := hn0
    rw [hnm] at hx hn' ⊢
    rw [hn0] at hy hm' ⊢
    clear hnm hn0
    go_enter Try.func141, Try.ntmps141
    go_wp2_with fail
    go_loopw [5] (fun i w' => ∃ k : Nat, k ≤ n ∧ i = .int .i64 k ∧ Hid (xs.take k = ys.take k) ∧ Below w.heap.size w w') (fun i _ => n - (intOf i).toNat)
    case atStart => exact ⟨0, Nat.zero_le _, rfl, rfl, Below.refl _ _⟩
    case round =>
      obtain ⟨k, hk, rfl, ht, hb⟩ := hrel
      by_cases hlt : k < n
      · obtain ⟨ba, oa, x, rfl, hba, hxk, x0, x1⟩ := GHanded.get_ (hx.below hb) hn.out hlt
        obtain ⟨bb, ob, y, rfl, hbb, hyk, y0, y1⟩ := GHanded.get_ (hy.below hb) hm.out hlt
        have nx := GHanded.mk_ (w := wr) (x := x)
        have ny := GHanded.mk_ (w := wr) (x := y)
        cases hd : eqb x y
        case false =>
          have hcall := fun e : ExtOf wr => eqHanded_any x y _ (nx.below e.h) (ny.below e.h)
          rw [hd] at hcall
          have HC := Lib.hid hcall
          clear hcall
          go_wp2_with fail
          have hext := ExtOf.cell (w := wr)
          refine wp_region_ext_lit (by kernel_rfl) (by kernel_rfl) ?_
          repeat (go_big_quiet_step (exact Calls.quiet_ext (HC.out _)))
          refine wpQuiet_nil ?_
          rintro _ ⟨e, rfl⟩
          have hbe := hb.trans (e.h.mono hb.size)
          clear hext
          go_wp2_with fail
          go_ret
          exact ⟨by rw [eqb_f (ne_at hxk hyk (eqb_nf hd))]; rfl, hbe⟩
        have hcall := fun e : ExtOf wr => eqHanded_any x y _ (nx.below e.h) (ny.below e.h)
        rw [hd] at hcall
        have HC := Lib.hid hcall
        clear hcall
        go_wp2_with fail
        have hext := ExtOf.cell (w := wr)
        refine wp_region_ext_lit (by kernel_rfl) (by kernel_rfl) ?_
        repeat (go_big_quiet_step (exact Calls.quiet_ext (HC.out _)))
        refine wpQuiet_nil ?_
        rintro _ ⟨e, rfl⟩
        have hbe := hb.trans (e.h.mono hb.size)
        clear hext
        go_wp2_with fail
        exact ⟨⟨k+1, by omega, by go_num, take_eq_snoc ht hxk hyk (eqb_t hd), hbe⟩, by simp [intOf]; omega⟩
      · have : k = n := by omega
        subst this
        go_wp2_with fail
        go_ret
        exact ⟨by rw [eqb_of (take_eq_all ht hn hm)]; rfl, hb⟩
  · have hne := eqb_f (ne_len (xs := xs) (ys := ys) rfl rfl hnm)
    generalize xs.length = n at *
    generalize ys.length = m at *
    go_enter Try.func141, Try.ntmps141
    go_wp2_with fail
    go_ret
    exact ⟨by rw [hne]; rfl, Below.refl _ _⟩

set_option maxHeartbeats 2000000 in
theorem eqDeque_any (x y : GDeque) {b1 b2 us vs} (w : World) (hx : TN w x.enc b1 us) (hy : TN w y.enc b2 vs) :
    Calls Try.prog 51 #[.agg us.toArray, .agg vs.toArray] w fun e w' => e = .returned (.bool (eqb x y)) ∧ Below w.heap.size w w' := by
  obtain ⟨Ax2, cx2, bx2, Ax3, cx3, bx3, Ax4, cx4, bx4, Ax5, cx5, bx5, rfl, rfl, tx2, lx2, mx2, tx3, lx3, mx3, tx4, lx4, mx4, tx5, lx5, mx5⟩ := GDeque.us hx
  obtain ⟨Ay2, cy2, by2, Ay3, cy3, by3, Ay4, cy4, by4, Ay5, cy5, by5, rfl, rfl, ty2, ly2, my2, ty3, ly3, my3, ty4, ly4, my4, ty5, ly5, my5⟩ := GDeque.us hy
  have HB := ((Below.refl w.heap.size w).alloc (Nat.le_refl _) (.cells #[.int .i64 x.top, .int .i64 x.bottom, .slice Ax2 x.buffer.length cx2, .slice Ax3 x.actors.length cx3, .slice Ax4 x.taken.length cx4, .slice Ax5 x.refused.length cx5] 30)).alloc (by simp) (.cells #[.int .i64 y.top, .int .i64 y.bottom, .slice Ay2 y.buffer.length cy2, .slice Ay3 y.actors.length cy3, .slice Ay4 y.taken.length cy4, .slice Ay5 y.refused.length cy5] 30)
  go_enter Try.func51, Try.ntmps51
  cases hq0 : (x.top != y.top)
  case true =>
    go_wp2_with fail
    go_ret
    exact ⟨by rw [eqb_f (fun e => by rw [e] at hq0; simp at hq0)]; rfl, HB⟩
  cases hq1 : (x.bottom != y.bottom)
  case true =>
    go_wp2_with fail
    go_ret
    exact ⟨by rw [eqb_f (fun e => by rw [e] at hq1; simp at hq1)]; rfl, HB⟩
  have sx2 := tx2.below HB
  have sy2 := ty2.below HB
  go_wp2_with fail
  refine (eqInt64S_any x.buffer y.buffer _ sx2 sy2 (Nat.le_trans lx2 mx2) (Nat.le_trans ly2 my2)).mono ?_
  rintro e w1 ⟨rfl, hb1⟩
  have B1 := HB.trans (hb1.mono HB.size)
  obtain ⟨hc1, hf1⟩ := bcell hb1
  have hz1 : w.heap.size + 1 < w1.heap.size := by have := hb1.size; simp at this; omega
  have ha1 := fun o => hc1 w.heap.size o (by first | (simp; done) | (simp; omega))
  have he1 := fun o => hc1 (w.heap.size + 1) o (by first | (simp; done) | (simp; omega))
  have hg1 := fun o => hf1 w.heap.size o (by first | (simp; done) | (simp; omega))
  have hi1 := fun o => hf1 (w.heap.size + 1) o (by first | (simp; done) | (simp; omega))
  clear hc1 hf1
  clear hb1
  cases hq2 : eqb x.buffer y.buffer
  case false =>
    go_wp2_with fail
    go_ret
    exact ⟨by rw [eqb_f (fun e => by rw [e] at hq2; exact absurd hq2 (by simp [eqb_self]))]; rfl, B1⟩
  have sx3 := tx3.below B1
  have sy3 := ty3.below B1
  go_wp2_with fail
  refine (eqDequeActorS_any x.actors y.actors _ sx3 sy3 (Nat.le_trans lx3 mx3) (Nat.le_trans ly3 my3)).mono ?_
  rintro e w2 ⟨rfl, hb2⟩
  have B2 := B1.trans (hb2.mono B1.size)
  obtain ⟨hc2, hf2⟩ := bcell hb2
  have hz2 : w.heap.size + 1 < w2.heap.size := by have := hb2.size; omega
  have ha2 := fun o => (hc2 w.heap.size o (by omega)).trans (ha1 o)
  have he2 := fun o => (hc2 (w.heap.size + 1) o (by omega)).trans (he1 o)
  have hg2 := fun o => (hf2 w.heap.size o (by omega)).trans (hg1 o)
  have hi2 := fun o => (hf2 (w.heap.size + 1) o (by omega)).trans (hi1 o)
  clear hc2 hf2
  clear hb2
  cases hq3 : eqb x.actors y.actors
  case false =>
    go_wp2_with fail
    go_ret
    exact ⟨by rw [eqb_f (fun e => by rw [e] at hq3; exact absurd hq3 (by simp [eqb_self]))]; rfl, B2⟩
  have sx4 := tx4.below B2
  have sy4 := ty4.below B2
  go_wp2_with fail
  refine (eqHandedS_any x.taken y.taken _ sx4 sy4 (Nat.le_trans lx4 mx4) (Nat.le_trans ly4 my4)).mono ?_
  rintro e w3 ⟨rfl, hb3⟩
  have B3 := B2.trans (hb3.mono B2.size)
  obtain ⟨hc3, hf3⟩ := bcell hb3
  have hz3 : w.heap.size + 1 < w3.heap.size := by have := hb3.size; omega
  have ha3 := fun o => (hc3 w.heap.size o (by omega)).trans (ha2 o)
  have he3 := fun o => (hc3 (w.heap.size + 1) o (by omega)).trans (he2 o)
  have hg3 := fun o => (hf3 w.heap.size o (by omega)).trans (hg2 o)
  have hi3 := fun o => (hf3 (w.heap.size + 1) o (by omega)).trans (hi2 o)
  clear hc3 hf3
  clear hb3
  cases hq4 : eqb x.taken y.taken
  case false =>
    go_wp2_with fail
    go_ret
    exact ⟨by rw [eqb_f (fun e => by rw [e] at hq4; exact absurd hq4 (by simp [eqb_self]))]; rfl, B3⟩
  have sx5 := tx5.below B3
  have sy5 := ty5.below B3
  go_wp2_with fail
  refine (eqInt64S_any x.refused y.refused _ sx5 sy5 (Nat.le_trans lx5 mx5) (Nat.le_trans ly5 my5)).mono ?_
  rintro e w4 ⟨rfl, hb4⟩
  have B4 := B3.trans (hb4.mono B3.size)
  obtain ⟨hc4, hf4⟩ := bcell hb4
  have hz4 : w.heap.size + 1 < w4.heap.size := by have := hb4.size; omega
  have ha4 := fun o => (hc4 w.heap.size o (by omega)).trans (ha3 o)
  have he4 := fun o => (hc4 (w.heap.size + 1) o (by omega)).trans (he3 o)
  have hg4 := fun o => (hf4 w.heap.size o (by omega)).trans (hg3 o)
  have hi4 := fun o => (hf4 (w.heap.size + 1) o (by omega)).trans (hi3 o)
  clear hc4 hf4
  clear hb4
  cases hq5 : eqb x.refused y.refused
  case false =>
    go_wp2_with fail
    go_ret
    exact ⟨by rw [eqb_f (fun e => by rw [e] at hq5; exact absurd hq5 (by simp [eqb_self]))]; rfl, B4⟩
  go_wp2_with fail
  go_ret
  refine ⟨?_, B4⟩
  have hxy : x = y := GDeque.ext_ (show x.top = y.top by simpa using hq0) (show x.bottom = y.bottom by simpa using hq1) (eqb_t hq2) (eqb_t hq3) (eqb_t hq4) (eqb_t hq5)
  rw [eqb_of hxy]
  rfl

end Go.Proofs.Ythelpioccjjgfaa
