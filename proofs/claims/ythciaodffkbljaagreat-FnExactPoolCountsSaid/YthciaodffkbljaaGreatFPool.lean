/- The helpers of the statements for these types: equal, copied, counted. Printed by gen_fam.py. -/
import Derived.Test.YthciaodffkbljaaGreatProg
import Derived.Test.YthciaodffkbljaaGreatDPool
set_option linter.unusedSimpArgs false
set_option linter.unusedVariables false
namespace Go.Proofs.YthciaodffkbljaaGreat
open Go Go.RowKit Go.Proofs Go.Tr

set_option maxHeartbeats 2000000 in
theorem eqWord_any (x y : GWord) {b1 b2 us vs} (w : World) (hx : TN w x.enc b1 us) (hy : TN w y.enc b2 vs) :
    Calls Tryz.prog 106 #[.agg us.toArray, .agg vs.toArray] w fun e w' => e = .returned (.bool (eqb x y)) ∧ Below w.heap.size w w' := by
  obtain ⟨rfl, rfl⟩ := GWord.us hx
  obtain ⟨rfl, rfl⟩ := GWord.us hy
  have HB := ((Below.refl w.heap.size w).alloc (Nat.le_refl _) (.cells #[.int .i64 x.tag, .int .i64 x.at_] 34)).alloc (by simp) (.cells #[.int .i64 y.tag, .int .i64 y.at_] 34)
  go_enter Tryz.func106, Tryz.ntmps106
  cases hq0 : (x.tag != y.tag)
  case true =>
    go_wp2_with fail
    go_ret
    exact ⟨by rw [eqb_f (fun e => by rw [e] at hq0; simp at hq0)]; rfl, HB⟩
  cases hq1 : (x.at_ != y.at_)
  case true =>
    go_wp2_with fail
    go_ret
    exact ⟨by rw [eqb_f (fun e => by rw [e] at hq1; simp at hq1)]; rfl, HB⟩
  go_wp2_with fail
  go_ret
  refine ⟨?_, HB⟩
  have hxy : x = y := GWord.ext_ (show x.tag = y.tag by simpa using hq0) (show x.at_ = y.at_ by simpa using hq1)
  rw [eqb_of hxy]
  rfl

set_option maxHeartbeats 1000000 in
theorem eqInt64S_any (xs ys : List Int) {A B : Option Addr} {c d : Nat} {b1 b2} (w : World) (hx : T1 w (.sl xs.length (xs.flatMap intE)) b1 (.slice A xs.length c)) (hy : T1 w (.sl ys.length (ys.flatMap intE)) b2 (.slice B ys.length d)) (hn' : xs.length ≤ maxLen) (hm' : ys.length ≤ maxLen) :
    Calls Tryz.prog 24 #[.slice A xs.length c, .slice B ys.length d] w fun e w' => e = .returned (.bool (eqb xs ys)) ∧ Below w.heap.size w w' := by
  unfold maxLen at hn' hm'
  by_cases hnm : xs.length = ys.length
  · obtain ⟨n, hn0⟩ : ∃ n, ys.length = n := ⟨_, rfl⟩
    rw [hn0] at hnm
    have hn : Hid (xs.length = n) := hnm
    have hm : Hid (ys.length = n) := hn0
    rw [hnm] at hx hn' ⊢
    rw [hn0] at hy hm' ⊢
    clear hnm hn0
    go_enter Tryz.func24, Tryz.ntmps24
    go_wp2_with fail
    go_loopw [5] (fun i w' => ∃ k : Nat, k ≤ n ∧ i = .int .i64 k ∧ Hid (xs.take k = ys.take k) ∧ Below w.heap.size w w') (fun i _ => n - (intOf i).toNat)
    case atStart => exact ⟨0, Nat.zero_le _, rfl, rfl, Below.refl _ _⟩
    case round =>
      obtain ⟨k, hk, rfl, ht, hb⟩ := hrel
      by_cases hlt : k < n
      · obtain ⟨ba, oa, x, rfl, _, hba, hxk, x0⟩ := intE_at (hx.below hb) hn.out hlt
        obtain ⟨bb, ob, y, rfl, _, hbb, hyk, y0⟩ := intE_at (hy.below hb) hm.out hlt
        cases hd : (x != y)
        case true =>
          go_wp2_with fail
          go_quiet (fail)
          go_wp2_with fail
          go_ret
          exact ⟨by rw [eqb_f (ne_at hxk hyk (by rintro rfl; simp at hd))]; rfl, hb.drewN _⟩
        go_wp2_with fail
        go_quiet (fail)
        go_wp2_with fail
        exact ⟨⟨k+1, by omega, by go_num, take_eq_snoc ht hxk hyk (by simpa using hd), hb.drewN _⟩, by simp [intOf]; omega⟩
      · have : k = n := by omega
        subst this
        go_wp2_with fail
        go_ret
        exact ⟨by rw [eqb_of (take_eq_all ht hn hm)]; rfl, hb⟩
  · have hne := eqb_f (ne_len (xs := xs) (ys := ys) rfl rfl hnm)
    generalize xs.length = n at *
    generalize ys.length = m at *
    go_enter Tryz.func24, Tryz.ntmps24
    go_wp2_with fail
    go_ret
    exact ⟨by rw [hne]; rfl, Below.refl _ _⟩

set_option maxHeartbeats 1000000 in
theorem eqWordS_any (xs ys : List GWord) {A B : Option Addr} {c d : Nat} {b1 b2} (w : World) (hx : T1 w (.sl xs.length (xs.flatMap GWord.enc)) b1 (.slice A xs.length c)) (hy : T1 w (.sl ys.length (ys.flatMap GWord.enc)) b2 (.slice B ys.length d)) (hn' : xs.length ≤ maxLen) (hm' : ys.length ≤ maxLen) :
    Calls Tryz.prog 188 #[.slice A xs.length c, .slice B ys.length d] w fun e w' => e = .returned (.bool (eqb xs ys)) ∧ Below w.heap.size w w' := by
  unfold maxLen at hn' hm'
  by_cases hnm : xs.length = ys.length
  · obtain ⟨n, hn0⟩ : ∃ n, ys.length = n := ⟨_, rfl⟩
    rw [hn0] at hnm
    have hn : Hid (xs.length = n) := hnm
    have hm : Hid (ys.length = n) := hn0
    rw [hnm] at hx hn' ⊢
    rw [hn0] at hy hm' ⊢
    clear hnm hn0
    go_enter Tryz.func188, Tryz.ntmps188
    go_wp2_with fail
    go_loopw [5] (fun i w' => ∃ k : Nat, k ≤ n ∧ i = .int .i64 k ∧ Hid (xs.take k = ys.take k) ∧ Below w.heap.size w w') (fun i _ => n - (intOf i).toNat)
    case atStart => exact ⟨0, Nat.zero_le _, rfl, rfl, Below.refl _ _⟩
    case round =>
      obtain ⟨k, hk, rfl, ht, hb⟩ := hrel
      by_cases hlt : k < n
      · obtain ⟨ba, oa, x, rfl, hba, hxk, x0, x1⟩ := GWord.get_ (hx.below hb) hn.out hlt
        obtain ⟨bb, ob, y, rfl, hbb, hyk, y0, y1⟩ := GWord.get_ (hy.below hb) hm.out hlt
        have nx := GWord.mk_ (w := wr) (x := x)
        have ny := GWord.mk_ (w := wr) (x := y)
        cases hd : eqb x y
        case false =>
          have hcall := fun e : ExtOf wr => eqWord_any x y _ (nx.below e.h) (ny.below e.h)
          rw [hd] at hcall
          have HC := Lib.hid hcall
          clear hcall
          go_wp2_with fail
          have hext := ExtOf.cell (w := wr)
          refine wp_region_ext_lit (by kernel_rfl) (by kernel_rfl) ?_
          repeat (go_big_quiet_step (exact Calls.quiet_ext (HC.out _)))
          refine wpQuiet_nil ?_
          rintro _ ⟨e, rfl⟩
          have hbe := hb.trans (e.h.mono hb.size)
          clear hext
          go_wp2_with fail
          go_ret
          exact ⟨by rw [eqb_f (ne_at hxk hyk (eqb_nf hd))]; rfl, hbe⟩
        have hcall := fun e : ExtOf wr => eqWord_any x y _ (nx.below e.h) (ny.below e.h)
        rw [hd] at hcall
        have HC := Lib.hid hcall
        clear hcall
        go_wp2_with fail
        have hext := ExtOf.cell (w := wr)
        refine wp_region_ext_lit (by kernel_rfl) (by kernel_rfl) ?_
        repeat (go_big_quiet_step (exact Calls.quiet_ext (HC.out _)))
        refine wpQuiet_nil ?_
        rintro _ ⟨e, rfl⟩
        have hbe := hb.trans (e.h.mono hb.size)
        clear hext
        go_wp2_with fail
        exact ⟨⟨k+1, by omega, by go_num, take_eq_snoc ht hxk hyk (eqb_t hd), hbe⟩, by simp [intOf]; omega⟩
      · have : k = n := by omega
        subst this
        go_wp2_with fail
        go_ret
        exact ⟨by rw [eqb_of (take_eq_all ht hn hm)]; rfl, hb⟩
  · have hne := eqb_f (ne_len (xs := xs) (ys := ys) rfl rfl hnm)
    generalize xs.length = n at *
    generalize ys.length = m at *
    go_enter Tryz.func188, Tryz.ntmps188
    go_wp2_with fail
    go_ret
    exact ⟨by rw [hne]; rfl, Below.refl _ _⟩

set_option maxHeartbeats 2000000 in
theorem eqCell_any (x y : GCell) {b1 b2 us vs} (w : World) (hx : TN w x.enc b1 us) (hy : TN w y.enc b2 vs) :
    Calls Tryz.prog 160 #[.agg us.toArray, .agg vs.toArray] w fun e w' => e = .returned (.bool (eqb x y)) ∧ Below w.heap.size w w' := by
  obtain ⟨Ax3, cx3, bx3, Ax4, cx4, bx4, rfl, rfl, tx3, lx3, mx3, tx4, lx4, mx4⟩ := GCell.us hx
  obtain ⟨Ay3, cy3, by3, Ay4, cy4, by4, rfl, rfl, ty3, ly3, my3, ty4, ly4, my4⟩ := GCell.us hy
  have HB := ((Below.refl w.heap.size w).alloc (Nat.le_refl _) (.cells #[.int .i64 x.kind, .int .i64 x.level, .int .i64 x.value, .slice Ax3 x.data.length cx3, .slice Ax4 x.words.length cx4] 141)).alloc (by simp) (.cells #[.int .i64 y.kind, .int .i64 y.level, .int .i64 y.value, .slice Ay3 y.data.length cy3, .slice Ay4 y.words.length cy4] 141)
  go_enter Tryz.func160, Tryz.ntmps160
  cases hq0 : (x.kind != y.kind)
  case true =>
    go_wp2_with fail
    go_ret
    exact ⟨by rw [eqb_f (fun e => by rw [e] at hq0; simp at hq0)]; rfl, HB⟩
  cases hq1 : (x.level != y.level)
  case true =>
    go_wp2_with fail
    go_ret
    exact ⟨by rw [eqb_f (fun e => by rw [e] at hq1; simp at hq1)]; rfl, HB⟩
  cases hq2 : (x.value != y.value)
  case true =>
    go_wp2_with fail
    go_ret
    exact ⟨by rw [eqb_f (fun e => by rw [e] at hq2; simp at hq2)]; rfl, HB⟩
  have sx3 := tx3.below HB
  have sy3 := ty3.below HB
  go_wp2_with fail
  refine (eqInt64S_any x.data y.data _ sx3 sy3 (Nat.le_trans lx3 mx3) (Nat.le_trans ly3 my3)).mono ?_
  rintro e w1 ⟨rfl, hb1⟩
  have B1 := HB.trans (hb1.mono HB.size)
  obtain ⟨hc1, hf1⟩ := bcell hb1
  have hz1 : w.heap.size + 1 < w1.heap.size := by have := hb1.size; simp at this; omega
  have ha1 := fun o => hc1 w.heap.size o (by first | (simp; done) | (simp; omega))
  have he1 := fun o => hc1 (w.heap.size + 1) o (by first | (simp; done) | (simp; omega))
  have hg1 := fun o => hf1 w.heap.size o (by first | (simp; done) | (simp; omega))
  have hi1 := fun o => hf1 (w.heap.size + 1) o (by first | (simp; done) | (simp; omega))
  clear hc1 hf1
  clear hb1
  cases hq3 : eqb x.data y.data
  case false =>
    go_wp2_with fail
    go_ret
    exact ⟨by rw [eqb_f (fun e => by rw [e] at hq3; exact absurd hq3 (by simp [eqb_self]))]; rfl, B1⟩
  have sx4 := tx4.below B1
  have sy4 := ty4.below B1
  go_wp2_with fail
  refine (eqWordS_any x.words y.words _ sx4 sy4 (Nat.le_trans lx4 mx4) (Nat.le_trans ly4 my4)).mono ?_
  rintro e w2 ⟨rfl, hb2⟩
  have B2 := B1.trans (hb2.mono B1.size)
  obtain ⟨hc2, hf2⟩ := bcell hb2
  have hz2 : w.heap.size + 1 < w2.heap.size := by have := hb2.size; omega
  have ha2 := fun o => (hc2 w.heap.size o (by omega)).trans (ha1 o)
  have he2 := fun o => (hc2 (w.heap.size + 1) o (by omega)).trans (he1 o)
  have hg2 := fun o => (hf2 w.heap.size o (by omega)).trans (hg1 o)
  have hi2 := fun o => (hf2 (w.heap.size + 1) o (by omega)).trans (hi1 o)
  clear hc2 hf2
  clear hb2
  cases hq4 : eqb x.words y.words
  case false =>
    go_wp2_with fail
    go_ret
    exact ⟨by rw [eqb_f (fun e => by rw [e] at hq4; exact absurd hq4 (by simp [eqb_self]))]; rfl, B2⟩
  go_wp2_with fail
  go_ret
  refine ⟨?_, B2⟩
  have hxy : x = y := GCell.ext_ (show x.kind = y.kind by simpa using hq0) (show x.level = y.level by simpa using hq1) (show x.value = y.value by simpa using hq2) (eqb_t hq3) (eqb_t hq4)
  rw [eqb_of hxy]
  rfl

set_option maxHeartbeats 2000000 in
theorem eqPair_any (x y : GPair) {b1 b2 us vs} (w : World) (hx : TN w x.enc b1 us) (hy : TN w y.enc b2 vs) :
    Calls Tryz.prog 161 #[.agg us.toArray, .agg vs.toArray] w fun e w' => e = .returned (.bool (eqb x y)) ∧ Below w.heap.size w w' := by
  obtain ⟨rfl, rfl⟩ := GPair.us hx
  obtain ⟨rfl, rfl⟩ := GPair.us hy
  have HB := ((Below.refl w.heap.size w).alloc (Nat.le_refl _) (.cells #[.int .i64 x.a, .int .i64 x.b] 147)).alloc (by simp) (.cells #[.int .i64 y.a, .int .i64 y.b] 147)
  go_enter Tryz.func161, Tryz.ntmps161
  cases hq0 : (x.a != y.a)
  case true =>
    go_wp2_with fail
    go_ret
    exact ⟨by rw [eqb_f (fun e => by rw [e] at hq0; simp at hq0)]; rfl, HB⟩
  cases hq1 : (x.b != y.b)
  case true =>
    go_wp2_with fail
    go_ret
    exact ⟨by rw [eqb_f (fun e => by rw [e] at hq1; simp at hq1)]; rfl, HB⟩
  go_wp2_with fail
  go_ret
  refine ⟨?_, HB⟩
  have hxy : x = y := GPair.ext_ (show x.a = y.a by simpa using hq0) (show x.b = y.b by simpa using hq1)
  rw [eqb_of hxy]
  rfl

set_option maxHeartbeats 1000000 in
theorem eqCellS_any (xs ys : List GCell) {A B : Option Addr} {c d : Nat} {b1 b2} (w : World) (hx : T1 w (.sl xs.length (xs.flatMap GCell.enc)) b1 (.slice A xs.length c)) (hy : T1 w (.sl ys.length (ys.flatMap GCell.enc)) b2 (.slice B ys.length d)) (hn' : xs.length ≤ maxLen) (hm' : ys.length ≤ maxLen) :
    Calls Tryz.prog 105 #[.slice A xs.length c, .slice B ys.length d] w fun e w' => e = .returned (.bool (eqb xs ys)) ∧ Below w.heap.size w w' := by
  unfold maxLen at hn' hm'
  by_cases hnm : xs.length = ys.length
  · obtain ⟨n, hn0⟩ : ∃ n, ys.length = n := ⟨_, rfl⟩
    rw [hn0] at hnm
    have hn : Hid (xs.length = n) := hnm
    have hm : Hid (ys.length = n) := hn0
    rw [hnm] at hx hn' ⊢
    rw [hn0] at hy hm' ⊢
    clear hnm hn0
    go_enter Tryz.func105, Tryz.ntmps105
    go_wp2_with fail
    go_loopw [5] (fun i w' => ∃ k : Nat, k ≤ n ∧ i = .int .i64 k ∧ Hid (xs.take k = ys.take k) ∧ Below w.heap.size w w') (fun i _ => n - (intOf i).toNat)
    case atStart => exact ⟨0, Nat.zero_le _, rfl, rfl, Below.refl _ _⟩
    case round =>
      obtain ⟨k, hk, rfl, ht, hb⟩ := hrel
      by_cases hlt : k < n
      · obtain ⟨ba, oa, x, Ax3, cx3, px3, Ax4, cx4, px4, rfl, hba, hxk, x0, x1, x2, x3, x4, tx3, lx3, mx3, tx4, lx4, mx4⟩ := GCell.get_ (hx.below hb) hn.out hlt
        obtain ⟨bb, ob, y, Ay3, cy3, py3, Ay4, cy4, py4, rfl, hbb, hyk, y0, y1, y2, y3, y4, ty3, ly3, my3, ty4, ly4, my4⟩ := GCell.get_ (hy.below hb) hm.out hlt
        have nx := GCell.mk_ (w := wr) (x := x) tx3 tx4
        have ny := GCell.mk_ (w := wr) (x := y) ty3 ty4
        cases hd : eqb x y
        case false =>
          have hcall := fun e : ExtOf wr => eqCell_any x y _ (nx.below e.h) (ny.below e.h)
          rw [hd] at hcall
          have HC := Lib.hid hcall
          clear hcall
          go_wp2_with fail
          have hext := ExtOf.cell (w := wr)
          refine wp_region_ext_lit (by kernel_rfl) (by kernel_rfl) ?_
          repeat (go_big_quiet_step (exact Calls.quiet_ext (HC.out _)))
          refine wpQuiet_nil ?_
          rintro _ ⟨e, rfl⟩
          have hbe := hb.trans (e.h.mono hb.size)
          clear hext
          go_wp2_with fail
          go_ret
          exact ⟨by rw [eqb_f (ne_at hxk hyk (eqb_nf hd))]; rfl, hbe⟩
        have hcall := fun e : ExtOf wr => eqCell_any x y _ (nx.below e.h) (ny.below e.h)
        rw [hd] at hcall
        have HC := Lib.hid hcall
        clear hcall
        go_wp2_with fail
        have hext := ExtOf.cell (w := wr)
        refine wp_region_ext_lit (by kernel_rfl) (by kernel_rfl) ?_
        repeat (go_big_quiet_step (exact Calls.quiet_ext (HC.out _)))
        refine wpQuiet_nil ?_
        rintro _ ⟨e, rfl⟩
        have hbe := hb.trans (e.h.mono hb.size)
        clear hext
        go_wp2_with fail
        exact ⟨⟨k+1, by omega, by go_num, take_eq_snoc ht hxk hyk (eqb_t hd), hbe⟩, by simp [intOf]; omega⟩
      · have : k = n := by omega
        subst this
        go_wp2_with fail
        go_ret
        exact ⟨by rw [eqb_of (take_eq_all ht hn hm)]; rfl, hb⟩
  · have hne := eqb_f (ne_len (xs := xs) (ys := ys) rfl rfl hnm)
    generalize xs.length = n at *
    generalize ys.length = m at *
    go_enter Tryz.func105, Tryz.ntmps105
    go_wp2_with fail
    go_ret
    exact ⟨by rw [hne]; rfl, Below.refl _ _⟩

set_option maxHeartbeats 1000000 in
theorem eqPairS_any (xs ys : List GPair) {A B : Option Addr} {c d : Nat} {b1 b2} (w : World) (hx : T1 w (.sl xs.length (xs.flatMap GPair.enc)) b1 (.slice A xs.length c)) (hy : T1 w (.sl ys.length (ys.flatMap GPair.enc)) b2 (.slice B ys.length d)) (hn' : xs.length ≤ maxLen) (hm' : ys.length ≤ maxLen) :
    Calls Tryz.prog 107 #[.slice A xs.length c, .slice B ys.length d] w fun e w' => e = .returned (.bool (eqb xs ys)) ∧ Below w.heap.size w w' := by
  unfold maxLen at hn' hm'
  by_cases hnm : xs.length = ys.length
  · obtain ⟨n, hn0⟩ : ∃ n, ys.length = n := ⟨_, rfl⟩
    rw [hn0] at hnm
    have hn : Hid (xs.length = n) := hnm
    have hm : Hid (ys.length = n) := hn0
    rw [hnm] at hx hn' ⊢
    rw [hn0] at hy hm' ⊢
    clear hnm hn0
    go_enter Tryz.func107, Tryz.ntmps107
    go_wp2_with fail
    go_loopw [5] (fun i w' => ∃ k : Nat, k ≤ n ∧ i = .int .i64 k ∧ Hid (xs.take k = ys.take k) ∧ Below w.heap.size w w') (fun i _ => n - (intOf i).toNat)
    case atStart => exact ⟨0, Nat.zero_le _, rfl, rfl, Below.refl _ _⟩
    case round =>
      obtain ⟨k, hk, rfl, ht, hb⟩ := hrel
      by_cases hlt : k < n
      · obtain ⟨ba, oa, x, rfl, hba, hxk, x0, x1⟩ := GPair.get_ (hx.below hb) hn.out hlt
        obtain ⟨bb, ob, y, rfl, hbb, hyk, y0, y1⟩ := GPair.get_ (hy.below hb) hm.out hlt
        have nx := GPair.mk_ (w := wr) (x := x)
        have ny := GPair.mk_ (w := wr) (x := y)
        cases hd : eqb x y
        case false =>
          have hcall := fun e : ExtOf wr => eqPair_any x y _ (nx.below e.h) (ny.below e.h)
          rw [hd] at hcall
          have HC := Lib.hid hcall
          clear hcall
          go_wp2_with fail
          have hext := ExtOf.cell (w := wr)
          refine wp_region_ext_lit (by kernel_rfl) (by kernel_rfl) ?_
          repeat (go_big_quiet_step (exact Calls.quiet_ext (HC.out _)))
          refine wpQuiet_nil ?_
          rintro _ ⟨e, rfl⟩
          have hbe := hb.trans (e.h.mono hb.size)
          clear hext
          go_wp2_with fail
          go_ret
          exact ⟨by rw [eqb_f (ne_at hxk hyk (eqb_nf hd))]; rfl, hbe⟩
        have hcall := fun e : ExtOf wr => eqPair_any x y _ (nx.below e.h) (ny.below e.h)
        rw [hd] at hcall
        have HC := Lib.hid hcall
        clear hcall
        go_wp2_with fail
        have hext := ExtOf.cell (w := wr)
        refine wp_region_ext_lit (by kernel_rfl) (by kernel_rfl) ?_
        repeat (go_big_quiet_step (exact Calls.quiet_ext (HC.out _)))
        refine wpQuiet_nil ?_
        rintro _ ⟨e, rfl⟩
        have hbe := hb.trans (e.h.mono hb.size)
        clear hext
        go_wp2_with fail
        exact ⟨⟨k+1, by omega, by go_num, take_eq_snoc ht hxk hyk (eqb_t hd), hbe⟩, by simp [intOf]; omega⟩
      · have : k = n := by omega
        subst this
        go_wp2_with fail
        go_ret
        exact ⟨by rw [eqb_of (take_eq_all ht hn hm)]; rfl, hb⟩
  · have hne := eqb_f (ne_len (xs := xs) (ys := ys) rfl rfl hnm)
    generalize xs.length = n at *
    generalize ys.length = m at *
    go_enter Tryz.func107, Tryz.ntmps107
    go_wp2_with fail
    go_ret
    exact ⟨by rw [hne]; rfl, Below.refl _ _⟩

set_option maxHeartbeats 2000000 in
theorem eqMemory_any (x y : GMemory) {b1 b2 us vs} (w : World) (hx : TN w x.enc b1 us) (hy : TN w y.enc b2 vs) :
    Calls Tryz.prog 45 #[.agg us.toArray, .agg vs.toArray] w fun e w' => e = .returned (.bool (eqb x y)) ∧ Below w.heap.size w w' := by
  obtain ⟨Ax0, cx0, bx0, Ax4, cx4, bx4, rfl, rfl, tx0, lx0, mx0, tx4, lx4, mx4⟩ := GMemory.us hx
  obtain ⟨Ay0, cy0, by0, Ay4, cy4, by4, rfl, rfl, ty0, ly0, my0, ty4, ly4, my4⟩ := GMemory.us hy
  have HB := ((Below.refl w.heap.size w).alloc (Nat.le_refl _) (.cells #[.slice Ax0 x.cells.length cx0, .int .i64 x.free, .int .i64 x.root.tag, .int .i64 x.root.at_, .slice Ax4 x.redexes.length cx4] 37)).alloc (by simp) (.cells #[.slice Ay0 y.cells.length cy0, .int .i64 y.free, .int .i64 y.root.tag, .int .i64 y.root.at_, .slice Ay4 y.redexes.length cy4] 37)
  go_enter Tryz.func45, Tryz.ntmps45
  have sx0 := tx0.below HB
  have sy0 := ty0.below HB
  go_wp2_with fail
  refine (eqCellS_any x.cells y.cells _ sx0 sy0 (Nat.le_trans lx0 mx0) (Nat.le_trans ly0 my0)).mono ?_
  rintro e w1 ⟨rfl, hb1⟩
  have B1 := HB.trans (hb1.mono HB.size)
  obtain ⟨hc1, hf1⟩ := bcell hb1
  have hz1 : w.heap.size + 1 < w1.heap.size := by have := hb1.size; simp at this; omega
  have ha1 := fun o => hc1 w.heap.size o (by first | (simp; done) | (simp; omega))
  have he1 := fun o => hc1 (w.heap.size + 1) o (by first | (simp; done) | (simp; omega))
  have hg1 := fun o => hf1 w.heap.size o (by first | (simp; done) | (simp; omega))
  have hi1 := fun o => hf1 (w.heap.size + 1) o (by first | (simp; done) | (simp; omega))
  clear hc1 hf1
  clear hb1
  cases hq0 : eqb x.cells y.cells
  case false =>
    go_wp2_with fail
    go_ret
    exact ⟨by rw [eqb_f (fun e => by rw [e] at hq0; exact absurd hq0 (by simp [eqb_self]))]; rfl, B1⟩
  cases hq1 : (x.free != y.free)
  case true =>
    go_wp2_with fail
    go_ret
    exact ⟨by rw [eqb_f (fun e => by rw [e] at hq1; simp at hq1)]; rfl, B1⟩
  have nx2 := fun (W' : World) => GWord.mk_ (w := W') (x := x.root)
  have ny2 := fun (W' : World) => GWord.mk_ (w := W') (x := y.root)
  go_wp2_with fail
  refine (eqWord_any x.root y.root _ (nx2 _) (ny2 _)).mono ?_
  rintro e w2 ⟨rfl, hb2⟩
  have B2 := B1.trans (hb2.mono B1.size)
  obtain ⟨hc2, hf2⟩ := bcell hb2
  have hz2 : w.heap.size + 1 < w2.heap.size := by have := hb2.size; omega
  have ha2 := fun o => (hc2 w.heap.size o (by omega)).trans (ha1 o)
  have he2 := fun o => (hc2 (w.heap.size + 1) o (by omega)).trans (he1 o)
  have hg2 := fun o => (hf2 w.heap.size o (by omega)).trans (hg1 o)
  have hi2 := fun o => (hf2 (w.heap.size + 1) o (by omega)).trans (hi1 o)
  clear hc2 hf2
  clear hb2
  cases hq2 : eqb x.root y.root
  case false =>
    go_wp2_with fail
    go_ret
    exact ⟨by rw [eqb_f (fun e => by rw [e] at hq2; exact absurd hq2 (by simp [eqb_self]))]; rfl, B2⟩
  have sx4 := tx4.below B2
  have sy4 := ty4.below B2
  go_wp2_with fail
  refine (eqPairS_any x.redexes y.redexes _ sx4 sy4 (Nat.le_trans lx4 mx4) (Nat.le_trans ly4 my4)).mono ?_
  rintro e w3 ⟨rfl, hb3⟩
  have B3 := B2.trans (hb3.mono B2.size)
  obtain ⟨hc3, hf3⟩ := bcell hb3
  have hz3 : w.heap.size + 1 < w3.heap.size := by have := hb3.size; omega
  have ha3 := fun o => (hc3 w.heap.size o (by omega)).trans (ha2 o)
  have he3 := fun o => (hc3 (w.heap.size + 1) o (by omega)).trans (he2 o)
  have hg3 := fun o => (hf3 w.heap.size o (by omega)).trans (hg2 o)
  have hi3 := fun o => (hf3 (w.heap.size + 1) o (by omega)).trans (hi2 o)
  clear hc3 hf3
  clear hb3
  cases hq3 : eqb x.redexes y.redexes
  case false =>
    go_wp2_with fail
    go_ret
    exact ⟨by rw [eqb_f (fun e => by rw [e] at hq3; exact absurd hq3 (by simp [eqb_self]))]; rfl, B3⟩
  go_wp2_with fail
  go_ret
  refine ⟨?_, B3⟩
  have hxy : x = y := GMemory.ext_ (eqb_t hq0) (show x.free = y.free by simpa using hq1) (eqb_t hq2) (eqb_t hq3)
  rw [eqb_of hxy]
  rfl

set_option maxHeartbeats 2000000 in
theorem eqLink_any (x y : GLink) {b1 b2 us vs} (w : World) (hx : TN w x.enc b1 us) (hy : TN w y.enc b2 vs) :
    Calls Tryz.prog 189 #[.agg us.toArray, .agg vs.toArray] w fun e w' => e = .returned (.bool (eqb x y)) ∧ Below w.heap.size w w' := by
  obtain ⟨rfl, rfl⟩ := GLink.us hx
  obtain ⟨rfl, rfl⟩ := GLink.us hy
  have HB := ((Below.refl w.heap.size w).alloc (Nat.le_refl _) (.cells #[.int .i64 x.a.tag, .int .i64 x.a.at_, .int .i64 x.b.tag, .int .i64 x.b.at_] 152)).alloc (by simp) (.cells #[.int .i64 y.a.tag, .int .i64 y.a.at_, .int .i64 y.b.tag, .int .i64 y.b.at_] 152)
  go_enter Tryz.func189, Tryz.ntmps189
  have nx0 := fun (W' : World) => GWord.mk_ (w := W') (x := x.a)
  have ny0 := fun (W' : World) => GWord.mk_ (w := W') (x := y.a)
  go_wp2_with fail
  refine (eqWord_any x.a y.a _ (nx0 _) (ny0 _)).mono ?_
  rintro e w1 ⟨rfl, hb1⟩
  have B1 := HB.trans (hb1.mono HB.size)
  obtain ⟨hc1, hf1⟩ := bcell hb1
  have hz1 : w.heap.size + 1 < w1.heap.size := by have := hb1.size; simp at this; omega
  have ha1 := fun o => hc1 w.heap.size o (by first | (simp; done) | (simp; omega))
  have he1 := fun o => hc1 (w.heap.size + 1) o (by first | (simp; done) | (simp; omega))
  have hg1 := fun o => hf1 w.heap.size o (by first | (simp; done) | (simp; omega))
  have hi1 := fun o => hf1 (w.heap.size + 1) o (by first | (simp; done) | (simp; omega))
  clear hc1 hf1
  clear hb1
  cases hq0 : eqb x.a y.a
  case false =>
    go_wp2_with fail
    go_ret
    exact ⟨by rw [eqb_f (fun e => by rw [e] at hq0; exact absurd hq0 (by simp [eqb_self]))]; rfl, B1⟩
  have nx1 := fun (W' : World) => GWord.mk_ (w := W') (x := x.b)
  have ny1 := fun (W' : World) => GWord.mk_ (w := W') (x := y.b)
  go_wp2_with fail
  refine (eqWord_any x.b y.b _ (nx1 _) (ny1 _)).mono ?_
  rintro e w2 ⟨rfl, hb2⟩
  have B2 := B1.trans (hb2.mono B1.size)
  obtain ⟨hc2, hf2⟩ := bcell hb2
  have hz2 : w.heap.size + 1 < w2.heap.size := by have := hb2.size; omega
  have ha2 := fun o => (hc2 w.heap.size o (by omega)).trans (ha1 o)
  have he2 := fun o => (hc2 (w.heap.size + 1) o (by omega)).trans (he1 o)
  have hg2 := fun o => (hf2 w.heap.size o (by omega)).trans (hg1 o)
  have hi2 := fun o => (hf2 (w.heap.size + 1) o (by omega)).trans (hi1 o)
  clear hc2 hf2
  clear hb2
  cases hq1 : eqb x.b y.b
  case false =>
    go_wp2_with fail
    go_ret
    exact ⟨by rw [eqb_f (fun e => by rw [e] at hq1; exact absurd hq1 (by simp [eqb_self]))]; rfl, B2⟩
  go_wp2_with fail
  go_ret
  refine ⟨?_, B2⟩
  have hxy : x = y := GLink.ext_ (eqb_t hq0) (eqb_t hq1)
  rw [eqb_of hxy]
  rfl

set_option maxHeartbeats 1000000 in
theorem eqLinkS_any (xs ys : List GLink) {A B : Option Addr} {c d : Nat} {b1 b2} (w : World) (hx : T1 w (.sl xs.length (xs.flatMap GLink.enc)) b1 (.slice A xs.length c)) (hy : T1 w (.sl ys.length (ys.flatMap GLink.enc)) b2 (.slice B ys.length d)) (hn' : xs.length ≤ maxLen) (hm' : ys.length ≤ maxLen) :
    Calls Tryz.prog 162 #[.slice A xs.length c, .slice B ys.length d] w fun e w' => e = .returned (.bool (eqb xs ys)) ∧ Below w.heap.size w w' := by
  unfold maxLen at hn' hm'
  by_cases hnm : xs.length = ys.length
  · obtain ⟨n, hn0⟩ : ∃ n, ys.length = n := ⟨_, rfl⟩
    rw [hn0] at hnm
    have hn : Hid (xs.length = n) := hnm
    have hm : Hid (ys.length = n) := hn0
    rw [hnm] at hx hn' ⊢
    rw [hn0] at hy hm' ⊢
    clear hnm hn0
    go_enter Tryz.func162, Tryz.ntmps162
    go_wp2_with fail
    go_loopw [5] (fun i w' => ∃ k : Nat, k ≤ n ∧ i = .int .i64 k ∧ Hid (xs.take k = ys.take k) ∧ Below w.heap.size w w') (fun i _ => n - (intOf i).toNat)
    case atStart => exact ⟨0, Nat.zero_le _, rfl, rfl, Below.refl _ _⟩
    case round =>
      obtain ⟨k, hk, rfl, ht, hb⟩ := hrel
      by_cases hlt : k < n
      · obtain ⟨ba, oa, x, rfl, hba, hxk, x0, x1, x2, x3⟩ := GLink.get_ (hx.below hb) hn.out hlt
        obtain ⟨bb, ob, y, rfl, hbb, hyk, y0, y1, y2, y3⟩ := GLink.get_ (hy.below hb) hm.out hlt
        have nx := GLink.mk_ (w := wr) (x := x)
        have ny := GLink.mk_ (w := wr) (x := y)
        cases hd : eqb x y
        case false =>
          have hcall := fun e : ExtOf wr => eqLink_any x y _ (nx.below e.h) (ny.below e.h)
          rw [hd] at hcall
          have HC := Lib.hid hcall
          clear hcall
          go_wp2_with fail
          have hext := ExtOf.cell (w := wr)
          refine wp_region_ext_lit (by kernel_rfl) (by kernel_rfl) ?_
          repeat (go_big_quiet_step (exact Calls.quiet_ext (HC.out _)))
          refine wpQuiet_nil ?_
          rintro _ ⟨e, rfl⟩
          have hbe := hb.trans (e.h.mono hb.size)
          clear hext
          go_wp2_with fail
          go_ret
          exact ⟨by rw [eqb_f (ne_at hxk hyk (eqb_nf hd))]; rfl, hbe⟩
        have hcall := fun e : ExtOf wr => eqLink_any x y _ (nx.below e.h) (ny.below e.h)
        rw [hd] at hcall
        have HC := Lib.hid hcall
        clear hcall
        go_wp2_with fail
        have hext := ExtOf.cell (w := wr)
        refine wp_region_ext_lit (by kernel_rfl) (by kernel_rfl) ?_
        repeat (go_big_quiet_step (exact Calls.quiet_ext (HC.out _)))
        refine wpQuiet_nil ?_
        rintro _ ⟨e, rfl⟩
        have hbe := hb.trans (e.h.mono hb.size)
        clear hext
        go_wp2_with fail
        exact ⟨⟨k+1, by omega, by go_num, take_eq_snoc ht hxk hyk (eqb_t hd), hbe⟩, by simp [intOf]; omega⟩
      · have : k = n := by omega
        subst this
        go_wp2_with fail
        go_ret
        exact ⟨by rw [eqb_of (take_eq_all ht hn hm)]; rfl, hb⟩
  · have hne := eqb_f (ne_len (xs := xs) (ys := ys) rfl rfl hnm)
    generalize xs.length = n at *
    generalize ys.length = m at *
    go_enter Tryz.func162, Tryz.ntmps162
    go_wp2_with fail
    go_ret
    exact ⟨by rw [hne]; rfl, Below.refl _ _⟩

set_option maxHeartbeats 2000000 in
theorem eqWorker_any (x y : GWorker) {b1 b2 us vs} (w : World) (hx : TN w x.enc b1 us) (hy : TN w y.enc b2 vs) :
    Calls Tryz.prog 108 #[.agg us.toArray, .agg vs.toArray] w fun e w' => e = .returned (.bool (eqb x y)) ∧ Below w.heap.size w w' := by
  obtain ⟨Ax2, cx2, bx2, Ax3, cx3, bx3, Ax4, cx4, bx4, rfl, rfl, tx2, lx2, mx2, tx3, lx3, mx3, tx4, lx4, mx4⟩ := GWorker.us hx
  obtain ⟨Ay2, cy2, by2, Ay3, cy3, by3, Ay4, cy4, by4, rfl, rfl, ty2, ly2, my2, ty3, ly3, my3, ty4, ly4, my4⟩ := GWorker.us hy
  have HB := ((Below.refl w.heap.size w).alloc (Nat.le_refl _) (.cells #[.int .i64 x.phase, .int .i64 x.victim, .slice Ax2 x.redexes.length cx2, .slice Ax3 x.links.length cx3, .slice Ax4 x.counts.length cx4] 85)).alloc (by simp) (.cells #[.int .i64 y.phase, .int .i64 y.victim, .slice Ay2 y.redexes.length cy2, .slice Ay3 y.links.length cy3, .slice Ay4 y.counts.length cy4] 85)
  go_enter Tryz.func108, Tryz.ntmps108
  cases hq0 : (x.phase != y.phase)
  case true =>
    go_wp2_with fail
    go_ret
    exact ⟨by rw [eqb_f (fun e => by rw [e] at hq0; simp at hq0)]; rfl, HB⟩
  cases hq1 : (x.victim != y.victim)
  case true =>
    go_wp2_with fail
    go_ret
    exact ⟨by rw [eqb_f (fun e => by rw [e] at hq1; simp at hq1)]; rfl, HB⟩
  have sx2 := tx2.below HB
  have sy2 := ty2.below HB
  go_wp2_with fail
  refine (eqPairS_any x.redexes y.redexes _ sx2 sy2 (Nat.le_trans lx2 mx2) (Nat.le_trans ly2 my2)).mono ?_
  rintro e w1 ⟨rfl, hb1⟩
  have B1 := HB.trans (hb1.mono HB.size)
  obtain ⟨hc1, hf1⟩ := bcell hb1
  have hz1 : w.heap.size + 1 < w1.heap.size := by have := hb1.size; simp at this; omega
  have ha1 := fun o => hc1 w.heap.size o (by first | (simp; done) | (simp; omega))
  have he1 := fun o => hc1 (w.heap.size + 1) o (by first | (simp; done) | (simp; omega))
  have hg1 := fun o => hf1 w.heap.size o (by first | (simp; done) | (simp; omega))
  have hi1 := fun o => hf1 (w.heap.size + 1) o (by first | (simp; done) | (simp; omega))
  clear hc1 hf1
  clear hb1
  cases hq2 : eqb x.redexes y.redexes
  case false =>
    go_wp2_with fail
    go_ret
    exact ⟨by rw [eqb_f (fun e => by rw [e] at hq2; exact absurd hq2 (by simp [eqb_self]))]; rfl, B1⟩
  have sx3 := tx3.below B1
  have sy3 := ty3.below B1
  go_wp2_with fail
  refine (eqLinkS_any x.links y.links _ sx3 sy3 (Nat.le_trans lx3 mx3) (Nat.le_trans ly3 my3)).mono ?_
  rintro e w2 ⟨rfl, hb2⟩
  have B2 := B1.trans (hb2.mono B1.size)
  obtain ⟨hc2, hf2⟩ := bcell hb2
  have hz2 : w.heap.size + 1 < w2.heap.size := by have := hb2.size; omega
  have ha2 := fun o => (hc2 w.heap.size o (by omega)).trans (ha1 o)
  have he2 := fun o => (hc2 (w.heap.size + 1) o (by omega)).trans (he1 o)
  have hg2 := fun o => (hf2 w.heap.size o (by omega)).trans (hg1 o)
  have hi2 := fun o => (hf2 (w.heap.size + 1) o (by omega)).trans (hi1 o)
  clear hc2 hf2
  clear hb2
  cases hq3 : eqb x.links y.links
  case false =>
    go_wp2_with fail
    go_ret
    exact ⟨by rw [eqb_f (fun e => by rw [e] at hq3; exact absurd hq3 (by simp [eqb_self]))]; rfl, B2⟩
  have sx4 := tx4.below B2
  have sy4 := ty4.below B2
  go_wp2_with fail
  refine (eqInt64S_any x.counts y.counts _ sx4 sy4 (Nat.le_trans lx4 mx4) (Nat.le_trans ly4 my4)).mono ?_
  rintro e w3 ⟨rfl, hb3⟩
  have B3 := B2.trans (hb3.mono B2.size)
  obtain ⟨hc3, hf3⟩ := bcell hb3
  have hz3 : w.heap.size + 1 < w3.heap.size := by have := hb3.size; omega
  have ha3 := fun o => (hc3 w.heap.size o (by omega)).trans (ha2 o)
  have he3 := fun o => (hc3 (w.heap.size + 1) o (by omega)).trans (he2 o)
  have hg3 := fun o => (hf3 w.heap.size o (by omega)).trans (hg2 o)
  have hi3 := fun o => (hf3 (w.heap.size + 1) o (by omega)).trans (hi2 o)
  clear hc3 hf3
  clear hb3
  cases hq4 : eqb x.counts y.counts
  case false =>
    go_wp2_with fail
    go_ret
    exact ⟨by rw [eqb_f (fun e => by rw [e] at hq4; exact absurd hq4 (by simp [eqb_self]))]; rfl, B3⟩
  go_wp2_with fail
  go_ret
  refine ⟨?_, B3⟩
  have hxy : x = y := GWorker.ext_ (show x.phase = y.phase by simpa using hq0) (show x.victim = y.victim by simpa using hq1) (eqb_t hq2) (eqb_t hq3) (eqb_t hq4)
  rw [eqb_of hxy]
  rfl

set_option maxHeartbeats 1000000 in
theorem eqWorkerS_any (xs ys : List GWorker) {A B : Option Addr} {c d : Nat} {b1 b2} (w : World) (hx : T1 w (.sl xs.length (xs.flatMap GWorker.enc)) b1 (.slice A xs.length c)) (hy : T1 w (.sl ys.length (ys.flatMap GWorker.enc)) b2 (.slice B ys.length d)) (hn' : xs.length ≤ maxLen) (hm' : ys.length ≤ maxLen) :
    Calls Tryz.prog 46 #[.slice A xs.length c, .slice B ys.length d] w fun e w' => e = .returned (.bool (eqb xs ys)) ∧ Below w.heap.size w w' := by
  unfold maxLen at hn' hm'
  by_cases hnm : xs.length = ys.length
  · obtain ⟨n, hn0⟩ : ∃ n, ys.length = n := ⟨_, rfl⟩
    rw [hn0] at hnm
    have hn : Hid (xs.length = n) := hnm
    have hm : Hid (ys.length = n) := hn0
    rw [hnm] at hx hn' ⊢
    rw [hn0] at hy hm' ⊢
    clear hnm hn0
    go_enter Tryz.func46, Tryz.ntmps46
    go_wp2_with fail
    go_loopw [5] (fun i w' => ∃ k : Nat, k ≤ n ∧ i = .int .i64 k ∧ Hid (xs.take k = ys.take k) ∧ Below w.heap.size w w') (fun i _ => n - (intOf i).toNat)
    case atStart => exact ⟨0, Nat.zero_le _, rfl, rfl, Below.refl _ _⟩
    case round =>
      obtain ⟨k, hk, rfl, ht, hb⟩ := hrel
      by_cases hlt : k < n
      · obtain ⟨ba, oa, x, Ax2, cx2, px2, Ax3, cx3, px3, Ax4, cx4, px4, rfl, hba, hxk, x0, x1, x2, x3, x4, tx2, lx2, mx2, tx3, lx3, mx3, tx4, lx4, mx4⟩ := GWorker.get_ (hx.below hb) hn.out hlt
        obtain ⟨bb, ob, y, Ay2, cy2, py2, Ay3, cy3, py3, Ay4, cy4, py4, rfl, hbb, hyk, y0, y1, y2, y3, y4, ty2, ly2, my2, ty3, ly3, my3, ty4, ly4, my4⟩ := GWorker.get_ (hy.below hb) hm.out hlt
        have nx := GWorker.mk_ (w := wr) (x := x) tx2 tx3 tx4
        have ny := GWorker.mk_ (w := wr) (x := y) ty2 ty3 ty4
        cases hd : eqb x y
        case false =>
          have hcall := fun e : ExtOf wr => eqWorker_any x y _ (nx.below e.h) (ny.below e.h)
          rw [hd] at hcall
          have HC := Lib.hid hcall
          clear hcall
          go_wp2_with fail
          have hext := ExtOf.cell (w := wr)
          refine wp_region_ext_lit (by kernel_rfl) (by kernel_rfl) ?_
          repeat (go_big_quiet_step (exact Calls.quiet_ext (HC.out _)))
          refine wpQuiet_nil ?_
          rintro _ ⟨e, rfl⟩
          have hbe := hb.trans (e.h.mono hb.size)
          clear hext
          go_wp2_with fail
          go_ret
          exact ⟨by rw [eqb_f (ne_at hxk hyk (eqb_nf hd))]; rfl, hbe⟩
        have hcall := fun e : ExtOf wr => eqWorker_any x y _ (nx.below e.h) (ny.below e.h)
        rw [hd] at hcall
        have HC := Lib.hid hcall
        clear hcall
        go_wp2_with fail
        have hext := ExtOf.cell (w := wr)
        refine wp_region_ext_lit (by kernel_rfl) (by kernel_rfl) ?_
        repeat (go_big_quiet_step (exact Calls.quiet_ext (HC.out _)))
        refine wpQuiet_nil ?_
        rintro _ ⟨e, rfl⟩
        have hbe := hb.trans (e.h.mono hb.size)
        clear hext
        go_wp2_with fail
        exact ⟨⟨k+1, by omega, by go_num, take_eq_snoc ht hxk hyk (eqb_t hd), hbe⟩, by simp [intOf]; omega⟩
      · have : k = n := by omega
        subst this
        go_wp2_with fail
        go_ret
        exact ⟨by rw [eqb_of (take_eq_all ht hn hm)]; rfl, hb⟩
  · have hne := eqb_f (ne_len (xs := xs) (ys := ys) rfl rfl hnm)
    generalize xs.length = n at *
    generalize ys.length = m at *
    go_enter Tryz.func46, Tryz.ntmps46
    go_wp2_with fail
    go_ret
    exact ⟨by rw [hne]; rfl, Below.refl _ _⟩

set_option maxHeartbeats 2000000 in
theorem eqPool_any (x y : GPool) {b1 b2 us vs} (w : World) (hx : TN w x.enc b1 us) (hy : TN w y.enc b2 vs) :
    Calls Tryz.prog 11 #[.agg us.toArray, .agg vs.toArray] w fun e w' => e = .returned (.bool (eqb x y)) ∧ Below w.heap.size w w' := by
  obtain ⟨Ax0, cx0, bx0, Ax4, cx4, bx4, Ax5, cx5, bx5, rfl, rfl, tx0, lx0, mx0, tx4, lx4, mx4, tx5, lx5, mx5⟩ := GPool.us hx
  obtain ⟨Ay0, cy0, by0, Ay4, cy4, by4, Ay5, cy5, by5, rfl, rfl, ty0, ly0, my0, ty4, ly4, my4, ty5, ly5, my5⟩ := GPool.us hy
  have HB := ((Below.refl w.heap.size w).alloc (Nat.le_refl _) (.cells #[.slice Ax0 x.memory.cells.length cx0, .int .i64 x.memory.free, .int .i64 x.memory.root.tag, .int .i64 x.memory.root.at_, .slice Ax4 x.memory.redexes.length cx4, .slice Ax5 x.workers.length cx5, .int .i64 x.active] 40)).alloc (by simp) (.cells #[.slice Ay0 y.memory.cells.length cy0, .int .i64 y.memory.free, .int .i64 y.memory.root.tag, .int .i64 y.memory.root.at_, .slice Ay4 y.memory.redexes.length cy4, .slice Ay5 y.workers.length cy5, .int .i64 y.active] 40)
  go_enter Tryz.func11, Tryz.ntmps11
  have nx0 := GMemory.mk_ (x := x.memory) (tx0.below HB) (tx4.below HB)
  have ny0 := GMemory.mk_ (x := y.memory) (ty0.below HB) (ty4.below HB)
  go_wp2_with fail
  refine (eqMemory_any x.memory y.memory _ nx0 ny0).mono ?_
  rintro e w1 ⟨rfl, hb1⟩
  have B1 := HB.trans (hb1.mono HB.size)
  obtain ⟨hc1, hf1⟩ := bcell hb1
  have hz1 : w.heap.size + 1 < w1.heap.size := by have := hb1.size; simp at this; omega
  have ha1 := fun o => hc1 w.heap.size o (by first | (simp; done) | (simp; omega))
  have he1 := fun o => hc1 (w.heap.size + 1) o (by first | (simp; done) | (simp; omega))
  have hg1 := fun o => hf1 w.heap.size o (by first | (simp; done) | (simp; omega))
  have hi1 := fun o => hf1 (w.heap.size + 1) o (by first | (simp; done) | (simp; omega))
  clear hc1 hf1
  clear hb1
  cases hq0 : eqb x.memory y.memory
  case false =>
    go_wp2_with fail
    go_ret
    exact ⟨by rw [eqb_f (fun e => by rw [e] at hq0; exact absurd hq0 (by simp [eqb_self]))]; rfl, B1⟩
  have sx5 := tx5.below B1
  have sy5 := ty5.below B1
  go_wp2_with fail
  refine (eqWorkerS_any x.workers y.workers _ sx5 sy5 (Nat.le_trans lx5 mx5) (Nat.le_trans ly5 my5)).mono ?_
  rintro e w2 ⟨rfl, hb2⟩
  have B2 := B1.trans (hb2.mono B1.size)
  obtain ⟨hc2, hf2⟩ := bcell hb2
  have hz2 : w.heap.size + 1 < w2.heap.size := by have := hb2.size; omega
  have ha2 := fun o => (hc2 w.heap.size o (by omega)).trans (ha1 o)
  have he2 := fun o => (hc2 (w.heap.size + 1) o (by omega)).trans (he1 o)
  have hg2 := fun o => (hf2 w.heap.size o (by omega)).trans (hg1 o)
  have hi2 := fun o => (hf2 (w.heap.size + 1) o (by omega)).trans (hi1 o)
  clear hc2 hf2
  clear hb2
  cases hq1 : eqb x.workers y.workers
  case false =>
    go_wp2_with fail
    go_ret
    exact ⟨by rw [eqb_f (fun e => by rw [e] at hq1; exact absurd hq1 (by simp [eqb_self]))]; rfl, B2⟩
  cases hq2 : (x.active != y.active)
  case true =>
    go_wp2_with fail
    go_ret
    exact ⟨by rw [eqb_f (fun e => by rw [e] at hq2; simp at hq2)]; rfl, B2⟩
  go_wp2_with fail
  go_ret
  refine ⟨?_, B2⟩
  have hxy : x = y := GPool.ext_ (eqb_t hq0) (eqb_t hq1) (show x.active = y.active by simpa using hq2)
  rw [eqb_of hxy]
  rfl

end Go.Proofs.YthciaodffkbljaaGreat
