/- The helpers of the statements for these types: equal, copied, counted. Printed by gen_fam.py. -/
import Derived.Test.YtmmdkchhahnenaaProg
import Derived.Test.YtmmdkchhahnenaaDDbg
set_option linter.unusedSimpArgs false
set_option linter.unusedVariables false
namespace Go.Proofs.Ytmmdkchhahnenaa
open Go Go.RowKit Go.Proofs Go.Tr

set_option maxHeartbeats 2000000 in
theorem eqPort_any (x y : GPort) {b1 b2 us vs} (w : World) (hx : TN w x.enc b1 us) (hy : TN w y.enc b2 vs) :
    Calls Try.prog 284 #[.agg us.toArray, .agg vs.toArray] w fun e w' => e = .returned (.bool (eqb x y)) ∧ Below w.heap.size w w' := by
  obtain ⟨rfl, rfl⟩ := GPort.us hx
  obtain ⟨rfl, rfl⟩ := GPort.us hy
  have HB := ((Below.refl w.heap.size w).alloc (Nat.le_refl _) (.cells #[.int .i64 x.agent, .int .i64 x.slot] 286)).alloc (by simp) (.cells #[.int .i64 y.agent, .int .i64 y.slot] 286)
  go_enter Try.func284, Try.ntmps284
  cases hq0 : (x.agent != y.agent)
  case true =>
    go_wp2_with fail
    go_ret
    exact ⟨by rw [eqb_f (fun e => by rw [e] at hq0; simp at hq0)]; rfl, HB⟩
  cases hq1 : (x.slot != y.slot)
  case true =>
    go_wp2_with fail
    go_ret
    exact ⟨by rw [eqb_f (fun e => by rw [e] at hq1; simp at hq1)]; rfl, HB⟩
  go_wp2_with fail
  go_ret
  refine ⟨?_, HB⟩
  have hxy : x = y := GPort.ext_ (show x.agent = y.agent by simpa using hq0) (show x.slot = y.slot by simpa using hq1)
  rw [eqb_of hxy]
  rfl

set_option maxHeartbeats 1000000 in
theorem eqInt64S_any (xs ys : List Int) {A B : Option Addr} {c d : Nat} {b1 b2} (w : World) (hx : T1 w (.sl xs.length (xs.flatMap intE)) b1 (.slice A xs.length c)) (hy : T1 w (.sl ys.length (ys.flatMap intE)) b2 (.slice B ys.length d)) (hn' : xs.length ≤ maxLen) (hm' : ys.length ≤ maxLen) :
    Calls Try.prog 42 #[.slice A xs.length c, .slice B ys.length d] w fun e w' => e = .returned (.bool (eqb xs ys)) ∧ Below w.heap.size w w' := by
  unfold maxLen at hn' hm'
  by_cases hnm : xs.length = ys.length
  · obtain ⟨n, hn0⟩ : ∃ n, ys.length = n := ⟨_, rfl⟩
    rw [hn0] at hnm
    have hn : Hid (xs.length = n) := hnm
    have hm : Hid (ys.length = n) := hn0
    rw [hnm] at hx hn' ⊢
    rw [hn0] at hy hm' ⊢
    clear hnm hn0
    go_enter Try.func42, Try.ntmps42
    go_wp2_with fail
    go_loopw [5] (fun i w' => ∃ k : Nat, k ≤ n ∧ i = .int .i64 k ∧ Hid (xs.take k = ys.take k) ∧ Below w.heap.size w w') (fun i _ => n - (intOf i).toNat)
    case atStart => exact ⟨0, Nat.zero_le _, rfl, rfl, Below.refl _ _⟩
    case round =>
      obtain ⟨k, hk, rfl, ht, hb⟩ := hrel
      by_cases hlt : k < n
      · obtain ⟨ba, oa, x, rfl, _, hba, hxk, x0⟩ := intE_at (hx.below hb) hn.out hlt
        obtain ⟨bb, ob, y, rfl, _, hbb, hyk, y0⟩ := intE_at (hy.below hb) hm.out hlt
        cases hd : (x != y)
        case true =>
          go_wp2_with fail
          go_quiet (fail)
          go_wp2_with fail
          go_ret
          exact ⟨by rw [eqb_f (ne_at hxk hyk (by rintro rfl; simp at hd))]; rfl, hb.drewN _⟩
        go_wp2_with fail
        go_quiet (fail)
        go_wp2_with fail
        exact ⟨⟨k+1, by omega, by go_num, take_eq_snoc ht hxk hyk (by simpa using hd), hb.drewN _⟩, by simp [intOf]; omega⟩
      · have : k = n := by omega
        subst this
        go_wp2_with fail
        go_ret
        exact ⟨by rw [eqb_of (take_eq_all ht hn hm)]; rfl, hb⟩
  · have hne := eqb_f (ne_len (xs := xs) (ys := ys) rfl rfl hnm)
    generalize xs.length = n at *
    generalize ys.length = m at *
    go_enter Try.func42, Try.ntmps42
    go_wp2_with fail
    go_ret
    exact ⟨by rw [hne]; rfl, Below.refl _ _⟩

set_option maxHeartbeats 1000000 in
theorem eqPortS_any (xs ys : List GPort) {A B : Option Addr} {c d : Nat} {b1 b2} (w : World) (hx : T1 w (.sl xs.length (xs.flatMap GPort.enc)) b1 (.slice A xs.length c)) (hy : T1 w (.sl ys.length (ys.flatMap GPort.enc)) b2 (.slice B ys.length d)) (hn' : xs.length ≤ maxLen) (hm' : ys.length ≤ maxLen) :
    Calls Try.prog 273 #[.slice A xs.length c, .slice B ys.length d] w fun e w' => e = .returned (.bool (eqb xs ys)) ∧ Below w.heap.size w w' := by
  unfold maxLen at hn' hm'
  by_cases hnm : xs.length = ys.length
  · obtain ⟨n, hn0⟩ : ∃ n, ys.length = n := ⟨_, rfl⟩
    rw [hn0] at hnm
    have hn : Hid (xs.length = n) := hnm
    have hm : Hid (ys.length = n) := hn0
    rw [hnm] at hx hn' ⊢
    rw [hn0] at hy hm' ⊢
    clear hnm hn0
    go_enter Try.func273, Try.ntmps273
    go_wp2_with fail
    go_loopw [5] (fun i w' => ∃ k : Nat, k ≤ n ∧ i = .int .i64 k ∧ Hid (xs.take k = ys.take k) ∧ Below w.heap.size w w') (fun i _ => n - (intOf i).toNat)
    case atStart => exact ⟨0, Nat.zero_le _, rfl, rfl, Below.refl _ _⟩
    case round =>
      obtain ⟨k, hk, rfl, ht, hb⟩ := hrel
      by_cases hlt : k < n
      · obtain ⟨ba, oa, x, rfl, hba, hxk, x0, x1⟩ := GPort.get_ (hx.below hb) hn.out hlt
        obtain ⟨bb, ob, y, rfl, hbb, hyk, y0, y1⟩ := GPort.get_ (hy.below hb) hm.out hlt
        have nx := GPort.mk_ (w := wr) (x := x)
        have ny := GPort.mk_ (w := wr) (x := y)
        cases hd : eqb x y
        case false =>
          have hcall := fun e : ExtOf wr => eqPort_any x y _ (nx.below e.h) (ny.below e.h)
          rw [hd] at hcall
          have HC := Lib.hid hcall
          clear hcall
          go_wp2_with fail
          have hext := ExtOf.cell (w := wr)
          refine wp_region_ext_lit (by kernel_rfl) (by kernel_rfl) ?_
          repeat (go_big_quiet_step (exact Calls.quiet_ext (HC.out _)))
          refine wpQuiet_nil ?_
          rintro _ ⟨e, rfl⟩
          have hbe := hb.trans (e.h.mono hb.size)
          clear hext
          go_wp2_with fail
          go_ret
          exact ⟨by rw [eqb_f (ne_at hxk hyk (eqb_nf hd))]; rfl, hbe⟩
        have hcall := fun e : ExtOf wr => eqPort_any x y _ (nx.below e.h) (ny.below e.h)
        rw [hd] at hcall
        have HC := Lib.hid hcall
        clear hcall
        go_wp2_with fail
        have hext := ExtOf.cell (w := wr)
        refine wp_region_ext_lit (by kernel_rfl) (by kernel_rfl) ?_
        repeat (go_big_quiet_step (exact Calls.quiet_ext (HC.out _)))
        refine wpQuiet_nil ?_
        rintro _ ⟨e, rfl⟩
        have hbe := hb.trans (e.h.mono hb.size)
        clear hext
        go_wp2_with fail
        exact ⟨⟨k+1, by omega, by go_num, take_eq_snoc ht hxk hyk (eqb_t hd), hbe⟩, by simp [intOf]; omega⟩
      · have : k = n := by omega
        subst this
        go_wp2_with fail
        go_ret
        exact ⟨by rw [eqb_of (take_eq_all ht hn hm)]; rfl, hb⟩
  · have hne := eqb_f (ne_len (xs := xs) (ys := ys) rfl rfl hnm)
    generalize xs.length = n at *
    generalize ys.length = m at *
    go_enter Try.func273, Try.ntmps273
    go_wp2_with fail
    go_ret
    exact ⟨by rw [hne]; rfl, Below.refl _ _⟩

set_option maxHeartbeats 2000000 in
theorem eqAgent_any (x y : GAgent) {b1 b2 us vs} (w : World) (hx : TN w x.enc b1 us) (hy : TN w y.enc b2 vs) :
    Calls Try.prog 239 #[.agg us.toArray, .agg vs.toArray] w fun e w' => e = .returned (.bool (eqb x y)) ∧ Below w.heap.size w w' := by
  obtain ⟨Ax3, cx3, bx3, Ax4, cx4, bx4, rfl, rfl, tx3, lx3, mx3, tx4, lx4, mx4⟩ := GAgent.us hx
  obtain ⟨Ay3, cy3, by3, Ay4, cy4, by4, rfl, rfl, ty3, ly3, my3, ty4, ly4, my4⟩ := GAgent.us hy
  have HB := ((Below.refl w.heap.size w).alloc (Nat.le_refl _) (.cells #[.int .i64 x.kind, .int .i64 x.level, .int .i64 x.value, .slice Ax3 x.data.length cx3, .slice Ax4 x.ports.length cx4] 227)).alloc (by simp) (.cells #[.int .i64 y.kind, .int .i64 y.level, .int .i64 y.value, .slice Ay3 y.data.length cy3, .slice Ay4 y.ports.length cy4] 227)
  go_enter Try.func239, Try.ntmps239
  cases hq0 : (x.kind != y.kind)
  case true =>
    go_wp2_with fail
    go_ret
    exact ⟨by rw [eqb_f (fun e => by rw [e] at hq0; simp at hq0)]; rfl, HB⟩
  cases hq1 : (x.level != y.level)
  case true =>
    go_wp2_with fail
    go_ret
    exact ⟨by rw [eqb_f (fun e => by rw [e] at hq1; simp at hq1)]; rfl, HB⟩
  cases hq2 : (x.value != y.value)
  case true =>
    go_wp2_with fail
    go_ret
    exact ⟨by rw [eqb_f (fun e => by rw [e] at hq2; simp at hq2)]; rfl, HB⟩
  have sx3 := tx3.below HB
  have sy3 := ty3.below HB
  go_wp2_with fail
  refine (eqInt64S_any x.data y.data _ sx3 sy3 (Nat.le_trans lx3 mx3) (Nat.le_trans ly3 my3)).mono ?_
  rintro e w1 ⟨rfl, hb1⟩
  have B1 := HB.trans (hb1.mono HB.size)
  obtain ⟨hc1, hf1⟩ := bcell hb1
  have hz1 : w.heap.size + 1 < w1.heap.size := by have := hb1.size; simp at this; omega
  have ha1 := fun o => hc1 w.heap.size o (by first | (simp; done) | (simp; omega))
  have he1 := fun o => hc1 (w.heap.size + 1) o (by first | (simp; done) | (simp; omega))
  have hg1 := fun o => hf1 w.heap.size o (by first | (simp; done) | (simp; omega))
  have hi1 := fun o => hf1 (w.heap.size + 1) o (by first | (simp; done) | (simp; omega))
  clear hc1 hf1
  clear hb1
  cases hq3 : eqb x.data y.data
  case false =>
    go_wp2_with fail
    go_ret
    exact ⟨by rw [eqb_f (fun e => by rw [e] at hq3; exact absurd hq3 (by simp [eqb_self]))]; rfl, B1⟩
  have sx4 := tx4.below B1
  have sy4 := ty4.below B1
  go_wp2_with fail
  refine (eqPortS_any x.ports y.ports _ sx4 sy4 (Nat.le_trans lx4 mx4) (Nat.le_trans ly4 my4)).mono ?_
  rintro e w2 ⟨rfl, hb2⟩
  have B2 := B1.trans (hb2.mono B1.size)
  obtain ⟨hc2, hf2⟩ := bcell hb2
  have hz2 : w.heap.size + 1 < w2.heap.size := by have := hb2.size; omega
  have ha2 := fun o => (hc2 w.heap.size o (by omega)).trans (ha1 o)
  have he2 := fun o => (hc2 (w.heap.size + 1) o (by omega)).trans (he1 o)
  have hg2 := fun o => (hf2 w.heap.size o (by omega)).trans (hg1 o)
  have hi2 := fun o => (hf2 (w.heap.size + 1) o (by omega)).trans (hi1 o)
  clear hc2 hf2
  clear hb2
  cases hq4 : eqb x.ports y.ports
  case false =>
    go_wp2_with fail
    go_ret
    exact ⟨by rw [eqb_f (fun e => by rw [e] at hq4; exact absurd hq4 (by simp [eqb_self]))]; rfl, B2⟩
  go_wp2_with fail
  go_ret
  refine ⟨?_, B2⟩
  have hxy : x = y := GAgent.ext_ (show x.kind = y.kind by simpa using hq0) (show x.level = y.level by simpa using hq1) (show x.value = y.value by simpa using hq2) (eqb_t hq3) (eqb_t hq4)
  rw [eqb_of hxy]
  rfl

set_option maxHeartbeats 1000000 in
theorem eqAgentS_any (xs ys : List GAgent) {A B : Option Addr} {c d : Nat} {b1 b2} (w : World) (hx : T1 w (.sl xs.length (xs.flatMap GAgent.enc)) b1 (.slice A xs.length c)) (hy : T1 w (.sl ys.length (ys.flatMap GAgent.enc)) b2 (.slice B ys.length d)) (hn' : xs.length ≤ maxLen) (hm' : ys.length ≤ maxLen) :
    Calls Try.prog 177 #[.slice A xs.length c, .slice B ys.length d] w fun e w' => e = .returned (.bool (eqb xs ys)) ∧ Below w.heap.size w w' := by
  unfold maxLen at hn' hm'
  by_cases hnm : xs.length = ys.length
  · obtain ⟨n, hn0⟩ : ∃ n, ys.length = n := ⟨_, rfl⟩
    rw [hn0] at hnm
    have hn : Hid (xs.length = n) := hnm
    have hm : Hid (ys.length = n) := hn0
    rw [hnm] at hx hn' ⊢
    rw [hn0] at hy hm' ⊢
    clear hnm hn0
    go_enter Try.func177, Try.ntmps177
    go_wp2_with fail
    go_loopw [5] (fun i w' => ∃ k : Nat, k ≤ n ∧ i = .int .i64 k ∧ Hid (xs.take k = ys.take k) ∧ Below w.heap.size w w') (fun i _ => n - (intOf i).toNat)
    case atStart => exact ⟨0, Nat.zero_le _, rfl, rfl, Below.refl _ _⟩
    case round =>
      obtain ⟨k, hk, rfl, ht, hb⟩ := hrel
      by_cases hlt : k < n
      · obtain ⟨ba, oa, x, Ax3, cx3, px3, Ax4, cx4, px4, rfl, hba, hxk, x0, x1, x2, x3, x4, tx3, lx3, mx3, tx4, lx4, mx4⟩ := GAgent.get_ (hx.below hb) hn.out hlt
        obtain ⟨bb, ob, y, Ay3, cy3, py3, Ay4, cy4, py4, rfl, hbb, hyk, y0, y1, y2, y3, y4, ty3, ly3, my3, ty4, ly4, my4⟩ := GAgent.get_ (hy.below hb) hm.out hlt
        have nx := GAgent.mk_ (w := wr) (x := x) tx3 tx4
        have ny := GAgent.mk_ (w := wr) (x := y) ty3 ty4
        cases hd : eqb x y
        case false =>
          have hcall := fun e : ExtOf wr => eqAgent_any x y _ (nx.below e.h) (ny.below e.h)
          rw [hd] at hcall
          have HC := Lib.hid hcall
          clear hcall
          go_wp2_with fail
          have hext := ExtOf.cell (w := wr)
          refine wp_region_ext_lit (by kernel_rfl) (by kernel_rfl) ?_
          repeat (go_big_quiet_step (exact Calls.quiet_ext (HC.out _)))
          refine wpQuiet_nil ?_
          rintro _ ⟨e, rfl⟩
          have hbe := hb.trans (e.h.mono hb.size)
          clear hext
          go_wp2_with fail
          go_ret
          exact ⟨by rw [eqb_f (ne_at hxk hyk (eqb_nf hd))]; rfl, hbe⟩
        have hcall := fun e : ExtOf wr => eqAgent_any x y _ (nx.below e.h) (ny.below e.h)
        rw [hd] at hcall
        have HC := Lib.hid hcall
        clear hcall
        go_wp2_with fail
        have hext := ExtOf.cell (w := wr)
        refine wp_region_ext_lit (by kernel_rfl) (by kernel_rfl) ?_
        repeat (go_big_quiet_step (exact Calls.quiet_ext (HC.out _)))
        refine wpQuiet_nil ?_
        rintro _ ⟨e, rfl⟩
        have hbe := hb.trans (e.h.mono hb.size)
        clear hext
        go_wp2_with fail
        exact ⟨⟨k+1, by omega, by go_num, take_eq_snoc ht hxk hyk (eqb_t hd), hbe⟩, by simp [intOf]; omega⟩
      · have : k = n := by omega
        subst this
        go_wp2_with fail
        go_ret
        exact ⟨by rw [eqb_of (take_eq_all ht hn hm)]; rfl, hb⟩
  · have hne := eqb_f (ne_len (xs := xs) (ys := ys) rfl rfl hnm)
    generalize xs.length = n at *
    generalize ys.length = m at *
    go_enter Try.func177, Try.ntmps177
    go_wp2_with fail
    go_ret
    exact ⟨by rw [hne]; rfl, Below.refl _ _⟩

set_option maxHeartbeats 2000000 in
theorem eqNet_any (x y : GNet) {b1 b2 us vs} (w : World) (hx : TN w x.enc b1 us) (hy : TN w y.enc b2 vs) :
    Calls Try.prog 93 #[.agg us.toArray, .agg vs.toArray] w fun e w' => e = .returned (.bool (eqb x y)) ∧ Below w.heap.size w w' := by
  obtain ⟨Ax0, cx0, bx0, rfl, rfl, tx0, lx0, mx0⟩ := GNet.us hx
  obtain ⟨Ay0, cy0, by0, rfl, rfl, ty0, ly0, my0⟩ := GNet.us hy
  have HB := ((Below.refl w.heap.size w).alloc (Nat.le_refl _) (.cells #[.slice Ax0 x.agents.length cx0] 67)).alloc (by simp) (.cells #[.slice Ay0 y.agents.length cy0] 67)
  go_enter Try.func93, Try.ntmps93
  have sx0 := tx0.below HB
  have sy0 := ty0.below HB
  go_wp2_with fail
  refine (eqAgentS_any x.agents y.agents _ sx0 sy0 (Nat.le_trans lx0 mx0) (Nat.le_trans ly0 my0)).mono ?_
  rintro e w1 ⟨rfl, hb1⟩
  have B1 := HB.trans (hb1.mono HB.size)
  obtain ⟨hc1, hf1⟩ := bcell hb1
  have hz1 : w.heap.size + 1 < w1.heap.size := by have := hb1.size; simp at this; omega
  have ha1 := fun o => hc1 w.heap.size o (by first | (simp; done) | (simp; omega))
  have he1 := fun o => hc1 (w.heap.size + 1) o (by first | (simp; done) | (simp; omega))
  have hg1 := fun o => hf1 w.heap.size o (by first | (simp; done) | (simp; omega))
  have hi1 := fun o => hf1 (w.heap.size + 1) o (by first | (simp; done) | (simp; omega))
  clear hc1 hf1
  clear hb1
  cases hq0 : eqb x.agents y.agents
  case false =>
    go_wp2_with fail
    go_ret
    exact ⟨by rw [eqb_f (fun e => by rw [e] at hq0; exact absurd hq0 (by simp [eqb_self]))]; rfl, B1⟩
  go_wp2_with fail
  go_ret
  refine ⟨?_, B1⟩
  have hxy : x = y := GNet.ext_ (eqb_t hq0)
  rw [eqb_of hxy]
  rfl

set_option maxHeartbeats 2000000 in
theorem eqOrigin_any (x y : GOrigin) {b1 b2 us vs} (w : World) (hx : TN w x.enc b1 us) (hy : TN w y.enc b2 vs) :
    Calls Try.prog 178 #[.agg us.toArray, .agg vs.toArray] w fun e w' => e = .returned (.bool (eqb x y)) ∧ Below w.heap.size w w' := by
  obtain ⟨rfl, rfl⟩ := GOrigin.us hx
  obtain ⟨rfl, rfl⟩ := GOrigin.us hy
  have HB := ((Below.refl w.heap.size w).alloc (Nat.le_refl _) (.cells #[.int .i64 x.step, .int .i64 x.def_, .int .i64 x.source] 154)).alloc (by simp) (.cells #[.int .i64 y.step, .int .i64 y.def_, .int .i64 y.source] 154)
  go_enter Try.func178, Try.ntmps178
  cases hq0 : (x.step != y.step)
  case true =>
    go_wp2_with fail
    go_ret
    exact ⟨by rw [eqb_f (fun e => by rw [e] at hq0; simp at hq0)]; rfl, HB⟩
  cases hq1 : (x.def_ != y.def_)
  case true =>
    go_wp2_with fail
    go_ret
    exact ⟨by rw [eqb_f (fun e => by rw [e] at hq1; simp at hq1)]; rfl, HB⟩
  cases hq2 : (x.source != y.source)
  case true =>
    go_wp2_with fail
    go_ret
    exact ⟨by rw [eqb_f (fun e => by rw [e] at hq2; simp at hq2)]; rfl, HB⟩
  go_wp2_with fail
  go_ret
  refine ⟨?_, HB⟩
  have hxy : x = y := GOrigin.ext_ (show x.step = y.step by simpa using hq0) (show x.def_ = y.def_ by simpa using hq1) (show x.source = y.source by simpa using hq2)
  rw [eqb_of hxy]
  rfl

set_option maxHeartbeats 2000000 in
theorem eqBreak_any (x y : GBreak) {b1 b2 us vs} (w : World) (hx : TN w x.enc b1 us) (hy : TN w y.enc b2 vs) :
    Calls Try.prog 179 #[.agg us.toArray, .agg vs.toArray] w fun e w' => e = .returned (.bool (eqb x y)) ∧ Below w.heap.size w w' := by
  obtain ⟨rfl, rfl⟩ := GBreak.us hx
  obtain ⟨rfl, rfl⟩ := GBreak.us hy
  have HB := ((Below.refl w.heap.size w).alloc (Nat.le_refl _) (.cells #[.int .i64 x.kind, .int .i64 x.value] 142)).alloc (by simp) (.cells #[.int .i64 y.kind, .int .i64 y.value] 142)
  go_enter Try.func179, Try.ntmps179
  cases hq0 : (x.kind != y.kind)
  case true =>
    go_wp2_with fail
    go_ret
    exact ⟨by rw [eqb_f (fun e => by rw [e] at hq0; simp at hq0)]; rfl, HB⟩
  cases hq1 : (x.value != y.value)
  case true =>
    go_wp2_with fail
    go_ret
    exact ⟨by rw [eqb_f (fun e => by rw [e] at hq1; simp at hq1)]; rfl, HB⟩
  go_wp2_with fail
  go_ret
  refine ⟨?_, HB⟩
  have hxy : x = y := GBreak.ext_ (show x.kind = y.kind by simpa using hq0) (show x.value = y.value by simpa using hq1)
  rw [eqb_of hxy]
  rfl

set_option maxHeartbeats 1000000 in
theorem eqOriginS_any (xs ys : List GOrigin) {A B : Option Addr} {c d : Nat} {b1 b2} (w : World) (hx : T1 w (.sl xs.length (xs.flatMap GOrigin.enc)) b1 (.slice A xs.length c)) (hy : T1 w (.sl ys.length (ys.flatMap GOrigin.enc)) b2 (.slice B ys.length d)) (hn' : xs.length ≤ maxLen) (hm' : ys.length ≤ maxLen) :
    Calls Try.prog 94 #[.slice A xs.length c, .slice B ys.length d] w fun e w' => e = .returned (.bool (eqb xs ys)) ∧ Below w.heap.size w w' := by
  unfold maxLen at hn' hm'
  by_cases hnm : xs.length = ys.length
  · obtain ⟨n, hn0⟩ : ∃ n, ys.length = n := ⟨_, rfl⟩
    rw [hn0] at hnm
    have hn : Hid (xs.length = n) := hnm
    have hm : Hid (ys.length = n) := hn0
    rw [hnm] at hx hn' ⊢
    rw [hn0] at hy hm' ⊢
    clear hnm hn0
    go_enter Try.func94, Try.ntmps94
    go_wp2_with fail
    go_loopw [5] (fun i w' => ∃ k : Nat, k ≤ n ∧ i = .int .i64 k ∧ Hid (xs.take k = ys.take k) ∧ Below w.heap.size w w') (fun i _ => n - (intOf i).toNat)
    case atStart => exact ⟨0, Nat.zero_le _, rfl, rfl, Below.refl _ _⟩
    case round =>
      obtain ⟨k, hk, rfl, ht, hb⟩ := hrel
      by_cases hlt : k < n
      · obtain ⟨ba, oa, x, rfl, hba, hxk, x0, x1, x2⟩ := GOrigin.get_ (hx.below hb) hn.out hlt
        obtain ⟨bb, ob, y, rfl, hbb, hyk, y0, y1, y2⟩ := GOrigin.get_ (hy.below hb) hm.out hlt
        have nx := GOrigin.mk_ (w := wr) (x := x)
        have ny := GOrigin.mk_ (w := wr) (x := y)
        cases hd : eqb x y
        case false =>
          have hcall := fun e : ExtOf wr => eqOrigin_any x y _ (nx.below e.h) (ny.below e.h)
          rw [hd] at hcall
          have HC := Lib.hid hcall
          clear hcall
          go_wp2_with fail
          have hext := ExtOf.cell (w := wr)
          refine wp_region_ext_lit (by kernel_rfl) (by kernel_rfl) ?_
          repeat (go_big_quiet_step (exact Calls.quiet_ext (HC.out _)))
          refine wpQuiet_nil ?_
          rintro _ ⟨e, rfl⟩
          have hbe := hb.trans (e.h.mono hb.size)
          clear hext
          go_wp2_with fail
          go_ret
          exact ⟨by rw [eqb_f (ne_at hxk hyk (eqb_nf hd))]; rfl, hbe⟩
        have hcall := fun e : ExtOf wr => eqOrigin_any x y _ (nx.below e.h) (ny.below e.h)
        rw [hd] at hcall
        have HC := Lib.hid hcall
        clear hcall
        go_wp2_with fail
        have hext := ExtOf.cell (w := wr)
        refine wp_region_ext_lit (by kernel_rfl) (by kernel_rfl) ?_
        repeat (go_big_quiet_step (exact Calls.quiet_ext (HC.out _)))
        refine wpQuiet_nil ?_
        rintro _ ⟨e, rfl⟩
        have hbe := hb.trans (e.h.mono hb.size)
        clear hext
        go_wp2_with fail
        exact ⟨⟨k+1, by omega, by go_num, take_eq_snoc ht hxk hyk (eqb_t hd), hbe⟩, by simp [intOf]; omega⟩
      · have : k = n := by omega
        subst this
        go_wp2_with fail
        go_ret
        exact ⟨by rw [eqb_of (take_eq_all ht hn hm)]; rfl, hb⟩
  · have hne := eqb_f (ne_len (xs := xs) (ys := ys) rfl rfl hnm)
    generalize xs.length = n at *
    generalize ys.length = m at *
    go_enter Try.func94, Try.ntmps94
    go_wp2_with fail
    go_ret
    exact ⟨by rw [hne]; rfl, Below.refl _ _⟩

set_option maxHeartbeats 2000000 in
theorem eqCheckpoint_any (x y : GCheckpoint) {b1 b2 us vs} (w : World) (hx : TN w x.enc b1 us) (hy : TN w y.enc b2 vs) :
    Calls Try.prog 180 #[.agg us.toArray, .agg vs.toArray] w fun e w' => e = .returned (.bool (eqb x y)) ∧ Below w.heap.size w w' := by
  obtain ⟨Ax1, cx1, bx1, Ax2, cx2, bx2, rfl, rfl, tx1, lx1, mx1, tx2, lx2, mx2⟩ := GCheckpoint.us hx
  obtain ⟨Ay1, cy1, by1, Ay2, cy2, by2, rfl, rfl, ty1, ly1, my1, ty2, ly2, my2⟩ := GCheckpoint.us hy
  have HB := ((Below.refl w.heap.size w).alloc (Nat.le_refl _) (.cells #[.int .i64 x.at_, .slice Ax1 x.net.agents.length cx1, .slice Ax2 x.origins.length cx2] 145)).alloc (by simp) (.cells #[.int .i64 y.at_, .slice Ay1 y.net.agents.length cy1, .slice Ay2 y.origins.length cy2] 145)
  go_enter Try.func180, Try.ntmps180
  cases hq0 : (x.at_ != y.at_)
  case true =>
    go_wp2_with fail
    go_ret
    exact ⟨by rw [eqb_f (fun e => by rw [e] at hq0; simp at hq0)]; rfl, HB⟩
  have nx1 := GNet.mk_ (x := x.net) (tx1.below HB)
  have ny1 := GNet.mk_ (x := y.net) (ty1.below HB)
  go_wp2_with fail
  refine (eqNet_any x.net y.net _ nx1 ny1).mono ?_
  rintro e w1 ⟨rfl, hb1⟩
  have B1 := HB.trans (hb1.mono HB.size)
  obtain ⟨hc1, hf1⟩ := bcell hb1
  have hz1 : w.heap.size + 1 < w1.heap.size := by have := hb1.size; simp at this; omega
  have ha1 := fun o => hc1 w.heap.size o (by first | (simp; done) | (simp; omega))
  have he1 := fun o => hc1 (w.heap.size + 1) o (by first | (simp; done) | (simp; omega))
  have hg1 := fun o => hf1 w.heap.size o (by first | (simp; done) | (simp; omega))
  have hi1 := fun o => hf1 (w.heap.size + 1) o (by first | (simp; done) | (simp; omega))
  clear hc1 hf1
  clear hb1
  cases hq1 : eqb x.net y.net
  case false =>
    go_wp2_with fail
    go_ret
    exact ⟨by rw [eqb_f (fun e => by rw [e] at hq1; exact absurd hq1 (by simp [eqb_self]))]; rfl, B1⟩
  have sx2 := tx2.below B1
  have sy2 := ty2.below B1
  go_wp2_with fail
  refine (eqOriginS_any x.origins y.origins _ sx2 sy2 (Nat.le_trans lx2 mx2) (Nat.le_trans ly2 my2)).mono ?_
  rintro e w2 ⟨rfl, hb2⟩
  have B2 := B1.trans (hb2.mono B1.size)
  obtain ⟨hc2, hf2⟩ := bcell hb2
  have hz2 : w.heap.size + 1 < w2.heap.size := by have := hb2.size; omega
  have ha2 := fun o => (hc2 w.heap.size o (by omega)).trans (ha1 o)
  have he2 := fun o => (hc2 (w.heap.size + 1) o (by omega)).trans (he1 o)
  have hg2 := fun o => (hf2 w.heap.size o (by omega)).trans (hg1 o)
  have hi2 := fun o => (hf2 (w.heap.size + 1) o (by omega)).trans (hi1 o)
  clear hc2 hf2
  clear hb2
  cases hq2 : eqb x.origins y.origins
  case false =>
    go_wp2_with fail
    go_ret
    exact ⟨by rw [eqb_f (fun e => by rw [e] at hq2; exact absurd hq2 (by simp [eqb_self]))]; rfl, B2⟩
  go_wp2_with fail
  go_ret
  refine ⟨?_, B2⟩
  have hxy : x = y := GCheckpoint.ext_ (show x.at_ = y.at_ by simpa using hq0) (eqb_t hq1) (eqb_t hq2)
  rw [eqb_of hxy]
  rfl

set_option maxHeartbeats 1000000 in
theorem eqNetS_any (xs ys : List GNet) {A B : Option Addr} {c d : Nat} {b1 b2} (w : World) (hx : T1 w (.sl xs.length (xs.flatMap GNet.enc)) b1 (.slice A xs.length c)) (hy : T1 w (.sl ys.length (ys.flatMap GNet.enc)) b2 (.slice B ys.length d)) (hn' : xs.length ≤ maxLen) (hm' : ys.length ≤ maxLen) :
    Calls Try.prog 92 #[.slice A xs.length c, .slice B ys.length d] w fun e w' => e = .returned (.bool (eqb xs ys)) ∧ Below w.heap.size w w' := by
  unfold maxLen at hn' hm'
  by_cases hnm : xs.length = ys.length
  · obtain ⟨n, hn0⟩ : ∃ n, ys.length = n := ⟨_, rfl⟩
    rw [hn0] at hnm
    have hn : Hid (xs.length = n) := hnm
    have hm : Hid (ys.length = n) := hn0
    rw [hnm] at hx hn' ⊢
    rw [hn0] at hy hm' ⊢
    clear hnm hn0
    go_enter Try.func92, Try.ntmps92
    go_wp2_with fail
    go_loopw [5] (fun i w' => ∃ k : Nat, k ≤ n ∧ i = .int .i64 k ∧ Hid (xs.take k = ys.take k) ∧ Below w.heap.size w w') (fun i _ => n - (intOf i).toNat)
    case atStart => exact ⟨0, Nat.zero_le _, rfl, rfl, Below.refl _ _⟩
    case round =>
      obtain ⟨k, hk, rfl, ht, hb⟩ := hrel
      by_cases hlt : k < n
      · obtain ⟨ba, oa, x, Ax0, cx0, px0, rfl, hba, hxk, x0, tx0, lx0, mx0⟩ := GNet.get_ (hx.below hb) hn.out hlt
        obtain ⟨bb, ob, y, Ay0, cy0, py0, rfl, hbb, hyk, y0, ty0, ly0, my0⟩ := GNet.get_ (hy.below hb) hm.out hlt
        have nx := GNet.mk_ (w := wr) (x := x) tx0
        have ny := GNet.mk_ (w := wr) (x := y) ty0
        cases hd : eqb x y
        case false =>
          have hcall := fun e : ExtOf wr => eqNet_any x y _ (nx.below e.h) (ny.below e.h)
          rw [hd] at hcall
          have HC := Lib.hid hcall
          clear hcall
          go_wp2_with fail
          have hext := ExtOf.cell (w := wr)
          refine wp_region_ext_lit (by kernel_rfl) (by kernel_rfl) ?_
          repeat (go_big_quiet_step (exact Calls.quiet_ext (HC.out _)))
          refine wpQuiet_nil ?_
          rintro _ ⟨e, rfl⟩
          have hbe := hb.trans (e.h.mono hb.size)
          clear hext
          go_wp2_with fail
          go_ret
          exact ⟨by rw [eqb_f (ne_at hxk hyk (eqb_nf hd))]; rfl, hbe⟩
        have hcall := fun e : ExtOf wr => eqNet_any x y _ (nx.below e.h) (ny.below e.h)
        rw [hd] at hcall
        have HC := Lib.hid hcall
        clear hcall
        go_wp2_with fail
        have hext := ExtOf.cell (w := wr)
        refine wp_region_ext_lit (by kernel_rfl) (by kernel_rfl) ?_
        repeat (go_big_quiet_step (exact Calls.quiet_ext (HC.out _)))
        refine wpQuiet_nil ?_
        rintro _ ⟨e, rfl⟩
        have hbe := hb.trans (e.h.mono hb.size)
        clear hext
        go_wp2_with fail
        exact ⟨⟨k+1, by omega, by go_num, take_eq_snoc ht hxk hyk (eqb_t hd), hbe⟩, by simp [intOf]; omega⟩
      · have : k = n := by omega
        subst this
        go_wp2_with fail
        go_ret
        exact ⟨by rw [eqb_of (take_eq_all ht hn hm)]; rfl, hb⟩
  · have hne := eqb_f (ne_len (xs := xs) (ys := ys) rfl rfl hnm)
    generalize xs.length = n at *
    generalize ys.length = m at *
    go_enter Try.func92, Try.ntmps92
    go_wp2_with fail
    go_ret
    exact ⟨by rw [hne]; rfl, Below.refl _ _⟩

set_option maxHeartbeats 1000000 in
theorem eqBreakS_any (xs ys : List GBreak) {A B : Option Addr} {c d : Nat} {b1 b2} (w : World) (hx : T1 w (.sl xs.length (xs.flatMap GBreak.enc)) b1 (.slice A xs.length c)) (hy : T1 w (.sl ys.length (ys.flatMap GBreak.enc)) b2 (.slice B ys.length d)) (hn' : xs.length ≤ maxLen) (hm' : ys.length ≤ maxLen) :
    Calls Try.prog 95 #[.slice A xs.length c, .slice B ys.length d] w fun e w' => e = .returned (.bool (eqb xs ys)) ∧ Below w.heap.size w w' := by
  unfold maxLen at hn' hm'
  by_cases hnm : xs.length = ys.length
  · obtain ⟨n, hn0⟩ : ∃ n, ys.length = n := ⟨_, rfl⟩
    rw [hn0] at hnm
    have hn : Hid (xs.length = n) := hnm
    have hm : Hid (ys.length = n) := hn0
    rw [hnm] at hx hn' ⊢
    rw [hn0] at hy hm' ⊢
    clear hnm hn0
    go_enter Try.func95, Try.ntmps95
    go_wp2_with fail
    go_loopw [5] (fun i w' => ∃ k : Nat, k ≤ n ∧ i = .int .i64 k ∧ Hid (xs.take k = ys.take k) ∧ Below w.heap.size w w') (fun i _ => n - (intOf i).toNat)
    case atStart => exact ⟨0, Nat.zero_le _, rfl, rfl, Below.refl _ _⟩
    case round =>
      obtain ⟨k, hk, rfl, ht, hb⟩ := hrel
      by_cases hlt : k < n
      · obtain ⟨ba, oa, x, rfl, hba, hxk, x0, x1⟩ := GBreak.get_ (hx.below hb) hn.out hlt
        obtain ⟨bb, ob, y, rfl, hbb, hyk, y0, y1⟩ := GBreak.get_ (hy.below hb) hm.out hlt
        have nx := GBreak.mk_ (w := wr) (x := x)
        have ny := GBreak.mk_ (w := wr) (x := y)
        cases hd : eqb x y
        case false =>
          have hcall := fun e : ExtOf wr => eqBreak_any x y _ (nx.below e.h) (ny.below e.h)
          rw [hd] at hcall
          have HC := Lib.hid hcall
          clear hcall
          go_wp2_with fail
          have hext := ExtOf.cell (w := wr)
          refine wp_region_ext_lit (by kernel_rfl) (by kernel_rfl) ?_
          repeat (go_big_quiet_step (exact Calls.quiet_ext (HC.out _)))
          refine wpQuiet_nil ?_
          rintro _ ⟨e, rfl⟩
          have hbe := hb.trans (e.h.mono hb.size)
          clear hext
          go_wp2_with fail
          go_ret
          exact ⟨by rw [eqb_f (ne_at hxk hyk (eqb_nf hd))]; rfl, hbe⟩
        have hcall := fun e : ExtOf wr => eqBreak_any x y _ (nx.below e.h) (ny.below e.h)
        rw [hd] at hcall
        have HC := Lib.hid hcall
        clear hcall
        go_wp2_with fail
        have hext := ExtOf.cell (w := wr)
        refine wp_region_ext_lit (by kernel_rfl) (by kernel_rfl) ?_
        repeat (go_big_quiet_step (exact Calls.quiet_ext (HC.out _)))
        refine wpQuiet_nil ?_
        rintro _ ⟨e, rfl⟩
        have hbe := hb.trans (e.h.mono hb.size)
        clear hext
        go_wp2_with fail
        exact ⟨⟨k+1, by omega, by go_num, take_eq_snoc ht hxk hyk (eqb_t hd), hbe⟩, by simp [intOf]; omega⟩
      · have : k = n := by omega
        subst this
        go_wp2_with fail
        go_ret
        exact ⟨by rw [eqb_of (take_eq_all ht hn hm)]; rfl, hb⟩
  · have hne := eqb_f (ne_len (xs := xs) (ys := ys) rfl rfl hnm)
    generalize xs.length = n at *
    generalize ys.length = m at *
    go_enter Try.func95, Try.ntmps95
    go_wp2_with fail
    go_ret
    exact ⟨by rw [hne]; rfl, Below.refl _ _⟩

set_option maxHeartbeats 1000000 in
theorem eqCheckpointS_any (xs ys : List GCheckpoint) {A B : Option Addr} {c d : Nat} {b1 b2} (w : World) (hx : T1 w (.sl xs.length (xs.flatMap GCheckpoint.enc)) b1 (.slice A xs.length c)) (hy : T1 w (.sl ys.length (ys.flatMap GCheckpoint.enc)) b2 (.slice B ys.length d)) (hn' : xs.length ≤ maxLen) (hm' : ys.length ≤ maxLen) :
    Calls Try.prog 96 #[.slice A xs.length c, .slice B ys.length d] w fun e w' => e = .returned (.bool (eqb xs ys)) ∧ Below w.heap.size w w' := by
  unfold maxLen at hn' hm'
  by_cases hnm : xs.length = ys.length
  · obtain ⟨n, hn0⟩ : ∃ n, ys.length = n := ⟨_, rfl⟩
    rw [hn0] at hnm
    have hn : Hid (xs.length = n) := hnm
    have hm : Hid (ys.length = n) := hn0
    rw [hnm] at hx hn' ⊢
    rw [hn0] at hy hm' ⊢
    clear hnm hn0
    go_enter Try.func96, Try.ntmps96
    go_wp2_with fail
    go_loopw [5] (fun i w' => ∃ k : Nat, k ≤ n ∧ i = .int .i64 k ∧ Hid (xs.take k = ys.take k) ∧ Below w.heap.size w w') (fun i _ => n - (intOf i).toNat)
    case atStart => exact ⟨0, Nat.zero_le _, rfl, rfl, Below.refl _ _⟩
    case round =>
      obtain ⟨k, hk, rfl, ht, hb⟩ := hrel
      by_cases hlt : k < n
      · obtain ⟨ba, oa, x, Ax1, cx1, px1, Ax2, cx2, px2, rfl, hba, hxk, x0, x1, x2, tx1, lx1, mx1, tx2, lx2, mx2⟩ := GCheckpoint.get_ (hx.below hb) hn.out hlt
        obtain ⟨bb, ob, y, Ay1, cy1, py1, Ay2, cy2, py2, rfl, hbb, hyk, y0, y1, y2, ty1, ly1, my1, ty2, ly2, my2⟩ := GCheckpoint.get_ (hy.below hb) hm.out hlt
        have nx := GCheckpoint.mk_ (w := wr) (x := x) tx1 tx2
        have ny := GCheckpoint.mk_ (w := wr) (x := y) ty1 ty2
        cases hd : eqb x y
        case false =>
          have hcall := fun e : ExtOf wr => eqCheckpoint_any x y _ (nx.below e.h) (ny.below e.h)
          rw [hd] at hcall
          have HC := Lib.hid hcall
          clear hcall
          go_wp2_with fail
          have hext := ExtOf.cell (w := wr)
          refine wp_region_ext_lit (by kernel_rfl) (by kernel_rfl) ?_
          repeat (go_big_quiet_step (exact Calls.quiet_ext (HC.out _)))
          refine wpQuiet_nil ?_
          rintro _ ⟨e, rfl⟩
          have hbe := hb.trans (e.h.mono hb.size)
          clear hext
          go_wp2_with fail
          go_ret
          exact ⟨by rw [eqb_f (ne_at hxk hyk (eqb_nf hd))]; rfl, hbe⟩
        have hcall := fun e : ExtOf wr => eqCheckpoint_any x y _ (nx.below e.h) (ny.below e.h)
        rw [hd] at hcall
        have HC := Lib.hid hcall
        clear hcall
        go_wp2_with fail
        have hext := ExtOf.cell (w := wr)
        refine wp_region_ext_lit (by kernel_rfl) (by kernel_rfl) ?_
        repeat (go_big_quiet_step (exact Calls.quiet_ext (HC.out _)))
        refine wpQuiet_nil ?_
        rintro _ ⟨e, rfl⟩
        have hbe := hb.trans (e.h.mono hb.size)
        clear hext
        go_wp2_with fail
        exact ⟨⟨k+1, by omega, by go_num, take_eq_snoc ht hxk hyk (eqb_t hd), hbe⟩, by simp [intOf]; omega⟩
      · have : k = n := by omega
        subst this
        go_wp2_with fail
        go_ret
        exact ⟨by rw [eqb_of (take_eq_all ht hn hm)]; rfl, hb⟩
  · have hne := eqb_f (ne_len (xs := xs) (ys := ys) rfl rfl hnm)
    generalize xs.length = n at *
    generalize ys.length = m at *
    go_enter Try.func96, Try.ntmps96
    go_wp2_with fail
    go_ret
    exact ⟨by rw [hne]; rfl, Below.refl _ _⟩

set_option maxHeartbeats 2000000 in
theorem eqDebugger_any (x y : GDebugger) {b1 b2 us vs} (w : World) (hx : TN w x.enc b1 us) (hy : TN w y.enc b2 vs) :
    Calls Try.prog 24 #[.agg us.toArray, .agg vs.toArray] w fun e w' => e = .returned (.bool (eqb x y)) ∧ Below w.heap.size w w' := by
  obtain ⟨Ax0, cx0, bx0, Ax1, cx1, bx1, Ax4, cx4, bx4, Ax5, cx5, bx5, Ax6, cx6, bx6, Ax7, cx7, bx7, rfl, rfl, tx0, lx0, mx0, tx1, lx1, mx1, tx4, lx4, mx4, tx5, lx5, mx5, tx6, lx6, mx6, tx7, lx7, mx7⟩ := GDebugger.us hx
  obtain ⟨Ay0, cy0, by0, Ay1, cy1, by1, Ay4, cy4, by4, Ay5, cy5, by5, Ay6, cy6, by6, Ay7, cy7, by7, rfl, rfl, ty0, ly0, my0, ty1, ly1, my1, ty4, ly4, my4, ty5, ly5, my5, ty6, ly6, my6, ty7, ly7, my7⟩ := GDebugger.us hy
  have HB := ((Below.refl w.heap.size w).alloc (Nat.le_refl _) (.cells #[.slice Ax0 x.book.length cx0, .slice Ax1 x.schedule.length cx1, .int .i64 x.every, .int .i64 x.at_, .slice Ax4 x.net.agents.length cx4, .slice Ax5 x.origins.length cx5, .slice Ax6 x.breaks.length cx6, .slice Ax7 x.points.length cx7] 72)).alloc (by simp) (.cells #[.slice Ay0 y.book.length cy0, .slice Ay1 y.schedule.length cy1, .int .i64 y.every, .int .i64 y.at_, .slice Ay4 y.net.agents.length cy4, .slice Ay5 y.origins.length cy5, .slice Ay6 y.breaks.length cy6, .slice Ay7 y.points.length cy7] 72)
  go_enter Try.func24, Try.ntmps24
  have sx0 := tx0.below HB
  have sy0 := ty0.below HB
  go_wp2_with fail
  refine (eqNetS_any x.book y.book _ sx0 sy0 (Nat.le_trans lx0 mx0) (Nat.le_trans ly0 my0)).mono ?_
  rintro e w1 ⟨rfl, hb1⟩
  have B1 := HB.trans (hb1.mono HB.size)
  obtain ⟨hc1, hf1⟩ := bcell hb1
  have hz1 : w.heap.size + 1 < w1.heap.size := by have := hb1.size; simp at this; omega
  have ha1 := fun o => hc1 w.heap.size o (by first | (simp; done) | (simp; omega))
  have he1 := fun o => hc1 (w.heap.size + 1) o (by first | (simp; done) | (simp; omega))
  have hg1 := fun o => hf1 w.heap.size o (by first | (simp; done) | (simp; omega))
  have hi1 := fun o => hf1 (w.heap.size + 1) o (by first | (simp; done) | (simp; omega))
  clear hc1 hf1
  clear hb1
  cases hq0 : eqb x.book y.book
  case false =>
    go_wp2_with fail
    go_ret
    exact ⟨by rw [eqb_f (fun e => by rw [e] at hq0; exact absurd hq0 (by simp [eqb_self]))]; rfl, B1⟩
  have sx1 := tx1.below B1
  have sy1 := ty1.below B1
  go_wp2_with fail
  refine (eqInt64S_any x.schedule y.schedule _ sx1 sy1 (Nat.le_trans lx1 mx1) (Nat.le_trans ly1 my1)).mono ?_
  rintro e w2 ⟨rfl, hb2⟩
  have B2 := B1.trans (hb2.mono B1.size)
  obtain ⟨hc2, hf2⟩ := bcell hb2
  have hz2 : w.heap.size + 1 < w2.heap.size := by have := hb2.size; omega
  have ha2 := fun o => (hc2 w.heap.size o (by omega)).trans (ha1 o)
  have he2 := fun o => (hc2 (w.heap.size + 1) o (by omega)).trans (he1 o)
  have hg2 := fun o => (hf2 w.heap.size o (by omega)).trans (hg1 o)
  have hi2 := fun o => (hf2 (w.heap.size + 1) o (by omega)).trans (hi1 o)
  clear hc2 hf2
  clear hb2
  cases hq1 : eqb x.schedule y.schedule
  case false =>
    go_wp2_with fail
    go_ret
    exact ⟨by rw [eqb_f (fun e => by rw [e] at hq1; exact absurd hq1 (by simp [eqb_self]))]; rfl, B2⟩
  cases hq2 : (x.every != y.every)
  case true =>
    go_wp2_with fail
    go_ret
    exact ⟨by rw [eqb_f (fun e => by rw [e] at hq2; simp at hq2)]; rfl, B2⟩
  cases hq3 : (x.at_ != y.at_)
  case true =>
    go_wp2_with fail
    go_ret
    exact ⟨by rw [eqb_f (fun e => by rw [e] at hq3; simp at hq3)]; rfl, B2⟩
  have nx4 := GNet.mk_ (x := x.net) (tx4.below B2)
  have ny4 := GNet.mk_ (x := y.net) (ty4.below B2)
  go_wp2_with fail
  refine (eqNet_any x.net y.net _ nx4 ny4).mono ?_
  rintro e w3 ⟨rfl, hb3⟩
  have B3 := B2.trans (hb3.mono B2.size)
  obtain ⟨hc3, hf3⟩ := bcell hb3
  have hz3 : w.heap.size + 1 < w3.heap.size := by have := hb3.size; omega
  have ha3 := fun o => (hc3 w.heap.size o (by omega)).trans (ha2 o)
  have he3 := fun o => (hc3 (w.heap.size + 1) o (by omega)).trans (he2 o)
  have hg3 := fun o => (hf3 w.heap.size o (by omega)).trans (hg2 o)
  have hi3 := fun o => (hf3 (w.heap.size + 1) o (by omega)).trans (hi2 o)
  clear hc3 hf3
  clear hb3
  cases hq4 : eqb x.net y.net
  case false =>
    go_wp2_with fail
    go_ret
    exact ⟨by rw [eqb_f (fun e => by rw [e] at hq4; exact absurd hq4 (by simp [eqb_self]))]; rfl, B3⟩
  have sx5 := tx5.below B3
  have sy5 := ty5.below B3
  go_wp2_with fail
  refine (eqOriginS_any x.origins y.origins _ sx5 sy5 (Nat.le_trans lx5 mx5) (Nat.le_trans ly5 my5)).mono ?_
  rintro e w4 ⟨rfl, hb4⟩
  have B4 := B3.trans (hb4.mono B3.size)
  obtain ⟨hc4, hf4⟩ := bcell hb4
  have hz4 : w.heap.size + 1 < w4.heap.size := by have := hb4.size; omega
  have ha4 := fun o => (hc4 w.heap.size o (by omega)).trans (ha3 o)
  have he4 := fun o => (hc4 (w.heap.size + 1) o (by omega)).trans (he3 o)
  have hg4 := fun o => (hf4 w.heap.size o (by omega)).trans (hg3 o)
  have hi4 := fun o => (hf4 (w.heap.size + 1) o (by omega)).trans (hi3 o)
  clear hc4 hf4
  clear hb4
  cases hq5 : eqb x.origins y.origins
  case false =>
    go_wp2_with fail
    go_ret
    exact ⟨by rw [eqb_f (fun e => by rw [e] at hq5; exact absurd hq5 (by simp [eqb_self]))]; rfl, B4⟩
  have sx6 := tx6.below B4
  have sy6 := ty6.below B4
  go_wp2_with fail
  refine (eqBreakS_any x.breaks y.breaks _ sx6 sy6 (Nat.le_trans lx6 mx6) (Nat.le_trans ly6 my6)).mono ?_
  rintro e w5 ⟨rfl, hb5⟩
  have B5 := B4.trans (hb5.mono B4.size)
  obtain ⟨hc5, hf5⟩ := bcell hb5
  have hz5 : w.heap.size + 1 < w5.heap.size := by have := hb5.size; omega
  have ha5 := fun o => (hc5 w.heap.size o (by omega)).trans (ha4 o)
  have he5 := fun o => (hc5 (w.heap.size + 1) o (by omega)).trans (he4 o)
  have hg5 := fun o => (hf5 w.heap.size o (by omega)).trans (hg4 o)
  have hi5 := fun o => (hf5 (w.heap.size + 1) o (by omega)).trans (hi4 o)
  clear hc5 hf5
  clear hb5
  cases hq6 : eqb x.breaks y.breaks
  case false =>
    go_wp2_with fail
    go_ret
    exact ⟨by rw [eqb_f (fun e => by rw [e] at hq6; exact absurd hq6 (by simp [eqb_self]))]; rfl, B5⟩
  have sx7 := tx7.below B5
  have sy7 := ty7.below B5
  go_wp2_with fail
  refine (eqCheckpointS_any x.points y.points _ sx7 sy7 (Nat.le_trans lx7 mx7) (Nat.le_trans ly7 my7)).mono ?_
  rintro e w6 ⟨rfl, hb6⟩
  have B6 := B5.trans (hb6.mono B5.size)
  obtain ⟨hc6, hf6⟩ := bcell hb6
  have hz6 : w.heap.size + 1 < w6.heap.size := by have := hb6.size; omega
  have ha6 := fun o => (hc6 w.heap.size o (by omega)).trans (ha5 o)
  have he6 := fun o => (hc6 (w.heap.size + 1) o (by omega)).trans (he5 o)
  have hg6 := fun o => (hf6 w.heap.size o (by omega)).trans (hg5 o)
  have hi6 := fun o => (hf6 (w.heap.size + 1) o (by omega)).trans (hi5 o)
  clear hc6 hf6
  clear hb6
  cases hq7 : eqb x.points y.points
  case false =>
    go_wp2_with fail
    go_ret
    exact ⟨by rw [eqb_f (fun e => by rw [e] at hq7; exact absurd hq7 (by simp [eqb_self]))]; rfl, B6⟩
  go_wp2_with fail
  go_ret
  refine ⟨?_, B6⟩
  have hxy : x = y := GDebugger.ext_ (eqb_t hq0) (eqb_t hq1) (show x.every = y.every by simpa using hq2) (show x.at_ = y.at_ by simpa using hq3) (eqb_t hq4) (eqb_t hq5) (eqb_t hq6) (eqb_t hq7)
  rw [eqb_of hxy]
  rfl

end Go.Proofs.Ytmmdkchhahnenaa
