/- The helpers of the statements for these types: equal, copied, counted. Printed by gen_fam.py. -/
import Derived.Test.YtieemijapiiiiaaGreatProg
import Derived.Test.YtieemijapiiiiaaGreatDCr
set_option linter.unusedSimpArgs false
set_option linter.unusedVariables false
namespace Go.Proofs.YtieemijapiiiiaaGreat
open Go Go.RowKit Go.Proofs Go.Tr

set_option maxHeartbeats 1000000 in
theorem eqInt64S_any (xs ys : List Int) {A B : Option Addr} {c d : Nat} {b1 b2} (w : World) (hx : T1 w (.sl xs.length (xs.flatMap intE)) b1 (.slice A xs.length c)) (hy : T1 w (.sl ys.length (ys.flatMap intE)) b2 (.slice B ys.length d)) (hn' : xs.length ≤ maxLen) (hm' : ys.length ≤ maxLen) :
    Calls Tryz.prog 18 #[.slice A xs.length c, .slice B ys.length d] w fun e w' => e = .returned (.bool (eqb xs ys)) ∧ Below w.heap.size w w' := by
  unfold maxLen at hn' hm'
  by_cases hnm : xs.length = ys.length
  · obtain ⟨n, hn0⟩ : ∃ n, ys.length = n := ⟨_, rfl⟩
    rw [hn0] at hnm
    have hn : Hid (xs.length = n) := hnm
    have hm : Hid (ys.length = n) := hn0
    rw [hnm] at hx hn' ⊢
    rw [hn0] at hy hm' ⊢
    clear hnm hn0
    go_enter Tryz.func18, Tryz.ntmps18
    go_wp2_with fail
    go_loopw [5] (fun i w' => ∃ k : Nat, k ≤ n ∧ i = .int .i64 k ∧ Hid (xs.take k = ys.take k) ∧ Below w.heap.size w w') (fun i _ => n - (intOf i).toNat)
    case atStart => exact ⟨0, Nat.zero_le _, rfl, rfl, Below.refl _ _⟩
    case round =>
      obtain ⟨k, hk, rfl, ht, hb⟩ := hrel
      by_cases hlt : k < n
      · obtain ⟨ba, oa, x, rfl, _, hba, hxk, x0⟩ := intE_at (hx.below hb) hn.out hlt
        obtain ⟨bb, ob, y, rfl, _, hbb, hyk, y0⟩ := intE_at (hy.below hb) hm.out hlt
        cases hd : (x != y)
        case true =>
          go_wp2_with fail
          go_quiet (fail)
          go_wp2_with fail
          go_ret
          exact ⟨by rw [eqb_f (ne_at hxk hyk (by rintro rfl; simp at hd))]; rfl, hb.drewN _⟩
        go_wp2_with fail
        go_quiet (fail)
        go_wp2_with fail
        exact ⟨⟨k+1, by omega, by go_num, take_eq_snoc ht hxk hyk (by simpa using hd), hb.drewN _⟩, by simp [intOf]; omega⟩
      · have : k = n := by omega
        subst this
        go_wp2_with fail
        go_ret
        exact ⟨by rw [eqb_of (take_eq_all ht hn hm)]; rfl, hb⟩
  · have hne := eqb_f (ne_len (xs := xs) (ys := ys) rfl rfl hnm)
    generalize xs.length = n at *
    generalize ys.length = m at *
    go_enter Tryz.func18, Tryz.ntmps18
    go_wp2_with fail
    go_ret
    exact ⟨by rw [hne]; rfl, Below.refl _ _⟩

def EqKidP (N : Nat) : Prop := ∀ (xs ys : List Cor), sizL xs 0 < N → ∀  {A B : Option Addr} {c d : Nat} {b1 b2 : List Nat} (w : World) (hx : T1 w (.sl xs.length (xs.flatMap GKid.enc)) b1 (.slice A xs.length c)) (hy : T1 w (.sl ys.length (ys.flatMap GKid.enc)) b2 (.slice B ys.length d)) (hn' : xs.length ≤ maxLen) (hm' : ys.length ≤ maxLen), Calls Tryz.prog 32 #[.slice A xs.length c, .slice B ys.length d] w fun e w' => e = .returned (.bool (eqb xs ys)) ∧ Below w.heap.size w w'
set_option maxHeartbeats 2000000 in
theorem eqCore_of (N : Nat) (IH : EqKidP N) (x y : GCore) (hN : sizT x ≤ N) {b1 b2 us vs} (w : World) (hx : TN w (GCore.enc x) b1 us) (hy : TN w (GCore.enc y) b2 vs) :
    Calls Tryz.prog 11 #[.agg us.toArray, .agg vs.toArray] w fun e w' => e = .returned (.bool (eqb x y)) ∧ Below w.heap.size w w' := by
  obtain ⟨Ax2, cx2, bx2, Ax3, cx3, bx3, rfl, rfl, tx2, lx2, mx2, tx3, lx3, mx3⟩ := GCore.us hx
  obtain ⟨Ay2, cy2, by2, Ay3, cy3, by3, rfl, rfl, ty2, ly2, my2, ty3, ly3, my3⟩ := GCore.us hy
  have HB := ((Below.refl w.heap.size w).alloc (Nat.le_refl _) (.cells #[.int .i64 x.kind, .int .i64 x.value, .slice Ax2 x.data.length cx2, .slice Ax3 x.kids.length cx3] 32)).alloc (by simp) (.cells #[.int .i64 y.kind, .int .i64 y.value, .slice Ay2 y.data.length cy2, .slice Ay3 y.kids.length cy3] 32)
  go_enter Tryz.func11, Tryz.ntmps11
  cases hq0 : (x.kind != y.kind)
  case true =>
    go_wp2_with fail
    go_ret
    exact ⟨by rw [eqb_f (fun e => by rw [e] at hq0; simp at hq0)]; rfl, HB⟩
  cases hq1 : (x.value != y.value)
  case true =>
    go_wp2_with fail
    go_ret
    exact ⟨by rw [eqb_f (fun e => by rw [e] at hq1; simp at hq1)]; rfl, HB⟩
  have sx2 := tx2.below HB
  have sy2 := ty2.below HB
  go_wp2_with fail
  refine (eqInt64S_any x.data y.data _ sx2 sy2 (Nat.le_trans lx2 mx2) (Nat.le_trans ly2 my2)).mono ?_
  rintro e w1 ⟨rfl, hb1⟩
  have B1 := HB.trans (hb1.mono HB.size)
  obtain ⟨hc1, hf1⟩ := bcell hb1
  have hz1 : w.heap.size + 1 < w1.heap.size := by have := hb1.size; simp at this; omega
  have ha1 := fun o => hc1 w.heap.size o (by first | (simp; done) | (simp; omega))
  have he1 := fun o => hc1 (w.heap.size + 1) o (by first | (simp; done) | (simp; omega))
  have hg1 := fun o => hf1 w.heap.size o (by first | (simp; done) | (simp; omega))
  have hi1 := fun o => hf1 (w.heap.size + 1) o (by first | (simp; done) | (simp; omega))
  clear hc1 hf1
  clear hb1
  cases hq2 : eqb x.data y.data
  case false =>
    go_wp2_with fail
    go_ret
    exact ⟨by rw [eqb_f (fun e => by rw [e] at hq2; exact absurd hq2 (by simp [eqb_self]))]; rfl, B1⟩
  have sx3 := tx3.below B1
  have sy3 := ty3.below B1
  go_wp2_with fail
  refine (IH x.kids y.kids (kidsLt hN) _ sx3 sy3 (Nat.le_trans lx3 mx3) (Nat.le_trans ly3 my3)).mono ?_
  rintro e w2 ⟨rfl, hb2⟩
  have B2 := B1.trans (hb2.mono B1.size)
  obtain ⟨hc2, hf2⟩ := bcell hb2
  have hz2 : w.heap.size + 1 < w2.heap.size := by have := hb2.size; omega
  have ha2 := fun o => (hc2 w.heap.size o (by omega)).trans (ha1 o)
  have he2 := fun o => (hc2 (w.heap.size + 1) o (by omega)).trans (he1 o)
  have hg2 := fun o => (hf2 w.heap.size o (by omega)).trans (hg1 o)
  have hi2 := fun o => (hf2 (w.heap.size + 1) o (by omega)).trans (hi1 o)
  clear hc2 hf2
  clear hb2
  cases hq3 : eqb x.kids y.kids
  case false =>
    go_wp2_with fail
    go_ret
    exact ⟨by rw [eqb_f (fun e => by rw [e] at hq3; exact absurd hq3 (by simp [eqb_self]))]; rfl, B2⟩
  go_wp2_with fail
  go_ret
  refine ⟨?_, B2⟩
  have hxy : x = y := GCore.ext_ (show x.kind = y.kind by simpa using hq0) (show x.value = y.value by simpa using hq1) (eqb_t hq2) (eqb_t hq3)
  rw [eqb_of hxy]
  rfl
set_option maxHeartbeats 1000000 in
theorem eqCoreS_of (N : Nat) (IH : EqKidP N) (xs ys : List GCore) (hN : sizL xs 0 ≤ N) {A B : Option Addr} {c d : Nat} {b1 b2} (w : World) (hx : T1 w (.sl xs.length (xs.flatMap GCore.enc)) b1 (.slice A xs.length c)) (hy : T1 w (.sl ys.length (ys.flatMap GCore.enc)) b2 (.slice B ys.length d)) (hn' : xs.length ≤ maxLen) (hm' : ys.length ≤ maxLen) :
    Calls Tryz.prog 32 #[.slice A xs.length c, .slice B ys.length d] w fun e w' => e = .returned (.bool (eqb xs ys)) ∧ Below w.heap.size w w' := by
  unfold maxLen at hn' hm'
  by_cases hnm : xs.length = ys.length
  · obtain ⟨n, hn0⟩ : ∃ n, ys.length = n := ⟨_, rfl⟩
    rw [hn0] at hnm
    have hn : Hid (xs.length = n) := hnm
    have hm : Hid (ys.length = n) := hn0
    rw [hnm] at hx hn' ⊢
    rw [hn0] at hy hm' ⊢
    clear hnm hn0
    go_enter Tryz.func32, Tryz.ntmps32
    go_wp2_with fail
    go_loopw [5] (fun i w' => ∃ k : Nat, k ≤ n ∧ i = .int .i64 k ∧ Hid (xs.take k = ys.take k) ∧ Below w.heap.size w w') (fun i _ => n - (intOf i).toNat)
    case atStart => exact ⟨0, Nat.zero_le _, rfl, rfl, Below.refl _ _⟩
    case round =>
      obtain ⟨k, hk, rfl, ht, hb⟩ := hrel
      by_cases hlt : k < n
      · obtain ⟨ba, oa, x, Ax2, cx2, px2, Ax3, cx3, px3, rfl, hba, hxk, x0, x1, x2, x3, tx2, lx2, mx2, tx3, lx3, mx3⟩ := GCore.get_ (hx.below hb) hn.out hlt
        obtain ⟨bb, ob, y, Ay2, cy2, py2, Ay3, cy3, py3, rfl, hbb, hyk, y0, y1, y2, y3, ty2, ly2, my2, ty3, ly3, my3⟩ := GCore.get_ (hy.below hb) hm.out hlt
        have nx := GCore.mk_ (w := wr) (x := x) tx2 tx3
        have ny := GCore.mk_ (w := wr) (x := y) ty2 ty3
        cases hd : eqb x y
        case false =>
          have hcall := fun e : ExtOf wr => eqCore_of N IH x y (memLe hxk.out hN) _ (nx.below e.h) (ny.below e.h)
          rw [hd] at hcall
          have HC := Lib.hid hcall
          clear hcall
          go_wp2_with fail
          have hext := ExtOf.cell (w := wr)
          refine wp_region_ext_lit (by kernel_rfl) (by kernel_rfl) ?_
          repeat (go_big_quiet_step (exact Calls.quiet_ext (HC.out _)))
          refine wpQuiet_nil ?_
          rintro _ ⟨e, rfl⟩
          have hbe := hb.trans (e.h.mono hb.size)
          clear hext
          go_wp2_with fail
          go_ret
          exact ⟨by rw [eqb_f (ne_at hxk hyk (eqb_nf hd))]; rfl, hbe⟩
        have hcall := fun e : ExtOf wr => eqCore_of N IH x y (memLe hxk.out hN) _ (nx.below e.h) (ny.below e.h)
        rw [hd] at hcall
        have HC := Lib.hid hcall
        clear hcall
        go_wp2_with fail
        have hext := ExtOf.cell (w := wr)
        refine wp_region_ext_lit (by kernel_rfl) (by kernel_rfl) ?_
        repeat (go_big_quiet_step (exact Calls.quiet_ext (HC.out _)))
        refine wpQuiet_nil ?_
        rintro _ ⟨e, rfl⟩
        have hbe := hb.trans (e.h.mono hb.size)
        clear hext
        go_wp2_with fail
        exact ⟨⟨k+1, by omega, by go_num, take_eq_snoc ht hxk hyk (eqb_t hd), hbe⟩, by simp [intOf]; omega⟩
      · have : k = n := by omega
        subst this
        go_wp2_with fail
        go_ret
        exact ⟨by rw [eqb_of (take_eq_all ht hn hm)]; rfl, hb⟩
  · have hne := eqb_f (ne_len (xs := xs) (ys := ys) rfl rfl hnm)
    generalize xs.length = n at *
    generalize ys.length = m at *
    go_enter Tryz.func32, Tryz.ntmps32
    go_wp2_with fail
    go_ret
    exact ⟨by rw [hne]; rfl, Below.refl _ _⟩
theorem eqKid_all : ∀ N : Nat, EqKidP N
  | 0 => fun xs ys h => absurd h (Nat.not_lt_zero _)
  | N + 1 => fun xs ys h => by
    rw [GCore.enc_eq]
    exact eqCoreS_of N (eqKid_all N) xs ys (Nat.le_of_lt_succ h)
theorem eqCore_any (x y : GCore) {b1 b2 us vs} (w : World) (hx : TN w (GCore.enc x) b1 us) (hy : TN w (GCore.enc y) b2 vs) :
    Calls Tryz.prog 11 #[.agg us.toArray, .agg vs.toArray] w fun e w' => e = .returned (.bool (eqb x y)) ∧ Below w.heap.size w w' := eqCore_of (sizT x) (eqKid_all _) x y (Nat.le_refl _) w hx hy
theorem eqCoreS_any (xs ys : List GCore) {A B : Option Addr} {c d : Nat} {b1 b2} (w : World) (hx : T1 w (.sl xs.length (xs.flatMap GCore.enc)) b1 (.slice A xs.length c)) (hy : T1 w (.sl ys.length (ys.flatMap GCore.enc)) b2 (.slice B ys.length d)) (hn' : xs.length ≤ maxLen) (hm' : ys.length ≤ maxLen) :
    Calls Tryz.prog 32 #[.slice A xs.length c, .slice B ys.length d] w fun e w' => e = .returned (.bool (eqb xs ys)) ∧ Below w.heap.size w w' := eqCoreS_of (sizL xs 0) (eqKid_all _) xs ys (Nat.le_refl _) w hx hy hn' hm'
set_option maxHeartbeats 2000000 in
theorem eqBook_any (x y : GBook) {b1 b2 us vs} (w : World) (hx : TN w x.enc b1 us) (hy : TN w y.enc b2 vs) :
    Calls Tryz.prog 12 #[.agg us.toArray, .agg vs.toArray] w fun e w' => e = .returned (.bool (eqb x y)) ∧ Below w.heap.size w w' := by
  obtain ⟨Ax0, cx0, bx0, rfl, rfl, tx0, lx0, mx0⟩ := GBook.us hx
  obtain ⟨Ay0, cy0, by0, rfl, rfl, ty0, ly0, my0⟩ := GBook.us hy
  have HB := ((Below.refl w.heap.size w).alloc (Nat.le_refl _) (.cells #[.slice Ax0 x.defs.length cx0] 36)).alloc (by simp) (.cells #[.slice Ay0 y.defs.length cy0] 36)
  go_enter Tryz.func12, Tryz.ntmps12
  have sx0 := tx0.below HB
  have sy0 := ty0.below HB
  go_wp2_with fail
  refine (eqCoreS_any x.defs y.defs _ sx0 sy0 (Nat.le_trans lx0 mx0) (Nat.le_trans ly0 my0)).mono ?_
  rintro e w1 ⟨rfl, hb1⟩
  have B1 := HB.trans (hb1.mono HB.size)
  obtain ⟨hc1, hf1⟩ := bcell hb1
  have hz1 : w.heap.size + 1 < w1.heap.size := by have := hb1.size; simp at this; omega
  have ha1 := fun o => hc1 w.heap.size o (by first | (simp; done) | (simp; omega))
  have he1 := fun o => hc1 (w.heap.size + 1) o (by first | (simp; done) | (simp; omega))
  have hg1 := fun o => hf1 w.heap.size o (by first | (simp; done) | (simp; omega))
  have hi1 := fun o => hf1 (w.heap.size + 1) o (by first | (simp; done) | (simp; omega))
  clear hc1 hf1
  clear hb1
  cases hq0 : eqb x.defs y.defs
  case false =>
    go_wp2_with fail
    go_ret
    exact ⟨by rw [eqb_f (fun e => by rw [e] at hq0; exact absurd hq0 (by simp [eqb_self]))]; rfl, B1⟩
  go_wp2_with fail
  go_ret
  refine ⟨?_, B1⟩
  have hxy : x = y := GBook.ext_ (eqb_t hq0)
  rw [eqb_of hxy]
  rfl

end Go.Proofs.YtieemijapiiiiaaGreat
