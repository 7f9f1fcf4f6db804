/- The law FnExactStepCore, walked. Printed by gen_law.py. -/
import Derived.Test.YtieemijapiiiiaaGreatProg
import Derived.Test.YtieemijapiiiiaaGreatPn
import Derived.Test.YtieemijapiiiiaaGreatKCr
import Derived.Test.YtieemijapiiiiaaGreatFCr
import Derived.Test.YtieemijapiiiiaaGreatCCr
import Derived.Test.YtieemijapiiiiaaGreatZCr
import Derived.Test.YtieemijapiiiiaaGreatSc
import Derived.Test.YtieemijapiiiiaaGreatFl
import Derived.BigGuardPart
import Derived.Outline
import Derived.Deep.CutBlock
set_option linter.unusedSimpArgs false
set_option linter.unusedVariables false
namespace Go.Proofs.YtieemijapiiiiaaGreat
open Go Go.RowKit Go.Proofs Go.Tr
set_option maxRecDepth 100000 in
set_option maxHeartbeats 16000000 in
theorem lawStepCore (a0 : GBook) {p0 : List Nat} {u0 : List Value} (a1 : GCore) {p1 : List Nat} {u1 : List Value} (w : World) (ta0 : TN w a0.enc p0 u0) (ta1 : TN w a1.enc p1 u1) : Calls Tryz.prog 3 #[.agg u0.toArray, .agg u1.toArray] w fun e w' => e = .returned (.bool (true)) ∧ Ext w w' := by
  refine quiet_start fun e => ?_
  obtain ⟨⟨r0, r1, r2⟩, hR0⟩ : ∃ R, R = stepCore a0 a1 := ⟨_, rfl⟩
  have hR := Lib.hid hR0
  clear hR0
  obtain ⟨_, _, _, rfl, -⟩ := GBook.us (x := a0) ta0
  obtain ⟨_, _, _, _, _, _, rfl, -⟩ := GCore.us (x := a1) ta1
  have loa0 : ∀ b ∈ p0, 0 ≤ b ∧ b < w.heap.size := fun b hb => ⟨Nat.zero_le _, ta0.lt b hb⟩
  have loa1 : ∀ b ∈ p1, 0 ≤ b ∧ b < w.heap.size := fun b hb => ⟨Nat.zero_le _, ta1.lt b hb⟩
  go_enter Tryz.func3, Tryz.ntmps3
  go_upto_region 1 with (fail)
  generalize hg2 : e.to.heap.size + 1 = g1
  generalize hg1 : e.to.heap.size = g0
  refine rebase_box2 e hg1 hg2 (fun w1 e hx1 hltg0 hltg1 cg0 cg1 => ?_)
  clear hg1 hg2
  have hs_x1 := hx1.size
  replace ta0 := ta0.below hx1
  replace ta1 := ta1.below hx1
  have k0_0 := cg0.always hltg0 0 _ rfl
  simp only [Nat.zero_add] at k0_0
  clear cg0
  have k1_0 := cg1.always hltg1 0 _ rfl
  have k1_1 := cg1.always hltg1 1 _ rfl
  have k1_2 := cg1.always hltg1 2 _ rfl
  have k1_3 := cg1.always hltg1 3 _ rfl
  simp only [Nat.zero_add] at k1_0 k1_1 k1_2 k1_3
  clear cg1
  go_wp2_with fail
  obtain ⟨_, _, _, -, -, -, nl0_0, ml0_0⟩ := GBook.us (x := a0) (TN.below ta0 e.h)
  refine (szBook_any a0 1048576 _ (ta0.below e.h) (Nat.le_trans nl0_0 ml0_0) (by omega) (by omega)).mono ?_
  rintro _ W1 ⟨z1, L0, rfl, hr0⟩
  have hq2 := Ext.trans e.h z1
  have hs2 := hq2.size
  replace k0_0 := k0_0.ext hq2
  replace k1_0 := k1_0.ext hq2
  replace k1_1 := k1_1.ext hq2
  replace k1_2 := k1_2.ext hq2
  replace k1_3 := k1_3.ext hq2
  replace ta0 := ta0.below hq2
  replace ta1 := ta1.below hq2
  have hy3 := Ext.trans hx1 hq2
  obtain ⟨e, he⟩ : ∃ e : ExtOf W1, W1 = e.to := ⟨⟨W1, Below.refl _ _⟩, rfl⟩
  rw [he]
  clear he
  rcases hr0 with rfl | ⟨hr0_0, hr1_0, sm0⟩
  case inl =>
    go_wp2_with fail
    go_ret
    exact ⟨rfl, ExtOf.old hy3 e⟩
  have hr2_0 : L0 ≤ 1048576 := by omega
  have SM0 := Lib.hid sm0
  have HL0 := Lib.hid hr1_0
  clear sm0 hr1_0
  go_wp2_with fail
  obtain ⟨_, _, _, _, _, _, -, -, -, nl1_2, ml1_2, -, nl1_3, ml1_3⟩ := GCore.us (x := a1) (TN.below ta1 e.h)
  refine (szCore_any a1 L0 _ (ta1.below e.h) (Nat.le_trans nl1_2 ml1_2) (Nat.le_trans nl1_3 ml1_3) (by omega) (by omega)).mono ?_
  rintro _ W2 ⟨z2, L1, rfl, hr1⟩
  have hq4 := Ext.trans e.h z2
  have hs4 := hq4.size
  replace k0_0 := k0_0.ext hq4
  replace k1_0 := k1_0.ext hq4
  replace k1_1 := k1_1.ext hq4
  replace k1_2 := k1_2.ext hq4
  replace k1_3 := k1_3.ext hq4
  replace ta0 := ta0.below hq4
  replace ta1 := ta1.below hq4
  have hy5 := Ext.trans hy3 hq4
  obtain ⟨e, he⟩ : ∃ e : ExtOf W2, W2 = e.to := ⟨⟨W2, Below.refl _ _⟩, rfl⟩
  rw [he]
  clear he
  rcases hr1 with rfl | ⟨hr0_1, hr1_1, sm1⟩
  case inl =>
    go_wp2_with fail
    go_ret
    exact ⟨rfl, ExtOf.old hy5 e⟩
  have hr2_1 : L1 ≤ 1048576 := by omega
  have SM1 := Lib.hid sm1
  have HL1 := Lib.hid hr1_1
  clear sm1 hr1_1
  go_wp2_with fail
  refine wp_region_b e (W2.heap.size) (by kernel_rfl) 13 (by kernel_rfl) (fun wR6 hxwR6 => ?_)
  have hs_wR6 := hxwR6.size
  replace k0_0 := k0_0.ext hxwR6
  replace k1_0 := k1_0.ext hxwR6
  replace k1_1 := k1_1.ext hxwR6
  replace k1_2 := k1_2.ext hxwR6
  replace k1_3 := k1_3.ext hxwR6
  replace ta0 := ta0.below hxwR6
  replace ta1 := ta1.below hxwR6
  have hy7 := Ext.trans hy5 hxwR6
  have B_k0_0 := k0_0.b (N := W2.heap.size) (by omega)
  have B_k1_0 := k1_0.b (N := W2.heap.size) (by omega)
  have B_k1_1 := k1_1.b (N := W2.heap.size) (by omega)
  have B_k1_2 := k1_2.b (N := W2.heap.size) (by omega)
  have B_k1_3 := k1_3.b (N := W2.heap.size) (by omega)
  refine fl_begin ⟨9, 6, fun g => .pointer (some ⟨g, 0, none⟩), .cells #[.int .i64 0, .int .i64 0, .slice none 0 0, .slice none 0 0] 32⟩ ⟨⟨_, rfl, rfl⟩, fun K a w h => wpOp_alone rfl (by go_wp2_with fail; exact h)⟩ (fun hfl => ?_)
  refine fl_take 0 rfl (by omega) hfl (by kernel_rfl) ?_; go_big_quiet_step (fail); refine wpQuiet_nil ?_
  refine fl_take 2 rfl (by omega) hfl (by kernel_rfl) ?_; go_big_quiet_step (fail); refine wpQuiet_nil ?_
  refine fl_only 1 rfl (by omega) (fun x hx => by simp at hx) hfl (by kernel_rfl) (fun e => ?_)
  go_wp2_with fail
  refine (toBook_any a0 _ (ta0.below e.h) SM0.out).mono ?_
  rintro _ W3 ⟨_, q3, rfl, z3, T3, O3⟩
  obtain ⟨_, _, _, rfl, -⟩ := GBook.us T3
  have lo3 : ∀ b ∈ q3, e.to.heap.size ≤ b ∧ b < W3.heap.size := fun b hb => ⟨(O3.2 b hb).1, T3.lt b hb⟩
  have sz3 := e.h.size
  have sw3 := (Ext.trans hy7 e.h).size
  go_wp2_with fail
  refine And.intro z3 ⟨q3, lo3, ?_⟩
  have hq8 := Ext.trans e.h z3
  have hs8 := hq8.size
  replace k0_0 := k0_0.ext hq8
  replace k1_0 := k1_0.ext hq8
  replace k1_1 := k1_1.ext hq8
  replace k1_2 := k1_2.ext hq8
  replace k1_3 := k1_3.ext hq8
  replace ta0 := ta0.below hq8
  replace ta1 := ta1.below hq8
  have hy9 := Ext.trans hy7 hq8
  replace B_k0_0 := B_k0_0.go (hq8.mono (by omega))
  replace B_k1_0 := B_k1_0.go (hq8.mono (by omega))
  replace B_k1_1 := B_k1_1.go (hq8.mono (by omega))
  replace B_k1_2 := B_k1_2.go (hq8.mono (by omega))
  replace B_k1_3 := B_k1_3.go (hq8.mono (by omega))
  refine fl_only 3 rfl (by omega) (fun x hx => by simp only [List.mem_append, List.mem_cons, List.not_mem_nil, or_false, false_or, List.append_nil, or_assoc] at hx; have h1 := lo3 x hx; omega) hfl (by kernel_rfl) (fun e => ?_)
  go_wp2_with fail
  refine (toCore_any a1 _ (ta1.below e.h) SM1.out).mono ?_
  rintro _ W4 ⟨_, q4, rfl, z4, T4, O4⟩
  obtain ⟨_, _, _, _, _, _, rfl, -⟩ := GCore.us T4
  have lo4 : ∀ b ∈ q4, e.to.heap.size ≤ b ∧ b < W4.heap.size := fun b hb => ⟨(O4.2 b hb).1, T4.lt b hb⟩
  have sz4 := e.h.size
  have sw4 := (Ext.trans hy9 e.h).size
  go_wp2_with fail
  refine And.intro z4 ⟨q4, lo4, ?_⟩
  have hq10 := Ext.trans e.h z4
  have hs10 := hq10.size
  replace k0_0 := k0_0.ext hq10
  replace k1_0 := k1_0.ext hq10
  replace k1_1 := k1_1.ext hq10
  replace k1_2 := k1_2.ext hq10
  replace k1_3 := k1_3.ext hq10
  replace ta0 := ta0.below hq10
  replace ta1 := ta1.below hq10
  replace T3 := T3.below hq10
  replace O3 := O3.below hq10
  have hy11 := Ext.trans hy9 hq10
  replace B_k0_0 := B_k0_0.go (hq10.mono (by omega))
  replace B_k1_0 := B_k1_0.go (hq10.mono (by omega))
  replace B_k1_1 := B_k1_1.go (hq10.mono (by omega))
  replace B_k1_2 := B_k1_2.go (hq10.mono (by omega))
  replace B_k1_3 := B_k1_3.go (hq10.mono (by omega))
  refine fl_only 4 rfl (by omega) (fun x hx => by simp only [List.mem_append, List.mem_cons, List.not_mem_nil, or_false, false_or, List.append_nil, or_assoc] at hx; rcases hx with hx | hx <;> first | (have h1 := lo4 x hx; omega) | (have h1 := lo3 x hx; omega)) hfl (by kernel_rfl) (fun e => ?_)
  go_wp2_with fail
  refine (stepCoreS_any a0 a1 r0 r1 r2 hR _ (T3.below e.h) (T4.below e.h) (by have h1 := HL0.out; have h2 := HL1.out; omega)).mono ?_
  rintro _ W5 ⟨_, q5_0, rfl, z5, T5_0, O5⟩
  obtain ⟨A5_0_2, c5_0_2, _, A5_0_3, c5_0_3, _, rfl, -⟩ := GCore.us T5_0
  have O5_0 := O5
  have lo5_0 : ∀ b ∈ q5_0, e.to.heap.size ≤ b ∧ b < W5.heap.size := fun b hb => ⟨(O5_0.2 b hb).1, T5_0.lt b hb⟩
  have sz5 := e.h.size
  have sw5 := (Ext.trans hy11 e.h).size
  go_wp2_with fail
  refine And.intro z5 ⟨q5_0, lo5_0, ?_⟩
  have hq12 := Ext.trans e.h z5
  have hs12 := hq12.size
  replace k0_0 := k0_0.ext hq12
  replace k1_0 := k1_0.ext hq12
  replace k1_1 := k1_1.ext hq12
  replace k1_2 := k1_2.ext hq12
  replace k1_3 := k1_3.ext hq12
  replace ta0 := ta0.below hq12
  replace ta1 := ta1.below hq12
  replace T3 := T3.below hq12
  replace T4 := T4.below hq12
  replace O3 := O3.below hq12
  replace O4 := O4.below hq12
  have hy13 := Ext.trans hy11 hq12
  replace B_k0_0 := B_k0_0.go (hq12.mono (by omega))
  replace B_k1_0 := B_k1_0.go (hq12.mono (by omega))
  replace B_k1_1 := B_k1_1.go (hq12.mono (by omega))
  replace B_k1_2 := B_k1_2.go (hq12.mono (by omega))
  replace B_k1_3 := B_k1_3.go (hq12.mono (by omega))
  refine fl_take 5 rfl (by omega) hfl (by kernel_rfl) ?_; go_big_quiet_step (fail); refine wpQuiet_nil ?_
  refine fl_take 6 rfl (by omega) hfl (by kernel_rfl) ?_; go_big_quiet_step (fail); refine wpQuiet_nil ?_
  refine fl_take 7 rfl (by omega) hfl (by kernel_rfl) ?_; go_big_quiet_step (fail); refine wpQuiet_nil ?_
  refine fl_take 8 rfl (by omega) hfl (by kernel_rfl) ?_; go_big_quiet_step (fail); refine wpQuiet_nil ?_
  refine fl_land (by omega) (fun x hx => by simp only [List.mem_append, List.mem_cons, List.not_mem_nil, or_false, false_or, List.append_nil, or_assoc] at hx; rcases hx with hx | hx | hx <;> first | (have h1 := lo5_0 x hx; omega) | (have h1 := lo4 x hx; omega) | (have h1 := lo3 x hx; omega)) hfl (by kernel_rfl) (fun gf8 wL8 hxwL8 hgegf8 hnxgf8 rowgf8 => ?_)
  have hn_gf8_0 : ∀ y ∈ q5_0, y ≠ gf8 := fun y hy h => hnxgf8 (by simp [← h, hy])
  clear hnxgf8 hfl
  have hltgf8 := lt_of_row rowgf8
  have hs_wL8 := hxwL8.size
  have fgf8 := row_fz rowgf8
  have cgf8_0 := row_kn rowgf8 0 (v := .int .i64 0) rfl
  have cgf8_1 := row_kn rowgf8 1 (v := .int .i64 0) rfl
  have cgf8_2 := row_kn rowgf8 2 (v := .slice none 0 0) rfl
  have cgf8_3 := row_kn rowgf8 3 (v := .slice none 0 0) rfl
  clear B_k0_0 B_k1_0 B_k1_1 B_k1_2 B_k1_3
  replace k0_0 := k0_0.ext hxwL8
  replace k1_0 := k1_0.ext hxwL8
  replace k1_1 := k1_1.ext hxwL8
  replace k1_2 := k1_2.ext hxwL8
  replace k1_3 := k1_3.ext hxwL8
  replace ta0 := ta0.below hxwL8
  replace ta1 := ta1.below hxwL8
  replace T5_0 := T5_0.below hxwL8
  replace O5_0 := O5_0.below hxwL8
  have hy14 := Ext.trans hy13 hxwL8
  refine b_only 10 rfl (by kernel_rfl) (fun e he => ?_)
  clear he
  go_wp2_with fail
  generalize hW : World.setCell (World.setCell (World.setCell (World.setCell e.to ⟨gf8, 0, none⟩ (.int .i64 r0.kind)) ⟨gf8, 1, none⟩ (.int .i64 r0.value)) ⟨gf8, 2, none⟩ (.slice A5_0_2 r0.data.length c5_0_2)) ⟨gf8, 3, none⟩ (.slice A5_0_3 r0.kids.length c5_0_3) = wS8
  have hbwS8 : Chg [gf8] e.to wS8 := by rw [← hW]; exact Onl.chg (((((Onl.refl _ _).setCell (by simp) _ _).setCell (by simp) _ _).setCell (by simp) _ _).setCell (by simp) _ _)
  have nrgf8 : wS8.heap[gf8]? = some (.cells #[.int .i64 r0.kind, .int .i64 r0.value, .slice A5_0_2 r0.data.length c5_0_2, .slice A5_0_3 r0.kids.length c5_0_3] 32 (0, 0)) := by rw [← hW]; exact (Rows.heap_set_same (Rows.heap_set_same (Rows.heap_set_same (Rows.heap_set_same (row_at rowgf8 e)))))
  clear hW
  refine And.intro (Chg.below hbwS8 (by have := e.h.size; omega) (fun y hm => by simp at hm; omega)) ?_
  have hs_wS8 := Nat.le_trans e.h.size hbwS8.size
  replace k0_0 := k0_0.chg e hbwS8 (by omega) (fun hm => by simp at hm; omega)
  replace k1_0 := k1_0.chg e hbwS8 (by omega) (fun hm => by simp at hm; omega)
  replace k1_1 := k1_1.chg e hbwS8 (by omega) (fun hm => by simp at hm; omega)
  replace k1_2 := k1_2.chg e hbwS8 (by omega) (fun hm => by simp at hm; omega)
  replace k1_3 := k1_3.chg e hbwS8 (by omega) (fun hm => by simp at hm; omega)
  replace ta0 := (ta0.below e.h).chg hbwS8 (fun y hy hm => by have h1 := loa0 y hy; simp at hm; omega)
  replace ta1 := (ta1.below e.h).chg hbwS8 (fun y hy hm => by have h1 := loa1 y hy; simp at hm; omega)
  replace T5_0 := (T5_0.below e.h).chg hbwS8 (fun y hy hm => by have h1 := lo5_0 y hy; have h2 := hn_gf8_0 y hy; simp at hm; omega)
  replace O5_0 := (O5_0.below e.h).chg hbwS8 (fun y hy hm => by have h1 := lo5_0 y hy; have h2 := hn_gf8_0 y hy; simp at hm; omega)
  have hy_wS8 : Ext w wS8 := Below.trans (Ext.trans hy14 e.h) (Chg.below hbwS8 (B := w.heap.size) ((Ext.trans hy14 e.h)).size (fun y hm => by simp at hm; omega))
  have kf8_0 := row_kn nrgf8 0 (v := .int .i64 r0.kind) rfl
  have kf8_1 := row_kn nrgf8 1 (v := .int .i64 r0.value) rfl
  have kf8_2 := row_kn nrgf8 2 (v := .slice A5_0_2 r0.data.length c5_0_2) rfl
  have kf8_3 := row_kn nrgf8 3 (v := .slice A5_0_3 r0.kids.length c5_0_3) rfl
  clear fgf8 rowgf8 nrgf8 cgf8_0 cgf8_1 cgf8_2 cgf8_3
  refine b_take 11 rfl (by kernel_rfl) ?_; go_big_quiet_step (fail); refine wpQuiet_nil ?_
  refine b_take 12 rfl (by kernel_rfl) ?_; go_big_quiet_step (fail); refine wpQuiet_nil ?_
  refine b_done (by kernel_rfl) (fun e he => ?_)
  clear he
  go_wp2_with fail
  refine (toBook_any a0 _ (ta0.below e.h) SM0.out).mono ?_
  rintro _ W6 ⟨_, q6, rfl, z6, T6, O6⟩
  obtain ⟨_, _, _, rfl, -⟩ := GBook.us T6
  have lo6 : ∀ b ∈ q6, e.to.heap.size ≤ b ∧ b < W6.heap.size := fun b hb => ⟨(O6.2 b hb).1, T6.lt b hb⟩
  have sz6 := e.h.size
  have sw6 := (Ext.trans hy_wS8 e.h).size
  have hq15 := Ext.trans e.h z6
  have hs15 := hq15.size
  replace k0_0 := k0_0.ext hq15
  replace k1_0 := k1_0.ext hq15
  replace k1_1 := k1_1.ext hq15
  replace k1_2 := k1_2.ext hq15
  replace k1_3 := k1_3.ext hq15
  replace kf8_0 := kf8_0.ext hq15
  replace kf8_1 := kf8_1.ext hq15
  replace kf8_2 := kf8_2.ext hq15
  replace kf8_3 := kf8_3.ext hq15
  replace ta0 := ta0.below hq15
  replace ta1 := ta1.below hq15
  replace T5_0 := T5_0.below hq15
  replace O5_0 := O5_0.below hq15
  have hy16 := Ext.trans hy_wS8 hq15
  obtain ⟨e, he⟩ : ∃ e : ExtOf W6, W6 = e.to := ⟨⟨W6, Below.refl _ _⟩, rfl⟩
  go_upto_region 10 with (fail)
  clear he
  generalize hggx0 : e.to.heap.size = gx0
  refine rebase_box e hggx0 (fun w17 e hx17 hgegx0 hltgx0 cgx0 => ?_)
  clear hggx0
  replace k0_0 := k0_0.ext hx17
  replace k1_0 := k1_0.ext hx17
  replace k1_1 := k1_1.ext hx17
  replace k1_2 := k1_2.ext hx17
  replace k1_3 := k1_3.ext hx17
  replace kf8_0 := kf8_0.ext hx17
  replace kf8_1 := kf8_1.ext hx17
  replace kf8_2 := kf8_2.ext hx17
  replace kf8_3 := kf8_3.ext hx17
  replace ta0 := ta0.below hx17
  replace ta1 := ta1.below hx17
  replace T5_0 := T5_0.below hx17
  replace T6 := T6.below hx17
  replace O5_0 := O5_0.below hx17
  replace O6 := O6.below hx17
  have hy17 := Ext.trans hy16 hx17
  have hs_gx0 := hx17.size
  have kx0_0 := cgx0.always hltgx0 0 _ rfl
  simp only [Nat.zero_add] at kx0_0
  clear cgx0
  go_wp2_with fail
  refine (toCore_any a1 _ (ta1.below e.h) SM1.out).mono ?_
  rintro _ W7 ⟨_, q7, rfl, z7, T7, O7⟩
  obtain ⟨_, _, _, _, _, _, rfl, -⟩ := GCore.us T7
  have lo7 : ∀ b ∈ q7, e.to.heap.size ≤ b ∧ b < W7.heap.size := fun b hb => ⟨(O7.2 b hb).1, T7.lt b hb⟩
  have sz7 := e.h.size
  have sw7 := (Ext.trans hy17 e.h).size
  have hq18 := Ext.trans e.h z7
  have hs18 := hq18.size
  replace k0_0 := k0_0.ext hq18
  replace k1_0 := k1_0.ext hq18
  replace k1_1 := k1_1.ext hq18
  replace k1_2 := k1_2.ext hq18
  replace k1_3 := k1_3.ext hq18
  replace kf8_0 := kf8_0.ext hq18
  replace kf8_1 := kf8_1.ext hq18
  replace kf8_2 := kf8_2.ext hq18
  replace kf8_3 := kf8_3.ext hq18
  replace kx0_0 := kx0_0.ext hq18
  replace ta0 := ta0.below hq18
  replace ta1 := ta1.below hq18
  replace T5_0 := T5_0.below hq18
  replace T6 := T6.below hq18
  replace O5_0 := O5_0.below hq18
  replace O6 := O6.below hq18
  have hy19 := Ext.trans hy17 hq18
  obtain ⟨e, he⟩ : ∃ e : ExtOf W7, W7 = e.to := ⟨⟨W7, Below.refl _ _⟩, rfl⟩
  go_upto_region 11 with (fail)
  clear he
  generalize hggx1 : e.to.heap.size = gx1
  refine rebase_box e hggx1 (fun w20 e hx20 hgegx1 hltgx1 cgx1 => ?_)
  clear hggx1
  replace k0_0 := k0_0.ext hx20
  replace k1_0 := k1_0.ext hx20
  replace k1_1 := k1_1.ext hx20
  replace k1_2 := k1_2.ext hx20
  replace k1_3 := k1_3.ext hx20
  replace kf8_0 := kf8_0.ext hx20
  replace kf8_1 := kf8_1.ext hx20
  replace kf8_2 := kf8_2.ext hx20
  replace kf8_3 := kf8_3.ext hx20
  replace kx0_0 := kx0_0.ext hx20
  replace ta0 := ta0.below hx20
  replace ta1 := ta1.below hx20
  replace T5_0 := T5_0.below hx20
  replace T6 := T6.below hx20
  replace T7 := T7.below hx20
  replace O5_0 := O5_0.below hx20
  replace O6 := O6.below hx20
  replace O7 := O7.below hx20
  have hy20 := Ext.trans hy19 hx20
  have hs_gx1 := hx20.size
  have kx1_0 := cgx1.always hltgx1 0 _ rfl
  have kx1_1 := cgx1.always hltgx1 1 _ rfl
  have kx1_2 := cgx1.always hltgx1 2 _ rfl
  have kx1_3 := cgx1.always hltgx1 3 _ rfl
  simp only [Nat.zero_add] at kx1_0 kx1_1 kx1_2 kx1_3
  clear cgx1
  go_wp2_with fail
  refine (stepCoreI_any a0 a1 r0 r1 r2 hR _ (T6.below e.h) (T7.below e.h) (by have h1 := HL0.out; have h2 := HL1.out; omega)).mono ?_
  rintro _ W8 ⟨_, q8_0, rfl, z8, T8_0, O8⟩
  obtain ⟨A8_0_2, c8_0_2, _, A8_0_3, c8_0_3, _, rfl, -⟩ := GCore.us T8_0
  have O8_0 := O8
  have lo8_0 : ∀ b ∈ q8_0, e.to.heap.size ≤ b ∧ b < W8.heap.size := fun b hb => ⟨(O8_0.2 b hb).1, T8_0.lt b hb⟩
  have sz8 := e.h.size
  have sw8 := (Ext.trans hy20 e.h).size
  have hq21 := Ext.trans e.h z8
  have hs21 := hq21.size
  replace k0_0 := k0_0.ext hq21
  replace k1_0 := k1_0.ext hq21
  replace k1_1 := k1_1.ext hq21
  replace k1_2 := k1_2.ext hq21
  replace k1_3 := k1_3.ext hq21
  replace kf8_0 := kf8_0.ext hq21
  replace kf8_1 := kf8_1.ext hq21
  replace kf8_2 := kf8_2.ext hq21
  replace kf8_3 := kf8_3.ext hq21
  replace kx0_0 := kx0_0.ext hq21
  replace kx1_0 := kx1_0.ext hq21
  replace kx1_1 := kx1_1.ext hq21
  replace kx1_2 := kx1_2.ext hq21
  replace kx1_3 := kx1_3.ext hq21
  replace ta0 := ta0.below hq21
  replace ta1 := ta1.below hq21
  replace T5_0 := T5_0.below hq21
  replace T6 := T6.below hq21
  replace T7 := T7.below hq21
  replace O5_0 := O5_0.below hq21
  replace O6 := O6.below hq21
  replace O7 := O7.below hq21
  have hy22 := Ext.trans hy20 hq21
  obtain ⟨e, he⟩ : ∃ e : ExtOf W8, W8 = e.to := ⟨⟨W8, Below.refl _ _⟩, rfl⟩
  rw [he]
  clear he
  go_upto_region 12 with (fail)
  generalize hggbg0 : e.to.heap.size = gbg0
  refine rebase_box e hggbg0 (fun w23 e hx23 hgegbg0 hltgbg0 cgbg0 => ?_)
  clear hggbg0
  replace k0_0 := k0_0.ext hx23
  replace k1_0 := k1_0.ext hx23
  replace k1_1 := k1_1.ext hx23
  replace k1_2 := k1_2.ext hx23
  replace k1_3 := k1_3.ext hx23
  replace kf8_0 := kf8_0.ext hx23
  replace kf8_1 := kf8_1.ext hx23
  replace kf8_2 := kf8_2.ext hx23
  replace kf8_3 := kf8_3.ext hx23
  replace kx0_0 := kx0_0.ext hx23
  replace kx1_0 := kx1_0.ext hx23
  replace kx1_1 := kx1_1.ext hx23
  replace kx1_2 := kx1_2.ext hx23
  replace kx1_3 := kx1_3.ext hx23
  replace ta0 := ta0.below hx23
  replace ta1 := ta1.below hx23
  replace T5_0 := T5_0.below hx23
  replace T6 := T6.below hx23
  replace T7 := T7.below hx23
  replace T8_0 := T8_0.below hx23
  replace O5_0 := O5_0.below hx23
  replace O6 := O6.below hx23
  replace O7 := O7.below hx23
  replace O8_0 := O8_0.below hx23
  have hy23 := Ext.trans hy22 hx23
  have hs_gbg0 := hx23.size
  have kbg0_0 := cgbg0.always hltgbg0 0 _ rfl
  have kbg0_1 := cgbg0.always hltgbg0 1 _ rfl
  have kbg0_2 := cgbg0.always hltgbg0 2 _ rfl
  have kbg0_3 := cgbg0.always hltgbg0 3 _ rfl
  simp only [Nat.zero_add] at kbg0_0 kbg0_1 kbg0_2 kbg0_3
  clear cgbg0
  have ee_r0 : eqb r0 r0 = true := eqb_self r0
  go_wp2_with fail
  refine (eqCore_any r0 r0 _ (T8_0.below e.h) (T5_0.below e.h)).mono ?_
  rintro _ W9 ⟨rfl, z9⟩
  have hq24 := Ext.trans e.h z9
  have hs24 := hq24.size
  replace k0_0 := k0_0.ext hq24
  replace k1_0 := k1_0.ext hq24
  replace k1_1 := k1_1.ext hq24
  replace k1_2 := k1_2.ext hq24
  replace k1_3 := k1_3.ext hq24
  replace kf8_0 := kf8_0.ext hq24
  replace kf8_1 := kf8_1.ext hq24
  replace kf8_2 := kf8_2.ext hq24
  replace kf8_3 := kf8_3.ext hq24
  replace kx0_0 := kx0_0.ext hq24
  replace kx1_0 := kx1_0.ext hq24
  replace kx1_1 := kx1_1.ext hq24
  replace kx1_2 := kx1_2.ext hq24
  replace kx1_3 := kx1_3.ext hq24
  replace kbg0_0 := kbg0_0.ext hq24
  replace kbg0_1 := kbg0_1.ext hq24
  replace kbg0_2 := kbg0_2.ext hq24
  replace kbg0_3 := kbg0_3.ext hq24
  replace ta0 := ta0.below hq24
  replace ta1 := ta1.below hq24
  replace T5_0 := T5_0.below hq24
  replace T6 := T6.below hq24
  replace T7 := T7.below hq24
  replace T8_0 := T8_0.below hq24
  replace O5_0 := O5_0.below hq24
  replace O6 := O6.below hq24
  replace O7 := O7.below hq24
  replace O8_0 := O8_0.below hq24
  have hy25 := Ext.trans hy23 hq24
  obtain ⟨e, he⟩ : ∃ e : ExtOf W9, W9 = e.to := ⟨⟨W9, Below.refl _ _⟩, rfl⟩
  rw [he]
  clear he
  have ee_a0 : eqb a0 a0 = true := eqb_self a0
  go_wp2_with fail
  refine wp_region_grow _ (by kernel_rfl) 5 (by kernel_rfl) ?_
  refine grow_take 0 rfl (by kernel_rfl) ?_; go_big_quiet_step (fail); refine wpQuiet_nil ?_
  refine grow_take 1 rfl (by kernel_rfl) ?_; go_big_quiet_step (fail); refine wpQuiet_nil ?_
  refine grow_only 2 rfl (by kernel_rfl) (fun e => ?_)
  go_wp2_with fail
  refine (toBook_any a0 _ (ta0.below e.h) SM0.out).mono ?_
  rintro _ W10 ⟨_, q10, rfl, z10, T10, O10⟩
  obtain ⟨_, _, _, rfl, -⟩ := GBook.us T10
  have lo10 : ∀ b ∈ q10, e.to.heap.size ≤ b ∧ b < W10.heap.size := fun b hb => ⟨(O10.2 b hb).1, T10.lt b hb⟩
  have sz10 := e.h.size
  have sw10 := (Ext.trans hy25 e.h).size
  go_wp2_with fail
  refine And.intro z10 ?_
  have hq26 := Ext.trans e.h z10
  have hs26 := hq26.size
  replace k0_0 := k0_0.ext hq26
  replace k1_0 := k1_0.ext hq26
  replace k1_1 := k1_1.ext hq26
  replace k1_2 := k1_2.ext hq26
  replace k1_3 := k1_3.ext hq26
  replace kf8_0 := kf8_0.ext hq26
  replace kf8_1 := kf8_1.ext hq26
  replace kf8_2 := kf8_2.ext hq26
  replace kf8_3 := kf8_3.ext hq26
  replace kx0_0 := kx0_0.ext hq26
  replace kx1_0 := kx1_0.ext hq26
  replace kx1_1 := kx1_1.ext hq26
  replace kx1_2 := kx1_2.ext hq26
  replace kx1_3 := kx1_3.ext hq26
  replace kbg0_0 := kbg0_0.ext hq26
  replace kbg0_1 := kbg0_1.ext hq26
  replace kbg0_2 := kbg0_2.ext hq26
  replace kbg0_3 := kbg0_3.ext hq26
  replace ta0 := ta0.below hq26
  replace ta1 := ta1.below hq26
  replace T5_0 := T5_0.below hq26
  replace T6 := T6.below hq26
  replace T7 := T7.below hq26
  replace T8_0 := T8_0.below hq26
  replace O5_0 := O5_0.below hq26
  replace O6 := O6.below hq26
  replace O7 := O7.below hq26
  replace O8_0 := O8_0.below hq26
  have hy27 := Ext.trans hy25 hq26
  refine grow_only 3 rfl (by kernel_rfl) (fun e => ?_)
  go_wp2_with fail
  refine (eqBook_any a0 a0 _ (T6.below e.h) (T10.below e.h)).mono ?_
  rintro _ W11 ⟨rfl, z11⟩
  go_wp2_with fail
  refine And.intro z11 ?_
  have hq28 := Ext.trans e.h z11
  have hs28 := hq28.size
  replace k0_0 := k0_0.ext hq28
  replace k1_0 := k1_0.ext hq28
  replace k1_1 := k1_1.ext hq28
  replace k1_2 := k1_2.ext hq28
  replace k1_3 := k1_3.ext hq28
  replace kf8_0 := kf8_0.ext hq28
  replace kf8_1 := kf8_1.ext hq28
  replace kf8_2 := kf8_2.ext hq28
  replace kf8_3 := kf8_3.ext hq28
  replace kx0_0 := kx0_0.ext hq28
  replace kx1_0 := kx1_0.ext hq28
  replace kx1_1 := kx1_1.ext hq28
  replace kx1_2 := kx1_2.ext hq28
  replace kx1_3 := kx1_3.ext hq28
  replace kbg0_0 := kbg0_0.ext hq28
  replace kbg0_1 := kbg0_1.ext hq28
  replace kbg0_2 := kbg0_2.ext hq28
  replace kbg0_3 := kbg0_3.ext hq28
  replace ta0 := ta0.below hq28
  replace ta1 := ta1.below hq28
  replace T5_0 := T5_0.below hq28
  replace T6 := T6.below hq28
  replace T7 := T7.below hq28
  replace T8_0 := T8_0.below hq28
  replace T10 := T10.below hq28
  replace O5_0 := O5_0.below hq28
  replace O6 := O6.below hq28
  replace O7 := O7.below hq28
  replace O8_0 := O8_0.below hq28
  replace O10 := O10.below hq28
  have hy29 := Ext.trans hy27 hq28
  refine grow_take 4 rfl (by kernel_rfl) ?_; go_big_quiet_step (fail); refine wpQuiet_nil ?_
  refine grow_done (by kernel_rfl) (fun e => ?_)
  have ee_a1 : eqb a1 a1 = true := eqb_self a1
  go_wp2_with fail
  refine wp_region_grow _ (by kernel_rfl) 5 (by kernel_rfl) ?_
  refine grow_take 0 rfl (by kernel_rfl) ?_; go_big_quiet_step (fail); refine wpQuiet_nil ?_
  refine grow_take 1 rfl (by kernel_rfl) ?_; go_big_quiet_step (fail); refine wpQuiet_nil ?_
  refine grow_only 2 rfl (by kernel_rfl) (fun e => ?_)
  go_wp2_with fail
  refine (toCore_any a1 _ (ta1.below e.h) SM1.out).mono ?_
  rintro _ W12 ⟨_, q12, rfl, z12, T12, O12⟩
  obtain ⟨_, _, _, _, _, _, rfl, -⟩ := GCore.us T12
  have lo12 : ∀ b ∈ q12, e.to.heap.size ≤ b ∧ b < W12.heap.size := fun b hb => ⟨(O12.2 b hb).1, T12.lt b hb⟩
  have sz12 := e.h.size
  have sw12 := (Ext.trans hy29 e.h).size
  go_wp2_with fail
  refine And.intro z12 ?_
  have hq30 := Ext.trans e.h z12
  have hs30 := hq30.size
  replace k0_0 := k0_0.ext hq30
  replace k1_0 := k1_0.ext hq30
  replace k1_1 := k1_1.ext hq30
  replace k1_2 := k1_2.ext hq30
  replace k1_3 := k1_3.ext hq30
  replace kf8_0 := kf8_0.ext hq30
  replace kf8_1 := kf8_1.ext hq30
  replace kf8_2 := kf8_2.ext hq30
  replace kf8_3 := kf8_3.ext hq30
  replace kx0_0 := kx0_0.ext hq30
  replace kx1_0 := kx1_0.ext hq30
  replace kx1_1 := kx1_1.ext hq30
  replace kx1_2 := kx1_2.ext hq30
  replace kx1_3 := kx1_3.ext hq30
  replace kbg0_0 := kbg0_0.ext hq30
  replace kbg0_1 := kbg0_1.ext hq30
  replace kbg0_2 := kbg0_2.ext hq30
  replace kbg0_3 := kbg0_3.ext hq30
  replace ta0 := ta0.below hq30
  replace ta1 := ta1.below hq30
  replace T5_0 := T5_0.below hq30
  replace T6 := T6.below hq30
  replace T7 := T7.below hq30
  replace T8_0 := T8_0.below hq30
  replace O5_0 := O5_0.below hq30
  replace O6 := O6.below hq30
  replace O7 := O7.below hq30
  replace O8_0 := O8_0.below hq30
  have hy31 := Ext.trans hy29 hq30
  refine grow_only 3 rfl (by kernel_rfl) (fun e => ?_)
  go_wp2_with fail
  refine (eqCore_any a1 a1 _ (T7.below e.h) (T12.below e.h)).mono ?_
  rintro _ W13 ⟨rfl, z13⟩
  go_wp2_with fail
  refine And.intro z13 ?_
  have hq32 := Ext.trans e.h z13
  have hs32 := hq32.size
  replace k0_0 := k0_0.ext hq32
  replace k1_0 := k1_0.ext hq32
  replace k1_1 := k1_1.ext hq32
  replace k1_2 := k1_2.ext hq32
  replace k1_3 := k1_3.ext hq32
  replace kf8_0 := kf8_0.ext hq32
  replace kf8_1 := kf8_1.ext hq32
  replace kf8_2 := kf8_2.ext hq32
  replace kf8_3 := kf8_3.ext hq32
  replace kx0_0 := kx0_0.ext hq32
  replace kx1_0 := kx1_0.ext hq32
  replace kx1_1 := kx1_1.ext hq32
  replace kx1_2 := kx1_2.ext hq32
  replace kx1_3 := kx1_3.ext hq32
  replace kbg0_0 := kbg0_0.ext hq32
  replace kbg0_1 := kbg0_1.ext hq32
  replace kbg0_2 := kbg0_2.ext hq32
  replace kbg0_3 := kbg0_3.ext hq32
  replace ta0 := ta0.below hq32
  replace ta1 := ta1.below hq32
  replace T5_0 := T5_0.below hq32
  replace T6 := T6.below hq32
  replace T7 := T7.below hq32
  replace T8_0 := T8_0.below hq32
  replace T12 := T12.below hq32
  replace O5_0 := O5_0.below hq32
  replace O6 := O6.below hq32
  replace O7 := O7.below hq32
  replace O8_0 := O8_0.below hq32
  replace O12 := O12.below hq32
  have hy33 := Ext.trans hy31 hq32
  refine grow_take 4 rfl (by kernel_rfl) ?_; go_big_quiet_step (fail); refine wpQuiet_nil ?_
  refine grow_done (by kernel_rfl) (fun e => ?_)
  go_wp2_with fail
  have cb0 : a0.cnt ≤ 33554432 := by have h1 := GBook.cnt_le a0; have h2 := HL0.out; omega
  have cb1 : a1.cnt ≤ 33554432 := by have h1 := GCore.cnt_le a1; have h2 := HL1.out; omega
  have rb0 : r0.cnt ≤ 1099511627776 := stepCore_small a0 a1 r0 r1 r2 hR.out SM0.out SM1.out
  refine (markBook_any a0 1 _ (T6.below e.h) (O6.below e.h) (by omega) (by omega)).mono ?_
  rintro _ W14 ⟨kx0, rfl, hkx0, M14, f14, V14⟩
  have pkx0 : 0 ≤ kx0 := by have := hkx0.out; omega
  have hsW14 := f14.size
  have hszW14 := e.h.size
  replace k0_0 := k0_0.onl e f14 (by omega) (fun hm => by have := lo6 _ hm; omega)
  replace k1_0 := k1_0.onl e f14 (by omega) (fun hm => by have := lo6 _ hm; omega)
  replace k1_1 := k1_1.onl e f14 (by omega) (fun hm => by have := lo6 _ hm; omega)
  replace k1_2 := k1_2.onl e f14 (by omega) (fun hm => by have := lo6 _ hm; omega)
  replace k1_3 := k1_3.onl e f14 (by omega) (fun hm => by have := lo6 _ hm; omega)
  replace kf8_0 := kf8_0.onl e f14 (by omega) (fun hm => by have := lo6 _ hm; omega)
  replace kf8_1 := kf8_1.onl e f14 (by omega) (fun hm => by have := lo6 _ hm; omega)
  replace kf8_2 := kf8_2.onl e f14 (by omega) (fun hm => by have := lo6 _ hm; omega)
  replace kf8_3 := kf8_3.onl e f14 (by omega) (fun hm => by have := lo6 _ hm; omega)
  replace kx0_0 := kx0_0.onl e f14 (by omega) (fun hm => by have := lo6 _ hm; omega)
  replace kx1_0 := kx1_0.onl e f14 (by omega) (fun hm => by have := lo6 _ hm; omega)
  replace kx1_1 := kx1_1.onl e f14 (by omega) (fun hm => by have := lo6 _ hm; omega)
  replace kx1_2 := kx1_2.onl e f14 (by omega) (fun hm => by have := lo6 _ hm; omega)
  replace kx1_3 := kx1_3.onl e f14 (by omega) (fun hm => by have := lo6 _ hm; omega)
  replace kbg0_0 := kbg0_0.onl e f14 (by omega) (fun hm => by have := lo6 _ hm; omega)
  replace kbg0_1 := kbg0_1.onl e f14 (by omega) (fun hm => by have := lo6 _ hm; omega)
  replace kbg0_2 := kbg0_2.onl e f14 (by omega) (fun hm => by have := lo6 _ hm; omega)
  replace kbg0_3 := kbg0_3.onl e f14 (by omega) (fun hm => by have := lo6 _ hm; omega)
  replace ta0 := TN.onl (ta0.below e.h) f14 (fun y hy hm => by have h1 := loa0 y hy; have h2 := lo6 y hm; omega)
  replace ta1 := TN.onl (ta1.below e.h) f14 (fun y hy hm => by have h1 := loa1 y hy; have h2 := lo6 y hm; omega)
  replace O5_0 := (O5_0.below e.h).onl f14
  replace T5_0 := TN.onl (T5_0.below e.h) f14 (fun y hy hm => by have h1 := lo5_0 y hy; have h2 := lo6 y hm; omega)
  replace O7 := (O7.below e.h).onl f14
  replace T7 := TN.onl (T7.below e.h) f14 (fun y hy hm => by have h1 := lo7 y hy; have h2 := lo6 y hm; omega)
  replace O8_0 := (O8_0.below e.h).onl f14
  replace T8_0 := TN.onl (T8_0.below e.h) f14 (fun y hy hm => by have h1 := lo8_0 y hy; have h2 := lo6 y hm; omega)
  have hB14 : Ext w W14 := Below.trans (Ext.trans hy33 e.h) (Onl.below f14 (Ext.trans hy33 e.h).size (fun y hm => by have := lo6 y hm; have := (Ext.trans hy33 e.h).size; omega))
  obtain ⟨e, he⟩ : ∃ e : ExtOf W14, W14 = e.to := ⟨⟨W14, Below.refl _ _⟩, rfl⟩
  rw [he]
  clear he
  have bdkx0 : kx0 ≤ 36028797018963968 := by have := hkx0.out; omega
  go_wp2_with fail
  refine (markCore_any a1 kx0 _ (T7.below e.h) (O7.below e.h) (by omega) (by omega)).mono ?_
  rintro _ W15 ⟨kx1, rfl, hkx1, M15, f15, V15⟩
  have pkx1 : 0 ≤ kx1 := by have := hkx1.out; omega
  have hsW15 := f15.size
  have hszW15 := e.h.size
  replace k0_0 := k0_0.onl e f15 (by omega) (fun hm => by have := lo7 _ hm; omega)
  replace k1_0 := k1_0.onl e f15 (by omega) (fun hm => by have := lo7 _ hm; omega)
  replace k1_1 := k1_1.onl e f15 (by omega) (fun hm => by have := lo7 _ hm; omega)
  replace k1_2 := k1_2.onl e f15 (by omega) (fun hm => by have := lo7 _ hm; omega)
  replace k1_3 := k1_3.onl e f15 (by omega) (fun hm => by have := lo7 _ hm; omega)
  replace kf8_0 := kf8_0.onl e f15 (by omega) (fun hm => by have := lo7 _ hm; omega)
  replace kf8_1 := kf8_1.onl e f15 (by omega) (fun hm => by have := lo7 _ hm; omega)
  replace kf8_2 := kf8_2.onl e f15 (by omega) (fun hm => by have := lo7 _ hm; omega)
  replace kf8_3 := kf8_3.onl e f15 (by omega) (fun hm => by have := lo7 _ hm; omega)
  replace kx0_0 := kx0_0.onl e f15 (by omega) (fun hm => by have := lo7 _ hm; omega)
  replace kx1_0 := kx1_0.onl e f15 (by omega) (fun hm => by have := lo7 _ hm; omega)
  replace kx1_1 := kx1_1.onl e f15 (by omega) (fun hm => by have := lo7 _ hm; omega)
  replace kx1_2 := kx1_2.onl e f15 (by omega) (fun hm => by have := lo7 _ hm; omega)
  replace kx1_3 := kx1_3.onl e f15 (by omega) (fun hm => by have := lo7 _ hm; omega)
  replace kbg0_0 := kbg0_0.onl e f15 (by omega) (fun hm => by have := lo7 _ hm; omega)
  replace kbg0_1 := kbg0_1.onl e f15 (by omega) (fun hm => by have := lo7 _ hm; omega)
  replace kbg0_2 := kbg0_2.onl e f15 (by omega) (fun hm => by have := lo7 _ hm; omega)
  replace kbg0_3 := kbg0_3.onl e f15 (by omega) (fun hm => by have := lo7 _ hm; omega)
  replace ta0 := TN.onl (ta0.below e.h) f15 (fun y hy hm => by have h1 := loa0 y hy; have h2 := lo7 y hm; omega)
  replace ta1 := TN.onl (ta1.below e.h) f15 (fun y hy hm => by have h1 := loa1 y hy; have h2 := lo7 y hm; omega)
  replace O5_0 := (O5_0.below e.h).onl f15
  replace T5_0 := TN.onl (T5_0.below e.h) f15 (fun y hy hm => by have h1 := lo5_0 y hy; have h2 := lo7 y hm; omega)
  replace O8_0 := (O8_0.below e.h).onl f15
  replace T8_0 := TN.onl (T8_0.below e.h) f15 (fun y hy hm => by have h1 := lo8_0 y hy; have h2 := lo7 y hm; omega)
  have hB15 : Ext w W15 := Below.trans (Ext.trans hB14 e.h) (Onl.below f15 (Ext.trans hB14 e.h).size (fun y hm => by have := lo7 y hm; have := (Ext.trans hB14 e.h).size; omega))
  obtain ⟨e, he⟩ : ∃ e : ExtOf W15, W15 = e.to := ⟨⟨W15, Below.refl _ _⟩, rfl⟩
  rw [he]
  clear he
  have bdkx1 : kx1 ≤ 72057594037927936 := by have := hkx1.out; omega
  go_wp2_with fail
  refine (eqCore_any r0 r0 _ (T8_0.below e.h) (T5_0.below e.h)).mono ?_
  rintro _ W16 ⟨rfl, z16⟩
  have hq34 := Ext.trans e.h z16
  have hs34 := hq34.size
  replace k0_0 := k0_0.ext hq34
  replace k1_0 := k1_0.ext hq34
  replace k1_1 := k1_1.ext hq34
  replace k1_2 := k1_2.ext hq34
  replace k1_3 := k1_3.ext hq34
  replace kf8_0 := kf8_0.ext hq34
  replace kf8_1 := kf8_1.ext hq34
  replace kf8_2 := kf8_2.ext hq34
  replace kf8_3 := kf8_3.ext hq34
  replace kx0_0 := kx0_0.ext hq34
  replace kx1_0 := kx1_0.ext hq34
  replace kx1_1 := kx1_1.ext hq34
  replace kx1_2 := kx1_2.ext hq34
  replace kx1_3 := kx1_3.ext hq34
  replace kbg0_0 := kbg0_0.ext hq34
  replace kbg0_1 := kbg0_1.ext hq34
  replace kbg0_2 := kbg0_2.ext hq34
  replace kbg0_3 := kbg0_3.ext hq34
  replace ta0 := ta0.below hq34
  replace ta1 := ta1.below hq34
  replace T5_0 := T5_0.below hq34
  replace T8_0 := T8_0.below hq34
  replace O5_0 := O5_0.below hq34
  replace O8_0 := O8_0.below hq34
  have hy35 := Ext.trans hB15 hq34
  obtain ⟨e, he⟩ : ∃ e : ExtOf W16, W16 = e.to := ⟨⟨W16, Below.refl _ _⟩, rfl⟩
  rw [he]
  clear he
  go_wp2_with fail
  refine (markCore_any r0 1 _ (T8_0.below e.h) (O8_0.below e.h) (by omega) (by omega)).mono ?_
  rintro _ W17 ⟨mg0, rfl, hmg0, M17, f17, V17⟩
  have pmg0 : 0 ≤ mg0 := by have := hmg0.out; omega
  have hsW17 := f17.size
  have hszW17 := e.h.size
  replace k0_0 := k0_0.onl e f17 (by omega) (fun hm => by have := lo8_0 _ hm; omega)
  replace k1_0 := k1_0.onl e f17 (by omega) (fun hm => by have := lo8_0 _ hm; omega)
  replace k1_1 := k1_1.onl e f17 (by omega) (fun hm => by have := lo8_0 _ hm; omega)
  replace k1_2 := k1_2.onl e f17 (by omega) (fun hm => by have := lo8_0 _ hm; omega)
  replace k1_3 := k1_3.onl e f17 (by omega) (fun hm => by have := lo8_0 _ hm; omega)
  replace kf8_0 := kf8_0.onl e f17 (by omega) (fun hm => by have := lo8_0 _ hm; omega)
  replace kf8_1 := kf8_1.onl e f17 (by omega) (fun hm => by have := lo8_0 _ hm; omega)
  replace kf8_2 := kf8_2.onl e f17 (by omega) (fun hm => by have := lo8_0 _ hm; omega)
  replace kf8_3 := kf8_3.onl e f17 (by omega) (fun hm => by have := lo8_0 _ hm; omega)
  replace kx0_0 := kx0_0.onl e f17 (by omega) (fun hm => by have := lo8_0 _ hm; omega)
  replace kx1_0 := kx1_0.onl e f17 (by omega) (fun hm => by have := lo8_0 _ hm; omega)
  replace kx1_1 := kx1_1.onl e f17 (by omega) (fun hm => by have := lo8_0 _ hm; omega)
  replace kx1_2 := kx1_2.onl e f17 (by omega) (fun hm => by have := lo8_0 _ hm; omega)
  replace kx1_3 := kx1_3.onl e f17 (by omega) (fun hm => by have := lo8_0 _ hm; omega)
  replace kbg0_0 := kbg0_0.onl e f17 (by omega) (fun hm => by have := lo8_0 _ hm; omega)
  replace kbg0_1 := kbg0_1.onl e f17 (by omega) (fun hm => by have := lo8_0 _ hm; omega)
  replace kbg0_2 := kbg0_2.onl e f17 (by omega) (fun hm => by have := lo8_0 _ hm; omega)
  replace kbg0_3 := kbg0_3.onl e f17 (by omega) (fun hm => by have := lo8_0 _ hm; omega)
  replace ta0 := TN.onl (ta0.below e.h) f17 (fun y hy hm => by have h1 := loa0 y hy; have h2 := lo8_0 y hm; omega)
  replace ta1 := TN.onl (ta1.below e.h) f17 (fun y hy hm => by have h1 := loa1 y hy; have h2 := lo8_0 y hm; omega)
  replace O5_0 := (O5_0.below e.h).onl f17
  replace T5_0 := TN.onl (T5_0.below e.h) f17 (fun y hy hm => by have h1 := lo5_0 y hy; have h2 := lo8_0 y hm; omega)
  have hB17 : Ext w W17 := Below.trans (Ext.trans hy35 e.h) (Onl.below f17 (Ext.trans hy35 e.h).size (fun y hm => by have := lo8_0 y hm; have := (Ext.trans hy35 e.h).size; omega))
  obtain ⟨e, he⟩ : ∃ e : ExtOf W17, W17 = e.to := ⟨⟨W17, Below.refl _ _⟩, rfl⟩
  rw [he]
  clear he
  have bdmg0 : mg0 ≤ 108086391056891904 := by have := hmg0.out; omega
  have O8_0 := V17
  have CH0 : Hid (QC Tryz.prog W17 _ _ _) := fun W hW => heldCore_any r0 1 mg0 W (TN.below M17 hW) (by omega) (by omega) hmg0
  go_wp2_with (first | (go_at_call 15; with_reducible refine (CH0.out.at_ _).mono ?_; rintro _ _ ⟨rfl, e, rfl⟩))
  clear CH0
  go_wp2_with fail
  refine wp_region_b e (W17.heap.size) (by kernel_rfl) 13 (by kernel_rfl) (fun wR36 hxwR36 => ?_)
  have hs_wR36 := hxwR36.size
  replace k0_0 := k0_0.ext hxwR36
  replace k1_0 := k1_0.ext hxwR36
  replace k1_1 := k1_1.ext hxwR36
  replace k1_2 := k1_2.ext hxwR36
  replace k1_3 := k1_3.ext hxwR36
  replace kf8_0 := kf8_0.ext hxwR36
  replace kf8_1 := kf8_1.ext hxwR36
  replace kf8_2 := kf8_2.ext hxwR36
  replace kf8_3 := kf8_3.ext hxwR36
  replace kx0_0 := kx0_0.ext hxwR36
  replace kx1_0 := kx1_0.ext hxwR36
  replace kx1_1 := kx1_1.ext hxwR36
  replace kx1_2 := kx1_2.ext hxwR36
  replace kx1_3 := kx1_3.ext hxwR36
  replace kbg0_0 := kbg0_0.ext hxwR36
  replace kbg0_1 := kbg0_1.ext hxwR36
  replace kbg0_2 := kbg0_2.ext hxwR36
  replace kbg0_3 := kbg0_3.ext hxwR36
  replace ta0 := ta0.below hxwR36
  replace ta1 := ta1.below hxwR36
  replace T5_0 := T5_0.below hxwR36
  replace M17 := M17.below hxwR36
  replace O5_0 := O5_0.below hxwR36
  replace O8_0 := O8_0.below hxwR36
  have hy37 := Ext.trans hB17 hxwR36
  have B_k0_0 := k0_0.b (N := W17.heap.size) (by omega)
  have B_k1_0 := k1_0.b (N := W17.heap.size) (by omega)
  have B_k1_1 := k1_1.b (N := W17.heap.size) (by omega)
  have B_k1_2 := k1_2.b (N := W17.heap.size) (by omega)
  have B_k1_3 := k1_3.b (N := W17.heap.size) (by omega)
  have B_kf8_0 := kf8_0.b (N := W17.heap.size) (by omega)
  have B_kf8_1 := kf8_1.b (N := W17.heap.size) (by omega)
  have B_kf8_2 := kf8_2.b (N := W17.heap.size) (by omega)
  have B_kf8_3 := kf8_3.b (N := W17.heap.size) (by omega)
  have B_kx0_0 := kx0_0.b (N := W17.heap.size) (by omega)
  have B_kx1_0 := kx1_0.b (N := W17.heap.size) (by omega)
  have B_kx1_1 := kx1_1.b (N := W17.heap.size) (by omega)
  have B_kx1_2 := kx1_2.b (N := W17.heap.size) (by omega)
  have B_kx1_3 := kx1_3.b (N := W17.heap.size) (by omega)
  have B_kbg0_0 := kbg0_0.b (N := W17.heap.size) (by omega)
  have B_kbg0_1 := kbg0_1.b (N := W17.heap.size) (by omega)
  have B_kbg0_2 := kbg0_2.b (N := W17.heap.size) (by omega)
  have B_kbg0_3 := kbg0_3.b (N := W17.heap.size) (by omega)
  refine fl_begin ⟨9, 17, fun g => .pointer (some ⟨g, 0, none⟩), .cells #[.int .i64 0, .int .i64 0, .slice none 0 0, .slice none 0 0] 32⟩ ⟨⟨_, rfl, rfl⟩, fun K a w h => wpOp_alone rfl (by go_wp2_with fail; exact h)⟩ (fun hfl => ?_)
  refine fl_take 0 rfl (by omega) hfl (by kernel_rfl) ?_; go_big_quiet_step (fail); refine wpQuiet_nil ?_
  refine fl_take 2 rfl (by omega) hfl (by kernel_rfl) ?_; go_big_quiet_step (fail); refine wpQuiet_nil ?_
  refine fl_only 1 rfl (by omega) (fun x hx => by simp at hx) hfl (by kernel_rfl) (fun e => ?_)
  go_wp2_with fail
  refine (toBook_any a0 _ (ta0.below e.h) SM0.out).mono ?_
  rintro _ W18 ⟨_, q18, rfl, z18, T18, O18⟩
  obtain ⟨_, _, _, rfl, -⟩ := GBook.us T18
  have lo18 : ∀ b ∈ q18, e.to.heap.size ≤ b ∧ b < W18.heap.size := fun b hb => ⟨(O18.2 b hb).1, T18.lt b hb⟩
  have sz18 := e.h.size
  have sw18 := (Ext.trans hy37 e.h).size
  go_wp2_with fail
  refine And.intro z18 ⟨q18, lo18, ?_⟩
  have hq38 := Ext.trans e.h z18
  have hs38 := hq38.size
  replace k0_0 := k0_0.ext hq38
  replace k1_0 := k1_0.ext hq38
  replace k1_1 := k1_1.ext hq38
  replace k1_2 := k1_2.ext hq38
  replace k1_3 := k1_3.ext hq38
  replace kf8_0 := kf8_0.ext hq38
  replace kf8_1 := kf8_1.ext hq38
  replace kf8_2 := kf8_2.ext hq38
  replace kf8_3 := kf8_3.ext hq38
  replace kx0_0 := kx0_0.ext hq38
  replace kx1_0 := kx1_0.ext hq38
  replace kx1_1 := kx1_1.ext hq38
  replace kx1_2 := kx1_2.ext hq38
  replace kx1_3 := kx1_3.ext hq38
  replace kbg0_0 := kbg0_0.ext hq38
  replace kbg0_1 := kbg0_1.ext hq38
  replace kbg0_2 := kbg0_2.ext hq38
  replace kbg0_3 := kbg0_3.ext hq38
  replace ta0 := ta0.below hq38
  replace ta1 := ta1.below hq38
  replace T5_0 := T5_0.below hq38
  replace M17 := M17.below hq38
  replace O5_0 := O5_0.below hq38
  replace O8_0 := O8_0.below hq38
  have hy39 := Ext.trans hy37 hq38
  replace B_k0_0 := B_k0_0.go (hq38.mono (by omega))
  replace B_k1_0 := B_k1_0.go (hq38.mono (by omega))
  replace B_k1_1 := B_k1_1.go (hq38.mono (by omega))
  replace B_k1_2 := B_k1_2.go (hq38.mono (by omega))
  replace B_k1_3 := B_k1_3.go (hq38.mono (by omega))
  replace B_kf8_0 := B_kf8_0.go (hq38.mono (by omega))
  replace B_kf8_1 := B_kf8_1.go (hq38.mono (by omega))
  replace B_kf8_2 := B_kf8_2.go (hq38.mono (by omega))
  replace B_kf8_3 := B_kf8_3.go (hq38.mono (by omega))
  replace B_kx0_0 := B_kx0_0.go (hq38.mono (by omega))
  replace B_kx1_0 := B_kx1_0.go (hq38.mono (by omega))
  replace B_kx1_1 := B_kx1_1.go (hq38.mono (by omega))
  replace B_kx1_2 := B_kx1_2.go (hq38.mono (by omega))
  replace B_kx1_3 := B_kx1_3.go (hq38.mono (by omega))
  replace B_kbg0_0 := B_kbg0_0.go (hq38.mono (by omega))
  replace B_kbg0_1 := B_kbg0_1.go (hq38.mono (by omega))
  replace B_kbg0_2 := B_kbg0_2.go (hq38.mono (by omega))
  replace B_kbg0_3 := B_kbg0_3.go (hq38.mono (by omega))
  refine fl_only 3 rfl (by omega) (fun x hx => by simp only [List.mem_append, List.mem_cons, List.not_mem_nil, or_false, false_or, List.append_nil, or_assoc] at hx; have h1 := lo18 x hx; omega) hfl (by kernel_rfl) (fun e => ?_)
  go_wp2_with fail
  refine (toCore_any a1 _ (ta1.below e.h) SM1.out).mono ?_
  rintro _ W19 ⟨_, q19, rfl, z19, T19, O19⟩
  obtain ⟨_, _, _, _, _, _, rfl, -⟩ := GCore.us T19
  have lo19 : ∀ b ∈ q19, e.to.heap.size ≤ b ∧ b < W19.heap.size := fun b hb => ⟨(O19.2 b hb).1, T19.lt b hb⟩
  have sz19 := e.h.size
  have sw19 := (Ext.trans hy39 e.h).size
  go_wp2_with fail
  refine And.intro z19 ⟨q19, lo19, ?_⟩
  have hq40 := Ext.trans e.h z19
  have hs40 := hq40.size
  replace k0_0 := k0_0.ext hq40
  replace k1_0 := k1_0.ext hq40
  replace k1_1 := k1_1.ext hq40
  replace k1_2 := k1_2.ext hq40
  replace k1_3 := k1_3.ext hq40
  replace kf8_0 := kf8_0.ext hq40
  replace kf8_1 := kf8_1.ext hq40
  replace kf8_2 := kf8_2.ext hq40
  replace kf8_3 := kf8_3.ext hq40
  replace kx0_0 := kx0_0.ext hq40
  replace kx1_0 := kx1_0.ext hq40
  replace kx1_1 := kx1_1.ext hq40
  replace kx1_2 := kx1_2.ext hq40
  replace kx1_3 := kx1_3.ext hq40
  replace kbg0_0 := kbg0_0.ext hq40
  replace kbg0_1 := kbg0_1.ext hq40
  replace kbg0_2 := kbg0_2.ext hq40
  replace kbg0_3 := kbg0_3.ext hq40
  replace ta0 := ta0.below hq40
  replace ta1 := ta1.below hq40
  replace T5_0 := T5_0.below hq40
  replace M17 := M17.below hq40
  replace T18 := T18.below hq40
  replace O5_0 := O5_0.below hq40
  replace O8_0 := O8_0.below hq40
  replace O18 := O18.below hq40
  have hy41 := Ext.trans hy39 hq40
  replace B_k0_0 := B_k0_0.go (hq40.mono (by omega))
  replace B_k1_0 := B_k1_0.go (hq40.mono (by omega))
  replace B_k1_1 := B_k1_1.go (hq40.mono (by omega))
  replace B_k1_2 := B_k1_2.go (hq40.mono (by omega))
  replace B_k1_3 := B_k1_3.go (hq40.mono (by omega))
  replace B_kf8_0 := B_kf8_0.go (hq40.mono (by omega))
  replace B_kf8_1 := B_kf8_1.go (hq40.mono (by omega))
  replace B_kf8_2 := B_kf8_2.go (hq40.mono (by omega))
  replace B_kf8_3 := B_kf8_3.go (hq40.mono (by omega))
  replace B_kx0_0 := B_kx0_0.go (hq40.mono (by omega))
  replace B_kx1_0 := B_kx1_0.go (hq40.mono (by omega))
  replace B_kx1_1 := B_kx1_1.go (hq40.mono (by omega))
  replace B_kx1_2 := B_kx1_2.go (hq40.mono (by omega))
  replace B_kx1_3 := B_kx1_3.go (hq40.mono (by omega))
  replace B_kbg0_0 := B_kbg0_0.go (hq40.mono (by omega))
  replace B_kbg0_1 := B_kbg0_1.go (hq40.mono (by omega))
  replace B_kbg0_2 := B_kbg0_2.go (hq40.mono (by omega))
  replace B_kbg0_3 := B_kbg0_3.go (hq40.mono (by omega))
  refine fl_only 4 rfl (by omega) (fun x hx => by simp only [List.mem_append, List.mem_cons, List.not_mem_nil, or_false, false_or, List.append_nil, or_assoc] at hx; rcases hx with hx | hx <;> first | (have h1 := lo19 x hx; omega) | (have h1 := lo18 x hx; omega)) hfl (by kernel_rfl) (fun e => ?_)
  go_wp2_with fail
  refine (stepCoreI_any a0 a1 r0 r1 r2 hR _ (T18.below e.h) (T19.below e.h) (by have h1 := HL0.out; have h2 := HL1.out; omega)).mono ?_
  rintro _ W20 ⟨_, q20_0, rfl, z20, T20_0, O20⟩
  obtain ⟨A20_0_2, c20_0_2, _, A20_0_3, c20_0_3, _, rfl, -⟩ := GCore.us T20_0
  have O20_0 := O20
  have lo20_0 : ∀ b ∈ q20_0, e.to.heap.size ≤ b ∧ b < W20.heap.size := fun b hb => ⟨(O20_0.2 b hb).1, T20_0.lt b hb⟩
  have sz20 := e.h.size
  have sw20 := (Ext.trans hy41 e.h).size
  go_wp2_with fail
  refine And.intro z20 ⟨q20_0, lo20_0, ?_⟩
  have hq42 := Ext.trans e.h z20
  have hs42 := hq42.size
  replace k0_0 := k0_0.ext hq42
  replace k1_0 := k1_0.ext hq42
  replace k1_1 := k1_1.ext hq42
  replace k1_2 := k1_2.ext hq42
  replace k1_3 := k1_3.ext hq42
  replace kf8_0 := kf8_0.ext hq42
  replace kf8_1 := kf8_1.ext hq42
  replace kf8_2 := kf8_2.ext hq42
  replace kf8_3 := kf8_3.ext hq42
  replace kx0_0 := kx0_0.ext hq42
  replace kx1_0 := kx1_0.ext hq42
  replace kx1_1 := kx1_1.ext hq42
  replace kx1_2 := kx1_2.ext hq42
  replace kx1_3 := kx1_3.ext hq42
  replace kbg0_0 := kbg0_0.ext hq42
  replace kbg0_1 := kbg0_1.ext hq42
  replace kbg0_2 := kbg0_2.ext hq42
  replace kbg0_3 := kbg0_3.ext hq42
  replace ta0 := ta0.below hq42
  replace ta1 := ta1.below hq42
  replace T5_0 := T5_0.below hq42
  replace M17 := M17.below hq42
  replace T18 := T18.below hq42
  replace T19 := T19.below hq42
  replace O5_0 := O5_0.below hq42
  replace O8_0 := O8_0.below hq42
  replace O18 := O18.below hq42
  replace O19 := O19.below hq42
  have hy43 := Ext.trans hy41 hq42
  replace B_k0_0 := B_k0_0.go (hq42.mono (by omega))
  replace B_k1_0 := B_k1_0.go (hq42.mono (by omega))
  replace B_k1_1 := B_k1_1.go (hq42.mono (by omega))
  replace B_k1_2 := B_k1_2.go (hq42.mono (by omega))
  replace B_k1_3 := B_k1_3.go (hq42.mono (by omega))
  replace B_kf8_0 := B_kf8_0.go (hq42.mono (by omega))
  replace B_kf8_1 := B_kf8_1.go (hq42.mono (by omega))
  replace B_kf8_2 := B_kf8_2.go (hq42.mono (by omega))
  replace B_kf8_3 := B_kf8_3.go (hq42.mono (by omega))
  replace B_kx0_0 := B_kx0_0.go (hq42.mono (by omega))
  replace B_kx1_0 := B_kx1_0.go (hq42.mono (by omega))
  replace B_kx1_1 := B_kx1_1.go (hq42.mono (by omega))
  replace B_kx1_2 := B_kx1_2.go (hq42.mono (by omega))
  replace B_kx1_3 := B_kx1_3.go (hq42.mono (by omega))
  replace B_kbg0_0 := B_kbg0_0.go (hq42.mono (by omega))
  replace B_kbg0_1 := B_kbg0_1.go (hq42.mono (by omega))
  replace B_kbg0_2 := B_kbg0_2.go (hq42.mono (by omega))
  replace B_kbg0_3 := B_kbg0_3.go (hq42.mono (by omega))
  refine fl_take 5 rfl (by omega) hfl (by kernel_rfl) ?_; go_big_quiet_step (fail); refine wpQuiet_nil ?_
  refine fl_take 6 rfl (by omega) hfl (by kernel_rfl) ?_; go_big_quiet_step (fail); refine wpQuiet_nil ?_
  refine fl_take 7 rfl (by omega) hfl (by kernel_rfl) ?_; go_big_quiet_step (fail); refine wpQuiet_nil ?_
  refine fl_take 8 rfl (by omega) hfl (by kernel_rfl) ?_; go_big_quiet_step (fail); refine wpQuiet_nil ?_
  refine fl_land (by omega) (fun x hx => by simp only [List.mem_append, List.mem_cons, List.not_mem_nil, or_false, false_or, List.append_nil, or_assoc] at hx; rcases hx with hx | hx | hx <;> first | (have h1 := lo20_0 x hx; omega) | (have h1 := lo19 x hx; omega) | (have h1 := lo18 x hx; omega)) hfl (by kernel_rfl) (fun gf31 wL31 hxwL31 hgegf31 hnxgf31 rowgf31 => ?_)
  have hn_gf31_0 : ∀ y ∈ q20_0, y ≠ gf31 := fun y hy h => hnxgf31 (by simp [← h, hy])
  clear hnxgf31 hfl
  have hltgf31 := lt_of_row rowgf31
  have hs_wL31 := hxwL31.size
  have fgf31 := row_fz rowgf31
  have cgf31_0 := row_kn rowgf31 0 (v := .int .i64 0) rfl
  have cgf31_1 := row_kn rowgf31 1 (v := .int .i64 0) rfl
  have cgf31_2 := row_kn rowgf31 2 (v := .slice none 0 0) rfl
  have cgf31_3 := row_kn rowgf31 3 (v := .slice none 0 0) rfl
  clear B_k0_0 B_k1_0 B_k1_1 B_k1_2 B_k1_3 B_kf8_0 B_kf8_1 B_kf8_2 B_kf8_3 B_kx0_0 B_kx1_0 B_kx1_1 B_kx1_2 B_kx1_3 B_kbg0_0 B_kbg0_1 B_kbg0_2 B_kbg0_3
  replace k0_0 := k0_0.ext hxwL31
  replace k1_0 := k1_0.ext hxwL31
  replace k1_1 := k1_1.ext hxwL31
  replace k1_2 := k1_2.ext hxwL31
  replace k1_3 := k1_3.ext hxwL31
  replace kf8_0 := kf8_0.ext hxwL31
  replace kf8_1 := kf8_1.ext hxwL31
  replace kf8_2 := kf8_2.ext hxwL31
  replace kf8_3 := kf8_3.ext hxwL31
  replace kx0_0 := kx0_0.ext hxwL31
  replace kx1_0 := kx1_0.ext hxwL31
  replace kx1_1 := kx1_1.ext hxwL31
  replace kx1_2 := kx1_2.ext hxwL31
  replace kx1_3 := kx1_3.ext hxwL31
  replace kbg0_0 := kbg0_0.ext hxwL31
  replace kbg0_1 := kbg0_1.ext hxwL31
  replace kbg0_2 := kbg0_2.ext hxwL31
  replace kbg0_3 := kbg0_3.ext hxwL31
  replace ta0 := ta0.below hxwL31
  replace ta1 := ta1.below hxwL31
  replace T5_0 := T5_0.below hxwL31
  replace M17 := M17.below hxwL31
  replace T20_0 := T20_0.below hxwL31
  replace O5_0 := O5_0.below hxwL31
  replace O8_0 := O8_0.below hxwL31
  replace O20_0 := O20_0.below hxwL31
  have hy44 := Ext.trans hy43 hxwL31
  refine b_only 10 rfl (by kernel_rfl) (fun e he => ?_)
  clear he
  go_wp2_with fail
  generalize hW : World.setCell (World.setCell (World.setCell (World.setCell e.to ⟨gf31, 0, none⟩ (.int .i64 r0.kind)) ⟨gf31, 1, none⟩ (.int .i64 r0.value)) ⟨gf31, 2, none⟩ (.slice A20_0_2 r0.data.length c20_0_2)) ⟨gf31, 3, none⟩ (.slice A20_0_3 r0.kids.length c20_0_3) = wS31
  have hbwS31 : Chg [gf31] e.to wS31 := by rw [← hW]; exact Onl.chg (((((Onl.refl _ _).setCell (by simp) _ _).setCell (by simp) _ _).setCell (by simp) _ _).setCell (by simp) _ _)
  have nrgf31 : wS31.heap[gf31]? = some (.cells #[.int .i64 r0.kind, .int .i64 r0.value, .slice A20_0_2 r0.data.length c20_0_2, .slice A20_0_3 r0.kids.length c20_0_3] 32 (0, 0)) := by rw [← hW]; exact (Rows.heap_set_same (Rows.heap_set_same (Rows.heap_set_same (Rows.heap_set_same (row_at rowgf31 e)))))
  clear hW
  refine And.intro (Chg.below hbwS31 (by have := e.h.size; omega) (fun y hm => by simp at hm; omega)) ?_
  have hs_wS31 := Nat.le_trans e.h.size hbwS31.size
  replace k0_0 := k0_0.chg e hbwS31 (by omega) (fun hm => by simp at hm; omega)
  replace k1_0 := k1_0.chg e hbwS31 (by omega) (fun hm => by simp at hm; omega)
  replace k1_1 := k1_1.chg e hbwS31 (by omega) (fun hm => by simp at hm; omega)
  replace k1_2 := k1_2.chg e hbwS31 (by omega) (fun hm => by simp at hm; omega)
  replace k1_3 := k1_3.chg e hbwS31 (by omega) (fun hm => by simp at hm; omega)
  replace kf8_0 := kf8_0.chg e hbwS31 (by omega) (fun hm => by simp at hm; omega)
  replace kf8_1 := kf8_1.chg e hbwS31 (by omega) (fun hm => by simp at hm; omega)
  replace kf8_2 := kf8_2.chg e hbwS31 (by omega) (fun hm => by simp at hm; omega)
  replace kf8_3 := kf8_3.chg e hbwS31 (by omega) (fun hm => by simp at hm; omega)
  replace kx0_0 := kx0_0.chg e hbwS31 (by omega) (fun hm => by simp at hm; omega)
  replace kx1_0 := kx1_0.chg e hbwS31 (by omega) (fun hm => by simp at hm; omega)
  replace kx1_1 := kx1_1.chg e hbwS31 (by omega) (fun hm => by simp at hm; omega)
  replace kx1_2 := kx1_2.chg e hbwS31 (by omega) (fun hm => by simp at hm; omega)
  replace kx1_3 := kx1_3.chg e hbwS31 (by omega) (fun hm => by simp at hm; omega)
  replace kbg0_0 := kbg0_0.chg e hbwS31 (by omega) (fun hm => by simp at hm; omega)
  replace kbg0_1 := kbg0_1.chg e hbwS31 (by omega) (fun hm => by simp at hm; omega)
  replace kbg0_2 := kbg0_2.chg e hbwS31 (by omega) (fun hm => by simp at hm; omega)
  replace kbg0_3 := kbg0_3.chg e hbwS31 (by omega) (fun hm => by simp at hm; omega)
  replace ta0 := (ta0.below e.h).chg hbwS31 (fun y hy hm => by have h1 := loa0 y hy; simp at hm; omega)
  replace ta1 := (ta1.below e.h).chg hbwS31 (fun y hy hm => by have h1 := loa1 y hy; simp at hm; omega)
  replace T5_0 := (T5_0.below e.h).chg hbwS31 (fun y hy hm => by have h1 := lo5_0 y hy; simp at hm; omega)
  replace O5_0 := (O5_0.below e.h).chg hbwS31 (fun y hy hm => by have h1 := lo5_0 y hy; simp at hm; omega)
  replace M17 := (M17.below e.h).chg hbwS31 (fun y hy hm => by have h1 := lo8_0 y hy; simp at hm; omega)
  replace O8_0 := (O8_0.below e.h).chg hbwS31 (fun y hy hm => by have h1 := lo8_0 y hy; simp at hm; omega)
  replace T20_0 := (T20_0.below e.h).chg hbwS31 (fun y hy hm => by have h1 := lo20_0 y hy; have h2 := hn_gf31_0 y hy; simp at hm; omega)
  replace O20_0 := (O20_0.below e.h).chg hbwS31 (fun y hy hm => by have h1 := lo20_0 y hy; have h2 := hn_gf31_0 y hy; simp at hm; omega)
  have hy_wS31 : Ext w wS31 := Below.trans (Ext.trans hy44 e.h) (Chg.below hbwS31 (B := w.heap.size) ((Ext.trans hy44 e.h)).size (fun y hm => by simp at hm; omega))
  have kf31_0 := row_kn nrgf31 0 (v := .int .i64 r0.kind) rfl
  have kf31_1 := row_kn nrgf31 1 (v := .int .i64 r0.value) rfl
  have kf31_2 := row_kn nrgf31 2 (v := .slice A20_0_2 r0.data.length c20_0_2) rfl
  have kf31_3 := row_kn nrgf31 3 (v := .slice A20_0_3 r0.kids.length c20_0_3) rfl
  clear fgf31 rowgf31 nrgf31 cgf31_0 cgf31_1 cgf31_2 cgf31_3
  refine b_take 11 rfl (by kernel_rfl) ?_; go_big_quiet_step (fail); refine wpQuiet_nil ?_
  refine b_take 12 rfl (by kernel_rfl) ?_; go_big_quiet_step (fail); refine wpQuiet_nil ?_
  refine b_done (by kernel_rfl) (fun e he => ?_)
  clear he
  go_wp2_with fail
  refine (eqCore_any r0 r0 _ (T20_0.below e.h) (T5_0.below e.h)).mono ?_
  rintro _ W21 ⟨rfl, z21⟩
  have hq45 := Ext.trans e.h z21
  have hs45 := hq45.size
  replace k0_0 := k0_0.ext hq45
  replace k1_0 := k1_0.ext hq45
  replace k1_1 := k1_1.ext hq45
  replace k1_2 := k1_2.ext hq45
  replace k1_3 := k1_3.ext hq45
  replace kf8_0 := kf8_0.ext hq45
  replace kf8_1 := kf8_1.ext hq45
  replace kf8_2 := kf8_2.ext hq45
  replace kf8_3 := kf8_3.ext hq45
  replace kx0_0 := kx0_0.ext hq45
  replace kx1_0 := kx1_0.ext hq45
  replace kx1_1 := kx1_1.ext hq45
  replace kx1_2 := kx1_2.ext hq45
  replace kx1_3 := kx1_3.ext hq45
  replace kbg0_0 := kbg0_0.ext hq45
  replace kbg0_1 := kbg0_1.ext hq45
  replace kbg0_2 := kbg0_2.ext hq45
  replace kbg0_3 := kbg0_3.ext hq45
  replace kf31_0 := kf31_0.ext hq45
  replace kf31_1 := kf31_1.ext hq45
  replace kf31_2 := kf31_2.ext hq45
  replace kf31_3 := kf31_3.ext hq45
  replace ta0 := ta0.below hq45
  replace ta1 := ta1.below hq45
  replace T5_0 := T5_0.below hq45
  replace M17 := M17.below hq45
  replace T20_0 := T20_0.below hq45
  replace O5_0 := O5_0.below hq45
  replace O8_0 := O8_0.below hq45
  replace O20_0 := O20_0.below hq45
  have hy46 := Ext.trans hy_wS31 hq45
  obtain ⟨e, he⟩ : ∃ e : ExtOf W21, W21 = e.to := ⟨⟨W21, Below.refl _ _⟩, rfl⟩
  rw [he]
  clear he
  have CH0 : Hid (QC Tryz.prog W21 _ _ _) := fun W hW => heldCore_any r0 1 mg0 W (TN.below M17 hW) (by omega) (by omega) hmg0
  go_wp2_with (first | (go_at_call 15; with_reducible refine (CH0.out.at_ _).mono ?_; rintro _ _ ⟨rfl, e, rfl⟩))
  clear CH0
  go_wp2_with fail
  go_ret
  exact ⟨rfl, ExtOf.old hy46 e⟩
end Go.Proofs.YtieemijapiiiiaaGreat
