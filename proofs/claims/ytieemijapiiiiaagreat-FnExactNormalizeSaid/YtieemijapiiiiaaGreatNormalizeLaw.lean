/- The law FnExactNormalize, walked. Printed by gen_law.py. -/
import Derived.Test.YtieemijapiiiiaaGreatProg
import Derived.Test.YtieemijapiiiiaaGreatPs
import Derived.Test.YtieemijapiiiiaaGreatKCr
import Derived.Test.YtieemijapiiiiaaGreatFCr
import Derived.Test.YtieemijapiiiiaaGreatCCr
import Derived.Test.YtieemijapiiiiaaGreatZCr
import Derived.Test.YtieemijapiiiiaaGreatSc
import Derived.Test.YtieemijapiiiiaaGreatFl
import Derived.BigGuardPart
import Derived.Outline
import Derived.Deep.CutBlock
set_option linter.unusedSimpArgs false
set_option linter.unusedVariables false
namespace Go.Proofs.YtieemijapiiiiaaGreat
open Go Go.RowKit Go.Proofs Go.Tr
set_option maxRecDepth 100000 in
set_option maxHeartbeats 16000000 in
theorem lawNormalize (a0 : GBook) {p0 : List Nat} {u0 : List Value} (a1 : GCore) {p1 : List Nat} {u1 : List Value} (a2 : Int) (w : World) (ta0 : TN w a0.enc p0 u0) (ta1 : TN w a1.enc p1 u1) : Calls Tryz.prog 4 #[.agg u0.toArray, .agg u1.toArray, .int .i64 a2] w fun e w' => e = .returned (.bool (true)) ∧ Ext w w' := by
  refine quiet_start fun e => ?_
  obtain ⟨⟨r0, r1, r2⟩, hR0⟩ : ∃ R, R = normalize a0 a1 a2 := ⟨_, rfl⟩
  have hR := Lib.hid hR0
  clear hR0
  obtain ⟨_, _, _, rfl, -⟩ := GBook.us (x := a0) ta0
  obtain ⟨_, _, _, _, _, _, rfl, -⟩ := GCore.us (x := a1) ta1
  have loa0 : ∀ b ∈ p0, 0 ≤ b ∧ b < w.heap.size := fun b hb => ⟨Nat.zero_le _, ta0.lt b hb⟩
  have loa1 : ∀ b ∈ p1, 0 ≤ b ∧ b < w.heap.size := fun b hb => ⟨Nat.zero_le _, ta1.lt b hb⟩
  go_enter Tryz.func4, Tryz.ntmps4
  go_upto_region 1 with (fail)
  generalize hg2 : e.to.heap.size + 1 = g1
  generalize hg1 : e.to.heap.size = g0
  refine rebase_box2 e hg1 hg2 (fun w1 e hx1 hltg0 hltg1 cg0 cg1 => ?_)
  clear hg1 hg2
  have hs_x1 := hx1.size
  replace ta0 := ta0.below hx1
  replace ta1 := ta1.below hx1
  have k0_0 := cg0.always hltg0 0 _ rfl
  simp only [Nat.zero_add] at k0_0
  clear cg0
  have k1_0 := cg1.always hltg1 0 _ rfl
  have k1_1 := cg1.always hltg1 1 _ rfl
  have k1_2 := cg1.always hltg1 2 _ rfl
  have k1_3 := cg1.always hltg1 3 _ rfl
  simp only [Nat.zero_add] at k1_0 k1_1 k1_2 k1_3
  clear cg1
  go_wp2_with fail
  obtain ⟨_, _, _, -, -, -, nl0_0, ml0_0⟩ := GBook.us (x := a0) (TN.below ta0 e.h)
  refine (szBook_any a0 1048576 _ (ta0.below e.h) (Nat.le_trans nl0_0 ml0_0) (by omega) (by omega)).mono ?_
  rintro _ W1 ⟨z1, L0, rfl, hr0⟩
  have hq2 := Ext.trans e.h z1
  have hs2 := hq2.size
  replace k0_0 := k0_0.ext hq2
  replace k1_0 := k1_0.ext hq2
  replace k1_1 := k1_1.ext hq2
  replace k1_2 := k1_2.ext hq2
  replace k1_3 := k1_3.ext hq2
  replace ta0 := ta0.below hq2
  replace ta1 := ta1.below hq2
  have hy3 := Ext.trans hx1 hq2
  obtain ⟨e, he⟩ : ∃ e : ExtOf W1, W1 = e.to := ⟨⟨W1, Below.refl _ _⟩, rfl⟩
  rw [he]
  clear he
  rcases hr0 with rfl | ⟨hr0_0, hr1_0, sm0⟩
  case inl =>
    go_wp2_with fail
    go_ret
    exact ⟨rfl, ExtOf.old hy3 e⟩
  have hr2_0 : L0 ≤ 1048576 := by omega
  have SM0 := Lib.hid sm0
  have HL0 := Lib.hid hr1_0
  clear sm0 hr1_0
  go_wp2_with fail
  obtain ⟨_, _, _, _, _, _, -, -, -, nl1_2, ml1_2, -, nl1_3, ml1_3⟩ := GCore.us (x := a1) (TN.below ta1 e.h)
  refine (szCore_any a1 L0 _ (ta1.below e.h) (Nat.le_trans nl1_2 ml1_2) (Nat.le_trans nl1_3 ml1_3) (by omega) (by omega)).mono ?_
  rintro _ W2 ⟨z2, L1, rfl, hr1⟩
  have hq4 := Ext.trans e.h z2
  have hs4 := hq4.size
  replace k0_0 := k0_0.ext hq4
  replace k1_0 := k1_0.ext hq4
  replace k1_1 := k1_1.ext hq4
  replace k1_2 := k1_2.ext hq4
  replace k1_3 := k1_3.ext hq4
  replace ta0 := ta0.below hq4
  replace ta1 := ta1.below hq4
  have hy5 := Ext.trans hy3 hq4
  obtain ⟨e, he⟩ : ∃ e : ExtOf W2, W2 = e.to := ⟨⟨W2, Below.refl _ _⟩, rfl⟩
  rw [he]
  clear he
  rcases hr1 with rfl | ⟨hr0_1, hr1_1, sm1⟩
  case inl =>
    go_wp2_with fail
    go_ret
    exact ⟨rfl, ExtOf.old hy5 e⟩
  have hr2_1 : L1 ≤ 1048576 := by omega
  have SM1 := Lib.hid sm1
  have HL1 := Lib.hid hr1_1
  clear sm1 hr1_1
  go_wp2_with fail
  refine wp_region_b e (W2.heap.size) (by kernel_rfl) 14 (by kernel_rfl) (fun wR6 hxwR6 => ?_)
  have hs_wR6 := hxwR6.size
  replace k0_0 := k0_0.ext hxwR6
  replace k1_0 := k1_0.ext hxwR6
  replace k1_1 := k1_1.ext hxwR6
  replace k1_2 := k1_2.ext hxwR6
  replace k1_3 := k1_3.ext hxwR6
  replace ta0 := ta0.below hxwR6
  replace ta1 := ta1.below hxwR6
  have hy7 := Ext.trans hy5 hxwR6
  have B_k0_0 := k0_0.b (N := W2.heap.size) (by omega)
  have B_k1_0 := k1_0.b (N := W2.heap.size) (by omega)
  have B_k1_1 := k1_1.b (N := W2.heap.size) (by omega)
  have B_k1_2 := k1_2.b (N := W2.heap.size) (by omega)
  have B_k1_3 := k1_3.b (N := W2.heap.size) (by omega)
  refine fl_begin ⟨10, 8, fun g => .pointer (some ⟨g, 0, none⟩), .cells #[.int .i64 0, .int .i64 0, .slice none 0 0, .slice none 0 0] 32⟩ ⟨⟨_, rfl, rfl⟩, fun K a w h => wpOp_alone rfl (by go_wp2_with fail; exact h)⟩ (fun hfl => ?_)
  refine fl_take 0 rfl (by omega) hfl (by kernel_rfl) ?_; go_big_quiet_step (fail); refine wpQuiet_nil ?_
  refine fl_take 2 rfl (by omega) hfl (by kernel_rfl) ?_; go_big_quiet_step (fail); refine wpQuiet_nil ?_
  refine fl_take 4 rfl (by omega) hfl (by kernel_rfl) ?_; go_big_quiet_step (fail); refine wpQuiet_nil ?_
  refine fl_only 1 rfl (by omega) (fun x hx => by simp at hx) hfl (by kernel_rfl) (fun e => ?_)
  go_wp2_with fail
  refine (toBook_any a0 _ (ta0.below e.h) SM0.out).mono ?_
  rintro _ W3 ⟨_, q3, rfl, z3, T3, O3⟩
  obtain ⟨_, _, _, rfl, -⟩ := GBook.us T3
  have lo3 : ∀ b ∈ q3, e.to.heap.size ≤ b ∧ b < W3.heap.size := fun b hb => ⟨(O3.2 b hb).1, T3.lt b hb⟩
  have sz3 := e.h.size
  have sw3 := (Ext.trans hy7 e.h).size
  go_wp2_with fail
  refine And.intro z3 ⟨q3, lo3, ?_⟩
  have hq8 := Ext.trans e.h z3
  have hs8 := hq8.size
  replace k0_0 := k0_0.ext hq8
  replace k1_0 := k1_0.ext hq8
  replace k1_1 := k1_1.ext hq8
  replace k1_2 := k1_2.ext hq8
  replace k1_3 := k1_3.ext hq8
  replace ta0 := ta0.below hq8
  replace ta1 := ta1.below hq8
  have hy9 := Ext.trans hy7 hq8
  replace B_k0_0 := B_k0_0.go (hq8.mono (by omega))
  replace B_k1_0 := B_k1_0.go (hq8.mono (by omega))
  replace B_k1_1 := B_k1_1.go (hq8.mono (by omega))
  replace B_k1_2 := B_k1_2.go (hq8.mono (by omega))
  replace B_k1_3 := B_k1_3.go (hq8.mono (by omega))
  refine fl_only 3 rfl (by omega) (fun x hx => by simp only [List.mem_append, List.mem_cons, List.not_mem_nil, or_false, false_or, List.append_nil, or_assoc] at hx; have h1 := lo3 x hx; omega) hfl (by kernel_rfl) (fun e => ?_)
  go_wp2_with fail
  refine (toCore_any a1 _ (ta1.below e.h) SM1.out).mono ?_
  rintro _ W4 ⟨_, q4, rfl, z4, T4, O4⟩
  obtain ⟨_, _, _, _, _, _, rfl, -⟩ := GCore.us T4
  have lo4 : ∀ b ∈ q4, e.to.heap.size ≤ b ∧ b < W4.heap.size := fun b hb => ⟨(O4.2 b hb).1, T4.lt b hb⟩
  have sz4 := e.h.size
  have sw4 := (Ext.trans hy9 e.h).size
  go_wp2_with fail
  refine And.intro z4 ⟨q4, lo4, ?_⟩
  have hq10 := Ext.trans e.h z4
  have hs10 := hq10.size
  replace k0_0 := k0_0.ext hq10
  replace k1_0 := k1_0.ext hq10
  replace k1_1 := k1_1.ext hq10
  replace k1_2 := k1_2.ext hq10
  replace k1_3 := k1_3.ext hq10
  replace ta0 := ta0.below hq10
  replace ta1 := ta1.below hq10
  replace T3 := T3.below hq10
  replace O3 := O3.below hq10
  have hy11 := Ext.trans hy9 hq10
  replace B_k0_0 := B_k0_0.go (hq10.mono (by omega))
  replace B_k1_0 := B_k1_0.go (hq10.mono (by omega))
  replace B_k1_1 := B_k1_1.go (hq10.mono (by omega))
  replace B_k1_2 := B_k1_2.go (hq10.mono (by omega))
  replace B_k1_3 := B_k1_3.go (hq10.mono (by omega))
  refine fl_only 5 rfl (by omega) (fun x hx => by simp only [List.mem_append, List.mem_cons, List.not_mem_nil, or_false, false_or, List.append_nil, or_assoc] at hx; rcases hx with hx | hx <;> first | (have h1 := lo4 x hx; omega) | (have h1 := lo3 x hx; omega)) hfl (by kernel_rfl) (fun e => ?_)
  go_wp2_with fail
  refine (normalizeS_any a0 a1 a2 r0 r1 r2 hR _ (T3.below e.h) (T4.below e.h) (by have h1 := HL0.out; have h2 := HL1.out; omega)).mono ?_
  rintro _ W5 ⟨_, q5_0, B5_1, D5_1, q5_1, rfl, z5, T5_0, T5_1, O5⟩
  obtain ⟨A5_0_2, c5_0_2, _, A5_0_3, c5_0_3, _, rfl, -⟩ := GCore.us T5_0
  obtain ⟨O5_0, O5_1, dj5_1⟩ := Own.parts O5
  have lo5_0 : ∀ b ∈ q5_0, e.to.heap.size ≤ b ∧ b < W5.heap.size := fun b hb => ⟨(O5_0.2 b hb).1, T5_0.lt b hb⟩
  have lo5_1 : ∀ b ∈ q5_1, e.to.heap.size ≤ b ∧ b < W5.heap.size := fun b hb => ⟨(O5_1.2 b hb).1, T5_1.lt b hb⟩
  have sz5 := e.h.size
  have sw5 := (Ext.trans hy11 e.h).size
  have ap5_0_1 : ∀ y ∈ q5_0, y ∉ q5_1 := fun y hm => dj5_1 y hm
  go_wp2_with fail
  refine And.intro z5 ⟨q5_0 ++ q5_1, fun b hb => (List.mem_append.1 hb).elim (lo5_0 b) (lo5_1 b), ?_⟩
  have hq12 := Ext.trans e.h z5
  have hs12 := hq12.size
  replace k0_0 := k0_0.ext hq12
  replace k1_0 := k1_0.ext hq12
  replace k1_1 := k1_1.ext hq12
  replace k1_2 := k1_2.ext hq12
  replace k1_3 := k1_3.ext hq12
  replace ta0 := ta0.below hq12
  replace ta1 := ta1.below hq12
  replace T3 := T3.below hq12
  replace T4 := T4.below hq12
  replace O3 := O3.below hq12
  replace O4 := O4.below hq12
  have hy13 := Ext.trans hy11 hq12
  replace B_k0_0 := B_k0_0.go (hq12.mono (by omega))
  replace B_k1_0 := B_k1_0.go (hq12.mono (by omega))
  replace B_k1_1 := B_k1_1.go (hq12.mono (by omega))
  replace B_k1_2 := B_k1_2.go (hq12.mono (by omega))
  replace B_k1_3 := B_k1_3.go (hq12.mono (by omega))
  refine fl_take 6 rfl (by omega) hfl (by kernel_rfl) ?_; go_big_quiet_step (fail); refine wpQuiet_nil ?_
  refine fl_take 7 rfl (by omega) hfl (by kernel_rfl) ?_; go_big_quiet_step (fail); refine wpQuiet_nil ?_
  refine fl_take 8 rfl (by omega) hfl (by kernel_rfl) ?_; go_big_quiet_step (fail); refine wpQuiet_nil ?_
  refine fl_take 9 rfl (by omega) hfl (by kernel_rfl) ?_; go_big_quiet_step (fail); refine wpQuiet_nil ?_
  refine fl_land (by omega) (fun x hx => by simp only [List.mem_append, List.mem_cons, List.not_mem_nil, or_false, false_or, List.append_nil, or_assoc] at hx; rcases hx with hx | hx | hx | hx <;> first | (have h1 := lo5_0 x hx; omega) | (have h1 := lo5_1 x hx; omega) | (have h1 := lo4 x hx; omega) | (have h1 := lo3 x hx; omega)) hfl (by kernel_rfl) (fun gf8 wL8 hxwL8 hgegf8 hnxgf8 rowgf8 => ?_)
  have hn_gf8_0 : ∀ y ∈ q5_0, y ≠ gf8 := fun y hy h => hnxgf8 (by simp [← h, hy])
  have hn_gf8_1 : ∀ y ∈ q5_1, y ≠ gf8 := fun y hy h => hnxgf8 (by simp [← h, hy])
  clear hnxgf8 hfl
  have hltgf8 := lt_of_row rowgf8
  have hs_wL8 := hxwL8.size
  have fgf8 := row_fz rowgf8
  have cgf8_0 := row_kn rowgf8 0 (v := .int .i64 0) rfl
  have cgf8_1 := row_kn rowgf8 1 (v := .int .i64 0) rfl
  have cgf8_2 := row_kn rowgf8 2 (v := .slice none 0 0) rfl
  have cgf8_3 := row_kn rowgf8 3 (v := .slice none 0 0) rfl
  clear B_k0_0 B_k1_0 B_k1_1 B_k1_2 B_k1_3
  replace k0_0 := k0_0.ext hxwL8
  replace k1_0 := k1_0.ext hxwL8
  replace k1_1 := k1_1.ext hxwL8
  replace k1_2 := k1_2.ext hxwL8
  replace k1_3 := k1_3.ext hxwL8
  replace ta0 := ta0.below hxwL8
  replace ta1 := ta1.below hxwL8
  replace T5_0 := T5_0.below hxwL8
  replace T5_1 := T5_1.below hxwL8
  replace O5_0 := O5_0.below hxwL8
  replace O5_1 := O5_1.below hxwL8
  have hy14 := Ext.trans hy13 hxwL8
  refine b_only 11 rfl (by kernel_rfl) (fun e he => ?_)
  clear he
  go_wp2_with fail
  generalize hW : World.setCell (World.setCell (World.setCell (World.setCell e.to ⟨gf8, 0, none⟩ (.int .i64 r0.kind)) ⟨gf8, 1, none⟩ (.int .i64 r0.value)) ⟨gf8, 2, none⟩ (.slice A5_0_2 r0.data.length c5_0_2)) ⟨gf8, 3, none⟩ (.slice A5_0_3 r0.kids.length c5_0_3) = wS8
  have hbwS8 : Chg [gf8] e.to wS8 := by rw [← hW]; exact Onl.chg (((((Onl.refl _ _).setCell (by simp) _ _).setCell (by simp) _ _).setCell (by simp) _ _).setCell (by simp) _ _)
  have nrgf8 : wS8.heap[gf8]? = some (.cells #[.int .i64 r0.kind, .int .i64 r0.value, .slice A5_0_2 r0.data.length c5_0_2, .slice A5_0_3 r0.kids.length c5_0_3] 32 (0, 0)) := by rw [← hW]; exact (Rows.heap_set_same (Rows.heap_set_same (Rows.heap_set_same (Rows.heap_set_same (row_at rowgf8 e)))))
  clear hW
  refine And.intro (Chg.below hbwS8 (by have := e.h.size; omega) (fun y hm => by simp at hm; omega)) ?_
  have hs_wS8 := Nat.le_trans e.h.size hbwS8.size
  replace k0_0 := k0_0.chg e hbwS8 (by omega) (fun hm => by simp at hm; omega)
  replace k1_0 := k1_0.chg e hbwS8 (by omega) (fun hm => by simp at hm; omega)
  replace k1_1 := k1_1.chg e hbwS8 (by omega) (fun hm => by simp at hm; omega)
  replace k1_2 := k1_2.chg e hbwS8 (by omega) (fun hm => by simp at hm; omega)
  replace k1_3 := k1_3.chg e hbwS8 (by omega) (fun hm => by simp at hm; omega)
  replace ta0 := (ta0.below e.h).chg hbwS8 (fun y hy hm => by have h1 := loa0 y hy; simp at hm; omega)
  replace ta1 := (ta1.below e.h).chg hbwS8 (fun y hy hm => by have h1 := loa1 y hy; simp at hm; omega)
  replace T5_0 := (T5_0.below e.h).chg hbwS8 (fun y hy hm => by have h1 := lo5_0 y hy; have h2 := hn_gf8_0 y hy; simp at hm; omega)
  replace O5_0 := (O5_0.below e.h).chg hbwS8 (fun y hy hm => by have h1 := lo5_0 y hy; have h2 := hn_gf8_0 y hy; simp at hm; omega)
  replace T5_1 := (T5_1.below e.h).chg hbwS8 (fun y hy hm => by have h1 := lo5_1 y hy; have h2 := hn_gf8_1 y hy; simp at hm; omega)
  replace O5_1 := (O5_1.below e.h).chg hbwS8 (fun y hy hm => by have h1 := lo5_1 y hy; have h2 := hn_gf8_1 y hy; simp at hm; omega)
  have hy_wS8 : Ext w wS8 := Below.trans (Ext.trans hy14 e.h) (Chg.below hbwS8 (B := w.heap.size) ((Ext.trans hy14 e.h)).size (fun y hm => by simp at hm; omega))
  have kf8_0 := row_kn nrgf8 0 (v := .int .i64 r0.kind) rfl
  have kf8_1 := row_kn nrgf8 1 (v := .int .i64 r0.value) rfl
  have kf8_2 := row_kn nrgf8 2 (v := .slice A5_0_2 r0.data.length c5_0_2) rfl
  have kf8_3 := row_kn nrgf8 3 (v := .slice A5_0_3 r0.kids.length c5_0_3) rfl
  clear fgf8 rowgf8 nrgf8 cgf8_0 cgf8_1 cgf8_2 cgf8_3
  refine b_take 12 rfl (by kernel_rfl) ?_; go_big_quiet_step (fail); refine wpQuiet_nil ?_
  refine b_take 13 rfl (by kernel_rfl) ?_; go_big_quiet_step (fail); refine wpQuiet_nil ?_
  refine b_done (by kernel_rfl) (fun e he => ?_)
  clear he
  go_wp2_with fail
  refine (toBook_any a0 _ (ta0.below e.h) SM0.out).mono ?_
  rintro _ W6 ⟨_, q6, rfl, z6, T6, O6⟩
  obtain ⟨_, _, _, rfl, -⟩ := GBook.us T6
  have lo6 : ∀ b ∈ q6, e.to.heap.size ≤ b ∧ b < W6.heap.size := fun b hb => ⟨(O6.2 b hb).1, T6.lt b hb⟩
  have sz6 := e.h.size
  have sw6 := (Ext.trans hy_wS8 e.h).size
  have hq15 := Ext.trans e.h z6
  have hs15 := hq15.size
  replace k0_0 := k0_0.ext hq15
  replace k1_0 := k1_0.ext hq15
  replace k1_1 := k1_1.ext hq15
  replace k1_2 := k1_2.ext hq15
  replace k1_3 := k1_3.ext hq15
  replace kf8_0 := kf8_0.ext hq15
  replace kf8_1 := kf8_1.ext hq15
  replace kf8_2 := kf8_2.ext hq15
  replace kf8_3 := kf8_3.ext hq15
  replace ta0 := ta0.below hq15
  replace ta1 := ta1.below hq15
  replace T5_0 := T5_0.below hq15
  replace T5_1 := T5_1.below hq15
  replace O5_0 := O5_0.below hq15
  replace O5_1 := O5_1.below hq15
  have hy16 := Ext.trans hy_wS8 hq15
  obtain ⟨e, he⟩ : ∃ e : ExtOf W6, W6 = e.to := ⟨⟨W6, Below.refl _ _⟩, rfl⟩
  go_upto_region 10 with (fail)
  clear he
  generalize hggx0 : e.to.heap.size = gx0
  refine rebase_box e hggx0 (fun w17 e hx17 hgegx0 hltgx0 cgx0 => ?_)
  clear hggx0
  replace k0_0 := k0_0.ext hx17
  replace k1_0 := k1_0.ext hx17
  replace k1_1 := k1_1.ext hx17
  replace k1_2 := k1_2.ext hx17
  replace k1_3 := k1_3.ext hx17
  replace kf8_0 := kf8_0.ext hx17
  replace kf8_1 := kf8_1.ext hx17
  replace kf8_2 := kf8_2.ext hx17
  replace kf8_3 := kf8_3.ext hx17
  replace ta0 := ta0.below hx17
  replace ta1 := ta1.below hx17
  replace T5_0 := T5_0.below hx17
  replace T5_1 := T5_1.below hx17
  replace T6 := T6.below hx17
  replace O5_0 := O5_0.below hx17
  replace O5_1 := O5_1.below hx17
  replace O6 := O6.below hx17
  have hy17 := Ext.trans hy16 hx17
  have hs_gx0 := hx17.size
  have kx0_0 := cgx0.always hltgx0 0 _ rfl
  simp only [Nat.zero_add] at kx0_0
  clear cgx0
  go_wp2_with fail
  refine (toCore_any a1 _ (ta1.below e.h) SM1.out).mono ?_
  rintro _ W7 ⟨_, q7, rfl, z7, T7, O7⟩
  obtain ⟨_, _, _, _, _, _, rfl, -⟩ := GCore.us T7
  have lo7 : ∀ b ∈ q7, e.to.heap.size ≤ b ∧ b < W7.heap.size := fun b hb => ⟨(O7.2 b hb).1, T7.lt b hb⟩
  have sz7 := e.h.size
  have sw7 := (Ext.trans hy17 e.h).size
  have hq18 := Ext.trans e.h z7
  have hs18 := hq18.size
  replace k0_0 := k0_0.ext hq18
  replace k1_0 := k1_0.ext hq18
  replace k1_1 := k1_1.ext hq18
  replace k1_2 := k1_2.ext hq18
  replace k1_3 := k1_3.ext hq18
  replace kf8_0 := kf8_0.ext hq18
  replace kf8_1 := kf8_1.ext hq18
  replace kf8_2 := kf8_2.ext hq18
  replace kf8_3 := kf8_3.ext hq18
  replace kx0_0 := kx0_0.ext hq18
  replace ta0 := ta0.below hq18
  replace ta1 := ta1.below hq18
  replace T5_0 := T5_0.below hq18
  replace T5_1 := T5_1.below hq18
  replace T6 := T6.below hq18
  replace O5_0 := O5_0.below hq18
  replace O5_1 := O5_1.below hq18
  replace O6 := O6.below hq18
  have hy19 := Ext.trans hy17 hq18
  obtain ⟨e, he⟩ : ∃ e : ExtOf W7, W7 = e.to := ⟨⟨W7, Below.refl _ _⟩, rfl⟩
  go_upto_region 11 with (fail)
  clear he
  generalize hggx1 : e.to.heap.size = gx1
  refine rebase_box e hggx1 (fun w20 e hx20 hgegx1 hltgx1 cgx1 => ?_)
  clear hggx1
  replace k0_0 := k0_0.ext hx20
  replace k1_0 := k1_0.ext hx20
  replace k1_1 := k1_1.ext hx20
  replace k1_2 := k1_2.ext hx20
  replace k1_3 := k1_3.ext hx20
  replace kf8_0 := kf8_0.ext hx20
  replace kf8_1 := kf8_1.ext hx20
  replace kf8_2 := kf8_2.ext hx20
  replace kf8_3 := kf8_3.ext hx20
  replace kx0_0 := kx0_0.ext hx20
  replace ta0 := ta0.below hx20
  replace ta1 := ta1.below hx20
  replace T5_0 := T5_0.below hx20
  replace T5_1 := T5_1.below hx20
  replace T6 := T6.below hx20
  replace T7 := T7.below hx20
  replace O5_0 := O5_0.below hx20
  replace O5_1 := O5_1.below hx20
  replace O6 := O6.below hx20
  replace O7 := O7.below hx20
  have hy20 := Ext.trans hy19 hx20
  have hs_gx1 := hx20.size
  have kx1_0 := cgx1.always hltgx1 0 _ rfl
  have kx1_1 := cgx1.always hltgx1 1 _ rfl
  have kx1_2 := cgx1.always hltgx1 2 _ rfl
  have kx1_3 := cgx1.always hltgx1 3 _ rfl
  simp only [Nat.zero_add] at kx1_0 kx1_1 kx1_2 kx1_3
  clear cgx1
  go_wp2_with fail
  refine (normalizeI_any a0 a1 a2 r0 r1 r2 hR _ (T6.below e.h) (T7.below e.h) (by have h1 := HL0.out; have h2 := HL1.out; omega)).mono ?_
  rintro _ W8 ⟨_, q8_0, B8_1, D8_1, q8_1, rfl, z8, T8_0, T8_1, O8⟩
  obtain ⟨A8_0_2, c8_0_2, _, A8_0_3, c8_0_3, _, rfl, -⟩ := GCore.us T8_0
  obtain ⟨O8_0, O8_1, dj8_1⟩ := Own.parts O8
  have lo8_0 : ∀ b ∈ q8_0, e.to.heap.size ≤ b ∧ b < W8.heap.size := fun b hb => ⟨(O8_0.2 b hb).1, T8_0.lt b hb⟩
  have lo8_1 : ∀ b ∈ q8_1, e.to.heap.size ≤ b ∧ b < W8.heap.size := fun b hb => ⟨(O8_1.2 b hb).1, T8_1.lt b hb⟩
  have sz8 := e.h.size
  have sw8 := (Ext.trans hy20 e.h).size
  have ap8_0_1 : ∀ y ∈ q8_0, y ∉ q8_1 := fun y hm => dj8_1 y hm
  have hq21 := Ext.trans e.h z8
  have hs21 := hq21.size
  replace k0_0 := k0_0.ext hq21
  replace k1_0 := k1_0.ext hq21
  replace k1_1 := k1_1.ext hq21
  replace k1_2 := k1_2.ext hq21
  replace k1_3 := k1_3.ext hq21
  replace kf8_0 := kf8_0.ext hq21
  replace kf8_1 := kf8_1.ext hq21
  replace kf8_2 := kf8_2.ext hq21
  replace kf8_3 := kf8_3.ext hq21
  replace kx0_0 := kx0_0.ext hq21
  replace kx1_0 := kx1_0.ext hq21
  replace kx1_1 := kx1_1.ext hq21
  replace kx1_2 := kx1_2.ext hq21
  replace kx1_3 := kx1_3.ext hq21
  replace ta0 := ta0.below hq21
  replace ta1 := ta1.below hq21
  replace T5_0 := T5_0.below hq21
  replace T5_1 := T5_1.below hq21
  replace T6 := T6.below hq21
  replace T7 := T7.below hq21
  replace O5_0 := O5_0.below hq21
  replace O5_1 := O5_1.below hq21
  replace O6 := O6.below hq21
  replace O7 := O7.below hq21
  have hy22 := Ext.trans hy20 hq21
  obtain ⟨e, he⟩ : ∃ e : ExtOf W8, W8 = e.to := ⟨⟨W8, Below.refl _ _⟩, rfl⟩
  rw [he]
  clear he
  go_upto_region 12 with (fail)
  generalize hggbg0 : e.to.heap.size = gbg0
  refine rebase_box e hggbg0 (fun w23 e hx23 hgegbg0 hltgbg0 cgbg0 => ?_)
  clear hggbg0
  replace k0_0 := k0_0.ext hx23
  replace k1_0 := k1_0.ext hx23
  replace k1_1 := k1_1.ext hx23
  replace k1_2 := k1_2.ext hx23
  replace k1_3 := k1_3.ext hx23
  replace kf8_0 := kf8_0.ext hx23
  replace kf8_1 := kf8_1.ext hx23
  replace kf8_2 := kf8_2.ext hx23
  replace kf8_3 := kf8_3.ext hx23
  replace kx0_0 := kx0_0.ext hx23
  replace kx1_0 := kx1_0.ext hx23
  replace kx1_1 := kx1_1.ext hx23
  replace kx1_2 := kx1_2.ext hx23
  replace kx1_3 := kx1_3.ext hx23
  replace ta0 := ta0.below hx23
  replace ta1 := ta1.below hx23
  replace T5_0 := T5_0.below hx23
  replace T5_1 := T5_1.below hx23
  replace T6 := T6.below hx23
  replace T7 := T7.below hx23
  replace T8_0 := T8_0.below hx23
  replace T8_1 := T8_1.below hx23
  replace O5_0 := O5_0.below hx23
  replace O5_1 := O5_1.below hx23
  replace O6 := O6.below hx23
  replace O7 := O7.below hx23
  replace O8_0 := O8_0.below hx23
  replace O8_1 := O8_1.below hx23
  have hy23 := Ext.trans hy22 hx23
  have hs_gbg0 := hx23.size
  have kbg0_0 := cgbg0.always hltgbg0 0 _ rfl
  have kbg0_1 := cgbg0.always hltgbg0 1 _ rfl
  have kbg0_2 := cgbg0.always hltgbg0 2 _ rfl
  have kbg0_3 := cgbg0.always hltgbg0 3 _ rfl
  simp only [Nat.zero_add] at kbg0_0 kbg0_1 kbg0_2 kbg0_3
  clear cgbg0
  have ee_r0 : eqb r0 r0 = true := eqb_self r0
  have ee_r1 : eqb r1 r1 = true := eqb_self r1
  go_wp2_with fail
  refine (eqCore_any r0 r0 _ (T8_0.below e.h) (T5_0.below e.h)).mono ?_
  rintro _ W9 ⟨rfl, z9⟩
  have hq24 := Ext.trans e.h z9
  have hs24 := hq24.size
  replace k0_0 := k0_0.ext hq24
  replace k1_0 := k1_0.ext hq24
  replace k1_1 := k1_1.ext hq24
  replace k1_2 := k1_2.ext hq24
  replace k1_3 := k1_3.ext hq24
  replace kf8_0 := kf8_0.ext hq24
  replace kf8_1 := kf8_1.ext hq24
  replace kf8_2 := kf8_2.ext hq24
  replace kf8_3 := kf8_3.ext hq24
  replace kx0_0 := kx0_0.ext hq24
  replace kx1_0 := kx1_0.ext hq24
  replace kx1_1 := kx1_1.ext hq24
  replace kx1_2 := kx1_2.ext hq24
  replace kx1_3 := kx1_3.ext hq24
  replace kbg0_0 := kbg0_0.ext hq24
  replace kbg0_1 := kbg0_1.ext hq24
  replace kbg0_2 := kbg0_2.ext hq24
  replace kbg0_3 := kbg0_3.ext hq24
  replace ta0 := ta0.below hq24
  replace ta1 := ta1.below hq24
  replace T5_0 := T5_0.below hq24
  replace T5_1 := T5_1.below hq24
  replace T6 := T6.below hq24
  replace T7 := T7.below hq24
  replace T8_0 := T8_0.below hq24
  replace T8_1 := T8_1.below hq24
  replace O5_0 := O5_0.below hq24
  replace O5_1 := O5_1.below hq24
  replace O6 := O6.below hq24
  replace O7 := O7.below hq24
  replace O8_0 := O8_0.below hq24
  replace O8_1 := O8_1.below hq24
  have hy25 := Ext.trans hy23 hq24
  obtain ⟨e, he⟩ : ∃ e : ExtOf W9, W9 = e.to := ⟨⟨W9, Below.refl _ _⟩, rfl⟩
  rw [he]
  clear he
  go_wp2_with fail
  refine (eqInt64S_any r1 r1 _ (T8_1.below e.h) (T5_1.below e.h) (by have := T8_1.nle; unfold maxLen; omega) (by have := T8_1.nle; unfold maxLen; omega)).mono ?_
  rintro _ W10 ⟨rfl, z10⟩
  have hq26 := Ext.trans e.h z10
  have hs26 := hq26.size
  replace k0_0 := k0_0.ext hq26
  replace k1_0 := k1_0.ext hq26
  replace k1_1 := k1_1.ext hq26
  replace k1_2 := k1_2.ext hq26
  replace k1_3 := k1_3.ext hq26
  replace kf8_0 := kf8_0.ext hq26
  replace kf8_1 := kf8_1.ext hq26
  replace kf8_2 := kf8_2.ext hq26
  replace kf8_3 := kf8_3.ext hq26
  replace kx0_0 := kx0_0.ext hq26
  replace kx1_0 := kx1_0.ext hq26
  replace kx1_1 := kx1_1.ext hq26
  replace kx1_2 := kx1_2.ext hq26
  replace kx1_3 := kx1_3.ext hq26
  replace kbg0_0 := kbg0_0.ext hq26
  replace kbg0_1 := kbg0_1.ext hq26
  replace kbg0_2 := kbg0_2.ext hq26
  replace kbg0_3 := kbg0_3.ext hq26
  replace ta0 := ta0.below hq26
  replace ta1 := ta1.below hq26
  replace T5_0 := T5_0.below hq26
  replace T5_1 := T5_1.below hq26
  replace T6 := T6.below hq26
  replace T7 := T7.below hq26
  replace T8_0 := T8_0.below hq26
  replace T8_1 := T8_1.below hq26
  replace O5_0 := O5_0.below hq26
  replace O5_1 := O5_1.below hq26
  replace O6 := O6.below hq26
  replace O7 := O7.below hq26
  replace O8_0 := O8_0.below hq26
  replace O8_1 := O8_1.below hq26
  have hy27 := Ext.trans hy25 hq26
  obtain ⟨e, he⟩ : ∃ e : ExtOf W10, W10 = e.to := ⟨⟨W10, Below.refl _ _⟩, rfl⟩
  rw [he]
  clear he
  have ee_a0 : eqb a0 a0 = true := eqb_self a0
  go_wp2_with fail
  refine wp_region_grow _ (by kernel_rfl) 5 (by kernel_rfl) ?_
  refine grow_take 0 rfl (by kernel_rfl) ?_; go_big_quiet_step (fail); refine wpQuiet_nil ?_
  refine grow_take 1 rfl (by kernel_rfl) ?_; go_big_quiet_step (fail); refine wpQuiet_nil ?_
  refine grow_only 2 rfl (by kernel_rfl) (fun e => ?_)
  go_wp2_with fail
  refine (toBook_any a0 _ (ta0.below e.h) SM0.out).mono ?_
  rintro _ W11 ⟨_, q11, rfl, z11, T11, O11⟩
  obtain ⟨_, _, _, rfl, -⟩ := GBook.us T11
  have lo11 : ∀ b ∈ q11, e.to.heap.size ≤ b ∧ b < W11.heap.size := fun b hb => ⟨(O11.2 b hb).1, T11.lt b hb⟩
  have sz11 := e.h.size
  have sw11 := (Ext.trans hy27 e.h).size
  go_wp2_with fail
  refine And.intro z11 ?_
  have hq28 := Ext.trans e.h z11
  have hs28 := hq28.size
  replace k0_0 := k0_0.ext hq28
  replace k1_0 := k1_0.ext hq28
  replace k1_1 := k1_1.ext hq28
  replace k1_2 := k1_2.ext hq28
  replace k1_3 := k1_3.ext hq28
  replace kf8_0 := kf8_0.ext hq28
  replace kf8_1 := kf8_1.ext hq28
  replace kf8_2 := kf8_2.ext hq28
  replace kf8_3 := kf8_3.ext hq28
  replace kx0_0 := kx0_0.ext hq28
  replace kx1_0 := kx1_0.ext hq28
  replace kx1_1 := kx1_1.ext hq28
  replace kx1_2 := kx1_2.ext hq28
  replace kx1_3 := kx1_3.ext hq28
  replace kbg0_0 := kbg0_0.ext hq28
  replace kbg0_1 := kbg0_1.ext hq28
  replace kbg0_2 := kbg0_2.ext hq28
  replace kbg0_3 := kbg0_3.ext hq28
  replace ta0 := ta0.below hq28
  replace ta1 := ta1.below hq28
  replace T5_0 := T5_0.below hq28
  replace T5_1 := T5_1.below hq28
  replace T6 := T6.below hq28
  replace T7 := T7.below hq28
  replace T8_0 := T8_0.below hq28
  replace T8_1 := T8_1.below hq28
  replace O5_0 := O5_0.below hq28
  replace O5_1 := O5_1.below hq28
  replace O6 := O6.below hq28
  replace O7 := O7.below hq28
  replace O8_0 := O8_0.below hq28
  replace O8_1 := O8_1.below hq28
  have hy29 := Ext.trans hy27 hq28
  refine grow_only 3 rfl (by kernel_rfl) (fun e => ?_)
  go_wp2_with fail
  refine (eqBook_any a0 a0 _ (T6.below e.h) (T11.below e.h)).mono ?_
  rintro _ W12 ⟨rfl, z12⟩
  go_wp2_with fail
  refine And.intro z12 ?_
  have hq30 := Ext.trans e.h z12
  have hs30 := hq30.size
  replace k0_0 := k0_0.ext hq30
  replace k1_0 := k1_0.ext hq30
  replace k1_1 := k1_1.ext hq30
  replace k1_2 := k1_2.ext hq30
  replace k1_3 := k1_3.ext hq30
  replace kf8_0 := kf8_0.ext hq30
  replace kf8_1 := kf8_1.ext hq30
  replace kf8_2 := kf8_2.ext hq30
  replace kf8_3 := kf8_3.ext hq30
  replace kx0_0 := kx0_0.ext hq30
  replace kx1_0 := kx1_0.ext hq30
  replace kx1_1 := kx1_1.ext hq30
  replace kx1_2 := kx1_2.ext hq30
  replace kx1_3 := kx1_3.ext hq30
  replace kbg0_0 := kbg0_0.ext hq30
  replace kbg0_1 := kbg0_1.ext hq30
  replace kbg0_2 := kbg0_2.ext hq30
  replace kbg0_3 := kbg0_3.ext hq30
  replace ta0 := ta0.below hq30
  replace ta1 := ta1.below hq30
  replace T5_0 := T5_0.below hq30
  replace T5_1 := T5_1.below hq30
  replace T6 := T6.below hq30
  replace T7 := T7.below hq30
  replace T8_0 := T8_0.below hq30
  replace T8_1 := T8_1.below hq30
  replace T11 := T11.below hq30
  replace O5_0 := O5_0.below hq30
  replace O5_1 := O5_1.below hq30
  replace O6 := O6.below hq30
  replace O7 := O7.below hq30
  replace O8_0 := O8_0.below hq30
  replace O8_1 := O8_1.below hq30
  replace O11 := O11.below hq30
  have hy31 := Ext.trans hy29 hq30
  refine grow_take 4 rfl (by kernel_rfl) ?_; go_big_quiet_step (fail); refine wpQuiet_nil ?_
  refine grow_done (by kernel_rfl) (fun e => ?_)
  have ee_a1 : eqb a1 a1 = true := eqb_self a1
  go_wp2_with fail
  refine wp_region_grow _ (by kernel_rfl) 5 (by kernel_rfl) ?_
  refine grow_take 0 rfl (by kernel_rfl) ?_; go_big_quiet_step (fail); refine wpQuiet_nil ?_
  refine grow_take 1 rfl (by kernel_rfl) ?_; go_big_quiet_step (fail); refine wpQuiet_nil ?_
  refine grow_only 2 rfl (by kernel_rfl) (fun e => ?_)
  go_wp2_with fail
  refine (toCore_any a1 _ (ta1.below e.h) SM1.out).mono ?_
  rintro _ W13 ⟨_, q13, rfl, z13, T13, O13⟩
  obtain ⟨_, _, _, _, _, _, rfl, -⟩ := GCore.us T13
  have lo13 : ∀ b ∈ q13, e.to.heap.size ≤ b ∧ b < W13.heap.size := fun b hb => ⟨(O13.2 b hb).1, T13.lt b hb⟩
  have sz13 := e.h.size
  have sw13 := (Ext.trans hy31 e.h).size
  go_wp2_with fail
  refine And.intro z13 ?_
  have hq32 := Ext.trans e.h z13
  have hs32 := hq32.size
  replace k0_0 := k0_0.ext hq32
  replace k1_0 := k1_0.ext hq32
  replace k1_1 := k1_1.ext hq32
  replace k1_2 := k1_2.ext hq32
  replace k1_3 := k1_3.ext hq32
  replace kf8_0 := kf8_0.ext hq32
  replace kf8_1 := kf8_1.ext hq32
  replace kf8_2 := kf8_2.ext hq32
  replace kf8_3 := kf8_3.ext hq32
  replace kx0_0 := kx0_0.ext hq32
  replace kx1_0 := kx1_0.ext hq32
  replace kx1_1 := kx1_1.ext hq32
  replace kx1_2 := kx1_2.ext hq32
  replace kx1_3 := kx1_3.ext hq32
  replace kbg0_0 := kbg0_0.ext hq32
  replace kbg0_1 := kbg0_1.ext hq32
  replace kbg0_2 := kbg0_2.ext hq32
  replace kbg0_3 := kbg0_3.ext hq32
  replace ta0 := ta0.below hq32
  replace ta1 := ta1.below hq32
  replace T5_0 := T5_0.below hq32
  replace T5_1 := T5_1.below hq32
  replace T6 := T6.below hq32
  replace T7 := T7.below hq32
  replace T8_0 := T8_0.below hq32
  replace T8_1 := T8_1.below hq32
  replace O5_0 := O5_0.below hq32
  replace O5_1 := O5_1.below hq32
  replace O6 := O6.below hq32
  replace O7 := O7.below hq32
  replace O8_0 := O8_0.below hq32
  replace O8_1 := O8_1.below hq32
  have hy33 := Ext.trans hy31 hq32
  refine grow_only 3 rfl (by kernel_rfl) (fun e => ?_)
  go_wp2_with fail
  refine (eqCore_any a1 a1 _ (T7.below e.h) (T13.below e.h)).mono ?_
  rintro _ W14 ⟨rfl, z14⟩
  go_wp2_with fail
  refine And.intro z14 ?_
  have hq34 := Ext.trans e.h z14
  have hs34 := hq34.size
  replace k0_0 := k0_0.ext hq34
  replace k1_0 := k1_0.ext hq34
  replace k1_1 := k1_1.ext hq34
  replace k1_2 := k1_2.ext hq34
  replace k1_3 := k1_3.ext hq34
  replace kf8_0 := kf8_0.ext hq34
  replace kf8_1 := kf8_1.ext hq34
  replace kf8_2 := kf8_2.ext hq34
  replace kf8_3 := kf8_3.ext hq34
  replace kx0_0 := kx0_0.ext hq34
  replace kx1_0 := kx1_0.ext hq34
  replace kx1_1 := kx1_1.ext hq34
  replace kx1_2 := kx1_2.ext hq34
  replace kx1_3 := kx1_3.ext hq34
  replace kbg0_0 := kbg0_0.ext hq34
  replace kbg0_1 := kbg0_1.ext hq34
  replace kbg0_2 := kbg0_2.ext hq34
  replace kbg0_3 := kbg0_3.ext hq34
  replace ta0 := ta0.below hq34
  replace ta1 := ta1.below hq34
  replace T5_0 := T5_0.below hq34
  replace T5_1 := T5_1.below hq34
  replace T6 := T6.below hq34
  replace T7 := T7.below hq34
  replace T8_0 := T8_0.below hq34
  replace T8_1 := T8_1.below hq34
  replace T13 := T13.below hq34
  replace O5_0 := O5_0.below hq34
  replace O5_1 := O5_1.below hq34
  replace O6 := O6.below hq34
  replace O7 := O7.below hq34
  replace O8_0 := O8_0.below hq34
  replace O8_1 := O8_1.below hq34
  replace O13 := O13.below hq34
  have hy35 := Ext.trans hy33 hq34
  refine grow_take 4 rfl (by kernel_rfl) ?_; go_big_quiet_step (fail); refine wpQuiet_nil ?_
  refine grow_done (by kernel_rfl) (fun e => ?_)
  go_wp2_with fail
  have cb0 : a0.cnt ≤ 33554432 := by have h1 := GBook.cnt_le a0; have h2 := HL0.out; omega
  have cb1 : a1.cnt ≤ 33554432 := by have h1 := GCore.cnt_le a1; have h2 := HL1.out; omega
  obtain ⟨rb0, rb1⟩ : r0.cnt ≤ 1099511627776 ∧ cN (r1.flatMap intE) ≤ 1099511627776 := normalize_small a0 a1 a2 r0 r1 r2 hR.out SM0.out SM1.out
  refine (markBook_any a0 1 _ (T6.below e.h) (O6.below e.h) (by omega) (by omega)).mono ?_
  rintro _ W15 ⟨kx0, rfl, hkx0, M15, f15, V15⟩
  have pkx0 : 0 ≤ kx0 := by have := hkx0.out; omega
  have hsW15 := f15.size
  have hszW15 := e.h.size
  replace k0_0 := k0_0.onl e f15 (by omega) (fun hm => by have := lo6 _ hm; omega)
  replace k1_0 := k1_0.onl e f15 (by omega) (fun hm => by have := lo6 _ hm; omega)
  replace k1_1 := k1_1.onl e f15 (by omega) (fun hm => by have := lo6 _ hm; omega)
  replace k1_2 := k1_2.onl e f15 (by omega) (fun hm => by have := lo6 _ hm; omega)
  replace k1_3 := k1_3.onl e f15 (by omega) (fun hm => by have := lo6 _ hm; omega)
  replace kf8_0 := kf8_0.onl e f15 (by omega) (fun hm => by have := lo6 _ hm; omega)
  replace kf8_1 := kf8_1.onl e f15 (by omega) (fun hm => by have := lo6 _ hm; omega)
  replace kf8_2 := kf8_2.onl e f15 (by omega) (fun hm => by have := lo6 _ hm; omega)
  replace kf8_3 := kf8_3.onl e f15 (by omega) (fun hm => by have := lo6 _ hm; omega)
  replace kx0_0 := kx0_0.onl e f15 (by omega) (fun hm => by have := lo6 _ hm; omega)
  replace kx1_0 := kx1_0.onl e f15 (by omega) (fun hm => by have := lo6 _ hm; omega)
  replace kx1_1 := kx1_1.onl e f15 (by omega) (fun hm => by have := lo6 _ hm; omega)
  replace kx1_2 := kx1_2.onl e f15 (by omega) (fun hm => by have := lo6 _ hm; omega)
  replace kx1_3 := kx1_3.onl e f15 (by omega) (fun hm => by have := lo6 _ hm; omega)
  replace kbg0_0 := kbg0_0.onl e f15 (by omega) (fun hm => by have := lo6 _ hm; omega)
  replace kbg0_1 := kbg0_1.onl e f15 (by omega) (fun hm => by have := lo6 _ hm; omega)
  replace kbg0_2 := kbg0_2.onl e f15 (by omega) (fun hm => by have := lo6 _ hm; omega)
  replace kbg0_3 := kbg0_3.onl e f15 (by omega) (fun hm => by have := lo6 _ hm; omega)
  replace ta0 := TN.onl (ta0.below e.h) f15 (fun y hy hm => by have h1 := loa0 y hy; have h2 := lo6 y hm; omega)
  replace ta1 := TN.onl (ta1.below e.h) f15 (fun y hy hm => by have h1 := loa1 y hy; have h2 := lo6 y hm; omega)
  replace O5_0 := (O5_0.below e.h).onl f15
  replace T5_0 := TN.onl (T5_0.below e.h) f15 (fun y hy hm => by have h1 := lo5_0 y hy; have h2 := lo6 y hm; omega)
  replace O5_1 := (O5_1.below e.h).onl f15
  replace T5_1 := T1.onl (T5_1.below e.h) f15 (fun y hy hm => by have h1 := lo5_1 y hy; have h2 := lo6 y hm; omega)
  replace O7 := (O7.below e.h).onl f15
  replace T7 := TN.onl (T7.below e.h) f15 (fun y hy hm => by have h1 := lo7 y hy; have h2 := lo6 y hm; omega)
  replace O8_0 := (O8_0.below e.h).onl f15
  replace T8_0 := TN.onl (T8_0.below e.h) f15 (fun y hy hm => by have h1 := lo8_0 y hy; have h2 := lo6 y hm; omega)
  replace O8_1 := (O8_1.below e.h).onl f15
  replace T8_1 := T1.onl (T8_1.below e.h) f15 (fun y hy hm => by have h1 := lo8_1 y hy; have h2 := lo6 y hm; omega)
  have hB15 : Ext w W15 := Below.trans (Ext.trans hy35 e.h) (Onl.below f15 (Ext.trans hy35 e.h).size (fun y hm => by have := lo6 y hm; have := (Ext.trans hy35 e.h).size; omega))
  obtain ⟨e, he⟩ : ∃ e : ExtOf W15, W15 = e.to := ⟨⟨W15, Below.refl _ _⟩, rfl⟩
  rw [he]
  clear he
  have bdkx0 : kx0 ≤ 36028797018963968 := by have := hkx0.out; omega
  go_wp2_with fail
  refine (markCore_any a1 kx0 _ (T7.below e.h) (O7.below e.h) (by omega) (by omega)).mono ?_
  rintro _ W16 ⟨kx1, rfl, hkx1, M16, f16, V16⟩
  have pkx1 : 0 ≤ kx1 := by have := hkx1.out; omega
  have hsW16 := f16.size
  have hszW16 := e.h.size
  replace k0_0 := k0_0.onl e f16 (by omega) (fun hm => by have := lo7 _ hm; omega)
  replace k1_0 := k1_0.onl e f16 (by omega) (fun hm => by have := lo7 _ hm; omega)
  replace k1_1 := k1_1.onl e f16 (by omega) (fun hm => by have := lo7 _ hm; omega)
  replace k1_2 := k1_2.onl e f16 (by omega) (fun hm => by have := lo7 _ hm; omega)
  replace k1_3 := k1_3.onl e f16 (by omega) (fun hm => by have := lo7 _ hm; omega)
  replace kf8_0 := kf8_0.onl e f16 (by omega) (fun hm => by have := lo7 _ hm; omega)
  replace kf8_1 := kf8_1.onl e f16 (by omega) (fun hm => by have := lo7 _ hm; omega)
  replace kf8_2 := kf8_2.onl e f16 (by omega) (fun hm => by have := lo7 _ hm; omega)
  replace kf8_3 := kf8_3.onl e f16 (by omega) (fun hm => by have := lo7 _ hm; omega)
  replace kx0_0 := kx0_0.onl e f16 (by omega) (fun hm => by have := lo7 _ hm; omega)
  replace kx1_0 := kx1_0.onl e f16 (by omega) (fun hm => by have := lo7 _ hm; omega)
  replace kx1_1 := kx1_1.onl e f16 (by omega) (fun hm => by have := lo7 _ hm; omega)
  replace kx1_2 := kx1_2.onl e f16 (by omega) (fun hm => by have := lo7 _ hm; omega)
  replace kx1_3 := kx1_3.onl e f16 (by omega) (fun hm => by have := lo7 _ hm; omega)
  replace kbg0_0 := kbg0_0.onl e f16 (by omega) (fun hm => by have := lo7 _ hm; omega)
  replace kbg0_1 := kbg0_1.onl e f16 (by omega) (fun hm => by have := lo7 _ hm; omega)
  replace kbg0_2 := kbg0_2.onl e f16 (by omega) (fun hm => by have := lo7 _ hm; omega)
  replace kbg0_3 := kbg0_3.onl e f16 (by omega) (fun hm => by have := lo7 _ hm; omega)
  replace ta0 := TN.onl (ta0.below e.h) f16 (fun y hy hm => by have h1 := loa0 y hy; have h2 := lo7 y hm; omega)
  replace ta1 := TN.onl (ta1.below e.h) f16 (fun y hy hm => by have h1 := loa1 y hy; have h2 := lo7 y hm; omega)
  replace O5_0 := (O5_0.below e.h).onl f16
  replace T5_0 := TN.onl (T5_0.below e.h) f16 (fun y hy hm => by have h1 := lo5_0 y hy; have h2 := lo7 y hm; omega)
  replace O5_1 := (O5_1.below e.h).onl f16
  replace T5_1 := T1.onl (T5_1.below e.h) f16 (fun y hy hm => by have h1 := lo5_1 y hy; have h2 := lo7 y hm; omega)
  replace O8_0 := (O8_0.below e.h).onl f16
  replace T8_0 := TN.onl (T8_0.below e.h) f16 (fun y hy hm => by have h1 := lo8_0 y hy; have h2 := lo7 y hm; omega)
  replace O8_1 := (O8_1.below e.h).onl f16
  replace T8_1 := T1.onl (T8_1.below e.h) f16 (fun y hy hm => by have h1 := lo8_1 y hy; have h2 := lo7 y hm; omega)
  have hB16 : Ext w W16 := Below.trans (Ext.trans hB15 e.h) (Onl.below f16 (Ext.trans hB15 e.h).size (fun y hm => by have := lo7 y hm; have := (Ext.trans hB15 e.h).size; omega))
  obtain ⟨e, he⟩ : ∃ e : ExtOf W16, W16 = e.to := ⟨⟨W16, Below.refl _ _⟩, rfl⟩
  rw [he]
  clear he
  have bdkx1 : kx1 ≤ 72057594037927936 := by have := hkx1.out; omega
  go_wp2_with fail
  refine (eqCore_any r0 r0 _ (T8_0.below e.h) (T5_0.below e.h)).mono ?_
  rintro _ W17 ⟨rfl, z17⟩
  have hq36 := Ext.trans e.h z17
  have hs36 := hq36.size
  replace k0_0 := k0_0.ext hq36
  replace k1_0 := k1_0.ext hq36
  replace k1_1 := k1_1.ext hq36
  replace k1_2 := k1_2.ext hq36
  replace k1_3 := k1_3.ext hq36
  replace kf8_0 := kf8_0.ext hq36
  replace kf8_1 := kf8_1.ext hq36
  replace kf8_2 := kf8_2.ext hq36
  replace kf8_3 := kf8_3.ext hq36
  replace kx0_0 := kx0_0.ext hq36
  replace kx1_0 := kx1_0.ext hq36
  replace kx1_1 := kx1_1.ext hq36
  replace kx1_2 := kx1_2.ext hq36
  replace kx1_3 := kx1_3.ext hq36
  replace kbg0_0 := kbg0_0.ext hq36
  replace kbg0_1 := kbg0_1.ext hq36
  replace kbg0_2 := kbg0_2.ext hq36
  replace kbg0_3 := kbg0_3.ext hq36
  replace ta0 := ta0.below hq36
  replace ta1 := ta1.below hq36
  replace T5_0 := T5_0.below hq36
  replace T5_1 := T5_1.below hq36
  replace T8_0 := T8_0.below hq36
  replace T8_1 := T8_1.below hq36
  replace O5_0 := O5_0.below hq36
  replace O5_1 := O5_1.below hq36
  replace O8_0 := O8_0.below hq36
  replace O8_1 := O8_1.below hq36
  have hy37 := Ext.trans hB16 hq36
  obtain ⟨e, he⟩ : ∃ e : ExtOf W17, W17 = e.to := ⟨⟨W17, Below.refl _ _⟩, rfl⟩
  rw [he]
  clear he
  go_wp2_with fail
  refine (eqInt64S_any r1 r1 _ (T8_1.below e.h) (T5_1.below e.h) (by have := T8_1.nle; unfold maxLen; omega) (by have := T8_1.nle; unfold maxLen; omega)).mono ?_
  rintro _ W18 ⟨rfl, z18⟩
  have hq38 := Ext.trans e.h z18
  have hs38 := hq38.size
  replace k0_0 := k0_0.ext hq38
  replace k1_0 := k1_0.ext hq38
  replace k1_1 := k1_1.ext hq38
  replace k1_2 := k1_2.ext hq38
  replace k1_3 := k1_3.ext hq38
  replace kf8_0 := kf8_0.ext hq38
  replace kf8_1 := kf8_1.ext hq38
  replace kf8_2 := kf8_2.ext hq38
  replace kf8_3 := kf8_3.ext hq38
  replace kx0_0 := kx0_0.ext hq38
  replace kx1_0 := kx1_0.ext hq38
  replace kx1_1 := kx1_1.ext hq38
  replace kx1_2 := kx1_2.ext hq38
  replace kx1_3 := kx1_3.ext hq38
  replace kbg0_0 := kbg0_0.ext hq38
  replace kbg0_1 := kbg0_1.ext hq38
  replace kbg0_2 := kbg0_2.ext hq38
  replace kbg0_3 := kbg0_3.ext hq38
  replace ta0 := ta0.below hq38
  replace ta1 := ta1.below hq38
  replace T5_0 := T5_0.below hq38
  replace T5_1 := T5_1.below hq38
  replace T8_0 := T8_0.below hq38
  replace T8_1 := T8_1.below hq38
  replace O5_0 := O5_0.below hq38
  replace O5_1 := O5_1.below hq38
  replace O8_0 := O8_0.below hq38
  replace O8_1 := O8_1.below hq38
  have hy39 := Ext.trans hy37 hq38
  obtain ⟨e, he⟩ : ∃ e : ExtOf W18, W18 = e.to := ⟨⟨W18, Below.refl _ _⟩, rfl⟩
  rw [he]
  clear he
  go_wp2_with fail
  refine (markCore_any r0 1 _ (T8_0.below e.h) (O8_0.below e.h) (by omega) (by omega)).mono ?_
  rintro _ W19 ⟨mg0, rfl, hmg0, M19, f19, V19⟩
  have pmg0 : 0 ≤ mg0 := by have := hmg0.out; omega
  have hsW19 := f19.size
  have hszW19 := e.h.size
  replace k0_0 := k0_0.onl e f19 (by omega) (fun hm => by have := lo8_0 _ hm; omega)
  replace k1_0 := k1_0.onl e f19 (by omega) (fun hm => by have := lo8_0 _ hm; omega)
  replace k1_1 := k1_1.onl e f19 (by omega) (fun hm => by have := lo8_0 _ hm; omega)
  replace k1_2 := k1_2.onl e f19 (by omega) (fun hm => by have := lo8_0 _ hm; omega)
  replace k1_3 := k1_3.onl e f19 (by omega) (fun hm => by have := lo8_0 _ hm; omega)
  replace kf8_0 := kf8_0.onl e f19 (by omega) (fun hm => by have := lo8_0 _ hm; omega)
  replace kf8_1 := kf8_1.onl e f19 (by omega) (fun hm => by have := lo8_0 _ hm; omega)
  replace kf8_2 := kf8_2.onl e f19 (by omega) (fun hm => by have := lo8_0 _ hm; omega)
  replace kf8_3 := kf8_3.onl e f19 (by omega) (fun hm => by have := lo8_0 _ hm; omega)
  replace kx0_0 := kx0_0.onl e f19 (by omega) (fun hm => by have := lo8_0 _ hm; omega)
  replace kx1_0 := kx1_0.onl e f19 (by omega) (fun hm => by have := lo8_0 _ hm; omega)
  replace kx1_1 := kx1_1.onl e f19 (by omega) (fun hm => by have := lo8_0 _ hm; omega)
  replace kx1_2 := kx1_2.onl e f19 (by omega) (fun hm => by have := lo8_0 _ hm; omega)
  replace kx1_3 := kx1_3.onl e f19 (by omega) (fun hm => by have := lo8_0 _ hm; omega)
  replace kbg0_0 := kbg0_0.onl e f19 (by omega) (fun hm => by have := lo8_0 _ hm; omega)
  replace kbg0_1 := kbg0_1.onl e f19 (by omega) (fun hm => by have := lo8_0 _ hm; omega)
  replace kbg0_2 := kbg0_2.onl e f19 (by omega) (fun hm => by have := lo8_0 _ hm; omega)
  replace kbg0_3 := kbg0_3.onl e f19 (by omega) (fun hm => by have := lo8_0 _ hm; omega)
  replace ta0 := TN.onl (ta0.below e.h) f19 (fun y hy hm => by have h1 := loa0 y hy; have h2 := lo8_0 y hm; omega)
  replace ta1 := TN.onl (ta1.below e.h) f19 (fun y hy hm => by have h1 := loa1 y hy; have h2 := lo8_0 y hm; omega)
  replace O5_0 := (O5_0.below e.h).onl f19
  replace T5_0 := TN.onl (T5_0.below e.h) f19 (fun y hy hm => by have h1 := lo5_0 y hy; have h2 := lo8_0 y hm; omega)
  replace O5_1 := (O5_1.below e.h).onl f19
  replace T5_1 := T1.onl (T5_1.below e.h) f19 (fun y hy hm => by have h1 := lo5_1 y hy; have h2 := lo8_0 y hm; omega)
  replace O8_1 := (O8_1.below e.h).onl f19
  replace T8_1 := T1.onl (T8_1.below e.h) f19 (fun y hy hm => ap8_0_1 y hm hy)
  have hB19 : Ext w W19 := Below.trans (Ext.trans hy39 e.h) (Onl.below f19 (Ext.trans hy39 e.h).size (fun y hm => by have := lo8_0 y hm; have := (Ext.trans hy39 e.h).size; omega))
  obtain ⟨e, he⟩ : ∃ e : ExtOf W19, W19 = e.to := ⟨⟨W19, Below.refl _ _⟩, rfl⟩
  rw [he]
  clear he
  have bdmg0 : mg0 ≤ 108086391056891904 := by have := hmg0.out; omega
  have O8_0 := V19
  go_wp2_with fail
  refine (markInt64S_any r1 mg0 _ (T8_1.below e.h) (O8_1.below e.h) (by have := T8_1.nle; unfold maxLen; omega) (by omega) (by omega)).mono ?_
  rintro _ W20 ⟨mg1, rfl, hmg1, M20, f20, V20⟩
  have pmg1 : 0 ≤ mg1 := by have := hmg1.out; omega
  have hsW20 := f20.size
  have hszW20 := e.h.size
  replace k0_0 := k0_0.onl e f20 (by omega) (fun hm => by have := lo8_1 _ hm; omega)
  replace k1_0 := k1_0.onl e f20 (by omega) (fun hm => by have := lo8_1 _ hm; omega)
  replace k1_1 := k1_1.onl e f20 (by omega) (fun hm => by have := lo8_1 _ hm; omega)
  replace k1_2 := k1_2.onl e f20 (by omega) (fun hm => by have := lo8_1 _ hm; omega)
  replace k1_3 := k1_3.onl e f20 (by omega) (fun hm => by have := lo8_1 _ hm; omega)
  replace kf8_0 := kf8_0.onl e f20 (by omega) (fun hm => by have := lo8_1 _ hm; omega)
  replace kf8_1 := kf8_1.onl e f20 (by omega) (fun hm => by have := lo8_1 _ hm; omega)
  replace kf8_2 := kf8_2.onl e f20 (by omega) (fun hm => by have := lo8_1 _ hm; omega)
  replace kf8_3 := kf8_3.onl e f20 (by omega) (fun hm => by have := lo8_1 _ hm; omega)
  replace kx0_0 := kx0_0.onl e f20 (by omega) (fun hm => by have := lo8_1 _ hm; omega)
  replace kx1_0 := kx1_0.onl e f20 (by omega) (fun hm => by have := lo8_1 _ hm; omega)
  replace kx1_1 := kx1_1.onl e f20 (by omega) (fun hm => by have := lo8_1 _ hm; omega)
  replace kx1_2 := kx1_2.onl e f20 (by omega) (fun hm => by have := lo8_1 _ hm; omega)
  replace kx1_3 := kx1_3.onl e f20 (by omega) (fun hm => by have := lo8_1 _ hm; omega)
  replace kbg0_0 := kbg0_0.onl e f20 (by omega) (fun hm => by have := lo8_1 _ hm; omega)
  replace kbg0_1 := kbg0_1.onl e f20 (by omega) (fun hm => by have := lo8_1 _ hm; omega)
  replace kbg0_2 := kbg0_2.onl e f20 (by omega) (fun hm => by have := lo8_1 _ hm; omega)
  replace kbg0_3 := kbg0_3.onl e f20 (by omega) (fun hm => by have := lo8_1 _ hm; omega)
  replace ta0 := TN.onl (ta0.below e.h) f20 (fun y hy hm => by have h1 := loa0 y hy; have h2 := lo8_1 y hm; omega)
  replace ta1 := TN.onl (ta1.below e.h) f20 (fun y hy hm => by have h1 := loa1 y hy; have h2 := lo8_1 y hm; omega)
  replace O5_0 := (O5_0.below e.h).onl f20
  replace T5_0 := TN.onl (T5_0.below e.h) f20 (fun y hy hm => by have h1 := lo5_0 y hy; have h2 := lo8_1 y hm; omega)
  replace O5_1 := (O5_1.below e.h).onl f20
  replace T5_1 := T1.onl (T5_1.below e.h) f20 (fun y hy hm => by have h1 := lo5_1 y hy; have h2 := lo8_1 y hm; omega)
  replace O8_0 := (O8_0.below e.h).onl f20
  replace M19 := TN.onl (M19.below e.h) f20 ap8_0_1
  have hB20 : Ext w W20 := Below.trans (Ext.trans hB19 e.h) (Onl.below f20 (Ext.trans hB19 e.h).size (fun y hm => by have := lo8_1 y hm; have := (Ext.trans hB19 e.h).size; omega))
  obtain ⟨e, he⟩ : ∃ e : ExtOf W20, W20 = e.to := ⟨⟨W20, Below.refl _ _⟩, rfl⟩
  rw [he]
  clear he
  have bdmg1 : mg1 ≤ 144115188075855872 := by have := hmg1.out; omega
  have O8_1 := V20
  have CH0 : Hid (QC Tryz.prog W20 _ _ _) := fun W hW => heldCore_any r0 1 mg0 W (TN.below M19 hW) (by omega) (by omega) hmg0
  go_wp2_with (first | (go_at_call 15; with_reducible refine (CH0.out.at_ _).mono ?_; rintro _ _ ⟨rfl, e, rfl⟩))
  clear CH0
  have CH1 : Hid (QC Tryz.prog W20 _ _ _) := fun W hW => heldInt64S_any r1 mg0 mg1 r1.length W (M20.below hW) Hid_rfl (by omega) (by omega) hmg1
  go_wp2_with (first | (go_at_call 20; with_reducible refine (CH1.out.at_ _).mono ?_; rintro _ _ ⟨rfl, e, rfl⟩))
  clear CH1
  go_wp2_with fail
  refine wp_region_b e (W20.heap.size) (by kernel_rfl) 14 (by kernel_rfl) (fun wR40 hxwR40 => ?_)
  have hs_wR40 := hxwR40.size
  replace k0_0 := k0_0.ext hxwR40
  replace k1_0 := k1_0.ext hxwR40
  replace k1_1 := k1_1.ext hxwR40
  replace k1_2 := k1_2.ext hxwR40
  replace k1_3 := k1_3.ext hxwR40
  replace kf8_0 := kf8_0.ext hxwR40
  replace kf8_1 := kf8_1.ext hxwR40
  replace kf8_2 := kf8_2.ext hxwR40
  replace kf8_3 := kf8_3.ext hxwR40
  replace kx0_0 := kx0_0.ext hxwR40
  replace kx1_0 := kx1_0.ext hxwR40
  replace kx1_1 := kx1_1.ext hxwR40
  replace kx1_2 := kx1_2.ext hxwR40
  replace kx1_3 := kx1_3.ext hxwR40
  replace kbg0_0 := kbg0_0.ext hxwR40
  replace kbg0_1 := kbg0_1.ext hxwR40
  replace kbg0_2 := kbg0_2.ext hxwR40
  replace kbg0_3 := kbg0_3.ext hxwR40
  replace ta0 := ta0.below hxwR40
  replace ta1 := ta1.below hxwR40
  replace T5_0 := T5_0.below hxwR40
  replace T5_1 := T5_1.below hxwR40
  replace M19 := M19.below hxwR40
  replace M20 := M20.below hxwR40
  replace O5_0 := O5_0.below hxwR40
  replace O5_1 := O5_1.below hxwR40
  replace O8_0 := O8_0.below hxwR40
  replace O8_1 := O8_1.below hxwR40
  have hy41 := Ext.trans hB20 hxwR40
  have B_k0_0 := k0_0.b (N := W20.heap.size) (by omega)
  have B_k1_0 := k1_0.b (N := W20.heap.size) (by omega)
  have B_k1_1 := k1_1.b (N := W20.heap.size) (by omega)
  have B_k1_2 := k1_2.b (N := W20.heap.size) (by omega)
  have B_k1_3 := k1_3.b (N := W20.heap.size) (by omega)
  have B_kf8_0 := kf8_0.b (N := W20.heap.size) (by omega)
  have B_kf8_1 := kf8_1.b (N := W20.heap.size) (by omega)
  have B_kf8_2 := kf8_2.b (N := W20.heap.size) (by omega)
  have B_kf8_3 := kf8_3.b (N := W20.heap.size) (by omega)
  have B_kx0_0 := kx0_0.b (N := W20.heap.size) (by omega)
  have B_kx1_0 := kx1_0.b (N := W20.heap.size) (by omega)
  have B_kx1_1 := kx1_1.b (N := W20.heap.size) (by omega)
  have B_kx1_2 := kx1_2.b (N := W20.heap.size) (by omega)
  have B_kx1_3 := kx1_3.b (N := W20.heap.size) (by omega)
  have B_kbg0_0 := kbg0_0.b (N := W20.heap.size) (by omega)
  have B_kbg0_1 := kbg0_1.b (N := W20.heap.size) (by omega)
  have B_kbg0_2 := kbg0_2.b (N := W20.heap.size) (by omega)
  have B_kbg0_3 := kbg0_3.b (N := W20.heap.size) (by omega)
  refine fl_begin ⟨10, 19, fun g => .pointer (some ⟨g, 0, none⟩), .cells #[.int .i64 0, .int .i64 0, .slice none 0 0, .slice none 0 0] 32⟩ ⟨⟨_, rfl, rfl⟩, fun K a w h => wpOp_alone rfl (by go_wp2_with fail; exact h)⟩ (fun hfl => ?_)
  refine fl_take 0 rfl (by omega) hfl (by kernel_rfl) ?_; go_big_quiet_step (fail); refine wpQuiet_nil ?_
  refine fl_take 2 rfl (by omega) hfl (by kernel_rfl) ?_; go_big_quiet_step (fail); refine wpQuiet_nil ?_
  refine fl_take 4 rfl (by omega) hfl (by kernel_rfl) ?_; go_big_quiet_step (fail); refine wpQuiet_nil ?_
  refine fl_only 1 rfl (by omega) (fun x hx => by simp at hx) hfl (by kernel_rfl) (fun e => ?_)
  go_wp2_with fail
  refine (toBook_any a0 _ (ta0.below e.h) SM0.out).mono ?_
  rintro _ W21 ⟨_, q21, rfl, z21, T21, O21⟩
  obtain ⟨_, _, _, rfl, -⟩ := GBook.us T21
  have lo21 : ∀ b ∈ q21, e.to.heap.size ≤ b ∧ b < W21.heap.size := fun b hb => ⟨(O21.2 b hb).1, T21.lt b hb⟩
  have sz21 := e.h.size
  have sw21 := (Ext.trans hy41 e.h).size
  go_wp2_with fail
  refine And.intro z21 ⟨q21, lo21, ?_⟩
  have hq42 := Ext.trans e.h z21
  have hs42 := hq42.size
  replace k0_0 := k0_0.ext hq42
  replace k1_0 := k1_0.ext hq42
  replace k1_1 := k1_1.ext hq42
  replace k1_2 := k1_2.ext hq42
  replace k1_3 := k1_3.ext hq42
  replace kf8_0 := kf8_0.ext hq42
  replace kf8_1 := kf8_1.ext hq42
  replace kf8_2 := kf8_2.ext hq42
  replace kf8_3 := kf8_3.ext hq42
  replace kx0_0 := kx0_0.ext hq42
  replace kx1_0 := kx1_0.ext hq42
  replace kx1_1 := kx1_1.ext hq42
  replace kx1_2 := kx1_2.ext hq42
  replace kx1_3 := kx1_3.ext hq42
  replace kbg0_0 := kbg0_0.ext hq42
  replace kbg0_1 := kbg0_1.ext hq42
  replace kbg0_2 := kbg0_2.ext hq42
  replace kbg0_3 := kbg0_3.ext hq42
  replace ta0 := ta0.below hq42
  replace ta1 := ta1.below hq42
  replace T5_0 := T5_0.below hq42
  replace T5_1 := T5_1.below hq42
  replace M19 := M19.below hq42
  replace M20 := M20.below hq42
  replace O5_0 := O5_0.below hq42
  replace O5_1 := O5_1.below hq42
  replace O8_0 := O8_0.below hq42
  replace O8_1 := O8_1.below hq42
  have hy43 := Ext.trans hy41 hq42
  replace B_k0_0 := B_k0_0.go (hq42.mono (by omega))
  replace B_k1_0 := B_k1_0.go (hq42.mono (by omega))
  replace B_k1_1 := B_k1_1.go (hq42.mono (by omega))
  replace B_k1_2 := B_k1_2.go (hq42.mono (by omega))
  replace B_k1_3 := B_k1_3.go (hq42.mono (by omega))
  replace B_kf8_0 := B_kf8_0.go (hq42.mono (by omega))
  replace B_kf8_1 := B_kf8_1.go (hq42.mono (by omega))
  replace B_kf8_2 := B_kf8_2.go (hq42.mono (by omega))
  replace B_kf8_3 := B_kf8_3.go (hq42.mono (by omega))
  replace B_kx0_0 := B_kx0_0.go (hq42.mono (by omega))
  replace B_kx1_0 := B_kx1_0.go (hq42.mono (by omega))
  replace B_kx1_1 := B_kx1_1.go (hq42.mono (by omega))
  replace B_kx1_2 := B_kx1_2.go (hq42.mono (by omega))
  replace B_kx1_3 := B_kx1_3.go (hq42.mono (by omega))
  replace B_kbg0_0 := B_kbg0_0.go (hq42.mono (by omega))
  replace B_kbg0_1 := B_kbg0_1.go (hq42.mono (by omega))
  replace B_kbg0_2 := B_kbg0_2.go (hq42.mono (by omega))
  replace B_kbg0_3 := B_kbg0_3.go (hq42.mono (by omega))
  refine fl_only 3 rfl (by omega) (fun x hx => by simp only [List.mem_append, List.mem_cons, List.not_mem_nil, or_false, false_or, List.append_nil, or_assoc] at hx; have h1 := lo21 x hx; omega) hfl (by kernel_rfl) (fun e => ?_)
  go_wp2_with fail
  refine (toCore_any a1 _ (ta1.below e.h) SM1.out).mono ?_
  rintro _ W22 ⟨_, q22, rfl, z22, T22, O22⟩
  obtain ⟨_, _, _, _, _, _, rfl, -⟩ := GCore.us T22
  have lo22 : ∀ b ∈ q22, e.to.heap.size ≤ b ∧ b < W22.heap.size := fun b hb => ⟨(O22.2 b hb).1, T22.lt b hb⟩
  have sz22 := e.h.size
  have sw22 := (Ext.trans hy43 e.h).size
  go_wp2_with fail
  refine And.intro z22 ⟨q22, lo22, ?_⟩
  have hq44 := Ext.trans e.h z22
  have hs44 := hq44.size
  replace k0_0 := k0_0.ext hq44
  replace k1_0 := k1_0.ext hq44
  replace k1_1 := k1_1.ext hq44
  replace k1_2 := k1_2.ext hq44
  replace k1_3 := k1_3.ext hq44
  replace kf8_0 := kf8_0.ext hq44
  replace kf8_1 := kf8_1.ext hq44
  replace kf8_2 := kf8_2.ext hq44
  replace kf8_3 := kf8_3.ext hq44
  replace kx0_0 := kx0_0.ext hq44
  replace kx1_0 := kx1_0.ext hq44
  replace kx1_1 := kx1_1.ext hq44
  replace kx1_2 := kx1_2.ext hq44
  replace kx1_3 := kx1_3.ext hq44
  replace kbg0_0 := kbg0_0.ext hq44
  replace kbg0_1 := kbg0_1.ext hq44
  replace kbg0_2 := kbg0_2.ext hq44
  replace kbg0_3 := kbg0_3.ext hq44
  replace ta0 := ta0.below hq44
  replace ta1 := ta1.below hq44
  replace T5_0 := T5_0.below hq44
  replace T5_1 := T5_1.below hq44
  replace M19 := M19.below hq44
  replace M20 := M20.below hq44
  replace T21 := T21.below hq44
  replace O5_0 := O5_0.below hq44
  replace O5_1 := O5_1.below hq44
  replace O8_0 := O8_0.below hq44
  replace O8_1 := O8_1.below hq44
  replace O21 := O21.below hq44
  have hy45 := Ext.trans hy43 hq44
  replace B_k0_0 := B_k0_0.go (hq44.mono (by omega))
  replace B_k1_0 := B_k1_0.go (hq44.mono (by omega))
  replace B_k1_1 := B_k1_1.go (hq44.mono (by omega))
  replace B_k1_2 := B_k1_2.go (hq44.mono (by omega))
  replace B_k1_3 := B_k1_3.go (hq44.mono (by omega))
  replace B_kf8_0 := B_kf8_0.go (hq44.mono (by omega))
  replace B_kf8_1 := B_kf8_1.go (hq44.mono (by omega))
  replace B_kf8_2 := B_kf8_2.go (hq44.mono (by omega))
  replace B_kf8_3 := B_kf8_3.go (hq44.mono (by omega))
  replace B_kx0_0 := B_kx0_0.go (hq44.mono (by omega))
  replace B_kx1_0 := B_kx1_0.go (hq44.mono (by omega))
  replace B_kx1_1 := B_kx1_1.go (hq44.mono (by omega))
  replace B_kx1_2 := B_kx1_2.go (hq44.mono (by omega))
  replace B_kx1_3 := B_kx1_3.go (hq44.mono (by omega))
  replace B_kbg0_0 := B_kbg0_0.go (hq44.mono (by omega))
  replace B_kbg0_1 := B_kbg0_1.go (hq44.mono (by omega))
  replace B_kbg0_2 := B_kbg0_2.go (hq44.mono (by omega))
  replace B_kbg0_3 := B_kbg0_3.go (hq44.mono (by omega))
  refine fl_only 5 rfl (by omega) (fun x hx => by simp only [List.mem_append, List.mem_cons, List.not_mem_nil, or_false, false_or, List.append_nil, or_assoc] at hx; rcases hx with hx | hx <;> first | (have h1 := lo22 x hx; omega) | (have h1 := lo21 x hx; omega)) hfl (by kernel_rfl) (fun e => ?_)
  go_wp2_with fail
  refine (normalizeI_any a0 a1 a2 r0 r1 r2 hR _ (T21.below e.h) (T22.below e.h) (by have h1 := HL0.out; have h2 := HL1.out; omega)).mono ?_
  rintro _ W23 ⟨_, q23_0, B23_1, D23_1, q23_1, rfl, z23, T23_0, T23_1, O23⟩
  obtain ⟨A23_0_2, c23_0_2, _, A23_0_3, c23_0_3, _, rfl, -⟩ := GCore.us T23_0
  obtain ⟨O23_0, O23_1, dj23_1⟩ := Own.parts O23
  have lo23_0 : ∀ b ∈ q23_0, e.to.heap.size ≤ b ∧ b < W23.heap.size := fun b hb => ⟨(O23_0.2 b hb).1, T23_0.lt b hb⟩
  have lo23_1 : ∀ b ∈ q23_1, e.to.heap.size ≤ b ∧ b < W23.heap.size := fun b hb => ⟨(O23_1.2 b hb).1, T23_1.lt b hb⟩
  have sz23 := e.h.size
  have sw23 := (Ext.trans hy45 e.h).size
  have ap23_0_1 : ∀ y ∈ q23_0, y ∉ q23_1 := fun y hm => dj23_1 y hm
  go_wp2_with fail
  refine And.intro z23 ⟨q23_0 ++ q23_1, fun b hb => (List.mem_append.1 hb).elim (lo23_0 b) (lo23_1 b), ?_⟩
  have hq46 := Ext.trans e.h z23
  have hs46 := hq46.size
  replace k0_0 := k0_0.ext hq46
  replace k1_0 := k1_0.ext hq46
  replace k1_1 := k1_1.ext hq46
  replace k1_2 := k1_2.ext hq46
  replace k1_3 := k1_3.ext hq46
  replace kf8_0 := kf8_0.ext hq46
  replace kf8_1 := kf8_1.ext hq46
  replace kf8_2 := kf8_2.ext hq46
  replace kf8_3 := kf8_3.ext hq46
  replace kx0_0 := kx0_0.ext hq46
  replace kx1_0 := kx1_0.ext hq46
  replace kx1_1 := kx1_1.ext hq46
  replace kx1_2 := kx1_2.ext hq46
  replace kx1_3 := kx1_3.ext hq46
  replace kbg0_0 := kbg0_0.ext hq46
  replace kbg0_1 := kbg0_1.ext hq46
  replace kbg0_2 := kbg0_2.ext hq46
  replace kbg0_3 := kbg0_3.ext hq46
  replace ta0 := ta0.below hq46
  replace ta1 := ta1.below hq46
  replace T5_0 := T5_0.below hq46
  replace T5_1 := T5_1.below hq46
  replace M19 := M19.below hq46
  replace M20 := M20.below hq46
  replace T21 := T21.below hq46
  replace T22 := T22.below hq46
  replace O5_0 := O5_0.below hq46
  replace O5_1 := O5_1.below hq46
  replace O8_0 := O8_0.below hq46
  replace O8_1 := O8_1.below hq46
  replace O21 := O21.below hq46
  replace O22 := O22.below hq46
  have hy47 := Ext.trans hy45 hq46
  replace B_k0_0 := B_k0_0.go (hq46.mono (by omega))
  replace B_k1_0 := B_k1_0.go (hq46.mono (by omega))
  replace B_k1_1 := B_k1_1.go (hq46.mono (by omega))
  replace B_k1_2 := B_k1_2.go (hq46.mono (by omega))
  replace B_k1_3 := B_k1_3.go (hq46.mono (by omega))
  replace B_kf8_0 := B_kf8_0.go (hq46.mono (by omega))
  replace B_kf8_1 := B_kf8_1.go (hq46.mono (by omega))
  replace B_kf8_2 := B_kf8_2.go (hq46.mono (by omega))
  replace B_kf8_3 := B_kf8_3.go (hq46.mono (by omega))
  replace B_kx0_0 := B_kx0_0.go (hq46.mono (by omega))
  replace B_kx1_0 := B_kx1_0.go (hq46.mono (by omega))
  replace B_kx1_1 := B_kx1_1.go (hq46.mono (by omega))
  replace B_kx1_2 := B_kx1_2.go (hq46.mono (by omega))
  replace B_kx1_3 := B_kx1_3.go (hq46.mono (by omega))
  replace B_kbg0_0 := B_kbg0_0.go (hq46.mono (by omega))
  replace B_kbg0_1 := B_kbg0_1.go (hq46.mono (by omega))
  replace B_kbg0_2 := B_kbg0_2.go (hq46.mono (by omega))
  replace B_kbg0_3 := B_kbg0_3.go (hq46.mono (by omega))
  refine fl_take 6 rfl (by omega) hfl (by kernel_rfl) ?_; go_big_quiet_step (fail); refine wpQuiet_nil ?_
  refine fl_take 7 rfl (by omega) hfl (by kernel_rfl) ?_; go_big_quiet_step (fail); refine wpQuiet_nil ?_
  refine fl_take 8 rfl (by omega) hfl (by kernel_rfl) ?_; go_big_quiet_step (fail); refine wpQuiet_nil ?_
  refine fl_take 9 rfl (by omega) hfl (by kernel_rfl) ?_; go_big_quiet_step (fail); refine wpQuiet_nil ?_
  refine fl_land (by omega) (fun x hx => by simp only [List.mem_append, List.mem_cons, List.not_mem_nil, or_false, false_or, List.append_nil, or_assoc] at hx; rcases hx with hx | hx | hx | hx <;> first | (have h1 := lo23_0 x hx; omega) | (have h1 := lo23_1 x hx; omega) | (have h1 := lo22 x hx; omega) | (have h1 := lo21 x hx; omega)) hfl (by kernel_rfl) (fun gf35 wL35 hxwL35 hgegf35 hnxgf35 rowgf35 => ?_)
  have hn_gf35_0 : ∀ y ∈ q23_0, y ≠ gf35 := fun y hy h => hnxgf35 (by simp [← h, hy])
  have hn_gf35_1 : ∀ y ∈ q23_1, y ≠ gf35 := fun y hy h => hnxgf35 (by simp [← h, hy])
  clear hnxgf35 hfl
  have hltgf35 := lt_of_row rowgf35
  have hs_wL35 := hxwL35.size
  have fgf35 := row_fz rowgf35
  have cgf35_0 := row_kn rowgf35 0 (v := .int .i64 0) rfl
  have cgf35_1 := row_kn rowgf35 1 (v := .int .i64 0) rfl
  have cgf35_2 := row_kn rowgf35 2 (v := .slice none 0 0) rfl
  have cgf35_3 := row_kn rowgf35 3 (v := .slice none 0 0) rfl
  clear B_k0_0 B_k1_0 B_k1_1 B_k1_2 B_k1_3 B_kf8_0 B_kf8_1 B_kf8_2 B_kf8_3 B_kx0_0 B_kx1_0 B_kx1_1 B_kx1_2 B_kx1_3 B_kbg0_0 B_kbg0_1 B_kbg0_2 B_kbg0_3
  replace k0_0 := k0_0.ext hxwL35
  replace k1_0 := k1_0.ext hxwL35
  replace k1_1 := k1_1.ext hxwL35
  replace k1_2 := k1_2.ext hxwL35
  replace k1_3 := k1_3.ext hxwL35
  replace kf8_0 := kf8_0.ext hxwL35
  replace kf8_1 := kf8_1.ext hxwL35
  replace kf8_2 := kf8_2.ext hxwL35
  replace kf8_3 := kf8_3.ext hxwL35
  replace kx0_0 := kx0_0.ext hxwL35
  replace kx1_0 := kx1_0.ext hxwL35
  replace kx1_1 := kx1_1.ext hxwL35
  replace kx1_2 := kx1_2.ext hxwL35
  replace kx1_3 := kx1_3.ext hxwL35
  replace kbg0_0 := kbg0_0.ext hxwL35
  replace kbg0_1 := kbg0_1.ext hxwL35
  replace kbg0_2 := kbg0_2.ext hxwL35
  replace kbg0_3 := kbg0_3.ext hxwL35
  replace ta0 := ta0.below hxwL35
  replace ta1 := ta1.below hxwL35
  replace T5_0 := T5_0.below hxwL35
  replace T5_1 := T5_1.below hxwL35
  replace M19 := M19.below hxwL35
  replace M20 := M20.below hxwL35
  replace T23_0 := T23_0.below hxwL35
  replace T23_1 := T23_1.below hxwL35
  replace O5_0 := O5_0.below hxwL35
  replace O5_1 := O5_1.below hxwL35
  replace O8_0 := O8_0.below hxwL35
  replace O8_1 := O8_1.below hxwL35
  replace O23_0 := O23_0.below hxwL35
  replace O23_1 := O23_1.below hxwL35
  have hy48 := Ext.trans hy47 hxwL35
  refine b_only 11 rfl (by kernel_rfl) (fun e he => ?_)
  clear he
  go_wp2_with fail
  generalize hW : World.setCell (World.setCell (World.setCell (World.setCell e.to ⟨gf35, 0, none⟩ (.int .i64 r0.kind)) ⟨gf35, 1, none⟩ (.int .i64 r0.value)) ⟨gf35, 2, none⟩ (.slice A23_0_2 r0.data.length c23_0_2)) ⟨gf35, 3, none⟩ (.slice A23_0_3 r0.kids.length c23_0_3) = wS35
  have hbwS35 : Chg [gf35] e.to wS35 := by rw [← hW]; exact Onl.chg (((((Onl.refl _ _).setCell (by simp) _ _).setCell (by simp) _ _).setCell (by simp) _ _).setCell (by simp) _ _)
  have nrgf35 : wS35.heap[gf35]? = some (.cells #[.int .i64 r0.kind, .int .i64 r0.value, .slice A23_0_2 r0.data.length c23_0_2, .slice A23_0_3 r0.kids.length c23_0_3] 32 (0, 0)) := by rw [← hW]; exact (Rows.heap_set_same (Rows.heap_set_same (Rows.heap_set_same (Rows.heap_set_same (row_at rowgf35 e)))))
  clear hW
  refine And.intro (Chg.below hbwS35 (by have := e.h.size; omega) (fun y hm => by simp at hm; omega)) ?_
  have hs_wS35 := Nat.le_trans e.h.size hbwS35.size
  replace k0_0 := k0_0.chg e hbwS35 (by omega) (fun hm => by simp at hm; omega)
  replace k1_0 := k1_0.chg e hbwS35 (by omega) (fun hm => by simp at hm; omega)
  replace k1_1 := k1_1.chg e hbwS35 (by omega) (fun hm => by simp at hm; omega)
  replace k1_2 := k1_2.chg e hbwS35 (by omega) (fun hm => by simp at hm; omega)
  replace k1_3 := k1_3.chg e hbwS35 (by omega) (fun hm => by simp at hm; omega)
  replace kf8_0 := kf8_0.chg e hbwS35 (by omega) (fun hm => by simp at hm; omega)
  replace kf8_1 := kf8_1.chg e hbwS35 (by omega) (fun hm => by simp at hm; omega)
  replace kf8_2 := kf8_2.chg e hbwS35 (by omega) (fun hm => by simp at hm; omega)
  replace kf8_3 := kf8_3.chg e hbwS35 (by omega) (fun hm => by simp at hm; omega)
  replace kx0_0 := kx0_0.chg e hbwS35 (by omega) (fun hm => by simp at hm; omega)
  replace kx1_0 := kx1_0.chg e hbwS35 (by omega) (fun hm => by simp at hm; omega)
  replace kx1_1 := kx1_1.chg e hbwS35 (by omega) (fun hm => by simp at hm; omega)
  replace kx1_2 := kx1_2.chg e hbwS35 (by omega) (fun hm => by simp at hm; omega)
  replace kx1_3 := kx1_3.chg e hbwS35 (by omega) (fun hm => by simp at hm; omega)
  replace kbg0_0 := kbg0_0.chg e hbwS35 (by omega) (fun hm => by simp at hm; omega)
  replace kbg0_1 := kbg0_1.chg e hbwS35 (by omega) (fun hm => by simp at hm; omega)
  replace kbg0_2 := kbg0_2.chg e hbwS35 (by omega) (fun hm => by simp at hm; omega)
  replace kbg0_3 := kbg0_3.chg e hbwS35 (by omega) (fun hm => by simp at hm; omega)
  replace ta0 := (ta0.below e.h).chg hbwS35 (fun y hy hm => by have h1 := loa0 y hy; simp at hm; omega)
  replace ta1 := (ta1.below e.h).chg hbwS35 (fun y hy hm => by have h1 := loa1 y hy; simp at hm; omega)
  replace T5_0 := (T5_0.below e.h).chg hbwS35 (fun y hy hm => by have h1 := lo5_0 y hy; simp at hm; omega)
  replace O5_0 := (O5_0.below e.h).chg hbwS35 (fun y hy hm => by have h1 := lo5_0 y hy; simp at hm; omega)
  replace T5_1 := (T5_1.below e.h).chg hbwS35 (fun y hy hm => by have h1 := lo5_1 y hy; simp at hm; omega)
  replace O5_1 := (O5_1.below e.h).chg hbwS35 (fun y hy hm => by have h1 := lo5_1 y hy; simp at hm; omega)
  replace M19 := (M19.below e.h).chg hbwS35 (fun y hy hm => by have h1 := lo8_0 y hy; simp at hm; omega)
  replace O8_0 := (O8_0.below e.h).chg hbwS35 (fun y hy hm => by have h1 := lo8_0 y hy; simp at hm; omega)
  replace M20 := (M20.below e.h).chg hbwS35 (fun y hy hm => by have h1 := lo8_1 y hy; simp at hm; omega)
  replace O8_1 := (O8_1.below e.h).chg hbwS35 (fun y hy hm => by have h1 := lo8_1 y hy; simp at hm; omega)
  replace T23_0 := (T23_0.below e.h).chg hbwS35 (fun y hy hm => by have h1 := lo23_0 y hy; have h2 := hn_gf35_0 y hy; simp at hm; omega)
  replace O23_0 := (O23_0.below e.h).chg hbwS35 (fun y hy hm => by have h1 := lo23_0 y hy; have h2 := hn_gf35_0 y hy; simp at hm; omega)
  replace T23_1 := (T23_1.below e.h).chg hbwS35 (fun y hy hm => by have h1 := lo23_1 y hy; have h2 := hn_gf35_1 y hy; simp at hm; omega)
  replace O23_1 := (O23_1.below e.h).chg hbwS35 (fun y hy hm => by have h1 := lo23_1 y hy; have h2 := hn_gf35_1 y hy; simp at hm; omega)
  have hy_wS35 : Ext w wS35 := Below.trans (Ext.trans hy48 e.h) (Chg.below hbwS35 (B := w.heap.size) ((Ext.trans hy48 e.h)).size (fun y hm => by simp at hm; omega))
  have kf35_0 := row_kn nrgf35 0 (v := .int .i64 r0.kind) rfl
  have kf35_1 := row_kn nrgf35 1 (v := .int .i64 r0.value) rfl
  have kf35_2 := row_kn nrgf35 2 (v := .slice A23_0_2 r0.data.length c23_0_2) rfl
  have kf35_3 := row_kn nrgf35 3 (v := .slice A23_0_3 r0.kids.length c23_0_3) rfl
  clear fgf35 rowgf35 nrgf35 cgf35_0 cgf35_1 cgf35_2 cgf35_3
  refine b_take 12 rfl (by kernel_rfl) ?_; go_big_quiet_step (fail); refine wpQuiet_nil ?_
  refine b_take 13 rfl (by kernel_rfl) ?_; go_big_quiet_step (fail); refine wpQuiet_nil ?_
  refine b_done (by kernel_rfl) (fun e he => ?_)
  clear he
  go_wp2_with fail
  refine (eqCore_any r0 r0 _ (T23_0.below e.h) (T5_0.below e.h)).mono ?_
  rintro _ W24 ⟨rfl, z24⟩
  have hq49 := Ext.trans e.h z24
  have hs49 := hq49.size
  replace k0_0 := k0_0.ext hq49
  replace k1_0 := k1_0.ext hq49
  replace k1_1 := k1_1.ext hq49
  replace k1_2 := k1_2.ext hq49
  replace k1_3 := k1_3.ext hq49
  replace kf8_0 := kf8_0.ext hq49
  replace kf8_1 := kf8_1.ext hq49
  replace kf8_2 := kf8_2.ext hq49
  replace kf8_3 := kf8_3.ext hq49
  replace kx0_0 := kx0_0.ext hq49
  replace kx1_0 := kx1_0.ext hq49
  replace kx1_1 := kx1_1.ext hq49
  replace kx1_2 := kx1_2.ext hq49
  replace kx1_3 := kx1_3.ext hq49
  replace kbg0_0 := kbg0_0.ext hq49
  replace kbg0_1 := kbg0_1.ext hq49
  replace kbg0_2 := kbg0_2.ext hq49
  replace kbg0_3 := kbg0_3.ext hq49
  replace kf35_0 := kf35_0.ext hq49
  replace kf35_1 := kf35_1.ext hq49
  replace kf35_2 := kf35_2.ext hq49
  replace kf35_3 := kf35_3.ext hq49
  replace ta0 := ta0.below hq49
  replace ta1 := ta1.below hq49
  replace T5_0 := T5_0.below hq49
  replace T5_1 := T5_1.below hq49
  replace M19 := M19.below hq49
  replace M20 := M20.below hq49
  replace T23_0 := T23_0.below hq49
  replace T23_1 := T23_1.below hq49
  replace O5_0 := O5_0.below hq49
  replace O5_1 := O5_1.below hq49
  replace O8_0 := O8_0.below hq49
  replace O8_1 := O8_1.below hq49
  replace O23_0 := O23_0.below hq49
  replace O23_1 := O23_1.below hq49
  have hy50 := Ext.trans hy_wS35 hq49
  obtain ⟨e, he⟩ : ∃ e : ExtOf W24, W24 = e.to := ⟨⟨W24, Below.refl _ _⟩, rfl⟩
  rw [he]
  clear he
  go_wp2_with fail
  refine (eqInt64S_any r1 r1 _ (T23_1.below e.h) (T5_1.below e.h) (by have := T23_1.nle; unfold maxLen; omega) (by have := T23_1.nle; unfold maxLen; omega)).mono ?_
  rintro _ W25 ⟨rfl, z25⟩
  have hq51 := Ext.trans e.h z25
  have hs51 := hq51.size
  replace k0_0 := k0_0.ext hq51
  replace k1_0 := k1_0.ext hq51
  replace k1_1 := k1_1.ext hq51
  replace k1_2 := k1_2.ext hq51
  replace k1_3 := k1_3.ext hq51
  replace kf8_0 := kf8_0.ext hq51
  replace kf8_1 := kf8_1.ext hq51
  replace kf8_2 := kf8_2.ext hq51
  replace kf8_3 := kf8_3.ext hq51
  replace kx0_0 := kx0_0.ext hq51
  replace kx1_0 := kx1_0.ext hq51
  replace kx1_1 := kx1_1.ext hq51
  replace kx1_2 := kx1_2.ext hq51
  replace kx1_3 := kx1_3.ext hq51
  replace kbg0_0 := kbg0_0.ext hq51
  replace kbg0_1 := kbg0_1.ext hq51
  replace kbg0_2 := kbg0_2.ext hq51
  replace kbg0_3 := kbg0_3.ext hq51
  replace kf35_0 := kf35_0.ext hq51
  replace kf35_1 := kf35_1.ext hq51
  replace kf35_2 := kf35_2.ext hq51
  replace kf35_3 := kf35_3.ext hq51
  replace ta0 := ta0.below hq51
  replace ta1 := ta1.below hq51
  replace T5_0 := T5_0.below hq51
  replace T5_1 := T5_1.below hq51
  replace M19 := M19.below hq51
  replace M20 := M20.below hq51
  replace T23_0 := T23_0.below hq51
  replace T23_1 := T23_1.below hq51
  replace O5_0 := O5_0.below hq51
  replace O5_1 := O5_1.below hq51
  replace O8_0 := O8_0.below hq51
  replace O8_1 := O8_1.below hq51
  replace O23_0 := O23_0.below hq51
  replace O23_1 := O23_1.below hq51
  have hy52 := Ext.trans hy50 hq51
  obtain ⟨e, he⟩ : ∃ e : ExtOf W25, W25 = e.to := ⟨⟨W25, Below.refl _ _⟩, rfl⟩
  rw [he]
  clear he
  have CH0 : Hid (QC Tryz.prog W25 _ _ _) := fun W hW => heldCore_any r0 1 mg0 W (TN.below M19 hW) (by omega) (by omega) hmg0
  go_wp2_with (first | (go_at_call 15; with_reducible refine (CH0.out.at_ _).mono ?_; rintro _ _ ⟨rfl, e, rfl⟩))
  clear CH0
  have CH1 : Hid (QC Tryz.prog W25 _ _ _) := fun W hW => heldInt64S_any r1 mg0 mg1 r1.length W (M20.below hW) Hid_rfl (by omega) (by omega) hmg1
  go_wp2_with (first | (go_at_call 20; with_reducible refine (CH1.out.at_ _).mono ?_; rintro _ _ ⟨rfl, e, rfl⟩))
  clear CH1
  go_wp2_with fail
  go_ret
  exact ⟨rfl, ExtOf.old hy52 e⟩
end Go.Proofs.YtieemijapiiiiaaGreat
