/- The law FnExactRunDeque, walked. Printed by gen_law.py. -/
import Derived.Test.YthelpioccjjgfaaProg
import Derived.Test.YthelpioccjjgfaaDq21
import Derived.Test.YthelpioccjjgfaaFDq
import Derived.Test.YthelpioccjjgfaaCDq
import Derived.Test.YthelpioccjjgfaaZDq
import Derived.Test.YthelpioccjjgfaaKDq
import Derived.Test.YthelpioccjjgfaaGrow
import Derived.Test.YthelpioccjjgfaaMk
import Derived.BigGuardPart
import Derived.Outline
import Derived.Deep.CutBlock
set_option linter.unusedSimpArgs false
set_option linter.unusedVariables false
namespace Go.Proofs.Ythelpioccjjgfaa
open Go Go.RowKit Go.Proofs Go.Tr
set_option maxRecDepth 100000 in
set_option maxHeartbeats 16000000 in
theorem lawRunDeque (a0 : GDeque) {p0 : List Nat} {u0 : List Value} (a1 : (List Int)) {A1 : Option Addr} {c1 : Nat} {p1 : List Nat} (w : World) (ta0 : TN w a0.enc p0 u0) (ta1 : T1 w (.sl a1.length (a1.flatMap intE)) p1 (.slice A1 a1.length c1)) : Calls Try.prog 10 #[.agg u0.toArray, .slice A1 a1.length c1] w fun e w' => e = .returned (.bool (true)) ∧ Ext w w' := by
  refine quiet_start fun e => ?_
  obtain ⟨⟨r0, r1, r2⟩, hR0⟩ : ∃ R, R = runDeque a0 a1 := ⟨_, rfl⟩
  have hR := Lib.hid hR0
  clear hR0
  obtain ⟨_, _, _, _, _, _, _, _, _, _, _, _, rfl, -⟩ := GDeque.us (x := a0) ta0
  have loa0 : ∀ b ∈ p0, 0 ≤ b ∧ b < w.heap.size := fun b hb => ⟨Nat.zero_le _, ta0.lt b hb⟩
  have loa1 : ∀ b ∈ p1, 0 ≤ b ∧ b < w.heap.size := fun b hb => ⟨Nat.zero_le _, ta1.lt b hb⟩
  have hna1 := ta1.nle
  have el1 := Lib.hid (rfl : a1.length = a1.length)
  go_enter Try.func10, Try.ntmps10
  go_upto_region 1 with (fail)
  generalize hgg0 : e.to.heap.size = g0
  refine rebase_box e hgg0 (fun w1 e hx1 hgeg0 hltg0 cg0 => ?_)
  clear hgg0
  replace ta1 := ta1.below hx1
  replace ta0 := ta0.below hx1
  have k0_0 := cg0.always hltg0 0 _ rfl
  have k0_1 := cg0.always hltg0 1 _ rfl
  have k0_2 := cg0.always hltg0 2 _ rfl
  have k0_3 := cg0.always hltg0 3 _ rfl
  have k0_4 := cg0.always hltg0 4 _ rfl
  have k0_5 := cg0.always hltg0 5 _ rfl
  simp only [Nat.zero_add] at k0_0 k0_1 k0_2 k0_3 k0_4 k0_5
  clear cg0
  by_cases hs1 : 1048576 < a1.length
  case pos =>
    go_wp2_with fail
    go_ret
    exact ⟨rfl, ExtOf.old hx1 e⟩
  replace hs1 : a1.length ≤ 1048576 := by omega
  go_wp2_with fail
  obtain ⟨_, _, _, _, _, _, _, _, _, _, _, _, -, -, -, nl0_2, ml0_2, -, nl0_3, ml0_3, -, nl0_4, ml0_4, -, nl0_5, ml0_5⟩ := GDeque.us (x := a0) (TN.below ta0 e.h)
  refine (szDeque_any a0 1048576 _ (ta0.below e.h) (Nat.le_trans nl0_2 ml0_2) (Nat.le_trans nl0_3 ml0_3) (Nat.le_trans nl0_4 ml0_4) (Nat.le_trans nl0_5 ml0_5) (by omega) (by omega)).mono ?_
  rintro _ W1 ⟨z1, L0, rfl, hr0⟩
  have hq2 := Ext.trans e.h z1
  have hs2 := hq2.size
  replace k0_0 := k0_0.ext hq2
  replace k0_1 := k0_1.ext hq2
  replace k0_2 := k0_2.ext hq2
  replace k0_3 := k0_3.ext hq2
  replace k0_4 := k0_4.ext hq2
  replace k0_5 := k0_5.ext hq2
  replace ta1 := ta1.below hq2
  replace ta0 := ta0.below hq2
  have hy3 := Ext.trans hx1 hq2
  obtain ⟨e, he⟩ : ∃ e : ExtOf W1, W1 = e.to := ⟨⟨W1, Below.refl _ _⟩, rfl⟩
  rw [he]
  clear he
  rcases hr0 with rfl | ⟨hr0_0, hr1_0, sm0⟩
  case inl =>
    go_wp2_with fail
    go_ret
    exact ⟨rfl, ExtOf.old hy3 e⟩
  have hr2_0 : L0 ≤ 1048576 := by omega
  have SM0 := Lib.hid sm0
  have HL0 := Lib.hid hr1_0
  clear sm0 hr1_0
  go_wp2_with fail
  refine (toDeque_any a0 _ (ta0.below e.h) SM0.out).mono ?_
  rintro _ W2 ⟨_, q2, rfl, z2, T2, O2⟩
  obtain ⟨_, _, _, _, _, _, _, _, _, _, _, _, rfl, -⟩ := GDeque.us T2
  have lo2 : ∀ b ∈ q2, e.to.heap.size ≤ b ∧ b < W2.heap.size := fun b hb => ⟨(O2.2 b hb).1, T2.lt b hb⟩
  have sz2 := e.h.size
  have sw2 := (Ext.trans hy3 e.h).size
  have hq4 := Ext.trans e.h z2
  have hs4 := hq4.size
  replace k0_0 := k0_0.ext hq4
  replace k0_1 := k0_1.ext hq4
  replace k0_2 := k0_2.ext hq4
  replace k0_3 := k0_3.ext hq4
  replace k0_4 := k0_4.ext hq4
  replace k0_5 := k0_5.ext hq4
  replace ta1 := ta1.below hq4
  replace ta0 := ta0.below hq4
  have hy5 := Ext.trans hy3 hq4
  obtain ⟨e, he⟩ : ∃ e : ExtOf W2, W2 = e.to := ⟨⟨W2, Below.refl _ _⟩, rfl⟩
  rw [he]
  clear he
  go_wp2_with fail
  refine (toInt64S_any a1 _ (ta1.below e.h) hs1).mono ?_
  rintro _ W3 ⟨B3, D3, q3, rfl, z3, T3, O3⟩
  have lo3 : ∀ b ∈ q3, e.to.heap.size ≤ b ∧ b < W3.heap.size := fun b hb => ⟨(O3.2 b hb).1, T3.lt b hb⟩
  have sz3 := e.h.size
  have sw3 := (Ext.trans hy5 e.h).size
  have hq6 := Ext.trans e.h z3
  have hs6 := hq6.size
  replace k0_0 := k0_0.ext hq6
  replace k0_1 := k0_1.ext hq6
  replace k0_2 := k0_2.ext hq6
  replace k0_3 := k0_3.ext hq6
  replace k0_4 := k0_4.ext hq6
  replace k0_5 := k0_5.ext hq6
  replace ta1 := ta1.below hq6
  replace ta0 := ta0.below hq6
  replace T2 := T2.below hq6
  replace O2 := O2.below hq6
  have hy7 := Ext.trans hy5 hq6
  obtain ⟨e, he⟩ : ∃ e : ExtOf W3, W3 = e.to := ⟨⟨W3, Below.refl _ _⟩, rfl⟩
  rw [he]
  clear he
  go_wp2_with fail
  refine (runDequeS_any a0 a1 r0 r1 r2 hR _ (T2.below e.h) (T3.below e.h)).mono ?_
  rintro _ W4 ⟨_, q4_0, rfl, z4, T4_0⟩
  obtain ⟨_, _, _, _, _, _, _, _, _, _, _, _, rfl, -⟩ := GDeque.us T4_0
  have lo4_0 : ∀ b ∈ q4_0, 0 ≤ b ∧ b < W4.heap.size := fun b hb => ⟨Nat.zero_le _, T4_0.lt b hb⟩
  have sz4 := e.h.size
  have sw4 := (Ext.trans hy7 e.h).size
  have hq8 := Ext.trans e.h z4
  have hs8 := hq8.size
  replace k0_0 := k0_0.ext hq8
  replace k0_1 := k0_1.ext hq8
  replace k0_2 := k0_2.ext hq8
  replace k0_3 := k0_3.ext hq8
  replace k0_4 := k0_4.ext hq8
  replace k0_5 := k0_5.ext hq8
  replace ta1 := ta1.below hq8
  replace ta0 := ta0.below hq8
  replace T2 := T2.below hq8
  replace T3 := T3.below hq8
  replace O2 := O2.below hq8
  replace O3 := O3.below hq8
  have hy9 := Ext.trans hy7 hq8
  obtain ⟨e, he⟩ : ∃ e : ExtOf W4, W4 = e.to := ⟨⟨W4, Below.refl _ _⟩, rfl⟩
  rw [he]
  clear he
  go_upto_region 8 with (fail)
  generalize hggbw0 : e.to.heap.size = gbw0
  refine rebase_box e hggbw0 (fun w10 e hx10 hgegbw0 hltgbw0 cgbw0 => ?_)
  clear hggbw0
  replace k0_0 := k0_0.ext hx10
  replace k0_1 := k0_1.ext hx10
  replace k0_2 := k0_2.ext hx10
  replace k0_3 := k0_3.ext hx10
  replace k0_4 := k0_4.ext hx10
  replace k0_5 := k0_5.ext hx10
  replace ta1 := ta1.below hx10
  replace ta0 := ta0.below hx10
  replace T4_0 := T4_0.below hx10
  have hy10 := Ext.trans hy9 hx10
  have hs_gbw0 := hx10.size
  have kbw0_0 := cgbw0.always hltgbw0 0 _ rfl
  have kbw0_1 := cgbw0.always hltgbw0 1 _ rfl
  have kbw0_2 := cgbw0.always hltgbw0 2 _ rfl
  have kbw0_3 := cgbw0.always hltgbw0 3 _ rfl
  have kbw0_4 := cgbw0.always hltgbw0 4 _ rfl
  have kbw0_5 := cgbw0.always hltgbw0 5 _ rfl
  simp only [Nat.zero_add] at kbw0_0 kbw0_1 kbw0_2 kbw0_3 kbw0_4 kbw0_5
  clear cgbw0
  go_wp2_with fail
  refine (toDeque_any a0 _ (ta0.below e.h) SM0.out).mono ?_
  rintro _ W5 ⟨_, q5, rfl, z5, T5, O5⟩
  obtain ⟨_, _, _, _, _, _, _, _, _, _, _, _, rfl, -⟩ := GDeque.us T5
  have lo5 : ∀ b ∈ q5, e.to.heap.size ≤ b ∧ b < W5.heap.size := fun b hb => ⟨(O5.2 b hb).1, T5.lt b hb⟩
  have sz5 := e.h.size
  have sw5 := (Ext.trans hy10 e.h).size
  have hq11 := Ext.trans e.h z5
  have hs11 := hq11.size
  replace k0_0 := k0_0.ext hq11
  replace k0_1 := k0_1.ext hq11
  replace k0_2 := k0_2.ext hq11
  replace k0_3 := k0_3.ext hq11
  replace k0_4 := k0_4.ext hq11
  replace k0_5 := k0_5.ext hq11
  replace kbw0_0 := kbw0_0.ext hq11
  replace kbw0_1 := kbw0_1.ext hq11
  replace kbw0_2 := kbw0_2.ext hq11
  replace kbw0_3 := kbw0_3.ext hq11
  replace kbw0_4 := kbw0_4.ext hq11
  replace kbw0_5 := kbw0_5.ext hq11
  replace ta1 := ta1.below hq11
  replace ta0 := ta0.below hq11
  replace T4_0 := T4_0.below hq11
  have hy12 := Ext.trans hy10 hq11
  obtain ⟨e, he⟩ : ∃ e : ExtOf W5, W5 = e.to := ⟨⟨W5, Below.refl _ _⟩, rfl⟩
  go_upto_region 9 with (fail)
  clear he
  generalize hggx0 : e.to.heap.size = gx0
  refine rebase_box e hggx0 (fun w13 e hx13 hgegx0 hltgx0 cgx0 => ?_)
  clear hggx0
  replace k0_0 := k0_0.ext hx13
  replace k0_1 := k0_1.ext hx13
  replace k0_2 := k0_2.ext hx13
  replace k0_3 := k0_3.ext hx13
  replace k0_4 := k0_4.ext hx13
  replace k0_5 := k0_5.ext hx13
  replace kbw0_0 := kbw0_0.ext hx13
  replace kbw0_1 := kbw0_1.ext hx13
  replace kbw0_2 := kbw0_2.ext hx13
  replace kbw0_3 := kbw0_3.ext hx13
  replace kbw0_4 := kbw0_4.ext hx13
  replace kbw0_5 := kbw0_5.ext hx13
  replace ta1 := ta1.below hx13
  replace ta0 := ta0.below hx13
  replace T4_0 := T4_0.below hx13
  replace T5 := T5.below hx13
  replace O5 := O5.below hx13
  have hy13 := Ext.trans hy12 hx13
  have hs_gx0 := hx13.size
  have kx0_0 := cgx0.always hltgx0 0 _ rfl
  have kx0_1 := cgx0.always hltgx0 1 _ rfl
  have kx0_2 := cgx0.always hltgx0 2 _ rfl
  have kx0_3 := cgx0.always hltgx0 3 _ rfl
  have kx0_4 := cgx0.always hltgx0 4 _ rfl
  have kx0_5 := cgx0.always hltgx0 5 _ rfl
  simp only [Nat.zero_add] at kx0_0 kx0_1 kx0_2 kx0_3 kx0_4 kx0_5
  clear cgx0
  go_wp2_with fail
  refine (toInt64S_any a1 _ (ta1.below e.h) hs1).mono ?_
  rintro _ W6 ⟨B6, D6, q6, rfl, z6, T6, O6⟩
  have lo6 : ∀ b ∈ q6, e.to.heap.size ≤ b ∧ b < W6.heap.size := fun b hb => ⟨(O6.2 b hb).1, T6.lt b hb⟩
  have sz6 := e.h.size
  have sw6 := (Ext.trans hy13 e.h).size
  have hq14 := Ext.trans e.h z6
  have hs14 := hq14.size
  replace k0_0 := k0_0.ext hq14
  replace k0_1 := k0_1.ext hq14
  replace k0_2 := k0_2.ext hq14
  replace k0_3 := k0_3.ext hq14
  replace k0_4 := k0_4.ext hq14
  replace k0_5 := k0_5.ext hq14
  replace kbw0_0 := kbw0_0.ext hq14
  replace kbw0_1 := kbw0_1.ext hq14
  replace kbw0_2 := kbw0_2.ext hq14
  replace kbw0_3 := kbw0_3.ext hq14
  replace kbw0_4 := kbw0_4.ext hq14
  replace kbw0_5 := kbw0_5.ext hq14
  replace kx0_0 := kx0_0.ext hq14
  replace kx0_1 := kx0_1.ext hq14
  replace kx0_2 := kx0_2.ext hq14
  replace kx0_3 := kx0_3.ext hq14
  replace kx0_4 := kx0_4.ext hq14
  replace kx0_5 := kx0_5.ext hq14
  replace ta1 := ta1.below hq14
  replace ta0 := ta0.below hq14
  replace T4_0 := T4_0.below hq14
  replace T5 := T5.below hq14
  replace O5 := O5.below hq14
  have hy15 := Ext.trans hy13 hq14
  obtain ⟨e, he⟩ : ∃ e : ExtOf W6, W6 = e.to := ⟨⟨W6, Below.refl _ _⟩, rfl⟩
  rw [he]
  clear he
  go_wp2_with fail
  refine (runDequeI_any a0 a1 r0 r1 r2 hR _ (T5.below e.h) (T6.below e.h)).mono ?_
  rintro _ W7 ⟨_, q7_0, rfl, z7, T7_0, O7⟩
  obtain ⟨_, _, _, _, _, _, _, _, _, _, _, _, rfl, -⟩ := GDeque.us T7_0
  have O7_0 := O7
  have lo7_0 : ∀ b ∈ q7_0, e.to.heap.size ≤ b ∧ b < W7.heap.size := fun b hb => ⟨(O7_0.2 b hb).1, T7_0.lt b hb⟩
  have sz7 := e.h.size
  have sw7 := (Ext.trans hy15 e.h).size
  have hq16 := Ext.trans e.h z7
  have hs16 := hq16.size
  replace k0_0 := k0_0.ext hq16
  replace k0_1 := k0_1.ext hq16
  replace k0_2 := k0_2.ext hq16
  replace k0_3 := k0_3.ext hq16
  replace k0_4 := k0_4.ext hq16
  replace k0_5 := k0_5.ext hq16
  replace kbw0_0 := kbw0_0.ext hq16
  replace kbw0_1 := kbw0_1.ext hq16
  replace kbw0_2 := kbw0_2.ext hq16
  replace kbw0_3 := kbw0_3.ext hq16
  replace kbw0_4 := kbw0_4.ext hq16
  replace kbw0_5 := kbw0_5.ext hq16
  replace kx0_0 := kx0_0.ext hq16
  replace kx0_1 := kx0_1.ext hq16
  replace kx0_2 := kx0_2.ext hq16
  replace kx0_3 := kx0_3.ext hq16
  replace kx0_4 := kx0_4.ext hq16
  replace kx0_5 := kx0_5.ext hq16
  replace ta1 := ta1.below hq16
  replace ta0 := ta0.below hq16
  replace T4_0 := T4_0.below hq16
  replace T5 := T5.below hq16
  replace T6 := T6.below hq16
  replace O5 := O5.below hq16
  replace O6 := O6.below hq16
  have hy17 := Ext.trans hy15 hq16
  obtain ⟨e, he⟩ : ∃ e : ExtOf W7, W7 = e.to := ⟨⟨W7, Below.refl _ _⟩, rfl⟩
  rw [he]
  clear he
  go_upto_region 11 with (fail)
  generalize hggbg0 : e.to.heap.size = gbg0
  refine rebase_box e hggbg0 (fun w18 e hx18 hgegbg0 hltgbg0 cgbg0 => ?_)
  clear hggbg0
  replace k0_0 := k0_0.ext hx18
  replace k0_1 := k0_1.ext hx18
  replace k0_2 := k0_2.ext hx18
  replace k0_3 := k0_3.ext hx18
  replace k0_4 := k0_4.ext hx18
  replace k0_5 := k0_5.ext hx18
  replace kbw0_0 := kbw0_0.ext hx18
  replace kbw0_1 := kbw0_1.ext hx18
  replace kbw0_2 := kbw0_2.ext hx18
  replace kbw0_3 := kbw0_3.ext hx18
  replace kbw0_4 := kbw0_4.ext hx18
  replace kbw0_5 := kbw0_5.ext hx18
  replace kx0_0 := kx0_0.ext hx18
  replace kx0_1 := kx0_1.ext hx18
  replace kx0_2 := kx0_2.ext hx18
  replace kx0_3 := kx0_3.ext hx18
  replace kx0_4 := kx0_4.ext hx18
  replace kx0_5 := kx0_5.ext hx18
  replace ta1 := ta1.below hx18
  replace ta0 := ta0.below hx18
  replace T4_0 := T4_0.below hx18
  replace T5 := T5.below hx18
  replace T6 := T6.below hx18
  replace T7_0 := T7_0.below hx18
  replace O5 := O5.below hx18
  replace O6 := O6.below hx18
  replace O7_0 := O7_0.below hx18
  have hy18 := Ext.trans hy17 hx18
  have hs_gbg0 := hx18.size
  have kbg0_0 := cgbg0.always hltgbg0 0 _ rfl
  have kbg0_1 := cgbg0.always hltgbg0 1 _ rfl
  have kbg0_2 := cgbg0.always hltgbg0 2 _ rfl
  have kbg0_3 := cgbg0.always hltgbg0 3 _ rfl
  have kbg0_4 := cgbg0.always hltgbg0 4 _ rfl
  have kbg0_5 := cgbg0.always hltgbg0 5 _ rfl
  simp only [Nat.zero_add] at kbg0_0 kbg0_1 kbg0_2 kbg0_3 kbg0_4 kbg0_5
  clear cgbg0
  have ee_r0 : eqb r0 r0 = true := eqb_self r0
  go_wp2_with fail
  refine (eqDeque_any r0 r0 _ (T7_0.below e.h) (T4_0.below e.h)).mono ?_
  rintro _ W8 ⟨rfl, z8⟩
  have hq19 := Ext.trans e.h z8
  have hs19 := hq19.size
  replace k0_0 := k0_0.ext hq19
  replace k0_1 := k0_1.ext hq19
  replace k0_2 := k0_2.ext hq19
  replace k0_3 := k0_3.ext hq19
  replace k0_4 := k0_4.ext hq19
  replace k0_5 := k0_5.ext hq19
  replace kbw0_0 := kbw0_0.ext hq19
  replace kbw0_1 := kbw0_1.ext hq19
  replace kbw0_2 := kbw0_2.ext hq19
  replace kbw0_3 := kbw0_3.ext hq19
  replace kbw0_4 := kbw0_4.ext hq19
  replace kbw0_5 := kbw0_5.ext hq19
  replace kx0_0 := kx0_0.ext hq19
  replace kx0_1 := kx0_1.ext hq19
  replace kx0_2 := kx0_2.ext hq19
  replace kx0_3 := kx0_3.ext hq19
  replace kx0_4 := kx0_4.ext hq19
  replace kx0_5 := kx0_5.ext hq19
  replace kbg0_0 := kbg0_0.ext hq19
  replace kbg0_1 := kbg0_1.ext hq19
  replace kbg0_2 := kbg0_2.ext hq19
  replace kbg0_3 := kbg0_3.ext hq19
  replace kbg0_4 := kbg0_4.ext hq19
  replace kbg0_5 := kbg0_5.ext hq19
  replace ta1 := ta1.below hq19
  replace ta0 := ta0.below hq19
  replace T4_0 := T4_0.below hq19
  replace T5 := T5.below hq19
  replace T6 := T6.below hq19
  replace T7_0 := T7_0.below hq19
  replace O5 := O5.below hq19
  replace O6 := O6.below hq19
  replace O7_0 := O7_0.below hq19
  have hy20 := Ext.trans hy18 hq19
  obtain ⟨e, he⟩ : ∃ e : ExtOf W8, W8 = e.to := ⟨⟨W8, Below.refl _ _⟩, rfl⟩
  rw [he]
  clear he
  have ee_a0 : eqb a0 a0 = true := eqb_self a0
  go_wp2_with fail
  refine wp_region_grow _ (by kernel_rfl) 5 (by kernel_rfl) ?_
  refine grow_take 0 rfl (by kernel_rfl) ?_; go_big_quiet_step (fail); refine wpQuiet_nil ?_
  refine grow_take 1 rfl (by kernel_rfl) ?_; go_big_quiet_step (fail); refine wpQuiet_nil ?_
  refine grow_only 2 rfl (by kernel_rfl) (fun e => ?_)
  go_wp2_with fail
  refine (toDeque_any a0 _ (ta0.below e.h) SM0.out).mono ?_
  rintro _ W9 ⟨_, q9, rfl, z9, T9, O9⟩
  obtain ⟨_, _, _, _, _, _, _, _, _, _, _, _, rfl, -⟩ := GDeque.us T9
  have lo9 : ∀ b ∈ q9, e.to.heap.size ≤ b ∧ b < W9.heap.size := fun b hb => ⟨(O9.2 b hb).1, T9.lt b hb⟩
  have sz9 := e.h.size
  have sw9 := (Ext.trans hy20 e.h).size
  go_wp2_with fail
  refine And.intro z9 ?_
  have hq21 := Ext.trans e.h z9
  have hs21 := hq21.size
  replace k0_0 := k0_0.ext hq21
  replace k0_1 := k0_1.ext hq21
  replace k0_2 := k0_2.ext hq21
  replace k0_3 := k0_3.ext hq21
  replace k0_4 := k0_4.ext hq21
  replace k0_5 := k0_5.ext hq21
  replace kbw0_0 := kbw0_0.ext hq21
  replace kbw0_1 := kbw0_1.ext hq21
  replace kbw0_2 := kbw0_2.ext hq21
  replace kbw0_3 := kbw0_3.ext hq21
  replace kbw0_4 := kbw0_4.ext hq21
  replace kbw0_5 := kbw0_5.ext hq21
  replace kx0_0 := kx0_0.ext hq21
  replace kx0_1 := kx0_1.ext hq21
  replace kx0_2 := kx0_2.ext hq21
  replace kx0_3 := kx0_3.ext hq21
  replace kx0_4 := kx0_4.ext hq21
  replace kx0_5 := kx0_5.ext hq21
  replace kbg0_0 := kbg0_0.ext hq21
  replace kbg0_1 := kbg0_1.ext hq21
  replace kbg0_2 := kbg0_2.ext hq21
  replace kbg0_3 := kbg0_3.ext hq21
  replace kbg0_4 := kbg0_4.ext hq21
  replace kbg0_5 := kbg0_5.ext hq21
  replace ta1 := ta1.below hq21
  replace ta0 := ta0.below hq21
  replace T4_0 := T4_0.below hq21
  replace T5 := T5.below hq21
  replace T6 := T6.below hq21
  replace T7_0 := T7_0.below hq21
  replace O5 := O5.below hq21
  replace O6 := O6.below hq21
  replace O7_0 := O7_0.below hq21
  have hy22 := Ext.trans hy20 hq21
  refine grow_only 3 rfl (by kernel_rfl) (fun e => ?_)
  go_wp2_with fail
  refine (eqDeque_any a0 a0 _ (T5.below e.h) (T9.below e.h)).mono ?_
  rintro _ W10 ⟨rfl, z10⟩
  go_wp2_with fail
  refine And.intro z10 ?_
  have hq23 := Ext.trans e.h z10
  have hs23 := hq23.size
  replace k0_0 := k0_0.ext hq23
  replace k0_1 := k0_1.ext hq23
  replace k0_2 := k0_2.ext hq23
  replace k0_3 := k0_3.ext hq23
  replace k0_4 := k0_4.ext hq23
  replace k0_5 := k0_5.ext hq23
  replace kbw0_0 := kbw0_0.ext hq23
  replace kbw0_1 := kbw0_1.ext hq23
  replace kbw0_2 := kbw0_2.ext hq23
  replace kbw0_3 := kbw0_3.ext hq23
  replace kbw0_4 := kbw0_4.ext hq23
  replace kbw0_5 := kbw0_5.ext hq23
  replace kx0_0 := kx0_0.ext hq23
  replace kx0_1 := kx0_1.ext hq23
  replace kx0_2 := kx0_2.ext hq23
  replace kx0_3 := kx0_3.ext hq23
  replace kx0_4 := kx0_4.ext hq23
  replace kx0_5 := kx0_5.ext hq23
  replace kbg0_0 := kbg0_0.ext hq23
  replace kbg0_1 := kbg0_1.ext hq23
  replace kbg0_2 := kbg0_2.ext hq23
  replace kbg0_3 := kbg0_3.ext hq23
  replace kbg0_4 := kbg0_4.ext hq23
  replace kbg0_5 := kbg0_5.ext hq23
  replace ta1 := ta1.below hq23
  replace ta0 := ta0.below hq23
  replace T4_0 := T4_0.below hq23
  replace T5 := T5.below hq23
  replace T6 := T6.below hq23
  replace T7_0 := T7_0.below hq23
  replace T9 := T9.below hq23
  replace O5 := O5.below hq23
  replace O6 := O6.below hq23
  replace O7_0 := O7_0.below hq23
  replace O9 := O9.below hq23
  have hy24 := Ext.trans hy22 hq23
  refine grow_take 4 rfl (by kernel_rfl) ?_; go_big_quiet_step (fail); refine wpQuiet_nil ?_
  refine grow_done (by kernel_rfl) (fun e => ?_)
  have ee_a1 : eqb a1 a1 = true := eqb_self a1
  go_wp2_with fail
  refine (toInt64S_any a1 _ (ta1.below e.h) hs1).mono ?_
  rintro _ W11 ⟨B11, D11, q11, rfl, z11, T11, O11⟩
  have lo11 : ∀ b ∈ q11, e.to.heap.size ≤ b ∧ b < W11.heap.size := fun b hb => ⟨(O11.2 b hb).1, T11.lt b hb⟩
  have sz11 := e.h.size
  have sw11 := (Ext.trans hy24 e.h).size
  have hq25 := Ext.trans e.h z11
  have hs25 := hq25.size
  replace k0_0 := k0_0.ext hq25
  replace k0_1 := k0_1.ext hq25
  replace k0_2 := k0_2.ext hq25
  replace k0_3 := k0_3.ext hq25
  replace k0_4 := k0_4.ext hq25
  replace k0_5 := k0_5.ext hq25
  replace kbw0_0 := kbw0_0.ext hq25
  replace kbw0_1 := kbw0_1.ext hq25
  replace kbw0_2 := kbw0_2.ext hq25
  replace kbw0_3 := kbw0_3.ext hq25
  replace kbw0_4 := kbw0_4.ext hq25
  replace kbw0_5 := kbw0_5.ext hq25
  replace kx0_0 := kx0_0.ext hq25
  replace kx0_1 := kx0_1.ext hq25
  replace kx0_2 := kx0_2.ext hq25
  replace kx0_3 := kx0_3.ext hq25
  replace kx0_4 := kx0_4.ext hq25
  replace kx0_5 := kx0_5.ext hq25
  replace kbg0_0 := kbg0_0.ext hq25
  replace kbg0_1 := kbg0_1.ext hq25
  replace kbg0_2 := kbg0_2.ext hq25
  replace kbg0_3 := kbg0_3.ext hq25
  replace kbg0_4 := kbg0_4.ext hq25
  replace kbg0_5 := kbg0_5.ext hq25
  replace ta1 := ta1.below hq25
  replace ta0 := ta0.below hq25
  replace T4_0 := T4_0.below hq25
  replace T5 := T5.below hq25
  replace T6 := T6.below hq25
  replace T7_0 := T7_0.below hq25
  replace O5 := O5.below hq25
  replace O6 := O6.below hq25
  replace O7_0 := O7_0.below hq25
  have hy26 := Ext.trans hy24 hq25
  obtain ⟨e, he⟩ : ∃ e : ExtOf W11, W11 = e.to := ⟨⟨W11, Below.refl _ _⟩, rfl⟩
  rw [he]
  clear he
  go_wp2_with fail
  refine (eqInt64S_any a1 a1 _ (T6.below e.h) (T11.below e.h) (by have := T6.nle; unfold maxLen; omega) (by have := T6.nle; unfold maxLen; omega)).mono ?_
  rintro _ W12 ⟨rfl, z12⟩
  have hq27 := Ext.trans e.h z12
  have hs27 := hq27.size
  replace k0_0 := k0_0.ext hq27
  replace k0_1 := k0_1.ext hq27
  replace k0_2 := k0_2.ext hq27
  replace k0_3 := k0_3.ext hq27
  replace k0_4 := k0_4.ext hq27
  replace k0_5 := k0_5.ext hq27
  replace kbw0_0 := kbw0_0.ext hq27
  replace kbw0_1 := kbw0_1.ext hq27
  replace kbw0_2 := kbw0_2.ext hq27
  replace kbw0_3 := kbw0_3.ext hq27
  replace kbw0_4 := kbw0_4.ext hq27
  replace kbw0_5 := kbw0_5.ext hq27
  replace kx0_0 := kx0_0.ext hq27
  replace kx0_1 := kx0_1.ext hq27
  replace kx0_2 := kx0_2.ext hq27
  replace kx0_3 := kx0_3.ext hq27
  replace kx0_4 := kx0_4.ext hq27
  replace kx0_5 := kx0_5.ext hq27
  replace kbg0_0 := kbg0_0.ext hq27
  replace kbg0_1 := kbg0_1.ext hq27
  replace kbg0_2 := kbg0_2.ext hq27
  replace kbg0_3 := kbg0_3.ext hq27
  replace kbg0_4 := kbg0_4.ext hq27
  replace kbg0_5 := kbg0_5.ext hq27
  replace ta1 := ta1.below hq27
  replace ta0 := ta0.below hq27
  replace T4_0 := T4_0.below hq27
  replace T5 := T5.below hq27
  replace T6 := T6.below hq27
  replace T7_0 := T7_0.below hq27
  replace T11 := T11.below hq27
  replace O5 := O5.below hq27
  replace O6 := O6.below hq27
  replace O7_0 := O7_0.below hq27
  replace O11 := O11.below hq27
  have hy28 := Ext.trans hy26 hq27
  obtain ⟨e, he⟩ : ∃ e : ExtOf W12, W12 = e.to := ⟨⟨W12, Below.refl _ _⟩, rfl⟩
  rw [he]
  clear he
  go_wp2_with fail
  have cb0 : a0.cnt ≤ 33554432 := by have h1 := GDeque.cnt_le a0; have h2 := HL0.out; omega
  have cb1 : cN (a1.flatMap intE) ≤ 33554432 := by have := cN_ints a1; omega
  have rb0 : r0.cnt ≤ 1099511627776 := runDeque_small a0 a1 r0 r1 r2 hR.out SM0.out hs1
  refine (markDeque_any a0 1 _ (T5.below e.h) (O5.below e.h) (by omega) (by omega)).mono ?_
  rintro _ W13 ⟨kx0, rfl, hkx0, M13, f13, V13⟩
  have pkx0 : 0 ≤ kx0 := by have := hkx0.out; omega
  have hsW13 := f13.size
  have hszW13 := e.h.size
  replace k0_0 := k0_0.onl e f13 (by omega) (fun hm => by have := lo5 _ hm; omega)
  replace k0_1 := k0_1.onl e f13 (by omega) (fun hm => by have := lo5 _ hm; omega)
  replace k0_2 := k0_2.onl e f13 (by omega) (fun hm => by have := lo5 _ hm; omega)
  replace k0_3 := k0_3.onl e f13 (by omega) (fun hm => by have := lo5 _ hm; omega)
  replace k0_4 := k0_4.onl e f13 (by omega) (fun hm => by have := lo5 _ hm; omega)
  replace k0_5 := k0_5.onl e f13 (by omega) (fun hm => by have := lo5 _ hm; omega)
  replace kbw0_0 := kbw0_0.onl e f13 (by omega) (fun hm => by have := lo5 _ hm; omega)
  replace kbw0_1 := kbw0_1.onl e f13 (by omega) (fun hm => by have := lo5 _ hm; omega)
  replace kbw0_2 := kbw0_2.onl e f13 (by omega) (fun hm => by have := lo5 _ hm; omega)
  replace kbw0_3 := kbw0_3.onl e f13 (by omega) (fun hm => by have := lo5 _ hm; omega)
  replace kbw0_4 := kbw0_4.onl e f13 (by omega) (fun hm => by have := lo5 _ hm; omega)
  replace kbw0_5 := kbw0_5.onl e f13 (by omega) (fun hm => by have := lo5 _ hm; omega)
  replace kx0_0 := kx0_0.onl e f13 (by omega) (fun hm => by have := lo5 _ hm; omega)
  replace kx0_1 := kx0_1.onl e f13 (by omega) (fun hm => by have := lo5 _ hm; omega)
  replace kx0_2 := kx0_2.onl e f13 (by omega) (fun hm => by have := lo5 _ hm; omega)
  replace kx0_3 := kx0_3.onl e f13 (by omega) (fun hm => by have := lo5 _ hm; omega)
  replace kx0_4 := kx0_4.onl e f13 (by omega) (fun hm => by have := lo5 _ hm; omega)
  replace kx0_5 := kx0_5.onl e f13 (by omega) (fun hm => by have := lo5 _ hm; omega)
  replace kbg0_0 := kbg0_0.onl e f13 (by omega) (fun hm => by have := lo5 _ hm; omega)
  replace kbg0_1 := kbg0_1.onl e f13 (by omega) (fun hm => by have := lo5 _ hm; omega)
  replace kbg0_2 := kbg0_2.onl e f13 (by omega) (fun hm => by have := lo5 _ hm; omega)
  replace kbg0_3 := kbg0_3.onl e f13 (by omega) (fun hm => by have := lo5 _ hm; omega)
  replace kbg0_4 := kbg0_4.onl e f13 (by omega) (fun hm => by have := lo5 _ hm; omega)
  replace kbg0_5 := kbg0_5.onl e f13 (by omega) (fun hm => by have := lo5 _ hm; omega)
  replace ta1 := T1.onl (ta1.below e.h) f13 (fun y hy hm => by have h1 := loa1 y hy; have h2 := lo5 y hm; omega)
  replace ta0 := TN.onl (ta0.below e.h) f13 (fun y hy hm => by have h1 := loa0 y hy; have h2 := lo5 y hm; omega)
  replace T4_0 := TN.onl (T4_0.below e.h) f13 (fun y hy hm => by have h1 := lo4_0 y hy; have h2 := lo5 y hm; omega)
  replace O6 := (O6.below e.h).onl f13
  replace T6 := T1.onl (T6.below e.h) f13 (fun y hy hm => by have h1 := lo6 y hy; have h2 := lo5 y hm; omega)
  replace O7_0 := (O7_0.below e.h).onl f13
  replace T7_0 := TN.onl (T7_0.below e.h) f13 (fun y hy hm => by have h1 := lo7_0 y hy; have h2 := lo5 y hm; omega)
  have hB13 : Ext w W13 := Below.trans (Ext.trans hy28 e.h) (Onl.below f13 (Ext.trans hy28 e.h).size (fun y hm => by have := lo5 y hm; have := (Ext.trans hy28 e.h).size; omega))
  obtain ⟨e, he⟩ : ∃ e : ExtOf W13, W13 = e.to := ⟨⟨W13, Below.refl _ _⟩, rfl⟩
  rw [he]
  clear he
  have bdkx0 : kx0 ≤ 36028797018963968 := by have := hkx0.out; omega
  go_wp2_with fail
  refine (markInt64S_any a1 kx0 _ (T6.below e.h) (O6.below e.h) (by have := T6.nle; unfold maxLen; omega) (by omega) (by omega)).mono ?_
  rintro _ W14 ⟨kx1, rfl, hkx1, M14, f14, V14⟩
  have pkx1 : 0 ≤ kx1 := by have := hkx1.out; omega
  have hsW14 := f14.size
  have hszW14 := e.h.size
  replace k0_0 := k0_0.onl e f14 (by omega) (fun hm => by have := lo6 _ hm; omega)
  replace k0_1 := k0_1.onl e f14 (by omega) (fun hm => by have := lo6 _ hm; omega)
  replace k0_2 := k0_2.onl e f14 (by omega) (fun hm => by have := lo6 _ hm; omega)
  replace k0_3 := k0_3.onl e f14 (by omega) (fun hm => by have := lo6 _ hm; omega)
  replace k0_4 := k0_4.onl e f14 (by omega) (fun hm => by have := lo6 _ hm; omega)
  replace k0_5 := k0_5.onl e f14 (by omega) (fun hm => by have := lo6 _ hm; omega)
  replace kbw0_0 := kbw0_0.onl e f14 (by omega) (fun hm => by have := lo6 _ hm; omega)
  replace kbw0_1 := kbw0_1.onl e f14 (by omega) (fun hm => by have := lo6 _ hm; omega)
  replace kbw0_2 := kbw0_2.onl e f14 (by omega) (fun hm => by have := lo6 _ hm; omega)
  replace kbw0_3 := kbw0_3.onl e f14 (by omega) (fun hm => by have := lo6 _ hm; omega)
  replace kbw0_4 := kbw0_4.onl e f14 (by omega) (fun hm => by have := lo6 _ hm; omega)
  replace kbw0_5 := kbw0_5.onl e f14 (by omega) (fun hm => by have := lo6 _ hm; omega)
  replace kx0_0 := kx0_0.onl e f14 (by omega) (fun hm => by have := lo6 _ hm; omega)
  replace kx0_1 := kx0_1.onl e f14 (by omega) (fun hm => by have := lo6 _ hm; omega)
  replace kx0_2 := kx0_2.onl e f14 (by omega) (fun hm => by have := lo6 _ hm; omega)
  replace kx0_3 := kx0_3.onl e f14 (by omega) (fun hm => by have := lo6 _ hm; omega)
  replace kx0_4 := kx0_4.onl e f14 (by omega) (fun hm => by have := lo6 _ hm; omega)
  replace kx0_5 := kx0_5.onl e f14 (by omega) (fun hm => by have := lo6 _ hm; omega)
  replace kbg0_0 := kbg0_0.onl e f14 (by omega) (fun hm => by have := lo6 _ hm; omega)
  replace kbg0_1 := kbg0_1.onl e f14 (by omega) (fun hm => by have := lo6 _ hm; omega)
  replace kbg0_2 := kbg0_2.onl e f14 (by omega) (fun hm => by have := lo6 _ hm; omega)
  replace kbg0_3 := kbg0_3.onl e f14 (by omega) (fun hm => by have := lo6 _ hm; omega)
  replace kbg0_4 := kbg0_4.onl e f14 (by omega) (fun hm => by have := lo6 _ hm; omega)
  replace kbg0_5 := kbg0_5.onl e f14 (by omega) (fun hm => by have := lo6 _ hm; omega)
  replace ta1 := T1.onl (ta1.below e.h) f14 (fun y hy hm => by have h1 := loa1 y hy; have h2 := lo6 y hm; omega)
  replace ta0 := TN.onl (ta0.below e.h) f14 (fun y hy hm => by have h1 := loa0 y hy; have h2 := lo6 y hm; omega)
  replace T4_0 := TN.onl (T4_0.below e.h) f14 (fun y hy hm => by have h1 := lo4_0 y hy; have h2 := lo6 y hm; omega)
  replace O7_0 := (O7_0.below e.h).onl f14
  replace T7_0 := TN.onl (T7_0.below e.h) f14 (fun y hy hm => by have h1 := lo7_0 y hy; have h2 := lo6 y hm; omega)
  have hB14 : Ext w W14 := Below.trans (Ext.trans hB13 e.h) (Onl.below f14 (Ext.trans hB13 e.h).size (fun y hm => by have := lo6 y hm; have := (Ext.trans hB13 e.h).size; omega))
  obtain ⟨e, he⟩ : ∃ e : ExtOf W14, W14 = e.to := ⟨⟨W14, Below.refl _ _⟩, rfl⟩
  rw [he]
  clear he
  have bdkx1 : kx1 ≤ 72057594037927936 := by have := hkx1.out; omega
  go_wp2_with fail
  refine (eqDeque_any r0 r0 _ (T7_0.below e.h) (T4_0.below e.h)).mono ?_
  rintro _ W15 ⟨rfl, z15⟩
  have hq29 := Ext.trans e.h z15
  have hs29 := hq29.size
  replace k0_0 := k0_0.ext hq29
  replace k0_1 := k0_1.ext hq29
  replace k0_2 := k0_2.ext hq29
  replace k0_3 := k0_3.ext hq29
  replace k0_4 := k0_4.ext hq29
  replace k0_5 := k0_5.ext hq29
  replace kbw0_0 := kbw0_0.ext hq29
  replace kbw0_1 := kbw0_1.ext hq29
  replace kbw0_2 := kbw0_2.ext hq29
  replace kbw0_3 := kbw0_3.ext hq29
  replace kbw0_4 := kbw0_4.ext hq29
  replace kbw0_5 := kbw0_5.ext hq29
  replace kx0_0 := kx0_0.ext hq29
  replace kx0_1 := kx0_1.ext hq29
  replace kx0_2 := kx0_2.ext hq29
  replace kx0_3 := kx0_3.ext hq29
  replace kx0_4 := kx0_4.ext hq29
  replace kx0_5 := kx0_5.ext hq29
  replace kbg0_0 := kbg0_0.ext hq29
  replace kbg0_1 := kbg0_1.ext hq29
  replace kbg0_2 := kbg0_2.ext hq29
  replace kbg0_3 := kbg0_3.ext hq29
  replace kbg0_4 := kbg0_4.ext hq29
  replace kbg0_5 := kbg0_5.ext hq29
  replace ta1 := ta1.below hq29
  replace ta0 := ta0.below hq29
  replace T4_0 := T4_0.below hq29
  replace T7_0 := T7_0.below hq29
  replace O7_0 := O7_0.below hq29
  have hy30 := Ext.trans hB14 hq29
  obtain ⟨e, he⟩ : ∃ e : ExtOf W15, W15 = e.to := ⟨⟨W15, Below.refl _ _⟩, rfl⟩
  rw [he]
  clear he
  go_wp2_with fail
  refine (markDeque_any r0 1 _ (T7_0.below e.h) (O7_0.below e.h) (by omega) (by omega)).mono ?_
  rintro _ W16 ⟨mg0, rfl, hmg0, M16, f16, V16⟩
  have pmg0 : 0 ≤ mg0 := by have := hmg0.out; omega
  have hsW16 := f16.size
  have hszW16 := e.h.size
  replace k0_0 := k0_0.onl e f16 (by omega) (fun hm => by have := lo7_0 _ hm; omega)
  replace k0_1 := k0_1.onl e f16 (by omega) (fun hm => by have := lo7_0 _ hm; omega)
  replace k0_2 := k0_2.onl e f16 (by omega) (fun hm => by have := lo7_0 _ hm; omega)
  replace k0_3 := k0_3.onl e f16 (by omega) (fun hm => by have := lo7_0 _ hm; omega)
  replace k0_4 := k0_4.onl e f16 (by omega) (fun hm => by have := lo7_0 _ hm; omega)
  replace k0_5 := k0_5.onl e f16 (by omega) (fun hm => by have := lo7_0 _ hm; omega)
  replace kbw0_0 := kbw0_0.onl e f16 (by omega) (fun hm => by have := lo7_0 _ hm; omega)
  replace kbw0_1 := kbw0_1.onl e f16 (by omega) (fun hm => by have := lo7_0 _ hm; omega)
  replace kbw0_2 := kbw0_2.onl e f16 (by omega) (fun hm => by have := lo7_0 _ hm; omega)
  replace kbw0_3 := kbw0_3.onl e f16 (by omega) (fun hm => by have := lo7_0 _ hm; omega)
  replace kbw0_4 := kbw0_4.onl e f16 (by omega) (fun hm => by have := lo7_0 _ hm; omega)
  replace kbw0_5 := kbw0_5.onl e f16 (by omega) (fun hm => by have := lo7_0 _ hm; omega)
  replace kx0_0 := kx0_0.onl e f16 (by omega) (fun hm => by have := lo7_0 _ hm; omega)
  replace kx0_1 := kx0_1.onl e f16 (by omega) (fun hm => by have := lo7_0 _ hm; omega)
  replace kx0_2 := kx0_2.onl e f16 (by omega) (fun hm => by have := lo7_0 _ hm; omega)
  replace kx0_3 := kx0_3.onl e f16 (by omega) (fun hm => by have := lo7_0 _ hm; omega)
  replace kx0_4 := kx0_4.onl e f16 (by omega) (fun hm => by have := lo7_0 _ hm; omega)
  replace kx0_5 := kx0_5.onl e f16 (by omega) (fun hm => by have := lo7_0 _ hm; omega)
  replace kbg0_0 := kbg0_0.onl e f16 (by omega) (fun hm => by have := lo7_0 _ hm; omega)
  replace kbg0_1 := kbg0_1.onl e f16 (by omega) (fun hm => by have := lo7_0 _ hm; omega)
  replace kbg0_2 := kbg0_2.onl e f16 (by omega) (fun hm => by have := lo7_0 _ hm; omega)
  replace kbg0_3 := kbg0_3.onl e f16 (by omega) (fun hm => by have := lo7_0 _ hm; omega)
  replace kbg0_4 := kbg0_4.onl e f16 (by omega) (fun hm => by have := lo7_0 _ hm; omega)
  replace kbg0_5 := kbg0_5.onl e f16 (by omega) (fun hm => by have := lo7_0 _ hm; omega)
  replace ta1 := T1.onl (ta1.below e.h) f16 (fun y hy hm => by have h1 := loa1 y hy; have h2 := lo7_0 y hm; omega)
  replace ta0 := TN.onl (ta0.below e.h) f16 (fun y hy hm => by have h1 := loa0 y hy; have h2 := lo7_0 y hm; omega)
  replace T4_0 := TN.onl (T4_0.below e.h) f16 (fun y hy hm => by have h1 := lo4_0 y hy; have h2 := lo7_0 y hm; omega)
  have hB16 : Ext w W16 := Below.trans (Ext.trans hy30 e.h) (Onl.below f16 (Ext.trans hy30 e.h).size (fun y hm => by have := lo7_0 y hm; have := (Ext.trans hy30 e.h).size; omega))
  obtain ⟨e, he⟩ : ∃ e : ExtOf W16, W16 = e.to := ⟨⟨W16, Below.refl _ _⟩, rfl⟩
  rw [he]
  clear he
  have bdmg0 : mg0 ≤ 108086391056891904 := by have := hmg0.out; omega
  have O7_0 := V16
  have CH0 : Hid (QC Try.prog W16 _ _ _) := fun W hW => heldDeque_any r0 1 mg0 W (TN.below M16 hW) (by omega) (by omega) hmg0
  go_wp2_with (first | (go_at_call 53; with_reducible refine (CH0.out.at_ _).mono ?_; rintro _ _ ⟨rfl, e, rfl⟩))
  clear CH0
  go_wp2_with fail
  refine (toDeque_any a0 _ (ta0.below e.h) SM0.out).mono ?_
  rintro _ W17 ⟨_, q17, rfl, z17, T17, O17⟩
  obtain ⟨_, _, _, _, _, _, _, _, _, _, _, _, rfl, -⟩ := GDeque.us T17
  have lo17 : ∀ b ∈ q17, e.to.heap.size ≤ b ∧ b < W17.heap.size := fun b hb => ⟨(O17.2 b hb).1, T17.lt b hb⟩
  have sz17 := e.h.size
  have sw17 := (Ext.trans hB16 e.h).size
  have hq31 := Ext.trans e.h z17
  have hs31 := hq31.size
  replace k0_0 := k0_0.ext hq31
  replace k0_1 := k0_1.ext hq31
  replace k0_2 := k0_2.ext hq31
  replace k0_3 := k0_3.ext hq31
  replace k0_4 := k0_4.ext hq31
  replace k0_5 := k0_5.ext hq31
  replace kbw0_0 := kbw0_0.ext hq31
  replace kbw0_1 := kbw0_1.ext hq31
  replace kbw0_2 := kbw0_2.ext hq31
  replace kbw0_3 := kbw0_3.ext hq31
  replace kbw0_4 := kbw0_4.ext hq31
  replace kbw0_5 := kbw0_5.ext hq31
  replace kx0_0 := kx0_0.ext hq31
  replace kx0_1 := kx0_1.ext hq31
  replace kx0_2 := kx0_2.ext hq31
  replace kx0_3 := kx0_3.ext hq31
  replace kx0_4 := kx0_4.ext hq31
  replace kx0_5 := kx0_5.ext hq31
  replace kbg0_0 := kbg0_0.ext hq31
  replace kbg0_1 := kbg0_1.ext hq31
  replace kbg0_2 := kbg0_2.ext hq31
  replace kbg0_3 := kbg0_3.ext hq31
  replace kbg0_4 := kbg0_4.ext hq31
  replace kbg0_5 := kbg0_5.ext hq31
  replace ta1 := ta1.below hq31
  replace ta0 := ta0.below hq31
  replace T4_0 := T4_0.below hq31
  replace M16 := M16.below hq31
  replace O7_0 := O7_0.below hq31
  have hy32 := Ext.trans hB16 hq31
  obtain ⟨e, he⟩ : ∃ e : ExtOf W17, W17 = e.to := ⟨⟨W17, Below.refl _ _⟩, rfl⟩
  rw [he]
  clear he
  go_wp2_with fail
  refine (toInt64S_any a1 _ (ta1.below e.h) hs1).mono ?_
  rintro _ W18 ⟨B18, D18, q18, rfl, z18, T18, O18⟩
  have lo18 : ∀ b ∈ q18, e.to.heap.size ≤ b ∧ b < W18.heap.size := fun b hb => ⟨(O18.2 b hb).1, T18.lt b hb⟩
  have sz18 := e.h.size
  have sw18 := (Ext.trans hy32 e.h).size
  have hq33 := Ext.trans e.h z18
  have hs33 := hq33.size
  replace k0_0 := k0_0.ext hq33
  replace k0_1 := k0_1.ext hq33
  replace k0_2 := k0_2.ext hq33
  replace k0_3 := k0_3.ext hq33
  replace k0_4 := k0_4.ext hq33
  replace k0_5 := k0_5.ext hq33
  replace kbw0_0 := kbw0_0.ext hq33
  replace kbw0_1 := kbw0_1.ext hq33
  replace kbw0_2 := kbw0_2.ext hq33
  replace kbw0_3 := kbw0_3.ext hq33
  replace kbw0_4 := kbw0_4.ext hq33
  replace kbw0_5 := kbw0_5.ext hq33
  replace kx0_0 := kx0_0.ext hq33
  replace kx0_1 := kx0_1.ext hq33
  replace kx0_2 := kx0_2.ext hq33
  replace kx0_3 := kx0_3.ext hq33
  replace kx0_4 := kx0_4.ext hq33
  replace kx0_5 := kx0_5.ext hq33
  replace kbg0_0 := kbg0_0.ext hq33
  replace kbg0_1 := kbg0_1.ext hq33
  replace kbg0_2 := kbg0_2.ext hq33
  replace kbg0_3 := kbg0_3.ext hq33
  replace kbg0_4 := kbg0_4.ext hq33
  replace kbg0_5 := kbg0_5.ext hq33
  replace ta1 := ta1.below hq33
  replace ta0 := ta0.below hq33
  replace T4_0 := T4_0.below hq33
  replace M16 := M16.below hq33
  replace T17 := T17.below hq33
  replace O7_0 := O7_0.below hq33
  replace O17 := O17.below hq33
  have hy34 := Ext.trans hy32 hq33
  obtain ⟨e, he⟩ : ∃ e : ExtOf W18, W18 = e.to := ⟨⟨W18, Below.refl _ _⟩, rfl⟩
  rw [he]
  clear he
  go_wp2_with fail
  refine (runDequeI_any a0 a1 r0 r1 r2 hR _ (T17.below e.h) (T18.below e.h)).mono ?_
  rintro _ W19 ⟨_, q19_0, rfl, z19, T19_0, O19⟩
  obtain ⟨_, _, _, _, _, _, _, _, _, _, _, _, rfl, -⟩ := GDeque.us T19_0
  have O19_0 := O19
  have lo19_0 : ∀ b ∈ q19_0, e.to.heap.size ≤ b ∧ b < W19.heap.size := fun b hb => ⟨(O19_0.2 b hb).1, T19_0.lt b hb⟩
  have sz19 := e.h.size
  have sw19 := (Ext.trans hy34 e.h).size
  have hq35 := Ext.trans e.h z19
  have hs35 := hq35.size
  replace k0_0 := k0_0.ext hq35
  replace k0_1 := k0_1.ext hq35
  replace k0_2 := k0_2.ext hq35
  replace k0_3 := k0_3.ext hq35
  replace k0_4 := k0_4.ext hq35
  replace k0_5 := k0_5.ext hq35
  replace kbw0_0 := kbw0_0.ext hq35
  replace kbw0_1 := kbw0_1.ext hq35
  replace kbw0_2 := kbw0_2.ext hq35
  replace kbw0_3 := kbw0_3.ext hq35
  replace kbw0_4 := kbw0_4.ext hq35
  replace kbw0_5 := kbw0_5.ext hq35
  replace kx0_0 := kx0_0.ext hq35
  replace kx0_1 := kx0_1.ext hq35
  replace kx0_2 := kx0_2.ext hq35
  replace kx0_3 := kx0_3.ext hq35
  replace kx0_4 := kx0_4.ext hq35
  replace kx0_5 := kx0_5.ext hq35
  replace kbg0_0 := kbg0_0.ext hq35
  replace kbg0_1 := kbg0_1.ext hq35
  replace kbg0_2 := kbg0_2.ext hq35
  replace kbg0_3 := kbg0_3.ext hq35
  replace kbg0_4 := kbg0_4.ext hq35
  replace kbg0_5 := kbg0_5.ext hq35
  replace ta1 := ta1.below hq35
  replace ta0 := ta0.below hq35
  replace T4_0 := T4_0.below hq35
  replace M16 := M16.below hq35
  replace T17 := T17.below hq35
  replace T18 := T18.below hq35
  replace O7_0 := O7_0.below hq35
  replace O17 := O17.below hq35
  replace O18 := O18.below hq35
  have hy36 := Ext.trans hy34 hq35
  obtain ⟨e, he⟩ : ∃ e : ExtOf W19, W19 = e.to := ⟨⟨W19, Below.refl _ _⟩, rfl⟩
  rw [he]
  clear he
  go_upto_region 31 with (fail)
  generalize hggbh0 : e.to.heap.size = gbh0
  refine rebase_box e hggbh0 (fun w37 e hx37 hgegbh0 hltgbh0 cgbh0 => ?_)
  clear hggbh0
  replace k0_0 := k0_0.ext hx37
  replace k0_1 := k0_1.ext hx37
  replace k0_2 := k0_2.ext hx37
  replace k0_3 := k0_3.ext hx37
  replace k0_4 := k0_4.ext hx37
  replace k0_5 := k0_5.ext hx37
  replace kbw0_0 := kbw0_0.ext hx37
  replace kbw0_1 := kbw0_1.ext hx37
  replace kbw0_2 := kbw0_2.ext hx37
  replace kbw0_3 := kbw0_3.ext hx37
  replace kbw0_4 := kbw0_4.ext hx37
  replace kbw0_5 := kbw0_5.ext hx37
  replace kx0_0 := kx0_0.ext hx37
  replace kx0_1 := kx0_1.ext hx37
  replace kx0_2 := kx0_2.ext hx37
  replace kx0_3 := kx0_3.ext hx37
  replace kx0_4 := kx0_4.ext hx37
  replace kx0_5 := kx0_5.ext hx37
  replace kbg0_0 := kbg0_0.ext hx37
  replace kbg0_1 := kbg0_1.ext hx37
  replace kbg0_2 := kbg0_2.ext hx37
  replace kbg0_3 := kbg0_3.ext hx37
  replace kbg0_4 := kbg0_4.ext hx37
  replace kbg0_5 := kbg0_5.ext hx37
  replace ta1 := ta1.below hx37
  replace ta0 := ta0.below hx37
  replace T4_0 := T4_0.below hx37
  replace M16 := M16.below hx37
  replace T19_0 := T19_0.below hx37
  replace O7_0 := O7_0.below hx37
  replace O19_0 := O19_0.below hx37
  have hy37 := Ext.trans hy36 hx37
  have hs_gbh0 := hx37.size
  have kbh0_0 := cgbh0.always hltgbh0 0 _ rfl
  have kbh0_1 := cgbh0.always hltgbh0 1 _ rfl
  have kbh0_2 := cgbh0.always hltgbh0 2 _ rfl
  have kbh0_3 := cgbh0.always hltgbh0 3 _ rfl
  have kbh0_4 := cgbh0.always hltgbh0 4 _ rfl
  have kbh0_5 := cgbh0.always hltgbh0 5 _ rfl
  simp only [Nat.zero_add] at kbh0_0 kbh0_1 kbh0_2 kbh0_3 kbh0_4 kbh0_5
  clear cgbh0
  go_wp2_with fail
  refine (eqDeque_any r0 r0 _ (T19_0.below e.h) (T4_0.below e.h)).mono ?_
  rintro _ W20 ⟨rfl, z20⟩
  have hq38 := Ext.trans e.h z20
  have hs38 := hq38.size
  replace k0_0 := k0_0.ext hq38
  replace k0_1 := k0_1.ext hq38
  replace k0_2 := k0_2.ext hq38
  replace k0_3 := k0_3.ext hq38
  replace k0_4 := k0_4.ext hq38
  replace k0_5 := k0_5.ext hq38
  replace kbw0_0 := kbw0_0.ext hq38
  replace kbw0_1 := kbw0_1.ext hq38
  replace kbw0_2 := kbw0_2.ext hq38
  replace kbw0_3 := kbw0_3.ext hq38
  replace kbw0_4 := kbw0_4.ext hq38
  replace kbw0_5 := kbw0_5.ext hq38
  replace kx0_0 := kx0_0.ext hq38
  replace kx0_1 := kx0_1.ext hq38
  replace kx0_2 := kx0_2.ext hq38
  replace kx0_3 := kx0_3.ext hq38
  replace kx0_4 := kx0_4.ext hq38
  replace kx0_5 := kx0_5.ext hq38
  replace kbg0_0 := kbg0_0.ext hq38
  replace kbg0_1 := kbg0_1.ext hq38
  replace kbg0_2 := kbg0_2.ext hq38
  replace kbg0_3 := kbg0_3.ext hq38
  replace kbg0_4 := kbg0_4.ext hq38
  replace kbg0_5 := kbg0_5.ext hq38
  replace kbh0_0 := kbh0_0.ext hq38
  replace kbh0_1 := kbh0_1.ext hq38
  replace kbh0_2 := kbh0_2.ext hq38
  replace kbh0_3 := kbh0_3.ext hq38
  replace kbh0_4 := kbh0_4.ext hq38
  replace kbh0_5 := kbh0_5.ext hq38
  replace ta1 := ta1.below hq38
  replace ta0 := ta0.below hq38
  replace T4_0 := T4_0.below hq38
  replace M16 := M16.below hq38
  replace T19_0 := T19_0.below hq38
  replace O7_0 := O7_0.below hq38
  replace O19_0 := O19_0.below hq38
  have hy39 := Ext.trans hy37 hq38
  obtain ⟨e, he⟩ : ∃ e : ExtOf W20, W20 = e.to := ⟨⟨W20, Below.refl _ _⟩, rfl⟩
  rw [he]
  clear he
  have CH0 : Hid (QC Try.prog W20 _ _ _) := fun W hW => heldDeque_any r0 1 mg0 W (TN.below M16 hW) (by omega) (by omega) hmg0
  go_wp2_with (first | (go_at_call 53; with_reducible refine (CH0.out.at_ _).mono ?_; rintro _ _ ⟨rfl, e, rfl⟩))
  clear CH0
  go_wp2_with fail
  go_ret
  exact ⟨rfl, ExtOf.old hy39 e⟩
end Go.Proofs.Ythelpioccjjgfaa
