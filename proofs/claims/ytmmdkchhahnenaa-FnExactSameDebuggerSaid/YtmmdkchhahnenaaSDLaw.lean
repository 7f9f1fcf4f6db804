/- The law of comparing debuggers, walked. Printed by gen_lsd.py. -/
import Derived.Test.YtmmdkchhahnenaaSame3
import Derived.Test.YtmmdkchhahnenaaGrow
import Derived.Test.YtmmdkchhahnenaaFDbg
import Derived.Test.YtmmdkchhahnenaaCDbg
import Derived.Test.YtmmdkchhahnenaaZDbg
import Derived.BigGuardPart
import Derived.Outline
import Derived.Deep.CutBlock
namespace Go.Proofs.Ytmmdkchhahnenaa
open Go Go.RowKit Go.Proofs Go.Tr
set_option maxRecDepth 100000 in
set_option maxHeartbeats 8000000 in
theorem lawSameDebugger (x y : GDebugger) {b1 b2 us vs} (w : World) (hx : TN w x.enc b1 us) (hy : TN w y.enc b2 vs) : Calls Try.prog 5 #[.agg us.toArray, .agg vs.toArray] w fun e w' => e = .returned (.bool (true)) ∧ Ext w w' := by
  refine quiet_start fun e => ?_
  obtain ⟨P0A, P0c, P0b, P1A, P1c, P1b, P4A, P4c, P4b, P5A, P5c, P5b, P6A, P6c, P6b, P7A, P7c, P7b, rfl, _⟩ := GDebugger.us (x := x) hx
  obtain ⟨Q0A, Q0c, Q0b, Q1A, Q1c, Q1b, Q4A, Q4c, Q4b, Q5A, Q5c, Q5b, Q6A, Q6c, Q6b, Q7A, Q7c, Q7b, rfl, _⟩ := GDebugger.us (x := y) hy
  go_enter Try.func5, Try.ntmps5
  go_upto_region 1 with (fail)
  generalize hg2 : e.to.heap.size + 1 = g2
  generalize hg1 : e.to.heap.size = g1
  refine rebase_box2 e hg1 hg2 (fun w1 e hx1 hlt1 hlt2 c1 c2 => ?_)
  clear hg1 hg2
  have p1 := PtAt.box hlt1 c1 (TN.below hx hx1)
  have p2 := PtAt.box hlt2 c2 (TN.below hy hx1)
  clear c1 c2 hx hy
  obtain ⟨A0, c0, a0, A1, c1, a1, A4, c4, a4, A5, c5, a5, A6, c6, a6, A7, c7, a7, x0, x1, x2, x3, x4, x5, x6, x7, tx0, tx1, tx4, tx5, tx6, tx7⟩ := GDebugger.pt0 p1
  obtain ⟨B0, d0, z0, B1, d1, z1, B4, d4, z4, B5, d5, z5, B6, d6, z6, B7, d7, z7, y0, y1, y2, y3, y4, y5, y6, y7, ty0, ty1, ty4, ty5, ty6, ty7⟩ := GDebugger.pt0 p2
  clear p1 p2
  go_wp2_with fail
  refine (szDebugger_any x 1048576 _ (GDebugger.mk_ (tx0.below e.h) (tx1.below e.h) (tx4.below e.h) (tx5.below e.h) (tx6.below e.h) (tx7.below e.h)) tx0.nle tx1.nle tx4.nle tx5.nle tx6.nle tx7.nle (by omega) (by omega)).mono ?_
  rintro _ w2 ⟨hb, rx, rfl, hr⟩
  obtain ⟨e, rfl⟩ : ∃ e' : ExtOf w1, w2 = e'.to := ⟨⟨w2, Ext.trans e.h hb⟩, rfl⟩
  clear hb
  rcases hr with rfl | ⟨hr0x, hr1x, hsx⟩
  case inl =>
    go_wp2_with fail
    go_ret
    exact ⟨rfl, ExtOf.old hx1 _⟩
  have hr2x : rx ≤ 1048576 := by omega
  clear hr1x
  go_wp2_with fail
  refine (szDebugger_any y rx _ (GDebugger.mk_ (ty0.below e.h) (ty1.below e.h) (ty4.below e.h) (ty5.below e.h) (ty6.below e.h) (ty7.below e.h)) ty0.nle ty1.nle ty4.nle ty5.nle ty6.nle ty7.nle (by omega) (by omega)).mono ?_
  rintro _ w2 ⟨hb, ry, rfl, hr⟩
  obtain ⟨e, rfl⟩ : ∃ e' : ExtOf w1, w2 = e'.to := ⟨⟨w2, Ext.trans e.h hb⟩, rfl⟩
  clear hb
  rcases hr with rfl | ⟨hr0y, hr1y, hsy⟩
  case inl =>
    go_wp2_with fail
    go_ret
    exact ⟨rfl, ExtOf.old hx1 _⟩
  have hr2y : ry ≤ 1048576 := by omega
  clear hr1y
  go_wp2_with fail
  refine wp_region_grow _ (by kernel_rfl) 6 (by kernel_rfl) ?_
  refine grow_take 0 rfl (by kernel_rfl) ?_; go_big_quiet_step (fail); refine wpQuiet_nil ?_
  refine grow_take 2 rfl (by kernel_rfl) ?_; go_big_quiet_step (fail); refine wpQuiet_nil ?_
  refine grow_only 1 rfl (by kernel_rfl) (fun e => ?_)
  go_wp2_with fail
  refine (toDebugger_any x _ (GDebugger.mk_ (tx0.below e.h) (tx1.below e.h) (tx4.below e.h) (tx5.below e.h) (tx6.below e.h) (tx7.below e.h)) hsx).mono ?_
  rintro _ v2 ⟨_, bp, rfl, hz2, tp, _⟩
  obtain ⟨Up0A, Up0c, Up0b, Up1A, Up1c, Up1b, Up4A, Up4c, Up4b, Up5A, Up5c, Up5b, Up6A, Up6c, Up6b, Up7A, Up7c, Up7b, rfl, _⟩ := GDebugger.us tp
  go_wp2_with fail
  refine And.intro hz2 ?_
  have hq2 := Ext.trans e.h hz2
  replace x0 := x0.ext hq2
  replace x1 := x1.ext hq2
  replace x2 := x2.ext hq2
  replace x3 := x3.ext hq2
  replace x4 := x4.ext hq2
  replace x5 := x5.ext hq2
  replace x6 := x6.ext hq2
  replace x7 := x7.ext hq2
  replace y0 := y0.ext hq2
  replace y1 := y1.ext hq2
  replace y2 := y2.ext hq2
  replace y3 := y3.ext hq2
  replace y4 := y4.ext hq2
  replace y5 := y5.ext hq2
  replace y6 := y6.ext hq2
  replace y7 := y7.ext hq2
  replace tx0 := tx0.below hq2
  replace tx1 := tx1.below hq2
  replace tx4 := tx4.below hq2
  replace tx5 := tx5.below hq2
  replace tx6 := tx6.below hq2
  replace tx7 := tx7.below hq2
  replace ty0 := ty0.below hq2
  replace ty1 := ty1.below hq2
  replace ty4 := ty4.below hq2
  replace ty5 := ty5.below hq2
  replace ty6 := ty6.below hq2
  replace ty7 := ty7.below hq2
  have hy3 := Ext.trans hx1 hq2
  refine grow_only 3 rfl (by kernel_rfl) (fun e => ?_)
  go_wp2_with fail
  refine (toDebugger_any y _ (GDebugger.mk_ (ty0.below e.h) (ty1.below e.h) (ty4.below e.h) (ty5.below e.h) (ty6.below e.h) (ty7.below e.h)) hsy).mono ?_
  rintro _ v4 ⟨_, bq, rfl, hz4, tq, _⟩
  obtain ⟨Uq0A, Uq0c, Uq0b, Uq1A, Uq1c, Uq1b, Uq4A, Uq4c, Uq4b, Uq5A, Uq5c, Uq5b, Uq6A, Uq6c, Uq6b, Uq7A, Uq7c, Uq7b, rfl, _⟩ := GDebugger.us tq
  go_wp2_with fail
  refine And.intro hz4 ?_
  have hq4 := Ext.trans e.h hz4
  replace x0 := x0.ext hq4
  replace x1 := x1.ext hq4
  replace x2 := x2.ext hq4
  replace x3 := x3.ext hq4
  replace x4 := x4.ext hq4
  replace x5 := x5.ext hq4
  replace x6 := x6.ext hq4
  replace x7 := x7.ext hq4
  replace y0 := y0.ext hq4
  replace y1 := y1.ext hq4
  replace y2 := y2.ext hq4
  replace y3 := y3.ext hq4
  replace y4 := y4.ext hq4
  replace y5 := y5.ext hq4
  replace y6 := y6.ext hq4
  replace y7 := y7.ext hq4
  replace tx0 := tx0.below hq4
  replace tx1 := tx1.below hq4
  replace tx4 := tx4.below hq4
  replace tx5 := tx5.below hq4
  replace tx6 := tx6.below hq4
  replace tx7 := tx7.below hq4
  replace ty0 := ty0.below hq4
  replace ty1 := ty1.below hq4
  replace ty4 := ty4.below hq4
  replace ty5 := ty5.below hq4
  replace ty6 := ty6.below hq4
  replace ty7 := ty7.below hq4
  replace tp := tp.below hq4
  have hy5 := Ext.trans hy3 hq4
  refine grow_only 4 rfl (by kernel_rfl) (fun e => ?_)
  go_wp2_with fail
  refine (specSameDebugger_any x y _ (tp.below e.h) (tq.below e.h)).mono ?_
  rintro _ v6 ⟨rfl, hz6⟩
  go_wp2_with fail
  refine And.intro hz6 ?_
  have hq6 := Ext.trans e.h hz6
  replace x0 := x0.ext hq6
  replace x1 := x1.ext hq6
  replace x2 := x2.ext hq6
  replace x3 := x3.ext hq6
  replace x4 := x4.ext hq6
  replace x5 := x5.ext hq6
  replace x6 := x6.ext hq6
  replace x7 := x7.ext hq6
  replace y0 := y0.ext hq6
  replace y1 := y1.ext hq6
  replace y2 := y2.ext hq6
  replace y3 := y3.ext hq6
  replace y4 := y4.ext hq6
  replace y5 := y5.ext hq6
  replace y6 := y6.ext hq6
  replace y7 := y7.ext hq6
  replace tx0 := tx0.below hq6
  replace tx1 := tx1.below hq6
  replace tx4 := tx4.below hq6
  replace tx5 := tx5.below hq6
  replace tx6 := tx6.below hq6
  replace tx7 := tx7.below hq6
  replace ty0 := ty0.below hq6
  replace ty1 := ty1.below hq6
  replace ty4 := ty4.below hq6
  replace ty5 := ty5.below hq6
  replace ty6 := ty6.below hq6
  replace ty7 := ty7.below hq6
  replace tp := tp.below hq6
  replace tq := tq.below hq6
  have hy7 := Ext.trans hy5 hq6
  refine grow_take 5 rfl (by kernel_rfl) ?_; go_big_quiet_step (fail); refine wpQuiet_nil ?_
  refine grow_done (by kernel_rfl) (fun e => ?_)
  clear tp tq
  go_wp2_with fail
  refine (toDebugger_any x _ (GDebugger.mk_ (tx0.below e.h) (tx1.below e.h) (tx4.below e.h) (tx5.below e.h) (tx6.below e.h) (tx7.below e.h)) hsx).mono ?_
  rintro _ w8 ⟨_, bu, rfl, hb, tu, _⟩
  obtain ⟨uA0, uc0, _, uA1, uc1, _, uA4, uc4, _, uA5, uc5, _, uA6, uc6, _, uA7, uc7, _, rfl, _⟩ := GDebugger.us tu
  have hq8 := Ext.trans e.h hb
  clear hb
  replace x0 := x0.ext hq8
  replace x1 := x1.ext hq8
  replace x2 := x2.ext hq8
  replace x3 := x3.ext hq8
  replace x4 := x4.ext hq8
  replace x5 := x5.ext hq8
  replace x6 := x6.ext hq8
  replace x7 := x7.ext hq8
  replace y0 := y0.ext hq8
  replace y1 := y1.ext hq8
  replace y2 := y2.ext hq8
  replace y3 := y3.ext hq8
  replace y4 := y4.ext hq8
  replace y5 := y5.ext hq8
  replace y6 := y6.ext hq8
  replace y7 := y7.ext hq8
  replace tx0 := tx0.below hq8
  replace tx1 := tx1.below hq8
  replace tx4 := tx4.below hq8
  replace tx5 := tx5.below hq8
  replace tx6 := tx6.below hq8
  replace tx7 := tx7.below hq8
  replace ty0 := ty0.below hq8
  replace ty1 := ty1.below hq8
  replace ty4 := ty4.below hq8
  replace ty5 := ty5.below hq8
  replace ty6 := ty6.below hq8
  replace ty7 := ty7.below hq8
  have hy9 := Ext.trans hy7 hq8
  obtain ⟨e, he⟩ : ∃ e : ExtOf w8, w8 = e.to := ⟨⟨w8, Below.refl _ _⟩, rfl⟩
  go_upto_region 10 with (fail)
  clear he
  generalize hgg3 : e.to.heap.size = g3
  refine rebase_box e hgg3 (fun w10 e hx10 hgeg3 hltg3 cg3 => ?_)
  clear hgg3
  replace x0 := x0.ext hx10
  replace x1 := x1.ext hx10
  replace x2 := x2.ext hx10
  replace x3 := x3.ext hx10
  replace x4 := x4.ext hx10
  replace x5 := x5.ext hx10
  replace x6 := x6.ext hx10
  replace x7 := x7.ext hx10
  replace y0 := y0.ext hx10
  replace y1 := y1.ext hx10
  replace y2 := y2.ext hx10
  replace y3 := y3.ext hx10
  replace y4 := y4.ext hx10
  replace y5 := y5.ext hx10
  replace y6 := y6.ext hx10
  replace y7 := y7.ext hx10
  replace tx0 := tx0.below hx10
  replace tx1 := tx1.below hx10
  replace tx4 := tx4.below hx10
  replace tx5 := tx5.below hx10
  replace tx6 := tx6.below hx10
  replace tx7 := tx7.below hx10
  replace ty0 := ty0.below hx10
  replace ty1 := ty1.below hx10
  replace ty4 := ty4.below hx10
  replace ty5 := ty5.below hx10
  replace ty6 := ty6.below hx10
  replace ty7 := ty7.below hx10
  replace tu := tu.below hx10
  have hy10 := Ext.trans hy9 hx10
  have u0 := cg3.always hltg3 0 _ rfl
  have u1 := cg3.always hltg3 1 _ rfl
  have u2 := cg3.always hltg3 2 _ rfl
  have u3 := cg3.always hltg3 3 _ rfl
  have u4 := cg3.always hltg3 4 _ rfl
  have u5 := cg3.always hltg3 5 _ rfl
  have u6 := cg3.always hltg3 6 _ rfl
  have u7 := cg3.always hltg3 7 _ rfl
  simp only [Nat.zero_add] at u0 u1 u2 u3 u4 u5 u6 u7
  clear cg3
  go_wp2_with fail
  refine (toDebugger_any y _ (GDebugger.mk_ (ty0.below e.h) (ty1.below e.h) (ty4.below e.h) (ty5.below e.h) (ty6.below e.h) (ty7.below e.h)) hsy).mono ?_
  rintro _ w11 ⟨_, bv, rfl, hb, tv, _⟩
  obtain ⟨vA0, vc0, _, vA1, vc1, _, vA4, vc4, _, vA5, vc5, _, vA6, vc6, _, vA7, vc7, _, rfl, _⟩ := GDebugger.us tv
  have hq11 := Ext.trans e.h hb
  clear hb
  replace x0 := x0.ext hq11
  replace x1 := x1.ext hq11
  replace x2 := x2.ext hq11
  replace x3 := x3.ext hq11
  replace x4 := x4.ext hq11
  replace x5 := x5.ext hq11
  replace x6 := x6.ext hq11
  replace x7 := x7.ext hq11
  replace y0 := y0.ext hq11
  replace y1 := y1.ext hq11
  replace y2 := y2.ext hq11
  replace y3 := y3.ext hq11
  replace y4 := y4.ext hq11
  replace y5 := y5.ext hq11
  replace y6 := y6.ext hq11
  replace y7 := y7.ext hq11
  replace tx0 := tx0.below hq11
  replace tx1 := tx1.below hq11
  replace tx4 := tx4.below hq11
  replace tx5 := tx5.below hq11
  replace tx6 := tx6.below hq11
  replace tx7 := tx7.below hq11
  replace ty0 := ty0.below hq11
  replace ty1 := ty1.below hq11
  replace ty4 := ty4.below hq11
  replace ty5 := ty5.below hq11
  replace ty6 := ty6.below hq11
  replace ty7 := ty7.below hq11
  replace tu := tu.below hq11
  replace u0 := u0.ext hq11
  replace u1 := u1.ext hq11
  replace u2 := u2.ext hq11
  replace u3 := u3.ext hq11
  replace u4 := u4.ext hq11
  replace u5 := u5.ext hq11
  replace u6 := u6.ext hq11
  replace u7 := u7.ext hq11
  have hy12 := Ext.trans hy10 hq11
  obtain ⟨e, he⟩ : ∃ e : ExtOf w11, w11 = e.to := ⟨⟨w11, Below.refl _ _⟩, rfl⟩
  go_upto_region 11 with (fail)
  clear he
  generalize hgg4 : e.to.heap.size = g4
  refine rebase_box e hgg4 (fun w13 e hx13 hgeg4 hltg4 cg4 => ?_)
  clear hgg4
  replace x0 := x0.ext hx13
  replace x1 := x1.ext hx13
  replace x2 := x2.ext hx13
  replace x3 := x3.ext hx13
  replace x4 := x4.ext hx13
  replace x5 := x5.ext hx13
  replace x6 := x6.ext hx13
  replace x7 := x7.ext hx13
  replace y0 := y0.ext hx13
  replace y1 := y1.ext hx13
  replace y2 := y2.ext hx13
  replace y3 := y3.ext hx13
  replace y4 := y4.ext hx13
  replace y5 := y5.ext hx13
  replace y6 := y6.ext hx13
  replace y7 := y7.ext hx13
  replace tx0 := tx0.below hx13
  replace tx1 := tx1.below hx13
  replace tx4 := tx4.below hx13
  replace tx5 := tx5.below hx13
  replace tx6 := tx6.below hx13
  replace tx7 := tx7.below hx13
  replace ty0 := ty0.below hx13
  replace ty1 := ty1.below hx13
  replace ty4 := ty4.below hx13
  replace ty5 := ty5.below hx13
  replace ty6 := ty6.below hx13
  replace ty7 := ty7.below hx13
  replace tu := tu.below hx13
  replace u0 := u0.ext hx13
  replace u1 := u1.ext hx13
  replace u2 := u2.ext hx13
  replace u3 := u3.ext hx13
  replace u4 := u4.ext hx13
  replace u5 := u5.ext hx13
  replace u6 := u6.ext hx13
  replace u7 := u7.ext hx13
  replace tv := tv.below hx13
  have hy13 := Ext.trans hy12 hx13
  have v0 := cg4.always hltg4 0 _ rfl
  have v1 := cg4.always hltg4 1 _ rfl
  have v2 := cg4.always hltg4 2 _ rfl
  have v3 := cg4.always hltg4 3 _ rfl
  have v4 := cg4.always hltg4 4 _ rfl
  have v5 := cg4.always hltg4 5 _ rfl
  have v6 := cg4.always hltg4 6 _ rfl
  have v7 := cg4.always hltg4 7 _ rfl
  simp only [Nat.zero_add] at v0 v1 v2 v3 v4 v5 v6 v7
  clear cg4
  have C1 : Hid (QC Try.prog w13 _ _ _) := fun W hW => implSameDebugger_any x y W (tu.below hW) (tv.below hW)
  have hxx : eqb x x = true := eqb_self x
  have hyy : eqb y y = true := eqb_self y
  have hbb : (eqb x y != eqb x y) = false := by simp
  go_wp2_with (first | (go_at_call 23; with_reducible refine (C1.out.at_ _).mono ?_; rintro _ _ ⟨rfl, e, rfl⟩))
  clear C1
  refine wp_region_grow _ (by kernel_rfl) 5 (by kernel_rfl) ?_
  refine grow_take 0 rfl (by kernel_rfl) ?_; go_big_quiet_step (fail); refine wpQuiet_nil ?_
  refine grow_take 1 rfl (by kernel_rfl) ?_; go_big_quiet_step (fail); refine wpQuiet_nil ?_
  refine grow_only 2 rfl (by kernel_rfl) (fun e => ?_)
  go_wp2_with fail
  refine (toDebugger_any x _ (GDebugger.mk_ (tx0.below e.h) (tx1.below e.h) (tx4.below e.h) (tx5.below e.h) (tx6.below e.h) (tx7.below e.h)) hsx).mono ?_
  rintro _ v14 ⟨_, bp, rfl, hz14, tp, _⟩
  obtain ⟨Up0A, Up0c, Up0b, Up1A, Up1c, Up1b, Up4A, Up4c, Up4b, Up5A, Up5c, Up5b, Up6A, Up6c, Up6b, Up7A, Up7c, Up7b, rfl, _⟩ := GDebugger.us tp
  go_wp2_with fail
  refine And.intro hz14 ?_
  have hq14 := Ext.trans e.h hz14
  replace x0 := x0.ext hq14
  replace x1 := x1.ext hq14
  replace x2 := x2.ext hq14
  replace x3 := x3.ext hq14
  replace x4 := x4.ext hq14
  replace x5 := x5.ext hq14
  replace x6 := x6.ext hq14
  replace x7 := x7.ext hq14
  replace y0 := y0.ext hq14
  replace y1 := y1.ext hq14
  replace y2 := y2.ext hq14
  replace y3 := y3.ext hq14
  replace y4 := y4.ext hq14
  replace y5 := y5.ext hq14
  replace y6 := y6.ext hq14
  replace y7 := y7.ext hq14
  replace tx0 := tx0.below hq14
  replace tx1 := tx1.below hq14
  replace tx4 := tx4.below hq14
  replace tx5 := tx5.below hq14
  replace tx6 := tx6.below hq14
  replace tx7 := tx7.below hq14
  replace ty0 := ty0.below hq14
  replace ty1 := ty1.below hq14
  replace ty4 := ty4.below hq14
  replace ty5 := ty5.below hq14
  replace ty6 := ty6.below hq14
  replace ty7 := ty7.below hq14
  replace tu := tu.below hq14
  replace u0 := u0.ext hq14
  replace u1 := u1.ext hq14
  replace u2 := u2.ext hq14
  replace u3 := u3.ext hq14
  replace u4 := u4.ext hq14
  replace u5 := u5.ext hq14
  replace u6 := u6.ext hq14
  replace u7 := u7.ext hq14
  replace tv := tv.below hq14
  replace v0 := v0.ext hq14
  replace v1 := v1.ext hq14
  replace v2 := v2.ext hq14
  replace v3 := v3.ext hq14
  replace v4 := v4.ext hq14
  replace v5 := v5.ext hq14
  replace v6 := v6.ext hq14
  replace v7 := v7.ext hq14
  have hy15 := Ext.trans hy13 hq14
  refine grow_only 3 rfl (by kernel_rfl) (fun e => ?_)
  go_wp2_with fail
  refine (eqDebugger_any x x _ (tu.below e.h) (tp.below e.h)).mono ?_
  rintro _ v16 ⟨rfl, hz16⟩
  go_wp2_with fail
  refine And.intro hz16 ?_
  have hq16 := Ext.trans e.h hz16
  replace x0 := x0.ext hq16
  replace x1 := x1.ext hq16
  replace x2 := x2.ext hq16
  replace x3 := x3.ext hq16
  replace x4 := x4.ext hq16
  replace x5 := x5.ext hq16
  replace x6 := x6.ext hq16
  replace x7 := x7.ext hq16
  replace y0 := y0.ext hq16
  replace y1 := y1.ext hq16
  replace y2 := y2.ext hq16
  replace y3 := y3.ext hq16
  replace y4 := y4.ext hq16
  replace y5 := y5.ext hq16
  replace y6 := y6.ext hq16
  replace y7 := y7.ext hq16
  replace tx0 := tx0.below hq16
  replace tx1 := tx1.below hq16
  replace tx4 := tx4.below hq16
  replace tx5 := tx5.below hq16
  replace tx6 := tx6.below hq16
  replace tx7 := tx7.below hq16
  replace ty0 := ty0.below hq16
  replace ty1 := ty1.below hq16
  replace ty4 := ty4.below hq16
  replace ty5 := ty5.below hq16
  replace ty6 := ty6.below hq16
  replace ty7 := ty7.below hq16
  replace tu := tu.below hq16
  replace u0 := u0.ext hq16
  replace u1 := u1.ext hq16
  replace u2 := u2.ext hq16
  replace u3 := u3.ext hq16
  replace u4 := u4.ext hq16
  replace u5 := u5.ext hq16
  replace u6 := u6.ext hq16
  replace u7 := u7.ext hq16
  replace tv := tv.below hq16
  replace v0 := v0.ext hq16
  replace v1 := v1.ext hq16
  replace v2 := v2.ext hq16
  replace v3 := v3.ext hq16
  replace v4 := v4.ext hq16
  replace v5 := v5.ext hq16
  replace v6 := v6.ext hq16
  replace v7 := v7.ext hq16
  replace tp := tp.below hq16
  have hy17 := Ext.trans hy15 hq16
  refine grow_take 4 rfl (by kernel_rfl) ?_; go_big_quiet_step (fail); refine wpQuiet_nil ?_
  refine grow_done (by kernel_rfl) (fun e => ?_)
  go_wp2_with fail
  refine wp_region_grow _ (by kernel_rfl) 5 (by kernel_rfl) ?_
  refine grow_take 0 rfl (by kernel_rfl) ?_; go_big_quiet_step (fail); refine wpQuiet_nil ?_
  refine grow_take 1 rfl (by kernel_rfl) ?_; go_big_quiet_step (fail); refine wpQuiet_nil ?_
  refine grow_only 2 rfl (by kernel_rfl) (fun e => ?_)
  go_wp2_with fail
  refine (toDebugger_any y _ (GDebugger.mk_ (ty0.below e.h) (ty1.below e.h) (ty4.below e.h) (ty5.below e.h) (ty6.below e.h) (ty7.below e.h)) hsy).mono ?_
  rintro _ v18 ⟨_, bq, rfl, hz18, tq, _⟩
  obtain ⟨Uq0A, Uq0c, Uq0b, Uq1A, Uq1c, Uq1b, Uq4A, Uq4c, Uq4b, Uq5A, Uq5c, Uq5b, Uq6A, Uq6c, Uq6b, Uq7A, Uq7c, Uq7b, rfl, _⟩ := GDebugger.us tq
  go_wp2_with fail
  refine And.intro hz18 ?_
  have hq18 := Ext.trans e.h hz18
  replace x0 := x0.ext hq18
  replace x1 := x1.ext hq18
  replace x2 := x2.ext hq18
  replace x3 := x3.ext hq18
  replace x4 := x4.ext hq18
  replace x5 := x5.ext hq18
  replace x6 := x6.ext hq18
  replace x7 := x7.ext hq18
  replace y0 := y0.ext hq18
  replace y1 := y1.ext hq18
  replace y2 := y2.ext hq18
  replace y3 := y3.ext hq18
  replace y4 := y4.ext hq18
  replace y5 := y5.ext hq18
  replace y6 := y6.ext hq18
  replace y7 := y7.ext hq18
  replace tx0 := tx0.below hq18
  replace tx1 := tx1.below hq18
  replace tx4 := tx4.below hq18
  replace tx5 := tx5.below hq18
  replace tx6 := tx6.below hq18
  replace tx7 := tx7.below hq18
  replace ty0 := ty0.below hq18
  replace ty1 := ty1.below hq18
  replace ty4 := ty4.below hq18
  replace ty5 := ty5.below hq18
  replace ty6 := ty6.below hq18
  replace ty7 := ty7.below hq18
  replace tu := tu.below hq18
  replace u0 := u0.ext hq18
  replace u1 := u1.ext hq18
  replace u2 := u2.ext hq18
  replace u3 := u3.ext hq18
  replace u4 := u4.ext hq18
  replace u5 := u5.ext hq18
  replace u6 := u6.ext hq18
  replace u7 := u7.ext hq18
  replace tv := tv.below hq18
  replace v0 := v0.ext hq18
  replace v1 := v1.ext hq18
  replace v2 := v2.ext hq18
  replace v3 := v3.ext hq18
  replace v4 := v4.ext hq18
  replace v5 := v5.ext hq18
  replace v6 := v6.ext hq18
  replace v7 := v7.ext hq18
  have hy19 := Ext.trans hy17 hq18
  refine grow_only 3 rfl (by kernel_rfl) (fun e => ?_)
  go_wp2_with fail
  refine (eqDebugger_any y y _ (tv.below e.h) (tq.below e.h)).mono ?_
  rintro _ v20 ⟨rfl, hz20⟩
  go_wp2_with fail
  refine And.intro hz20 ?_
  have hq20 := Ext.trans e.h hz20
  replace x0 := x0.ext hq20
  replace x1 := x1.ext hq20
  replace x2 := x2.ext hq20
  replace x3 := x3.ext hq20
  replace x4 := x4.ext hq20
  replace x5 := x5.ext hq20
  replace x6 := x6.ext hq20
  replace x7 := x7.ext hq20
  replace y0 := y0.ext hq20
  replace y1 := y1.ext hq20
  replace y2 := y2.ext hq20
  replace y3 := y3.ext hq20
  replace y4 := y4.ext hq20
  replace y5 := y5.ext hq20
  replace y6 := y6.ext hq20
  replace y7 := y7.ext hq20
  replace tx0 := tx0.below hq20
  replace tx1 := tx1.below hq20
  replace tx4 := tx4.below hq20
  replace tx5 := tx5.below hq20
  replace tx6 := tx6.below hq20
  replace tx7 := tx7.below hq20
  replace ty0 := ty0.below hq20
  replace ty1 := ty1.below hq20
  replace ty4 := ty4.below hq20
  replace ty5 := ty5.below hq20
  replace ty6 := ty6.below hq20
  replace ty7 := ty7.below hq20
  replace tu := tu.below hq20
  replace u0 := u0.ext hq20
  replace u1 := u1.ext hq20
  replace u2 := u2.ext hq20
  replace u3 := u3.ext hq20
  replace u4 := u4.ext hq20
  replace u5 := u5.ext hq20
  replace u6 := u6.ext hq20
  replace u7 := u7.ext hq20
  replace tv := tv.below hq20
  replace v0 := v0.ext hq20
  replace v1 := v1.ext hq20
  replace v2 := v2.ext hq20
  replace v3 := v3.ext hq20
  replace v4 := v4.ext hq20
  replace v5 := v5.ext hq20
  replace v6 := v6.ext hq20
  replace v7 := v7.ext hq20
  replace tq := tq.below hq20
  have hy21 := Ext.trans hy19 hq20
  refine grow_take 4 rfl (by kernel_rfl) ?_; go_big_quiet_step (fail); refine wpQuiet_nil ?_
  refine grow_done (by kernel_rfl) (fun e => ?_)
  go_wp2_with fail
  go_ret
  exact ⟨rfl, ExtOf.old hy21 e⟩
end Go.Proofs.Ytmmdkchhahnenaa
