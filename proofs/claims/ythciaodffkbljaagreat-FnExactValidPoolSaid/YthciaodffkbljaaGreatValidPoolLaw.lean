/- A law of one argument, walked. Printed by gen_lv1.py. -/
import Derived.Test.YthciaodffkbljaaGreatPoolB
import Derived.Test.YthciaodffkbljaaGreatGrow
import Derived.Test.YthciaodffkbljaaGreatPPool
import Derived.Test.YthciaodffkbljaaGreatFPool
import Derived.Test.YthciaodffkbljaaGreatCPool
import Derived.Test.YthciaodffkbljaaGreatZPool
import Derived.BigGuardPart
import Derived.Outline
import Derived.Deep.CutBlock
set_option linter.unusedSimpArgs false
set_option linter.unusedVariables false
namespace Go.Proofs.YthciaodffkbljaaGreat
open Go Go.RowKit Go.Proofs Go.Tr
set_option maxRecDepth 100000 in
set_option maxHeartbeats 8000000 in
theorem lawValidPool (x : GPool) {b1 us} (w : World) (hx : TN w x.enc b1 us) : Calls Tryz.prog 3 #[.agg us.toArray] w fun e w' => e = .returned (.bool (true)) ∧ Ext w w' := by
  refine quiet_start fun e => ?_
  obtain ⟨P0A, P0c, P0b, P4A, P4c, P4b, P5A, P5c, P5b, rfl, _⟩ := GPool.us (x := x) hx
  go_enter Tryz.func3, Tryz.ntmps3
  go_upto_region 1 with (fail)
  generalize hgg : e.to.heap.size = g
  refine rebase_box e hgg (fun w1 e hx1 hgeg hltg cg => ?_)
  clear hgg
  replace hx := hx.below hx1
  have p1 := PtAt.box hltg cg hx
  clear cg hx
  obtain ⟨A0, c0, a0, A4, c4, a4, A5, c5, a5, x0, x1, x2, x3, x4, x5, x6, tx0, tx4, tx5⟩ := GPool.pt0 p1
  clear p1
  go_wp2_with fail
  refine (szPool_any x 1048576 _ (GPool.mk_ (tx0.below e.h) (tx4.below e.h) (tx5.below e.h)) tx0.nle tx4.nle tx5.nle (by omega) (by omega)).mono ?_
  rintro _ w2 ⟨hb, rx, rfl, hr⟩
  obtain ⟨e, rfl⟩ : ∃ e' : ExtOf w1, w2 = e'.to := ⟨⟨w2, Ext.trans e.h hb⟩, rfl⟩
  clear hb
  rcases hr with rfl | ⟨hr0x, hr1x, hsx⟩
  case inl =>
    go_wp2_with fail
    go_ret
    exact ⟨rfl, ExtOf.old hx1 _⟩
  have hr2x : rx ≤ 1048576 := by omega
  clear hr1x
  go_wp2_with fail
  refine (toPool_any x _ (GPool.mk_ (tx0.below e.h) (tx4.below e.h) (tx5.below e.h)) hsx).mono ?_
  rintro _ v2 ⟨_, bp, rfl, hz2, tp, _⟩
  obtain ⟨Up0A, Up0c, Up0b, Up4A, Up4c, Up4b, Up5A, Up5c, Up5b, rfl, _⟩ := GPool.us tp
  have hq2 := Ext.trans e.h hz2
  clear hz2
  replace x0 := x0.ext hq2
  replace x1 := x1.ext hq2
  replace x2 := x2.ext hq2
  replace x3 := x3.ext hq2
  replace x4 := x4.ext hq2
  replace x5 := x5.ext hq2
  replace x6 := x6.ext hq2
  replace tx0 := tx0.below hq2
  replace tx4 := tx4.below hq2
  replace tx5 := tx5.below hq2
  have hy3 := Ext.trans hx1 hq2
  obtain ⟨e, he⟩ : ∃ e : ExtOf v2, v2 = e.to := ⟨⟨v2, Below.refl _ _⟩, rfl⟩
  have C1 : Hid (QC Tryz.prog v2 _ _ _) := fun W hW => specValidPool_any x W (tp.below hW) hsx
  rw [he]
  clear he
  go_upto_region 6 with (first | (go_at_call 8; with_reducible refine (C1.out.at_ _).mono ?_; rintro _ _ ⟨rfl, e, rfl⟩))
  repeat (refine wp_region_ext0 _ (by kernel_rfl) (by kernel_rfl) ?_; (repeat (go_big_quiet_step ((first | with_reducible exact C1.out.at_ _)))); refine wpQuiet_nil ?_; intro e; go_upto_region 6 with (first | (go_at_call 8; with_reducible refine (C1.out.at_ _).mono ?_; rintro _ _ ⟨rfl, e, rfl⟩)))
  clear C1
  go_wp2_with fail
  refine (toPool_any x _ (GPool.mk_ (tx0.below e.h) (tx4.below e.h) (tx5.below e.h)) hsx).mono ?_
  rintro _ w4 ⟨_, bu, rfl, hb, tu, _⟩
  obtain ⟨uA0, uc0, _, uA4, uc4, _, uA5, uc5, _, rfl, _⟩ := GPool.us tu
  have hq4 := Ext.trans e.h hb
  clear hb
  replace x0 := x0.ext hq4
  replace x1 := x1.ext hq4
  replace x2 := x2.ext hq4
  replace x3 := x3.ext hq4
  replace x4 := x4.ext hq4
  replace x5 := x5.ext hq4
  replace x6 := x6.ext hq4
  replace tx0 := tx0.below hq4
  replace tx4 := tx4.below hq4
  replace tx5 := tx5.below hq4
  have hy5 := Ext.trans hy3 hq4
  obtain ⟨e, he⟩ : ∃ e : ExtOf w4, w4 = e.to := ⟨⟨w4, Below.refl _ _⟩, rfl⟩
  go_upto_region 7 with (fail)
  clear he
  generalize hgg3 : e.to.heap.size = g3
  refine rebase_box e hgg3 (fun w6 e hx6 hgeg3 hltg3 cg3 => ?_)
  clear hgg3
  replace x0 := x0.ext hx6
  replace x1 := x1.ext hx6
  replace x2 := x2.ext hx6
  replace x3 := x3.ext hx6
  replace x4 := x4.ext hx6
  replace x5 := x5.ext hx6
  replace x6 := x6.ext hx6
  replace tx0 := tx0.below hx6
  replace tx4 := tx4.below hx6
  replace tx5 := tx5.below hx6
  replace tu := tu.below hx6
  have hy6 := Ext.trans hy5 hx6
  have u0 := cg3.always hltg3 0 _ rfl
  have u1 := cg3.always hltg3 1 _ rfl
  have u2 := cg3.always hltg3 2 _ rfl
  have u3 := cg3.always hltg3 3 _ rfl
  have u4 := cg3.always hltg3 4 _ rfl
  have u5 := cg3.always hltg3 5 _ rfl
  have u6 := cg3.always hltg3 6 _ rfl
  simp only [Nat.zero_add] at u0 u1 u2 u3 u4 u5 u6
  clear cg3
  have C1 : Hid (QC Tryz.prog w6 _ _ _) := fun W hW => implValidPool_any x W (tu.below hW) hsx
  have hbb : (validPoolB x != validPoolB x) = false := by simp
  go_wp2_with (first | (go_at_call 10; with_reducible refine (C1.out.at_ _).mono ?_; rintro _ _ ⟨rfl, e, rfl⟩))
  have hxx : eqb x x = true := eqb_self x
  clear C1
  refine wp_region_grow _ (by kernel_rfl) 5 (by kernel_rfl) ?_
  refine grow_take 0 rfl (by kernel_rfl) ?_; go_big_quiet_step (fail); refine wpQuiet_nil ?_
  refine grow_take 1 rfl (by kernel_rfl) ?_; go_big_quiet_step (fail); refine wpQuiet_nil ?_
  refine grow_only 2 rfl (by kernel_rfl) (fun e => ?_)
  go_wp2_with fail
  refine (toPool_any x _ (GPool.mk_ (tx0.below e.h) (tx4.below e.h) (tx5.below e.h)) hsx).mono ?_
  rintro _ v7 ⟨_, bp, rfl, hz7, tp, _⟩
  obtain ⟨Up0A, Up0c, Up0b, Up4A, Up4c, Up4b, Up5A, Up5c, Up5b, rfl, _⟩ := GPool.us tp
  go_wp2_with fail
  refine And.intro hz7 ?_
  have hq7 := Ext.trans e.h hz7
  replace x0 := x0.ext hq7
  replace x1 := x1.ext hq7
  replace x2 := x2.ext hq7
  replace x3 := x3.ext hq7
  replace x4 := x4.ext hq7
  replace x5 := x5.ext hq7
  replace x6 := x6.ext hq7
  replace tx0 := tx0.below hq7
  replace tx4 := tx4.below hq7
  replace tx5 := tx5.below hq7
  replace tu := tu.below hq7
  replace u0 := u0.ext hq7
  replace u1 := u1.ext hq7
  replace u2 := u2.ext hq7
  replace u3 := u3.ext hq7
  replace u4 := u4.ext hq7
  replace u5 := u5.ext hq7
  replace u6 := u6.ext hq7
  have hy8 := Ext.trans hy6 hq7
  refine grow_only 3 rfl (by kernel_rfl) (fun e => ?_)
  go_wp2_with fail
  refine (eqPool_any x x _ (tu.below e.h) (tp.below e.h)).mono ?_
  rintro _ v9 ⟨rfl, hz9⟩
  go_wp2_with fail
  refine And.intro hz9 ?_
  have hq9 := Ext.trans e.h hz9
  replace x0 := x0.ext hq9
  replace x1 := x1.ext hq9
  replace x2 := x2.ext hq9
  replace x3 := x3.ext hq9
  replace x4 := x4.ext hq9
  replace x5 := x5.ext hq9
  replace x6 := x6.ext hq9
  replace tx0 := tx0.below hq9
  replace tx4 := tx4.below hq9
  replace tx5 := tx5.below hq9
  replace tu := tu.below hq9
  replace u0 := u0.ext hq9
  replace u1 := u1.ext hq9
  replace u2 := u2.ext hq9
  replace u3 := u3.ext hq9
  replace u4 := u4.ext hq9
  replace u5 := u5.ext hq9
  replace u6 := u6.ext hq9
  replace tp := tp.below hq9
  have hy10 := Ext.trans hy8 hq9
  refine grow_take 4 rfl (by kernel_rfl) ?_; go_big_quiet_step (fail); refine wpQuiet_nil ?_
  refine grow_done (by kernel_rfl) (fun e => ?_)
  go_wp2_with fail
  go_ret
  exact ⟨rfl, ExtOf.old hy10 e⟩
end Go.Proofs.YthciaodffkbljaaGreat
