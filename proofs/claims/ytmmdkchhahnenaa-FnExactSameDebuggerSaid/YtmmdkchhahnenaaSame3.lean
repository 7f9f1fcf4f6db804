/- Comparisons of nets and debuggers, the program's and the reference's. Printed by gen_same.py. -/
import Derived.Test.YtmmdkchhahnenaaProg
import Derived.Test.YtmmdkchhahnenaaPDbg
import Derived.Test.YtmmdkchhahnenaaQDbg
import Derived.Test.YtmmdkchhahnenaaSame2
import Derived.BigGuardPart
import Derived.Deep.CutBlock
namespace Go.Proofs.Ytmmdkchhahnenaa
open Go Go.RowKit Go.Proofs Go.Tr

set_option maxRecDepth 100000 in
set_option maxHeartbeats 4000000 in
theorem implSameDebugger_any (x y : GDebugger) {bs us cs vs} (w : World) (h : TN w x.enc bs us) (h2 : TN w y.enc cs vs) : Calls Try.prog 23 #[.agg us.toArray, .agg vs.toArray] w fun e w' => e = .returned (.bool (eqb x y)) ∧ Ext w w' := by
  refine quiet_start fun e => ?_
  obtain ⟨P0A, P0c, P0b, P1A, P1c, P1b, P4A, P4c, P4b, P5A, P5c, P5b, P6A, P6c, P6b, P7A, P7c, P7b, rfl, _⟩ := GDebugger.us (x := x) h
  obtain ⟨Q0A, Q0c, Q0b, Q1A, Q1c, Q1b, Q4A, Q4c, Q4b, Q5A, Q5c, Q5b, Q6A, Q6c, Q6b, Q7A, Q7c, Q7b, rfl, _⟩ := GDebugger.us (x := y) h2
  go_enter Try.func23, Try.ntmps23
  go_upto_region 1 with (fail)
  generalize hg2 : e.to.heap.size + 1 = g2
  generalize hg1 : e.to.heap.size = g1
  refine rebase_box2 e hg1 hg2 (fun w1 e hx1 hlt1 hlt2 c1 c2 => ?_)
  clear hg1 hg2
  have p1 := PtAt.box hlt1 c1 (TN.below h hx1)
  have p2 := PtAt.box hlt2 c2 (TN.below h2 hx1)
  clear c1 c2
  obtain ⟨A0, c0, a0, A1, c1, a1, A4, c4, a4, A5, c5, a5, A6, c6, a6, A7, c7, a7, x0, x1, x2, x3, x4, x5, x6, x7, tx0, tx1, tx4, tx5, tx6, tx7⟩ := GDebugger.pt0 p1
  obtain ⟨B0, d0, z0, B1, d1, z1, B4, d4, z4, B5, d5, z5, B6, d6, z6, B7, d7, z7, y0, y1, y2, y3, y4, y5, y6, y7, ty0, ty1, ty4, ty5, ty6, ty7⟩ := GDebugger.pt0 p2
  have C1 : Hid (QC Try.prog w1 _ _ _) := fun W hW => equalNets_any x.book y.book _ _ W (tx0.below hW) (ty0.below hW) Hid_rfl Hid_rfl
  have C2 : Hid (QC Try.prog w1 _ _ _) := fun W hW => equalInts_any x.schedule y.schedule _ _ W (tx1.below hW) (ty1.below hW) Hid_rfl Hid_rfl
  have C3 : Hid (QC Try.prog w1 _ _ _) := fun W hW => SameNet_any x.net y.net W (GNet.mk_ (tx4.below hW)) (GNet.mk_ (ty4.below hW))
  have C4 : Hid (QC Try.prog w1 _ _ _) := fun W hW => equalOrigins_any x.origins y.origins _ _ W (tx5.below hW) (ty5.below hW) Hid_rfl Hid_rfl
  have C5 : Hid (QC Try.prog w1 _ _ _) := fun W hW => equalBreaks_any x.breaks y.breaks _ _ W (tx6.below hW) (ty6.below hW) Hid_rfl Hid_rfl
  have C6 : Hid (QC Try.prog w1 _ _ _) := fun W hW => equalPoints_any x.points y.points _ _ W (tx7.below hW) (ty7.below hW) Hid_rfl Hid_rfl
  clear p1 p2 tx0 tx1 tx4 tx5 tx6 tx7 ty0 ty1 ty4 ty5 ty6 ty7
  cases d1 : eqb x.book y.book
  case false =>
    (try rw [d1] at C1); (try rw [d1] at C2); (try rw [d1] at C3); (try rw [d1] at C4); (try rw [d1] at C5); (try rw [d1] at C6)
    have E : Hid (eqb x y = false) := by show _ = _; exact eqb_f (fun e => by rw [e, eqb_self] at d1; cases d1)
    go_wp2_with (first | (go_at_call 85; with_reducible refine (C1.out.at_ _).mono ?_; rintro _ _ ⟨rfl, e, rfl⟩) | (go_at_call 87; with_reducible refine (C2.out.at_ _).mono ?_; rintro _ _ ⟨rfl, e, rfl⟩) | (go_at_call 86; with_reducible refine (C3.out.at_ _).mono ?_; rintro _ _ ⟨rfl, e, rfl⟩) | (go_at_call 88; with_reducible refine (C4.out.at_ _).mono ?_; rintro _ _ ⟨rfl, e, rfl⟩) | (go_at_call 89; with_reducible refine (C5.out.at_ _).mono ?_; rintro _ _ ⟨rfl, e, rfl⟩) | (go_at_call 90; with_reducible refine (C6.out.at_ _).mono ?_; rintro _ _ ⟨rfl, e, rfl⟩))
    repeat (refine wp_region_ext0 _ (by kernel_rfl) (by kernel_rfl) ?_; (repeat (go_big_quiet_step ((first | with_reducible exact C1.out.at_ _ | with_reducible exact C2.out.at_ _ | with_reducible exact C3.out.at_ _ | with_reducible exact C4.out.at_ _ | with_reducible exact C5.out.at_ _ | with_reducible exact C6.out.at_ _)))); refine wpQuiet_nil ?_; intro e; go_wp2_with (first | (go_at_call 85; with_reducible refine (C1.out.at_ _).mono ?_; rintro _ _ ⟨rfl, e, rfl⟩) | (go_at_call 87; with_reducible refine (C2.out.at_ _).mono ?_; rintro _ _ ⟨rfl, e, rfl⟩) | (go_at_call 86; with_reducible refine (C3.out.at_ _).mono ?_; rintro _ _ ⟨rfl, e, rfl⟩) | (go_at_call 88; with_reducible refine (C4.out.at_ _).mono ?_; rintro _ _ ⟨rfl, e, rfl⟩) | (go_at_call 89; with_reducible refine (C5.out.at_ _).mono ?_; rintro _ _ ⟨rfl, e, rfl⟩) | (go_at_call 90; with_reducible refine (C6.out.at_ _).mono ?_; rintro _ _ ⟨rfl, e, rfl⟩)))
    go_ret
    exact ⟨by rw [E.out]; rfl, ExtOf.old hx1 e⟩
  (try rw [d1] at C1); (try rw [d1] at C2); (try rw [d1] at C3); (try rw [d1] at C4); (try rw [d1] at C5); (try rw [d1] at C6)
  cases d2 : eqb x.schedule y.schedule
  case false =>
    (try rw [d2] at C1); (try rw [d2] at C2); (try rw [d2] at C3); (try rw [d2] at C4); (try rw [d2] at C5); (try rw [d2] at C6)
    have E : Hid (eqb x y = false) := by show _ = _; exact eqb_f (fun e => by rw [e, eqb_self] at d2; cases d2)
    go_wp2_with (first | (go_at_call 85; with_reducible refine (C1.out.at_ _).mono ?_; rintro _ _ ⟨rfl, e, rfl⟩) | (go_at_call 87; with_reducible refine (C2.out.at_ _).mono ?_; rintro _ _ ⟨rfl, e, rfl⟩) | (go_at_call 86; with_reducible refine (C3.out.at_ _).mono ?_; rintro _ _ ⟨rfl, e, rfl⟩) | (go_at_call 88; with_reducible refine (C4.out.at_ _).mono ?_; rintro _ _ ⟨rfl, e, rfl⟩) | (go_at_call 89; with_reducible refine (C5.out.at_ _).mono ?_; rintro _ _ ⟨rfl, e, rfl⟩) | (go_at_call 90; with_reducible refine (C6.out.at_ _).mono ?_; rintro _ _ ⟨rfl, e, rfl⟩))
    repeat (refine wp_region_ext0 _ (by kernel_rfl) (by kernel_rfl) ?_; (repeat (go_big_quiet_step ((first | with_reducible exact C1.out.at_ _ | with_reducible exact C2.out.at_ _ | with_reducible exact C3.out.at_ _ | with_reducible exact C4.out.at_ _ | with_reducible exact C5.out.at_ _ | with_reducible exact C6.out.at_ _)))); refine wpQuiet_nil ?_; intro e; go_wp2_with (first | (go_at_call 85; with_reducible refine (C1.out.at_ _).mono ?_; rintro _ _ ⟨rfl, e, rfl⟩) | (go_at_call 87; with_reducible refine (C2.out.at_ _).mono ?_; rintro _ _ ⟨rfl, e, rfl⟩) | (go_at_call 86; with_reducible refine (C3.out.at_ _).mono ?_; rintro _ _ ⟨rfl, e, rfl⟩) | (go_at_call 88; with_reducible refine (C4.out.at_ _).mono ?_; rintro _ _ ⟨rfl, e, rfl⟩) | (go_at_call 89; with_reducible refine (C5.out.at_ _).mono ?_; rintro _ _ ⟨rfl, e, rfl⟩) | (go_at_call 90; with_reducible refine (C6.out.at_ _).mono ?_; rintro _ _ ⟨rfl, e, rfl⟩)))
    go_ret
    exact ⟨by rw [E.out]; rfl, ExtOf.old hx1 e⟩
  (try rw [d2] at C1); (try rw [d2] at C2); (try rw [d2] at C3); (try rw [d2] at C4); (try rw [d2] at C5); (try rw [d2] at C6)
  cases d3 : (x.every == y.every)
  case false =>
    (try rw [d3] at C1); (try rw [d3] at C2); (try rw [d3] at C3); (try rw [d3] at C4); (try rw [d3] at C5); (try rw [d3] at C6)
    have E : Hid (eqb x y = false) := by show _ = _; exact eqb_f (fun e => by rw [e] at d3; simp at d3)
    go_wp2_with (first | (go_at_call 85; with_reducible refine (C1.out.at_ _).mono ?_; rintro _ _ ⟨rfl, e, rfl⟩) | (go_at_call 87; with_reducible refine (C2.out.at_ _).mono ?_; rintro _ _ ⟨rfl, e, rfl⟩) | (go_at_call 86; with_reducible refine (C3.out.at_ _).mono ?_; rintro _ _ ⟨rfl, e, rfl⟩) | (go_at_call 88; with_reducible refine (C4.out.at_ _).mono ?_; rintro _ _ ⟨rfl, e, rfl⟩) | (go_at_call 89; with_reducible refine (C5.out.at_ _).mono ?_; rintro _ _ ⟨rfl, e, rfl⟩) | (go_at_call 90; with_reducible refine (C6.out.at_ _).mono ?_; rintro _ _ ⟨rfl, e, rfl⟩))
    repeat (refine wp_region_ext0 _ (by kernel_rfl) (by kernel_rfl) ?_; (repeat (go_big_quiet_step ((first | with_reducible exact C1.out.at_ _ | with_reducible exact C2.out.at_ _ | with_reducible exact C3.out.at_ _ | with_reducible exact C4.out.at_ _ | with_reducible exact C5.out.at_ _ | with_reducible exact C6.out.at_ _)))); refine wpQuiet_nil ?_; intro e; go_wp2_with (first | (go_at_call 85; with_reducible refine (C1.out.at_ _).mono ?_; rintro _ _ ⟨rfl, e, rfl⟩) | (go_at_call 87; with_reducible refine (C2.out.at_ _).mono ?_; rintro _ _ ⟨rfl, e, rfl⟩) | (go_at_call 86; with_reducible refine (C3.out.at_ _).mono ?_; rintro _ _ ⟨rfl, e, rfl⟩) | (go_at_call 88; with_reducible refine (C4.out.at_ _).mono ?_; rintro _ _ ⟨rfl, e, rfl⟩) | (go_at_call 89; with_reducible refine (C5.out.at_ _).mono ?_; rintro _ _ ⟨rfl, e, rfl⟩) | (go_at_call 90; with_reducible refine (C6.out.at_ _).mono ?_; rintro _ _ ⟨rfl, e, rfl⟩)))
    go_ret
    exact ⟨by rw [E.out]; rfl, ExtOf.old hx1 e⟩
  (try rw [d3] at C1); (try rw [d3] at C2); (try rw [d3] at C3); (try rw [d3] at C4); (try rw [d3] at C5); (try rw [d3] at C6)
  cases d4 : (x.at_ == y.at_)
  case false =>
    (try rw [d4] at C1); (try rw [d4] at C2); (try rw [d4] at C3); (try rw [d4] at C4); (try rw [d4] at C5); (try rw [d4] at C6)
    have E : Hid (eqb x y = false) := by show _ = _; exact eqb_f (fun e => by rw [e] at d4; simp at d4)
    go_wp2_with (first | (go_at_call 85; with_reducible refine (C1.out.at_ _).mono ?_; rintro _ _ ⟨rfl, e, rfl⟩) | (go_at_call 87; with_reducible refine (C2.out.at_ _).mono ?_; rintro _ _ ⟨rfl, e, rfl⟩) | (go_at_call 86; with_reducible refine (C3.out.at_ _).mono ?_; rintro _ _ ⟨rfl, e, rfl⟩) | (go_at_call 88; with_reducible refine (C4.out.at_ _).mono ?_; rintro _ _ ⟨rfl, e, rfl⟩) | (go_at_call 89; with_reducible refine (C5.out.at_ _).mono ?_; rintro _ _ ⟨rfl, e, rfl⟩) | (go_at_call 90; with_reducible refine (C6.out.at_ _).mono ?_; rintro _ _ ⟨rfl, e, rfl⟩))
    repeat (refine wp_region_ext0 _ (by kernel_rfl) (by kernel_rfl) ?_; (repeat (go_big_quiet_step ((first | with_reducible exact C1.out.at_ _ | with_reducible exact C2.out.at_ _ | with_reducible exact C3.out.at_ _ | with_reducible exact C4.out.at_ _ | with_reducible exact C5.out.at_ _ | with_reducible exact C6.out.at_ _)))); refine wpQuiet_nil ?_; intro e; go_wp2_with (first | (go_at_call 85; with_reducible refine (C1.out.at_ _).mono ?_; rintro _ _ ⟨rfl, e, rfl⟩) | (go_at_call 87; with_reducible refine (C2.out.at_ _).mono ?_; rintro _ _ ⟨rfl, e, rfl⟩) | (go_at_call 86; with_reducible refine (C3.out.at_ _).mono ?_; rintro _ _ ⟨rfl, e, rfl⟩) | (go_at_call 88; with_reducible refine (C4.out.at_ _).mono ?_; rintro _ _ ⟨rfl, e, rfl⟩) | (go_at_call 89; with_reducible refine (C5.out.at_ _).mono ?_; rintro _ _ ⟨rfl, e, rfl⟩) | (go_at_call 90; with_reducible refine (C6.out.at_ _).mono ?_; rintro _ _ ⟨rfl, e, rfl⟩)))
    go_ret
    exact ⟨by rw [E.out]; rfl, ExtOf.old hx1 e⟩
  (try rw [d4] at C1); (try rw [d4] at C2); (try rw [d4] at C3); (try rw [d4] at C4); (try rw [d4] at C5); (try rw [d4] at C6)
  cases d5 : eqb x.net y.net
  case false =>
    (try rw [d5] at C1); (try rw [d5] at C2); (try rw [d5] at C3); (try rw [d5] at C4); (try rw [d5] at C5); (try rw [d5] at C6)
    have E : Hid (eqb x y = false) := by show _ = _; exact eqb_f (fun e => by rw [e, eqb_self] at d5; cases d5)
    go_wp2_with (first | (go_at_call 85; with_reducible refine (C1.out.at_ _).mono ?_; rintro _ _ ⟨rfl, e, rfl⟩) | (go_at_call 87; with_reducible refine (C2.out.at_ _).mono ?_; rintro _ _ ⟨rfl, e, rfl⟩) | (go_at_call 86; with_reducible refine (C3.out.at_ _).mono ?_; rintro _ _ ⟨rfl, e, rfl⟩) | (go_at_call 88; with_reducible refine (C4.out.at_ _).mono ?_; rintro _ _ ⟨rfl, e, rfl⟩) | (go_at_call 89; with_reducible refine (C5.out.at_ _).mono ?_; rintro _ _ ⟨rfl, e, rfl⟩) | (go_at_call 90; with_reducible refine (C6.out.at_ _).mono ?_; rintro _ _ ⟨rfl, e, rfl⟩))
    repeat (refine wp_region_ext0 _ (by kernel_rfl) (by kernel_rfl) ?_; (repeat (go_big_quiet_step ((first | with_reducible exact C1.out.at_ _ | with_reducible exact C2.out.at_ _ | with_reducible exact C3.out.at_ _ | with_reducible exact C4.out.at_ _ | with_reducible exact C5.out.at_ _ | with_reducible exact C6.out.at_ _)))); refine wpQuiet_nil ?_; intro e; go_wp2_with (first | (go_at_call 85; with_reducible refine (C1.out.at_ _).mono ?_; rintro _ _ ⟨rfl, e, rfl⟩) | (go_at_call 87; with_reducible refine (C2.out.at_ _).mono ?_; rintro _ _ ⟨rfl, e, rfl⟩) | (go_at_call 86; with_reducible refine (C3.out.at_ _).mono ?_; rintro _ _ ⟨rfl, e, rfl⟩) | (go_at_call 88; with_reducible refine (C4.out.at_ _).mono ?_; rintro _ _ ⟨rfl, e, rfl⟩) | (go_at_call 89; with_reducible refine (C5.out.at_ _).mono ?_; rintro _ _ ⟨rfl, e, rfl⟩) | (go_at_call 90; with_reducible refine (C6.out.at_ _).mono ?_; rintro _ _ ⟨rfl, e, rfl⟩)))
    go_ret
    exact ⟨by rw [E.out]; rfl, ExtOf.old hx1 e⟩
  (try rw [d5] at C1); (try rw [d5] at C2); (try rw [d5] at C3); (try rw [d5] at C4); (try rw [d5] at C5); (try rw [d5] at C6)
  cases d6 : eqb x.origins y.origins
  case false =>
    (try rw [d6] at C1); (try rw [d6] at C2); (try rw [d6] at C3); (try rw [d6] at C4); (try rw [d6] at C5); (try rw [d6] at C6)
    have E : Hid (eqb x y = false) := by show _ = _; exact eqb_f (fun e => by rw [e, eqb_self] at d6; cases d6)
    go_wp2_with (first | (go_at_call 85; with_reducible refine (C1.out.at_ _).mono ?_; rintro _ _ ⟨rfl, e, rfl⟩) | (go_at_call 87; with_reducible refine (C2.out.at_ _).mono ?_; rintro _ _ ⟨rfl, e, rfl⟩) | (go_at_call 86; with_reducible refine (C3.out.at_ _).mono ?_; rintro _ _ ⟨rfl, e, rfl⟩) | (go_at_call 88; with_reducible refine (C4.out.at_ _).mono ?_; rintro _ _ ⟨rfl, e, rfl⟩) | (go_at_call 89; with_reducible refine (C5.out.at_ _).mono ?_; rintro _ _ ⟨rfl, e, rfl⟩) | (go_at_call 90; with_reducible refine (C6.out.at_ _).mono ?_; rintro _ _ ⟨rfl, e, rfl⟩))
    repeat (refine wp_region_ext0 _ (by kernel_rfl) (by kernel_rfl) ?_; (repeat (go_big_quiet_step ((first | with_reducible exact C1.out.at_ _ | with_reducible exact C2.out.at_ _ | with_reducible exact C3.out.at_ _ | with_reducible exact C4.out.at_ _ | with_reducible exact C5.out.at_ _ | with_reducible exact C6.out.at_ _)))); refine wpQuiet_nil ?_; intro e; go_wp2_with (first | (go_at_call 85; with_reducible refine (C1.out.at_ _).mono ?_; rintro _ _ ⟨rfl, e, rfl⟩) | (go_at_call 87; with_reducible refine (C2.out.at_ _).mono ?_; rintro _ _ ⟨rfl, e, rfl⟩) | (go_at_call 86; with_reducible refine (C3.out.at_ _).mono ?_; rintro _ _ ⟨rfl, e, rfl⟩) | (go_at_call 88; with_reducible refine (C4.out.at_ _).mono ?_; rintro _ _ ⟨rfl, e, rfl⟩) | (go_at_call 89; with_reducible refine (C5.out.at_ _).mono ?_; rintro _ _ ⟨rfl, e, rfl⟩) | (go_at_call 90; with_reducible refine (C6.out.at_ _).mono ?_; rintro _ _ ⟨rfl, e, rfl⟩)))
    go_ret
    exact ⟨by rw [E.out]; rfl, ExtOf.old hx1 e⟩
  (try rw [d6] at C1); (try rw [d6] at C2); (try rw [d6] at C3); (try rw [d6] at C4); (try rw [d6] at C5); (try rw [d6] at C6)
  cases d7 : eqb x.breaks y.breaks
  case false =>
    (try rw [d7] at C1); (try rw [d7] at C2); (try rw [d7] at C3); (try rw [d7] at C4); (try rw [d7] at C5); (try rw [d7] at C6)
    have E : Hid (eqb x y = false) := by show _ = _; exact eqb_f (fun e => by rw [e, eqb_self] at d7; cases d7)
    go_wp2_with (first | (go_at_call 85; with_reducible refine (C1.out.at_ _).mono ?_; rintro _ _ ⟨rfl, e, rfl⟩) | (go_at_call 87; with_reducible refine (C2.out.at_ _).mono ?_; rintro _ _ ⟨rfl, e, rfl⟩) | (go_at_call 86; with_reducible refine (C3.out.at_ _).mono ?_; rintro _ _ ⟨rfl, e, rfl⟩) | (go_at_call 88; with_reducible refine (C4.out.at_ _).mono ?_; rintro _ _ ⟨rfl, e, rfl⟩) | (go_at_call 89; with_reducible refine (C5.out.at_ _).mono ?_; rintro _ _ ⟨rfl, e, rfl⟩) | (go_at_call 90; with_reducible refine (C6.out.at_ _).mono ?_; rintro _ _ ⟨rfl, e, rfl⟩))
    repeat (refine wp_region_ext0 _ (by kernel_rfl) (by kernel_rfl) ?_; (repeat (go_big_quiet_step ((first | with_reducible exact C1.out.at_ _ | with_reducible exact C2.out.at_ _ | with_reducible exact C3.out.at_ _ | with_reducible exact C4.out.at_ _ | with_reducible exact C5.out.at_ _ | with_reducible exact C6.out.at_ _)))); refine wpQuiet_nil ?_; intro e; go_wp2_with (first | (go_at_call 85; with_reducible refine (C1.out.at_ _).mono ?_; rintro _ _ ⟨rfl, e, rfl⟩) | (go_at_call 87; with_reducible refine (C2.out.at_ _).mono ?_; rintro _ _ ⟨rfl, e, rfl⟩) | (go_at_call 86; with_reducible refine (C3.out.at_ _).mono ?_; rintro _ _ ⟨rfl, e, rfl⟩) | (go_at_call 88; with_reducible refine (C4.out.at_ _).mono ?_; rintro _ _ ⟨rfl, e, rfl⟩) | (go_at_call 89; with_reducible refine (C5.out.at_ _).mono ?_; rintro _ _ ⟨rfl, e, rfl⟩) | (go_at_call 90; with_reducible refine (C6.out.at_ _).mono ?_; rintro _ _ ⟨rfl, e, rfl⟩)))
    go_ret
    exact ⟨by rw [E.out]; rfl, ExtOf.old hx1 e⟩
  (try rw [d7] at C1); (try rw [d7] at C2); (try rw [d7] at C3); (try rw [d7] at C4); (try rw [d7] at C5); (try rw [d7] at C6)
  cases d8 : eqb x.points y.points
  case false =>
    (try rw [d8] at C1); (try rw [d8] at C2); (try rw [d8] at C3); (try rw [d8] at C4); (try rw [d8] at C5); (try rw [d8] at C6)
    have E : Hid (eqb x y = false) := by show _ = _; exact eqb_f (fun e => by rw [e, eqb_self] at d8; cases d8)
    go_wp2_with (first | (go_at_call 85; with_reducible refine (C1.out.at_ _).mono ?_; rintro _ _ ⟨rfl, e, rfl⟩) | (go_at_call 87; with_reducible refine (C2.out.at_ _).mono ?_; rintro _ _ ⟨rfl, e, rfl⟩) | (go_at_call 86; with_reducible refine (C3.out.at_ _).mono ?_; rintro _ _ ⟨rfl, e, rfl⟩) | (go_at_call 88; with_reducible refine (C4.out.at_ _).mono ?_; rintro _ _ ⟨rfl, e, rfl⟩) | (go_at_call 89; with_reducible refine (C5.out.at_ _).mono ?_; rintro _ _ ⟨rfl, e, rfl⟩) | (go_at_call 90; with_reducible refine (C6.out.at_ _).mono ?_; rintro _ _ ⟨rfl, e, rfl⟩))
    repeat (refine wp_region_ext0 _ (by kernel_rfl) (by kernel_rfl) ?_; (repeat (go_big_quiet_step ((first | with_reducible exact C1.out.at_ _ | with_reducible exact C2.out.at_ _ | with_reducible exact C3.out.at_ _ | with_reducible exact C4.out.at_ _ | with_reducible exact C5.out.at_ _ | with_reducible exact C6.out.at_ _)))); refine wpQuiet_nil ?_; intro e; go_wp2_with (first | (go_at_call 85; with_reducible refine (C1.out.at_ _).mono ?_; rintro _ _ ⟨rfl, e, rfl⟩) | (go_at_call 87; with_reducible refine (C2.out.at_ _).mono ?_; rintro _ _ ⟨rfl, e, rfl⟩) | (go_at_call 86; with_reducible refine (C3.out.at_ _).mono ?_; rintro _ _ ⟨rfl, e, rfl⟩) | (go_at_call 88; with_reducible refine (C4.out.at_ _).mono ?_; rintro _ _ ⟨rfl, e, rfl⟩) | (go_at_call 89; with_reducible refine (C5.out.at_ _).mono ?_; rintro _ _ ⟨rfl, e, rfl⟩) | (go_at_call 90; with_reducible refine (C6.out.at_ _).mono ?_; rintro _ _ ⟨rfl, e, rfl⟩)))
    go_ret
    exact ⟨by rw [E.out]; rfl, ExtOf.old hx1 e⟩
  (try rw [d8] at C1); (try rw [d8] at C2); (try rw [d8] at C3); (try rw [d8] at C4); (try rw [d8] at C5); (try rw [d8] at C6)
  have E : Hid (eqb x y = true) := by show _ = _; exact eqb_of (GDebugger.ext_ (eqb_t d1) (eqb_t d2) (by simpa using d3) (by simpa using d4) (eqb_t d5) (eqb_t d6) (eqb_t d7) (eqb_t d8))
  go_wp2_with (first | (go_at_call 85; with_reducible refine (C1.out.at_ _).mono ?_; rintro _ _ ⟨rfl, e, rfl⟩) | (go_at_call 87; with_reducible refine (C2.out.at_ _).mono ?_; rintro _ _ ⟨rfl, e, rfl⟩) | (go_at_call 86; with_reducible refine (C3.out.at_ _).mono ?_; rintro _ _ ⟨rfl, e, rfl⟩) | (go_at_call 88; with_reducible refine (C4.out.at_ _).mono ?_; rintro _ _ ⟨rfl, e, rfl⟩) | (go_at_call 89; with_reducible refine (C5.out.at_ _).mono ?_; rintro _ _ ⟨rfl, e, rfl⟩) | (go_at_call 90; with_reducible refine (C6.out.at_ _).mono ?_; rintro _ _ ⟨rfl, e, rfl⟩))
  repeat (refine wp_region_ext0 _ (by kernel_rfl) (by kernel_rfl) ?_; (repeat (go_big_quiet_step ((first | with_reducible exact C1.out.at_ _ | with_reducible exact C2.out.at_ _ | with_reducible exact C3.out.at_ _ | with_reducible exact C4.out.at_ _ | with_reducible exact C5.out.at_ _ | with_reducible exact C6.out.at_ _)))); refine wpQuiet_nil ?_; intro e; go_wp2_with (first | (go_at_call 85; with_reducible refine (C1.out.at_ _).mono ?_; rintro _ _ ⟨rfl, e, rfl⟩) | (go_at_call 87; with_reducible refine (C2.out.at_ _).mono ?_; rintro _ _ ⟨rfl, e, rfl⟩) | (go_at_call 86; with_reducible refine (C3.out.at_ _).mono ?_; rintro _ _ ⟨rfl, e, rfl⟩) | (go_at_call 88; with_reducible refine (C4.out.at_ _).mono ?_; rintro _ _ ⟨rfl, e, rfl⟩) | (go_at_call 89; with_reducible refine (C5.out.at_ _).mono ?_; rintro _ _ ⟨rfl, e, rfl⟩) | (go_at_call 90; with_reducible refine (C6.out.at_ _).mono ?_; rintro _ _ ⟨rfl, e, rfl⟩)))
  go_ret
  exact ⟨by rw [E.out]; rfl, ExtOf.old hx1 e⟩

set_option maxRecDepth 100000 in
set_option maxHeartbeats 8000000 in
theorem specSameDebugger_any (x y : GDebugger) {bs us cs vs} (w : World) (h : TN w x.enc bs us) (h2 : TN w y.enc cs vs) : Calls Try.prog 21 #[.agg us.toArray, .agg vs.toArray] w fun e w' => e = .returned (.bool (eqb x y)) ∧ Ext w w' := by
  refine quiet_start fun e => ?_
  obtain ⟨P0A, P0c, P0b, P1A, P1c, P1b, P4A, P4c, P4b, P5A, P5c, P5b, P6A, P6c, P6b, P7A, P7c, P7b, rfl, _⟩ := GDebugger.us (x := x) h
  obtain ⟨Q0A, Q0c, Q0b, Q1A, Q1c, Q1b, Q4A, Q4c, Q4b, Q5A, Q5c, Q5b, Q6A, Q6c, Q6b, Q7A, Q7c, Q7b, rfl, _⟩ := GDebugger.us (x := y) h2
  go_enter Try.func21, Try.ntmps21
  go_upto_region 1 with (fail)
  generalize hg2 : e.to.heap.size + 1 = g2
  generalize hg1 : e.to.heap.size = g1
  refine rebase_box2 e hg1 hg2 (fun w1 e hx1 hlt1 hlt2 c1 c2 => ?_)
  clear hg1 hg2
  have p1 := PtAt.box hlt1 c1 (TN.below h hx1)
  have p2 := PtAt.box hlt2 c2 (TN.below h2 hx1)
  clear c1 c2
  obtain ⟨A0, c0, a0, A1, c1, a1, A4, c4, a4, A5, c5, a5, A6, c6, a6, A7, c7, a7, x0, x1, x2, x3, x4, x5, x6, x7, tx0, tx1, tx4, tx5, tx6, tx7⟩ := GDebugger.pt0 p1
  obtain ⟨B0, d0, z0, B1, d1, z1, B4, d4, z4, B5, d5, z5, B6, d6, z6, B7, d7, z7, y0, y1, y2, y3, y4, y5, y6, y7, ty0, ty1, ty4, ty5, ty6, ty7⟩ := GDebugger.pt0 p2
  obtain ⟨_, n1⟩ := PtAt.part (ds1 := [_, _, _, _]) (ds2 := x.net.enc) (ds3 := [_, _, _]) p1
  obtain ⟨_, n2⟩ := PtAt.part (ds1 := [_, _, _, _]) (ds2 := y.net.enc) (ds3 := [_, _, _]) p2
  simp only [List.length_cons, List.length_nil, Nat.zero_add] at n1 n2
  have C1 : Hid (QC Try.prog w1 _ _ _) := fun W hW => l34SameNets_any x.book y.book _ _ W (tx0.below hW) (ty0.below hW) Hid_rfl Hid_rfl
  have C2 : Hid (QC Try.prog w1 _ _ _) := fun W hW => l00Same_any x.schedule y.schedule _ _ W (tx1.below hW) (ty1.below hW) Hid_rfl Hid_rfl
  have C3 : Hid (QC Try.prog w1 _ _ _) := fun W hW => l11Same_any x.net y.net _ _ _ _ _ _ W (n1.ext hW) (n2.ext hW)
  have C4 : Hid (QC Try.prog w1 _ _ _) := fun W hW => l40SameOrigins_any x.origins y.origins _ _ W (tx5.below hW) (ty5.below hW) Hid_rfl Hid_rfl
  have hn6 := tx6.nle
  have hm6 := ty6.nle
  have hn7 := tx7.nle
  have hm7 := ty7.nle
  have hg := breakG
  clear p1 p2 tx0 tx1 tx4 tx5 ty0 ty1 ty4 ty5 n1 n2
  cases d1 : eqb x.book y.book
  case false =>
    (try rw [d1] at C1); (try rw [d1] at C2); (try rw [d1] at C3); (try rw [d1] at C4)
    have E : Hid (eqb x y = false) := by show _ = _; exact eqb_f (fun e => by rw [e, eqb_self] at d1; cases d1)
    go_wp2_with (first | (go_at_call 76; with_reducible refine (C1.out.at_ _).mono ?_; rintro _ _ ⟨rfl, e, rfl⟩) | (go_at_call 77; with_reducible refine (C2.out.at_ _).mono ?_; rintro _ _ ⟨rfl, e, rfl⟩) | (go_at_call 78; with_reducible refine (C3.out.at_ _).mono ?_; rintro _ _ ⟨rfl, e, rfl⟩) | (go_at_call 79; with_reducible refine (C4.out.at_ _).mono ?_; rintro _ _ ⟨rfl, e, rfl⟩))
    repeat (refine wp_region_ext0 _ (by kernel_rfl) (by kernel_rfl) ?_; (repeat (go_big_quiet_step ((first | with_reducible exact C1.out.at_ _ | with_reducible exact C2.out.at_ _ | with_reducible exact C3.out.at_ _ | with_reducible exact C4.out.at_ _)))); refine wpQuiet_nil ?_; intro e; go_wp2_with (first | (go_at_call 76; with_reducible refine (C1.out.at_ _).mono ?_; rintro _ _ ⟨rfl, e, rfl⟩) | (go_at_call 77; with_reducible refine (C2.out.at_ _).mono ?_; rintro _ _ ⟨rfl, e, rfl⟩) | (go_at_call 78; with_reducible refine (C3.out.at_ _).mono ?_; rintro _ _ ⟨rfl, e, rfl⟩) | (go_at_call 79; with_reducible refine (C4.out.at_ _).mono ?_; rintro _ _ ⟨rfl, e, rfl⟩)))
    go_ret
    exact ⟨by rw [E.out]; rfl, ExtOf.old hx1 e⟩
  (try rw [d1] at C1); (try rw [d1] at C2); (try rw [d1] at C3); (try rw [d1] at C4)
  cases d2 : eqb x.schedule y.schedule
  case false =>
    (try rw [d2] at C1); (try rw [d2] at C2); (try rw [d2] at C3); (try rw [d2] at C4)
    have E : Hid (eqb x y = false) := by show _ = _; exact eqb_f (fun e => by rw [e, eqb_self] at d2; cases d2)
    go_wp2_with (first | (go_at_call 76; with_reducible refine (C1.out.at_ _).mono ?_; rintro _ _ ⟨rfl, e, rfl⟩) | (go_at_call 77; with_reducible refine (C2.out.at_ _).mono ?_; rintro _ _ ⟨rfl, e, rfl⟩) | (go_at_call 78; with_reducible refine (C3.out.at_ _).mono ?_; rintro _ _ ⟨rfl, e, rfl⟩) | (go_at_call 79; with_reducible refine (C4.out.at_ _).mono ?_; rintro _ _ ⟨rfl, e, rfl⟩))
    repeat (refine wp_region_ext0 _ (by kernel_rfl) (by kernel_rfl) ?_; (repeat (go_big_quiet_step ((first | with_reducible exact C1.out.at_ _ | with_reducible exact C2.out.at_ _ | with_reducible exact C3.out.at_ _ | with_reducible exact C4.out.at_ _)))); refine wpQuiet_nil ?_; intro e; go_wp2_with (first | (go_at_call 76; with_reducible refine (C1.out.at_ _).mono ?_; rintro _ _ ⟨rfl, e, rfl⟩) | (go_at_call 77; with_reducible refine (C2.out.at_ _).mono ?_; rintro _ _ ⟨rfl, e, rfl⟩) | (go_at_call 78; with_reducible refine (C3.out.at_ _).mono ?_; rintro _ _ ⟨rfl, e, rfl⟩) | (go_at_call 79; with_reducible refine (C4.out.at_ _).mono ?_; rintro _ _ ⟨rfl, e, rfl⟩)))
    go_ret
    exact ⟨by rw [E.out]; rfl, ExtOf.old hx1 e⟩
  (try rw [d2] at C1); (try rw [d2] at C2); (try rw [d2] at C3); (try rw [d2] at C4)
  cases d3 : (x.every != y.every)
  case true =>
    (try rw [d3] at C1); (try rw [d3] at C2); (try rw [d3] at C3); (try rw [d3] at C4)
    have E : Hid (eqb x y = false) := by show _ = _; exact eqb_f (fun e => by rw [e] at d3; simp at d3)
    go_wp2_with (first | (go_at_call 76; with_reducible refine (C1.out.at_ _).mono ?_; rintro _ _ ⟨rfl, e, rfl⟩) | (go_at_call 77; with_reducible refine (C2.out.at_ _).mono ?_; rintro _ _ ⟨rfl, e, rfl⟩) | (go_at_call 78; with_reducible refine (C3.out.at_ _).mono ?_; rintro _ _ ⟨rfl, e, rfl⟩) | (go_at_call 79; with_reducible refine (C4.out.at_ _).mono ?_; rintro _ _ ⟨rfl, e, rfl⟩))
    repeat (refine wp_region_ext0 _ (by kernel_rfl) (by kernel_rfl) ?_; (repeat (go_big_quiet_step ((first | with_reducible exact C1.out.at_ _ | with_reducible exact C2.out.at_ _ | with_reducible exact C3.out.at_ _ | with_reducible exact C4.out.at_ _)))); refine wpQuiet_nil ?_; intro e; go_wp2_with (first | (go_at_call 76; with_reducible refine (C1.out.at_ _).mono ?_; rintro _ _ ⟨rfl, e, rfl⟩) | (go_at_call 77; with_reducible refine (C2.out.at_ _).mono ?_; rintro _ _ ⟨rfl, e, rfl⟩) | (go_at_call 78; with_reducible refine (C3.out.at_ _).mono ?_; rintro _ _ ⟨rfl, e, rfl⟩) | (go_at_call 79; with_reducible refine (C4.out.at_ _).mono ?_; rintro _ _ ⟨rfl, e, rfl⟩)))
    go_ret
    exact ⟨by rw [E.out]; rfl, ExtOf.old hx1 e⟩
  (try rw [d3] at C1); (try rw [d3] at C2); (try rw [d3] at C3); (try rw [d3] at C4)
  cases d4 : (x.at_ != y.at_)
  case true =>
    (try rw [d4] at C1); (try rw [d4] at C2); (try rw [d4] at C3); (try rw [d4] at C4)
    have E : Hid (eqb x y = false) := by show _ = _; exact eqb_f (fun e => by rw [e] at d4; simp at d4)
    go_wp2_with (first | (go_at_call 76; with_reducible refine (C1.out.at_ _).mono ?_; rintro _ _ ⟨rfl, e, rfl⟩) | (go_at_call 77; with_reducible refine (C2.out.at_ _).mono ?_; rintro _ _ ⟨rfl, e, rfl⟩) | (go_at_call 78; with_reducible refine (C3.out.at_ _).mono ?_; rintro _ _ ⟨rfl, e, rfl⟩) | (go_at_call 79; with_reducible refine (C4.out.at_ _).mono ?_; rintro _ _ ⟨rfl, e, rfl⟩))
    repeat (refine wp_region_ext0 _ (by kernel_rfl) (by kernel_rfl) ?_; (repeat (go_big_quiet_step ((first | with_reducible exact C1.out.at_ _ | with_reducible exact C2.out.at_ _ | with_reducible exact C3.out.at_ _ | with_reducible exact C4.out.at_ _)))); refine wpQuiet_nil ?_; intro e; go_wp2_with (first | (go_at_call 76; with_reducible refine (C1.out.at_ _).mono ?_; rintro _ _ ⟨rfl, e, rfl⟩) | (go_at_call 77; with_reducible refine (C2.out.at_ _).mono ?_; rintro _ _ ⟨rfl, e, rfl⟩) | (go_at_call 78; with_reducible refine (C3.out.at_ _).mono ?_; rintro _ _ ⟨rfl, e, rfl⟩) | (go_at_call 79; with_reducible refine (C4.out.at_ _).mono ?_; rintro _ _ ⟨rfl, e, rfl⟩)))
    go_ret
    exact ⟨by rw [E.out]; rfl, ExtOf.old hx1 e⟩
  (try rw [d4] at C1); (try rw [d4] at C2); (try rw [d4] at C3); (try rw [d4] at C4)
  cases d5 : eqb x.net y.net
  case false =>
    (try rw [d5] at C1); (try rw [d5] at C2); (try rw [d5] at C3); (try rw [d5] at C4)
    have E : Hid (eqb x y = false) := by show _ = _; exact eqb_f (fun e => by rw [e, eqb_self] at d5; cases d5)
    go_wp2_with (first | (go_at_call 76; with_reducible refine (C1.out.at_ _).mono ?_; rintro _ _ ⟨rfl, e, rfl⟩) | (go_at_call 77; with_reducible refine (C2.out.at_ _).mono ?_; rintro _ _ ⟨rfl, e, rfl⟩) | (go_at_call 78; with_reducible refine (C3.out.at_ _).mono ?_; rintro _ _ ⟨rfl, e, rfl⟩) | (go_at_call 79; with_reducible refine (C4.out.at_ _).mono ?_; rintro _ _ ⟨rfl, e, rfl⟩))
    repeat (refine wp_region_ext0 _ (by kernel_rfl) (by kernel_rfl) ?_; (repeat (go_big_quiet_step ((first | with_reducible exact C1.out.at_ _ | with_reducible exact C2.out.at_ _ | with_reducible exact C3.out.at_ _ | with_reducible exact C4.out.at_ _)))); refine wpQuiet_nil ?_; intro e; go_wp2_with (first | (go_at_call 76; with_reducible refine (C1.out.at_ _).mono ?_; rintro _ _ ⟨rfl, e, rfl⟩) | (go_at_call 77; with_reducible refine (C2.out.at_ _).mono ?_; rintro _ _ ⟨rfl, e, rfl⟩) | (go_at_call 78; with_reducible refine (C3.out.at_ _).mono ?_; rintro _ _ ⟨rfl, e, rfl⟩) | (go_at_call 79; with_reducible refine (C4.out.at_ _).mono ?_; rintro _ _ ⟨rfl, e, rfl⟩)))
    go_ret
    exact ⟨by rw [E.out]; rfl, ExtOf.old hx1 e⟩
  (try rw [d5] at C1); (try rw [d5] at C2); (try rw [d5] at C3); (try rw [d5] at C4)
  cases d6 : eqb x.origins y.origins
  case false =>
    (try rw [d6] at C1); (try rw [d6] at C2); (try rw [d6] at C3); (try rw [d6] at C4)
    have E : Hid (eqb x y = false) := by show _ = _; exact eqb_f (fun e => by rw [e, eqb_self] at d6; cases d6)
    go_wp2_with (first | (go_at_call 76; with_reducible refine (C1.out.at_ _).mono ?_; rintro _ _ ⟨rfl, e, rfl⟩) | (go_at_call 77; with_reducible refine (C2.out.at_ _).mono ?_; rintro _ _ ⟨rfl, e, rfl⟩) | (go_at_call 78; with_reducible refine (C3.out.at_ _).mono ?_; rintro _ _ ⟨rfl, e, rfl⟩) | (go_at_call 79; with_reducible refine (C4.out.at_ _).mono ?_; rintro _ _ ⟨rfl, e, rfl⟩))
    repeat (refine wp_region_ext0 _ (by kernel_rfl) (by kernel_rfl) ?_; (repeat (go_big_quiet_step ((first | with_reducible exact C1.out.at_ _ | with_reducible exact C2.out.at_ _ | with_reducible exact C3.out.at_ _ | with_reducible exact C4.out.at_ _)))); refine wpQuiet_nil ?_; intro e; go_wp2_with (first | (go_at_call 76; with_reducible refine (C1.out.at_ _).mono ?_; rintro _ _ ⟨rfl, e, rfl⟩) | (go_at_call 77; with_reducible refine (C2.out.at_ _).mono ?_; rintro _ _ ⟨rfl, e, rfl⟩) | (go_at_call 78; with_reducible refine (C3.out.at_ _).mono ?_; rintro _ _ ⟨rfl, e, rfl⟩) | (go_at_call 79; with_reducible refine (C4.out.at_ _).mono ?_; rintro _ _ ⟨rfl, e, rfl⟩)))
    go_ret
    exact ⟨by rw [E.out]; rfl, ExtOf.old hx1 e⟩
  (try rw [d6] at C1); (try rw [d6] at C2); (try rw [d6] at C3); (try rw [d6] at C4)
  by_cases hl6 : x.breaks.length = y.breaks.length
  case neg =>
    have hb1 : ((x.breaks.length : Int) != (y.breaks.length : Int)) = true := by rw [bne_iff_ne]; omega
    have hb2 : (x.breaks.length != y.breaks.length) = true := by simpa using hl6
    have hb3 : decide (x.breaks.length = y.breaks.length) = false := by simpa using hl6
    have E : Hid (eqb x y = false) := by show _ = _; exact eqb_f (fun e => hl6 (by rw [e]))
    go_wp2_with (first | (go_at_call 76; with_reducible refine (C1.out.at_ _).mono ?_; rintro _ _ ⟨rfl, e, rfl⟩) | (go_at_call 77; with_reducible refine (C2.out.at_ _).mono ?_; rintro _ _ ⟨rfl, e, rfl⟩) | (go_at_call 78; with_reducible refine (C3.out.at_ _).mono ?_; rintro _ _ ⟨rfl, e, rfl⟩) | (go_at_call 79; with_reducible refine (C4.out.at_ _).mono ?_; rintro _ _ ⟨rfl, e, rfl⟩))
    repeat (refine wp_region_ext0 _ (by kernel_rfl) (by kernel_rfl) ?_; (repeat (go_big_quiet_step ((first | with_reducible exact C1.out.at_ _ | with_reducible exact C2.out.at_ _ | with_reducible exact C3.out.at_ _ | with_reducible exact C4.out.at_ _)))); refine wpQuiet_nil ?_; intro e; go_wp2_with (first | (go_at_call 76; with_reducible refine (C1.out.at_ _).mono ?_; rintro _ _ ⟨rfl, e, rfl⟩) | (go_at_call 77; with_reducible refine (C2.out.at_ _).mono ?_; rintro _ _ ⟨rfl, e, rfl⟩) | (go_at_call 78; with_reducible refine (C3.out.at_ _).mono ?_; rintro _ _ ⟨rfl, e, rfl⟩) | (go_at_call 79; with_reducible refine (C4.out.at_ _).mono ?_; rintro _ _ ⟨rfl, e, rfl⟩)))
    go_ret
    exact ⟨by rw [E.out]; rfl, ExtOf.old hx1 e⟩
  rw [hl6] at tx6 x6 hn6
  have Hx6 : Hid (x.breaks.length = y.breaks.length) := hl6
  clear hl6
  by_cases hl7 : x.points.length = y.points.length
  case neg =>
    have hb1 : ((x.points.length : Int) != (y.points.length : Int)) = true := by rw [bne_iff_ne]; omega
    have hb2 : (x.points.length != y.points.length) = true := by simpa using hl7
    have hb3 : decide (x.points.length = y.points.length) = false := by simpa using hl7
    have E : Hid (eqb x y = false) := by show _ = _; exact eqb_f (fun e => hl7 (by rw [e]))
    go_wp2_with (first | (go_at_call 76; with_reducible refine (C1.out.at_ _).mono ?_; rintro _ _ ⟨rfl, e, rfl⟩) | (go_at_call 77; with_reducible refine (C2.out.at_ _).mono ?_; rintro _ _ ⟨rfl, e, rfl⟩) | (go_at_call 78; with_reducible refine (C3.out.at_ _).mono ?_; rintro _ _ ⟨rfl, e, rfl⟩) | (go_at_call 79; with_reducible refine (C4.out.at_ _).mono ?_; rintro _ _ ⟨rfl, e, rfl⟩))
    repeat (refine wp_region_ext0 _ (by kernel_rfl) (by kernel_rfl) ?_; (repeat (go_big_quiet_step ((first | with_reducible exact C1.out.at_ _ | with_reducible exact C2.out.at_ _ | with_reducible exact C3.out.at_ _ | with_reducible exact C4.out.at_ _)))); refine wpQuiet_nil ?_; intro e; go_wp2_with (first | (go_at_call 76; with_reducible refine (C1.out.at_ _).mono ?_; rintro _ _ ⟨rfl, e, rfl⟩) | (go_at_call 77; with_reducible refine (C2.out.at_ _).mono ?_; rintro _ _ ⟨rfl, e, rfl⟩) | (go_at_call 78; with_reducible refine (C3.out.at_ _).mono ?_; rintro _ _ ⟨rfl, e, rfl⟩) | (go_at_call 79; with_reducible refine (C4.out.at_ _).mono ?_; rintro _ _ ⟨rfl, e, rfl⟩)))
    go_ret
    exact ⟨by rw [E.out]; rfl, ExtOf.old hx1 e⟩
  rw [hl7] at tx7 x7 hn7
  have Hx7 : Hid (x.points.length = y.points.length) := hl7
  clear hl7
  go_wp2_with (first | (go_at_call 76; with_reducible refine (C1.out.at_ _).mono ?_; rintro _ _ ⟨rfl, e, rfl⟩) | (go_at_call 77; with_reducible refine (C2.out.at_ _).mono ?_; rintro _ _ ⟨rfl, e, rfl⟩) | (go_at_call 78; with_reducible refine (C3.out.at_ _).mono ?_; rintro _ _ ⟨rfl, e, rfl⟩) | (go_at_call 79; with_reducible refine (C4.out.at_ _).mono ?_; rintro _ _ ⟨rfl, e, rfl⟩))
  repeat (refine wp_region_ext0 _ (by kernel_rfl) (by kernel_rfl) ?_; (repeat (go_big_quiet_step ((first | with_reducible exact C1.out.at_ _ | with_reducible exact C2.out.at_ _ | with_reducible exact C3.out.at_ _ | with_reducible exact C4.out.at_ _)))); refine wpQuiet_nil ?_; intro e; go_wp2_with (first | (go_at_call 76; with_reducible refine (C1.out.at_ _).mono ?_; rintro _ _ ⟨rfl, e, rfl⟩) | (go_at_call 77; with_reducible refine (C2.out.at_ _).mono ?_; rintro _ _ ⟨rfl, e, rfl⟩) | (go_at_call 78; with_reducible refine (C3.out.at_ _).mono ?_; rintro _ _ ⟨rfl, e, rfl⟩) | (go_at_call 79; with_reducible refine (C4.out.at_ _).mono ?_; rintro _ _ ⟨rfl, e, rfl⟩)))
  go_loopw [5] (fun i w' => ∃ k : Nat, k ≤ y.breaks.length ∧ i = .int .i64 k ∧ Hid (x.breaks.take k = y.breaks.take k) ∧ ∃ e : ExtOf w1, w' = e.to) (fun i _ => y.breaks.length - (intOf i).toNat)
  case atStart => exact ⟨0, Nat.zero_le _, rfl, rfl, _, rfl⟩
  case round =>
    obtain ⟨k, hk, rfl, hf, e, rfl⟩ := hrel
    by_cases hlt : k < y.breaks.length
    · skip
      obtain ⟨bx, ox, p, px, rfl, hxk, hpx⟩ := T1.elem GBreak.enc_len tx6 Hx6 hlt
      obtain ⟨by_, oy, q, py, rfl, hyk, hpy⟩ := T1.elem GBreak.enc_len ty6 Hid_rfl hlt
      obtain ⟨u0, u1⟩ := GBreak.pt hpx
      obtain ⟨v0, v1⟩ := GBreak.pt hpy
      have hne := fun W => breakNeq W p q
      cases d7 : eqb p q
      case false =>
        (try rw [d7] at C1); (try rw [d7] at C2); (try rw [d7] at C3); (try rw [d7] at C4)
        have E : Hid (eqb x y = false) := by show _ = _; exact eqb_f (fun e => ne_at hxk hyk (eqb_nf d7) (by rw [e]))
        go_wp2_with (first | (go_at_call 76; with_reducible refine (C1.out.at_ _).mono ?_; rintro _ _ ⟨rfl, e, rfl⟩) | (go_at_call 77; with_reducible refine (C2.out.at_ _).mono ?_; rintro _ _ ⟨rfl, e, rfl⟩) | (go_at_call 78; with_reducible refine (C3.out.at_ _).mono ?_; rintro _ _ ⟨rfl, e, rfl⟩) | (go_at_call 79; with_reducible refine (C4.out.at_ _).mono ?_; rintro _ _ ⟨rfl, e, rfl⟩))
        repeat (refine wp_region_ext0 _ (by kernel_rfl) (by kernel_rfl) ?_; (repeat (go_big_quiet_step ((first | with_reducible exact C1.out.at_ _ | with_reducible exact C2.out.at_ _ | with_reducible exact C3.out.at_ _ | with_reducible exact C4.out.at_ _)))); refine wpQuiet_nil ?_; intro e; go_wp2_with (first | (go_at_call 76; with_reducible refine (C1.out.at_ _).mono ?_; rintro _ _ ⟨rfl, e, rfl⟩) | (go_at_call 77; with_reducible refine (C2.out.at_ _).mono ?_; rintro _ _ ⟨rfl, e, rfl⟩) | (go_at_call 78; with_reducible refine (C3.out.at_ _).mono ?_; rintro _ _ ⟨rfl, e, rfl⟩) | (go_at_call 79; with_reducible refine (C4.out.at_ _).mono ?_; rintro _ _ ⟨rfl, e, rfl⟩)))
        go_ret
        exact ⟨by rw [E.out]; rfl, ExtOf.old hx1 e⟩
      (try rw [d7] at C1); (try rw [d7] at C2); (try rw [d7] at C3); (try rw [d7] at C4)
      go_wp2_with (first | (go_at_call 76; with_reducible refine (C1.out.at_ _).mono ?_; rintro _ _ ⟨rfl, e, rfl⟩) | (go_at_call 77; with_reducible refine (C2.out.at_ _).mono ?_; rintro _ _ ⟨rfl, e, rfl⟩) | (go_at_call 78; with_reducible refine (C3.out.at_ _).mono ?_; rintro _ _ ⟨rfl, e, rfl⟩) | (go_at_call 79; with_reducible refine (C4.out.at_ _).mono ?_; rintro _ _ ⟨rfl, e, rfl⟩))
      repeat (refine wp_region_ext0 _ (by kernel_rfl) (by kernel_rfl) ?_; (repeat (go_big_quiet_step ((first | with_reducible exact C1.out.at_ _ | with_reducible exact C2.out.at_ _ | with_reducible exact C3.out.at_ _ | with_reducible exact C4.out.at_ _)))); refine wpQuiet_nil ?_; intro e; go_wp2_with (first | (go_at_call 76; with_reducible refine (C1.out.at_ _).mono ?_; rintro _ _ ⟨rfl, e, rfl⟩) | (go_at_call 77; with_reducible refine (C2.out.at_ _).mono ?_; rintro _ _ ⟨rfl, e, rfl⟩) | (go_at_call 78; with_reducible refine (C3.out.at_ _).mono ?_; rintro _ _ ⟨rfl, e, rfl⟩) | (go_at_call 79; with_reducible refine (C4.out.at_ _).mono ?_; rintro _ _ ⟨rfl, e, rfl⟩)))
      exact ⟨⟨k+1, by omega, by go_num, take_eq_snoc hf hxk hyk (eqb_t d7), _, rfl⟩, by simp [intOf]; omega⟩
    · have : k = y.breaks.length := by omega
      subst this
      have HB : Hid (x.breaks = y.breaks) := take_eq_all hf Hx6 Hid_rfl
      clear hf
      go_wp2_with (first | (go_at_call 76; with_reducible refine (C1.out.at_ _).mono ?_; rintro _ _ ⟨rfl, e, rfl⟩) | (go_at_call 77; with_reducible refine (C2.out.at_ _).mono ?_; rintro _ _ ⟨rfl, e, rfl⟩) | (go_at_call 78; with_reducible refine (C3.out.at_ _).mono ?_; rintro _ _ ⟨rfl, e, rfl⟩) | (go_at_call 79; with_reducible refine (C4.out.at_ _).mono ?_; rintro _ _ ⟨rfl, e, rfl⟩))
      repeat (refine wp_region_ext0 _ (by kernel_rfl) (by kernel_rfl) ?_; (repeat (go_big_quiet_step ((first | with_reducible exact C1.out.at_ _ | with_reducible exact C2.out.at_ _ | with_reducible exact C3.out.at_ _ | with_reducible exact C4.out.at_ _)))); refine wpQuiet_nil ?_; intro e; go_wp2_with (first | (go_at_call 76; with_reducible refine (C1.out.at_ _).mono ?_; rintro _ _ ⟨rfl, e, rfl⟩) | (go_at_call 77; with_reducible refine (C2.out.at_ _).mono ?_; rintro _ _ ⟨rfl, e, rfl⟩) | (go_at_call 78; with_reducible refine (C3.out.at_ _).mono ?_; rintro _ _ ⟨rfl, e, rfl⟩) | (go_at_call 79; with_reducible refine (C4.out.at_ _).mono ?_; rintro _ _ ⟨rfl, e, rfl⟩)))
      go_loopw [6] (fun i w' => ∃ k : Nat, k ≤ y.points.length ∧ i = .int .i64 k ∧ Hid (x.points.take k = y.points.take k) ∧ ∃ e : ExtOf w1, w' = e.to) (fun i _ => y.points.length - (intOf i).toNat)
      case atStart => exact ⟨0, Nat.zero_le _, rfl, rfl, _, rfl⟩
      case round =>
        obtain ⟨k, hk, rfl, hf, e, rfl⟩ := hrel
        by_cases hlt : k < y.points.length
        · skip
          obtain ⟨bx, ox, p, px, rfl, hxk, hpx⟩ := T1.elem GCheckpoint.enc_len tx7 Hx7 hlt
          obtain ⟨by_, oy, q, py, rfl, hyk, hpy⟩ := T1.elem GCheckpoint.enc_len ty7 Hid_rfl hlt
          obtain ⟨E1, e1, f1, E2, e2, f2, u0, u1, u2, su1, su2⟩ := GCheckpoint.pt hpx
          obtain ⟨F1, g1, h1, F2, g2, i2, v0, v1, v2, sv1, sv2⟩ := GCheckpoint.pt hpy
          obtain ⟨_, n1⟩ := PtAt.part (ds1 := [_]) (ds2 := p.net.enc) (ds3 := [_]) hpx
          obtain ⟨_, n2⟩ := PtAt.part (ds1 := [_]) (ds2 := q.net.enc) (ds3 := [_]) hpy
          simp only [List.length_cons, List.length_nil, Nat.zero_add] at n1 n2
          have C5 : Hid (QC Try.prog w1 _ _ _) := fun W hW => l11Same_any p.net q.net _ _ _ _ _ _ W (n1.ext hW) (n2.ext hW)
          have C6 : Hid (QC Try.prog w1 _ _ _) := fun W hW => l40SameOrigins_any p.origins q.origins _ _ W (su2.below hW) (sv2.below hW) Hid_rfl Hid_rfl
          cases d8 : (p.at_ != q.at_)
          case true =>
            (try rw [d8] at C5); (try rw [d8] at C6)
            have E : Hid (eqb x y = false) := by show _ = _; exact eqb_f (fun e => ne_at hxk hyk (fun h => by rw [h] at d8; simp at d8) (by rw [e]))
            go_wp2_with (first | (go_at_call 78; with_reducible refine (C5.out.at_ _).mono ?_; rintro _ _ ⟨rfl, e, rfl⟩) | (go_at_call 79; with_reducible refine (C6.out.at_ _).mono ?_; rintro _ _ ⟨rfl, e, rfl⟩))
            repeat (refine wp_region_ext0 _ (by kernel_rfl) (by kernel_rfl) ?_; (repeat (go_big_quiet_step ((first | with_reducible exact C5.out.at_ _ | with_reducible exact C6.out.at_ _)))); refine wpQuiet_nil ?_; intro e; go_wp2_with (first | (go_at_call 78; with_reducible refine (C5.out.at_ _).mono ?_; rintro _ _ ⟨rfl, e, rfl⟩) | (go_at_call 79; with_reducible refine (C6.out.at_ _).mono ?_; rintro _ _ ⟨rfl, e, rfl⟩)))
            go_ret
            exact ⟨by rw [E.out]; rfl, ExtOf.old hx1 e⟩
          (try rw [d8] at C5); (try rw [d8] at C6)
          cases d9 : eqb p.net q.net
          case false =>
            (try rw [d9] at C5); (try rw [d9] at C6)
            have E : Hid (eqb x y = false) := by show _ = _; exact eqb_f (fun e => ne_at hxk hyk (fun h => by rw [h, eqb_self] at d9; cases d9) (by rw [e]))
            go_wp2_with (first | (go_at_call 78; with_reducible refine (C5.out.at_ _).mono ?_; rintro _ _ ⟨rfl, e, rfl⟩) | (go_at_call 79; with_reducible refine (C6.out.at_ _).mono ?_; rintro _ _ ⟨rfl, e, rfl⟩))
            repeat (refine wp_region_ext0 _ (by kernel_rfl) (by kernel_rfl) ?_; (repeat (go_big_quiet_step ((first | with_reducible exact C5.out.at_ _ | with_reducible exact C6.out.at_ _)))); refine wpQuiet_nil ?_; intro e; go_wp2_with (first | (go_at_call 78; with_reducible refine (C5.out.at_ _).mono ?_; rintro _ _ ⟨rfl, e, rfl⟩) | (go_at_call 79; with_reducible refine (C6.out.at_ _).mono ?_; rintro _ _ ⟨rfl, e, rfl⟩)))
            go_ret
            exact ⟨by rw [E.out]; rfl, ExtOf.old hx1 e⟩
          (try rw [d9] at C5); (try rw [d9] at C6)
          cases d10 : eqb p.origins q.origins
          case false =>
            (try rw [d10] at C5); (try rw [d10] at C6)
            have E : Hid (eqb x y = false) := by show _ = _; exact eqb_f (fun e => ne_at hxk hyk (fun h => by rw [h, eqb_self] at d10; cases d10) (by rw [e]))
            go_wp2_with (first | (go_at_call 78; with_reducible refine (C5.out.at_ _).mono ?_; rintro _ _ ⟨rfl, e, rfl⟩) | (go_at_call 79; with_reducible refine (C6.out.at_ _).mono ?_; rintro _ _ ⟨rfl, e, rfl⟩))
            repeat (refine wp_region_ext0 _ (by kernel_rfl) (by kernel_rfl) ?_; (repeat (go_big_quiet_step ((first | with_reducible exact C5.out.at_ _ | with_reducible exact C6.out.at_ _)))); refine wpQuiet_nil ?_; intro e; go_wp2_with (first | (go_at_call 78; with_reducible refine (C5.out.at_ _).mono ?_; rintro _ _ ⟨rfl, e, rfl⟩) | (go_at_call 79; with_reducible refine (C6.out.at_ _).mono ?_; rintro _ _ ⟨rfl, e, rfl⟩)))
            go_ret
            exact ⟨by rw [E.out]; rfl, ExtOf.old hx1 e⟩
          (try rw [d10] at C5); (try rw [d10] at C6)
          go_wp2_with (first | (go_at_call 78; with_reducible refine (C5.out.at_ _).mono ?_; rintro _ _ ⟨rfl, e, rfl⟩) | (go_at_call 79; with_reducible refine (C6.out.at_ _).mono ?_; rintro _ _ ⟨rfl, e, rfl⟩))
          repeat (refine wp_region_ext0 _ (by kernel_rfl) (by kernel_rfl) ?_; (repeat (go_big_quiet_step ((first | with_reducible exact C5.out.at_ _ | with_reducible exact C6.out.at_ _)))); refine wpQuiet_nil ?_; intro e; go_wp2_with (first | (go_at_call 78; with_reducible refine (C5.out.at_ _).mono ?_; rintro _ _ ⟨rfl, e, rfl⟩) | (go_at_call 79; with_reducible refine (C6.out.at_ _).mono ?_; rintro _ _ ⟨rfl, e, rfl⟩)))
          exact ⟨⟨k+1, by omega, by go_num, take_eq_snoc hf hxk hyk (GCheckpoint.ext_ (by simpa using d8) (eqb_t d9) (eqb_t d10)), _, rfl⟩, by simp [intOf]; omega⟩
        · have : k = y.points.length := by omega
          subst this
          have E : Hid (eqb x y = true) := by show _ = _; exact eqb_of (GDebugger.ext_ (eqb_t d1) (eqb_t d2) (by simpa using d3) (by simpa using d4) (eqb_t d5) (eqb_t d6) HB.out (take_eq_all hf Hx7 Hid_rfl))
          go_wp2_with (first | (go_at_call 76; with_reducible refine (C1.out.at_ _).mono ?_; rintro _ _ ⟨rfl, e, rfl⟩) | (go_at_call 77; with_reducible refine (C2.out.at_ _).mono ?_; rintro _ _ ⟨rfl, e, rfl⟩) | (go_at_call 78; with_reducible refine (C3.out.at_ _).mono ?_; rintro _ _ ⟨rfl, e, rfl⟩) | (go_at_call 79; with_reducible refine (C4.out.at_ _).mono ?_; rintro _ _ ⟨rfl, e, rfl⟩))
          repeat (refine wp_region_ext0 _ (by kernel_rfl) (by kernel_rfl) ?_; (repeat (go_big_quiet_step ((first | with_reducible exact C1.out.at_ _ | with_reducible exact C2.out.at_ _ | with_reducible exact C3.out.at_ _ | with_reducible exact C4.out.at_ _)))); refine wpQuiet_nil ?_; intro e; go_wp2_with (first | (go_at_call 76; with_reducible refine (C1.out.at_ _).mono ?_; rintro _ _ ⟨rfl, e, rfl⟩) | (go_at_call 77; with_reducible refine (C2.out.at_ _).mono ?_; rintro _ _ ⟨rfl, e, rfl⟩) | (go_at_call 78; with_reducible refine (C3.out.at_ _).mono ?_; rintro _ _ ⟨rfl, e, rfl⟩) | (go_at_call 79; with_reducible refine (C4.out.at_ _).mono ?_; rintro _ _ ⟨rfl, e, rfl⟩)))
          go_ret
          exact ⟨by rw [E.out]; rfl, ExtOf.old hx1 e⟩
end Go.Proofs.Ytmmdkchhahnenaa
