/- Comparisons of nets and debuggers, the program's and the reference's. Printed by gen_same.py. -/
import Derived.Test.YtmmdkchhahnenaaProg
import Derived.Test.YtmmdkchhahnenaaPDbg
import Derived.Test.YtmmdkchhahnenaaQDbg
import Derived.Test.YtmmdkchhahnenaaSame
import Derived.BigGuardPart
import Derived.Deep.CutBlock
namespace Go.Proofs.Ytmmdkchhahnenaa
open Go Go.RowKit Go.Proofs Go.Tr

set_option maxHeartbeats 4000000 in
theorem l11Same_any (x y : GNet) (b o b2 o2 : Nat) (bs cs : List Nat) (w : World) (h : PtAt w b o x.enc bs) (h2 : PtAt w b2 o2 y.enc cs) : Calls Try.prog 78 #[.pointer (some ⟨b, o, none⟩), .pointer (some ⟨b2, o2, none⟩)] w fun e w' => e = .returned (.bool (eqb x y)) ∧ Ext w w' := by
  refine quiet_start fun e => ?_
  obtain ⟨A0, c0, a0, x0, tx0⟩ := GNet.pt h
  obtain ⟨B0, d0, z0, y0, ty0⟩ := GNet.pt h2
  have hn := tx0.nle
  have hm := ty0.nle
  go_enter Try.func78, Try.ntmps78
  by_cases hl : x.agents.length = y.agents.length
  case neg =>
    have E : Hid (eqb x y = false) := by show _ = _; exact eqb_f (fun e => hl (by rw [e]))
    go_wp2_with fail
    repeat (refine wp_region_ext0 _ (by kernel_rfl) (by kernel_rfl) ?_; (repeat (go_big_quiet_step (fail))); refine wpQuiet_nil ?_; intro e; go_wp2_with fail)
    go_ret
    exact ⟨by rw [E.out]; rfl, _, rfl⟩
  rw [hl] at tx0 x0 hn
  have Hx : Hid (x.agents.length = y.agents.length) := hl
  clear hl
  go_wp2_with fail
  repeat (refine wp_region_ext0 _ (by kernel_rfl) (by kernel_rfl) ?_; (repeat (go_big_quiet_step (fail))); refine wpQuiet_nil ?_; intro e; go_wp2_with fail)
  go_loopw [5] (fun i w' => ∃ k : Nat, k ≤ y.agents.length ∧ i = .int .i64 k ∧ Hid (x.agents.take k = y.agents.take k) ∧ ∃ e : ExtOf w, w' = e.to) (fun i _ => y.agents.length - (intOf i).toNat)
  case atStart => exact ⟨0, Nat.zero_le _, rfl, rfl, _, rfl⟩
  case round =>
    obtain ⟨k, hk, rfl, hf, e, rfl⟩ := hrel
    by_cases hlt : k < y.agents.length
    · skip
      obtain ⟨bx, ox, p, px, rfl, hxk, hpx⟩ := T1.elem GAgent.enc_len tx0 Hx hlt
      obtain ⟨by_, oy, q, py, rfl, hyk, hpy⟩ := T1.elem GAgent.enc_len ty0 Hid_rfl hlt
      have C1 : Hid (QC Try.prog w _ _ _) := fun W hW => l11SameAgent_any p q _ _ _ _ _ _ W (hpx.ext hW) (hpy.ext hW)
      cases d1 : eqb p q
      case false =>
        (try rw [d1] at C1)
        have E : Hid (eqb x y = false) := by show _ = _; exact eqb_f (fun e => ne_at hxk hyk (eqb_nf d1) (by rw [e]))
        go_wp2_with (first | (go_at_call 170; with_reducible refine (C1.out.at_ _).mono ?_; rintro _ _ ⟨rfl, e, rfl⟩))
        repeat (refine wp_region_ext0 _ (by kernel_rfl) (by kernel_rfl) ?_; (repeat (go_big_quiet_step ((first | with_reducible exact C1.out.at_ _)))); refine wpQuiet_nil ?_; intro e; go_wp2_with (first | (go_at_call 170; with_reducible refine (C1.out.at_ _).mono ?_; rintro _ _ ⟨rfl, e, rfl⟩)))
        go_ret
        exact ⟨by rw [E.out]; rfl, _, rfl⟩
      (try rw [d1] at C1)
      go_wp2_with (first | (go_at_call 170; with_reducible refine (C1.out.at_ _).mono ?_; rintro _ _ ⟨rfl, e, rfl⟩))
      repeat (refine wp_region_ext0 _ (by kernel_rfl) (by kernel_rfl) ?_; (repeat (go_big_quiet_step ((first | with_reducible exact C1.out.at_ _)))); refine wpQuiet_nil ?_; intro e; go_wp2_with (first | (go_at_call 170; with_reducible refine (C1.out.at_ _).mono ?_; rintro _ _ ⟨rfl, e, rfl⟩)))
      exact ⟨⟨k+1, by omega, by go_num, take_eq_snoc hf hxk hyk (eqb_t d1), _, rfl⟩, by simp [intOf]; omega⟩
    · have : k = y.agents.length := by omega
      subst this
      have E : Hid (eqb x y = true) := by show _ = _; exact eqb_of (GNet.ext_ (take_eq_all hf Hx Hid_rfl))
      go_wp2_with fail
      repeat (refine wp_region_ext0 _ (by kernel_rfl) (by kernel_rfl) ?_; (repeat (go_big_quiet_step (fail))); refine wpQuiet_nil ?_; intro e; go_wp2_with fail)
      go_ret
      exact ⟨by rw [E.out]; rfl, _, rfl⟩

set_option maxHeartbeats 2000000 in
theorem l34SameNets_any (xs ys : List GNet) (n m : Nat) {A B : Option Addr} {c d : Nat} {b1 b2 : List Nat} (w : World) (hx : T1 w (.sl n (xs.flatMap GNet.enc)) b1 (.slice A n c)) (hy : T1 w (.sl m (ys.flatMap GNet.enc)) b2 (.slice B m d)) (Hx : Hid (xs.length = n)) (Hy : Hid (ys.length = m)) : Calls Try.prog 76 #[.slice A n c, .slice B m d] w fun e w' => e = .returned (.bool (eqb xs ys)) ∧ Ext w w' := by
  refine quiet_start fun e => ?_
  have hn := hx.nle
  have hm := hy.nle
  by_cases hnm : n = m
  · subst hnm
    go_enter Try.func76, Try.ntmps76
    go_wp2_with fail
    repeat (refine wp_region_ext0 _ (by kernel_rfl) (by kernel_rfl) ?_; (repeat (go_big_quiet_step (fail))); refine wpQuiet_nil ?_; intro e; go_wp2_with fail)
    go_loopw [5] (fun i w' => ∃ k : Nat, k ≤ n ∧ i = .int .i64 k ∧ Hid (xs.take k = ys.take k) ∧ ∃ e : ExtOf w, w' = e.to) (fun i _ => n - (intOf i).toNat)
    case atStart => exact ⟨0, Nat.zero_le _, rfl, rfl, _, rfl⟩
    case round =>
      obtain ⟨k, hk, rfl, hf, e, rfl⟩ := hrel
      by_cases hlt : k < n
      · skip
        obtain ⟨bx, ox, x, px, rfl, hxk, hpx⟩ := T1.elem GNet.enc_len hx Hx hlt
        obtain ⟨by_, oy, y, py, rfl, hyk, hpy⟩ := T1.elem GNet.enc_len hy Hy hlt
        have C1 : Hid (QC Try.prog w _ _ _) := fun W hW => l11Same_any x y _ _ _ _ _ _ W (hpx.ext hW) (hpy.ext hW)
        rw [Nat.mul_one] at C1
        cases d1 : eqb x y
        case false =>
          (try rw [d1] at C1)
          have E : Hid (eqb xs ys = false) := by show _ = _; exact eqb_f (ne_at hxk hyk (eqb_nf d1))
          go_wp2_with (first | (go_at_call 78; with_reducible refine (C1.out.at_ _).mono ?_; rintro _ _ ⟨rfl, e, rfl⟩))
          repeat (refine wp_region_ext0 _ (by kernel_rfl) (by kernel_rfl) ?_; (repeat (go_big_quiet_step ((first | with_reducible exact C1.out.at_ _)))); refine wpQuiet_nil ?_; intro e; go_wp2_with (first | (go_at_call 78; with_reducible refine (C1.out.at_ _).mono ?_; rintro _ _ ⟨rfl, e, rfl⟩)))
          go_ret
          exact ⟨by rw [E.out]; rfl, _, rfl⟩
        (try rw [d1] at C1)
        go_wp2_with (first | (go_at_call 78; with_reducible refine (C1.out.at_ _).mono ?_; rintro _ _ ⟨rfl, e, rfl⟩))
        repeat (refine wp_region_ext0 _ (by kernel_rfl) (by kernel_rfl) ?_; (repeat (go_big_quiet_step ((first | with_reducible exact C1.out.at_ _)))); refine wpQuiet_nil ?_; intro e; go_wp2_with (first | (go_at_call 78; with_reducible refine (C1.out.at_ _).mono ?_; rintro _ _ ⟨rfl, e, rfl⟩)))
        exact ⟨⟨k+1, by omega, by go_num, take_eq_snoc hf hxk hyk (eqb_t d1), _, rfl⟩, by simp [intOf]; omega⟩
      · have : k = n := by omega
        subst this
        have E : Hid (eqb xs ys = true) := by show _ = _; exact eqb_of (take_eq_all hf Hx Hy)
        go_wp2_with fail
        repeat (refine wp_region_ext0 _ (by kernel_rfl) (by kernel_rfl) ?_; (repeat (go_big_quiet_step (fail))); refine wpQuiet_nil ?_; intro e; go_wp2_with fail)
        go_ret
        exact ⟨by rw [E.out]; rfl, _, rfl⟩
  · go_enter Try.func76, Try.ntmps76
    have E : Hid (eqb xs ys = false) := by show _ = _; exact eqb_f (ne_len Hx Hy hnm)
    go_wp2_with fail
    repeat (refine wp_region_ext0 _ (by kernel_rfl) (by kernel_rfl) ?_; (repeat (go_big_quiet_step (fail))); refine wpQuiet_nil ?_; intro e; go_wp2_with fail)
    go_ret
    exact ⟨by rw [E.out]; rfl, _, rfl⟩

set_option maxHeartbeats 2000000 in
theorem sameAgent_any (x y : GAgent) {bs us cs vs} (w : World) (h : TN w x.enc bs us) (h2 : TN w y.enc cs vs) : Calls Try.prog 176 #[.agg us.toArray, .agg vs.toArray] w fun e w' => e = .returned (.bool (eqb x y)) ∧ Ext w w' := by
  refine quiet_start fun e => ?_
  obtain ⟨P3, p3, q3, P4, p4, q4, rfl, _⟩ := GAgent.us (x := x) h
  obtain ⟨R3, r3, s3, R4, r4, s4, rfl, _⟩ := GAgent.us (x := y) h2
  go_enter Try.func176, Try.ntmps176
  go_upto_region 1 with (fail)
  generalize hg2 : e.to.heap.size + 1 = g2
  generalize hg1 : e.to.heap.size = g1
  refine rebase_box2 e hg1 hg2 (fun w1 e hx1 hlt1 hlt2 c1 c2 => ?_)
  clear hg1 hg2
  have p1 := PtAt.box hlt1 c1 (TN.below h hx1)
  have p2 := PtAt.box hlt2 c2 (TN.below h2 hx1)
  clear c1 c2
  obtain ⟨A3, c3, a3, A4, c4, a4, x0, x1, x2, x3, x4, tx3, tx4⟩ := GAgent.pt0 p1
  obtain ⟨B3, d3, z3, B4, d4, z4, y0, y1, y2, y3, y4, ty3, ty4⟩ := GAgent.pt0 p2
  have C1 : Hid (QC Try.prog w1 _ _ _) := fun W hW => equalInts_any x.data y.data _ _ W (tx3.below hW) (ty3.below hW) Hid_rfl Hid_rfl
  have C2 : Hid (QC Try.prog w1 _ _ _) := fun W hW => equalPorts_any x.ports y.ports _ _ W (tx4.below hW) (ty4.below hW) Hid_rfl Hid_rfl
  cases d1 : (x.kind == y.kind)
  case false =>
    (try rw [d1] at C1); (try rw [d1] at C2)
    have E : Hid (eqb x y = false) := by show _ = _; exact eqb_f (fun e => by rw [e] at d1; simp at d1)
    go_wp2_with (first | (go_at_call 87; with_reducible refine (C1.out.at_ _).mono ?_; rintro _ _ ⟨rfl, e, rfl⟩) | (go_at_call 238; with_reducible refine (C2.out.at_ _).mono ?_; rintro _ _ ⟨rfl, e, rfl⟩))
    repeat (refine wp_region_ext0 _ (by kernel_rfl) (by kernel_rfl) ?_; (repeat (go_big_quiet_step ((first | with_reducible exact C1.out.at_ _ | with_reducible exact C2.out.at_ _)))); refine wpQuiet_nil ?_; intro e; go_wp2_with (first | (go_at_call 87; with_reducible refine (C1.out.at_ _).mono ?_; rintro _ _ ⟨rfl, e, rfl⟩) | (go_at_call 238; with_reducible refine (C2.out.at_ _).mono ?_; rintro _ _ ⟨rfl, e, rfl⟩)))
    go_ret
    exact ⟨by rw [E.out]; rfl, ExtOf.old hx1 e⟩
  (try rw [d1] at C1); (try rw [d1] at C2)
  cases d2 : (x.level == y.level)
  case false =>
    (try rw [d2] at C1); (try rw [d2] at C2)
    have E : Hid (eqb x y = false) := by show _ = _; exact eqb_f (fun e => by rw [e] at d2; simp at d2)
    go_wp2_with (first | (go_at_call 87; with_reducible refine (C1.out.at_ _).mono ?_; rintro _ _ ⟨rfl, e, rfl⟩) | (go_at_call 238; with_reducible refine (C2.out.at_ _).mono ?_; rintro _ _ ⟨rfl, e, rfl⟩))
    repeat (refine wp_region_ext0 _ (by kernel_rfl) (by kernel_rfl) ?_; (repeat (go_big_quiet_step ((first | with_reducible exact C1.out.at_ _ | with_reducible exact C2.out.at_ _)))); refine wpQuiet_nil ?_; intro e; go_wp2_with (first | (go_at_call 87; with_reducible refine (C1.out.at_ _).mono ?_; rintro _ _ ⟨rfl, e, rfl⟩) | (go_at_call 238; with_reducible refine (C2.out.at_ _).mono ?_; rintro _ _ ⟨rfl, e, rfl⟩)))
    go_ret
    exact ⟨by rw [E.out]; rfl, ExtOf.old hx1 e⟩
  (try rw [d2] at C1); (try rw [d2] at C2)
  cases d3 : (x.value == y.value)
  case false =>
    (try rw [d3] at C1); (try rw [d3] at C2)
    have E : Hid (eqb x y = false) := by show _ = _; exact eqb_f (fun e => by rw [e] at d3; simp at d3)
    go_wp2_with (first | (go_at_call 87; with_reducible refine (C1.out.at_ _).mono ?_; rintro _ _ ⟨rfl, e, rfl⟩) | (go_at_call 238; with_reducible refine (C2.out.at_ _).mono ?_; rintro _ _ ⟨rfl, e, rfl⟩))
    repeat (refine wp_region_ext0 _ (by kernel_rfl) (by kernel_rfl) ?_; (repeat (go_big_quiet_step ((first | with_reducible exact C1.out.at_ _ | with_reducible exact C2.out.at_ _)))); refine wpQuiet_nil ?_; intro e; go_wp2_with (first | (go_at_call 87; with_reducible refine (C1.out.at_ _).mono ?_; rintro _ _ ⟨rfl, e, rfl⟩) | (go_at_call 238; with_reducible refine (C2.out.at_ _).mono ?_; rintro _ _ ⟨rfl, e, rfl⟩)))
    go_ret
    exact ⟨by rw [E.out]; rfl, ExtOf.old hx1 e⟩
  (try rw [d3] at C1); (try rw [d3] at C2)
  cases d4 : eqb x.data y.data
  case false =>
    (try rw [d4] at C1); (try rw [d4] at C2)
    have E : Hid (eqb x y = false) := by show _ = _; exact eqb_f (fun e => by rw [e, eqb_self] at d4; cases d4)
    go_wp2_with (first | (go_at_call 87; with_reducible refine (C1.out.at_ _).mono ?_; rintro _ _ ⟨rfl, e, rfl⟩) | (go_at_call 238; with_reducible refine (C2.out.at_ _).mono ?_; rintro _ _ ⟨rfl, e, rfl⟩))
    repeat (refine wp_region_ext0 _ (by kernel_rfl) (by kernel_rfl) ?_; (repeat (go_big_quiet_step ((first | with_reducible exact C1.out.at_ _ | with_reducible exact C2.out.at_ _)))); refine wpQuiet_nil ?_; intro e; go_wp2_with (first | (go_at_call 87; with_reducible refine (C1.out.at_ _).mono ?_; rintro _ _ ⟨rfl, e, rfl⟩) | (go_at_call 238; with_reducible refine (C2.out.at_ _).mono ?_; rintro _ _ ⟨rfl, e, rfl⟩)))
    go_ret
    exact ⟨by rw [E.out]; rfl, ExtOf.old hx1 e⟩
  (try rw [d4] at C1); (try rw [d4] at C2)
  cases d5 : eqb x.ports y.ports
  case false =>
    (try rw [d5] at C1); (try rw [d5] at C2)
    have E : Hid (eqb x y = false) := by show _ = _; exact eqb_f (fun e => by rw [e, eqb_self] at d5; cases d5)
    go_wp2_with (first | (go_at_call 87; with_reducible refine (C1.out.at_ _).mono ?_; rintro _ _ ⟨rfl, e, rfl⟩) | (go_at_call 238; with_reducible refine (C2.out.at_ _).mono ?_; rintro _ _ ⟨rfl, e, rfl⟩))
    repeat (refine wp_region_ext0 _ (by kernel_rfl) (by kernel_rfl) ?_; (repeat (go_big_quiet_step ((first | with_reducible exact C1.out.at_ _ | with_reducible exact C2.out.at_ _)))); refine wpQuiet_nil ?_; intro e; go_wp2_with (first | (go_at_call 87; with_reducible refine (C1.out.at_ _).mono ?_; rintro _ _ ⟨rfl, e, rfl⟩) | (go_at_call 238; with_reducible refine (C2.out.at_ _).mono ?_; rintro _ _ ⟨rfl, e, rfl⟩)))
    go_ret
    exact ⟨by rw [E.out]; rfl, ExtOf.old hx1 e⟩
  (try rw [d5] at C1); (try rw [d5] at C2)
  have E : Hid (eqb x y = true) := by show _ = _; exact eqb_of (GAgent.ext_ (by simpa using d1) (by simpa using d2) (by simpa using d3) (eqb_t d4) (eqb_t d5))
  go_wp2_with (first | (go_at_call 87; with_reducible refine (C1.out.at_ _).mono ?_; rintro _ _ ⟨rfl, e, rfl⟩) | (go_at_call 238; with_reducible refine (C2.out.at_ _).mono ?_; rintro _ _ ⟨rfl, e, rfl⟩))
  repeat (refine wp_region_ext0 _ (by kernel_rfl) (by kernel_rfl) ?_; (repeat (go_big_quiet_step ((first | with_reducible exact C1.out.at_ _ | with_reducible exact C2.out.at_ _)))); refine wpQuiet_nil ?_; intro e; go_wp2_with (first | (go_at_call 87; with_reducible refine (C1.out.at_ _).mono ?_; rintro _ _ ⟨rfl, e, rfl⟩) | (go_at_call 238; with_reducible refine (C2.out.at_ _).mono ?_; rintro _ _ ⟨rfl, e, rfl⟩)))
  go_ret
  exact ⟨by rw [E.out]; rfl, ExtOf.old hx1 e⟩

set_option maxHeartbeats 2000000 in
theorem equalAgents_any (xs ys : List GAgent) (n m : Nat) {A B : Option Addr} {c d : Nat} {b1 b2 : List Nat} (w : World) (hx : T1 w (.sl n (xs.flatMap GAgent.enc)) b1 (.slice A n c)) (hy : T1 w (.sl m (ys.flatMap GAgent.enc)) b2 (.slice B m d)) (Hx : Hid (xs.length = n)) (Hy : Hid (ys.length = m)) : Calls Try.prog 175 #[.slice A n c, .slice B m d, .func (.func 176) #[] #[]] w fun e w' => e = .returned (.bool (eqb xs ys)) ∧ Ext w w' := by
  refine quiet_start fun e => ?_
  have hn := hx.nle
  have hm := hy.nle
  by_cases hnm : n = m
  · subst hnm
    go_enter Try.func175, Try.ntmps175
    go_wp2_with fail
    repeat (refine wp_region_ext0 _ (by kernel_rfl) (by kernel_rfl) ?_; (repeat (go_big_quiet_step (fail))); refine wpQuiet_nil ?_; intro e; go_wp2_with fail)
    go_loopw [7,17] (fun _ i w' => ∃ k : Nat, k ≤ n ∧ i = .int .i64 k ∧ Hid (xs.take k = ys.take k) ∧ ∃ e : ExtOf w, w' = e.to) (fun _ i _ => n - (intOf i).toNat)
    case atStart => exact ⟨0, Nat.zero_le _, rfl, rfl, _, rfl⟩
    case round =>
      obtain ⟨k, hk, rfl, hf, e, rfl⟩ := hrel
      by_cases hlt : k < n
      · skip
        obtain ⟨bx, ox, x, px, rfl, hxk, hpx⟩ := T1.elem GAgent.enc_len hx Hx hlt
        obtain ⟨by_, oy, y, py, rfl, hyk, hpy⟩ := T1.elem GAgent.enc_len hy Hy hlt
        obtain ⟨A3, c3, a3, A4, c4, a4, kx0, kx1, kx2, kx3, kx4, tx3, tx4⟩ := GAgent.pt hpx
        obtain ⟨B3, d3, z3, B4, d4, z4, ky0, ky1, ky2, ky3, ky4, ty3, ty4⟩ := GAgent.pt hpy
        go_upto_region 6 with (fail)
        generalize hgga : e.to.heap.size = ga
        refine rebase_box e hgga (fun w1 e hx1 hgega hltga cga => ?_)
        clear hgga
        replace ky0 := ky0.ext hx1
        replace ky1 := ky1.ext hx1
        replace ky2 := ky2.ext hx1
        replace ky3 := ky3.ext hx1
        replace ky4 := ky4.ext hx1
        replace tx3 := tx3.below hx1
        replace tx4 := tx4.below hx1
        replace ty3 := ty3.below hx1
        replace ty4 := ty4.below hx1
        have bx0 := cga.always hltga 0 _ rfl
        have bx1 := cga.always hltga 1 _ rfl
        have bx2 := cga.always hltga 2 _ rfl
        have bx3 := cga.always hltga 3 _ rfl
        have bx4 := cga.always hltga 4 _ rfl
        simp only [Nat.zero_add] at bx0 bx1 bx2 bx3 bx4
        clear cga
        go_upto_region 7 with (fail)
        generalize hggb : e.to.heap.size = gb
        refine rebase_box e hggb (fun w2 e hx2 hgegb hltgb cgb => ?_)
        clear hggb
        replace bx0 := bx0.ext hx2
        replace bx1 := bx1.ext hx2
        replace bx2 := bx2.ext hx2
        replace bx3 := bx3.ext hx2
        replace bx4 := bx4.ext hx2
        replace tx3 := tx3.below hx2
        replace tx4 := tx4.below hx2
        replace ty3 := ty3.below hx2
        replace ty4 := ty4.below hx2
        have hy2 := Ext.trans hx1 hx2
        have bz0 := cgb.always hltgb 0 _ rfl
        have bz1 := cgb.always hltgb 1 _ rfl
        have bz2 := cgb.always hltgb 2 _ rfl
        have bz3 := cgb.always hltgb 3 _ rfl
        have bz4 := cgb.always hltgb 4 _ rfl
        simp only [Nat.zero_add] at bz0 bz1 bz2 bz3 bz4
        clear cgb
        clear kx0 kx1 kx2 kx3 kx4 ky0 ky1 ky2 ky3 ky4
        have UX : TN w2 x.enc _ _ := (GAgent.mk_ tx3 tx4)
        have UY : TN w2 y.enc _ _ := (GAgent.mk_ ty3 ty4)
        have C1 : Hid (QC Try.prog w2 _ _ _) := fun W hW => sameAgent_any x y W (UX.below hW) (UY.below hW)
        cases d1 : eqb x y
        case false =>
          (try rw [d1] at C1)
          have E : Hid (eqb xs ys = false) := by show _ = _; exact eqb_f (ne_at hxk hyk (eqb_nf d1))
          go_wp2_with (first | (go_at_call 176; with_reducible refine (C1.out.at_ _).mono ?_; rintro _ _ ⟨rfl, e, rfl⟩))
          repeat (refine wp_region_ext0 _ (by kernel_rfl) (by kernel_rfl) ?_; (repeat (go_big_quiet_step ((first | with_reducible exact C1.out.at_ _)))); refine wpQuiet_nil ?_; intro e; go_wp2_with (first | (go_at_call 176; with_reducible refine (C1.out.at_ _).mono ?_; rintro _ _ ⟨rfl, e, rfl⟩)))
          go_ret
          exact ⟨by rw [E.out]; rfl, ExtOf.old hy2 e⟩
        (try rw [d1] at C1)
        go_wp2_with (first | (go_at_call 176; with_reducible refine (C1.out.at_ _).mono ?_; rintro _ _ ⟨rfl, e, rfl⟩))
        repeat (refine wp_region_ext0 _ (by kernel_rfl) (by kernel_rfl) ?_; (repeat (go_big_quiet_step ((first | with_reducible exact C1.out.at_ _)))); refine wpQuiet_nil ?_; intro e; go_wp2_with (first | (go_at_call 176; with_reducible refine (C1.out.at_ _).mono ?_; rintro _ _ ⟨rfl, e, rfl⟩)))
        exact ⟨⟨k+1, by omega, by go_num, take_eq_snoc hf hxk hyk (eqb_t d1), ⟨e.to, hy2.trans e.h⟩, rfl⟩, by simp [intOf]; omega⟩
      · have : k = n := by omega
        subst this
        have E : Hid (eqb xs ys = true) := by show _ = _; exact eqb_of (take_eq_all hf Hx Hy)
        go_wp2_with fail
        repeat (refine wp_region_ext0 _ (by kernel_rfl) (by kernel_rfl) ?_; (repeat (go_big_quiet_step (fail))); refine wpQuiet_nil ?_; intro e; go_wp2_with fail)
        go_ret
        exact ⟨by rw [E.out]; rfl, _, rfl⟩
  · go_enter Try.func175, Try.ntmps175
    have E : Hid (eqb xs ys = false) := by show _ = _; exact eqb_f (ne_len Hx Hy hnm)
    go_wp2_with fail
    repeat (refine wp_region_ext0 _ (by kernel_rfl) (by kernel_rfl) ?_; (repeat (go_big_quiet_step (fail))); refine wpQuiet_nil ?_; intro e; go_wp2_with fail)
    go_ret
    exact ⟨by rw [E.out]; rfl, _, rfl⟩

set_option maxHeartbeats 2000000 in
theorem SameNet_any (x y : GNet) {bs us cs vs} (w : World) (h : TN w x.enc bs us) (h2 : TN w y.enc cs vs) : Calls Try.prog 86 #[.agg us.toArray, .agg vs.toArray] w fun e w' => e = .returned (.bool (eqb x y)) ∧ Ext w w' := by
  refine quiet_start fun e => ?_
  obtain ⟨P0, p0, q0, rfl, _⟩ := GNet.us (x := x) h
  obtain ⟨R0, r0, s0, rfl, _⟩ := GNet.us (x := y) h2
  go_enter Try.func86, Try.ntmps86
  go_upto_region 1 with (fail)
  generalize hg2 : e.to.heap.size + 1 = g2
  generalize hg1 : e.to.heap.size = g1
  refine rebase_box2 e hg1 hg2 (fun w1 e hx1 hlt1 hlt2 c1 c2 => ?_)
  clear hg1 hg2
  have p1 := PtAt.box hlt1 c1 (TN.below h hx1)
  have p2 := PtAt.box hlt2 c2 (TN.below h2 hx1)
  clear c1 c2
  obtain ⟨A0, c0, a0, x0, tx0⟩ := GNet.pt0 p1
  obtain ⟨B0, d0, z0, y0, ty0⟩ := GNet.pt0 p2
  have C1 : Hid (QC Try.prog w1 _ _ _) := fun W hW => equalAgents_any x.agents y.agents _ _ W (tx0.below hW) (ty0.below hW) Hid_rfl Hid_rfl
  have E : Hid (eqb x y = eqb x.agents y.agents) := by show _ = _; by_cases hd : x.agents = y.agents; rw [eqb_of hd, eqb_of (GNet.ext_ hd)]; rw [eqb_f hd, eqb_f (fun e => hd (by rw [e]))]
  go_wp2_with (first | (go_at_call 175; with_reducible refine (C1.out.at_ _).mono ?_; rintro _ _ ⟨rfl, e, rfl⟩))
  repeat (refine wp_region_ext0 _ (by kernel_rfl) (by kernel_rfl) ?_; (repeat (go_big_quiet_step ((first | with_reducible exact C1.out.at_ _)))); refine wpQuiet_nil ?_; intro e; go_wp2_with (first | (go_at_call 175; with_reducible refine (C1.out.at_ _).mono ?_; rintro _ _ ⟨rfl, e, rfl⟩)))
  go_ret
  exact ⟨by rw [E.out]; rfl, ExtOf.old hx1 e⟩

set_option maxHeartbeats 2000000 in
theorem equalNets_any (xs ys : List GNet) (n m : Nat) {A B : Option Addr} {c d : Nat} {b1 b2 : List Nat} (w : World) (hx : T1 w (.sl n (xs.flatMap GNet.enc)) b1 (.slice A n c)) (hy : T1 w (.sl m (ys.flatMap GNet.enc)) b2 (.slice B m d)) (Hx : Hid (xs.length = n)) (Hy : Hid (ys.length = m)) : Calls Try.prog 85 #[.slice A n c, .slice B m d, .func (.func 86) #[] #[]] w fun e w' => e = .returned (.bool (eqb xs ys)) ∧ Ext w w' := by
  refine quiet_start fun e => ?_
  have hn := hx.nle
  have hm := hy.nle
  by_cases hnm : n = m
  · subst hnm
    go_enter Try.func85, Try.ntmps85
    go_wp2_with fail
    repeat (refine wp_region_ext0 _ (by kernel_rfl) (by kernel_rfl) ?_; (repeat (go_big_quiet_step (fail))); refine wpQuiet_nil ?_; intro e; go_wp2_with fail)
    go_loopw [7,17] (fun _ i w' => ∃ k : Nat, k ≤ n ∧ i = .int .i64 k ∧ Hid (xs.take k = ys.take k) ∧ ∃ e : ExtOf w, w' = e.to) (fun _ i _ => n - (intOf i).toNat)
    case atStart => exact ⟨0, Nat.zero_le _, rfl, rfl, _, rfl⟩
    case round =>
      obtain ⟨k, hk, rfl, hf, e, rfl⟩ := hrel
      by_cases hlt : k < n
      · skip
        obtain ⟨bx, ox, x, px, rfl, hxk, hpx⟩ := T1.elem GNet.enc_len hx Hx hlt
        obtain ⟨by_, oy, y, py, rfl, hyk, hpy⟩ := T1.elem GNet.enc_len hy Hy hlt
        obtain ⟨A0, c0, a0, kx0, tx0⟩ := GNet.pt hpx
        obtain ⟨B0, d0, z0, ky0, ty0⟩ := GNet.pt hpy
        rw [Nat.mul_one] at kx0 ky0
        go_upto_region 6 with (fail)
        generalize hgga : e.to.heap.size = ga
        refine rebase_box e hgga (fun w1 e hx1 hgega hltga cga => ?_)
        clear hgga
        replace ky0 := ky0.ext hx1
        replace tx0 := tx0.below hx1
        replace ty0 := ty0.below hx1
        have bx0 := cga.always hltga 0 _ rfl
        simp only [Nat.zero_add] at bx0
        clear cga
        go_upto_region 7 with (fail)
        generalize hggb : e.to.heap.size = gb
        refine rebase_box e hggb (fun w2 e hx2 hgegb hltgb cgb => ?_)
        clear hggb
        replace bx0 := bx0.ext hx2
        replace tx0 := tx0.below hx2
        replace ty0 := ty0.below hx2
        have hy2 := Ext.trans hx1 hx2
        have bz0 := cgb.always hltgb 0 _ rfl
        simp only [Nat.zero_add] at bz0
        clear cgb
        clear kx0 ky0
        have UX : TN w2 x.enc _ _ := (GNet.mk_ tx0)
        have UY : TN w2 y.enc _ _ := (GNet.mk_ ty0)
        have C1 : Hid (QC Try.prog w2 _ _ _) := fun W hW => SameNet_any x y W (UX.below hW) (UY.below hW)
        cases d1 : eqb x y
        case false =>
          (try rw [d1] at C1)
          have E : Hid (eqb xs ys = false) := by show _ = _; exact eqb_f (ne_at hxk hyk (eqb_nf d1))
          go_wp2_with (first | (go_at_call 86; with_reducible refine (C1.out.at_ _).mono ?_; rintro _ _ ⟨rfl, e, rfl⟩))
          repeat (refine wp_region_ext0 _ (by kernel_rfl) (by kernel_rfl) ?_; (repeat (go_big_quiet_step ((first | with_reducible exact C1.out.at_ _)))); refine wpQuiet_nil ?_; intro e; go_wp2_with (first | (go_at_call 86; with_reducible refine (C1.out.at_ _).mono ?_; rintro _ _ ⟨rfl, e, rfl⟩)))
          go_ret
          exact ⟨by rw [E.out]; rfl, ExtOf.old hy2 e⟩
        (try rw [d1] at C1)
        go_wp2_with (first | (go_at_call 86; with_reducible refine (C1.out.at_ _).mono ?_; rintro _ _ ⟨rfl, e, rfl⟩))
        repeat (refine wp_region_ext0 _ (by kernel_rfl) (by kernel_rfl) ?_; (repeat (go_big_quiet_step ((first | with_reducible exact C1.out.at_ _)))); refine wpQuiet_nil ?_; intro e; go_wp2_with (first | (go_at_call 86; with_reducible refine (C1.out.at_ _).mono ?_; rintro _ _ ⟨rfl, e, rfl⟩)))
        exact ⟨⟨k+1, by omega, by go_num, take_eq_snoc hf hxk hyk (eqb_t d1), ⟨e.to, hy2.trans e.h⟩, rfl⟩, by simp [intOf]; omega⟩
      · have : k = n := by omega
        subst this
        have E : Hid (eqb xs ys = true) := by show _ = _; exact eqb_of (take_eq_all hf Hx Hy)
        go_wp2_with fail
        repeat (refine wp_region_ext0 _ (by kernel_rfl) (by kernel_rfl) ?_; (repeat (go_big_quiet_step (fail))); refine wpQuiet_nil ?_; intro e; go_wp2_with fail)
        go_ret
        exact ⟨by rw [E.out]; rfl, _, rfl⟩
  · go_enter Try.func85, Try.ntmps85
    have E : Hid (eqb xs ys = false) := by show _ = _; exact eqb_f (ne_len Hx Hy hnm)
    go_wp2_with fail
    repeat (refine wp_region_ext0 _ (by kernel_rfl) (by kernel_rfl) ?_; (repeat (go_big_quiet_step (fail))); refine wpQuiet_nil ?_; intro e; go_wp2_with fail)
    go_ret
    exact ⟨by rw [E.out]; rfl, _, rfl⟩

set_option maxHeartbeats 2000000 in
theorem samePoint_any (x y : GCheckpoint) {bs us cs vs} (w : World) (h : TN w x.enc bs us) (h2 : TN w y.enc cs vs) : Calls Try.prog 91 #[.agg us.toArray, .agg vs.toArray] w fun e w' => e = .returned (.bool (eqb x y)) ∧ Ext w w' := by
  refine quiet_start fun e => ?_
  obtain ⟨P3, p3, q3, P4, p4, q4, rfl, _⟩ := GCheckpoint.us (x := x) h
  obtain ⟨R3, r3, s3, R4, r4, s4, rfl, _⟩ := GCheckpoint.us (x := y) h2
  go_enter Try.func91, Try.ntmps91
  go_upto_region 1 with (fail)
  generalize hg2 : e.to.heap.size + 1 = g2
  generalize hg1 : e.to.heap.size = g1
  refine rebase_box2 e hg1 hg2 (fun w1 e hx1 hlt1 hlt2 c1 c2 => ?_)
  clear hg1 hg2
  have p1 := PtAt.box hlt1 c1 (TN.below h hx1)
  have p2 := PtAt.box hlt2 c2 (TN.below h2 hx1)
  clear c1 c2
  obtain ⟨A1, c1, a1, A2, c2, a2, x0, x1, x2, tx1, tx2⟩ := GCheckpoint.pt0 p1
  obtain ⟨B1, d1, z1, B2, d2, z2, y0, y1, y2, ty1, ty2⟩ := GCheckpoint.pt0 p2
  have C1 : Hid (QC Try.prog w1 _ _ _) := fun W hW => SameNet_any x.net y.net W (GNet.mk_ (tx1.below hW)) (GNet.mk_ (ty1.below hW))
  have C2 : Hid (QC Try.prog w1 _ _ _) := fun W hW => equalOrigins_any x.origins y.origins _ _ W (tx2.below hW) (ty2.below hW) Hid_rfl Hid_rfl
  cases d1 : (x.at_ == y.at_)
  case false =>
    (try rw [d1] at C1); (try rw [d1] at C2)
    have E : Hid (eqb x y = false) := by show _ = _; exact eqb_f (fun e => by rw [e] at d1; simp at d1)
    go_wp2_with (first | (go_at_call 86; with_reducible refine (C1.out.at_ _).mono ?_; rintro _ _ ⟨rfl, e, rfl⟩) | (go_at_call 88; with_reducible refine (C2.out.at_ _).mono ?_; rintro _ _ ⟨rfl, e, rfl⟩))
    repeat (refine wp_region_ext0 _ (by kernel_rfl) (by kernel_rfl) ?_; (repeat (go_big_quiet_step ((first | with_reducible exact C1.out.at_ _ | with_reducible exact C2.out.at_ _)))); refine wpQuiet_nil ?_; intro e; go_wp2_with (first | (go_at_call 86; with_reducible refine (C1.out.at_ _).mono ?_; rintro _ _ ⟨rfl, e, rfl⟩) | (go_at_call 88; with_reducible refine (C2.out.at_ _).mono ?_; rintro _ _ ⟨rfl, e, rfl⟩)))
    go_ret
    exact ⟨by rw [E.out]; rfl, ExtOf.old hx1 e⟩
  (try rw [d1] at C1); (try rw [d1] at C2)
  cases d2 : eqb x.net y.net
  case false =>
    (try rw [d2] at C1); (try rw [d2] at C2)
    have E : Hid (eqb x y = false) := by show _ = _; exact eqb_f (fun e => by rw [e, eqb_self] at d2; cases d2)
    go_wp2_with (first | (go_at_call 86; with_reducible refine (C1.out.at_ _).mono ?_; rintro _ _ ⟨rfl, e, rfl⟩) | (go_at_call 88; with_reducible refine (C2.out.at_ _).mono ?_; rintro _ _ ⟨rfl, e, rfl⟩))
    repeat (refine wp_region_ext0 _ (by kernel_rfl) (by kernel_rfl) ?_; (repeat (go_big_quiet_step ((first | with_reducible exact C1.out.at_ _ | with_reducible exact C2.out.at_ _)))); refine wpQuiet_nil ?_; intro e; go_wp2_with (first | (go_at_call 86; with_reducible refine (C1.out.at_ _).mono ?_; rintro _ _ ⟨rfl, e, rfl⟩) | (go_at_call 88; with_reducible refine (C2.out.at_ _).mono ?_; rintro _ _ ⟨rfl, e, rfl⟩)))
    go_ret
    exact ⟨by rw [E.out]; rfl, ExtOf.old hx1 e⟩
  (try rw [d2] at C1); (try rw [d2] at C2)
  cases d3 : eqb x.origins y.origins
  case false =>
    (try rw [d3] at C1); (try rw [d3] at C2)
    have E : Hid (eqb x y = false) := by show _ = _; exact eqb_f (fun e => by rw [e, eqb_self] at d3; cases d3)
    go_wp2_with (first | (go_at_call 86; with_reducible refine (C1.out.at_ _).mono ?_; rintro _ _ ⟨rfl, e, rfl⟩) | (go_at_call 88; with_reducible refine (C2.out.at_ _).mono ?_; rintro _ _ ⟨rfl, e, rfl⟩))
    repeat (refine wp_region_ext0 _ (by kernel_rfl) (by kernel_rfl) ?_; (repeat (go_big_quiet_step ((first | with_reducible exact C1.out.at_ _ | with_reducible exact C2.out.at_ _)))); refine wpQuiet_nil ?_; intro e; go_wp2_with (first | (go_at_call 86; with_reducible refine (C1.out.at_ _).mono ?_; rintro _ _ ⟨rfl, e, rfl⟩) | (go_at_call 88; with_reducible refine (C2.out.at_ _).mono ?_; rintro _ _ ⟨rfl, e, rfl⟩)))
    go_ret
    exact ⟨by rw [E.out]; rfl, ExtOf.old hx1 e⟩
  (try rw [d3] at C1); (try rw [d3] at C2)
  have E : Hid (eqb x y = true) := by show _ = _; exact eqb_of (GCheckpoint.ext_ (by simpa using d1) (eqb_t d2) (eqb_t d3))
  go_wp2_with (first | (go_at_call 86; with_reducible refine (C1.out.at_ _).mono ?_; rintro _ _ ⟨rfl, e, rfl⟩) | (go_at_call 88; with_reducible refine (C2.out.at_ _).mono ?_; rintro _ _ ⟨rfl, e, rfl⟩))
  repeat (refine wp_region_ext0 _ (by kernel_rfl) (by kernel_rfl) ?_; (repeat (go_big_quiet_step ((first | with_reducible exact C1.out.at_ _ | with_reducible exact C2.out.at_ _)))); refine wpQuiet_nil ?_; intro e; go_wp2_with (first | (go_at_call 86; with_reducible refine (C1.out.at_ _).mono ?_; rintro _ _ ⟨rfl, e, rfl⟩) | (go_at_call 88; with_reducible refine (C2.out.at_ _).mono ?_; rintro _ _ ⟨rfl, e, rfl⟩)))
  go_ret
  exact ⟨by rw [E.out]; rfl, ExtOf.old hx1 e⟩

set_option maxHeartbeats 2000000 in
theorem equalPoints_any (xs ys : List GCheckpoint) (n m : Nat) {A B : Option Addr} {c d : Nat} {b1 b2 : List Nat} (w : World) (hx : T1 w (.sl n (xs.flatMap GCheckpoint.enc)) b1 (.slice A n c)) (hy : T1 w (.sl m (ys.flatMap GCheckpoint.enc)) b2 (.slice B m d)) (Hx : Hid (xs.length = n)) (Hy : Hid (ys.length = m)) : Calls Try.prog 90 #[.slice A n c, .slice B m d, .func (.func 91) #[] #[]] w fun e w' => e = .returned (.bool (eqb xs ys)) ∧ Ext w w' := by
  refine quiet_start fun e => ?_
  have hn := hx.nle
  have hm := hy.nle
  by_cases hnm : n = m
  · subst hnm
    go_enter Try.func90, Try.ntmps90
    go_wp2_with fail
    repeat (refine wp_region_ext0 _ (by kernel_rfl) (by kernel_rfl) ?_; (repeat (go_big_quiet_step (fail))); refine wpQuiet_nil ?_; intro e; go_wp2_with fail)
    go_loopw [7,17] (fun _ i w' => ∃ k : Nat, k ≤ n ∧ i = .int .i64 k ∧ Hid (xs.take k = ys.take k) ∧ ∃ e : ExtOf w, w' = e.to) (fun _ i _ => n - (intOf i).toNat)
    case atStart => exact ⟨0, Nat.zero_le _, rfl, rfl, _, rfl⟩
    case round =>
      obtain ⟨k, hk, rfl, hf, e, rfl⟩ := hrel
      by_cases hlt : k < n
      · skip
        obtain ⟨bx, ox, x, px, rfl, hxk, hpx⟩ := T1.elem GCheckpoint.enc_len hx Hx hlt
        obtain ⟨by_, oy, y, py, rfl, hyk, hpy⟩ := T1.elem GCheckpoint.enc_len hy Hy hlt
        obtain ⟨A1, c1, a1, A2, c2, a2, kx0, kx1, kx2, tx1, tx2⟩ := GCheckpoint.pt hpx
        obtain ⟨B1, d1, z1, B2, d2, z2, ky0, ky1, ky2, ty1, ty2⟩ := GCheckpoint.pt hpy
        go_upto_region 6 with (fail)
        generalize hgga : e.to.heap.size = ga
        refine rebase_box e hgga (fun w1 e hx1 hgega hltga cga => ?_)
        clear hgga
        replace ky0 := ky0.ext hx1
        replace ky1 := ky1.ext hx1
        replace ky2 := ky2.ext hx1
        replace tx1 := tx1.below hx1
        replace tx2 := tx2.below hx1
        replace ty1 := ty1.below hx1
        replace ty2 := ty2.below hx1
        have bx0 := cga.always hltga 0 _ rfl
        have bx1 := cga.always hltga 1 _ rfl
        have bx2 := cga.always hltga 2 _ rfl
        simp only [Nat.zero_add] at bx0 bx1 bx2
        clear cga
        go_upto_region 7 with (fail)
        generalize hggb : e.to.heap.size = gb
        refine rebase_box e hggb (fun w2 e hx2 hgegb hltgb cgb => ?_)
        clear hggb
        replace bx0 := bx0.ext hx2
        replace bx1 := bx1.ext hx2
        replace bx2 := bx2.ext hx2
        replace tx1 := tx1.below hx2
        replace tx2 := tx2.below hx2
        replace ty1 := ty1.below hx2
        replace ty2 := ty2.below hx2
        have hy2 := Ext.trans hx1 hx2
        have bz0 := cgb.always hltgb 0 _ rfl
        have bz1 := cgb.always hltgb 1 _ rfl
        have bz2 := cgb.always hltgb 2 _ rfl
        simp only [Nat.zero_add] at bz0 bz1 bz2
        clear cgb
        clear kx0 kx1 kx2 ky0 ky1 ky2
        have UX : TN w2 x.enc _ _ := (GCheckpoint.mk_ tx1 tx2)
        have UY : TN w2 y.enc _ _ := (GCheckpoint.mk_ ty1 ty2)
        have C1 : Hid (QC Try.prog w2 _ _ _) := fun W hW => samePoint_any x y W (UX.below hW) (UY.below hW)
        cases d1 : eqb x y
        case false =>
          (try rw [d1] at C1)
          have E : Hid (eqb xs ys = false) := by show _ = _; exact eqb_f (ne_at hxk hyk (eqb_nf d1))
          go_wp2_with (first | (go_at_call 91; with_reducible refine (C1.out.at_ _).mono ?_; rintro _ _ ⟨rfl, e, rfl⟩))
          repeat (refine wp_region_ext0 _ (by kernel_rfl) (by kernel_rfl) ?_; (repeat (go_big_quiet_step ((first | with_reducible exact C1.out.at_ _)))); refine wpQuiet_nil ?_; intro e; go_wp2_with (first | (go_at_call 91; with_reducible refine (C1.out.at_ _).mono ?_; rintro _ _ ⟨rfl, e, rfl⟩)))
          go_ret
          exact ⟨by rw [E.out]; rfl, ExtOf.old hy2 e⟩
        (try rw [d1] at C1)
        go_wp2_with (first | (go_at_call 91; with_reducible refine (C1.out.at_ _).mono ?_; rintro _ _ ⟨rfl, e, rfl⟩))
        repeat (refine wp_region_ext0 _ (by kernel_rfl) (by kernel_rfl) ?_; (repeat (go_big_quiet_step ((first | with_reducible exact C1.out.at_ _)))); refine wpQuiet_nil ?_; intro e; go_wp2_with (first | (go_at_call 91; with_reducible refine (C1.out.at_ _).mono ?_; rintro _ _ ⟨rfl, e, rfl⟩)))
        exact ⟨⟨k+1, by omega, by go_num, take_eq_snoc hf hxk hyk (eqb_t d1), ⟨e.to, hy2.trans e.h⟩, rfl⟩, by simp [intOf]; omega⟩
      · have : k = n := by omega
        subst this
        have E : Hid (eqb xs ys = true) := by show _ = _; exact eqb_of (take_eq_all hf Hx Hy)
        go_wp2_with fail
        repeat (refine wp_region_ext0 _ (by kernel_rfl) (by kernel_rfl) ?_; (repeat (go_big_quiet_step (fail))); refine wpQuiet_nil ?_; intro e; go_wp2_with fail)
        go_ret
        exact ⟨by rw [E.out]; rfl, _, rfl⟩
  · go_enter Try.func90, Try.ntmps90
    have E : Hid (eqb xs ys = false) := by show _ = _; exact eqb_f (ne_len Hx Hy hnm)
    go_wp2_with fail
    repeat (refine wp_region_ext0 _ (by kernel_rfl) (by kernel_rfl) ?_; (repeat (go_big_quiet_step (fail))); refine wpQuiet_nil ?_; intro e; go_wp2_with fail)
    go_ret
    exact ⟨by rw [E.out]; rfl, _, rfl⟩
end Go.Proofs.Ytmmdkchhahnenaa
