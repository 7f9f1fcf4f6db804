/- The reference's functions on agents: what makes them valid. Printed by gen_net.py. -/
import Derived.Test.YthciaodffkbljaaGreatProg
import Derived.Test.YthciaodffkbljaaGreatAgents
import Derived.Test.YthciaodffkbljaaGreatNet
import Derived.Test.YthciaodffkbljaaGreatQDbg
import Derived.BigGuardPart
import Derived.Outline
import Derived.Deep.CutBlock
set_option linter.unusedSimpArgs false
set_option linter.unusedVariables false
namespace Go.Proofs.YthciaodffkbljaaGreat
open Go Go.RowKit Go.Proofs Go.Tr
set_option maxHeartbeats 1000000 in
theorem l11Fields_any (x : GAgent) (b o : Nat) (bs : List Nat) (w : World) (h : PtAt w b o x.enc bs) : Calls Tryz.prog 193 #[.pointer (some ⟨b, o, none⟩)] w fun e w' => e = .returned (.int .i64 (fieldsOf x)) ∧ Ext w w' := by
  refine quiet_start fun e => ?_
  obtain ⟨A3, c3, b3, A4, c4, b4, h0, h1, h2, h3, h4, t3, t4⟩ := GAgent.pt h
  go_enter Tryz.func193, Tryz.ntmps193
  have hn4 := t4.nle
  cases d1 : (x.kind == 9)
  case false =>
    have E : Hid (fieldsOf x = 0) := by show _ = _; simp at d1; simp [fieldsOf, fieldsK, d1]
    go_wp2_with fail
    repeat (refine wp_region_ext0 _ (by kernel_rfl) (by kernel_rfl) ?_; (repeat (go_big_quiet_step (fail))); refine wpQuiet_nil ?_; intro e; go_wp2_with fail)
    go_ret
    exact ⟨by rw [E.out]; rfl, _, rfl⟩
  have E : Hid (fieldsOf x = (x.ports.length : Int) - 1) := by show _ = _; simp at d1; simp [fieldsOf, fieldsK, d1]
  go_wp2_with fail
  repeat (refine wp_region_ext0 _ (by kernel_rfl) (by kernel_rfl) ?_; (repeat (go_big_quiet_step (fail))); refine wpQuiet_nil ?_; intro e; go_wp2_with fail)
  go_ret
  exact ⟨by rw [E.out]; rfl, _, rfl⟩

set_option maxHeartbeats 1000000 in
theorem l11Def_any (n : Int) (w : World)  : Calls Tryz.prog 201 #[.int .i64 n] w fun e w' => e = .returned (.bool (defB n)) ∧ Ext w w' := by
  refine quiet_start fun e => ?_
  have C1 : Hid (QC Tryz.prog w _ _ _) := fun W hW => (l00In_any n 0 23 W).q
  go_enter Tryz.func201, Tryz.ntmps201
  go_wp2_with (first | (go_at_call 51; with_reducible refine (C1.out.at_ _).mono ?_; rintro _ _ ⟨rfl, e, rfl⟩))
  repeat (refine wp_region_ext0 _ (by kernel_rfl) (by kernel_rfl) ?_; (repeat (go_big_quiet_step ((first | with_reducible exact C1.out.at_ _)))); refine wpQuiet_nil ?_; intro e; go_wp2_with (first | (go_at_call 51; with_reducible refine (C1.out.at_ _).mono ?_; rintro _ _ ⟨rfl, e, rfl⟩)))
  go_ret
  exact ⟨rfl, _, rfl⟩

set_option maxHeartbeats 2000000 in
theorem specPortsOf_any (k f : Int) (w : World)  : Calls Tryz.prog 192 #[.int .i64 k, .int .i64 f] w fun e w' => e = .returned (.int .i64 (portsOf k f)) ∧ Ext w w' := by
  refine quiet_start fun e => ?_
  have C1 : Hid (QC Tryz.prog w _ _ _) := fun W hW => (l00In_any f 0 3 W).q
  cases d1 : inB f 0 3
  case true =>
    have hf := inB_t d1
    go_enter Tryz.func192, Tryz.ntmps192
    go_wp2_with (first | (go_at_call 51; with_reducible refine (C1.out.at_ _).mono ?_; rintro _ _ ⟨rfl, e, rfl⟩))
    repeat (refine wp_region_ext0 _ (by kernel_rfl) (by kernel_rfl) ?_; (repeat (go_big_quiet_step ((first | with_reducible exact C1.out.at_ _)))); refine wpQuiet_nil ?_; intro e; go_wp2_with (first | (go_at_call 51; with_reducible refine (C1.out.at_ _).mono ?_; rintro _ _ ⟨rfl, e, rfl⟩)))
    all_goals go_ret
    all_goals refine ⟨?_, _, rfl⟩
    all_goals first | (simp [portsOf, *]; done) | (simp [portsOf, *]; omega) | (simp_all [portsOf]; done) | (simp_all [portsOf]; omega)
  go_enter Tryz.func192, Tryz.ntmps192
  go_wp2_with (first | (go_at_call 51; with_reducible refine (C1.out.at_ _).mono ?_; rintro _ _ ⟨rfl, e, rfl⟩))
  repeat (refine wp_region_ext0 _ (by kernel_rfl) (by kernel_rfl) ?_; (repeat (go_big_quiet_step ((first | with_reducible exact C1.out.at_ _)))); refine wpQuiet_nil ?_; intro e; go_wp2_with (first | (go_at_call 51; with_reducible refine (C1.out.at_ _).mono ?_; rintro _ _ ⟨rfl, e, rfl⟩)))
  all_goals go_ret
  all_goals refine ⟨?_, _, rfl⟩
  all_goals first | (simp [portsOf, *]; done) | (simp [portsOf, *]; omega) | (simp_all [portsOf]; done) | (simp_all [portsOf]; omega)

set_option maxHeartbeats 4000000 in
theorem l11Content_any (x : GAgent) (b o : Nat) (bs : List Nat) (w : World) (h : PtAt w b o x.enc bs) : Calls Tryz.prog 195 #[.pointer (some ⟨b, o, none⟩)] w fun e w' => e = .returned (.bool (contentB x)) ∧ Ext w w' := by
  refine quiet_start fun e => ?_
  obtain ⟨A3, c3, b3, A4, c4, b4, h0, h1, h2, h3, h4, t3, t4⟩ := GAgent.pt h
  have hn3 := t3.nle
  have C1 : Hid (QC Tryz.prog w _ _ _) := fun W hW => (l00In_any x.value (-2147483648) 2147483647 W).q
  have C2 : Hid (QC Tryz.prog w _ _ _) := fun W hW => (l00In_any x.value 1 6 W).q
  have C3 : Hid (QC Tryz.prog w _ _ _) := fun W hW => (l00In_any x.value 0 3 W).q
  have C4 : Hid (QC Tryz.prog w _ _ _) := fun W hW => l11Def_any x.value W
  have C5 : Hid (QC Tryz.prog w _ _ _) := fun W hW => (l00In_any x.data.length 1 4 W).q
  go_enter Tryz.func195, Tryz.ntmps195
  cases d1 : (x.kind == 6)
  case true =>
    (try rw [d1] at C1); (try rw [d1] at C2); (try rw [d1] at C3); (try rw [d1] at C4); (try rw [d1] at C5)
    cases d2 : ((x.data.length : Int) == 0)
    case false =>
      (try rw [d2] at C1); (try rw [d2] at C2); (try rw [d2] at C3); (try rw [d2] at C4); (try rw [d2] at C5)
      have E : Hid (contentB x = false) := by show _ = _; first | (simp only [contentB, intB, operB, defB, d1, d2]; done) | (simp only [contentB, intB, operB, defB, d1, d2]; rfl) | (simp [contentB, intB, operB, defB, d1, d2]; done) | ((try simp at d1); (try simp at d2); simp [contentB, intB, operB, defB, d1, d2]; done)
      go_wp2_with (first | (go_at_call 51; with_reducible refine (C1.out.at_ _).mono ?_; rintro _ _ ⟨rfl, e, rfl⟩) | (go_at_call 51; with_reducible refine (C2.out.at_ _).mono ?_; rintro _ _ ⟨rfl, e, rfl⟩) | (go_at_call 51; with_reducible refine (C3.out.at_ _).mono ?_; rintro _ _ ⟨rfl, e, rfl⟩) | (go_at_call 201; with_reducible refine (C4.out.at_ _).mono ?_; rintro _ _ ⟨rfl, e, rfl⟩) | (go_at_call 51; with_reducible refine (C5.out.at_ _).mono ?_; rintro _ _ ⟨rfl, e, rfl⟩))
      repeat (refine wp_region_ext0 _ (by kernel_rfl) (by kernel_rfl) ?_; (repeat (go_big_quiet_step ((first | with_reducible exact C1.out.at_ _ | with_reducible exact C2.out.at_ _ | with_reducible exact C3.out.at_ _ | with_reducible exact C4.out.at_ _ | with_reducible exact C5.out.at_ _)))); refine wpQuiet_nil ?_; intro e; go_wp2_with (first | (go_at_call 51; with_reducible refine (C1.out.at_ _).mono ?_; rintro _ _ ⟨rfl, e, rfl⟩) | (go_at_call 51; with_reducible refine (C2.out.at_ _).mono ?_; rintro _ _ ⟨rfl, e, rfl⟩) | (go_at_call 51; with_reducible refine (C3.out.at_ _).mono ?_; rintro _ _ ⟨rfl, e, rfl⟩) | (go_at_call 201; with_reducible refine (C4.out.at_ _).mono ?_; rintro _ _ ⟨rfl, e, rfl⟩) | (go_at_call 51; with_reducible refine (C5.out.at_ _).mono ?_; rintro _ _ ⟨rfl, e, rfl⟩)))
      go_ret
      exact ⟨by rw [E.out]; rfl, _, rfl⟩
    (try rw [d2] at C1); (try rw [d2] at C2); (try rw [d2] at C3); (try rw [d2] at C4); (try rw [d2] at C5)
    have E : Hid (contentB x = intB x.value) := by show _ = _; first | (simp only [contentB, intB, operB, defB, d1, d2]; done) | (simp only [contentB, intB, operB, defB, d1, d2]; rfl) | (simp [contentB, intB, operB, defB, d1, d2]; done) | ((try simp at d1); (try simp at d2); simp [contentB, intB, operB, defB, d1, d2]; done)
    go_wp2_with (first | (go_at_call 51; with_reducible refine (C1.out.at_ _).mono ?_; rintro _ _ ⟨rfl, e, rfl⟩) | (go_at_call 51; with_reducible refine (C2.out.at_ _).mono ?_; rintro _ _ ⟨rfl, e, rfl⟩) | (go_at_call 51; with_reducible refine (C3.out.at_ _).mono ?_; rintro _ _ ⟨rfl, e, rfl⟩) | (go_at_call 201; with_reducible refine (C4.out.at_ _).mono ?_; rintro _ _ ⟨rfl, e, rfl⟩) | (go_at_call 51; with_reducible refine (C5.out.at_ _).mono ?_; rintro _ _ ⟨rfl, e, rfl⟩))
    repeat (refine wp_region_ext0 _ (by kernel_rfl) (by kernel_rfl) ?_; (repeat (go_big_quiet_step ((first | with_reducible exact C1.out.at_ _ | with_reducible exact C2.out.at_ _ | with_reducible exact C3.out.at_ _ | with_reducible exact C4.out.at_ _ | with_reducible exact C5.out.at_ _)))); refine wpQuiet_nil ?_; intro e; go_wp2_with (first | (go_at_call 51; with_reducible refine (C1.out.at_ _).mono ?_; rintro _ _ ⟨rfl, e, rfl⟩) | (go_at_call 51; with_reducible refine (C2.out.at_ _).mono ?_; rintro _ _ ⟨rfl, e, rfl⟩) | (go_at_call 51; with_reducible refine (C3.out.at_ _).mono ?_; rintro _ _ ⟨rfl, e, rfl⟩) | (go_at_call 201; with_reducible refine (C4.out.at_ _).mono ?_; rintro _ _ ⟨rfl, e, rfl⟩) | (go_at_call 51; with_reducible refine (C5.out.at_ _).mono ?_; rintro _ _ ⟨rfl, e, rfl⟩)))
    go_ret
    exact ⟨by rw [E.out]; rfl, _, rfl⟩
  (try rw [d1] at C1); (try rw [d1] at C2); (try rw [d1] at C3); (try rw [d1] at C4); (try rw [d1] at C5)
  cases d3 : (x.kind == 7)
  case true =>
    (try rw [d3] at C1); (try rw [d3] at C2); (try rw [d3] at C3); (try rw [d3] at C4); (try rw [d3] at C5)
    cases d4 : ((x.data.length : Int) == 0)
    case false =>
      (try rw [d4] at C1); (try rw [d4] at C2); (try rw [d4] at C3); (try rw [d4] at C4); (try rw [d4] at C5)
      have E : Hid (contentB x = false) := by show _ = _; first | (simp only [contentB, intB, operB, defB, d1, d3, d4]; done) | (simp only [contentB, intB, operB, defB, d1, d3, d4]; rfl) | (simp [contentB, intB, operB, defB, d1, d3, d4]; done) | ((try simp at d1); (try simp at d3); (try simp at d4); simp [contentB, intB, operB, defB, d1, d3, d4]; done)
      go_wp2_with (first | (go_at_call 51; with_reducible refine (C1.out.at_ _).mono ?_; rintro _ _ ⟨rfl, e, rfl⟩) | (go_at_call 51; with_reducible refine (C2.out.at_ _).mono ?_; rintro _ _ ⟨rfl, e, rfl⟩) | (go_at_call 51; with_reducible refine (C3.out.at_ _).mono ?_; rintro _ _ ⟨rfl, e, rfl⟩) | (go_at_call 201; with_reducible refine (C4.out.at_ _).mono ?_; rintro _ _ ⟨rfl, e, rfl⟩) | (go_at_call 51; with_reducible refine (C5.out.at_ _).mono ?_; rintro _ _ ⟨rfl, e, rfl⟩))
      repeat (refine wp_region_ext0 _ (by kernel_rfl) (by kernel_rfl) ?_; (repeat (go_big_quiet_step ((first | with_reducible exact C1.out.at_ _ | with_reducible exact C2.out.at_ _ | with_reducible exact C3.out.at_ _ | with_reducible exact C4.out.at_ _ | with_reducible exact C5.out.at_ _)))); refine wpQuiet_nil ?_; intro e; go_wp2_with (first | (go_at_call 51; with_reducible refine (C1.out.at_ _).mono ?_; rintro _ _ ⟨rfl, e, rfl⟩) | (go_at_call 51; with_reducible refine (C2.out.at_ _).mono ?_; rintro _ _ ⟨rfl, e, rfl⟩) | (go_at_call 51; with_reducible refine (C3.out.at_ _).mono ?_; rintro _ _ ⟨rfl, e, rfl⟩) | (go_at_call 201; with_reducible refine (C4.out.at_ _).mono ?_; rintro _ _ ⟨rfl, e, rfl⟩) | (go_at_call 51; with_reducible refine (C5.out.at_ _).mono ?_; rintro _ _ ⟨rfl, e, rfl⟩)))
      go_ret
      exact ⟨by rw [E.out]; rfl, _, rfl⟩
    (try rw [d4] at C1); (try rw [d4] at C2); (try rw [d4] at C3); (try rw [d4] at C4); (try rw [d4] at C5)
    have E : Hid (contentB x = operB x.value) := by show _ = _; first | (simp only [contentB, intB, operB, defB, d1, d3, d4]; done) | (simp only [contentB, intB, operB, defB, d1, d3, d4]; rfl) | (simp [contentB, intB, operB, defB, d1, d3, d4]; done) | ((try simp at d1); (try simp at d3); (try simp at d4); simp [contentB, intB, operB, defB, d1, d3, d4]; done)
    go_wp2_with (first | (go_at_call 51; with_reducible refine (C1.out.at_ _).mono ?_; rintro _ _ ⟨rfl, e, rfl⟩) | (go_at_call 51; with_reducible refine (C2.out.at_ _).mono ?_; rintro _ _ ⟨rfl, e, rfl⟩) | (go_at_call 51; with_reducible refine (C3.out.at_ _).mono ?_; rintro _ _ ⟨rfl, e, rfl⟩) | (go_at_call 201; with_reducible refine (C4.out.at_ _).mono ?_; rintro _ _ ⟨rfl, e, rfl⟩) | (go_at_call 51; with_reducible refine (C5.out.at_ _).mono ?_; rintro _ _ ⟨rfl, e, rfl⟩))
    repeat (refine wp_region_ext0 _ (by kernel_rfl) (by kernel_rfl) ?_; (repeat (go_big_quiet_step ((first | with_reducible exact C1.out.at_ _ | with_reducible exact C2.out.at_ _ | with_reducible exact C3.out.at_ _ | with_reducible exact C4.out.at_ _ | with_reducible exact C5.out.at_ _)))); refine wpQuiet_nil ?_; intro e; go_wp2_with (first | (go_at_call 51; with_reducible refine (C1.out.at_ _).mono ?_; rintro _ _ ⟨rfl, e, rfl⟩) | (go_at_call 51; with_reducible refine (C2.out.at_ _).mono ?_; rintro _ _ ⟨rfl, e, rfl⟩) | (go_at_call 51; with_reducible refine (C3.out.at_ _).mono ?_; rintro _ _ ⟨rfl, e, rfl⟩) | (go_at_call 201; with_reducible refine (C4.out.at_ _).mono ?_; rintro _ _ ⟨rfl, e, rfl⟩) | (go_at_call 51; with_reducible refine (C5.out.at_ _).mono ?_; rintro _ _ ⟨rfl, e, rfl⟩)))
    go_ret
    exact ⟨by rw [E.out]; rfl, _, rfl⟩
  (try rw [d3] at C1); (try rw [d3] at C2); (try rw [d3] at C3); (try rw [d3] at C4); (try rw [d3] at C5)
  cases d5 : (x.kind == 8)
  case true =>
    (try rw [d5] at C1); (try rw [d5] at C2); (try rw [d5] at C3); (try rw [d5] at C4); (try rw [d5] at C5)
    cases d6 : ((x.data.length : Int) == 1)
    case false =>
      (try rw [d6] at C1); (try rw [d6] at C2); (try rw [d6] at C3); (try rw [d6] at C4); (try rw [d6] at C5)
      have E : Hid (contentB x = false) := by show _ = _; first | (simp only [contentB, intB, operB, defB, d1, d3, d5, d6]; done) | (simp only [contentB, intB, operB, defB, d1, d3, d5, d6]; rfl) | (simp [contentB, intB, operB, defB, d1, d3, d5, d6]; done) | ((try simp at d1); (try simp at d3); (try simp at d5); (try simp at d6); simp [contentB, intB, operB, defB, d1, d3, d5, d6]; done)
      go_wp2_with (first | (go_at_call 51; with_reducible refine (C1.out.at_ _).mono ?_; rintro _ _ ⟨rfl, e, rfl⟩) | (go_at_call 51; with_reducible refine (C2.out.at_ _).mono ?_; rintro _ _ ⟨rfl, e, rfl⟩) | (go_at_call 51; with_reducible refine (C3.out.at_ _).mono ?_; rintro _ _ ⟨rfl, e, rfl⟩) | (go_at_call 201; with_reducible refine (C4.out.at_ _).mono ?_; rintro _ _ ⟨rfl, e, rfl⟩) | (go_at_call 51; with_reducible refine (C5.out.at_ _).mono ?_; rintro _ _ ⟨rfl, e, rfl⟩))
      repeat (refine wp_region_ext0 _ (by kernel_rfl) (by kernel_rfl) ?_; (repeat (go_big_quiet_step ((first | with_reducible exact C1.out.at_ _ | with_reducible exact C2.out.at_ _ | with_reducible exact C3.out.at_ _ | with_reducible exact C4.out.at_ _ | with_reducible exact C5.out.at_ _)))); refine wpQuiet_nil ?_; intro e; go_wp2_with (first | (go_at_call 51; with_reducible refine (C1.out.at_ _).mono ?_; rintro _ _ ⟨rfl, e, rfl⟩) | (go_at_call 51; with_reducible refine (C2.out.at_ _).mono ?_; rintro _ _ ⟨rfl, e, rfl⟩) | (go_at_call 51; with_reducible refine (C3.out.at_ _).mono ?_; rintro _ _ ⟨rfl, e, rfl⟩) | (go_at_call 201; with_reducible refine (C4.out.at_ _).mono ?_; rintro _ _ ⟨rfl, e, rfl⟩) | (go_at_call 51; with_reducible refine (C5.out.at_ _).mono ?_; rintro _ _ ⟨rfl, e, rfl⟩)))
      go_ret
      exact ⟨by rw [E.out]; rfl, _, rfl⟩
    (try rw [d6] at C1); (try rw [d6] at C2); (try rw [d6] at C3); (try rw [d6] at C4); (try rw [d6] at C5)
    have hlt0 : 0 < x.data.length := by simp at d6; omega
    obtain ⟨b', off, v, bs', rfl, hv, hp⟩ := T1.elem (s := 1) (fun _ => rfl) t3 (Hid_rfl) hlt0
    have hk := intE_pt hp
    rw [Nat.zero_mul, Nat.add_zero] at hk
    have hg := Lib.hid (intAt_of hv)
    have C6 : Hid (QC Tryz.prog w _ _ _) := fun W hW => (l00In_any v (-2147483648) 2147483647 W).q
    cases d7 : inB x.value 1 6
    case false =>
      (try rw [d7] at C1); (try rw [d7] at C2); (try rw [d7] at C3); (try rw [d7] at C4); (try rw [d7] at C5); (try rw [d7] at C6)
      have E : Hid (contentB x = false) := by show _ = _; first | (simp only [contentB, intB, operB, defB, d1, d3, d5, d6, d7]; done) | (simp only [contentB, intB, operB, defB, d1, d3, d5, d6, d7]; rfl) | (simp [contentB, intB, operB, defB, d1, d3, d5, d6, d7]; done) | ((try simp at d1); (try simp at d3); (try simp at d5); (try simp at d6); (try simp at d7); simp [contentB, intB, operB, defB, d1, d3, d5, d6, d7]; done)
      go_wp2_with (first | (go_at_call 51; with_reducible refine (C1.out.at_ _).mono ?_; rintro _ _ ⟨rfl, e, rfl⟩) | (go_at_call 51; with_reducible refine (C2.out.at_ _).mono ?_; rintro _ _ ⟨rfl, e, rfl⟩) | (go_at_call 51; with_reducible refine (C3.out.at_ _).mono ?_; rintro _ _ ⟨rfl, e, rfl⟩) | (go_at_call 201; with_reducible refine (C4.out.at_ _).mono ?_; rintro _ _ ⟨rfl, e, rfl⟩) | (go_at_call 51; with_reducible refine (C5.out.at_ _).mono ?_; rintro _ _ ⟨rfl, e, rfl⟩) | (go_at_call 51; with_reducible refine (C6.out.at_ _).mono ?_; rintro _ _ ⟨rfl, e, rfl⟩))
      repeat (refine wp_region_ext0 _ (by kernel_rfl) (by kernel_rfl) ?_; (repeat (go_big_quiet_step ((first | with_reducible exact C1.out.at_ _ | with_reducible exact C2.out.at_ _ | with_reducible exact C3.out.at_ _ | with_reducible exact C4.out.at_ _ | with_reducible exact C5.out.at_ _ | with_reducible exact C6.out.at_ _)))); refine wpQuiet_nil ?_; intro e; go_wp2_with (first | (go_at_call 51; with_reducible refine (C1.out.at_ _).mono ?_; rintro _ _ ⟨rfl, e, rfl⟩) | (go_at_call 51; with_reducible refine (C2.out.at_ _).mono ?_; rintro _ _ ⟨rfl, e, rfl⟩) | (go_at_call 51; with_reducible refine (C3.out.at_ _).mono ?_; rintro _ _ ⟨rfl, e, rfl⟩) | (go_at_call 201; with_reducible refine (C4.out.at_ _).mono ?_; rintro _ _ ⟨rfl, e, rfl⟩) | (go_at_call 51; with_reducible refine (C5.out.at_ _).mono ?_; rintro _ _ ⟨rfl, e, rfl⟩) | (go_at_call 51; with_reducible refine (C6.out.at_ _).mono ?_; rintro _ _ ⟨rfl, e, rfl⟩)))
      go_ret
      exact ⟨by rw [E.out]; rfl, _, rfl⟩
    (try rw [d7] at C1); (try rw [d7] at C2); (try rw [d7] at C3); (try rw [d7] at C4); (try rw [d7] at C5); (try rw [d7] at C6)
    have E : Hid (contentB x = intB v) := by show _ = _; rw [← hg.out]; simp [contentB, intB, operB, defB, d1, d3, d5, d6, d7]
    go_wp2_with (first | (go_at_call 51; with_reducible refine (C1.out.at_ _).mono ?_; rintro _ _ ⟨rfl, e, rfl⟩) | (go_at_call 51; with_reducible refine (C2.out.at_ _).mono ?_; rintro _ _ ⟨rfl, e, rfl⟩) | (go_at_call 51; with_reducible refine (C3.out.at_ _).mono ?_; rintro _ _ ⟨rfl, e, rfl⟩) | (go_at_call 201; with_reducible refine (C4.out.at_ _).mono ?_; rintro _ _ ⟨rfl, e, rfl⟩) | (go_at_call 51; with_reducible refine (C5.out.at_ _).mono ?_; rintro _ _ ⟨rfl, e, rfl⟩) | (go_at_call 51; with_reducible refine (C6.out.at_ _).mono ?_; rintro _ _ ⟨rfl, e, rfl⟩))
    repeat (refine wp_region_ext0 _ (by kernel_rfl) (by kernel_rfl) ?_; (repeat (go_big_quiet_step ((first | with_reducible exact C1.out.at_ _ | with_reducible exact C2.out.at_ _ | with_reducible exact C3.out.at_ _ | with_reducible exact C4.out.at_ _ | with_reducible exact C5.out.at_ _ | with_reducible exact C6.out.at_ _)))); refine wpQuiet_nil ?_; intro e; go_wp2_with (first | (go_at_call 51; with_reducible refine (C1.out.at_ _).mono ?_; rintro _ _ ⟨rfl, e, rfl⟩) | (go_at_call 51; with_reducible refine (C2.out.at_ _).mono ?_; rintro _ _ ⟨rfl, e, rfl⟩) | (go_at_call 51; with_reducible refine (C3.out.at_ _).mono ?_; rintro _ _ ⟨rfl, e, rfl⟩) | (go_at_call 201; with_reducible refine (C4.out.at_ _).mono ?_; rintro _ _ ⟨rfl, e, rfl⟩) | (go_at_call 51; with_reducible refine (C5.out.at_ _).mono ?_; rintro _ _ ⟨rfl, e, rfl⟩) | (go_at_call 51; with_reducible refine (C6.out.at_ _).mono ?_; rintro _ _ ⟨rfl, e, rfl⟩)))
    go_ret
    exact ⟨by rw [E.out]; rfl, _, rfl⟩
  (try rw [d5] at C1); (try rw [d5] at C2); (try rw [d5] at C3); (try rw [d5] at C4); (try rw [d5] at C5)
  cases d8 : (x.kind == 9)
  case true =>
    (try rw [d8] at C1); (try rw [d8] at C2); (try rw [d8] at C3); (try rw [d8] at C4); (try rw [d8] at C5)
    cases d9 : ((x.data.length : Int) == 0)
    case false =>
      (try rw [d9] at C1); (try rw [d9] at C2); (try rw [d9] at C3); (try rw [d9] at C4); (try rw [d9] at C5)
      have E : Hid (contentB x = false) := by show _ = _; first | (simp only [contentB, intB, operB, defB, d1, d3, d5, d8, d9]; done) | (simp only [contentB, intB, operB, defB, d1, d3, d5, d8, d9]; rfl) | (simp [contentB, intB, operB, defB, d1, d3, d5, d8, d9]; done) | ((try simp at d1); (try simp at d3); (try simp at d5); (try simp at d8); (try simp at d9); simp [contentB, intB, operB, defB, d1, d3, d5, d8, d9]; done)
      go_wp2_with (first | (go_at_call 51; with_reducible refine (C1.out.at_ _).mono ?_; rintro _ _ ⟨rfl, e, rfl⟩) | (go_at_call 51; with_reducible refine (C2.out.at_ _).mono ?_; rintro _ _ ⟨rfl, e, rfl⟩) | (go_at_call 51; with_reducible refine (C3.out.at_ _).mono ?_; rintro _ _ ⟨rfl, e, rfl⟩) | (go_at_call 201; with_reducible refine (C4.out.at_ _).mono ?_; rintro _ _ ⟨rfl, e, rfl⟩) | (go_at_call 51; with_reducible refine (C5.out.at_ _).mono ?_; rintro _ _ ⟨rfl, e, rfl⟩))
      repeat (refine wp_region_ext0 _ (by kernel_rfl) (by kernel_rfl) ?_; (repeat (go_big_quiet_step ((first | with_reducible exact C1.out.at_ _ | with_reducible exact C2.out.at_ _ | with_reducible exact C3.out.at_ _ | with_reducible exact C4.out.at_ _ | with_reducible exact C5.out.at_ _)))); refine wpQuiet_nil ?_; intro e; go_wp2_with (first | (go_at_call 51; with_reducible refine (C1.out.at_ _).mono ?_; rintro _ _ ⟨rfl, e, rfl⟩) | (go_at_call 51; with_reducible refine (C2.out.at_ _).mono ?_; rintro _ _ ⟨rfl, e, rfl⟩) | (go_at_call 51; with_reducible refine (C3.out.at_ _).mono ?_; rintro _ _ ⟨rfl, e, rfl⟩) | (go_at_call 201; with_reducible refine (C4.out.at_ _).mono ?_; rintro _ _ ⟨rfl, e, rfl⟩) | (go_at_call 51; with_reducible refine (C5.out.at_ _).mono ?_; rintro _ _ ⟨rfl, e, rfl⟩)))
      go_ret
      exact ⟨by rw [E.out]; rfl, _, rfl⟩
    (try rw [d9] at C1); (try rw [d9] at C2); (try rw [d9] at C3); (try rw [d9] at C4); (try rw [d9] at C5)
    have E : Hid (contentB x = inB x.value 0 3) := by show _ = _; first | (simp only [contentB, intB, operB, defB, d1, d3, d5, d8, d9]; done) | (simp only [contentB, intB, operB, defB, d1, d3, d5, d8, d9]; rfl) | (simp [contentB, intB, operB, defB, d1, d3, d5, d8, d9]; done) | ((try simp at d1); (try simp at d3); (try simp at d5); (try simp at d8); (try simp at d9); simp [contentB, intB, operB, defB, d1, d3, d5, d8, d9]; done)
    go_wp2_with (first | (go_at_call 51; with_reducible refine (C1.out.at_ _).mono ?_; rintro _ _ ⟨rfl, e, rfl⟩) | (go_at_call 51; with_reducible refine (C2.out.at_ _).mono ?_; rintro _ _ ⟨rfl, e, rfl⟩) | (go_at_call 51; with_reducible refine (C3.out.at_ _).mono ?_; rintro _ _ ⟨rfl, e, rfl⟩) | (go_at_call 201; with_reducible refine (C4.out.at_ _).mono ?_; rintro _ _ ⟨rfl, e, rfl⟩) | (go_at_call 51; with_reducible refine (C5.out.at_ _).mono ?_; rintro _ _ ⟨rfl, e, rfl⟩))
    repeat (refine wp_region_ext0 _ (by kernel_rfl) (by kernel_rfl) ?_; (repeat (go_big_quiet_step ((first | with_reducible exact C1.out.at_ _ | with_reducible exact C2.out.at_ _ | with_reducible exact C3.out.at_ _ | with_reducible exact C4.out.at_ _ | with_reducible exact C5.out.at_ _)))); refine wpQuiet_nil ?_; intro e; go_wp2_with (first | (go_at_call 51; with_reducible refine (C1.out.at_ _).mono ?_; rintro _ _ ⟨rfl, e, rfl⟩) | (go_at_call 51; with_reducible refine (C2.out.at_ _).mono ?_; rintro _ _ ⟨rfl, e, rfl⟩) | (go_at_call 51; with_reducible refine (C3.out.at_ _).mono ?_; rintro _ _ ⟨rfl, e, rfl⟩) | (go_at_call 201; with_reducible refine (C4.out.at_ _).mono ?_; rintro _ _ ⟨rfl, e, rfl⟩) | (go_at_call 51; with_reducible refine (C5.out.at_ _).mono ?_; rintro _ _ ⟨rfl, e, rfl⟩)))
    go_ret
    exact ⟨by rw [E.out]; rfl, _, rfl⟩
  (try rw [d8] at C1); (try rw [d8] at C2); (try rw [d8] at C3); (try rw [d8] at C4); (try rw [d8] at C5)
  cases d10 : (x.kind == 12)
  case true =>
    (try rw [d10] at C1); (try rw [d10] at C2); (try rw [d10] at C3); (try rw [d10] at C4); (try rw [d10] at C5)
    cases d11 : ((x.data.length : Int) == 0)
    case false =>
      (try rw [d11] at C1); (try rw [d11] at C2); (try rw [d11] at C3); (try rw [d11] at C4); (try rw [d11] at C5)
      have E : Hid (contentB x = false) := by show _ = _; first | (simp only [contentB, intB, operB, defB, d1, d3, d5, d8, d10, d11]; done) | (simp only [contentB, intB, operB, defB, d1, d3, d5, d8, d10, d11]; rfl) | (simp [contentB, intB, operB, defB, d1, d3, d5, d8, d10, d11]; done) | ((try simp at d1); (try simp at d3); (try simp at d5); (try simp at d8); (try simp at d10); (try simp at d11); simp [contentB, intB, operB, defB, d1, d3, d5, d8, d10, d11]; done)
      go_wp2_with (first | (go_at_call 51; with_reducible refine (C1.out.at_ _).mono ?_; rintro _ _ ⟨rfl, e, rfl⟩) | (go_at_call 51; with_reducible refine (C2.out.at_ _).mono ?_; rintro _ _ ⟨rfl, e, rfl⟩) | (go_at_call 51; with_reducible refine (C3.out.at_ _).mono ?_; rintro _ _ ⟨rfl, e, rfl⟩) | (go_at_call 201; with_reducible refine (C4.out.at_ _).mono ?_; rintro _ _ ⟨rfl, e, rfl⟩) | (go_at_call 51; with_reducible refine (C5.out.at_ _).mono ?_; rintro _ _ ⟨rfl, e, rfl⟩))
      repeat (refine wp_region_ext0 _ (by kernel_rfl) (by kernel_rfl) ?_; (repeat (go_big_quiet_step ((first | with_reducible exact C1.out.at_ _ | with_reducible exact C2.out.at_ _ | with_reducible exact C3.out.at_ _ | with_reducible exact C4.out.at_ _ | with_reducible exact C5.out.at_ _)))); refine wpQuiet_nil ?_; intro e; go_wp2_with (first | (go_at_call 51; with_reducible refine (C1.out.at_ _).mono ?_; rintro _ _ ⟨rfl, e, rfl⟩) | (go_at_call 51; with_reducible refine (C2.out.at_ _).mono ?_; rintro _ _ ⟨rfl, e, rfl⟩) | (go_at_call 51; with_reducible refine (C3.out.at_ _).mono ?_; rintro _ _ ⟨rfl, e, rfl⟩) | (go_at_call 201; with_reducible refine (C4.out.at_ _).mono ?_; rintro _ _ ⟨rfl, e, rfl⟩) | (go_at_call 51; with_reducible refine (C5.out.at_ _).mono ?_; rintro _ _ ⟨rfl, e, rfl⟩)))
      go_ret
      exact ⟨by rw [E.out]; rfl, _, rfl⟩
    (try rw [d11] at C1); (try rw [d11] at C2); (try rw [d11] at C3); (try rw [d11] at C4); (try rw [d11] at C5)
    have E : Hid (contentB x = defB x.value) := by show _ = _; first | (simp only [contentB, intB, operB, defB, d1, d3, d5, d8, d10, d11]; done) | (simp only [contentB, intB, operB, defB, d1, d3, d5, d8, d10, d11]; rfl) | (simp [contentB, intB, operB, defB, d1, d3, d5, d8, d10, d11]; done) | ((try simp at d1); (try simp at d3); (try simp at d5); (try simp at d8); (try simp at d10); (try simp at d11); simp [contentB, intB, operB, defB, d1, d3, d5, d8, d10, d11]; done)
    go_wp2_with (first | (go_at_call 51; with_reducible refine (C1.out.at_ _).mono ?_; rintro _ _ ⟨rfl, e, rfl⟩) | (go_at_call 51; with_reducible refine (C2.out.at_ _).mono ?_; rintro _ _ ⟨rfl, e, rfl⟩) | (go_at_call 51; with_reducible refine (C3.out.at_ _).mono ?_; rintro _ _ ⟨rfl, e, rfl⟩) | (go_at_call 201; with_reducible refine (C4.out.at_ _).mono ?_; rintro _ _ ⟨rfl, e, rfl⟩) | (go_at_call 51; with_reducible refine (C5.out.at_ _).mono ?_; rintro _ _ ⟨rfl, e, rfl⟩))
    repeat (refine wp_region_ext0 _ (by kernel_rfl) (by kernel_rfl) ?_; (repeat (go_big_quiet_step ((first | with_reducible exact C1.out.at_ _ | with_reducible exact C2.out.at_ _ | with_reducible exact C3.out.at_ _ | with_reducible exact C4.out.at_ _ | with_reducible exact C5.out.at_ _)))); refine wpQuiet_nil ?_; intro e; go_wp2_with (first | (go_at_call 51; with_reducible refine (C1.out.at_ _).mono ?_; rintro _ _ ⟨rfl, e, rfl⟩) | (go_at_call 51; with_reducible refine (C2.out.at_ _).mono ?_; rintro _ _ ⟨rfl, e, rfl⟩) | (go_at_call 51; with_reducible refine (C3.out.at_ _).mono ?_; rintro _ _ ⟨rfl, e, rfl⟩) | (go_at_call 201; with_reducible refine (C4.out.at_ _).mono ?_; rintro _ _ ⟨rfl, e, rfl⟩) | (go_at_call 51; with_reducible refine (C5.out.at_ _).mono ?_; rintro _ _ ⟨rfl, e, rfl⟩)))
    go_ret
    exact ⟨by rw [E.out]; rfl, _, rfl⟩
  (try rw [d10] at C1); (try rw [d10] at C2); (try rw [d10] at C3); (try rw [d10] at C4); (try rw [d10] at C5)
  cases d12 : (x.kind == 10)
  case true =>
    (try rw [d12] at C1); (try rw [d12] at C2); (try rw [d12] at C3); (try rw [d12] at C4); (try rw [d12] at C5)
    have k11 : (x.kind == 11) = false := by simp at d12; simp [d12]
    cases d13 : (x.value != 0)
    case true =>
      (try rw [d13] at C1); (try rw [d13] at C2); (try rw [d13] at C3); (try rw [d13] at C4); (try rw [d13] at C5)
      have E : Hid (contentB x = false) := by show _ = _; first | (simp only [contentB, intB, operB, defB, d1, d3, d5, d8, d10, d12, d13]; done) | (simp only [contentB, intB, operB, defB, d1, d3, d5, d8, d10, d12, d13]; rfl) | (simp [contentB, intB, operB, defB, d1, d3, d5, d8, d10, d12, d13]; done) | ((try simp at d1); (try simp at d3); (try simp at d5); (try simp at d8); (try simp at d10); (try simp at d12); (try simp at d13); simp [contentB, intB, operB, defB, d1, d3, d5, d8, d10, d12, d13]; done)
      go_wp2_with (first | (go_at_call 51; with_reducible refine (C1.out.at_ _).mono ?_; rintro _ _ ⟨rfl, e, rfl⟩) | (go_at_call 51; with_reducible refine (C2.out.at_ _).mono ?_; rintro _ _ ⟨rfl, e, rfl⟩) | (go_at_call 51; with_reducible refine (C3.out.at_ _).mono ?_; rintro _ _ ⟨rfl, e, rfl⟩) | (go_at_call 201; with_reducible refine (C4.out.at_ _).mono ?_; rintro _ _ ⟨rfl, e, rfl⟩) | (go_at_call 51; with_reducible refine (C5.out.at_ _).mono ?_; rintro _ _ ⟨rfl, e, rfl⟩))
      repeat (refine wp_region_ext0 _ (by kernel_rfl) (by kernel_rfl) ?_; (repeat (go_big_quiet_step ((first | with_reducible exact C1.out.at_ _ | with_reducible exact C2.out.at_ _ | with_reducible exact C3.out.at_ _ | with_reducible exact C4.out.at_ _ | with_reducible exact C5.out.at_ _)))); refine wpQuiet_nil ?_; intro e; go_wp2_with (first | (go_at_call 51; with_reducible refine (C1.out.at_ _).mono ?_; rintro _ _ ⟨rfl, e, rfl⟩) | (go_at_call 51; with_reducible refine (C2.out.at_ _).mono ?_; rintro _ _ ⟨rfl, e, rfl⟩) | (go_at_call 51; with_reducible refine (C3.out.at_ _).mono ?_; rintro _ _ ⟨rfl, e, rfl⟩) | (go_at_call 201; with_reducible refine (C4.out.at_ _).mono ?_; rintro _ _ ⟨rfl, e, rfl⟩) | (go_at_call 51; with_reducible refine (C5.out.at_ _).mono ?_; rintro _ _ ⟨rfl, e, rfl⟩)))
      go_ret
      exact ⟨by rw [E.out]; rfl, _, rfl⟩
    (try rw [d13] at C1); (try rw [d13] at C2); (try rw [d13] at C3); (try rw [d13] at C4); (try rw [d13] at C5)
    cases d14 : inB x.data.length 1 4
    case false =>
      (try rw [d14] at C1); (try rw [d14] at C2); (try rw [d14] at C3); (try rw [d14] at C4); (try rw [d14] at C5)
      have E : Hid (contentB x = false) := by show _ = _; first | (simp only [contentB, intB, operB, defB, d1, d3, d5, d8, d10, d12, d13, d14]; done) | (simp only [contentB, intB, operB, defB, d1, d3, d5, d8, d10, d12, d13, d14]; rfl) | (simp [contentB, intB, operB, defB, d1, d3, d5, d8, d10, d12, d13, d14]; done) | ((try simp at d1); (try simp at d3); (try simp at d5); (try simp at d8); (try simp at d10); (try simp at d12); (try simp at d13); (try simp at d14); simp [contentB, intB, operB, defB, d1, d3, d5, d8, d10, d12, d13, d14]; done)
      go_wp2_with (first | (go_at_call 51; with_reducible refine (C1.out.at_ _).mono ?_; rintro _ _ ⟨rfl, e, rfl⟩) | (go_at_call 51; with_reducible refine (C2.out.at_ _).mono ?_; rintro _ _ ⟨rfl, e, rfl⟩) | (go_at_call 51; with_reducible refine (C3.out.at_ _).mono ?_; rintro _ _ ⟨rfl, e, rfl⟩) | (go_at_call 201; with_reducible refine (C4.out.at_ _).mono ?_; rintro _ _ ⟨rfl, e, rfl⟩) | (go_at_call 51; with_reducible refine (C5.out.at_ _).mono ?_; rintro _ _ ⟨rfl, e, rfl⟩))
      repeat (refine wp_region_ext0 _ (by kernel_rfl) (by kernel_rfl) ?_; (repeat (go_big_quiet_step ((first | with_reducible exact C1.out.at_ _ | with_reducible exact C2.out.at_ _ | with_reducible exact C3.out.at_ _ | with_reducible exact C4.out.at_ _ | with_reducible exact C5.out.at_ _)))); refine wpQuiet_nil ?_; intro e; go_wp2_with (first | (go_at_call 51; with_reducible refine (C1.out.at_ _).mono ?_; rintro _ _ ⟨rfl, e, rfl⟩) | (go_at_call 51; with_reducible refine (C2.out.at_ _).mono ?_; rintro _ _ ⟨rfl, e, rfl⟩) | (go_at_call 51; with_reducible refine (C3.out.at_ _).mono ?_; rintro _ _ ⟨rfl, e, rfl⟩) | (go_at_call 201; with_reducible refine (C4.out.at_ _).mono ?_; rintro _ _ ⟨rfl, e, rfl⟩) | (go_at_call 51; with_reducible refine (C5.out.at_ _).mono ?_; rintro _ _ ⟨rfl, e, rfl⟩)))
      go_ret
      exact ⟨by rw [E.out]; rfl, _, rfl⟩
    (try rw [d14] at C1); (try rw [d14] at C2); (try rw [d14] at C3); (try rw [d14] at C4); (try rw [d14] at C5)
    go_wp2_with (first | (go_at_call 51; with_reducible refine (C1.out.at_ _).mono ?_; rintro _ _ ⟨rfl, e, rfl⟩) | (go_at_call 51; with_reducible refine (C2.out.at_ _).mono ?_; rintro _ _ ⟨rfl, e, rfl⟩) | (go_at_call 51; with_reducible refine (C3.out.at_ _).mono ?_; rintro _ _ ⟨rfl, e, rfl⟩) | (go_at_call 201; with_reducible refine (C4.out.at_ _).mono ?_; rintro _ _ ⟨rfl, e, rfl⟩) | (go_at_call 51; with_reducible refine (C5.out.at_ _).mono ?_; rintro _ _ ⟨rfl, e, rfl⟩))
    repeat (refine wp_region_ext0 _ (by kernel_rfl) (by kernel_rfl) ?_; (repeat (go_big_quiet_step ((first | with_reducible exact C1.out.at_ _ | with_reducible exact C2.out.at_ _ | with_reducible exact C3.out.at_ _ | with_reducible exact C4.out.at_ _ | with_reducible exact C5.out.at_ _)))); refine wpQuiet_nil ?_; intro e; go_wp2_with (first | (go_at_call 51; with_reducible refine (C1.out.at_ _).mono ?_; rintro _ _ ⟨rfl, e, rfl⟩) | (go_at_call 51; with_reducible refine (C2.out.at_ _).mono ?_; rintro _ _ ⟨rfl, e, rfl⟩) | (go_at_call 51; with_reducible refine (C3.out.at_ _).mono ?_; rintro _ _ ⟨rfl, e, rfl⟩) | (go_at_call 201; with_reducible refine (C4.out.at_ _).mono ?_; rintro _ _ ⟨rfl, e, rfl⟩) | (go_at_call 51; with_reducible refine (C5.out.at_ _).mono ?_; rintro _ _ ⟨rfl, e, rfl⟩)))
    go_loopw [3] (fun i w' => ∃ k : Nat, k ≤ x.data.length ∧ i = .int .i64 k ∧ Hid (allTo k (fun k => defB (intAt x.data k)) = true) ∧ ∃ e : ExtOf w, w' = e.to) (fun i _ => x.data.length - (intOf i).toNat)
    case atStart => exact ⟨0, Nat.zero_le _, rfl, allTo_0 _, _, rfl⟩
    case round =>
      obtain ⟨k, hk, rfl, hf, e, rfl⟩ := hrel
      by_cases hlt : k < x.data.length
      · obtain ⟨b', off, v, bs', rfl, hv, hp⟩ := T1.elem (s := 1) (fun _ => rfl) t3 (Hid_rfl) hlt
        have hk := intE_pt hp
        rw [Nat.mul_one] at hk
        have hg := Lib.hid (intAt_of hv)
        have C6 : Hid (QC Tryz.prog w _ _ _) := fun W hW => l11Def_any v W
        cases d15 : defB v
        case false =>
          (try rw [d15] at C1); (try rw [d15] at C2); (try rw [d15] at C3); (try rw [d15] at C4); (try rw [d15] at C5); (try rw [d15] at C6)
          have E : Hid (defsB x.data = false) := by show _ = _; exact allTo_f hlt (by simp only [hg.out, d15])
          have E0 := E
          have E : Hid (contentB x = false) := by show _ = _; (try simp at d1); (try simp at d3); (try simp at d5); (try simp at d8); (try simp at d10); (try simp at d12); (try simp at d13); (try simp at d14); simp [contentB, E0.out, d1, d3, d5, d8, d10, d12, d13, d14]
          go_wp2_with (first | (go_at_call 51; with_reducible refine (C1.out.at_ _).mono ?_; rintro _ _ ⟨rfl, e, rfl⟩) | (go_at_call 51; with_reducible refine (C2.out.at_ _).mono ?_; rintro _ _ ⟨rfl, e, rfl⟩) | (go_at_call 51; with_reducible refine (C3.out.at_ _).mono ?_; rintro _ _ ⟨rfl, e, rfl⟩) | (go_at_call 201; with_reducible refine (C4.out.at_ _).mono ?_; rintro _ _ ⟨rfl, e, rfl⟩) | (go_at_call 51; with_reducible refine (C5.out.at_ _).mono ?_; rintro _ _ ⟨rfl, e, rfl⟩) | (go_at_call 201; with_reducible refine (C6.out.at_ _).mono ?_; rintro _ _ ⟨rfl, e, rfl⟩))
          repeat (refine wp_region_ext0 _ (by kernel_rfl) (by kernel_rfl) ?_; (repeat (go_big_quiet_step ((first | with_reducible exact C1.out.at_ _ | with_reducible exact C2.out.at_ _ | with_reducible exact C3.out.at_ _ | with_reducible exact C4.out.at_ _ | with_reducible exact C5.out.at_ _ | with_reducible exact C6.out.at_ _)))); refine wpQuiet_nil ?_; intro e; go_wp2_with (first | (go_at_call 51; with_reducible refine (C1.out.at_ _).mono ?_; rintro _ _ ⟨rfl, e, rfl⟩) | (go_at_call 51; with_reducible refine (C2.out.at_ _).mono ?_; rintro _ _ ⟨rfl, e, rfl⟩) | (go_at_call 51; with_reducible refine (C3.out.at_ _).mono ?_; rintro _ _ ⟨rfl, e, rfl⟩) | (go_at_call 201; with_reducible refine (C4.out.at_ _).mono ?_; rintro _ _ ⟨rfl, e, rfl⟩) | (go_at_call 51; with_reducible refine (C5.out.at_ _).mono ?_; rintro _ _ ⟨rfl, e, rfl⟩) | (go_at_call 201; with_reducible refine (C6.out.at_ _).mono ?_; rintro _ _ ⟨rfl, e, rfl⟩)))
          go_ret
          exact ⟨by rw [E.out]; rfl, _, rfl⟩
        (try rw [d15] at C1); (try rw [d15] at C2); (try rw [d15] at C3); (try rw [d15] at C4); (try rw [d15] at C5); (try rw [d15] at C6)
        have E : Hid (defB (intAt x.data k) = true) := by show _ = _; rw [hg.out]; exact d15
        go_wp2_with (first | (go_at_call 51; with_reducible refine (C1.out.at_ _).mono ?_; rintro _ _ ⟨rfl, e, rfl⟩) | (go_at_call 51; with_reducible refine (C2.out.at_ _).mono ?_; rintro _ _ ⟨rfl, e, rfl⟩) | (go_at_call 51; with_reducible refine (C3.out.at_ _).mono ?_; rintro _ _ ⟨rfl, e, rfl⟩) | (go_at_call 201; with_reducible refine (C4.out.at_ _).mono ?_; rintro _ _ ⟨rfl, e, rfl⟩) | (go_at_call 51; with_reducible refine (C5.out.at_ _).mono ?_; rintro _ _ ⟨rfl, e, rfl⟩) | (go_at_call 201; with_reducible refine (C6.out.at_ _).mono ?_; rintro _ _ ⟨rfl, e, rfl⟩))
        repeat (refine wp_region_ext0 _ (by kernel_rfl) (by kernel_rfl) ?_; (repeat (go_big_quiet_step ((first | with_reducible exact C1.out.at_ _ | with_reducible exact C2.out.at_ _ | with_reducible exact C3.out.at_ _ | with_reducible exact C4.out.at_ _ | with_reducible exact C5.out.at_ _ | with_reducible exact C6.out.at_ _)))); refine wpQuiet_nil ?_; intro e; go_wp2_with (first | (go_at_call 51; with_reducible refine (C1.out.at_ _).mono ?_; rintro _ _ ⟨rfl, e, rfl⟩) | (go_at_call 51; with_reducible refine (C2.out.at_ _).mono ?_; rintro _ _ ⟨rfl, e, rfl⟩) | (go_at_call 51; with_reducible refine (C3.out.at_ _).mono ?_; rintro _ _ ⟨rfl, e, rfl⟩) | (go_at_call 201; with_reducible refine (C4.out.at_ _).mono ?_; rintro _ _ ⟨rfl, e, rfl⟩) | (go_at_call 51; with_reducible refine (C5.out.at_ _).mono ?_; rintro _ _ ⟨rfl, e, rfl⟩) | (go_at_call 201; with_reducible refine (C6.out.at_ _).mono ?_; rintro _ _ ⟨rfl, e, rfl⟩)))
        exact ⟨⟨k+1, by omega, by go_num, allTo_succ hf E.out, _, rfl⟩, by simp [intOf]; omega⟩
      · have : k = x.data.length := by omega
        subst this
        have E0 : Hid (defsB x.data = true) := hf
        have E : Hid (contentB x = true) := by show _ = _; (try simp at d1); (try simp at d3); (try simp at d5); (try simp at d8); (try simp at d10); (try simp at d12); (try simp at d13); (try simp at d14); simp [contentB, E0.out, d1, d3, d5, d8, d10, d12, d13, d14]
        go_wp2_with (first | (go_at_call 51; with_reducible refine (C1.out.at_ _).mono ?_; rintro _ _ ⟨rfl, e, rfl⟩) | (go_at_call 51; with_reducible refine (C2.out.at_ _).mono ?_; rintro _ _ ⟨rfl, e, rfl⟩) | (go_at_call 51; with_reducible refine (C3.out.at_ _).mono ?_; rintro _ _ ⟨rfl, e, rfl⟩) | (go_at_call 201; with_reducible refine (C4.out.at_ _).mono ?_; rintro _ _ ⟨rfl, e, rfl⟩) | (go_at_call 51; with_reducible refine (C5.out.at_ _).mono ?_; rintro _ _ ⟨rfl, e, rfl⟩))
        repeat (refine wp_region_ext0 _ (by kernel_rfl) (by kernel_rfl) ?_; (repeat (go_big_quiet_step ((first | with_reducible exact C1.out.at_ _ | with_reducible exact C2.out.at_ _ | with_reducible exact C3.out.at_ _ | with_reducible exact C4.out.at_ _ | with_reducible exact C5.out.at_ _)))); refine wpQuiet_nil ?_; intro e; go_wp2_with (first | (go_at_call 51; with_reducible refine (C1.out.at_ _).mono ?_; rintro _ _ ⟨rfl, e, rfl⟩) | (go_at_call 51; with_reducible refine (C2.out.at_ _).mono ?_; rintro _ _ ⟨rfl, e, rfl⟩) | (go_at_call 51; with_reducible refine (C3.out.at_ _).mono ?_; rintro _ _ ⟨rfl, e, rfl⟩) | (go_at_call 201; with_reducible refine (C4.out.at_ _).mono ?_; rintro _ _ ⟨rfl, e, rfl⟩) | (go_at_call 51; with_reducible refine (C5.out.at_ _).mono ?_; rintro _ _ ⟨rfl, e, rfl⟩)))
        go_ret
        exact ⟨by rw [E.out]; rfl, _, rfl⟩
  (try rw [d12] at C1); (try rw [d12] at C2); (try rw [d12] at C3); (try rw [d12] at C4); (try rw [d12] at C5)
  cases d16 : (x.kind == 11)
  case true =>
    (try rw [d16] at C1); (try rw [d16] at C2); (try rw [d16] at C3); (try rw [d16] at C4); (try rw [d16] at C5)
    cases d17 : (x.value != 0)
    case true =>
      (try rw [d17] at C1); (try rw [d17] at C2); (try rw [d17] at C3); (try rw [d17] at C4); (try rw [d17] at C5)
      have E : Hid (contentB x = false) := by show _ = _; first | (simp only [contentB, intB, operB, defB, d1, d3, d5, d8, d10, d12, d16, d17]; done) | (simp only [contentB, intB, operB, defB, d1, d3, d5, d8, d10, d12, d16, d17]; rfl) | (simp [contentB, intB, operB, defB, d1, d3, d5, d8, d10, d12, d16, d17]; done) | ((try simp at d1); (try simp at d3); (try simp at d5); (try simp at d8); (try simp at d10); (try simp at d12); (try simp at d16); (try simp at d17); simp [contentB, intB, operB, defB, d1, d3, d5, d8, d10, d12, d16, d17]; done)
      go_wp2_with (first | (go_at_call 51; with_reducible refine (C1.out.at_ _).mono ?_; rintro _ _ ⟨rfl, e, rfl⟩) | (go_at_call 51; with_reducible refine (C2.out.at_ _).mono ?_; rintro _ _ ⟨rfl, e, rfl⟩) | (go_at_call 51; with_reducible refine (C3.out.at_ _).mono ?_; rintro _ _ ⟨rfl, e, rfl⟩) | (go_at_call 201; with_reducible refine (C4.out.at_ _).mono ?_; rintro _ _ ⟨rfl, e, rfl⟩) | (go_at_call 51; with_reducible refine (C5.out.at_ _).mono ?_; rintro _ _ ⟨rfl, e, rfl⟩))
      repeat (refine wp_region_ext0 _ (by kernel_rfl) (by kernel_rfl) ?_; (repeat (go_big_quiet_step ((first | with_reducible exact C1.out.at_ _ | with_reducible exact C2.out.at_ _ | with_reducible exact C3.out.at_ _ | with_reducible exact C4.out.at_ _ | with_reducible exact C5.out.at_ _)))); refine wpQuiet_nil ?_; intro e; go_wp2_with (first | (go_at_call 51; with_reducible refine (C1.out.at_ _).mono ?_; rintro _ _ ⟨rfl, e, rfl⟩) | (go_at_call 51; with_reducible refine (C2.out.at_ _).mono ?_; rintro _ _ ⟨rfl, e, rfl⟩) | (go_at_call 51; with_reducible refine (C3.out.at_ _).mono ?_; rintro _ _ ⟨rfl, e, rfl⟩) | (go_at_call 201; with_reducible refine (C4.out.at_ _).mono ?_; rintro _ _ ⟨rfl, e, rfl⟩) | (go_at_call 51; with_reducible refine (C5.out.at_ _).mono ?_; rintro _ _ ⟨rfl, e, rfl⟩)))
      go_ret
      exact ⟨by rw [E.out]; rfl, _, rfl⟩
    (try rw [d17] at C1); (try rw [d17] at C2); (try rw [d17] at C3); (try rw [d17] at C4); (try rw [d17] at C5)
    cases d18 : ((x.data.length : Int) != 2)
    case true =>
      (try rw [d18] at C1); (try rw [d18] at C2); (try rw [d18] at C3); (try rw [d18] at C4); (try rw [d18] at C5)
      have E : Hid (contentB x = false) := by show _ = _; first | (simp only [contentB, intB, operB, defB, d1, d3, d5, d8, d10, d12, d16, d17, d18]; done) | (simp only [contentB, intB, operB, defB, d1, d3, d5, d8, d10, d12, d16, d17, d18]; rfl) | (simp [contentB, intB, operB, defB, d1, d3, d5, d8, d10, d12, d16, d17, d18]; done) | ((try simp at d1); (try simp at d3); (try simp at d5); (try simp at d8); (try simp at d10); (try simp at d12); (try simp at d16); (try simp at d17); (try simp at d18); simp [contentB, intB, operB, defB, d1, d3, d5, d8, d10, d12, d16, d17, d18]; done)
      go_wp2_with (first | (go_at_call 51; with_reducible refine (C1.out.at_ _).mono ?_; rintro _ _ ⟨rfl, e, rfl⟩) | (go_at_call 51; with_reducible refine (C2.out.at_ _).mono ?_; rintro _ _ ⟨rfl, e, rfl⟩) | (go_at_call 51; with_reducible refine (C3.out.at_ _).mono ?_; rintro _ _ ⟨rfl, e, rfl⟩) | (go_at_call 201; with_reducible refine (C4.out.at_ _).mono ?_; rintro _ _ ⟨rfl, e, rfl⟩) | (go_at_call 51; with_reducible refine (C5.out.at_ _).mono ?_; rintro _ _ ⟨rfl, e, rfl⟩))
      repeat (refine wp_region_ext0 _ (by kernel_rfl) (by kernel_rfl) ?_; (repeat (go_big_quiet_step ((first | with_reducible exact C1.out.at_ _ | with_reducible exact C2.out.at_ _ | with_reducible exact C3.out.at_ _ | with_reducible exact C4.out.at_ _ | with_reducible exact C5.out.at_ _)))); refine wpQuiet_nil ?_; intro e; go_wp2_with (first | (go_at_call 51; with_reducible refine (C1.out.at_ _).mono ?_; rintro _ _ ⟨rfl, e, rfl⟩) | (go_at_call 51; with_reducible refine (C2.out.at_ _).mono ?_; rintro _ _ ⟨rfl, e, rfl⟩) | (go_at_call 51; with_reducible refine (C3.out.at_ _).mono ?_; rintro _ _ ⟨rfl, e, rfl⟩) | (go_at_call 201; with_reducible refine (C4.out.at_ _).mono ?_; rintro _ _ ⟨rfl, e, rfl⟩) | (go_at_call 51; with_reducible refine (C5.out.at_ _).mono ?_; rintro _ _ ⟨rfl, e, rfl⟩)))
      go_ret
      exact ⟨by rw [E.out]; rfl, _, rfl⟩
    (try rw [d18] at C1); (try rw [d18] at C2); (try rw [d18] at C3); (try rw [d18] at C4); (try rw [d18] at C5)
    go_wp2_with (first | (go_at_call 51; with_reducible refine (C1.out.at_ _).mono ?_; rintro _ _ ⟨rfl, e, rfl⟩) | (go_at_call 51; with_reducible refine (C2.out.at_ _).mono ?_; rintro _ _ ⟨rfl, e, rfl⟩) | (go_at_call 51; with_reducible refine (C3.out.at_ _).mono ?_; rintro _ _ ⟨rfl, e, rfl⟩) | (go_at_call 201; with_reducible refine (C4.out.at_ _).mono ?_; rintro _ _ ⟨rfl, e, rfl⟩) | (go_at_call 51; with_reducible refine (C5.out.at_ _).mono ?_; rintro _ _ ⟨rfl, e, rfl⟩))
    repeat (refine wp_region_ext0 _ (by kernel_rfl) (by kernel_rfl) ?_; (repeat (go_big_quiet_step ((first | with_reducible exact C1.out.at_ _ | with_reducible exact C2.out.at_ _ | with_reducible exact C3.out.at_ _ | with_reducible exact C4.out.at_ _ | with_reducible exact C5.out.at_ _)))); refine wpQuiet_nil ?_; intro e; go_wp2_with (first | (go_at_call 51; with_reducible refine (C1.out.at_ _).mono ?_; rintro _ _ ⟨rfl, e, rfl⟩) | (go_at_call 51; with_reducible refine (C2.out.at_ _).mono ?_; rintro _ _ ⟨rfl, e, rfl⟩) | (go_at_call 51; with_reducible refine (C3.out.at_ _).mono ?_; rintro _ _ ⟨rfl, e, rfl⟩) | (go_at_call 201; with_reducible refine (C4.out.at_ _).mono ?_; rintro _ _ ⟨rfl, e, rfl⟩) | (go_at_call 51; with_reducible refine (C5.out.at_ _).mono ?_; rintro _ _ ⟨rfl, e, rfl⟩)))
    go_loopw [3] (fun i w' => ∃ k : Nat, k ≤ x.data.length ∧ i = .int .i64 k ∧ Hid (allTo k (fun k => defB (intAt x.data k)) = true) ∧ ∃ e : ExtOf w, w' = e.to) (fun i _ => x.data.length - (intOf i).toNat)
    case atStart => exact ⟨0, Nat.zero_le _, rfl, allTo_0 _, _, rfl⟩
    case round =>
      obtain ⟨k, hk, rfl, hf, e, rfl⟩ := hrel
      by_cases hlt : k < x.data.length
      · obtain ⟨b', off, v, bs', rfl, hv, hp⟩ := T1.elem (s := 1) (fun _ => rfl) t3 (Hid_rfl) hlt
        have hk := intE_pt hp
        rw [Nat.mul_one] at hk
        have hg := Lib.hid (intAt_of hv)
        have C6 : Hid (QC Tryz.prog w _ _ _) := fun W hW => l11Def_any v W
        cases d19 : defB v
        case false =>
          (try rw [d19] at C1); (try rw [d19] at C2); (try rw [d19] at C3); (try rw [d19] at C4); (try rw [d19] at C5); (try rw [d19] at C6)
          have E : Hid (defsB x.data = false) := by show _ = _; exact allTo_f hlt (by simp only [hg.out, d19])
          have E0 := E
          have E : Hid (contentB x = false) := by show _ = _; (try simp at d1); (try simp at d3); (try simp at d5); (try simp at d8); (try simp at d10); (try simp at d12); (try simp at d16); (try simp at d17); (try simp at d18); simp [contentB, E0.out, d1, d3, d5, d8, d10, d12, d16, d17, d18]
          go_wp2_with (first | (go_at_call 51; with_reducible refine (C1.out.at_ _).mono ?_; rintro _ _ ⟨rfl, e, rfl⟩) | (go_at_call 51; with_reducible refine (C2.out.at_ _).mono ?_; rintro _ _ ⟨rfl, e, rfl⟩) | (go_at_call 51; with_reducible refine (C3.out.at_ _).mono ?_; rintro _ _ ⟨rfl, e, rfl⟩) | (go_at_call 201; with_reducible refine (C4.out.at_ _).mono ?_; rintro _ _ ⟨rfl, e, rfl⟩) | (go_at_call 51; with_reducible refine (C5.out.at_ _).mono ?_; rintro _ _ ⟨rfl, e, rfl⟩) | (go_at_call 201; with_reducible refine (C6.out.at_ _).mono ?_; rintro _ _ ⟨rfl, e, rfl⟩))
          repeat (refine wp_region_ext0 _ (by kernel_rfl) (by kernel_rfl) ?_; (repeat (go_big_quiet_step ((first | with_reducible exact C1.out.at_ _ | with_reducible exact C2.out.at_ _ | with_reducible exact C3.out.at_ _ | with_reducible exact C4.out.at_ _ | with_reducible exact C5.out.at_ _ | with_reducible exact C6.out.at_ _)))); refine wpQuiet_nil ?_; intro e; go_wp2_with (first | (go_at_call 51; with_reducible refine (C1.out.at_ _).mono ?_; rintro _ _ ⟨rfl, e, rfl⟩) | (go_at_call 51; with_reducible refine (C2.out.at_ _).mono ?_; rintro _ _ ⟨rfl, e, rfl⟩) | (go_at_call 51; with_reducible refine (C3.out.at_ _).mono ?_; rintro _ _ ⟨rfl, e, rfl⟩) | (go_at_call 201; with_reducible refine (C4.out.at_ _).mono ?_; rintro _ _ ⟨rfl, e, rfl⟩) | (go_at_call 51; with_reducible refine (C5.out.at_ _).mono ?_; rintro _ _ ⟨rfl, e, rfl⟩) | (go_at_call 201; with_reducible refine (C6.out.at_ _).mono ?_; rintro _ _ ⟨rfl, e, rfl⟩)))
          go_ret
          exact ⟨by rw [E.out]; rfl, _, rfl⟩
        (try rw [d19] at C1); (try rw [d19] at C2); (try rw [d19] at C3); (try rw [d19] at C4); (try rw [d19] at C5); (try rw [d19] at C6)
        have E : Hid (defB (intAt x.data k) = true) := by show _ = _; rw [hg.out]; exact d19
        go_wp2_with (first | (go_at_call 51; with_reducible refine (C1.out.at_ _).mono ?_; rintro _ _ ⟨rfl, e, rfl⟩) | (go_at_call 51; with_reducible refine (C2.out.at_ _).mono ?_; rintro _ _ ⟨rfl, e, rfl⟩) | (go_at_call 51; with_reducible refine (C3.out.at_ _).mono ?_; rintro _ _ ⟨rfl, e, rfl⟩) | (go_at_call 201; with_reducible refine (C4.out.at_ _).mono ?_; rintro _ _ ⟨rfl, e, rfl⟩) | (go_at_call 51; with_reducible refine (C5.out.at_ _).mono ?_; rintro _ _ ⟨rfl, e, rfl⟩) | (go_at_call 201; with_reducible refine (C6.out.at_ _).mono ?_; rintro _ _ ⟨rfl, e, rfl⟩))
        repeat (refine wp_region_ext0 _ (by kernel_rfl) (by kernel_rfl) ?_; (repeat (go_big_quiet_step ((first | with_reducible exact C1.out.at_ _ | with_reducible exact C2.out.at_ _ | with_reducible exact C3.out.at_ _ | with_reducible exact C4.out.at_ _ | with_reducible exact C5.out.at_ _ | with_reducible exact C6.out.at_ _)))); refine wpQuiet_nil ?_; intro e; go_wp2_with (first | (go_at_call 51; with_reducible refine (C1.out.at_ _).mono ?_; rintro _ _ ⟨rfl, e, rfl⟩) | (go_at_call 51; with_reducible refine (C2.out.at_ _).mono ?_; rintro _ _ ⟨rfl, e, rfl⟩) | (go_at_call 51; with_reducible refine (C3.out.at_ _).mono ?_; rintro _ _ ⟨rfl, e, rfl⟩) | (go_at_call 201; with_reducible refine (C4.out.at_ _).mono ?_; rintro _ _ ⟨rfl, e, rfl⟩) | (go_at_call 51; with_reducible refine (C5.out.at_ _).mono ?_; rintro _ _ ⟨rfl, e, rfl⟩) | (go_at_call 201; with_reducible refine (C6.out.at_ _).mono ?_; rintro _ _ ⟨rfl, e, rfl⟩)))
        exact ⟨⟨k+1, by omega, by go_num, allTo_succ hf E.out, _, rfl⟩, by simp [intOf]; omega⟩
      · have : k = x.data.length := by omega
        subst this
        have E0 : Hid (defsB x.data = true) := hf
        have E : Hid (contentB x = true) := by show _ = _; (try simp at d1); (try simp at d3); (try simp at d5); (try simp at d8); (try simp at d10); (try simp at d12); (try simp at d16); (try simp at d17); (try simp at d18); simp [contentB, E0.out, d1, d3, d5, d8, d10, d12, d16, d17, d18]
        go_wp2_with (first | (go_at_call 51; with_reducible refine (C1.out.at_ _).mono ?_; rintro _ _ ⟨rfl, e, rfl⟩) | (go_at_call 51; with_reducible refine (C2.out.at_ _).mono ?_; rintro _ _ ⟨rfl, e, rfl⟩) | (go_at_call 51; with_reducible refine (C3.out.at_ _).mono ?_; rintro _ _ ⟨rfl, e, rfl⟩) | (go_at_call 201; with_reducible refine (C4.out.at_ _).mono ?_; rintro _ _ ⟨rfl, e, rfl⟩) | (go_at_call 51; with_reducible refine (C5.out.at_ _).mono ?_; rintro _ _ ⟨rfl, e, rfl⟩))
        repeat (refine wp_region_ext0 _ (by kernel_rfl) (by kernel_rfl) ?_; (repeat (go_big_quiet_step ((first | with_reducible exact C1.out.at_ _ | with_reducible exact C2.out.at_ _ | with_reducible exact C3.out.at_ _ | with_reducible exact C4.out.at_ _ | with_reducible exact C5.out.at_ _)))); refine wpQuiet_nil ?_; intro e; go_wp2_with (first | (go_at_call 51; with_reducible refine (C1.out.at_ _).mono ?_; rintro _ _ ⟨rfl, e, rfl⟩) | (go_at_call 51; with_reducible refine (C2.out.at_ _).mono ?_; rintro _ _ ⟨rfl, e, rfl⟩) | (go_at_call 51; with_reducible refine (C3.out.at_ _).mono ?_; rintro _ _ ⟨rfl, e, rfl⟩) | (go_at_call 201; with_reducible refine (C4.out.at_ _).mono ?_; rintro _ _ ⟨rfl, e, rfl⟩) | (go_at_call 51; with_reducible refine (C5.out.at_ _).mono ?_; rintro _ _ ⟨rfl, e, rfl⟩)))
        go_ret
        exact ⟨by rw [E.out]; rfl, _, rfl⟩
  (try rw [d16] at C1); (try rw [d16] at C2); (try rw [d16] at C3); (try rw [d16] at C4); (try rw [d16] at C5)
  cases d20 : (x.value == 0)
  case false =>
    (try rw [d20] at C1); (try rw [d20] at C2); (try rw [d20] at C3); (try rw [d20] at C4); (try rw [d20] at C5)
    have E : Hid (contentB x = false) := by show _ = _; first | (simp only [contentB, intB, operB, defB, d1, d3, d5, d8, d10, d12, d16, d20]; done) | (simp only [contentB, intB, operB, defB, d1, d3, d5, d8, d10, d12, d16, d20]; rfl) | (simp [contentB, intB, operB, defB, d1, d3, d5, d8, d10, d12, d16, d20]; done) | ((try simp at d1); (try simp at d3); (try simp at d5); (try simp at d8); (try simp at d10); (try simp at d12); (try simp at d16); (try simp at d20); simp [contentB, intB, operB, defB, d1, d3, d5, d8, d10, d12, d16, d20]; done)
    go_wp2_with (first | (go_at_call 51; with_reducible refine (C1.out.at_ _).mono ?_; rintro _ _ ⟨rfl, e, rfl⟩) | (go_at_call 51; with_reducible refine (C2.out.at_ _).mono ?_; rintro _ _ ⟨rfl, e, rfl⟩) | (go_at_call 51; with_reducible refine (C3.out.at_ _).mono ?_; rintro _ _ ⟨rfl, e, rfl⟩) | (go_at_call 201; with_reducible refine (C4.out.at_ _).mono ?_; rintro _ _ ⟨rfl, e, rfl⟩) | (go_at_call 51; with_reducible refine (C5.out.at_ _).mono ?_; rintro _ _ ⟨rfl, e, rfl⟩))
    repeat (refine wp_region_ext0 _ (by kernel_rfl) (by kernel_rfl) ?_; (repeat (go_big_quiet_step ((first | with_reducible exact C1.out.at_ _ | with_reducible exact C2.out.at_ _ | with_reducible exact C3.out.at_ _ | with_reducible exact C4.out.at_ _ | with_reducible exact C5.out.at_ _)))); refine wpQuiet_nil ?_; intro e; go_wp2_with (first | (go_at_call 51; with_reducible refine (C1.out.at_ _).mono ?_; rintro _ _ ⟨rfl, e, rfl⟩) | (go_at_call 51; with_reducible refine (C2.out.at_ _).mono ?_; rintro _ _ ⟨rfl, e, rfl⟩) | (go_at_call 51; with_reducible refine (C3.out.at_ _).mono ?_; rintro _ _ ⟨rfl, e, rfl⟩) | (go_at_call 201; with_reducible refine (C4.out.at_ _).mono ?_; rintro _ _ ⟨rfl, e, rfl⟩) | (go_at_call 51; with_reducible refine (C5.out.at_ _).mono ?_; rintro _ _ ⟨rfl, e, rfl⟩)))
    go_ret
    exact ⟨by rw [E.out]; rfl, _, rfl⟩
  (try rw [d20] at C1); (try rw [d20] at C2); (try rw [d20] at C3); (try rw [d20] at C4); (try rw [d20] at C5)
  have E : Hid (contentB x = ((x.data.length : Int) == 0)) := by show _ = _; first | (simp only [contentB, intB, operB, defB, d1, d3, d5, d8, d10, d12, d16, d20]; done) | (simp only [contentB, intB, operB, defB, d1, d3, d5, d8, d10, d12, d16, d20]; rfl) | (simp [contentB, intB, operB, defB, d1, d3, d5, d8, d10, d12, d16, d20]; done) | ((try simp at d1); (try simp at d3); (try simp at d5); (try simp at d8); (try simp at d10); (try simp at d12); (try simp at d16); (try simp at d20); simp [contentB, intB, operB, defB, d1, d3, d5, d8, d10, d12, d16, d20]; done)
  go_wp2_with (first | (go_at_call 51; with_reducible refine (C1.out.at_ _).mono ?_; rintro _ _ ⟨rfl, e, rfl⟩) | (go_at_call 51; with_reducible refine (C2.out.at_ _).mono ?_; rintro _ _ ⟨rfl, e, rfl⟩) | (go_at_call 51; with_reducible refine (C3.out.at_ _).mono ?_; rintro _ _ ⟨rfl, e, rfl⟩) | (go_at_call 201; with_reducible refine (C4.out.at_ _).mono ?_; rintro _ _ ⟨rfl, e, rfl⟩) | (go_at_call 51; with_reducible refine (C5.out.at_ _).mono ?_; rintro _ _ ⟨rfl, e, rfl⟩))
  repeat (refine wp_region_ext0 _ (by kernel_rfl) (by kernel_rfl) ?_; (repeat (go_big_quiet_step ((first | with_reducible exact C1.out.at_ _ | with_reducible exact C2.out.at_ _ | with_reducible exact C3.out.at_ _ | with_reducible exact C4.out.at_ _ | with_reducible exact C5.out.at_ _)))); refine wpQuiet_nil ?_; intro e; go_wp2_with (first | (go_at_call 51; with_reducible refine (C1.out.at_ _).mono ?_; rintro _ _ ⟨rfl, e, rfl⟩) | (go_at_call 51; with_reducible refine (C2.out.at_ _).mono ?_; rintro _ _ ⟨rfl, e, rfl⟩) | (go_at_call 51; with_reducible refine (C3.out.at_ _).mono ?_; rintro _ _ ⟨rfl, e, rfl⟩) | (go_at_call 201; with_reducible refine (C4.out.at_ _).mono ?_; rintro _ _ ⟨rfl, e, rfl⟩) | (go_at_call 51; with_reducible refine (C5.out.at_ _).mono ?_; rintro _ _ ⟨rfl, e, rfl⟩)))
  go_ret
  exact ⟨by rw [E.out]; rfl, _, rfl⟩

set_option maxHeartbeats 1000000 in
theorem l11Agent_any (x : GAgent) (b o : Nat) (bs : List Nat) (w : World) (h : PtAt w b o x.enc bs) : Calls Tryz.prog 178 #[.pointer (some ⟨b, o, none⟩)] w fun e w' => e = .returned (.bool (agentB x)) ∧ Ext w w' := by
  refine quiet_start fun e => ?_
  obtain ⟨A3, c3, b3, A4, c4, b4, h0, h1, h2, h3, h4, t3, t4⟩ := GAgent.pt h
  have hn4 := t4.nle
  have C1 : Hid (QC Tryz.prog w _ _ _) := fun W hW => l11Fields_any x b o _ W (h.ext hW)
  have C2 : Hid (QC Tryz.prog w _ _ _) := fun W hW => l11Content_any x b o _ W (h.ext hW)
  have C3 : Hid (QC Tryz.prog w _ _ _) := fun W hW => specPortsOf_any x.kind (fieldsOf x) W
  have C4 : Hid (QC Tryz.prog w _ _ _) := fun W hW => (l10Level_any x.kind x.level W).q
  go_enter Tryz.func178, Tryz.ntmps178
  cases d1 : decide (0 < portsOf x.kind (fieldsOf x))
  case false =>
    (try rw [d1] at C1); (try rw [d1] at C2); (try rw [d1] at C3); (try rw [d1] at C4)
    have E : Hid (agentB x = false) := by show _ = _; first | (simp only [agentB, d1]; done) | (simp only [agentB, d1]; rfl) | (simp [agentB, d1]; done) | ((try simp at d1); simp [agentB, d1]; done)
    go_wp2_with (first | (go_at_call 193; with_reducible refine (C1.out.at_ _).mono ?_; rintro _ _ ⟨rfl, e, rfl⟩) | (go_at_call 195; with_reducible refine (C2.out.at_ _).mono ?_; rintro _ _ ⟨rfl, e, rfl⟩) | (go_at_call 192; with_reducible refine (C3.out.at_ _).mono ?_; rintro _ _ ⟨rfl, e, rfl⟩) | (go_at_call 194; with_reducible refine (C4.out.at_ _).mono ?_; rintro _ _ ⟨rfl, e, rfl⟩))
    repeat (refine wp_region_ext0 _ (by kernel_rfl) (by kernel_rfl) ?_; (repeat (go_big_quiet_step ((first | with_reducible exact C1.out.at_ _ | with_reducible exact C2.out.at_ _ | with_reducible exact C3.out.at_ _ | with_reducible exact C4.out.at_ _)))); refine wpQuiet_nil ?_; intro e; go_wp2_with (first | (go_at_call 193; with_reducible refine (C1.out.at_ _).mono ?_; rintro _ _ ⟨rfl, e, rfl⟩) | (go_at_call 195; with_reducible refine (C2.out.at_ _).mono ?_; rintro _ _ ⟨rfl, e, rfl⟩) | (go_at_call 192; with_reducible refine (C3.out.at_ _).mono ?_; rintro _ _ ⟨rfl, e, rfl⟩) | (go_at_call 194; with_reducible refine (C4.out.at_ _).mono ?_; rintro _ _ ⟨rfl, e, rfl⟩)))
    go_ret
    exact ⟨by rw [E.out]; rfl, _, rfl⟩
  (try rw [d1] at C1); (try rw [d1] at C2); (try rw [d1] at C3); (try rw [d1] at C4)
  cases d2 : ((x.ports.length : Int) == portsOf x.kind (fieldsOf x))
  case false =>
    (try rw [d2] at C1); (try rw [d2] at C2); (try rw [d2] at C3); (try rw [d2] at C4)
    have E : Hid (agentB x = false) := by show _ = _; first | (simp only [agentB, d1, d2]; done) | (simp only [agentB, d1, d2]; rfl) | (simp [agentB, d1, d2]; done) | ((try simp at d1); (try simp at d2); simp [agentB, d1, d2]; done)
    go_wp2_with (first | (go_at_call 193; with_reducible refine (C1.out.at_ _).mono ?_; rintro _ _ ⟨rfl, e, rfl⟩) | (go_at_call 195; with_reducible refine (C2.out.at_ _).mono ?_; rintro _ _ ⟨rfl, e, rfl⟩) | (go_at_call 192; with_reducible refine (C3.out.at_ _).mono ?_; rintro _ _ ⟨rfl, e, rfl⟩) | (go_at_call 194; with_reducible refine (C4.out.at_ _).mono ?_; rintro _ _ ⟨rfl, e, rfl⟩))
    repeat (refine wp_region_ext0 _ (by kernel_rfl) (by kernel_rfl) ?_; (repeat (go_big_quiet_step ((first | with_reducible exact C1.out.at_ _ | with_reducible exact C2.out.at_ _ | with_reducible exact C3.out.at_ _ | with_reducible exact C4.out.at_ _)))); refine wpQuiet_nil ?_; intro e; go_wp2_with (first | (go_at_call 193; with_reducible refine (C1.out.at_ _).mono ?_; rintro _ _ ⟨rfl, e, rfl⟩) | (go_at_call 195; with_reducible refine (C2.out.at_ _).mono ?_; rintro _ _ ⟨rfl, e, rfl⟩) | (go_at_call 192; with_reducible refine (C3.out.at_ _).mono ?_; rintro _ _ ⟨rfl, e, rfl⟩) | (go_at_call 194; with_reducible refine (C4.out.at_ _).mono ?_; rintro _ _ ⟨rfl, e, rfl⟩)))
    go_ret
    exact ⟨by rw [E.out]; rfl, _, rfl⟩
  (try rw [d2] at C1); (try rw [d2] at C2); (try rw [d2] at C3); (try rw [d2] at C4)
  cases d3 : allowB x.kind x.level
  case false =>
    (try rw [d3] at C1); (try rw [d3] at C2); (try rw [d3] at C3); (try rw [d3] at C4)
    have E : Hid (agentB x = false) := by show _ = _; first | (simp only [agentB, d1, d2, d3]; done) | (simp only [agentB, d1, d2, d3]; rfl) | (simp [agentB, d1, d2, d3]; done) | ((try simp at d1); (try simp at d2); (try simp at d3); simp [agentB, d1, d2, d3]; done)
    go_wp2_with (first | (go_at_call 193; with_reducible refine (C1.out.at_ _).mono ?_; rintro _ _ ⟨rfl, e, rfl⟩) | (go_at_call 195; with_reducible refine (C2.out.at_ _).mono ?_; rintro _ _ ⟨rfl, e, rfl⟩) | (go_at_call 192; with_reducible refine (C3.out.at_ _).mono ?_; rintro _ _ ⟨rfl, e, rfl⟩) | (go_at_call 194; with_reducible refine (C4.out.at_ _).mono ?_; rintro _ _ ⟨rfl, e, rfl⟩))
    repeat (refine wp_region_ext0 _ (by kernel_rfl) (by kernel_rfl) ?_; (repeat (go_big_quiet_step ((first | with_reducible exact C1.out.at_ _ | with_reducible exact C2.out.at_ _ | with_reducible exact C3.out.at_ _ | with_reducible exact C4.out.at_ _)))); refine wpQuiet_nil ?_; intro e; go_wp2_with (first | (go_at_call 193; with_reducible refine (C1.out.at_ _).mono ?_; rintro _ _ ⟨rfl, e, rfl⟩) | (go_at_call 195; with_reducible refine (C2.out.at_ _).mono ?_; rintro _ _ ⟨rfl, e, rfl⟩) | (go_at_call 192; with_reducible refine (C3.out.at_ _).mono ?_; rintro _ _ ⟨rfl, e, rfl⟩) | (go_at_call 194; with_reducible refine (C4.out.at_ _).mono ?_; rintro _ _ ⟨rfl, e, rfl⟩)))
    go_ret
    exact ⟨by rw [E.out]; rfl, _, rfl⟩
  (try rw [d3] at C1); (try rw [d3] at C2); (try rw [d3] at C3); (try rw [d3] at C4)
  have E : Hid (agentB x = contentB x) := by show _ = _; first | (simp only [agentB, d1, d2, d3]; done) | (simp only [agentB, d1, d2, d3]; rfl) | (simp [agentB, d1, d2, d3]; done) | ((try simp at d1); (try simp at d2); (try simp at d3); simp [agentB, d1, d2, d3]; done)
  go_wp2_with (first | (go_at_call 193; with_reducible refine (C1.out.at_ _).mono ?_; rintro _ _ ⟨rfl, e, rfl⟩) | (go_at_call 195; with_reducible refine (C2.out.at_ _).mono ?_; rintro _ _ ⟨rfl, e, rfl⟩) | (go_at_call 192; with_reducible refine (C3.out.at_ _).mono ?_; rintro _ _ ⟨rfl, e, rfl⟩) | (go_at_call 194; with_reducible refine (C4.out.at_ _).mono ?_; rintro _ _ ⟨rfl, e, rfl⟩))
  repeat (refine wp_region_ext0 _ (by kernel_rfl) (by kernel_rfl) ?_; (repeat (go_big_quiet_step ((first | with_reducible exact C1.out.at_ _ | with_reducible exact C2.out.at_ _ | with_reducible exact C3.out.at_ _ | with_reducible exact C4.out.at_ _)))); refine wpQuiet_nil ?_; intro e; go_wp2_with (first | (go_at_call 193; with_reducible refine (C1.out.at_ _).mono ?_; rintro _ _ ⟨rfl, e, rfl⟩) | (go_at_call 195; with_reducible refine (C2.out.at_ _).mono ?_; rintro _ _ ⟨rfl, e, rfl⟩) | (go_at_call 192; with_reducible refine (C3.out.at_ _).mono ?_; rintro _ _ ⟨rfl, e, rfl⟩) | (go_at_call 194; with_reducible refine (C4.out.at_ _).mono ?_; rintro _ _ ⟨rfl, e, rfl⟩)))
  go_ret
  exact ⟨by rw [E.out]; rfl, _, rfl⟩

end Go.Proofs.YthciaodffkbljaaGreat
