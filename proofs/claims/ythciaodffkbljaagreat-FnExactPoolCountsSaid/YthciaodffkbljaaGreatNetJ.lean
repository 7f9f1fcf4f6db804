/- The program's test of an agent. Printed by gen_neti.py. -/
import Derived.Test.YthciaodffkbljaaGreatProg
import Derived.Test.YthciaodffkbljaaGreatAgents
import Derived.Test.YthciaodffkbljaaGreatNet
import Derived.Test.YthciaodffkbljaaGreatQDbg
import Derived.Test.YthciaodffkbljaaGreatGrow
import Derived.Test.YthciaodffkbljaaGreatNetI
import Derived.BigGuardPart
import Derived.Outline
import Derived.Deep.CutBlock
set_option linter.unusedSimpArgs false
set_option linter.unusedVariables false
namespace Go.Proofs.YthciaodffkbljaaGreat
open Go Go.RowKit Go.Proofs Go.Tr
set_option maxHeartbeats 1000000 in
theorem fieldsOf_any (k p : Int) (w : World) (h1 : 0 ≤ p) (h2 : p ≤ 9223372036854775807) : Calls Tryz.prog 182 #[.int .i64 k, .int .i64 p] w fun e w' => e = .returned (.int .i64 (fieldsK k p)) ∧ Ext w w' := by
  refine quiet_start fun e => ?_
  go_enter Tryz.func182, Tryz.ntmps182
  cases d1 : (k == 9)
  case true =>
    have E : Hid (fieldsK k p = p - 1) := by show _ = _; simp [fieldsK, d1]
    go_wp2_with fail
    repeat (refine wp_region_ext0 _ (by kernel_rfl) (by kernel_rfl) ?_; (repeat (go_big_quiet_step (fail))); refine wpQuiet_nil ?_; intro e; go_wp2_with fail)
    go_ret
    exact ⟨by rw [E.out]; rfl, _, rfl⟩
  have E : Hid (fieldsK k p = 0) := by show _ = _; simp [fieldsK, d1]
  go_wp2_with fail
  repeat (refine wp_region_ext0 _ (by kernel_rfl) (by kernel_rfl) ?_; (repeat (go_big_quiet_step (fail))); refine wpQuiet_nil ?_; intro e; go_wp2_with fail)
  go_ret
  exact ⟨by rw [E.out]; rfl, _, rfl⟩

set_option maxHeartbeats 1000000 in
theorem wellFormed1_any (d : Int) (w : World)  : Calls Tryz.prog 184 #[.int .i64 d] w fun e w' => e = .returned (.bool (!defB d)) ∧ Ext w w' := by
  refine quiet_start fun e => ?_
  have C1 : Hid (QC Tryz.prog w _ _ _) := fun W hW => isDefIndex_any d W
  go_enter Tryz.func184, Tryz.ntmps184
  go_wp2_with (first | (go_at_call 185; with_reducible refine (C1.out.at_ _).mono ?_; rintro _ _ ⟨rfl, e, rfl⟩))
  repeat (refine wp_region_ext0 _ (by kernel_rfl) (by kernel_rfl) ?_; (repeat (go_big_quiet_step ((first | with_reducible exact C1.out.at_ _)))); refine wpQuiet_nil ?_; intro e; go_wp2_with (first | (go_at_call 185; with_reducible refine (C1.out.at_ _).mono ?_; rintro _ _ ⟨rfl, e, rfl⟩)))
  go_ret
  exact ⟨rfl, _, rfl⟩

set_option maxHeartbeats 2000000 in
theorem indexDefs_any (xs : List Int) (n : Nat) {A : Option Addr} {c : Nat} {bs : List Nat}  (w : World) (hx : T1 w (.sl n (xs.flatMap intE)) bs (.slice A n c)) (Hl : Hid (xs.length = n))  : Calls Tryz.prog 171 #[.slice A n c, .func (.func 184) #[] #[]] w fun e w' => e = .returned (.int .i64 (idxOf n (fun k => !defB (intAt xs k)))) ∧ Ext w w' := by
  refine quiet_start fun e => ?_
  have hn := hx.nle
  go_enter Tryz.func171, Tryz.ntmps171
  go_wp2_with fail
  repeat (refine wp_region_ext0 _ (by kernel_rfl) (by kernel_rfl) ?_; (repeat (go_big_quiet_step (fail))); refine wpQuiet_nil ?_; intro e; go_wp2_with fail)
  go_loopw [5, 8] (fun _ i w' => ∃ k : Nat, k ≤ n ∧ i = .int .i64 k ∧ Hid (allTo k (fun k => !!defB (intAt xs k)) = true) ∧ ∃ e : ExtOf w, w' = e.to) (fun _ i _ => n - (intOf i).toNat)
  case atStart => exact ⟨0, Nat.zero_le _, rfl, allTo_0 _, _, rfl⟩
  case round =>
    obtain ⟨k, hk, rfl, hf, e, rfl⟩ := hrel
    by_cases hlt : k < n
    · skip
      obtain ⟨b, off, x, bs', rfl, hxk, hp⟩ := T1.elem (s := 1) (fun _ => rfl) hx Hl hlt
      have kx := intE_pt hp
      rw [Nat.mul_one] at kx
      have EP : Hid ((!defB (intAt xs k)) = !defB x) := by show _ = _; rw [intAt_of hxk]
      have C1 : Hid (QC Tryz.prog w _ _ _) := fun W hW => wellFormed1_any x W
      cases d1 : (!defB x)
      case true =>
        (try rw [d1] at C1)
        have E : Hid (idxOf n (fun k => !defB (intAt xs k)) = (k : Int)) := by show _ = _; exact idxOf_at hf hlt (by rw [EP.out]; exact d1)
        go_wp2_with (first | (go_at_call 184; with_reducible refine (C1.out.at_ _).mono ?_; rintro _ _ ⟨rfl, e, rfl⟩))
        repeat (refine wp_region_ext0 _ (by kernel_rfl) (by kernel_rfl) ?_; (repeat (go_big_quiet_step ((first | with_reducible exact C1.out.at_ _)))); refine wpQuiet_nil ?_; intro e; go_wp2_with (first | (go_at_call 184; with_reducible refine (C1.out.at_ _).mono ?_; rintro _ _ ⟨rfl, e, rfl⟩)))
        go_ret
        exact ⟨by rw [E.out]; rfl, _, rfl⟩
      (try rw [d1] at C1)
      have E : Hid ((!!defB (intAt xs k)) = true) := by show _ = _; rw [EP.out, d1]; rfl
      go_wp2_with (first | (go_at_call 184; with_reducible refine (C1.out.at_ _).mono ?_; rintro _ _ ⟨rfl, e, rfl⟩))
      repeat (refine wp_region_ext0 _ (by kernel_rfl) (by kernel_rfl) ?_; (repeat (go_big_quiet_step ((first | with_reducible exact C1.out.at_ _)))); refine wpQuiet_nil ?_; intro e; go_wp2_with (first | (go_at_call 184; with_reducible refine (C1.out.at_ _).mono ?_; rintro _ _ ⟨rfl, e, rfl⟩)))
      exact ⟨⟨k+1, by omega, by go_num, allTo_succ hf E.out, _, rfl⟩, by simp [intOf]; omega⟩
    · have : n = k := by omega
      subst this
      have E : Hid (idxOf n (fun k => !defB (intAt xs k)) = -1) := by show _ = _; exact idxOf_none hf
      go_wp2_with fail
      repeat (refine wp_region_ext0 _ (by kernel_rfl) (by kernel_rfl) ?_; (repeat (go_big_quiet_step (fail))); refine wpQuiet_nil ?_; intro e; go_wp2_with fail)
      go_ret
      exact ⟨by rw [E.out]; rfl, _, rfl⟩

set_option maxHeartbeats 1000000 in
theorem containsDefs_any (xs : List Int) (n : Nat) {A : Option Addr} {c : Nat} {bs : List Nat}  (w : World) (hx : T1 w (.sl n (xs.flatMap intE)) bs (.slice A n c)) (Hl : Hid (xs.length = n))  : Calls Tryz.prog 127 #[.slice A n c, .func (.func 184) #[] #[]] w fun e w' => e = .returned (.bool (anyTo n (fun k => !defB (intAt xs k)))) ∧ Ext w w' := by
  refine quiet_start fun e => ?_
  have C1 : Hid (QC Tryz.prog w _ _ _) := fun W hW => indexDefs_any xs n  W (hx.below hW) Hl 
  have hc := idxOf_ge n (fun k => !defB (intAt xs k))
  go_enter Tryz.func127, Tryz.ntmps127
  go_wp2_with (first | (go_at_call 171; with_reducible refine (C1.out.at_ _).mono ?_; rintro _ _ ⟨rfl, e, rfl⟩))
  repeat (refine wp_region_ext0 _ (by kernel_rfl) (by kernel_rfl) ?_; (repeat (go_big_quiet_step ((first | with_reducible exact C1.out.at_ _)))); refine wpQuiet_nil ?_; intro e; go_wp2_with (first | (go_at_call 171; with_reducible refine (C1.out.at_ _).mono ?_; rintro _ _ ⟨rfl, e, rfl⟩)))
  go_ret
  exact ⟨by rw [← hc]; rfl, _, rfl⟩

set_option maxRecDepth 100000 in
set_option maxHeartbeats 8000000 in
theorem wellFormed_any (x : GAgent) {bs us} (w : World) (h : TN w x.enc bs us) : Calls Tryz.prog 155 #[.agg us.toArray] w fun e w' => e = .returned (.bool (agentB x)) ∧ Ext w w' := by
  refine quiet_start fun e => ?_
  obtain ⟨P3, p3, q3, P4, p4, q4, rfl, _⟩ := GAgent.us (x := x) h
  go_enter Tryz.func155, Tryz.ntmps155
  go_upto_region 1 with (fail)
  generalize hgg : e.to.heap.size = g
  refine rebase_box e hgg (fun w1 e hx1 hgeg hltg cg => ?_)
  clear hgg
  replace h := h.below hx1
  have p := PtAt.box hltg cg h
  clear cg h
  obtain ⟨A3, c3, b3, A4, c4, b4, h0, h1, h2, h3, h4, t3, t4⟩ := GAgent.pt0 p
  have hn3 := t3.nle
  have hn4 := t4.nle
  have C1 : Hid (QC Tryz.prog w1 _ _ _) := fun W hW => fieldsOf_any x.kind (x.ports.length : Int) W (by omega) (by omega)
  have hf : fieldsK x.kind (x.ports.length : Int) = fieldsOf x := rfl
  rw [hf] at C1
  clear hf
  have C2 : Hid (QC Tryz.prog w1 _ _ _) := fun W hW => implPortsOf_any x.kind (fieldsOf x) W
  have C3 : Hid (QC Tryz.prog w1 _ _ _) := fun W hW => (isAllowed_any x.kind x.level W).q
  have C4 : Hid (QC Tryz.prog w1 _ _ _) := fun W hW => containsDefs_any x.data _ W (t3.below hW) Hid_rfl
  have C5 : Hid (QC Tryz.prog w1 _ _ _) := fun W hW => isInt_any x.value W
  have C6 : Hid (QC Tryz.prog w1 _ _ _) := fun W hW => isOperator_any x.value W
  have C7 : Hid (QC Tryz.prog w1 _ _ _) := fun W hW => isDefIndex_any x.value W
  cases d1 : ((x.ports.length : Int) == 0)
  case true =>
    (try rw [d1] at C1); (try rw [d1] at C2); (try rw [d1] at C3); (try rw [d1] at C4); (try rw [d1] at C5); (try rw [d1] at C6); (try rw [d1] at C7)
    have E : Hid (agentB x = false) := by show _ = _; rw [Bool.eq_false_iff]; intro hh; simp only [agentB, Bool.and_eq_true, decide_eq_true_eq, beq_iff_eq] at hh; have := (beq_iff_eq (a := (x.ports.length : Int))).1 d1; omega
    go_wp2_with (first | (go_at_call 182; with_reducible refine (C1.out.at_ _).mono ?_; rintro _ _ ⟨rfl, e, rfl⟩) | (go_at_call 181; with_reducible refine (C2.out.at_ _).mono ?_; rintro _ _ ⟨rfl, e, rfl⟩) | (go_at_call 183; with_reducible refine (C3.out.at_ _).mono ?_; rintro _ _ ⟨rfl, e, rfl⟩) | (go_at_call 127; with_reducible refine (C4.out.at_ _).mono ?_; rintro _ _ ⟨rfl, e, rfl⟩) | (go_at_call 186; with_reducible refine (C5.out.at_ _).mono ?_; rintro _ _ ⟨rfl, e, rfl⟩) | (go_at_call 187; with_reducible refine (C6.out.at_ _).mono ?_; rintro _ _ ⟨rfl, e, rfl⟩) | (go_at_call 185; with_reducible refine (C7.out.at_ _).mono ?_; rintro _ _ ⟨rfl, e, rfl⟩))
    repeat (refine wp_region_ext0 _ (by kernel_rfl) (by kernel_rfl) ?_; (repeat (go_big_quiet_step ((first | with_reducible exact C1.out.at_ _ | with_reducible exact C2.out.at_ _ | with_reducible exact C3.out.at_ _ | with_reducible exact C4.out.at_ _ | with_reducible exact C5.out.at_ _ | with_reducible exact C6.out.at_ _ | with_reducible exact C7.out.at_ _)))); refine wpQuiet_nil ?_; intro e; go_wp2_with (first | (go_at_call 182; with_reducible refine (C1.out.at_ _).mono ?_; rintro _ _ ⟨rfl, e, rfl⟩) | (go_at_call 181; with_reducible refine (C2.out.at_ _).mono ?_; rintro _ _ ⟨rfl, e, rfl⟩) | (go_at_call 183; with_reducible refine (C3.out.at_ _).mono ?_; rintro _ _ ⟨rfl, e, rfl⟩) | (go_at_call 127; with_reducible refine (C4.out.at_ _).mono ?_; rintro _ _ ⟨rfl, e, rfl⟩) | (go_at_call 186; with_reducible refine (C5.out.at_ _).mono ?_; rintro _ _ ⟨rfl, e, rfl⟩) | (go_at_call 187; with_reducible refine (C6.out.at_ _).mono ?_; rintro _ _ ⟨rfl, e, rfl⟩) | (go_at_call 185; with_reducible refine (C7.out.at_ _).mono ?_; rintro _ _ ⟨rfl, e, rfl⟩)))
    go_ret
    exact ⟨by rw [E.out]; rfl, ExtOf.old hx1 e⟩
  (try rw [d1] at C1); (try rw [d1] at C2); (try rw [d1] at C3); (try rw [d1] at C4); (try rw [d1] at C5); (try rw [d1] at C6); (try rw [d1] at C7)
  cases d2 : (portsOf x.kind (fieldsOf x) != (x.ports.length : Int))
  case true =>
    (try rw [d2] at C1); (try rw [d2] at C2); (try rw [d2] at C3); (try rw [d2] at C4); (try rw [d2] at C5); (try rw [d2] at C6); (try rw [d2] at C7)
    have E : Hid (agentB x = false) := by show _ = _; rw [Bool.eq_false_iff]; intro hh; simp only [agentB, Bool.and_eq_true, decide_eq_true_eq, beq_iff_eq] at hh; have := bne_iff_ne.1 d2; omega
    go_wp2_with (first | (go_at_call 182; with_reducible refine (C1.out.at_ _).mono ?_; rintro _ _ ⟨rfl, e, rfl⟩) | (go_at_call 181; with_reducible refine (C2.out.at_ _).mono ?_; rintro _ _ ⟨rfl, e, rfl⟩) | (go_at_call 183; with_reducible refine (C3.out.at_ _).mono ?_; rintro _ _ ⟨rfl, e, rfl⟩) | (go_at_call 127; with_reducible refine (C4.out.at_ _).mono ?_; rintro _ _ ⟨rfl, e, rfl⟩) | (go_at_call 186; with_reducible refine (C5.out.at_ _).mono ?_; rintro _ _ ⟨rfl, e, rfl⟩) | (go_at_call 187; with_reducible refine (C6.out.at_ _).mono ?_; rintro _ _ ⟨rfl, e, rfl⟩) | (go_at_call 185; with_reducible refine (C7.out.at_ _).mono ?_; rintro _ _ ⟨rfl, e, rfl⟩))
    repeat (refine wp_region_ext0 _ (by kernel_rfl) (by kernel_rfl) ?_; (repeat (go_big_quiet_step ((first | with_reducible exact C1.out.at_ _ | with_reducible exact C2.out.at_ _ | with_reducible exact C3.out.at_ _ | with_reducible exact C4.out.at_ _ | with_reducible exact C5.out.at_ _ | with_reducible exact C6.out.at_ _ | with_reducible exact C7.out.at_ _)))); refine wpQuiet_nil ?_; intro e; go_wp2_with (first | (go_at_call 182; with_reducible refine (C1.out.at_ _).mono ?_; rintro _ _ ⟨rfl, e, rfl⟩) | (go_at_call 181; with_reducible refine (C2.out.at_ _).mono ?_; rintro _ _ ⟨rfl, e, rfl⟩) | (go_at_call 183; with_reducible refine (C3.out.at_ _).mono ?_; rintro _ _ ⟨rfl, e, rfl⟩) | (go_at_call 127; with_reducible refine (C4.out.at_ _).mono ?_; rintro _ _ ⟨rfl, e, rfl⟩) | (go_at_call 186; with_reducible refine (C5.out.at_ _).mono ?_; rintro _ _ ⟨rfl, e, rfl⟩) | (go_at_call 187; with_reducible refine (C6.out.at_ _).mono ?_; rintro _ _ ⟨rfl, e, rfl⟩) | (go_at_call 185; with_reducible refine (C7.out.at_ _).mono ?_; rintro _ _ ⟨rfl, e, rfl⟩)))
    go_ret
    exact ⟨by rw [E.out]; rfl, ExtOf.old hx1 e⟩
  (try rw [d2] at C1); (try rw [d2] at C2); (try rw [d2] at C3); (try rw [d2] at C4); (try rw [d2] at C5); (try rw [d2] at C6); (try rw [d2] at C7)
  cases d3 : allowB x.kind x.level
  case false =>
    (try rw [d3] at C1); (try rw [d3] at C2); (try rw [d3] at C3); (try rw [d3] at C4); (try rw [d3] at C5); (try rw [d3] at C6); (try rw [d3] at C7)
    have E : Hid (agentB x = false) := by show _ = _; simp [agentB, d3]
    go_wp2_with (first | (go_at_call 182; with_reducible refine (C1.out.at_ _).mono ?_; rintro _ _ ⟨rfl, e, rfl⟩) | (go_at_call 181; with_reducible refine (C2.out.at_ _).mono ?_; rintro _ _ ⟨rfl, e, rfl⟩) | (go_at_call 183; with_reducible refine (C3.out.at_ _).mono ?_; rintro _ _ ⟨rfl, e, rfl⟩) | (go_at_call 127; with_reducible refine (C4.out.at_ _).mono ?_; rintro _ _ ⟨rfl, e, rfl⟩) | (go_at_call 186; with_reducible refine (C5.out.at_ _).mono ?_; rintro _ _ ⟨rfl, e, rfl⟩) | (go_at_call 187; with_reducible refine (C6.out.at_ _).mono ?_; rintro _ _ ⟨rfl, e, rfl⟩) | (go_at_call 185; with_reducible refine (C7.out.at_ _).mono ?_; rintro _ _ ⟨rfl, e, rfl⟩))
    repeat (refine wp_region_ext0 _ (by kernel_rfl) (by kernel_rfl) ?_; (repeat (go_big_quiet_step ((first | with_reducible exact C1.out.at_ _ | with_reducible exact C2.out.at_ _ | with_reducible exact C3.out.at_ _ | with_reducible exact C4.out.at_ _ | with_reducible exact C5.out.at_ _ | with_reducible exact C6.out.at_ _ | with_reducible exact C7.out.at_ _)))); refine wpQuiet_nil ?_; intro e; go_wp2_with (first | (go_at_call 182; with_reducible refine (C1.out.at_ _).mono ?_; rintro _ _ ⟨rfl, e, rfl⟩) | (go_at_call 181; with_reducible refine (C2.out.at_ _).mono ?_; rintro _ _ ⟨rfl, e, rfl⟩) | (go_at_call 183; with_reducible refine (C3.out.at_ _).mono ?_; rintro _ _ ⟨rfl, e, rfl⟩) | (go_at_call 127; with_reducible refine (C4.out.at_ _).mono ?_; rintro _ _ ⟨rfl, e, rfl⟩) | (go_at_call 186; with_reducible refine (C5.out.at_ _).mono ?_; rintro _ _ ⟨rfl, e, rfl⟩) | (go_at_call 187; with_reducible refine (C6.out.at_ _).mono ?_; rintro _ _ ⟨rfl, e, rfl⟩) | (go_at_call 185; with_reducible refine (C7.out.at_ _).mono ?_; rintro _ _ ⟨rfl, e, rfl⟩)))
    go_ret
    exact ⟨by rw [E.out]; rfl, ExtOf.old hx1 e⟩
  (try rw [d3] at C1); (try rw [d3] at C2); (try rw [d3] at C3); (try rw [d3] at C4); (try rw [d3] at C5); (try rw [d3] at C6); (try rw [d3] at C7)
  have EA : Hid (agentB x = contentB x) := by
    show _ = _
    have e1 := (bne_eq_false_iff_eq).1 d2
    have e2 : ¬ (x.ports.length : Int) = 0 := by simpa only [beq_eq_false_iff_ne, ne_eq] using d1
    have e3 : decide (0 < portsOf x.kind (fieldsOf x)) = true := by simp; omega
    have e4 : ((x.ports.length : Int) == portsOf x.kind (fieldsOf x)) = true := by simp [e1]
    simp only [agentB, e3, e4, d3, Bool.true_and]
  have ED : Hid ((!anyTo x.data.length (fun k => !defB (intAt x.data k))) = defsB x.data) := by show _ = _; simp [anyTo, defsB]
  cases d4 : (x.kind == 6)
  case true =>
    (try rw [d4] at C1); (try rw [d4] at C2); (try rw [d4] at C3); (try rw [d4] at C4); (try rw [d4] at C5); (try rw [d4] at C6); (try rw [d4] at C7)
    cases d5 : intB x.value
    case false =>
      (try rw [d5] at C1); (try rw [d5] at C2); (try rw [d5] at C3); (try rw [d5] at C4); (try rw [d5] at C5); (try rw [d5] at C6); (try rw [d5] at C7)
      have E : Hid (agentB x = false) := by show _ = _; rw [EA.out]; (try simp at d4); (try simp at d5); simp [contentB, d4, d5]
      go_wp2_with (first | (go_at_call 182; with_reducible refine (C1.out.at_ _).mono ?_; rintro _ _ ⟨rfl, e, rfl⟩) | (go_at_call 181; with_reducible refine (C2.out.at_ _).mono ?_; rintro _ _ ⟨rfl, e, rfl⟩) | (go_at_call 183; with_reducible refine (C3.out.at_ _).mono ?_; rintro _ _ ⟨rfl, e, rfl⟩) | (go_at_call 127; with_reducible refine (C4.out.at_ _).mono ?_; rintro _ _ ⟨rfl, e, rfl⟩) | (go_at_call 186; with_reducible refine (C5.out.at_ _).mono ?_; rintro _ _ ⟨rfl, e, rfl⟩) | (go_at_call 187; with_reducible refine (C6.out.at_ _).mono ?_; rintro _ _ ⟨rfl, e, rfl⟩) | (go_at_call 185; with_reducible refine (C7.out.at_ _).mono ?_; rintro _ _ ⟨rfl, e, rfl⟩))
      repeat (refine wp_region_ext0 _ (by kernel_rfl) (by kernel_rfl) ?_; (repeat (go_big_quiet_step ((first | with_reducible exact C1.out.at_ _ | with_reducible exact C2.out.at_ _ | with_reducible exact C3.out.at_ _ | with_reducible exact C4.out.at_ _ | with_reducible exact C5.out.at_ _ | with_reducible exact C6.out.at_ _ | with_reducible exact C7.out.at_ _)))); refine wpQuiet_nil ?_; intro e; go_wp2_with (first | (go_at_call 182; with_reducible refine (C1.out.at_ _).mono ?_; rintro _ _ ⟨rfl, e, rfl⟩) | (go_at_call 181; with_reducible refine (C2.out.at_ _).mono ?_; rintro _ _ ⟨rfl, e, rfl⟩) | (go_at_call 183; with_reducible refine (C3.out.at_ _).mono ?_; rintro _ _ ⟨rfl, e, rfl⟩) | (go_at_call 127; with_reducible refine (C4.out.at_ _).mono ?_; rintro _ _ ⟨rfl, e, rfl⟩) | (go_at_call 186; with_reducible refine (C5.out.at_ _).mono ?_; rintro _ _ ⟨rfl, e, rfl⟩) | (go_at_call 187; with_reducible refine (C6.out.at_ _).mono ?_; rintro _ _ ⟨rfl, e, rfl⟩) | (go_at_call 185; with_reducible refine (C7.out.at_ _).mono ?_; rintro _ _ ⟨rfl, e, rfl⟩)))
      go_ret
      exact ⟨by rw [E.out]; rfl, ExtOf.old hx1 e⟩
    (try rw [d5] at C1); (try rw [d5] at C2); (try rw [d5] at C3); (try rw [d5] at C4); (try rw [d5] at C5); (try rw [d5] at C6); (try rw [d5] at C7)
    have E : Hid (agentB x = ((x.data.length : Int) == 0)) := by show _ = _; rw [EA.out]; (try simp at d4); (try simp at d5); simp [contentB, d4, d5]
    go_wp2_with (first | (go_at_call 182; with_reducible refine (C1.out.at_ _).mono ?_; rintro _ _ ⟨rfl, e, rfl⟩) | (go_at_call 181; with_reducible refine (C2.out.at_ _).mono ?_; rintro _ _ ⟨rfl, e, rfl⟩) | (go_at_call 183; with_reducible refine (C3.out.at_ _).mono ?_; rintro _ _ ⟨rfl, e, rfl⟩) | (go_at_call 127; with_reducible refine (C4.out.at_ _).mono ?_; rintro _ _ ⟨rfl, e, rfl⟩) | (go_at_call 186; with_reducible refine (C5.out.at_ _).mono ?_; rintro _ _ ⟨rfl, e, rfl⟩) | (go_at_call 187; with_reducible refine (C6.out.at_ _).mono ?_; rintro _ _ ⟨rfl, e, rfl⟩) | (go_at_call 185; with_reducible refine (C7.out.at_ _).mono ?_; rintro _ _ ⟨rfl, e, rfl⟩))
    repeat (refine wp_region_ext0 _ (by kernel_rfl) (by kernel_rfl) ?_; (repeat (go_big_quiet_step ((first | with_reducible exact C1.out.at_ _ | with_reducible exact C2.out.at_ _ | with_reducible exact C3.out.at_ _ | with_reducible exact C4.out.at_ _ | with_reducible exact C5.out.at_ _ | with_reducible exact C6.out.at_ _ | with_reducible exact C7.out.at_ _)))); refine wpQuiet_nil ?_; intro e; go_wp2_with (first | (go_at_call 182; with_reducible refine (C1.out.at_ _).mono ?_; rintro _ _ ⟨rfl, e, rfl⟩) | (go_at_call 181; with_reducible refine (C2.out.at_ _).mono ?_; rintro _ _ ⟨rfl, e, rfl⟩) | (go_at_call 183; with_reducible refine (C3.out.at_ _).mono ?_; rintro _ _ ⟨rfl, e, rfl⟩) | (go_at_call 127; with_reducible refine (C4.out.at_ _).mono ?_; rintro _ _ ⟨rfl, e, rfl⟩) | (go_at_call 186; with_reducible refine (C5.out.at_ _).mono ?_; rintro _ _ ⟨rfl, e, rfl⟩) | (go_at_call 187; with_reducible refine (C6.out.at_ _).mono ?_; rintro _ _ ⟨rfl, e, rfl⟩) | (go_at_call 185; with_reducible refine (C7.out.at_ _).mono ?_; rintro _ _ ⟨rfl, e, rfl⟩)))
    go_ret
    exact ⟨by rw [E.out]; rfl, ExtOf.old hx1 e⟩
  (try rw [d4] at C1); (try rw [d4] at C2); (try rw [d4] at C3); (try rw [d4] at C4); (try rw [d4] at C5); (try rw [d4] at C6); (try rw [d4] at C7)
  cases d6 : (x.kind == 7)
  case true =>
    (try rw [d6] at C1); (try rw [d6] at C2); (try rw [d6] at C3); (try rw [d6] at C4); (try rw [d6] at C5); (try rw [d6] at C6); (try rw [d6] at C7)
    cases d7 : operB x.value
    case false =>
      (try rw [d7] at C1); (try rw [d7] at C2); (try rw [d7] at C3); (try rw [d7] at C4); (try rw [d7] at C5); (try rw [d7] at C6); (try rw [d7] at C7)
      have E : Hid (agentB x = false) := by show _ = _; rw [EA.out]; (try simp at d4); (try simp at d6); (try simp at d7); simp [contentB, d4, d6, d7]
      go_wp2_with (first | (go_at_call 182; with_reducible refine (C1.out.at_ _).mono ?_; rintro _ _ ⟨rfl, e, rfl⟩) | (go_at_call 181; with_reducible refine (C2.out.at_ _).mono ?_; rintro _ _ ⟨rfl, e, rfl⟩) | (go_at_call 183; with_reducible refine (C3.out.at_ _).mono ?_; rintro _ _ ⟨rfl, e, rfl⟩) | (go_at_call 127; with_reducible refine (C4.out.at_ _).mono ?_; rintro _ _ ⟨rfl, e, rfl⟩) | (go_at_call 186; with_reducible refine (C5.out.at_ _).mono ?_; rintro _ _ ⟨rfl, e, rfl⟩) | (go_at_call 187; with_reducible refine (C6.out.at_ _).mono ?_; rintro _ _ ⟨rfl, e, rfl⟩) | (go_at_call 185; with_reducible refine (C7.out.at_ _).mono ?_; rintro _ _ ⟨rfl, e, rfl⟩))
      repeat (refine wp_region_ext0 _ (by kernel_rfl) (by kernel_rfl) ?_; (repeat (go_big_quiet_step ((first | with_reducible exact C1.out.at_ _ | with_reducible exact C2.out.at_ _ | with_reducible exact C3.out.at_ _ | with_reducible exact C4.out.at_ _ | with_reducible exact C5.out.at_ _ | with_reducible exact C6.out.at_ _ | with_reducible exact C7.out.at_ _)))); refine wpQuiet_nil ?_; intro e; go_wp2_with (first | (go_at_call 182; with_reducible refine (C1.out.at_ _).mono ?_; rintro _ _ ⟨rfl, e, rfl⟩) | (go_at_call 181; with_reducible refine (C2.out.at_ _).mono ?_; rintro _ _ ⟨rfl, e, rfl⟩) | (go_at_call 183; with_reducible refine (C3.out.at_ _).mono ?_; rintro _ _ ⟨rfl, e, rfl⟩) | (go_at_call 127; with_reducible refine (C4.out.at_ _).mono ?_; rintro _ _ ⟨rfl, e, rfl⟩) | (go_at_call 186; with_reducible refine (C5.out.at_ _).mono ?_; rintro _ _ ⟨rfl, e, rfl⟩) | (go_at_call 187; with_reducible refine (C6.out.at_ _).mono ?_; rintro _ _ ⟨rfl, e, rfl⟩) | (go_at_call 185; with_reducible refine (C7.out.at_ _).mono ?_; rintro _ _ ⟨rfl, e, rfl⟩)))
      go_ret
      exact ⟨by rw [E.out]; rfl, ExtOf.old hx1 e⟩
    (try rw [d7] at C1); (try rw [d7] at C2); (try rw [d7] at C3); (try rw [d7] at C4); (try rw [d7] at C5); (try rw [d7] at C6); (try rw [d7] at C7)
    have E : Hid (agentB x = ((x.data.length : Int) == 0)) := by show _ = _; rw [EA.out]; (try simp at d4); (try simp at d6); (try simp at d7); simp [contentB, d4, d6, d7]
    go_wp2_with (first | (go_at_call 182; with_reducible refine (C1.out.at_ _).mono ?_; rintro _ _ ⟨rfl, e, rfl⟩) | (go_at_call 181; with_reducible refine (C2.out.at_ _).mono ?_; rintro _ _ ⟨rfl, e, rfl⟩) | (go_at_call 183; with_reducible refine (C3.out.at_ _).mono ?_; rintro _ _ ⟨rfl, e, rfl⟩) | (go_at_call 127; with_reducible refine (C4.out.at_ _).mono ?_; rintro _ _ ⟨rfl, e, rfl⟩) | (go_at_call 186; with_reducible refine (C5.out.at_ _).mono ?_; rintro _ _ ⟨rfl, e, rfl⟩) | (go_at_call 187; with_reducible refine (C6.out.at_ _).mono ?_; rintro _ _ ⟨rfl, e, rfl⟩) | (go_at_call 185; with_reducible refine (C7.out.at_ _).mono ?_; rintro _ _ ⟨rfl, e, rfl⟩))
    repeat (refine wp_region_ext0 _ (by kernel_rfl) (by kernel_rfl) ?_; (repeat (go_big_quiet_step ((first | with_reducible exact C1.out.at_ _ | with_reducible exact C2.out.at_ _ | with_reducible exact C3.out.at_ _ | with_reducible exact C4.out.at_ _ | with_reducible exact C5.out.at_ _ | with_reducible exact C6.out.at_ _ | with_reducible exact C7.out.at_ _)))); refine wpQuiet_nil ?_; intro e; go_wp2_with (first | (go_at_call 182; with_reducible refine (C1.out.at_ _).mono ?_; rintro _ _ ⟨rfl, e, rfl⟩) | (go_at_call 181; with_reducible refine (C2.out.at_ _).mono ?_; rintro _ _ ⟨rfl, e, rfl⟩) | (go_at_call 183; with_reducible refine (C3.out.at_ _).mono ?_; rintro _ _ ⟨rfl, e, rfl⟩) | (go_at_call 127; with_reducible refine (C4.out.at_ _).mono ?_; rintro _ _ ⟨rfl, e, rfl⟩) | (go_at_call 186; with_reducible refine (C5.out.at_ _).mono ?_; rintro _ _ ⟨rfl, e, rfl⟩) | (go_at_call 187; with_reducible refine (C6.out.at_ _).mono ?_; rintro _ _ ⟨rfl, e, rfl⟩) | (go_at_call 185; with_reducible refine (C7.out.at_ _).mono ?_; rintro _ _ ⟨rfl, e, rfl⟩)))
    go_ret
    exact ⟨by rw [E.out]; rfl, ExtOf.old hx1 e⟩
  (try rw [d6] at C1); (try rw [d6] at C2); (try rw [d6] at C3); (try rw [d6] at C4); (try rw [d6] at C5); (try rw [d6] at C6); (try rw [d6] at C7)
  cases d8 : (x.kind == 8)
  case true =>
    (try rw [d8] at C1); (try rw [d8] at C2); (try rw [d8] at C3); (try rw [d8] at C4); (try rw [d8] at C5); (try rw [d8] at C6); (try rw [d8] at C7)
    cases d9 : operB x.value
    case false =>
      (try rw [d9] at C1); (try rw [d9] at C2); (try rw [d9] at C3); (try rw [d9] at C4); (try rw [d9] at C5); (try rw [d9] at C6); (try rw [d9] at C7)
      have E : Hid (agentB x = false) := by show _ = _; rw [EA.out]; (try simp at d4); (try simp at d6); (try simp at d8); (try simp at d9); simp [contentB, d4, d6, d8, d9]
      go_wp2_with (first | (go_at_call 182; with_reducible refine (C1.out.at_ _).mono ?_; rintro _ _ ⟨rfl, e, rfl⟩) | (go_at_call 181; with_reducible refine (C2.out.at_ _).mono ?_; rintro _ _ ⟨rfl, e, rfl⟩) | (go_at_call 183; with_reducible refine (C3.out.at_ _).mono ?_; rintro _ _ ⟨rfl, e, rfl⟩) | (go_at_call 127; with_reducible refine (C4.out.at_ _).mono ?_; rintro _ _ ⟨rfl, e, rfl⟩) | (go_at_call 186; with_reducible refine (C5.out.at_ _).mono ?_; rintro _ _ ⟨rfl, e, rfl⟩) | (go_at_call 187; with_reducible refine (C6.out.at_ _).mono ?_; rintro _ _ ⟨rfl, e, rfl⟩) | (go_at_call 185; with_reducible refine (C7.out.at_ _).mono ?_; rintro _ _ ⟨rfl, e, rfl⟩))
      repeat (refine wp_region_ext0 _ (by kernel_rfl) (by kernel_rfl) ?_; (repeat (go_big_quiet_step ((first | with_reducible exact C1.out.at_ _ | with_reducible exact C2.out.at_ _ | with_reducible exact C3.out.at_ _ | with_reducible exact C4.out.at_ _ | with_reducible exact C5.out.at_ _ | with_reducible exact C6.out.at_ _ | with_reducible exact C7.out.at_ _)))); refine wpQuiet_nil ?_; intro e; go_wp2_with (first | (go_at_call 182; with_reducible refine (C1.out.at_ _).mono ?_; rintro _ _ ⟨rfl, e, rfl⟩) | (go_at_call 181; with_reducible refine (C2.out.at_ _).mono ?_; rintro _ _ ⟨rfl, e, rfl⟩) | (go_at_call 183; with_reducible refine (C3.out.at_ _).mono ?_; rintro _ _ ⟨rfl, e, rfl⟩) | (go_at_call 127; with_reducible refine (C4.out.at_ _).mono ?_; rintro _ _ ⟨rfl, e, rfl⟩) | (go_at_call 186; with_reducible refine (C5.out.at_ _).mono ?_; rintro _ _ ⟨rfl, e, rfl⟩) | (go_at_call 187; with_reducible refine (C6.out.at_ _).mono ?_; rintro _ _ ⟨rfl, e, rfl⟩) | (go_at_call 185; with_reducible refine (C7.out.at_ _).mono ?_; rintro _ _ ⟨rfl, e, rfl⟩)))
      go_ret
      exact ⟨by rw [E.out]; rfl, ExtOf.old hx1 e⟩
    (try rw [d9] at C1); (try rw [d9] at C2); (try rw [d9] at C3); (try rw [d9] at C4); (try rw [d9] at C5); (try rw [d9] at C6); (try rw [d9] at C7)
    cases d10 : ((x.data.length : Int) == 1)
    case false =>
      (try rw [d10] at C1); (try rw [d10] at C2); (try rw [d10] at C3); (try rw [d10] at C4); (try rw [d10] at C5); (try rw [d10] at C6); (try rw [d10] at C7)
      have E : Hid (agentB x = false) := by show _ = _; rw [EA.out]; (try simp at d4); (try simp at d6); (try simp at d8); (try simp at d9); (try simp at d10); simp [contentB, d4, d6, d8, d9, d10]
      go_wp2_with (first | (go_at_call 182; with_reducible refine (C1.out.at_ _).mono ?_; rintro _ _ ⟨rfl, e, rfl⟩) | (go_at_call 181; with_reducible refine (C2.out.at_ _).mono ?_; rintro _ _ ⟨rfl, e, rfl⟩) | (go_at_call 183; with_reducible refine (C3.out.at_ _).mono ?_; rintro _ _ ⟨rfl, e, rfl⟩) | (go_at_call 127; with_reducible refine (C4.out.at_ _).mono ?_; rintro _ _ ⟨rfl, e, rfl⟩) | (go_at_call 186; with_reducible refine (C5.out.at_ _).mono ?_; rintro _ _ ⟨rfl, e, rfl⟩) | (go_at_call 187; with_reducible refine (C6.out.at_ _).mono ?_; rintro _ _ ⟨rfl, e, rfl⟩) | (go_at_call 185; with_reducible refine (C7.out.at_ _).mono ?_; rintro _ _ ⟨rfl, e, rfl⟩))
      repeat (refine wp_region_ext0 _ (by kernel_rfl) (by kernel_rfl) ?_; (repeat (go_big_quiet_step ((first | with_reducible exact C1.out.at_ _ | with_reducible exact C2.out.at_ _ | with_reducible exact C3.out.at_ _ | with_reducible exact C4.out.at_ _ | with_reducible exact C5.out.at_ _ | with_reducible exact C6.out.at_ _ | with_reducible exact C7.out.at_ _)))); refine wpQuiet_nil ?_; intro e; go_wp2_with (first | (go_at_call 182; with_reducible refine (C1.out.at_ _).mono ?_; rintro _ _ ⟨rfl, e, rfl⟩) | (go_at_call 181; with_reducible refine (C2.out.at_ _).mono ?_; rintro _ _ ⟨rfl, e, rfl⟩) | (go_at_call 183; with_reducible refine (C3.out.at_ _).mono ?_; rintro _ _ ⟨rfl, e, rfl⟩) | (go_at_call 127; with_reducible refine (C4.out.at_ _).mono ?_; rintro _ _ ⟨rfl, e, rfl⟩) | (go_at_call 186; with_reducible refine (C5.out.at_ _).mono ?_; rintro _ _ ⟨rfl, e, rfl⟩) | (go_at_call 187; with_reducible refine (C6.out.at_ _).mono ?_; rintro _ _ ⟨rfl, e, rfl⟩) | (go_at_call 185; with_reducible refine (C7.out.at_ _).mono ?_; rintro _ _ ⟨rfl, e, rfl⟩)))
      go_ret
      exact ⟨by rw [E.out]; rfl, ExtOf.old hx1 e⟩
    (try rw [d10] at C1); (try rw [d10] at C2); (try rw [d10] at C3); (try rw [d10] at C4); (try rw [d10] at C5); (try rw [d10] at C6); (try rw [d10] at C7)
    have hlt0 : 0 < x.data.length := by simp at d10; omega
    obtain ⟨b', off, v, bs', rfl, hv, hp⟩ := T1.elem (s := 1) (fun _ => rfl) t3 (Hid_rfl) hlt0
    have hk := intE_pt hp
    rw [Nat.zero_mul, Nat.add_zero] at hk
    have hg := Lib.hid (intAt_of hv)
    have C8 : Hid (QC Tryz.prog w1 _ _ _) := fun W hW => isInt_any v W
    have E : Hid (agentB x = intB v) := by show _ = _; rw [← hg.out, EA.out]; (try simp at d4); (try simp at d6); (try simp at d8); (try simp at d9); (try simp at d10); simp [contentB, d4, d6, d8, d9, d10]
    go_wp2_with (first | (go_at_call 182; with_reducible refine (C1.out.at_ _).mono ?_; rintro _ _ ⟨rfl, e, rfl⟩) | (go_at_call 181; with_reducible refine (C2.out.at_ _).mono ?_; rintro _ _ ⟨rfl, e, rfl⟩) | (go_at_call 183; with_reducible refine (C3.out.at_ _).mono ?_; rintro _ _ ⟨rfl, e, rfl⟩) | (go_at_call 127; with_reducible refine (C4.out.at_ _).mono ?_; rintro _ _ ⟨rfl, e, rfl⟩) | (go_at_call 186; with_reducible refine (C5.out.at_ _).mono ?_; rintro _ _ ⟨rfl, e, rfl⟩) | (go_at_call 187; with_reducible refine (C6.out.at_ _).mono ?_; rintro _ _ ⟨rfl, e, rfl⟩) | (go_at_call 185; with_reducible refine (C7.out.at_ _).mono ?_; rintro _ _ ⟨rfl, e, rfl⟩) | (go_at_call 186; with_reducible refine (C8.out.at_ _).mono ?_; rintro _ _ ⟨rfl, e, rfl⟩))
    repeat (refine wp_region_ext0 _ (by kernel_rfl) (by kernel_rfl) ?_; (repeat (go_big_quiet_step ((first | with_reducible exact C1.out.at_ _ | with_reducible exact C2.out.at_ _ | with_reducible exact C3.out.at_ _ | with_reducible exact C4.out.at_ _ | with_reducible exact C5.out.at_ _ | with_reducible exact C6.out.at_ _ | with_reducible exact C7.out.at_ _ | with_reducible exact C8.out.at_ _)))); refine wpQuiet_nil ?_; intro e; go_wp2_with (first | (go_at_call 182; with_reducible refine (C1.out.at_ _).mono ?_; rintro _ _ ⟨rfl, e, rfl⟩) | (go_at_call 181; with_reducible refine (C2.out.at_ _).mono ?_; rintro _ _ ⟨rfl, e, rfl⟩) | (go_at_call 183; with_reducible refine (C3.out.at_ _).mono ?_; rintro _ _ ⟨rfl, e, rfl⟩) | (go_at_call 127; with_reducible refine (C4.out.at_ _).mono ?_; rintro _ _ ⟨rfl, e, rfl⟩) | (go_at_call 186; with_reducible refine (C5.out.at_ _).mono ?_; rintro _ _ ⟨rfl, e, rfl⟩) | (go_at_call 187; with_reducible refine (C6.out.at_ _).mono ?_; rintro _ _ ⟨rfl, e, rfl⟩) | (go_at_call 185; with_reducible refine (C7.out.at_ _).mono ?_; rintro _ _ ⟨rfl, e, rfl⟩) | (go_at_call 186; with_reducible refine (C8.out.at_ _).mono ?_; rintro _ _ ⟨rfl, e, rfl⟩)))
    go_ret
    exact ⟨by rw [E.out]; rfl, ExtOf.old hx1 e⟩
  (try rw [d8] at C1); (try rw [d8] at C2); (try rw [d8] at C3); (try rw [d8] at C4); (try rw [d8] at C5); (try rw [d8] at C6); (try rw [d8] at C7)
  cases d11 : (x.kind == 9)
  case true =>
    (try rw [d11] at C1); (try rw [d11] at C2); (try rw [d11] at C3); (try rw [d11] at C4); (try rw [d11] at C5); (try rw [d11] at C6); (try rw [d11] at C7)
    cases d12 : decide (0 ≤ x.value)
    case false =>
      (try rw [d12] at C1); (try rw [d12] at C2); (try rw [d12] at C3); (try rw [d12] at C4); (try rw [d12] at C5); (try rw [d12] at C6); (try rw [d12] at C7)
      have E : Hid (agentB x = false) := by show _ = _; rw [EA.out]; (try simp at d4); (try simp at d6); (try simp at d8); (try simp at d11); (try simp at d12); simp [contentB, inB, d4, d6, d8, d11, d12] <;> omega
      go_wp2_with (first | (go_at_call 182; with_reducible refine (C1.out.at_ _).mono ?_; rintro _ _ ⟨rfl, e, rfl⟩) | (go_at_call 181; with_reducible refine (C2.out.at_ _).mono ?_; rintro _ _ ⟨rfl, e, rfl⟩) | (go_at_call 183; with_reducible refine (C3.out.at_ _).mono ?_; rintro _ _ ⟨rfl, e, rfl⟩) | (go_at_call 127; with_reducible refine (C4.out.at_ _).mono ?_; rintro _ _ ⟨rfl, e, rfl⟩) | (go_at_call 186; with_reducible refine (C5.out.at_ _).mono ?_; rintro _ _ ⟨rfl, e, rfl⟩) | (go_at_call 187; with_reducible refine (C6.out.at_ _).mono ?_; rintro _ _ ⟨rfl, e, rfl⟩) | (go_at_call 185; with_reducible refine (C7.out.at_ _).mono ?_; rintro _ _ ⟨rfl, e, rfl⟩))
      repeat (refine wp_region_ext0 _ (by kernel_rfl) (by kernel_rfl) ?_; (repeat (go_big_quiet_step ((first | with_reducible exact C1.out.at_ _ | with_reducible exact C2.out.at_ _ | with_reducible exact C3.out.at_ _ | with_reducible exact C4.out.at_ _ | with_reducible exact C5.out.at_ _ | with_reducible exact C6.out.at_ _ | with_reducible exact C7.out.at_ _)))); refine wpQuiet_nil ?_; intro e; go_wp2_with (first | (go_at_call 182; with_reducible refine (C1.out.at_ _).mono ?_; rintro _ _ ⟨rfl, e, rfl⟩) | (go_at_call 181; with_reducible refine (C2.out.at_ _).mono ?_; rintro _ _ ⟨rfl, e, rfl⟩) | (go_at_call 183; with_reducible refine (C3.out.at_ _).mono ?_; rintro _ _ ⟨rfl, e, rfl⟩) | (go_at_call 127; with_reducible refine (C4.out.at_ _).mono ?_; rintro _ _ ⟨rfl, e, rfl⟩) | (go_at_call 186; with_reducible refine (C5.out.at_ _).mono ?_; rintro _ _ ⟨rfl, e, rfl⟩) | (go_at_call 187; with_reducible refine (C6.out.at_ _).mono ?_; rintro _ _ ⟨rfl, e, rfl⟩) | (go_at_call 185; with_reducible refine (C7.out.at_ _).mono ?_; rintro _ _ ⟨rfl, e, rfl⟩)))
      go_ret
      exact ⟨by rw [E.out]; rfl, ExtOf.old hx1 e⟩
    (try rw [d12] at C1); (try rw [d12] at C2); (try rw [d12] at C3); (try rw [d12] at C4); (try rw [d12] at C5); (try rw [d12] at C6); (try rw [d12] at C7)
    cases d13 : decide (x.value < 4)
    case false =>
      (try rw [d13] at C1); (try rw [d13] at C2); (try rw [d13] at C3); (try rw [d13] at C4); (try rw [d13] at C5); (try rw [d13] at C6); (try rw [d13] at C7)
      have E : Hid (agentB x = false) := by show _ = _; rw [EA.out]; (try simp at d4); (try simp at d6); (try simp at d8); (try simp at d11); (try simp at d12); (try simp at d13); simp [contentB, inB, d4, d6, d8, d11, d12, d13] <;> omega
      go_wp2_with (first | (go_at_call 182; with_reducible refine (C1.out.at_ _).mono ?_; rintro _ _ ⟨rfl, e, rfl⟩) | (go_at_call 181; with_reducible refine (C2.out.at_ _).mono ?_; rintro _ _ ⟨rfl, e, rfl⟩) | (go_at_call 183; with_reducible refine (C3.out.at_ _).mono ?_; rintro _ _ ⟨rfl, e, rfl⟩) | (go_at_call 127; with_reducible refine (C4.out.at_ _).mono ?_; rintro _ _ ⟨rfl, e, rfl⟩) | (go_at_call 186; with_reducible refine (C5.out.at_ _).mono ?_; rintro _ _ ⟨rfl, e, rfl⟩) | (go_at_call 187; with_reducible refine (C6.out.at_ _).mono ?_; rintro _ _ ⟨rfl, e, rfl⟩) | (go_at_call 185; with_reducible refine (C7.out.at_ _).mono ?_; rintro _ _ ⟨rfl, e, rfl⟩))
      repeat (refine wp_region_ext0 _ (by kernel_rfl) (by kernel_rfl) ?_; (repeat (go_big_quiet_step ((first | with_reducible exact C1.out.at_ _ | with_reducible exact C2.out.at_ _ | with_reducible exact C3.out.at_ _ | with_reducible exact C4.out.at_ _ | with_reducible exact C5.out.at_ _ | with_reducible exact C6.out.at_ _ | with_reducible exact C7.out.at_ _)))); refine wpQuiet_nil ?_; intro e; go_wp2_with (first | (go_at_call 182; with_reducible refine (C1.out.at_ _).mono ?_; rintro _ _ ⟨rfl, e, rfl⟩) | (go_at_call 181; with_reducible refine (C2.out.at_ _).mono ?_; rintro _ _ ⟨rfl, e, rfl⟩) | (go_at_call 183; with_reducible refine (C3.out.at_ _).mono ?_; rintro _ _ ⟨rfl, e, rfl⟩) | (go_at_call 127; with_reducible refine (C4.out.at_ _).mono ?_; rintro _ _ ⟨rfl, e, rfl⟩) | (go_at_call 186; with_reducible refine (C5.out.at_ _).mono ?_; rintro _ _ ⟨rfl, e, rfl⟩) | (go_at_call 187; with_reducible refine (C6.out.at_ _).mono ?_; rintro _ _ ⟨rfl, e, rfl⟩) | (go_at_call 185; with_reducible refine (C7.out.at_ _).mono ?_; rintro _ _ ⟨rfl, e, rfl⟩)))
      go_ret
      exact ⟨by rw [E.out]; rfl, ExtOf.old hx1 e⟩
    (try rw [d13] at C1); (try rw [d13] at C2); (try rw [d13] at C3); (try rw [d13] at C4); (try rw [d13] at C5); (try rw [d13] at C6); (try rw [d13] at C7)
    have E : Hid (agentB x = ((x.data.length : Int) == 0)) := by show _ = _; rw [EA.out]; (try simp at d4); (try simp at d6); (try simp at d8); (try simp at d11); (try simp at d12); (try simp at d13); simp [contentB, inB, d4, d6, d8, d11, d12, d13] <;> omega
    go_wp2_with (first | (go_at_call 182; with_reducible refine (C1.out.at_ _).mono ?_; rintro _ _ ⟨rfl, e, rfl⟩) | (go_at_call 181; with_reducible refine (C2.out.at_ _).mono ?_; rintro _ _ ⟨rfl, e, rfl⟩) | (go_at_call 183; with_reducible refine (C3.out.at_ _).mono ?_; rintro _ _ ⟨rfl, e, rfl⟩) | (go_at_call 127; with_reducible refine (C4.out.at_ _).mono ?_; rintro _ _ ⟨rfl, e, rfl⟩) | (go_at_call 186; with_reducible refine (C5.out.at_ _).mono ?_; rintro _ _ ⟨rfl, e, rfl⟩) | (go_at_call 187; with_reducible refine (C6.out.at_ _).mono ?_; rintro _ _ ⟨rfl, e, rfl⟩) | (go_at_call 185; with_reducible refine (C7.out.at_ _).mono ?_; rintro _ _ ⟨rfl, e, rfl⟩))
    repeat (refine wp_region_ext0 _ (by kernel_rfl) (by kernel_rfl) ?_; (repeat (go_big_quiet_step ((first | with_reducible exact C1.out.at_ _ | with_reducible exact C2.out.at_ _ | with_reducible exact C3.out.at_ _ | with_reducible exact C4.out.at_ _ | with_reducible exact C5.out.at_ _ | with_reducible exact C6.out.at_ _ | with_reducible exact C7.out.at_ _)))); refine wpQuiet_nil ?_; intro e; go_wp2_with (first | (go_at_call 182; with_reducible refine (C1.out.at_ _).mono ?_; rintro _ _ ⟨rfl, e, rfl⟩) | (go_at_call 181; with_reducible refine (C2.out.at_ _).mono ?_; rintro _ _ ⟨rfl, e, rfl⟩) | (go_at_call 183; with_reducible refine (C3.out.at_ _).mono ?_; rintro _ _ ⟨rfl, e, rfl⟩) | (go_at_call 127; with_reducible refine (C4.out.at_ _).mono ?_; rintro _ _ ⟨rfl, e, rfl⟩) | (go_at_call 186; with_reducible refine (C5.out.at_ _).mono ?_; rintro _ _ ⟨rfl, e, rfl⟩) | (go_at_call 187; with_reducible refine (C6.out.at_ _).mono ?_; rintro _ _ ⟨rfl, e, rfl⟩) | (go_at_call 185; with_reducible refine (C7.out.at_ _).mono ?_; rintro _ _ ⟨rfl, e, rfl⟩)))
    go_ret
    exact ⟨by rw [E.out]; rfl, ExtOf.old hx1 e⟩
  (try rw [d11] at C1); (try rw [d11] at C2); (try rw [d11] at C3); (try rw [d11] at C4); (try rw [d11] at C5); (try rw [d11] at C6); (try rw [d11] at C7)
  cases d14 : (x.kind == 10)
  case true =>
    (try rw [d14] at C1); (try rw [d14] at C2); (try rw [d14] at C3); (try rw [d14] at C4); (try rw [d14] at C5); (try rw [d14] at C6); (try rw [d14] at C7)
    have k11 : (x.kind == 12) = false := by simp at d14; simp [d14]
    cases d15 : decide ((1 : Int) ≤ x.data.length)
    case false =>
      (try rw [d15] at C1); (try rw [d15] at C2); (try rw [d15] at C3); (try rw [d15] at C4); (try rw [d15] at C5); (try rw [d15] at C6); (try rw [d15] at C7)
      cases d16 : (x.value == 0)
      case false =>
        (try rw [d16] at C1); (try rw [d16] at C2); (try rw [d16] at C3); (try rw [d16] at C4); (try rw [d16] at C5); (try rw [d16] at C6); (try rw [d16] at C7)
        have E : Hid (agentB x = false) := by show _ = _; rw [EA.out]; (try simp at d4); (try simp at d6); (try simp at d8); (try simp at d11); (try simp at d14); (try simp at d15); (try simp at d16); simp [contentB, d4, d6, d8, d11, d14, d15, d16]
        go_wp2_with (first | (go_at_call 182; with_reducible refine (C1.out.at_ _).mono ?_; rintro _ _ ⟨rfl, e, rfl⟩) | (go_at_call 181; with_reducible refine (C2.out.at_ _).mono ?_; rintro _ _ ⟨rfl, e, rfl⟩) | (go_at_call 183; with_reducible refine (C3.out.at_ _).mono ?_; rintro _ _ ⟨rfl, e, rfl⟩) | (go_at_call 127; with_reducible refine (C4.out.at_ _).mono ?_; rintro _ _ ⟨rfl, e, rfl⟩) | (go_at_call 186; with_reducible refine (C5.out.at_ _).mono ?_; rintro _ _ ⟨rfl, e, rfl⟩) | (go_at_call 187; with_reducible refine (C6.out.at_ _).mono ?_; rintro _ _ ⟨rfl, e, rfl⟩) | (go_at_call 185; with_reducible refine (C7.out.at_ _).mono ?_; rintro _ _ ⟨rfl, e, rfl⟩))
        repeat (refine wp_region_ext0 _ (by kernel_rfl) (by kernel_rfl) ?_; (repeat (go_big_quiet_step ((first | with_reducible exact C1.out.at_ _ | with_reducible exact C2.out.at_ _ | with_reducible exact C3.out.at_ _ | with_reducible exact C4.out.at_ _ | with_reducible exact C5.out.at_ _ | with_reducible exact C6.out.at_ _ | with_reducible exact C7.out.at_ _)))); refine wpQuiet_nil ?_; intro e; go_wp2_with (first | (go_at_call 182; with_reducible refine (C1.out.at_ _).mono ?_; rintro _ _ ⟨rfl, e, rfl⟩) | (go_at_call 181; with_reducible refine (C2.out.at_ _).mono ?_; rintro _ _ ⟨rfl, e, rfl⟩) | (go_at_call 183; with_reducible refine (C3.out.at_ _).mono ?_; rintro _ _ ⟨rfl, e, rfl⟩) | (go_at_call 127; with_reducible refine (C4.out.at_ _).mono ?_; rintro _ _ ⟨rfl, e, rfl⟩) | (go_at_call 186; with_reducible refine (C5.out.at_ _).mono ?_; rintro _ _ ⟨rfl, e, rfl⟩) | (go_at_call 187; with_reducible refine (C6.out.at_ _).mono ?_; rintro _ _ ⟨rfl, e, rfl⟩) | (go_at_call 185; with_reducible refine (C7.out.at_ _).mono ?_; rintro _ _ ⟨rfl, e, rfl⟩)))
        go_ret
        exact ⟨by rw [E.out]; rfl, ExtOf.old hx1 e⟩
      (try rw [d16] at C1); (try rw [d16] at C2); (try rw [d16] at C3); (try rw [d16] at C4); (try rw [d16] at C5); (try rw [d16] at C6); (try rw [d16] at C7)
      have E : Hid (agentB x = false) := by show _ = _; rw [EA.out]; (try simp at d4); (try simp at d6); (try simp at d8); (try simp at d11); (try simp at d14); (try simp at d15); (try simp at d16); simp [contentB, inB, d4, d6, d8, d11, d14, d15, d16] <;> omega
      go_wp2_with (first | (go_at_call 182; with_reducible refine (C1.out.at_ _).mono ?_; rintro _ _ ⟨rfl, e, rfl⟩) | (go_at_call 181; with_reducible refine (C2.out.at_ _).mono ?_; rintro _ _ ⟨rfl, e, rfl⟩) | (go_at_call 183; with_reducible refine (C3.out.at_ _).mono ?_; rintro _ _ ⟨rfl, e, rfl⟩) | (go_at_call 127; with_reducible refine (C4.out.at_ _).mono ?_; rintro _ _ ⟨rfl, e, rfl⟩) | (go_at_call 186; with_reducible refine (C5.out.at_ _).mono ?_; rintro _ _ ⟨rfl, e, rfl⟩) | (go_at_call 187; with_reducible refine (C6.out.at_ _).mono ?_; rintro _ _ ⟨rfl, e, rfl⟩) | (go_at_call 185; with_reducible refine (C7.out.at_ _).mono ?_; rintro _ _ ⟨rfl, e, rfl⟩))
      repeat (refine wp_region_ext0 _ (by kernel_rfl) (by kernel_rfl) ?_; (repeat (go_big_quiet_step ((first | with_reducible exact C1.out.at_ _ | with_reducible exact C2.out.at_ _ | with_reducible exact C3.out.at_ _ | with_reducible exact C4.out.at_ _ | with_reducible exact C5.out.at_ _ | with_reducible exact C6.out.at_ _ | with_reducible exact C7.out.at_ _)))); refine wpQuiet_nil ?_; intro e; go_wp2_with (first | (go_at_call 182; with_reducible refine (C1.out.at_ _).mono ?_; rintro _ _ ⟨rfl, e, rfl⟩) | (go_at_call 181; with_reducible refine (C2.out.at_ _).mono ?_; rintro _ _ ⟨rfl, e, rfl⟩) | (go_at_call 183; with_reducible refine (C3.out.at_ _).mono ?_; rintro _ _ ⟨rfl, e, rfl⟩) | (go_at_call 127; with_reducible refine (C4.out.at_ _).mono ?_; rintro _ _ ⟨rfl, e, rfl⟩) | (go_at_call 186; with_reducible refine (C5.out.at_ _).mono ?_; rintro _ _ ⟨rfl, e, rfl⟩) | (go_at_call 187; with_reducible refine (C6.out.at_ _).mono ?_; rintro _ _ ⟨rfl, e, rfl⟩) | (go_at_call 185; with_reducible refine (C7.out.at_ _).mono ?_; rintro _ _ ⟨rfl, e, rfl⟩)))
      go_ret
      exact ⟨by rw [E.out]; rfl, ExtOf.old hx1 e⟩
    (try rw [d15] at C1); (try rw [d15] at C2); (try rw [d15] at C3); (try rw [d15] at C4); (try rw [d15] at C5); (try rw [d15] at C6); (try rw [d15] at C7)
    cases d17 : decide ((x.data.length : Int) ≤ 4)
    case false =>
      (try rw [d17] at C1); (try rw [d17] at C2); (try rw [d17] at C3); (try rw [d17] at C4); (try rw [d17] at C5); (try rw [d17] at C6); (try rw [d17] at C7)
      cases d18 : (x.value == 0)
      case false =>
        (try rw [d18] at C1); (try rw [d18] at C2); (try rw [d18] at C3); (try rw [d18] at C4); (try rw [d18] at C5); (try rw [d18] at C6); (try rw [d18] at C7)
        have E : Hid (agentB x = false) := by show _ = _; rw [EA.out]; (try simp at d4); (try simp at d6); (try simp at d8); (try simp at d11); (try simp at d14); (try simp at d15); (try simp at d17); (try simp at d18); simp [contentB, d4, d6, d8, d11, d14, d15, d17, d18]
        go_wp2_with (first | (go_at_call 182; with_reducible refine (C1.out.at_ _).mono ?_; rintro _ _ ⟨rfl, e, rfl⟩) | (go_at_call 181; with_reducible refine (C2.out.at_ _).mono ?_; rintro _ _ ⟨rfl, e, rfl⟩) | (go_at_call 183; with_reducible refine (C3.out.at_ _).mono ?_; rintro _ _ ⟨rfl, e, rfl⟩) | (go_at_call 127; with_reducible refine (C4.out.at_ _).mono ?_; rintro _ _ ⟨rfl, e, rfl⟩) | (go_at_call 186; with_reducible refine (C5.out.at_ _).mono ?_; rintro _ _ ⟨rfl, e, rfl⟩) | (go_at_call 187; with_reducible refine (C6.out.at_ _).mono ?_; rintro _ _ ⟨rfl, e, rfl⟩) | (go_at_call 185; with_reducible refine (C7.out.at_ _).mono ?_; rintro _ _ ⟨rfl, e, rfl⟩))
        repeat (refine wp_region_ext0 _ (by kernel_rfl) (by kernel_rfl) ?_; (repeat (go_big_quiet_step ((first | with_reducible exact C1.out.at_ _ | with_reducible exact C2.out.at_ _ | with_reducible exact C3.out.at_ _ | with_reducible exact C4.out.at_ _ | with_reducible exact C5.out.at_ _ | with_reducible exact C6.out.at_ _ | with_reducible exact C7.out.at_ _)))); refine wpQuiet_nil ?_; intro e; go_wp2_with (first | (go_at_call 182; with_reducible refine (C1.out.at_ _).mono ?_; rintro _ _ ⟨rfl, e, rfl⟩) | (go_at_call 181; with_reducible refine (C2.out.at_ _).mono ?_; rintro _ _ ⟨rfl, e, rfl⟩) | (go_at_call 183; with_reducible refine (C3.out.at_ _).mono ?_; rintro _ _ ⟨rfl, e, rfl⟩) | (go_at_call 127; with_reducible refine (C4.out.at_ _).mono ?_; rintro _ _ ⟨rfl, e, rfl⟩) | (go_at_call 186; with_reducible refine (C5.out.at_ _).mono ?_; rintro _ _ ⟨rfl, e, rfl⟩) | (go_at_call 187; with_reducible refine (C6.out.at_ _).mono ?_; rintro _ _ ⟨rfl, e, rfl⟩) | (go_at_call 185; with_reducible refine (C7.out.at_ _).mono ?_; rintro _ _ ⟨rfl, e, rfl⟩)))
        go_ret
        exact ⟨by rw [E.out]; rfl, ExtOf.old hx1 e⟩
      (try rw [d18] at C1); (try rw [d18] at C2); (try rw [d18] at C3); (try rw [d18] at C4); (try rw [d18] at C5); (try rw [d18] at C6); (try rw [d18] at C7)
      have E : Hid (agentB x = false) := by show _ = _; rw [EA.out]; (try simp at d4); (try simp at d6); (try simp at d8); (try simp at d11); (try simp at d14); (try simp at d15); (try simp at d17); (try simp at d18); simp [contentB, inB, d4, d6, d8, d11, d14, d15, d17, d18] <;> omega
      go_wp2_with (first | (go_at_call 182; with_reducible refine (C1.out.at_ _).mono ?_; rintro _ _ ⟨rfl, e, rfl⟩) | (go_at_call 181; with_reducible refine (C2.out.at_ _).mono ?_; rintro _ _ ⟨rfl, e, rfl⟩) | (go_at_call 183; with_reducible refine (C3.out.at_ _).mono ?_; rintro _ _ ⟨rfl, e, rfl⟩) | (go_at_call 127; with_reducible refine (C4.out.at_ _).mono ?_; rintro _ _ ⟨rfl, e, rfl⟩) | (go_at_call 186; with_reducible refine (C5.out.at_ _).mono ?_; rintro _ _ ⟨rfl, e, rfl⟩) | (go_at_call 187; with_reducible refine (C6.out.at_ _).mono ?_; rintro _ _ ⟨rfl, e, rfl⟩) | (go_at_call 185; with_reducible refine (C7.out.at_ _).mono ?_; rintro _ _ ⟨rfl, e, rfl⟩))
      repeat (refine wp_region_ext0 _ (by kernel_rfl) (by kernel_rfl) ?_; (repeat (go_big_quiet_step ((first | with_reducible exact C1.out.at_ _ | with_reducible exact C2.out.at_ _ | with_reducible exact C3.out.at_ _ | with_reducible exact C4.out.at_ _ | with_reducible exact C5.out.at_ _ | with_reducible exact C6.out.at_ _ | with_reducible exact C7.out.at_ _)))); refine wpQuiet_nil ?_; intro e; go_wp2_with (first | (go_at_call 182; with_reducible refine (C1.out.at_ _).mono ?_; rintro _ _ ⟨rfl, e, rfl⟩) | (go_at_call 181; with_reducible refine (C2.out.at_ _).mono ?_; rintro _ _ ⟨rfl, e, rfl⟩) | (go_at_call 183; with_reducible refine (C3.out.at_ _).mono ?_; rintro _ _ ⟨rfl, e, rfl⟩) | (go_at_call 127; with_reducible refine (C4.out.at_ _).mono ?_; rintro _ _ ⟨rfl, e, rfl⟩) | (go_at_call 186; with_reducible refine (C5.out.at_ _).mono ?_; rintro _ _ ⟨rfl, e, rfl⟩) | (go_at_call 187; with_reducible refine (C6.out.at_ _).mono ?_; rintro _ _ ⟨rfl, e, rfl⟩) | (go_at_call 185; with_reducible refine (C7.out.at_ _).mono ?_; rintro _ _ ⟨rfl, e, rfl⟩)))
      go_ret
      exact ⟨by rw [E.out]; rfl, ExtOf.old hx1 e⟩
    (try rw [d17] at C1); (try rw [d17] at C2); (try rw [d17] at C3); (try rw [d17] at C4); (try rw [d17] at C5); (try rw [d17] at C6); (try rw [d17] at C7)
    cases d19 : (x.value == 0)
    case false =>
      (try rw [d19] at C1); (try rw [d19] at C2); (try rw [d19] at C3); (try rw [d19] at C4); (try rw [d19] at C5); (try rw [d19] at C6); (try rw [d19] at C7)
      have E : Hid (agentB x = false) := by show _ = _; rw [EA.out]; (try simp at d4); (try simp at d6); (try simp at d8); (try simp at d11); (try simp at d14); (try simp at d15); (try simp at d17); (try simp at d19); simp [contentB, d4, d6, d8, d11, d14, d15, d17, d19]
      go_wp2_with (first | (go_at_call 182; with_reducible refine (C1.out.at_ _).mono ?_; rintro _ _ ⟨rfl, e, rfl⟩) | (go_at_call 181; with_reducible refine (C2.out.at_ _).mono ?_; rintro _ _ ⟨rfl, e, rfl⟩) | (go_at_call 183; with_reducible refine (C3.out.at_ _).mono ?_; rintro _ _ ⟨rfl, e, rfl⟩) | (go_at_call 127; with_reducible refine (C4.out.at_ _).mono ?_; rintro _ _ ⟨rfl, e, rfl⟩) | (go_at_call 186; with_reducible refine (C5.out.at_ _).mono ?_; rintro _ _ ⟨rfl, e, rfl⟩) | (go_at_call 187; with_reducible refine (C6.out.at_ _).mono ?_; rintro _ _ ⟨rfl, e, rfl⟩) | (go_at_call 185; with_reducible refine (C7.out.at_ _).mono ?_; rintro _ _ ⟨rfl, e, rfl⟩))
      repeat (refine wp_region_ext0 _ (by kernel_rfl) (by kernel_rfl) ?_; (repeat (go_big_quiet_step ((first | with_reducible exact C1.out.at_ _ | with_reducible exact C2.out.at_ _ | with_reducible exact C3.out.at_ _ | with_reducible exact C4.out.at_ _ | with_reducible exact C5.out.at_ _ | with_reducible exact C6.out.at_ _ | with_reducible exact C7.out.at_ _)))); refine wpQuiet_nil ?_; intro e; go_wp2_with (first | (go_at_call 182; with_reducible refine (C1.out.at_ _).mono ?_; rintro _ _ ⟨rfl, e, rfl⟩) | (go_at_call 181; with_reducible refine (C2.out.at_ _).mono ?_; rintro _ _ ⟨rfl, e, rfl⟩) | (go_at_call 183; with_reducible refine (C3.out.at_ _).mono ?_; rintro _ _ ⟨rfl, e, rfl⟩) | (go_at_call 127; with_reducible refine (C4.out.at_ _).mono ?_; rintro _ _ ⟨rfl, e, rfl⟩) | (go_at_call 186; with_reducible refine (C5.out.at_ _).mono ?_; rintro _ _ ⟨rfl, e, rfl⟩) | (go_at_call 187; with_reducible refine (C6.out.at_ _).mono ?_; rintro _ _ ⟨rfl, e, rfl⟩) | (go_at_call 185; with_reducible refine (C7.out.at_ _).mono ?_; rintro _ _ ⟨rfl, e, rfl⟩)))
      go_ret
      exact ⟨by rw [E.out]; rfl, ExtOf.old hx1 e⟩
    (try rw [d19] at C1); (try rw [d19] at C2); (try rw [d19] at C3); (try rw [d19] at C4); (try rw [d19] at C5); (try rw [d19] at C6); (try rw [d19] at C7)
    have E : Hid (agentB x = (!anyTo x.data.length (fun k => !defB (intAt x.data k)))) := by show _ = _; rw [ED.out, EA.out]; (try simp at d4); (try simp at d6); (try simp at d8); (try simp at d11); (try simp at d14); (try simp at d15); (try simp at d17); (try simp at d19); simp [contentB, inB, d4, d6, d8, d11, d14, d15, d17, d19] <;> omega
    go_wp2_with (first | (go_at_call 182; with_reducible refine (C1.out.at_ _).mono ?_; rintro _ _ ⟨rfl, e, rfl⟩) | (go_at_call 181; with_reducible refine (C2.out.at_ _).mono ?_; rintro _ _ ⟨rfl, e, rfl⟩) | (go_at_call 183; with_reducible refine (C3.out.at_ _).mono ?_; rintro _ _ ⟨rfl, e, rfl⟩) | (go_at_call 127; with_reducible refine (C4.out.at_ _).mono ?_; rintro _ _ ⟨rfl, e, rfl⟩) | (go_at_call 186; with_reducible refine (C5.out.at_ _).mono ?_; rintro _ _ ⟨rfl, e, rfl⟩) | (go_at_call 187; with_reducible refine (C6.out.at_ _).mono ?_; rintro _ _ ⟨rfl, e, rfl⟩) | (go_at_call 185; with_reducible refine (C7.out.at_ _).mono ?_; rintro _ _ ⟨rfl, e, rfl⟩))
    repeat (refine wp_region_ext0 _ (by kernel_rfl) (by kernel_rfl) ?_; (repeat (go_big_quiet_step ((first | with_reducible exact C1.out.at_ _ | with_reducible exact C2.out.at_ _ | with_reducible exact C3.out.at_ _ | with_reducible exact C4.out.at_ _ | with_reducible exact C5.out.at_ _ | with_reducible exact C6.out.at_ _ | with_reducible exact C7.out.at_ _)))); refine wpQuiet_nil ?_; intro e; go_wp2_with (first | (go_at_call 182; with_reducible refine (C1.out.at_ _).mono ?_; rintro _ _ ⟨rfl, e, rfl⟩) | (go_at_call 181; with_reducible refine (C2.out.at_ _).mono ?_; rintro _ _ ⟨rfl, e, rfl⟩) | (go_at_call 183; with_reducible refine (C3.out.at_ _).mono ?_; rintro _ _ ⟨rfl, e, rfl⟩) | (go_at_call 127; with_reducible refine (C4.out.at_ _).mono ?_; rintro _ _ ⟨rfl, e, rfl⟩) | (go_at_call 186; with_reducible refine (C5.out.at_ _).mono ?_; rintro _ _ ⟨rfl, e, rfl⟩) | (go_at_call 187; with_reducible refine (C6.out.at_ _).mono ?_; rintro _ _ ⟨rfl, e, rfl⟩) | (go_at_call 185; with_reducible refine (C7.out.at_ _).mono ?_; rintro _ _ ⟨rfl, e, rfl⟩)))
    go_ret
    exact ⟨by rw [E.out]; rfl, ExtOf.old hx1 e⟩
  (try rw [d14] at C1); (try rw [d14] at C2); (try rw [d14] at C3); (try rw [d14] at C4); (try rw [d14] at C5); (try rw [d14] at C6); (try rw [d14] at C7)
  cases d20 : (x.kind == 11)
  case true =>
    (try rw [d20] at C1); (try rw [d20] at C2); (try rw [d20] at C3); (try rw [d20] at C4); (try rw [d20] at C5); (try rw [d20] at C6); (try rw [d20] at C7)
    have k11 : (x.kind == 12) = false := by simp at d20; simp [d20]
    cases d21 : ((x.data.length : Int) == 2)
    case false =>
      (try rw [d21] at C1); (try rw [d21] at C2); (try rw [d21] at C3); (try rw [d21] at C4); (try rw [d21] at C5); (try rw [d21] at C6); (try rw [d21] at C7)
      cases d22 : (x.value == 0)
      case false =>
        (try rw [d22] at C1); (try rw [d22] at C2); (try rw [d22] at C3); (try rw [d22] at C4); (try rw [d22] at C5); (try rw [d22] at C6); (try rw [d22] at C7)
        have E : Hid (agentB x = false) := by show _ = _; rw [EA.out]; (try simp at d4); (try simp at d6); (try simp at d8); (try simp at d11); (try simp at d14); (try simp at d20); (try simp at d21); (try simp at d22); simp [contentB, d4, d6, d8, d11, d14, d20, d21, d22]
        go_wp2_with (first | (go_at_call 182; with_reducible refine (C1.out.at_ _).mono ?_; rintro _ _ ⟨rfl, e, rfl⟩) | (go_at_call 181; with_reducible refine (C2.out.at_ _).mono ?_; rintro _ _ ⟨rfl, e, rfl⟩) | (go_at_call 183; with_reducible refine (C3.out.at_ _).mono ?_; rintro _ _ ⟨rfl, e, rfl⟩) | (go_at_call 127; with_reducible refine (C4.out.at_ _).mono ?_; rintro _ _ ⟨rfl, e, rfl⟩) | (go_at_call 186; with_reducible refine (C5.out.at_ _).mono ?_; rintro _ _ ⟨rfl, e, rfl⟩) | (go_at_call 187; with_reducible refine (C6.out.at_ _).mono ?_; rintro _ _ ⟨rfl, e, rfl⟩) | (go_at_call 185; with_reducible refine (C7.out.at_ _).mono ?_; rintro _ _ ⟨rfl, e, rfl⟩))
        repeat (refine wp_region_ext0 _ (by kernel_rfl) (by kernel_rfl) ?_; (repeat (go_big_quiet_step ((first | with_reducible exact C1.out.at_ _ | with_reducible exact C2.out.at_ _ | with_reducible exact C3.out.at_ _ | with_reducible exact C4.out.at_ _ | with_reducible exact C5.out.at_ _ | with_reducible exact C6.out.at_ _ | with_reducible exact C7.out.at_ _)))); refine wpQuiet_nil ?_; intro e; go_wp2_with (first | (go_at_call 182; with_reducible refine (C1.out.at_ _).mono ?_; rintro _ _ ⟨rfl, e, rfl⟩) | (go_at_call 181; with_reducible refine (C2.out.at_ _).mono ?_; rintro _ _ ⟨rfl, e, rfl⟩) | (go_at_call 183; with_reducible refine (C3.out.at_ _).mono ?_; rintro _ _ ⟨rfl, e, rfl⟩) | (go_at_call 127; with_reducible refine (C4.out.at_ _).mono ?_; rintro _ _ ⟨rfl, e, rfl⟩) | (go_at_call 186; with_reducible refine (C5.out.at_ _).mono ?_; rintro _ _ ⟨rfl, e, rfl⟩) | (go_at_call 187; with_reducible refine (C6.out.at_ _).mono ?_; rintro _ _ ⟨rfl, e, rfl⟩) | (go_at_call 185; with_reducible refine (C7.out.at_ _).mono ?_; rintro _ _ ⟨rfl, e, rfl⟩)))
        go_ret
        exact ⟨by rw [E.out]; rfl, ExtOf.old hx1 e⟩
      (try rw [d22] at C1); (try rw [d22] at C2); (try rw [d22] at C3); (try rw [d22] at C4); (try rw [d22] at C5); (try rw [d22] at C6); (try rw [d22] at C7)
      have E : Hid (agentB x = false) := by show _ = _; rw [EA.out]; (try simp at d4); (try simp at d6); (try simp at d8); (try simp at d11); (try simp at d14); (try simp at d20); (try simp at d21); (try simp at d22); simp [contentB, d4, d6, d8, d11, d14, d20, d21, d22]
      go_wp2_with (first | (go_at_call 182; with_reducible refine (C1.out.at_ _).mono ?_; rintro _ _ ⟨rfl, e, rfl⟩) | (go_at_call 181; with_reducible refine (C2.out.at_ _).mono ?_; rintro _ _ ⟨rfl, e, rfl⟩) | (go_at_call 183; with_reducible refine (C3.out.at_ _).mono ?_; rintro _ _ ⟨rfl, e, rfl⟩) | (go_at_call 127; with_reducible refine (C4.out.at_ _).mono ?_; rintro _ _ ⟨rfl, e, rfl⟩) | (go_at_call 186; with_reducible refine (C5.out.at_ _).mono ?_; rintro _ _ ⟨rfl, e, rfl⟩) | (go_at_call 187; with_reducible refine (C6.out.at_ _).mono ?_; rintro _ _ ⟨rfl, e, rfl⟩) | (go_at_call 185; with_reducible refine (C7.out.at_ _).mono ?_; rintro _ _ ⟨rfl, e, rfl⟩))
      repeat (refine wp_region_ext0 _ (by kernel_rfl) (by kernel_rfl) ?_; (repeat (go_big_quiet_step ((first | with_reducible exact C1.out.at_ _ | with_reducible exact C2.out.at_ _ | with_reducible exact C3.out.at_ _ | with_reducible exact C4.out.at_ _ | with_reducible exact C5.out.at_ _ | with_reducible exact C6.out.at_ _ | with_reducible exact C7.out.at_ _)))); refine wpQuiet_nil ?_; intro e; go_wp2_with (first | (go_at_call 182; with_reducible refine (C1.out.at_ _).mono ?_; rintro _ _ ⟨rfl, e, rfl⟩) | (go_at_call 181; with_reducible refine (C2.out.at_ _).mono ?_; rintro _ _ ⟨rfl, e, rfl⟩) | (go_at_call 183; with_reducible refine (C3.out.at_ _).mono ?_; rintro _ _ ⟨rfl, e, rfl⟩) | (go_at_call 127; with_reducible refine (C4.out.at_ _).mono ?_; rintro _ _ ⟨rfl, e, rfl⟩) | (go_at_call 186; with_reducible refine (C5.out.at_ _).mono ?_; rintro _ _ ⟨rfl, e, rfl⟩) | (go_at_call 187; with_reducible refine (C6.out.at_ _).mono ?_; rintro _ _ ⟨rfl, e, rfl⟩) | (go_at_call 185; with_reducible refine (C7.out.at_ _).mono ?_; rintro _ _ ⟨rfl, e, rfl⟩)))
      go_ret
      exact ⟨by rw [E.out]; rfl, ExtOf.old hx1 e⟩
    (try rw [d21] at C1); (try rw [d21] at C2); (try rw [d21] at C3); (try rw [d21] at C4); (try rw [d21] at C5); (try rw [d21] at C6); (try rw [d21] at C7)
    cases d23 : (x.value == 0)
    case false =>
      (try rw [d23] at C1); (try rw [d23] at C2); (try rw [d23] at C3); (try rw [d23] at C4); (try rw [d23] at C5); (try rw [d23] at C6); (try rw [d23] at C7)
      have E : Hid (agentB x = false) := by show _ = _; rw [EA.out]; (try simp at d4); (try simp at d6); (try simp at d8); (try simp at d11); (try simp at d14); (try simp at d20); (try simp at d21); (try simp at d23); simp [contentB, d4, d6, d8, d11, d14, d20, d21, d23]
      go_wp2_with (first | (go_at_call 182; with_reducible refine (C1.out.at_ _).mono ?_; rintro _ _ ⟨rfl, e, rfl⟩) | (go_at_call 181; with_reducible refine (C2.out.at_ _).mono ?_; rintro _ _ ⟨rfl, e, rfl⟩) | (go_at_call 183; with_reducible refine (C3.out.at_ _).mono ?_; rintro _ _ ⟨rfl, e, rfl⟩) | (go_at_call 127; with_reducible refine (C4.out.at_ _).mono ?_; rintro _ _ ⟨rfl, e, rfl⟩) | (go_at_call 186; with_reducible refine (C5.out.at_ _).mono ?_; rintro _ _ ⟨rfl, e, rfl⟩) | (go_at_call 187; with_reducible refine (C6.out.at_ _).mono ?_; rintro _ _ ⟨rfl, e, rfl⟩) | (go_at_call 185; with_reducible refine (C7.out.at_ _).mono ?_; rintro _ _ ⟨rfl, e, rfl⟩))
      repeat (refine wp_region_ext0 _ (by kernel_rfl) (by kernel_rfl) ?_; (repeat (go_big_quiet_step ((first | with_reducible exact C1.out.at_ _ | with_reducible exact C2.out.at_ _ | with_reducible exact C3.out.at_ _ | with_reducible exact C4.out.at_ _ | with_reducible exact C5.out.at_ _ | with_reducible exact C6.out.at_ _ | with_reducible exact C7.out.at_ _)))); refine wpQuiet_nil ?_; intro e; go_wp2_with (first | (go_at_call 182; with_reducible refine (C1.out.at_ _).mono ?_; rintro _ _ ⟨rfl, e, rfl⟩) | (go_at_call 181; with_reducible refine (C2.out.at_ _).mono ?_; rintro _ _ ⟨rfl, e, rfl⟩) | (go_at_call 183; with_reducible refine (C3.out.at_ _).mono ?_; rintro _ _ ⟨rfl, e, rfl⟩) | (go_at_call 127; with_reducible refine (C4.out.at_ _).mono ?_; rintro _ _ ⟨rfl, e, rfl⟩) | (go_at_call 186; with_reducible refine (C5.out.at_ _).mono ?_; rintro _ _ ⟨rfl, e, rfl⟩) | (go_at_call 187; with_reducible refine (C6.out.at_ _).mono ?_; rintro _ _ ⟨rfl, e, rfl⟩) | (go_at_call 185; with_reducible refine (C7.out.at_ _).mono ?_; rintro _ _ ⟨rfl, e, rfl⟩)))
      go_ret
      exact ⟨by rw [E.out]; rfl, ExtOf.old hx1 e⟩
    (try rw [d23] at C1); (try rw [d23] at C2); (try rw [d23] at C3); (try rw [d23] at C4); (try rw [d23] at C5); (try rw [d23] at C6); (try rw [d23] at C7)
    have E : Hid (agentB x = (!anyTo x.data.length (fun k => !defB (intAt x.data k)))) := by show _ = _; rw [ED.out, EA.out]; (try simp at d4); (try simp at d6); (try simp at d8); (try simp at d11); (try simp at d14); (try simp at d20); (try simp at d21); (try simp at d23); simp [contentB, d4, d6, d8, d11, d14, d20, d21, d23]
    go_wp2_with (first | (go_at_call 182; with_reducible refine (C1.out.at_ _).mono ?_; rintro _ _ ⟨rfl, e, rfl⟩) | (go_at_call 181; with_reducible refine (C2.out.at_ _).mono ?_; rintro _ _ ⟨rfl, e, rfl⟩) | (go_at_call 183; with_reducible refine (C3.out.at_ _).mono ?_; rintro _ _ ⟨rfl, e, rfl⟩) | (go_at_call 127; with_reducible refine (C4.out.at_ _).mono ?_; rintro _ _ ⟨rfl, e, rfl⟩) | (go_at_call 186; with_reducible refine (C5.out.at_ _).mono ?_; rintro _ _ ⟨rfl, e, rfl⟩) | (go_at_call 187; with_reducible refine (C6.out.at_ _).mono ?_; rintro _ _ ⟨rfl, e, rfl⟩) | (go_at_call 185; with_reducible refine (C7.out.at_ _).mono ?_; rintro _ _ ⟨rfl, e, rfl⟩))
    repeat (refine wp_region_ext0 _ (by kernel_rfl) (by kernel_rfl) ?_; (repeat (go_big_quiet_step ((first | with_reducible exact C1.out.at_ _ | with_reducible exact C2.out.at_ _ | with_reducible exact C3.out.at_ _ | with_reducible exact C4.out.at_ _ | with_reducible exact C5.out.at_ _ | with_reducible exact C6.out.at_ _ | with_reducible exact C7.out.at_ _)))); refine wpQuiet_nil ?_; intro e; go_wp2_with (first | (go_at_call 182; with_reducible refine (C1.out.at_ _).mono ?_; rintro _ _ ⟨rfl, e, rfl⟩) | (go_at_call 181; with_reducible refine (C2.out.at_ _).mono ?_; rintro _ _ ⟨rfl, e, rfl⟩) | (go_at_call 183; with_reducible refine (C3.out.at_ _).mono ?_; rintro _ _ ⟨rfl, e, rfl⟩) | (go_at_call 127; with_reducible refine (C4.out.at_ _).mono ?_; rintro _ _ ⟨rfl, e, rfl⟩) | (go_at_call 186; with_reducible refine (C5.out.at_ _).mono ?_; rintro _ _ ⟨rfl, e, rfl⟩) | (go_at_call 187; with_reducible refine (C6.out.at_ _).mono ?_; rintro _ _ ⟨rfl, e, rfl⟩) | (go_at_call 185; with_reducible refine (C7.out.at_ _).mono ?_; rintro _ _ ⟨rfl, e, rfl⟩)))
    go_ret
    exact ⟨by rw [E.out]; rfl, ExtOf.old hx1 e⟩
  (try rw [d20] at C1); (try rw [d20] at C2); (try rw [d20] at C3); (try rw [d20] at C4); (try rw [d20] at C5); (try rw [d20] at C6); (try rw [d20] at C7)
  cases d24 : (x.kind == 12)
  case true =>
    (try rw [d24] at C1); (try rw [d24] at C2); (try rw [d24] at C3); (try rw [d24] at C4); (try rw [d24] at C5); (try rw [d24] at C6); (try rw [d24] at C7)
    cases d25 : defB x.value
    case false =>
      (try rw [d25] at C1); (try rw [d25] at C2); (try rw [d25] at C3); (try rw [d25] at C4); (try rw [d25] at C5); (try rw [d25] at C6); (try rw [d25] at C7)
      have E : Hid (agentB x = false) := by show _ = _; rw [EA.out]; (try simp at d4); (try simp at d6); (try simp at d8); (try simp at d11); (try simp at d14); (try simp at d20); (try simp at d24); (try simp at d25); simp [contentB, d4, d6, d8, d11, d14, d20, d24, d25]
      go_wp2_with (first | (go_at_call 182; with_reducible refine (C1.out.at_ _).mono ?_; rintro _ _ ⟨rfl, e, rfl⟩) | (go_at_call 181; with_reducible refine (C2.out.at_ _).mono ?_; rintro _ _ ⟨rfl, e, rfl⟩) | (go_at_call 183; with_reducible refine (C3.out.at_ _).mono ?_; rintro _ _ ⟨rfl, e, rfl⟩) | (go_at_call 127; with_reducible refine (C4.out.at_ _).mono ?_; rintro _ _ ⟨rfl, e, rfl⟩) | (go_at_call 186; with_reducible refine (C5.out.at_ _).mono ?_; rintro _ _ ⟨rfl, e, rfl⟩) | (go_at_call 187; with_reducible refine (C6.out.at_ _).mono ?_; rintro _ _ ⟨rfl, e, rfl⟩) | (go_at_call 185; with_reducible refine (C7.out.at_ _).mono ?_; rintro _ _ ⟨rfl, e, rfl⟩))
      repeat (refine wp_region_ext0 _ (by kernel_rfl) (by kernel_rfl) ?_; (repeat (go_big_quiet_step ((first | with_reducible exact C1.out.at_ _ | with_reducible exact C2.out.at_ _ | with_reducible exact C3.out.at_ _ | with_reducible exact C4.out.at_ _ | with_reducible exact C5.out.at_ _ | with_reducible exact C6.out.at_ _ | with_reducible exact C7.out.at_ _)))); refine wpQuiet_nil ?_; intro e; go_wp2_with (first | (go_at_call 182; with_reducible refine (C1.out.at_ _).mono ?_; rintro _ _ ⟨rfl, e, rfl⟩) | (go_at_call 181; with_reducible refine (C2.out.at_ _).mono ?_; rintro _ _ ⟨rfl, e, rfl⟩) | (go_at_call 183; with_reducible refine (C3.out.at_ _).mono ?_; rintro _ _ ⟨rfl, e, rfl⟩) | (go_at_call 127; with_reducible refine (C4.out.at_ _).mono ?_; rintro _ _ ⟨rfl, e, rfl⟩) | (go_at_call 186; with_reducible refine (C5.out.at_ _).mono ?_; rintro _ _ ⟨rfl, e, rfl⟩) | (go_at_call 187; with_reducible refine (C6.out.at_ _).mono ?_; rintro _ _ ⟨rfl, e, rfl⟩) | (go_at_call 185; with_reducible refine (C7.out.at_ _).mono ?_; rintro _ _ ⟨rfl, e, rfl⟩)))
      go_ret
      exact ⟨by rw [E.out]; rfl, ExtOf.old hx1 e⟩
    (try rw [d25] at C1); (try rw [d25] at C2); (try rw [d25] at C3); (try rw [d25] at C4); (try rw [d25] at C5); (try rw [d25] at C6); (try rw [d25] at C7)
    have E : Hid (agentB x = ((x.data.length : Int) == 0)) := by show _ = _; rw [EA.out]; (try simp at d4); (try simp at d6); (try simp at d8); (try simp at d11); (try simp at d14); (try simp at d20); (try simp at d24); (try simp at d25); simp [contentB, d4, d6, d8, d11, d14, d20, d24, d25]
    go_wp2_with (first | (go_at_call 182; with_reducible refine (C1.out.at_ _).mono ?_; rintro _ _ ⟨rfl, e, rfl⟩) | (go_at_call 181; with_reducible refine (C2.out.at_ _).mono ?_; rintro _ _ ⟨rfl, e, rfl⟩) | (go_at_call 183; with_reducible refine (C3.out.at_ _).mono ?_; rintro _ _ ⟨rfl, e, rfl⟩) | (go_at_call 127; with_reducible refine (C4.out.at_ _).mono ?_; rintro _ _ ⟨rfl, e, rfl⟩) | (go_at_call 186; with_reducible refine (C5.out.at_ _).mono ?_; rintro _ _ ⟨rfl, e, rfl⟩) | (go_at_call 187; with_reducible refine (C6.out.at_ _).mono ?_; rintro _ _ ⟨rfl, e, rfl⟩) | (go_at_call 185; with_reducible refine (C7.out.at_ _).mono ?_; rintro _ _ ⟨rfl, e, rfl⟩))
    repeat (refine wp_region_ext0 _ (by kernel_rfl) (by kernel_rfl) ?_; (repeat (go_big_quiet_step ((first | with_reducible exact C1.out.at_ _ | with_reducible exact C2.out.at_ _ | with_reducible exact C3.out.at_ _ | with_reducible exact C4.out.at_ _ | with_reducible exact C5.out.at_ _ | with_reducible exact C6.out.at_ _ | with_reducible exact C7.out.at_ _)))); refine wpQuiet_nil ?_; intro e; go_wp2_with (first | (go_at_call 182; with_reducible refine (C1.out.at_ _).mono ?_; rintro _ _ ⟨rfl, e, rfl⟩) | (go_at_call 181; with_reducible refine (C2.out.at_ _).mono ?_; rintro _ _ ⟨rfl, e, rfl⟩) | (go_at_call 183; with_reducible refine (C3.out.at_ _).mono ?_; rintro _ _ ⟨rfl, e, rfl⟩) | (go_at_call 127; with_reducible refine (C4.out.at_ _).mono ?_; rintro _ _ ⟨rfl, e, rfl⟩) | (go_at_call 186; with_reducible refine (C5.out.at_ _).mono ?_; rintro _ _ ⟨rfl, e, rfl⟩) | (go_at_call 187; with_reducible refine (C6.out.at_ _).mono ?_; rintro _ _ ⟨rfl, e, rfl⟩) | (go_at_call 185; with_reducible refine (C7.out.at_ _).mono ?_; rintro _ _ ⟨rfl, e, rfl⟩)))
    go_ret
    exact ⟨by rw [E.out]; rfl, ExtOf.old hx1 e⟩
  (try rw [d24] at C1); (try rw [d24] at C2); (try rw [d24] at C3); (try rw [d24] at C4); (try rw [d24] at C5); (try rw [d24] at C6); (try rw [d24] at C7)
  cases d26 : (x.value == 0)
  case false =>
    (try rw [d26] at C1); (try rw [d26] at C2); (try rw [d26] at C3); (try rw [d26] at C4); (try rw [d26] at C5); (try rw [d26] at C6); (try rw [d26] at C7)
    have E : Hid (agentB x = false) := by show _ = _; rw [EA.out]; (try simp at d4); (try simp at d6); (try simp at d8); (try simp at d11); (try simp at d14); (try simp at d20); (try simp at d24); (try simp at d26); simp [contentB, d4, d6, d8, d11, d14, d20, d24, d26]
    go_wp2_with (first | (go_at_call 182; with_reducible refine (C1.out.at_ _).mono ?_; rintro _ _ ⟨rfl, e, rfl⟩) | (go_at_call 181; with_reducible refine (C2.out.at_ _).mono ?_; rintro _ _ ⟨rfl, e, rfl⟩) | (go_at_call 183; with_reducible refine (C3.out.at_ _).mono ?_; rintro _ _ ⟨rfl, e, rfl⟩) | (go_at_call 127; with_reducible refine (C4.out.at_ _).mono ?_; rintro _ _ ⟨rfl, e, rfl⟩) | (go_at_call 186; with_reducible refine (C5.out.at_ _).mono ?_; rintro _ _ ⟨rfl, e, rfl⟩) | (go_at_call 187; with_reducible refine (C6.out.at_ _).mono ?_; rintro _ _ ⟨rfl, e, rfl⟩) | (go_at_call 185; with_reducible refine (C7.out.at_ _).mono ?_; rintro _ _ ⟨rfl, e, rfl⟩))
    repeat (refine wp_region_ext0 _ (by kernel_rfl) (by kernel_rfl) ?_; (repeat (go_big_quiet_step ((first | with_reducible exact C1.out.at_ _ | with_reducible exact C2.out.at_ _ | with_reducible exact C3.out.at_ _ | with_reducible exact C4.out.at_ _ | with_reducible exact C5.out.at_ _ | with_reducible exact C6.out.at_ _ | with_reducible exact C7.out.at_ _)))); refine wpQuiet_nil ?_; intro e; go_wp2_with (first | (go_at_call 182; with_reducible refine (C1.out.at_ _).mono ?_; rintro _ _ ⟨rfl, e, rfl⟩) | (go_at_call 181; with_reducible refine (C2.out.at_ _).mono ?_; rintro _ _ ⟨rfl, e, rfl⟩) | (go_at_call 183; with_reducible refine (C3.out.at_ _).mono ?_; rintro _ _ ⟨rfl, e, rfl⟩) | (go_at_call 127; with_reducible refine (C4.out.at_ _).mono ?_; rintro _ _ ⟨rfl, e, rfl⟩) | (go_at_call 186; with_reducible refine (C5.out.at_ _).mono ?_; rintro _ _ ⟨rfl, e, rfl⟩) | (go_at_call 187; with_reducible refine (C6.out.at_ _).mono ?_; rintro _ _ ⟨rfl, e, rfl⟩) | (go_at_call 185; with_reducible refine (C7.out.at_ _).mono ?_; rintro _ _ ⟨rfl, e, rfl⟩)))
    go_ret
    exact ⟨by rw [E.out]; rfl, ExtOf.old hx1 e⟩
  (try rw [d26] at C1); (try rw [d26] at C2); (try rw [d26] at C3); (try rw [d26] at C4); (try rw [d26] at C5); (try rw [d26] at C6); (try rw [d26] at C7)
  have E : Hid (agentB x = ((x.data.length : Int) == 0)) := by show _ = _; rw [EA.out]; (try simp at d4); (try simp at d6); (try simp at d8); (try simp at d11); (try simp at d14); (try simp at d20); (try simp at d24); (try simp at d26); simp [contentB, d4, d6, d8, d11, d14, d20, d24, d26]
  go_wp2_with (first | (go_at_call 182; with_reducible refine (C1.out.at_ _).mono ?_; rintro _ _ ⟨rfl, e, rfl⟩) | (go_at_call 181; with_reducible refine (C2.out.at_ _).mono ?_; rintro _ _ ⟨rfl, e, rfl⟩) | (go_at_call 183; with_reducible refine (C3.out.at_ _).mono ?_; rintro _ _ ⟨rfl, e, rfl⟩) | (go_at_call 127; with_reducible refine (C4.out.at_ _).mono ?_; rintro _ _ ⟨rfl, e, rfl⟩) | (go_at_call 186; with_reducible refine (C5.out.at_ _).mono ?_; rintro _ _ ⟨rfl, e, rfl⟩) | (go_at_call 187; with_reducible refine (C6.out.at_ _).mono ?_; rintro _ _ ⟨rfl, e, rfl⟩) | (go_at_call 185; with_reducible refine (C7.out.at_ _).mono ?_; rintro _ _ ⟨rfl, e, rfl⟩))
  repeat (refine wp_region_ext0 _ (by kernel_rfl) (by kernel_rfl) ?_; (repeat (go_big_quiet_step ((first | with_reducible exact C1.out.at_ _ | with_reducible exact C2.out.at_ _ | with_reducible exact C3.out.at_ _ | with_reducible exact C4.out.at_ _ | with_reducible exact C5.out.at_ _ | with_reducible exact C6.out.at_ _ | with_reducible exact C7.out.at_ _)))); refine wpQuiet_nil ?_; intro e; go_wp2_with (first | (go_at_call 182; with_reducible refine (C1.out.at_ _).mono ?_; rintro _ _ ⟨rfl, e, rfl⟩) | (go_at_call 181; with_reducible refine (C2.out.at_ _).mono ?_; rintro _ _ ⟨rfl, e, rfl⟩) | (go_at_call 183; with_reducible refine (C3.out.at_ _).mono ?_; rintro _ _ ⟨rfl, e, rfl⟩) | (go_at_call 127; with_reducible refine (C4.out.at_ _).mono ?_; rintro _ _ ⟨rfl, e, rfl⟩) | (go_at_call 186; with_reducible refine (C5.out.at_ _).mono ?_; rintro _ _ ⟨rfl, e, rfl⟩) | (go_at_call 187; with_reducible refine (C6.out.at_ _).mono ?_; rintro _ _ ⟨rfl, e, rfl⟩) | (go_at_call 185; with_reducible refine (C7.out.at_ _).mono ?_; rintro _ _ ⟨rfl, e, rfl⟩)))
  go_ret
  exact ⟨by rw [E.out]; rfl, ExtOf.old hx1 e⟩
end Go.Proofs.YthciaodffkbljaaGreat
