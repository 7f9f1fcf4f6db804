/- The program's test of a debugger. Printed by gen_valj.py. -/
import Derived.Test.YtmmdkchhahnenaaValI
import Derived.BigGuardPart
import Derived.Outline
import Derived.Deep.CutBlock
set_option linter.unusedSimpArgs false
set_option linter.unusedVariables false
namespace Go.Proofs.Ytmmdkchhahnenaa
open Go Go.RowKit Go.Proofs Go.Tr
set_option maxHeartbeats 1000000 in
theorem validTemplates1_any (x : GNet) {A : Option Addr} {c : Nat} {bs : List Nat} (w : World) (hx : T1 w (.sl x.agents.length (x.agents.flatMap GAgent.enc)) bs (.slice A x.agents.length c)) : Calls Try.prog 211 #[.agg #[.slice A x.agents.length c]] w fun e w' => e = .returned (.bool ((!netB x))) ∧ Ext w w' := by
  refine quiet_start fun e => ?_
  go_enter Try.func211, Try.ntmps211
  go_upto_region 1 with (fail)
  generalize hgg : e.to.heap.size = g
  refine rebase_box e hgg (fun w1 e hx1 hgeg hltg cg => ?_)
  clear hgg
  replace hx := hx.below hx1
  have k0 := cg.always hltg 0 _ rfl
  simp only [Nat.zero_add] at k0
  clear cg
  have C1 : Hid (QC Try.prog w1 _ _ _) := fun W hW => implValidNet_any x W (GNet.mk_ (hx.below hW))
  go_wp2_with (first | (go_at_call 212; with_reducible refine (C1.out.at_ _).mono ?_; rintro _ _ ⟨rfl, e, rfl⟩))
  repeat (refine wp_region_ext0 _ (by kernel_rfl) (by kernel_rfl) ?_; (repeat (go_big_quiet_step ((first | with_reducible exact C1.out.at_ _)))); refine wpQuiet_nil ?_; intro e; go_wp2_with (first | (go_at_call 212; with_reducible refine (C1.out.at_ _).mono ?_; rintro _ _ ⟨rfl, e, rfl⟩)))
  go_ret
  exact ⟨rfl, ExtOf.old hx1 e⟩

set_option maxHeartbeats 2000000 in
theorem indexTemplates_any (xs : List GNet) (n : Nat) {A : Option Addr} {c : Nat} {bs : List Nat}  (w : World) (hx : T1 w (.sl n (xs.flatMap GNet.enc)) bs (.slice A n c)) (Hl : Hid (xs.length = n))  : Calls Try.prog 254 #[.slice A n c, .func (.func 211) #[] #[]] w fun e w' => e = .returned (.int .i64 (idxOf n (fun k => !netB (netAt xs k)))) ∧ Ext w w' := by
  refine quiet_start fun e => ?_
  have hn := hx.nle
  go_enter Try.func254, Try.ntmps254
  go_wp2_with fail
  repeat (refine wp_region_ext0 _ (by kernel_rfl) (by kernel_rfl) ?_; (repeat (go_big_quiet_step (fail))); refine wpQuiet_nil ?_; intro e; go_wp2_with fail)
  go_loopw [5, 8] (fun _ i w' => ∃ k : Nat, k ≤ n ∧ i = .int .i64 k ∧ Hid (allTo k (fun k => !!netB (netAt xs k)) = true) ∧ ∃ e : ExtOf w, w' = e.to) (fun _ i _ => n - (intOf i).toNat)
  case atStart => exact ⟨0, Nat.zero_le _, rfl, allTo_0 _, _, rfl⟩
  case round =>
    obtain ⟨k, hk, rfl, hf, e, rfl⟩ := hrel
    by_cases hlt : k < n
    · skip
      obtain ⟨b, off, x, bs', rfl, hxk, hp⟩ := T1.elem GNet.enc_len hx Hl hlt
      obtain ⟨A0, c0, b0, kx0, tx0⟩ := GNet.pt hp
      rw [Nat.mul_one] at kx0
      have EP : Hid ((!netB (netAt xs k)) = !netB x) := by show _ = _; rw [netAt_of hxk]
      have C1 : Hid (QC Try.prog w _ _ _) := fun W hW => validTemplates1_any x W (tx0.below hW)
      cases d1 : (!netB x)
      case true =>
        (try rw [d1] at C1)
        have E : Hid (idxOf n (fun k => !netB (netAt xs k)) = (k : Int)) := by show _ = _; exact idxOf_at hf hlt (by rw [EP.out]; exact d1)
        go_wp2_with (first | (go_at_call 211; with_reducible refine (C1.out.at_ _).mono ?_; rintro _ _ ⟨rfl, e, rfl⟩))
        repeat (refine wp_region_ext0 _ (by kernel_rfl) (by kernel_rfl) ?_; (repeat (go_big_quiet_step ((first | with_reducible exact C1.out.at_ _)))); refine wpQuiet_nil ?_; intro e; go_wp2_with (first | (go_at_call 211; with_reducible refine (C1.out.at_ _).mono ?_; rintro _ _ ⟨rfl, e, rfl⟩)))
        go_ret
        exact ⟨by rw [E.out]; rfl, _, rfl⟩
      (try rw [d1] at C1)
      have E : Hid ((!!netB (netAt xs k)) = true) := by show _ = _; rw [EP.out, d1]; rfl
      go_wp2_with (first | (go_at_call 211; with_reducible refine (C1.out.at_ _).mono ?_; rintro _ _ ⟨rfl, e, rfl⟩))
      repeat (refine wp_region_ext0 _ (by kernel_rfl) (by kernel_rfl) ?_; (repeat (go_big_quiet_step ((first | with_reducible exact C1.out.at_ _)))); refine wpQuiet_nil ?_; intro e; go_wp2_with (first | (go_at_call 211; with_reducible refine (C1.out.at_ _).mono ?_; rintro _ _ ⟨rfl, e, rfl⟩)))
      exact ⟨⟨k+1, by omega, by go_num, allTo_succ hf E.out, _, rfl⟩, by simp [intOf]; omega⟩
    · have : n = k := by omega
      subst this
      have E : Hid (idxOf n (fun k => !netB (netAt xs k)) = -1) := by show _ = _; exact idxOf_none hf
      go_wp2_with fail
      repeat (refine wp_region_ext0 _ (by kernel_rfl) (by kernel_rfl) ?_; (repeat (go_big_quiet_step (fail))); refine wpQuiet_nil ?_; intro e; go_wp2_with fail)
      go_ret
      exact ⟨by rw [E.out]; rfl, _, rfl⟩

set_option maxHeartbeats 1000000 in
theorem containsTemplates_any (xs : List GNet) (n : Nat) {A : Option Addr} {c : Nat} {bs : List Nat}  (w : World) (hx : T1 w (.sl n (xs.flatMap GNet.enc)) bs (.slice A n c)) (Hl : Hid (xs.length = n))  : Calls Try.prog 210 #[.slice A n c, .func (.func 211) #[] #[]] w fun e w' => e = .returned (.bool (anyTo n (fun k => !netB (netAt xs k)))) ∧ Ext w w' := by
  refine quiet_start fun e => ?_
  have C1 : Hid (QC Try.prog w _ _ _) := fun W hW => indexTemplates_any xs n  W (hx.below hW) Hl 
  have hc := idxOf_ge n (fun k => !netB (netAt xs k))
  go_enter Try.func210, Try.ntmps210
  go_wp2_with (first | (go_at_call 254; with_reducible refine (C1.out.at_ _).mono ?_; rintro _ _ ⟨rfl, e, rfl⟩))
  repeat (refine wp_region_ext0 _ (by kernel_rfl) (by kernel_rfl) ?_; (repeat (go_big_quiet_step ((first | with_reducible exact C1.out.at_ _)))); refine wpQuiet_nil ?_; intro e; go_wp2_with (first | (go_at_call 254; with_reducible refine (C1.out.at_ _).mono ?_; rintro _ _ ⟨rfl, e, rfl⟩)))
  go_ret
  exact ⟨by rw [← hc]; rfl, _, rfl⟩

set_option maxHeartbeats 1000000 in
theorem validTemplates_any (xs : List GNet) (n : Nat) {A : Option Addr} {c : Nat} {bs : List Nat} (w : World) (hx : T1 w (.sl n (xs.flatMap GNet.enc)) bs (.slice A n c)) (Hl : Hid (xs.length = n)) : Calls Try.prog 131 #[.slice A n c] w fun e w' => e = .returned (.bool (bookB xs)) ∧ Ext w w' := by
  refine quiet_start fun e => ?_
  have hn := hx.nle
  have EV : Hid (bookB xs = (decide ((n : Int) ≤ 24) && allTo n fun k => netB (netAt xs k))) := by show _ = _; rw [← Hl.out]; rfl
  have hc : (!anyTo n (fun k => !netB (netAt xs k))) = allTo n (fun k => netB (netAt xs k)) := by simp [anyTo]
  have HC := Lib.hid hc
  clear hc
  have C1 : Hid (QC Try.prog w _ _ _) := fun W hW => containsTemplates_any xs n W (hx.below hW) Hl
  go_enter Try.func131, Try.ntmps131
  cases d1 : decide ((n : Int) ≤ 24)
  case false =>
    (try rw [d1] at C1)
    have E : Hid (bookB xs = false) := by show _ = _; rw [EV.out, d1]; rfl
    go_wp2_with (first | (go_at_call 210; with_reducible refine (C1.out.at_ _).mono ?_; rintro _ _ ⟨rfl, e, rfl⟩))
    repeat (refine wp_region_ext0 _ (by kernel_rfl) (by kernel_rfl) ?_; (repeat (go_big_quiet_step ((first | with_reducible exact C1.out.at_ _)))); refine wpQuiet_nil ?_; intro e; go_wp2_with (first | (go_at_call 210; with_reducible refine (C1.out.at_ _).mono ?_; rintro _ _ ⟨rfl, e, rfl⟩)))
    go_ret
    exact ⟨by rw [E.out]; rfl, _, rfl⟩
  (try rw [d1] at C1)
  have E : Hid (bookB xs = !anyTo n (fun k => !netB (netAt xs k))) := by show _ = _; rw [EV.out, d1, HC.out]; rfl
  go_wp2_with (first | (go_at_call 210; with_reducible refine (C1.out.at_ _).mono ?_; rintro _ _ ⟨rfl, e, rfl⟩))
  repeat (refine wp_region_ext0 _ (by kernel_rfl) (by kernel_rfl) ?_; (repeat (go_big_quiet_step ((first | with_reducible exact C1.out.at_ _)))); refine wpQuiet_nil ?_; intro e; go_wp2_with (first | (go_at_call 210; with_reducible refine (C1.out.at_ _).mono ?_; rintro _ _ ⟨rfl, e, rfl⟩)))
  go_ret
  exact ⟨by rw [E.out]; rfl, _, rfl⟩

set_option maxHeartbeats 1000000 in
theorem validSchedule1_any (s : Int) (w : World)  : Calls Try.prog 146 #[.int .i64 s] w fun e w' => e = .returned (.bool ((!inB s 0 600))) ∧ Ext w w' := by
  refine quiet_start fun e => ?_
  go_enter Try.func146, Try.ntmps146
  cases d1 : decide (s < 0)
  case true =>
    have E : Hid ((!inB s 0 600) = true) := by show _ = _; simp at d1; rw [inB_no (Or.inl d1)]; rfl
    go_wp2_with fail
    repeat (refine wp_region_ext0 _ (by kernel_rfl) (by kernel_rfl) ?_; (repeat (go_big_quiet_step (fail))); refine wpQuiet_nil ?_; intro e; go_wp2_with fail)
    go_ret
    exact ⟨by rw [E.out]; rfl, _, rfl⟩
  have E : Hid ((!inB s 0 600) = decide (600 < s)) := by show _ = _; simp at d1; unfold inB; rw [show decide ((0 : Int) ≤ s) = true by simpa using d1, Bool.true_and]; rw [Bool.eq_iff_iff]; simp
  go_wp2_with fail
  repeat (refine wp_region_ext0 _ (by kernel_rfl) (by kernel_rfl) ?_; (repeat (go_big_quiet_step (fail))); refine wpQuiet_nil ?_; intro e; go_wp2_with fail)
  go_ret
  exact ⟨by rw [E.out]; rfl, _, rfl⟩

set_option maxHeartbeats 2000000 in
theorem indexSched_any (xs : List Int) (n : Nat) {A : Option Addr} {c : Nat} {bs : List Nat}  (w : World) (hx : T1 w (.sl n (xs.flatMap intE)) bs (.slice A n c)) (Hl : Hid (xs.length = n))  : Calls Try.prog 138 #[.slice A n c, .func (.func 146) #[] #[]] w fun e w' => e = .returned (.int .i64 (idxOf n (fun k => !inB (intAt xs k) 0 600))) ∧ Ext w w' := by
  refine quiet_start fun e => ?_
  have hn := hx.nle
  go_enter Try.func138, Try.ntmps138
  go_wp2_with fail
  repeat (refine wp_region_ext0 _ (by kernel_rfl) (by kernel_rfl) ?_; (repeat (go_big_quiet_step (fail))); refine wpQuiet_nil ?_; intro e; go_wp2_with fail)
  go_loopw [5, 8] (fun _ i w' => ∃ k : Nat, k ≤ n ∧ i = .int .i64 k ∧ Hid (allTo k (fun k => !!inB (intAt xs k) 0 600) = true) ∧ ∃ e : ExtOf w, w' = e.to) (fun _ i _ => n - (intOf i).toNat)
  case atStart => exact ⟨0, Nat.zero_le _, rfl, allTo_0 _, _, rfl⟩
  case round =>
    obtain ⟨k, hk, rfl, hf, e, rfl⟩ := hrel
    by_cases hlt : k < n
    · skip
      obtain ⟨b, off, x, bs', rfl, hxk, hp⟩ := T1.elem (s := 1) (fun _ => rfl) hx Hl hlt
      have kx := intE_pt hp
      rw [Nat.mul_one] at kx
      have EP : Hid ((!inB (intAt xs k) 0 600) = !inB x 0 600) := by show _ = _; rw [intAt_of hxk]
      have C1 : Hid (QC Try.prog w _ _ _) := fun W hW => validSchedule1_any x W
      cases d1 : (!inB x 0 600)
      case true =>
        (try rw [d1] at C1)
        have E : Hid (idxOf n (fun k => !inB (intAt xs k) 0 600) = (k : Int)) := by show _ = _; exact idxOf_at hf hlt (by rw [EP.out]; exact d1)
        go_wp2_with (first | (go_at_call 146; with_reducible refine (C1.out.at_ _).mono ?_; rintro _ _ ⟨rfl, e, rfl⟩))
        repeat (refine wp_region_ext0 _ (by kernel_rfl) (by kernel_rfl) ?_; (repeat (go_big_quiet_step ((first | with_reducible exact C1.out.at_ _)))); refine wpQuiet_nil ?_; intro e; go_wp2_with (first | (go_at_call 146; with_reducible refine (C1.out.at_ _).mono ?_; rintro _ _ ⟨rfl, e, rfl⟩)))
        go_ret
        exact ⟨by rw [E.out]; rfl, _, rfl⟩
      (try rw [d1] at C1)
      have E : Hid ((!!inB (intAt xs k) 0 600) = true) := by show _ = _; rw [EP.out, d1]; rfl
      go_wp2_with (first | (go_at_call 146; with_reducible refine (C1.out.at_ _).mono ?_; rintro _ _ ⟨rfl, e, rfl⟩))
      repeat (refine wp_region_ext0 _ (by kernel_rfl) (by kernel_rfl) ?_; (repeat (go_big_quiet_step ((first | with_reducible exact C1.out.at_ _)))); refine wpQuiet_nil ?_; intro e; go_wp2_with (first | (go_at_call 146; with_reducible refine (C1.out.at_ _).mono ?_; rintro _ _ ⟨rfl, e, rfl⟩)))
      exact ⟨⟨k+1, by omega, by go_num, allTo_succ hf E.out, _, rfl⟩, by simp [intOf]; omega⟩
    · have : n = k := by omega
      subst this
      have E : Hid (idxOf n (fun k => !inB (intAt xs k) 0 600) = -1) := by show _ = _; exact idxOf_none hf
      go_wp2_with fail
      repeat (refine wp_region_ext0 _ (by kernel_rfl) (by kernel_rfl) ?_; (repeat (go_big_quiet_step (fail))); refine wpQuiet_nil ?_; intro e; go_wp2_with fail)
      go_ret
      exact ⟨by rw [E.out]; rfl, _, rfl⟩

set_option maxHeartbeats 1000000 in
theorem containsSched_any (xs : List Int) (n : Nat) {A : Option Addr} {c : Nat} {bs : List Nat}  (w : World) (hx : T1 w (.sl n (xs.flatMap intE)) bs (.slice A n c)) (Hl : Hid (xs.length = n))  : Calls Try.prog 48 #[.slice A n c, .func (.func 146) #[] #[]] w fun e w' => e = .returned (.bool (anyTo n (fun k => !inB (intAt xs k) 0 600))) ∧ Ext w w' := by
  refine quiet_start fun e => ?_
  have C1 : Hid (QC Try.prog w _ _ _) := fun W hW => indexSched_any xs n  W (hx.below hW) Hl 
  have hc := idxOf_ge n (fun k => !inB (intAt xs k) 0 600)
  go_enter Try.func48, Try.ntmps48
  go_wp2_with (first | (go_at_call 138; with_reducible refine (C1.out.at_ _).mono ?_; rintro _ _ ⟨rfl, e, rfl⟩))
  repeat (refine wp_region_ext0 _ (by kernel_rfl) (by kernel_rfl) ?_; (repeat (go_big_quiet_step ((first | with_reducible exact C1.out.at_ _)))); refine wpQuiet_nil ?_; intro e; go_wp2_with (first | (go_at_call 138; with_reducible refine (C1.out.at_ _).mono ?_; rintro _ _ ⟨rfl, e, rfl⟩)))
  go_ret
  exact ⟨by rw [← hc]; rfl, _, rfl⟩

set_option maxHeartbeats 1000000 in
theorem validSchedule_any (xs : List Int) (n : Nat) {A : Option Addr} {c : Nat} {bs : List Nat} (w : World) (hx : T1 w (.sl n (xs.flatMap intE)) bs (.slice A n c)) (Hl : Hid (xs.length = n)) : Calls Try.prog 54 #[.slice A n c] w fun e w' => e = .returned (.bool (schedB xs)) ∧ Ext w w' := by
  refine quiet_start fun e => ?_
  have hn := hx.nle
  have EV : Hid (schedB xs = (decide ((n : Int) ≤ 200) && allTo n fun k => inB (intAt xs k) 0 600)) := by show _ = _; rw [← Hl.out]; rfl
  have hc : (!anyTo n (fun k => !inB (intAt xs k) 0 600)) = allTo n (fun k => inB (intAt xs k) 0 600) := by simp [anyTo]
  have HC := Lib.hid hc
  clear hc
  have C1 : Hid (QC Try.prog w _ _ _) := fun W hW => containsSched_any xs n W (hx.below hW) Hl
  go_enter Try.func54, Try.ntmps54
  cases d1 : decide ((n : Int) ≤ 200)
  case false =>
    (try rw [d1] at C1)
    have E : Hid (schedB xs = false) := by show _ = _; rw [EV.out, d1]; rfl
    go_wp2_with (first | (go_at_call 48; with_reducible refine (C1.out.at_ _).mono ?_; rintro _ _ ⟨rfl, e, rfl⟩))
    repeat (refine wp_region_ext0 _ (by kernel_rfl) (by kernel_rfl) ?_; (repeat (go_big_quiet_step ((first | with_reducible exact C1.out.at_ _)))); refine wpQuiet_nil ?_; intro e; go_wp2_with (first | (go_at_call 48; with_reducible refine (C1.out.at_ _).mono ?_; rintro _ _ ⟨rfl, e, rfl⟩)))
    go_ret
    exact ⟨by rw [E.out]; rfl, _, rfl⟩
  (try rw [d1] at C1)
  have E : Hid (schedB xs = !anyTo n (fun k => !inB (intAt xs k) 0 600)) := by show _ = _; rw [EV.out, d1, HC.out]; rfl
  go_wp2_with (first | (go_at_call 48; with_reducible refine (C1.out.at_ _).mono ?_; rintro _ _ ⟨rfl, e, rfl⟩))
  repeat (refine wp_region_ext0 _ (by kernel_rfl) (by kernel_rfl) ?_; (repeat (go_big_quiet_step ((first | with_reducible exact C1.out.at_ _)))); refine wpQuiet_nil ?_; intro e; go_wp2_with (first | (go_at_call 48; with_reducible refine (C1.out.at_ _).mono ?_; rintro _ _ ⟨rfl, e, rfl⟩)))
  go_ret
  exact ⟨by rw [E.out]; rfl, _, rfl⟩

set_option maxHeartbeats 4000000 in
theorem isBreak_any (x : GBreak) (w : World)  : Calls Try.prog 136 #[.agg #[.int .i64 x.kind, .int .i64 x.value]] w fun e w' => e = .returned (.bool (brkOk x)) ∧ Ext w w' := by
  refine quiet_start fun e => ?_
  go_enter Try.func136, Try.ntmps136
  go_upto_region 1 with (fail)
  generalize hgg : e.to.heap.size = g
  refine rebase_box e hgg (fun w1 e hx1 hgeg hltg cg => ?_)
  clear hgg
  have k0 := cg.always hltg 0 _ rfl
  have k1 := cg.always hltg 1 _ rfl
  simp only [Nat.zero_add] at k0 k1
  clear cg
  have C1 : Hid (QC Try.prog w1 _ _ _) := fun W hW => isDefIndex_any x.value W
  cases d1 : (x.kind == 1)
  case true =>
    (try rw [d1] at C1)
    cases d2 : decide (1 ≤ x.value)
    case false =>
      (try rw [d2] at C1)
      have E : Hid (brkOk x = false) := by show _ = _; simp only [brkOk, d1]; unfold inB; rw [d2]; rfl
      go_wp2_with (first | (go_at_call 218; with_reducible refine (C1.out.at_ _).mono ?_; rintro _ _ ⟨rfl, e, rfl⟩))
      repeat (refine wp_region_ext0 _ (by kernel_rfl) (by kernel_rfl) ?_; (repeat (go_big_quiet_step ((first | with_reducible exact C1.out.at_ _)))); refine wpQuiet_nil ?_; intro e; go_wp2_with (first | (go_at_call 218; with_reducible refine (C1.out.at_ _).mono ?_; rintro _ _ ⟨rfl, e, rfl⟩)))
      go_ret
      exact ⟨by rw [E.out]; rfl, ExtOf.old hx1 e⟩
    (try rw [d2] at C1)
    have E : Hid (brkOk x = decide (x.value ≤ 8)) := by show _ = _; simp only [brkOk, d1]; unfold inB; rw [d2]; rfl
    go_wp2_with (first | (go_at_call 218; with_reducible refine (C1.out.at_ _).mono ?_; rintro _ _ ⟨rfl, e, rfl⟩))
    repeat (refine wp_region_ext0 _ (by kernel_rfl) (by kernel_rfl) ?_; (repeat (go_big_quiet_step ((first | with_reducible exact C1.out.at_ _)))); refine wpQuiet_nil ?_; intro e; go_wp2_with (first | (go_at_call 218; with_reducible refine (C1.out.at_ _).mono ?_; rintro _ _ ⟨rfl, e, rfl⟩)))
    go_ret
    exact ⟨by rw [E.out]; rfl, ExtOf.old hx1 e⟩
  (try rw [d1] at C1)
  cases d3 : (x.kind == 2)
  case true =>
    (try rw [d3] at C1)
    have E : Hid (brkOk x = defB x.value) := by show _ = _; simp only [brkOk, d1, d3]; rfl
    go_wp2_with (first | (go_at_call 218; with_reducible refine (C1.out.at_ _).mono ?_; rintro _ _ ⟨rfl, e, rfl⟩))
    repeat (refine wp_region_ext0 _ (by kernel_rfl) (by kernel_rfl) ?_; (repeat (go_big_quiet_step ((first | with_reducible exact C1.out.at_ _)))); refine wpQuiet_nil ?_; intro e; go_wp2_with (first | (go_at_call 218; with_reducible refine (C1.out.at_ _).mono ?_; rintro _ _ ⟨rfl, e, rfl⟩)))
    go_ret
    exact ⟨by rw [E.out]; rfl, ExtOf.old hx1 e⟩
  (try rw [d3] at C1)
  cases d4 : (x.kind == 3)
  case true =>
    (try rw [d4] at C1)
    cases d5 : decide (1 ≤ x.value)
    case false =>
      (try rw [d5] at C1)
      have E : Hid (brkOk x = false) := by show _ = _; simp only [brkOk, d1, d3, d4]; unfold inB; rw [d5]; rfl
      go_wp2_with (first | (go_at_call 218; with_reducible refine (C1.out.at_ _).mono ?_; rintro _ _ ⟨rfl, e, rfl⟩))
      repeat (refine wp_region_ext0 _ (by kernel_rfl) (by kernel_rfl) ?_; (repeat (go_big_quiet_step ((first | with_reducible exact C1.out.at_ _)))); refine wpQuiet_nil ?_; intro e; go_wp2_with (first | (go_at_call 218; with_reducible refine (C1.out.at_ _).mono ?_; rintro _ _ ⟨rfl, e, rfl⟩)))
      go_ret
      exact ⟨by rw [E.out]; rfl, ExtOf.old hx1 e⟩
    (try rw [d5] at C1)
    have E : Hid (brkOk x = decide (x.value ≤ 600)) := by show _ = _; simp only [brkOk, d1, d3, d4]; unfold inB; rw [d5]; rfl
    go_wp2_with (first | (go_at_call 218; with_reducible refine (C1.out.at_ _).mono ?_; rintro _ _ ⟨rfl, e, rfl⟩))
    repeat (refine wp_region_ext0 _ (by kernel_rfl) (by kernel_rfl) ?_; (repeat (go_big_quiet_step ((first | with_reducible exact C1.out.at_ _)))); refine wpQuiet_nil ?_; intro e; go_wp2_with (first | (go_at_call 218; with_reducible refine (C1.out.at_ _).mono ?_; rintro _ _ ⟨rfl, e, rfl⟩)))
    go_ret
    exact ⟨by rw [E.out]; rfl, ExtOf.old hx1 e⟩
  (try rw [d4] at C1)
  have E : Hid (brkOk x = false) := by show _ = _; simp only [brkOk, d1, d3, d4]; rfl
  go_wp2_with (first | (go_at_call 218; with_reducible refine (C1.out.at_ _).mono ?_; rintro _ _ ⟨rfl, e, rfl⟩))
  repeat (refine wp_region_ext0 _ (by kernel_rfl) (by kernel_rfl) ?_; (repeat (go_big_quiet_step ((first | with_reducible exact C1.out.at_ _)))); refine wpQuiet_nil ?_; intro e; go_wp2_with (first | (go_at_call 218; with_reducible refine (C1.out.at_ _).mono ?_; rintro _ _ ⟨rfl, e, rfl⟩)))
  go_ret
  exact ⟨by rw [E.out]; rfl, ExtOf.old hx1 e⟩

set_option maxHeartbeats 1000000 in
theorem validDebugger1_any (x : GBreak) (w : World)  : Calls Try.prog 135 #[.agg #[.int .i64 x.kind, .int .i64 x.value]] w fun e w' => e = .returned (.bool ((!brkOk x))) ∧ Ext w w' := by
  refine quiet_start fun e => ?_
  go_enter Try.func135, Try.ntmps135
  go_upto_region 1 with (fail)
  generalize hgg : e.to.heap.size = g
  refine rebase_box e hgg (fun w1 e hx1 hgeg hltg cg => ?_)
  clear hgg
  have k0 := cg.always hltg 0 _ rfl
  have k1 := cg.always hltg 1 _ rfl
  simp only [Nat.zero_add] at k0 k1
  clear cg
  have C1 : Hid (QC Try.prog w1 _ _ _) := fun W hW => isBreak_any x W
  go_wp2_with (first | (go_at_call 136; with_reducible refine (C1.out.at_ _).mono ?_; rintro _ _ ⟨rfl, e, rfl⟩))
  repeat (refine wp_region_ext0 _ (by kernel_rfl) (by kernel_rfl) ?_; (repeat (go_big_quiet_step ((first | with_reducible exact C1.out.at_ _)))); refine wpQuiet_nil ?_; intro e; go_wp2_with (first | (go_at_call 136; with_reducible refine (C1.out.at_ _).mono ?_; rintro _ _ ⟨rfl, e, rfl⟩)))
  go_ret
  exact ⟨rfl, ExtOf.old hx1 e⟩

set_option maxHeartbeats 2000000 in
theorem indexBreaks_any (xs : List GBreak) (n : Nat) {A : Option Addr} {c : Nat} {bs : List Nat}  (w : World) (hx : T1 w (.sl n (xs.flatMap GBreak.enc)) bs (.slice A n c)) (Hl : Hid (xs.length = n))  : Calls Try.prog 217 #[.slice A n c, .func (.func 135) #[] #[]] w fun e w' => e = .returned (.int .i64 (idxOf n (fun k => !brkOk (breakAt xs k)))) ∧ Ext w w' := by
  refine quiet_start fun e => ?_
  have hn := hx.nle
  go_enter Try.func217, Try.ntmps217
  go_wp2_with fail
  repeat (refine wp_region_ext0 _ (by kernel_rfl) (by kernel_rfl) ?_; (repeat (go_big_quiet_step (fail))); refine wpQuiet_nil ?_; intro e; go_wp2_with fail)
  go_loopw [5, 8] (fun _ i w' => ∃ k : Nat, k ≤ n ∧ i = .int .i64 k ∧ Hid (allTo k (fun k => !!brkOk (breakAt xs k)) = true) ∧ ∃ e : ExtOf w, w' = e.to) (fun _ i _ => n - (intOf i).toNat)
  case atStart => exact ⟨0, Nat.zero_le _, rfl, allTo_0 _, _, rfl⟩
  case round =>
    obtain ⟨k, hk, rfl, hf, e, rfl⟩ := hrel
    by_cases hlt : k < n
    · skip
      obtain ⟨b, off, x, bs', rfl, hxk, hp⟩ := T1.elem GBreak.enc_len hx Hl hlt
      obtain ⟨kx0, kx1⟩ := GBreak.pt hp
      have EP : Hid ((!brkOk (breakAt xs k)) = !brkOk x) := by show _ = _; rw [breakAt_of hxk]
      have C1 : Hid (QC Try.prog w _ _ _) := fun W hW => validDebugger1_any x W
      cases d1 : (!brkOk x)
      case true =>
        (try rw [d1] at C1)
        have E : Hid (idxOf n (fun k => !brkOk (breakAt xs k)) = (k : Int)) := by show _ = _; exact idxOf_at hf hlt (by rw [EP.out]; exact d1)
        go_wp2_with (first | (go_at_call 135; with_reducible refine (C1.out.at_ _).mono ?_; rintro _ _ ⟨rfl, e, rfl⟩))
        repeat (refine wp_region_ext0 _ (by kernel_rfl) (by kernel_rfl) ?_; (repeat (go_big_quiet_step ((first | with_reducible exact C1.out.at_ _)))); refine wpQuiet_nil ?_; intro e; go_wp2_with (first | (go_at_call 135; with_reducible refine (C1.out.at_ _).mono ?_; rintro _ _ ⟨rfl, e, rfl⟩)))
        go_ret
        exact ⟨by rw [E.out]; rfl, _, rfl⟩
      (try rw [d1] at C1)
      have E : Hid ((!!brkOk (breakAt xs k)) = true) := by show _ = _; rw [EP.out, d1]; rfl
      go_wp2_with (first | (go_at_call 135; with_reducible refine (C1.out.at_ _).mono ?_; rintro _ _ ⟨rfl, e, rfl⟩))
      repeat (refine wp_region_ext0 _ (by kernel_rfl) (by kernel_rfl) ?_; (repeat (go_big_quiet_step ((first | with_reducible exact C1.out.at_ _)))); refine wpQuiet_nil ?_; intro e; go_wp2_with (first | (go_at_call 135; with_reducible refine (C1.out.at_ _).mono ?_; rintro _ _ ⟨rfl, e, rfl⟩)))
      exact ⟨⟨k+1, by omega, by go_num, allTo_succ hf E.out, _, rfl⟩, by simp [intOf]; omega⟩
    · have : n = k := by omega
      subst this
      have E : Hid (idxOf n (fun k => !brkOk (breakAt xs k)) = -1) := by show _ = _; exact idxOf_none hf
      go_wp2_with fail
      repeat (refine wp_region_ext0 _ (by kernel_rfl) (by kernel_rfl) ?_; (repeat (go_big_quiet_step (fail))); refine wpQuiet_nil ?_; intro e; go_wp2_with fail)
      go_ret
      exact ⟨by rw [E.out]; rfl, _, rfl⟩

set_option maxHeartbeats 1000000 in
theorem containsBreaks_any (xs : List GBreak) (n : Nat) {A : Option Addr} {c : Nat} {bs : List Nat}  (w : World) (hx : T1 w (.sl n (xs.flatMap GBreak.enc)) bs (.slice A n c)) (Hl : Hid (xs.length = n))  : Calls Try.prog 134 #[.slice A n c, .func (.func 135) #[] #[]] w fun e w' => e = .returned (.bool (anyTo n (fun k => !brkOk (breakAt xs k)))) ∧ Ext w w' := by
  refine quiet_start fun e => ?_
  have C1 : Hid (QC Try.prog w _ _ _) := fun W hW => indexBreaks_any xs n  W (hx.below hW) Hl 
  have hc := idxOf_ge n (fun k => !brkOk (breakAt xs k))
  go_enter Try.func134, Try.ntmps134
  go_wp2_with (first | (go_at_call 217; with_reducible refine (C1.out.at_ _).mono ?_; rintro _ _ ⟨rfl, e, rfl⟩))
  repeat (refine wp_region_ext0 _ (by kernel_rfl) (by kernel_rfl) ?_; (repeat (go_big_quiet_step ((first | with_reducible exact C1.out.at_ _)))); refine wpQuiet_nil ?_; intro e; go_wp2_with (first | (go_at_call 217; with_reducible refine (C1.out.at_ _).mono ?_; rintro _ _ ⟨rfl, e, rfl⟩)))
  go_ret
  exact ⟨by rw [← hc]; rfl, _, rfl⟩
end Go.Proofs.Ytmmdkchhahnenaa
