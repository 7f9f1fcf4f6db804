/- The program's tests of origins. Printed by gen_vali.py. -/
import Derived.Test.YtmmdkchhahnenaaProg
import Derived.Test.YtmmdkchhahnenaaNetM
import Derived.Test.YtmmdkchhahnenaaValid
import Derived.BigGuardPart
import Derived.Outline
import Derived.Deep.CutBlock
set_option linter.unusedSimpArgs false
set_option linter.unusedVariables false
namespace Go.Proofs.Ytmmdkchhahnenaa
open Go Go.RowKit Go.Proofs Go.Tr
set_option maxHeartbeats 1000000 in
theorem atMost1_any (n m : Int) (mb mo : Nat) (w : World) (hm : Kn w mb mo (.int .i64 m)) : Calls Try.prog 213 #[.int .i64 n, .pointer (some ⟨mb, mo, none⟩)] w fun e w' => e = .returned (.bool ((!inB n 0 m))) ∧ Ext w w' := by
  refine quiet_start fun e => ?_
  go_enter Try.func213, Try.ntmps213
  cases d1 : decide (n < 0)
  case true =>
    have E : Hid ((!inB n 0 m) = true) := by show _ = _; simp at d1; rw [inB_no (Or.inl d1)]; rfl
    go_wp2_with fail
    repeat (refine wp_region_ext0 _ (by kernel_rfl) (by kernel_rfl) ?_; (repeat (go_big_quiet_step (fail))); refine wpQuiet_nil ?_; intro e; go_wp2_with fail)
    go_ret
    exact ⟨by rw [E.out]; rfl, _, rfl⟩
  have E : Hid ((!inB n 0 m) = decide (m < n)) := by show _ = _; simp at d1; unfold inB; rw [show decide ((0 : Int) ≤ n) = true by simpa using d1, Bool.true_and]; rw [Bool.eq_iff_iff]; simp
  go_wp2_with fail
  repeat (refine wp_region_ext0 _ (by kernel_rfl) (by kernel_rfl) ?_; (repeat (go_big_quiet_step (fail))); refine wpQuiet_nil ?_; intro e; go_wp2_with fail)
  go_ret
  exact ⟨by rw [E.out]; rfl, _, rfl⟩

set_option maxHeartbeats 2000000 in
theorem indexAtMost_any (xs : List Int) (n : Nat) {A : Option Addr} {c : Nat} {bs : List Nat} (m : Int) (mb mo : Nat) (w : World) (hx : T1 w (.sl n (xs.flatMap intE)) bs (.slice A n c)) (Hl : Hid (xs.length = n)) (hm : Kn w mb mo (.int .i64 m)) : Calls Try.prog 138 #[.slice A n c, .func (.func 213) #[] #[.pointer (some ⟨mb, mo, none⟩)]] w fun e w' => e = .returned (.int .i64 (idxOf n (fun k => !inB (intAt xs k) 0 m))) ∧ Ext w w' := by
  refine quiet_start fun e => ?_
  have hn := hx.nle
  go_enter Try.func138, Try.ntmps138
  go_wp2_with fail
  repeat (refine wp_region_ext0 _ (by kernel_rfl) (by kernel_rfl) ?_; (repeat (go_big_quiet_step (fail))); refine wpQuiet_nil ?_; intro e; go_wp2_with fail)
  go_loopw [5, 8] (fun _ i w' => ∃ k : Nat, k ≤ n ∧ i = .int .i64 k ∧ Hid (allTo k (fun k => !!inB (intAt xs k) 0 m) = true) ∧ ∃ e : ExtOf w, w' = e.to) (fun _ i _ => n - (intOf i).toNat)
  case atStart => exact ⟨0, Nat.zero_le _, rfl, allTo_0 _, _, rfl⟩
  case round =>
    obtain ⟨k, hk, rfl, hf, e, rfl⟩ := hrel
    by_cases hlt : k < n
    · skip
      obtain ⟨b, off, x, bs', rfl, hxk, hp⟩ := T1.elem (s := 1) (fun _ => rfl) hx Hl hlt
      have kx := intE_pt hp
      rw [Nat.mul_one] at kx
      have EP : Hid ((!inB (intAt xs k) 0 m) = !inB x 0 m) := by show _ = _; rw [intAt_of hxk]
      have C1 : Hid (QC Try.prog w _ _ _) := fun W hW => atMost1_any x m mb mo W (hm.ext hW)
      cases d1 : (!inB x 0 m)
      case true =>
        (try rw [d1] at C1)
        have E : Hid (idxOf n (fun k => !inB (intAt xs k) 0 m) = (k : Int)) := by show _ = _; exact idxOf_at hf hlt (by rw [EP.out]; exact d1)
        go_wp2_with (first | (go_at_call 213; with_reducible refine (C1.out.at_ _).mono ?_; rintro _ _ ⟨rfl, e, rfl⟩))
        repeat (refine wp_region_ext0 _ (by kernel_rfl) (by kernel_rfl) ?_; (repeat (go_big_quiet_step ((first | with_reducible exact C1.out.at_ _)))); refine wpQuiet_nil ?_; intro e; go_wp2_with (first | (go_at_call 213; with_reducible refine (C1.out.at_ _).mono ?_; rintro _ _ ⟨rfl, e, rfl⟩)))
        go_ret
        exact ⟨by rw [E.out]; rfl, _, rfl⟩
      (try rw [d1] at C1)
      have E : Hid ((!!inB (intAt xs k) 0 m) = true) := by show _ = _; rw [EP.out, d1]; rfl
      go_wp2_with (first | (go_at_call 213; with_reducible refine (C1.out.at_ _).mono ?_; rintro _ _ ⟨rfl, e, rfl⟩))
      repeat (refine wp_region_ext0 _ (by kernel_rfl) (by kernel_rfl) ?_; (repeat (go_big_quiet_step ((first | with_reducible exact C1.out.at_ _)))); refine wpQuiet_nil ?_; intro e; go_wp2_with (first | (go_at_call 213; with_reducible refine (C1.out.at_ _).mono ?_; rintro _ _ ⟨rfl, e, rfl⟩)))
      exact ⟨⟨k+1, by omega, by go_num, allTo_succ hf E.out, _, rfl⟩, by simp [intOf]; omega⟩
    · have : n = k := by omega
      subst this
      have E : Hid (idxOf n (fun k => !inB (intAt xs k) 0 m) = -1) := by show _ = _; exact idxOf_none hf
      go_wp2_with fail
      repeat (refine wp_region_ext0 _ (by kernel_rfl) (by kernel_rfl) ?_; (repeat (go_big_quiet_step (fail))); refine wpQuiet_nil ?_; intro e; go_wp2_with fail)
      go_ret
      exact ⟨by rw [E.out]; rfl, _, rfl⟩

set_option maxHeartbeats 1000000 in
theorem containsAtMost_any (xs : List Int) (n : Nat) {A : Option Addr} {c : Nat} {bs : List Nat} (m : Int) (mb mo : Nat) (w : World) (hx : T1 w (.sl n (xs.flatMap intE)) bs (.slice A n c)) (Hl : Hid (xs.length = n)) (hm : Kn w mb mo (.int .i64 m)) : Calls Try.prog 48 #[.slice A n c, .func (.func 213) #[] #[.pointer (some ⟨mb, mo, none⟩)]] w fun e w' => e = .returned (.bool (anyTo n (fun k => !inB (intAt xs k) 0 m))) ∧ Ext w w' := by
  refine quiet_start fun e => ?_
  have C1 : Hid (QC Try.prog w _ _ _) := fun W hW => indexAtMost_any xs n m mb mo W (hx.below hW) Hl (hm.ext hW)
  have hc := idxOf_ge n (fun k => !inB (intAt xs k) 0 m)
  go_enter Try.func48, Try.ntmps48
  go_wp2_with (first | (go_at_call 138; with_reducible refine (C1.out.at_ _).mono ?_; rintro _ _ ⟨rfl, e, rfl⟩))
  repeat (refine wp_region_ext0 _ (by kernel_rfl) (by kernel_rfl) ?_; (repeat (go_big_quiet_step ((first | with_reducible exact C1.out.at_ _)))); refine wpQuiet_nil ?_; intro e; go_wp2_with (first | (go_at_call 138; with_reducible refine (C1.out.at_ _).mono ?_; rintro _ _ ⟨rfl, e, rfl⟩)))
  go_ret
  exact ⟨by rw [← hc]; rfl, _, rfl⟩

set_option maxHeartbeats 1000000 in
theorem atMost_any (m : Int) (xs : List Int) (n : Nat) {A : Option Addr} {c : Nat} {bs : List Nat} (w : World) (hx : T1 w (.sl n (xs.flatMap intE)) bs (.slice A n c)) (Hl : Hid (xs.length = n)) : Calls Try.prog 132 #[.int .i64 m, .slice A n c] w fun e w' => e = .returned (.bool (allTo n (fun k => inB (intAt xs k) 0 m))) ∧ Ext w w' := by
  refine quiet_start fun e => ?_
  go_enter Try.func132, Try.ntmps132
  go_upto_region 1 with (fail)
  generalize hgg : e.to.heap.size = g
  refine rebase_box e hgg (fun w1 e hx1 hgeg hltg cg => ?_)
  clear hgg
  replace hx := hx.below hx1
  have k0 := cg.always hltg 0 _ rfl
  simp only [Nat.zero_add] at k0
  clear cg
  have C1 : Hid (QC Try.prog w1 _ _ _) := fun W hW => containsAtMost_any xs n m g 0 W (hx.below hW) Hl (k0.ext hW)
  have hc : (!anyTo n (fun k => !inB (intAt xs k) 0 m)) = allTo n (fun k => inB (intAt xs k) 0 m) := by simp [anyTo]
  have HC := Lib.hid hc
  clear hc
  go_wp2_with (first | (go_at_call 48; with_reducible refine (C1.out.at_ _).mono ?_; rintro _ _ ⟨rfl, e, rfl⟩))
  repeat (refine wp_region_ext0 _ (by kernel_rfl) (by kernel_rfl) ?_; (repeat (go_big_quiet_step ((first | with_reducible exact C1.out.at_ _)))); refine wpQuiet_nil ?_; intro e; go_wp2_with (first | (go_at_call 48; with_reducible refine (C1.out.at_ _).mono ?_; rintro _ _ ⟨rfl, e, rfl⟩)))
  go_ret
  exact ⟨by rw [← HC.out]; rfl, ExtOf.old hx1 e⟩

theorem atMostOne_any (m s : Int) (A : Option Addr) (c : Nat) (bs : List Nat) (w : World) (h : T1 w (.sl 1 ([s].flatMap intE)) bs (.slice A 1 c)) : Calls Try.prog 132 #[.int .i64 m, .slice A 1 c] w fun e w' => e = .returned (.bool (inB s 0 m)) ∧ Ext w w' := by
  have h1 := atMost_any m [s] 1 w h rfl
  rwa [show allTo 1 (fun k => inB (intAt [s] k) 0 m) = inB s 0 m by simp [allTo, intAt]] at h1

theorem origOk_src {x : GOrigin} {t : Int} (h1 : inB x.step 0 t = true) (h2 : decide (-1 ≤ x.def_) = true) (h3 : decide (x.def_ < 24) = true) (h4 : decide (-1 ≤ x.source) = true) (h5 : decide (x.source < 600) = true) (h6 : (x.source != -1) = true) : origOk x t = true := by
  have a2 := of_decide_eq_true h2; have a3 := of_decide_eq_true h3; have a4 := of_decide_eq_true h4; have a5 := of_decide_eq_true h5
  have a6 : x.source ≠ -1 := by simpa using h6
  have b2 : decide (x.def_ ≤ 23) = true := decide_eq_true (by omega)
  have b5 : decide (x.source ≤ 599) = true := decide_eq_true (by omega)
  have b6 : decide (0 ≤ x.source) = true := decide_eq_true (by omega)
  unfold origOk; rw [h1]; unfold inB; rw [h2, b2, h4, b5, b6]; rfl
theorem origOk_def {x : GOrigin} {t : Int} (h1 : inB x.step 0 t = true) (h2 : decide (-1 ≤ x.def_) = true) (h3 : decide (x.def_ < 24) = true) (h4 : decide (-1 ≤ x.source) = true) (h5 : decide (x.source < 600) = true) (h6 : (x.source != -1) = false) : origOk x t = (x.def_ == -1) := by
  have a2 := of_decide_eq_true h2; have a3 := of_decide_eq_true h3; have a4 := of_decide_eq_true h4; have a5 := of_decide_eq_true h5
  have a6 : x.source = -1 := by simpa using h6
  have b2 : decide (x.def_ ≤ 23) = true := decide_eq_true (by omega)
  have b5 : decide (x.source ≤ 599) = true := decide_eq_true (by omega)
  have b6 : decide (0 ≤ x.source) = false := decide_eq_false (by omega)
  unfold origOk; rw [h1]; unfold inB; rw [h2, b2, h4, b5, b6]
  rw [Bool.eq_iff_iff]; simp; omega

set_option maxHeartbeats 4000000 in
theorem validOrigin_any (x : GOrigin) (tm : Int) (w : World)  : Calls Try.prog 216 #[.agg #[.int .i64 x.step, .int .i64 x.def_, .int .i64 x.source], .int .i64 tm] w fun e w' => e = .returned (.bool (origOk x tm)) ∧ Ext w w' := by
  refine quiet_start fun e => ?_
  go_enter Try.func216, Try.ntmps216
  go_upto_region 1 with (fail)
  generalize hgg : e.to.heap.size = g
  refine rebase_box e hgg (fun w1 e hx1 hgeg hltg cg => ?_)
  clear hgg
  have k0 := cg.always hltg 0 _ rfl
  have k1 := cg.always hltg 1 _ rfl
  have k2 := cg.always hltg 2 _ rfl
  simp only [Nat.zero_add] at k0 k1 k2
  clear cg
  cases d1 : inB x.step 0 tm
  case false =>
    have E : Hid (origOk x tm = false) := by show _ = _; first | exact origOk_src d1 d2 d3 d4 d5 d6 | exact origOk_def d1 d2 d3 d4 d5 d6 | (simp only [origOk, d1]; done) | (simp only [origOk, d1, Bool.false_and, Bool.and_false]; done) | ((try simp at d1); simp only [origOk]; simp only [inB] at *; rw [Bool.eq_iff_iff]; simp <;> omega)
    go_wp2_with fail
    refine (atMostOne_any tm x.step _ _ _ _ (T1.lit e.to _ [.int .i64 x.step] 1 (by omega) (by decide) rfl)).mono ?_
    rintro _ w3 ⟨rfl, hx3⟩
    obtain ⟨e, rfl⟩ : ∃ e' : ExtOf w1, w3 = e'.to := ⟨⟨w3, Ext.trans (e.h.alloc e.h.size _) hx3⟩, rfl⟩
    rw [d1]
    clear hx3
    go_wp2_with fail
    go_ret
    exact ⟨by rw [E.out]; rfl, ExtOf.old hx1 e⟩
  cases d2 : decide (-1 ≤ x.def_)
  case false =>
    have E : Hid (origOk x tm = false) := by show _ = _; first | exact origOk_src d1 d2 d3 d4 d5 d6 | exact origOk_def d1 d2 d3 d4 d5 d6 | (simp only [origOk, d1, d2]; done) | (simp only [origOk, d1, d2, Bool.false_and, Bool.and_false]; done) | ((try simp at d1); (try simp at d2); simp only [origOk]; simp only [inB] at *; rw [Bool.eq_iff_iff]; simp <;> omega)
    go_wp2_with fail
    refine (atMostOne_any tm x.step _ _ _ _ (T1.lit e.to _ [.int .i64 x.step] 1 (by omega) (by decide) rfl)).mono ?_
    rintro _ w3 ⟨rfl, hx3⟩
    obtain ⟨e, rfl⟩ : ∃ e' : ExtOf w1, w3 = e'.to := ⟨⟨w3, Ext.trans (e.h.alloc e.h.size _) hx3⟩, rfl⟩
    rw [d1]
    clear hx3
    go_wp2_with fail
    go_ret
    exact ⟨by rw [E.out]; rfl, ExtOf.old hx1 e⟩
  cases d3 : decide (x.def_ < 24)
  case false =>
    have E : Hid (origOk x tm = false) := by show _ = _; first | exact origOk_src d1 d2 d3 d4 d5 d6 | exact origOk_def d1 d2 d3 d4 d5 d6 | (simp only [origOk, d1, d2, d3]; done) | (simp only [origOk, d1, d2, d3, Bool.false_and, Bool.and_false]; done) | ((try simp at d1); (try simp at d2); (try simp at d3); simp only [origOk]; simp only [inB] at *; rw [Bool.eq_iff_iff]; simp <;> omega)
    go_wp2_with fail
    refine (atMostOne_any tm x.step _ _ _ _ (T1.lit e.to _ [.int .i64 x.step] 1 (by omega) (by decide) rfl)).mono ?_
    rintro _ w3 ⟨rfl, hx3⟩
    obtain ⟨e, rfl⟩ : ∃ e' : ExtOf w1, w3 = e'.to := ⟨⟨w3, Ext.trans (e.h.alloc e.h.size _) hx3⟩, rfl⟩
    rw [d1]
    clear hx3
    go_wp2_with fail
    go_ret
    exact ⟨by rw [E.out]; rfl, ExtOf.old hx1 e⟩
  cases d4 : decide (-1 ≤ x.source)
  case false =>
    have E : Hid (origOk x tm = false) := by show _ = _; first | exact origOk_src d1 d2 d3 d4 d5 d6 | exact origOk_def d1 d2 d3 d4 d5 d6 | (simp only [origOk, d1, d2, d3, d4]; done) | (simp only [origOk, d1, d2, d3, d4, Bool.false_and, Bool.and_false]; done) | ((try simp at d1); (try simp at d2); (try simp at d3); (try simp at d4); simp only [origOk]; simp only [inB] at *; rw [Bool.eq_iff_iff]; simp <;> omega)
    go_wp2_with fail
    refine (atMostOne_any tm x.step _ _ _ _ (T1.lit e.to _ [.int .i64 x.step] 1 (by omega) (by decide) rfl)).mono ?_
    rintro _ w3 ⟨rfl, hx3⟩
    obtain ⟨e, rfl⟩ : ∃ e' : ExtOf w1, w3 = e'.to := ⟨⟨w3, Ext.trans (e.h.alloc e.h.size _) hx3⟩, rfl⟩
    rw [d1]
    clear hx3
    go_wp2_with fail
    go_ret
    exact ⟨by rw [E.out]; rfl, ExtOf.old hx1 e⟩
  cases d5 : decide (x.source < 600)
  case false =>
    have E : Hid (origOk x tm = false) := by show _ = _; first | exact origOk_src d1 d2 d3 d4 d5 d6 | exact origOk_def d1 d2 d3 d4 d5 d6 | (simp only [origOk, d1, d2, d3, d4, d5]; done) | (simp only [origOk, d1, d2, d3, d4, d5, Bool.false_and, Bool.and_false]; done) | ((try simp at d1); (try simp at d2); (try simp at d3); (try simp at d4); (try simp at d5); simp only [origOk]; simp only [inB] at *; rw [Bool.eq_iff_iff]; simp <;> omega)
    go_wp2_with fail
    refine (atMostOne_any tm x.step _ _ _ _ (T1.lit e.to _ [.int .i64 x.step] 1 (by omega) (by decide) rfl)).mono ?_
    rintro _ w3 ⟨rfl, hx3⟩
    obtain ⟨e, rfl⟩ : ∃ e' : ExtOf w1, w3 = e'.to := ⟨⟨w3, Ext.trans (e.h.alloc e.h.size _) hx3⟩, rfl⟩
    rw [d1]
    clear hx3
    go_wp2_with fail
    go_ret
    exact ⟨by rw [E.out]; rfl, ExtOf.old hx1 e⟩
  cases d6 : (x.source != -1)
  case true =>
    have E : Hid (origOk x tm = true) := by show _ = _; first | exact origOk_src d1 d2 d3 d4 d5 d6 | exact origOk_def d1 d2 d3 d4 d5 d6 | (simp only [origOk, d1, d2, d3, d4, d5, d6]; done) | (simp only [origOk, d1, d2, d3, d4, d5, d6, Bool.false_and, Bool.and_false]; done) | ((try simp at d1); (try simp at d2); (try simp at d3); (try simp at d4); (try simp at d5); (try simp at d6); simp only [origOk]; simp only [inB] at *; rw [Bool.eq_iff_iff]; simp <;> omega)
    go_wp2_with fail
    refine (atMostOne_any tm x.step _ _ _ _ (T1.lit e.to _ [.int .i64 x.step] 1 (by omega) (by decide) rfl)).mono ?_
    rintro _ w3 ⟨rfl, hx3⟩
    obtain ⟨e, rfl⟩ : ∃ e' : ExtOf w1, w3 = e'.to := ⟨⟨w3, Ext.trans (e.h.alloc e.h.size _) hx3⟩, rfl⟩
    rw [d1]
    clear hx3
    go_wp2_with fail
    go_ret
    exact ⟨by rw [E.out]; rfl, ExtOf.old hx1 e⟩
  have E : Hid (origOk x tm = (x.def_ == -1)) := by show _ = _; first | exact origOk_src d1 d2 d3 d4 d5 d6 | exact origOk_def d1 d2 d3 d4 d5 d6 | (simp only [origOk, d1, d2, d3, d4, d5, d6]; done) | (simp only [origOk, d1, d2, d3, d4, d5, d6, Bool.false_and, Bool.and_false]; done) | ((try simp at d1); (try simp at d2); (try simp at d3); (try simp at d4); (try simp at d5); (try simp at d6); simp only [origOk]; simp only [inB] at *; rw [Bool.eq_iff_iff]; simp <;> omega)
  go_wp2_with fail
  refine (atMostOne_any tm x.step _ _ _ _ (T1.lit e.to _ [.int .i64 x.step] 1 (by omega) (by decide) rfl)).mono ?_
  rintro _ w3 ⟨rfl, hx3⟩
  obtain ⟨e, rfl⟩ : ∃ e' : ExtOf w1, w3 = e'.to := ⟨⟨w3, Ext.trans (e.h.alloc e.h.size _) hx3⟩, rfl⟩
  rw [d1]
  clear hx3
  go_wp2_with fail
  go_ret
  exact ⟨by rw [E.out]; rfl, ExtOf.old hx1 e⟩

set_option maxHeartbeats 1000000 in
theorem validKept1_any (x : GOrigin) (tm : Int) (mb mo : Nat) (w : World) (hm : Kn w mb mo (.int .i64 tm)) : Calls Try.prog 215 #[.agg #[.int .i64 x.step, .int .i64 x.def_, .int .i64 x.source], .pointer (some ⟨mb, mo, none⟩)] w fun e w' => e = .returned (.bool ((!origOk x tm))) ∧ Ext w w' := by
  refine quiet_start fun e => ?_
  go_enter Try.func215, Try.ntmps215
  go_upto_region 1 with (fail)
  generalize hgg : e.to.heap.size = g
  refine rebase_box e hgg (fun w1 e hx1 hgeg hltg cg => ?_)
  clear hgg
  replace hm := hm.ext hx1
  have k0 := cg.always hltg 0 _ rfl
  have k1 := cg.always hltg 1 _ rfl
  have k2 := cg.always hltg 2 _ rfl
  simp only [Nat.zero_add] at k0 k1 k2
  clear cg
  have C1 : Hid (QC Try.prog w1 _ _ _) := fun W hW => validOrigin_any x tm W
  go_wp2_with (first | (go_at_call 216; with_reducible refine (C1.out.at_ _).mono ?_; rintro _ _ ⟨rfl, e, rfl⟩))
  repeat (refine wp_region_ext0 _ (by kernel_rfl) (by kernel_rfl) ?_; (repeat (go_big_quiet_step ((first | with_reducible exact C1.out.at_ _)))); refine wpQuiet_nil ?_; intro e; go_wp2_with (first | (go_at_call 216; with_reducible refine (C1.out.at_ _).mono ?_; rintro _ _ ⟨rfl, e, rfl⟩)))
  go_ret
  exact ⟨rfl, ExtOf.old hx1 e⟩

set_option maxHeartbeats 2000000 in
theorem indexKept_any (xs : List GOrigin) (n : Nat) {A : Option Addr} {c : Nat} {bs : List Nat} (tm : Int) (mb mo : Nat) (w : World) (hx : T1 w (.sl n (xs.flatMap GOrigin.enc)) bs (.slice A n c)) (Hl : Hid (xs.length = n)) (hm : Kn w mb mo (.int .i64 tm)) : Calls Try.prog 261 #[.slice A n c, .func (.func 215) #[] #[.pointer (some ⟨mb, mo, none⟩)]] w fun e w' => e = .returned (.int .i64 (idxOf n (fun k => !origOk (originAt xs k) tm))) ∧ Ext w w' := by
  refine quiet_start fun e => ?_
  have hn := hx.nle
  go_enter Try.func261, Try.ntmps261
  go_wp2_with fail
  repeat (refine wp_region_ext0 _ (by kernel_rfl) (by kernel_rfl) ?_; (repeat (go_big_quiet_step (fail))); refine wpQuiet_nil ?_; intro e; go_wp2_with fail)
  go_loopw [5, 8] (fun _ i w' => ∃ k : Nat, k ≤ n ∧ i = .int .i64 k ∧ Hid (allTo k (fun k => !!origOk (originAt xs k) tm) = true) ∧ ∃ e : ExtOf w, w' = e.to) (fun _ i _ => n - (intOf i).toNat)
  case atStart => exact ⟨0, Nat.zero_le _, rfl, allTo_0 _, _, rfl⟩
  case round =>
    obtain ⟨k, hk, rfl, hf, e, rfl⟩ := hrel
    by_cases hlt : k < n
    · skip
      obtain ⟨b, off, x, bs', rfl, hxk, hp⟩ := T1.elem GOrigin.enc_len hx Hl hlt
      obtain ⟨kx0, kx1, kx2⟩ := GOrigin.pt hp
      have EP : Hid ((!origOk (originAt xs k) tm) = !origOk x tm) := by show _ = _; rw [originAt_of hxk]
      have C1 : Hid (QC Try.prog w _ _ _) := fun W hW => validKept1_any x tm mb mo W (hm.ext hW)
      cases d1 : (!origOk x tm)
      case true =>
        (try rw [d1] at C1)
        have E : Hid (idxOf n (fun k => !origOk (originAt xs k) tm) = (k : Int)) := by show _ = _; exact idxOf_at hf hlt (by rw [EP.out]; exact d1)
        go_wp2_with (first | (go_at_call 215; with_reducible refine (C1.out.at_ _).mono ?_; rintro _ _ ⟨rfl, e, rfl⟩))
        repeat (refine wp_region_ext0 _ (by kernel_rfl) (by kernel_rfl) ?_; (repeat (go_big_quiet_step ((first | with_reducible exact C1.out.at_ _)))); refine wpQuiet_nil ?_; intro e; go_wp2_with (first | (go_at_call 215; with_reducible refine (C1.out.at_ _).mono ?_; rintro _ _ ⟨rfl, e, rfl⟩)))
        go_ret
        exact ⟨by rw [E.out]; rfl, _, rfl⟩
      (try rw [d1] at C1)
      have E : Hid ((!!origOk (originAt xs k) tm) = true) := by show _ = _; rw [EP.out, d1]; rfl
      go_wp2_with (first | (go_at_call 215; with_reducible refine (C1.out.at_ _).mono ?_; rintro _ _ ⟨rfl, e, rfl⟩))
      repeat (refine wp_region_ext0 _ (by kernel_rfl) (by kernel_rfl) ?_; (repeat (go_big_quiet_step ((first | with_reducible exact C1.out.at_ _)))); refine wpQuiet_nil ?_; intro e; go_wp2_with (first | (go_at_call 215; with_reducible refine (C1.out.at_ _).mono ?_; rintro _ _ ⟨rfl, e, rfl⟩)))
      exact ⟨⟨k+1, by omega, by go_num, allTo_succ hf E.out, _, rfl⟩, by simp [intOf]; omega⟩
    · have : n = k := by omega
      subst this
      have E : Hid (idxOf n (fun k => !origOk (originAt xs k) tm) = -1) := by show _ = _; exact idxOf_none hf
      go_wp2_with fail
      repeat (refine wp_region_ext0 _ (by kernel_rfl) (by kernel_rfl) ?_; (repeat (go_big_quiet_step (fail))); refine wpQuiet_nil ?_; intro e; go_wp2_with fail)
      go_ret
      exact ⟨by rw [E.out]; rfl, _, rfl⟩

set_option maxHeartbeats 1000000 in
theorem containsKept_any (xs : List GOrigin) (n : Nat) {A : Option Addr} {c : Nat} {bs : List Nat} (tm : Int) (mb mo : Nat) (w : World) (hx : T1 w (.sl n (xs.flatMap GOrigin.enc)) bs (.slice A n c)) (Hl : Hid (xs.length = n)) (hm : Kn w mb mo (.int .i64 tm)) : Calls Try.prog 214 #[.slice A n c, .func (.func 215) #[] #[.pointer (some ⟨mb, mo, none⟩)]] w fun e w' => e = .returned (.bool (anyTo n (fun k => !origOk (originAt xs k) tm))) ∧ Ext w w' := by
  refine quiet_start fun e => ?_
  have C1 : Hid (QC Try.prog w _ _ _) := fun W hW => indexKept_any xs n tm mb mo W (hx.below hW) Hl (hm.ext hW)
  have hc := idxOf_ge n (fun k => !origOk (originAt xs k) tm)
  go_enter Try.func214, Try.ntmps214
  go_wp2_with (first | (go_at_call 261; with_reducible refine (C1.out.at_ _).mono ?_; rintro _ _ ⟨rfl, e, rfl⟩))
  repeat (refine wp_region_ext0 _ (by kernel_rfl) (by kernel_rfl) ?_; (repeat (go_big_quiet_step ((first | with_reducible exact C1.out.at_ _)))); refine wpQuiet_nil ?_; intro e; go_wp2_with (first | (go_at_call 261; with_reducible refine (C1.out.at_ _).mono ?_; rintro _ _ ⟨rfl, e, rfl⟩)))
  go_ret
  exact ⟨by rw [← hc]; rfl, _, rfl⟩

set_option maxHeartbeats 4000000 in
theorem validKept_any (N : GNet) {nbs us} (xs : List GOrigin) (n : Nat) {A : Option Addr} {c : Nat} {bs : List Nat} (tm : Int) (w : World) (hN : TN w N.enc nbs us) (hx : T1 w (.sl n (xs.flatMap GOrigin.enc)) bs (.slice A n c)) (Hl : Hid (xs.length = n)) : Calls Try.prog 133 #[.agg us.toArray, .slice A n c, .int .i64 tm] w fun e w' => e = .returned (.bool (keptB N xs tm)) ∧ Ext w w' := by
  refine quiet_start fun e => ?_
  obtain ⟨P0, p0, q0, rfl, _⟩ := GNet.us (x := N) hN
  have hn := hx.nle
  have EV : Hid (keptB N xs tm = (netB N && ((n : Int) == (N.agents.length : Int)) && allTo n fun k => origOk (originAt xs k) tm)) := by show _ = _; rw [← Hl.out]; rfl
  go_enter Try.func133, Try.ntmps133
  go_upto_region 1 with (fail)
  generalize hg2 : e.to.heap.size + 1 = g2
  generalize hg1 : e.to.heap.size = g1
  refine rebase_box2 e hg1 hg2 (fun w1 e hx1 hlt1 hlt2 c1 c2 => ?_)
  clear hg1 hg2
  replace hN := TN.below hN hx1
  replace hx := hx.below hx1
  have p1 := PtAt.box hlt1 c1 hN
  obtain ⟨A0, c0, a0, h0, t0⟩ := GNet.pt0 p1
  have m0 := c2.always hlt2 0 _ rfl
  simp only [Nat.zero_add] at m0
  clear c1 c2 p1
  have C1 : Hid (QC Try.prog w1 _ _ _) := fun W hW => implValidNet_any N W (GNet.mk_ (t0.below hW))
  have C2 : Hid (QC Try.prog w1 _ _ _) := fun W hW => containsKept_any xs n tm g2 0 W (hx.below hW) Hl (m0.ext hW)
  have hc : (!anyTo n (fun k => !origOk (originAt xs k) tm)) = allTo n (fun k => origOk (originAt xs k) tm) := by simp [anyTo]
  have HC := Lib.hid hc
  clear hc
  cases d1 : netB N
  case false =>
    (try rw [d1] at C1); (try rw [d1] at C2)
    have E : Hid (keptB N xs tm = false) := by show _ = _; rw [EV.out, d1]; rfl
    go_wp2_with (first | (go_at_call 212; with_reducible refine (C1.out.at_ _).mono ?_; rintro _ _ ⟨rfl, e, rfl⟩) | (go_at_call 214; with_reducible refine (C2.out.at_ _).mono ?_; rintro _ _ ⟨rfl, e, rfl⟩))
    repeat (refine wp_region_ext0 _ (by kernel_rfl) (by kernel_rfl) ?_; (repeat (go_big_quiet_step ((first | with_reducible exact C1.out.at_ _ | with_reducible exact C2.out.at_ _)))); refine wpQuiet_nil ?_; intro e; go_wp2_with (first | (go_at_call 212; with_reducible refine (C1.out.at_ _).mono ?_; rintro _ _ ⟨rfl, e, rfl⟩) | (go_at_call 214; with_reducible refine (C2.out.at_ _).mono ?_; rintro _ _ ⟨rfl, e, rfl⟩)))
    go_ret
    exact ⟨by rw [E.out]; rfl, ExtOf.old hx1 e⟩
  (try rw [d1] at C1); (try rw [d1] at C2)
  by_cases hl : n = N.agents.length
  case neg =>
    have hb1 : ((n : Int) == (N.agents.length : Int)) = false := by rw [beq_eq_false_iff_ne]; omega
    have hb2 : (n == N.agents.length) = false := by simpa using hl
    have hb3 : decide (n = N.agents.length) = false := by simpa using hl
    have E : Hid (keptB N xs tm = false) := by show _ = _; rw [EV.out, d1, hb1]; rfl
    go_wp2_with (first | (go_at_call 212; with_reducible refine (C1.out.at_ _).mono ?_; rintro _ _ ⟨rfl, e, rfl⟩) | (go_at_call 214; with_reducible refine (C2.out.at_ _).mono ?_; rintro _ _ ⟨rfl, e, rfl⟩))
    repeat (refine wp_region_ext0 _ (by kernel_rfl) (by kernel_rfl) ?_; (repeat (go_big_quiet_step ((first | with_reducible exact C1.out.at_ _ | with_reducible exact C2.out.at_ _)))); refine wpQuiet_nil ?_; intro e; go_wp2_with (first | (go_at_call 212; with_reducible refine (C1.out.at_ _).mono ?_; rintro _ _ ⟨rfl, e, rfl⟩) | (go_at_call 214; with_reducible refine (C2.out.at_ _).mono ?_; rintro _ _ ⟨rfl, e, rfl⟩)))
    go_ret
    exact ⟨by rw [E.out]; rfl, ExtOf.old hx1 e⟩
  have EN : Hid (((n : Int) == (N.agents.length : Int)) = true) := by show _ = _; rw [beq_iff_eq]; omega
  subst hl
  have E : Hid (keptB N xs tm = !anyTo N.agents.length (fun k => !origOk (originAt xs k) tm)) := by show _ = _; rw [EV.out, EN.out, d1, HC.out]; rfl
  go_wp2_with (first | (go_at_call 212; with_reducible refine (C1.out.at_ _).mono ?_; rintro _ _ ⟨rfl, e, rfl⟩) | (go_at_call 214; with_reducible refine (C2.out.at_ _).mono ?_; rintro _ _ ⟨rfl, e, rfl⟩))
  repeat (refine wp_region_ext0 _ (by kernel_rfl) (by kernel_rfl) ?_; (repeat (go_big_quiet_step ((first | with_reducible exact C1.out.at_ _ | with_reducible exact C2.out.at_ _)))); refine wpQuiet_nil ?_; intro e; go_wp2_with (first | (go_at_call 212; with_reducible refine (C1.out.at_ _).mono ?_; rintro _ _ ⟨rfl, e, rfl⟩) | (go_at_call 214; with_reducible refine (C2.out.at_ _).mono ?_; rintro _ _ ⟨rfl, e, rfl⟩)))
  go_ret
  exact ⟨by rw [E.out]; rfl, ExtOf.old hx1 e⟩
end Go.Proofs.Ytmmdkchhahnenaa
