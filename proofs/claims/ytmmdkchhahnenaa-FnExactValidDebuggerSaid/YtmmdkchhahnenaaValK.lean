/- The program's test of a debugger. Printed by gen_valk.py. -/
import Derived.Test.YtmmdkchhahnenaaValJ
import Derived.BigGuardPart
import Derived.Outline
import Derived.Deep.CutBlock
set_option linter.unusedSimpArgs false
set_option linter.unusedVariables false
namespace Go.Proofs.Ytmmdkchhahnenaa
open Go Go.RowKit Go.Proofs Go.Tr
set_option maxRecDepth 100000 in
set_option maxHeartbeats 8000000 in
theorem implValidDebugger_any (x : GDebugger) {bs us} (w : World) (h : TN w x.enc bs us) : Calls Try.prog 45 #[.agg us.toArray] w fun e w' => e = .returned (.bool (debuggerB x)) ∧ Ext w w' := by
  refine quiet_start fun e => ?_
  obtain ⟨P0A, P0c, P0b, P1A, P1c, P1b, P4A, P4c, P4b, P5A, P5c, P5b, P6A, P6c, P6b, P7A, P7c, P7b, rfl, _⟩ := GDebugger.us (x := x) h
  go_enter Try.func45, Try.ntmps45
  go_upto_region 1 with (fail)
  generalize hgg : e.to.heap.size = g
  refine rebase_box e hgg (fun w1 e hx1 hgeg hltg cg => ?_)
  clear hgg
  replace h := h.below hx1
  have p := PtAt.box hltg cg h
  clear cg h
  obtain ⟨A0, c0, a0, A1, c1, a1, A4, c4, a4, A5, c5, a5, A6, c6, a6, A7, c7, a7, x0, x1, x2, x3, x4, x5, x6, x7, tx0, tx1, tx4, tx5, tx6, tx7⟩ := GDebugger.pt0 p
  clear p
  have hn6 := tx6.nle
  have hn7 := tx7.nle
  have C1 : Hid (QC Try.prog w1 _ _ _) := fun W hW => validTemplates_any x.book _ W (tx0.below hW) Hid_rfl
  have C2 : Hid (QC Try.prog w1 _ _ _) := fun W hW => validSchedule_any x.schedule _ W (tx1.below hW) Hid_rfl
  have C5 : Hid (QC Try.prog w1 _ _ _) := fun W hW => validKept_any x.net x.origins _ x.at_ W (GNet.mk_ (tx4.below hW)) (tx5.below hW) Hid_rfl
  have C6 : Hid (QC Try.prog w1 _ _ _) := fun W hW => containsBreaks_any x.breaks _ W (tx6.below hW) Hid_rfl
  cases d1 : bookB x.book
  case false =>
    (try rw [d1] at C1); (try rw [d1] at C2); (try rw [d1] at C5); (try rw [d1] at C6)
    have E : Hid (debuggerB x = false) := by show _ = _; first | (simp only [debuggerB, d1]; done) | (simp only [debuggerB, d1]; rfl) | (simp [debuggerB, d1]; done) | ((try simp at d1); simp [debuggerB, d1]; done)
    go_wp2_with (first | (go_at_call 131; with_reducible refine (C1.out.at_ _).mono ?_; rintro _ _ ⟨rfl, e, rfl⟩) | (go_at_call 54; with_reducible refine (C2.out.at_ _).mono ?_; rintro _ _ ⟨rfl, e, rfl⟩) | (go_at_call 133; with_reducible refine (C5.out.at_ _).mono ?_; rintro _ _ ⟨rfl, e, rfl⟩) | (go_at_call 134; with_reducible refine (C6.out.at_ _).mono ?_; rintro _ _ ⟨rfl, e, rfl⟩))
    repeat (refine wp_region_ext0 _ (by kernel_rfl) (by kernel_rfl) ?_; (repeat (go_big_quiet_step ((first | with_reducible exact C1.out.at_ _ | with_reducible exact C2.out.at_ _ | with_reducible exact C5.out.at_ _ | with_reducible exact C6.out.at_ _)))); refine wpQuiet_nil ?_; intro e; go_wp2_with (first | (go_at_call 131; with_reducible refine (C1.out.at_ _).mono ?_; rintro _ _ ⟨rfl, e, rfl⟩) | (go_at_call 54; with_reducible refine (C2.out.at_ _).mono ?_; rintro _ _ ⟨rfl, e, rfl⟩) | (go_at_call 133; with_reducible refine (C5.out.at_ _).mono ?_; rintro _ _ ⟨rfl, e, rfl⟩) | (go_at_call 134; with_reducible refine (C6.out.at_ _).mono ?_; rintro _ _ ⟨rfl, e, rfl⟩)))
    go_ret
    exact ⟨by rw [E.out]; rfl, ExtOf.old hx1 e⟩
  (try rw [d1] at C1); (try rw [d1] at C2); (try rw [d1] at C5); (try rw [d1] at C6)
  cases d2 : schedB x.schedule
  case false =>
    (try rw [d2] at C1); (try rw [d2] at C2); (try rw [d2] at C5); (try rw [d2] at C6)
    have E : Hid (debuggerB x = false) := by show _ = _; first | (simp only [debuggerB, d1, d2]; done) | (simp only [debuggerB, d1, d2]; rfl) | (simp [debuggerB, d1, d2]; done) | ((try simp at d1); (try simp at d2); simp [debuggerB, d1, d2]; done)
    go_wp2_with (first | (go_at_call 131; with_reducible refine (C1.out.at_ _).mono ?_; rintro _ _ ⟨rfl, e, rfl⟩) | (go_at_call 54; with_reducible refine (C2.out.at_ _).mono ?_; rintro _ _ ⟨rfl, e, rfl⟩) | (go_at_call 133; with_reducible refine (C5.out.at_ _).mono ?_; rintro _ _ ⟨rfl, e, rfl⟩) | (go_at_call 134; with_reducible refine (C6.out.at_ _).mono ?_; rintro _ _ ⟨rfl, e, rfl⟩))
    repeat (refine wp_region_ext0 _ (by kernel_rfl) (by kernel_rfl) ?_; (repeat (go_big_quiet_step ((first | with_reducible exact C1.out.at_ _ | with_reducible exact C2.out.at_ _ | with_reducible exact C5.out.at_ _ | with_reducible exact C6.out.at_ _)))); refine wpQuiet_nil ?_; intro e; go_wp2_with (first | (go_at_call 131; with_reducible refine (C1.out.at_ _).mono ?_; rintro _ _ ⟨rfl, e, rfl⟩) | (go_at_call 54; with_reducible refine (C2.out.at_ _).mono ?_; rintro _ _ ⟨rfl, e, rfl⟩) | (go_at_call 133; with_reducible refine (C5.out.at_ _).mono ?_; rintro _ _ ⟨rfl, e, rfl⟩) | (go_at_call 134; with_reducible refine (C6.out.at_ _).mono ?_; rintro _ _ ⟨rfl, e, rfl⟩)))
    go_ret
    exact ⟨by rw [E.out]; rfl, ExtOf.old hx1 e⟩
  (try rw [d2] at C1); (try rw [d2] at C2); (try rw [d2] at C5); (try rw [d2] at C6)
  cases d3 : decide (x.every < 1)
  case true =>
    (try rw [d3] at C1); (try rw [d3] at C2); (try rw [d3] at C5); (try rw [d3] at C6)
    have E : Hid (debuggerB x = false) := by show _ = _; have : inB x.every 1 50 = false := inB_no (Or.inl (by simpa using d3)); simp only [debuggerB, d1, d2, this]; rfl
    go_wp2_with (first | (go_at_call 131; with_reducible refine (C1.out.at_ _).mono ?_; rintro _ _ ⟨rfl, e, rfl⟩) | (go_at_call 54; with_reducible refine (C2.out.at_ _).mono ?_; rintro _ _ ⟨rfl, e, rfl⟩) | (go_at_call 133; with_reducible refine (C5.out.at_ _).mono ?_; rintro _ _ ⟨rfl, e, rfl⟩) | (go_at_call 134; with_reducible refine (C6.out.at_ _).mono ?_; rintro _ _ ⟨rfl, e, rfl⟩))
    repeat (refine wp_region_ext0 _ (by kernel_rfl) (by kernel_rfl) ?_; (repeat (go_big_quiet_step ((first | with_reducible exact C1.out.at_ _ | with_reducible exact C2.out.at_ _ | with_reducible exact C5.out.at_ _ | with_reducible exact C6.out.at_ _)))); refine wpQuiet_nil ?_; intro e; go_wp2_with (first | (go_at_call 131; with_reducible refine (C1.out.at_ _).mono ?_; rintro _ _ ⟨rfl, e, rfl⟩) | (go_at_call 54; with_reducible refine (C2.out.at_ _).mono ?_; rintro _ _ ⟨rfl, e, rfl⟩) | (go_at_call 133; with_reducible refine (C5.out.at_ _).mono ?_; rintro _ _ ⟨rfl, e, rfl⟩) | (go_at_call 134; with_reducible refine (C6.out.at_ _).mono ?_; rintro _ _ ⟨rfl, e, rfl⟩)))
    go_ret
    exact ⟨by rw [E.out]; rfl, ExtOf.old hx1 e⟩
  (try rw [d3] at C1); (try rw [d3] at C2); (try rw [d3] at C5); (try rw [d3] at C6)
  cases d4 : decide (50 < x.every)
  case true =>
    (try rw [d4] at C1); (try rw [d4] at C2); (try rw [d4] at C5); (try rw [d4] at C6)
    have E : Hid (debuggerB x = false) := by show _ = _; have : inB x.every 1 50 = false := inB_no (Or.inr (by simpa using d4)); simp only [debuggerB, d1, d2, this]; rfl
    go_wp2_with (first | (go_at_call 131; with_reducible refine (C1.out.at_ _).mono ?_; rintro _ _ ⟨rfl, e, rfl⟩) | (go_at_call 54; with_reducible refine (C2.out.at_ _).mono ?_; rintro _ _ ⟨rfl, e, rfl⟩) | (go_at_call 133; with_reducible refine (C5.out.at_ _).mono ?_; rintro _ _ ⟨rfl, e, rfl⟩) | (go_at_call 134; with_reducible refine (C6.out.at_ _).mono ?_; rintro _ _ ⟨rfl, e, rfl⟩))
    repeat (refine wp_region_ext0 _ (by kernel_rfl) (by kernel_rfl) ?_; (repeat (go_big_quiet_step ((first | with_reducible exact C1.out.at_ _ | with_reducible exact C2.out.at_ _ | with_reducible exact C5.out.at_ _ | with_reducible exact C6.out.at_ _)))); refine wpQuiet_nil ?_; intro e; go_wp2_with (first | (go_at_call 131; with_reducible refine (C1.out.at_ _).mono ?_; rintro _ _ ⟨rfl, e, rfl⟩) | (go_at_call 54; with_reducible refine (C2.out.at_ _).mono ?_; rintro _ _ ⟨rfl, e, rfl⟩) | (go_at_call 133; with_reducible refine (C5.out.at_ _).mono ?_; rintro _ _ ⟨rfl, e, rfl⟩) | (go_at_call 134; with_reducible refine (C6.out.at_ _).mono ?_; rintro _ _ ⟨rfl, e, rfl⟩)))
    go_ret
    exact ⟨by rw [E.out]; rfl, ExtOf.old hx1 e⟩
  (try rw [d4] at C1); (try rw [d4] at C2); (try rw [d4] at C5); (try rw [d4] at C6)
  have h3 : inB x.every 1 50 = true := inB_mk (by simp at d3; omega) (by simp at d4; omega)
  cases d5 : inB x.at_ 0 4000
  case false =>
    (try rw [d5] at C1); (try rw [d5] at C2); (try rw [d5] at C5); (try rw [d5] at C6)
    have E : Hid (debuggerB x = false) := by show _ = _; simp only [debuggerB, d1, d2, h3, d5]; rfl
    go_wp2_with (first | (go_at_call 131; with_reducible refine (C1.out.at_ _).mono ?_; rintro _ _ ⟨rfl, e, rfl⟩) | (go_at_call 54; with_reducible refine (C2.out.at_ _).mono ?_; rintro _ _ ⟨rfl, e, rfl⟩) | (go_at_call 133; with_reducible refine (C5.out.at_ _).mono ?_; rintro _ _ ⟨rfl, e, rfl⟩) | (go_at_call 134; with_reducible refine (C6.out.at_ _).mono ?_; rintro _ _ ⟨rfl, e, rfl⟩))
    refine (atMostOne_any 4000 x.at_ _ _ _ _ (T1.lit e.to _ [.int .i64 x.at_] 1 (by omega) (by decide) rfl)).mono ?_
    rintro _ w3 ⟨rfl, hx3⟩
    obtain ⟨e, rfl⟩ : ∃ e' : ExtOf w1, w3 = e'.to := ⟨⟨w3, Ext.trans (e.h.alloc e.h.size _) hx3⟩, rfl⟩
    rw [d5]
    clear hx3
    go_wp2_with (first | (go_at_call 131; with_reducible refine (C1.out.at_ _).mono ?_; rintro _ _ ⟨rfl, e, rfl⟩) | (go_at_call 54; with_reducible refine (C2.out.at_ _).mono ?_; rintro _ _ ⟨rfl, e, rfl⟩) | (go_at_call 133; with_reducible refine (C5.out.at_ _).mono ?_; rintro _ _ ⟨rfl, e, rfl⟩) | (go_at_call 134; with_reducible refine (C6.out.at_ _).mono ?_; rintro _ _ ⟨rfl, e, rfl⟩))
    repeat (refine wp_region_ext0 _ (by kernel_rfl) (by kernel_rfl) ?_; (repeat (go_big_quiet_step ((first | with_reducible exact C1.out.at_ _ | with_reducible exact C2.out.at_ _ | with_reducible exact C5.out.at_ _ | with_reducible exact C6.out.at_ _)))); refine wpQuiet_nil ?_; intro e; go_wp2_with (first | (go_at_call 131; with_reducible refine (C1.out.at_ _).mono ?_; rintro _ _ ⟨rfl, e, rfl⟩) | (go_at_call 54; with_reducible refine (C2.out.at_ _).mono ?_; rintro _ _ ⟨rfl, e, rfl⟩) | (go_at_call 133; with_reducible refine (C5.out.at_ _).mono ?_; rintro _ _ ⟨rfl, e, rfl⟩) | (go_at_call 134; with_reducible refine (C6.out.at_ _).mono ?_; rintro _ _ ⟨rfl, e, rfl⟩)))
    go_ret
    exact ⟨by rw [E.out]; rfl, ExtOf.old hx1 e⟩
  (try rw [d5] at C1); (try rw [d5] at C2); (try rw [d5] at C5); (try rw [d5] at C6)
  cases d6 : keptB x.net x.origins x.at_
  case false =>
    (try rw [d6] at C1); (try rw [d6] at C2); (try rw [d6] at C5); (try rw [d6] at C6)
    have E : Hid (debuggerB x = false) := by show _ = _; simp only [debuggerB, d1, d2, h3, d5, d6]; rfl
    go_wp2_with (first | (go_at_call 131; with_reducible refine (C1.out.at_ _).mono ?_; rintro _ _ ⟨rfl, e, rfl⟩) | (go_at_call 54; with_reducible refine (C2.out.at_ _).mono ?_; rintro _ _ ⟨rfl, e, rfl⟩) | (go_at_call 133; with_reducible refine (C5.out.at_ _).mono ?_; rintro _ _ ⟨rfl, e, rfl⟩) | (go_at_call 134; with_reducible refine (C6.out.at_ _).mono ?_; rintro _ _ ⟨rfl, e, rfl⟩))
    refine (atMostOne_any 4000 x.at_ _ _ _ _ (T1.lit e.to _ [.int .i64 x.at_] 1 (by omega) (by decide) rfl)).mono ?_
    rintro _ w3 ⟨rfl, hx3⟩
    obtain ⟨e, rfl⟩ : ∃ e' : ExtOf w1, w3 = e'.to := ⟨⟨w3, Ext.trans (e.h.alloc e.h.size _) hx3⟩, rfl⟩
    rw [d5]
    clear hx3
    go_wp2_with (first | (go_at_call 131; with_reducible refine (C1.out.at_ _).mono ?_; rintro _ _ ⟨rfl, e, rfl⟩) | (go_at_call 54; with_reducible refine (C2.out.at_ _).mono ?_; rintro _ _ ⟨rfl, e, rfl⟩) | (go_at_call 133; with_reducible refine (C5.out.at_ _).mono ?_; rintro _ _ ⟨rfl, e, rfl⟩) | (go_at_call 134; with_reducible refine (C6.out.at_ _).mono ?_; rintro _ _ ⟨rfl, e, rfl⟩))
    repeat (refine wp_region_ext0 _ (by kernel_rfl) (by kernel_rfl) ?_; (repeat (go_big_quiet_step ((first | with_reducible exact C1.out.at_ _ | with_reducible exact C2.out.at_ _ | with_reducible exact C5.out.at_ _ | with_reducible exact C6.out.at_ _)))); refine wpQuiet_nil ?_; intro e; go_wp2_with (first | (go_at_call 131; with_reducible refine (C1.out.at_ _).mono ?_; rintro _ _ ⟨rfl, e, rfl⟩) | (go_at_call 54; with_reducible refine (C2.out.at_ _).mono ?_; rintro _ _ ⟨rfl, e, rfl⟩) | (go_at_call 133; with_reducible refine (C5.out.at_ _).mono ?_; rintro _ _ ⟨rfl, e, rfl⟩) | (go_at_call 134; with_reducible refine (C6.out.at_ _).mono ?_; rintro _ _ ⟨rfl, e, rfl⟩)))
    go_ret
    exact ⟨by rw [E.out]; rfl, ExtOf.old hx1 e⟩
  (try rw [d6] at C1); (try rw [d6] at C2); (try rw [d6] at C5); (try rw [d6] at C6)
  have hc : (!anyTo x.breaks.length (fun k => !brkOk (breakAt x.breaks k))) = allTo x.breaks.length (fun k => brkOk (breakAt x.breaks k)) := by simp [anyTo]
  cases d7 : decide ((8 : Int) < x.breaks.length)
  case true =>
    (try rw [d7] at C1); (try rw [d7] at C2); (try rw [d7] at C5); (try rw [d7] at C6)
    have E : Hid (debuggerB x = false) := by show _ = _; simp only [debuggerB, d1, d2, h3, d5, d6, show decide ((x.breaks.length : Int) ≤ 8) = false by simp at d7; simp; omega]; rfl
    go_wp2_with (first | (go_at_call 131; with_reducible refine (C1.out.at_ _).mono ?_; rintro _ _ ⟨rfl, e, rfl⟩) | (go_at_call 54; with_reducible refine (C2.out.at_ _).mono ?_; rintro _ _ ⟨rfl, e, rfl⟩) | (go_at_call 133; with_reducible refine (C5.out.at_ _).mono ?_; rintro _ _ ⟨rfl, e, rfl⟩) | (go_at_call 134; with_reducible refine (C6.out.at_ _).mono ?_; rintro _ _ ⟨rfl, e, rfl⟩))
    refine (atMostOne_any 4000 x.at_ _ _ _ _ (T1.lit e.to _ [.int .i64 x.at_] 1 (by omega) (by decide) rfl)).mono ?_
    rintro _ w3 ⟨rfl, hx3⟩
    obtain ⟨e, rfl⟩ : ∃ e' : ExtOf w1, w3 = e'.to := ⟨⟨w3, Ext.trans (e.h.alloc e.h.size _) hx3⟩, rfl⟩
    rw [d5]
    clear hx3
    go_wp2_with (first | (go_at_call 131; with_reducible refine (C1.out.at_ _).mono ?_; rintro _ _ ⟨rfl, e, rfl⟩) | (go_at_call 54; with_reducible refine (C2.out.at_ _).mono ?_; rintro _ _ ⟨rfl, e, rfl⟩) | (go_at_call 133; with_reducible refine (C5.out.at_ _).mono ?_; rintro _ _ ⟨rfl, e, rfl⟩) | (go_at_call 134; with_reducible refine (C6.out.at_ _).mono ?_; rintro _ _ ⟨rfl, e, rfl⟩))
    repeat (refine wp_region_ext0 _ (by kernel_rfl) (by kernel_rfl) ?_; (repeat (go_big_quiet_step ((first | with_reducible exact C1.out.at_ _ | with_reducible exact C2.out.at_ _ | with_reducible exact C5.out.at_ _ | with_reducible exact C6.out.at_ _)))); refine wpQuiet_nil ?_; intro e; go_wp2_with (first | (go_at_call 131; with_reducible refine (C1.out.at_ _).mono ?_; rintro _ _ ⟨rfl, e, rfl⟩) | (go_at_call 54; with_reducible refine (C2.out.at_ _).mono ?_; rintro _ _ ⟨rfl, e, rfl⟩) | (go_at_call 133; with_reducible refine (C5.out.at_ _).mono ?_; rintro _ _ ⟨rfl, e, rfl⟩) | (go_at_call 134; with_reducible refine (C6.out.at_ _).mono ?_; rintro _ _ ⟨rfl, e, rfl⟩)))
    go_ret
    exact ⟨by rw [E.out]; rfl, ExtOf.old hx1 e⟩
  (try rw [d7] at C1); (try rw [d7] at C2); (try rw [d7] at C5); (try rw [d7] at C6)
  have E8 : Hid (decide ((x.breaks.length : Int) ≤ 8) = true) := by show _ = _; simp at d7; simp; omega
  cases d8 : anyTo x.breaks.length (fun k => !brkOk (breakAt x.breaks k))
  case true =>
    (try rw [d8] at C1); (try rw [d8] at C2); (try rw [d8] at C5); (try rw [d8] at C6)
    have E : Hid (debuggerB x = false) := by show _ = _; simp only [debuggerB, d1, d2, h3, d5, d6, E8.out, ← hc, d8]; rfl
    go_wp2_with (first | (go_at_call 131; with_reducible refine (C1.out.at_ _).mono ?_; rintro _ _ ⟨rfl, e, rfl⟩) | (go_at_call 54; with_reducible refine (C2.out.at_ _).mono ?_; rintro _ _ ⟨rfl, e, rfl⟩) | (go_at_call 133; with_reducible refine (C5.out.at_ _).mono ?_; rintro _ _ ⟨rfl, e, rfl⟩) | (go_at_call 134; with_reducible refine (C6.out.at_ _).mono ?_; rintro _ _ ⟨rfl, e, rfl⟩))
    refine (atMostOne_any 4000 x.at_ _ _ _ _ (T1.lit e.to _ [.int .i64 x.at_] 1 (by omega) (by decide) rfl)).mono ?_
    rintro _ w3 ⟨rfl, hx3⟩
    obtain ⟨e, rfl⟩ : ∃ e' : ExtOf w1, w3 = e'.to := ⟨⟨w3, Ext.trans (e.h.alloc e.h.size _) hx3⟩, rfl⟩
    rw [d5]
    clear hx3
    go_wp2_with (first | (go_at_call 131; with_reducible refine (C1.out.at_ _).mono ?_; rintro _ _ ⟨rfl, e, rfl⟩) | (go_at_call 54; with_reducible refine (C2.out.at_ _).mono ?_; rintro _ _ ⟨rfl, e, rfl⟩) | (go_at_call 133; with_reducible refine (C5.out.at_ _).mono ?_; rintro _ _ ⟨rfl, e, rfl⟩) | (go_at_call 134; with_reducible refine (C6.out.at_ _).mono ?_; rintro _ _ ⟨rfl, e, rfl⟩))
    repeat (refine wp_region_ext0 _ (by kernel_rfl) (by kernel_rfl) ?_; (repeat (go_big_quiet_step ((first | with_reducible exact C1.out.at_ _ | with_reducible exact C2.out.at_ _ | with_reducible exact C5.out.at_ _ | with_reducible exact C6.out.at_ _)))); refine wpQuiet_nil ?_; intro e; go_wp2_with (first | (go_at_call 131; with_reducible refine (C1.out.at_ _).mono ?_; rintro _ _ ⟨rfl, e, rfl⟩) | (go_at_call 54; with_reducible refine (C2.out.at_ _).mono ?_; rintro _ _ ⟨rfl, e, rfl⟩) | (go_at_call 133; with_reducible refine (C5.out.at_ _).mono ?_; rintro _ _ ⟨rfl, e, rfl⟩) | (go_at_call 134; with_reducible refine (C6.out.at_ _).mono ?_; rintro _ _ ⟨rfl, e, rfl⟩)))
    go_ret
    exact ⟨by rw [E.out]; rfl, ExtOf.old hx1 e⟩
  (try rw [d8] at C1); (try rw [d8] at C2); (try rw [d8] at C5); (try rw [d8] at C6)
  have EB : Hid (allTo x.breaks.length (fun k => brkOk (breakAt x.breaks k)) = true) := by show _ = _; rw [← hc, d8]; rfl
  clear hc
  have he := inB_t h3
  have ha := inB_t d5
  have hdv0 := Int.ediv_nonneg ha.1 (show 0 ≤ x.every by omega)
  have hdv1 := Int.ediv_le_self x.every ha.1
  have hdw0 := Int.ediv_nonneg (show (0 : Int) ≤ 4000 by omega) (show 0 ≤ x.every by omega)
  have hdw1 := Int.ediv_le_self x.every (show (0 : Int) ≤ 4000 by omega)
  generalize hq1 : x.at_ / x.every = q1 at hdv0 hdv1
  generalize hq2 : (4000 : Int) / x.every = q2 at hdw0 hdw1
  have ht1 : x.at_.tdiv x.every = q1 := by rw [Int.tdiv_eq_ediv_of_nonneg ha.1, hq1]
  have ht2 : (4000 : Int).tdiv x.every = q2 := by rw [Int.tdiv_eq_ediv_of_nonneg (by omega), hq2]
  have hw0 : IntKind.i64.wrap (q1) = q1 := IntWalk.i64_in _ (by omega)
  have hw1 : IntKind.i64.wrap (q2) = q2 := IntWalk.i64_in _ (by omega)
  have hw2 : IntKind.i64.wrap (q1 + 1) = q1 + 1 := IntWalk.i64_in _ (by omega)
  have hw3 : IntKind.i64.wrap (q2 + 1) = q2 + 1 := IntWalk.i64_in _ (by omega)
  have hz : (x.every == 0) = false := by simp; omega
  have hz2 : ¬ x.every = 0 := by omega
  have EQ1 := Lib.hid hq1
  have EQ2 := Lib.hid hq2
  cases d9 : decide ((x.points.length : Int) < q1 + 1)
  case true =>
    (try rw [d9] at C1); (try rw [d9] at C2); (try rw [d9] at C5); (try rw [d9] at C6)
    have E : Hid (debuggerB x = false) := by show _ = _; simp only [debuggerB, d1, d2, h3, d5, d6, E8.out, EB.out, EQ1.out, EQ2.out, inB_no (n := (x.points.length : Int)) (lo := q1 + 1) (hi := q2 + 1) (Or.inl (by simpa using d9))]; rfl
    go_wp2_with (first | (go_at_call 131; with_reducible refine (C1.out.at_ _).mono ?_; rintro _ _ ⟨rfl, e, rfl⟩) | (go_at_call 54; with_reducible refine (C2.out.at_ _).mono ?_; rintro _ _ ⟨rfl, e, rfl⟩) | (go_at_call 133; with_reducible refine (C5.out.at_ _).mono ?_; rintro _ _ ⟨rfl, e, rfl⟩) | (go_at_call 134; with_reducible refine (C6.out.at_ _).mono ?_; rintro _ _ ⟨rfl, e, rfl⟩))
    refine (atMostOne_any 4000 x.at_ _ _ _ _ (T1.lit e.to _ [.int .i64 x.at_] 1 (by omega) (by decide) rfl)).mono ?_
    rintro _ w3 ⟨rfl, hx3⟩
    obtain ⟨e, rfl⟩ : ∃ e' : ExtOf w1, w3 = e'.to := ⟨⟨w3, Ext.trans (e.h.alloc e.h.size _) hx3⟩, rfl⟩
    rw [d5]
    clear hx3
    go_wp2_with (first | (go_at_call 131; with_reducible refine (C1.out.at_ _).mono ?_; rintro _ _ ⟨rfl, e, rfl⟩) | (go_at_call 54; with_reducible refine (C2.out.at_ _).mono ?_; rintro _ _ ⟨rfl, e, rfl⟩) | (go_at_call 133; with_reducible refine (C5.out.at_ _).mono ?_; rintro _ _ ⟨rfl, e, rfl⟩) | (go_at_call 134; with_reducible refine (C6.out.at_ _).mono ?_; rintro _ _ ⟨rfl, e, rfl⟩))
    repeat (refine wp_region_ext0 _ (by kernel_rfl) (by kernel_rfl) ?_; (repeat (go_big_quiet_step ((first | with_reducible exact C1.out.at_ _ | with_reducible exact C2.out.at_ _ | with_reducible exact C5.out.at_ _ | with_reducible exact C6.out.at_ _)))); refine wpQuiet_nil ?_; intro e; go_wp2_with (first | (go_at_call 131; with_reducible refine (C1.out.at_ _).mono ?_; rintro _ _ ⟨rfl, e, rfl⟩) | (go_at_call 54; with_reducible refine (C2.out.at_ _).mono ?_; rintro _ _ ⟨rfl, e, rfl⟩) | (go_at_call 133; with_reducible refine (C5.out.at_ _).mono ?_; rintro _ _ ⟨rfl, e, rfl⟩) | (go_at_call 134; with_reducible refine (C6.out.at_ _).mono ?_; rintro _ _ ⟨rfl, e, rfl⟩)))
    go_ret
    exact ⟨by rw [E.out]; rfl, ExtOf.old hx1 e⟩
  (try rw [d9] at C1); (try rw [d9] at C2); (try rw [d9] at C5); (try rw [d9] at C6)
  cases d10 : decide (q2 + 1 < (x.points.length : Int))
  case true =>
    (try rw [d10] at C1); (try rw [d10] at C2); (try rw [d10] at C5); (try rw [d10] at C6)
    have E : Hid (debuggerB x = false) := by show _ = _; simp only [debuggerB, d1, d2, h3, d5, d6, E8.out, EB.out, EQ1.out, EQ2.out, inB_no (n := (x.points.length : Int)) (lo := q1 + 1) (hi := q2 + 1) (Or.inr (by simpa using d10))]; rfl
    go_wp2_with (first | (go_at_call 131; with_reducible refine (C1.out.at_ _).mono ?_; rintro _ _ ⟨rfl, e, rfl⟩) | (go_at_call 54; with_reducible refine (C2.out.at_ _).mono ?_; rintro _ _ ⟨rfl, e, rfl⟩) | (go_at_call 133; with_reducible refine (C5.out.at_ _).mono ?_; rintro _ _ ⟨rfl, e, rfl⟩) | (go_at_call 134; with_reducible refine (C6.out.at_ _).mono ?_; rintro _ _ ⟨rfl, e, rfl⟩))
    refine (atMostOne_any 4000 x.at_ _ _ _ _ (T1.lit e.to _ [.int .i64 x.at_] 1 (by omega) (by decide) rfl)).mono ?_
    rintro _ w3 ⟨rfl, hx3⟩
    obtain ⟨e, rfl⟩ : ∃ e' : ExtOf w1, w3 = e'.to := ⟨⟨w3, Ext.trans (e.h.alloc e.h.size _) hx3⟩, rfl⟩
    rw [d5]
    clear hx3
    go_wp2_with (first | (go_at_call 131; with_reducible refine (C1.out.at_ _).mono ?_; rintro _ _ ⟨rfl, e, rfl⟩) | (go_at_call 54; with_reducible refine (C2.out.at_ _).mono ?_; rintro _ _ ⟨rfl, e, rfl⟩) | (go_at_call 133; with_reducible refine (C5.out.at_ _).mono ?_; rintro _ _ ⟨rfl, e, rfl⟩) | (go_at_call 134; with_reducible refine (C6.out.at_ _).mono ?_; rintro _ _ ⟨rfl, e, rfl⟩))
    repeat (refine wp_region_ext0 _ (by kernel_rfl) (by kernel_rfl) ?_; (repeat (go_big_quiet_step ((first | with_reducible exact C1.out.at_ _ | with_reducible exact C2.out.at_ _ | with_reducible exact C5.out.at_ _ | with_reducible exact C6.out.at_ _)))); refine wpQuiet_nil ?_; intro e; go_wp2_with (first | (go_at_call 131; with_reducible refine (C1.out.at_ _).mono ?_; rintro _ _ ⟨rfl, e, rfl⟩) | (go_at_call 54; with_reducible refine (C2.out.at_ _).mono ?_; rintro _ _ ⟨rfl, e, rfl⟩) | (go_at_call 133; with_reducible refine (C5.out.at_ _).mono ?_; rintro _ _ ⟨rfl, e, rfl⟩) | (go_at_call 134; with_reducible refine (C6.out.at_ _).mono ?_; rintro _ _ ⟨rfl, e, rfl⟩)))
    go_ret
    exact ⟨by rw [E.out]; rfl, ExtOf.old hx1 e⟩
  (try rw [d10] at C1); (try rw [d10] at C2); (try rw [d10] at C5); (try rw [d10] at C6)
  have D7 : inB x.points.length (q1 + 1) (q2 + 1) = true := inB_mk (by simp at d9; omega) (by simp at d10; omega)
  go_wp2_with (first | (go_at_call 131; with_reducible refine (C1.out.at_ _).mono ?_; rintro _ _ ⟨rfl, e, rfl⟩) | (go_at_call 54; with_reducible refine (C2.out.at_ _).mono ?_; rintro _ _ ⟨rfl, e, rfl⟩) | (go_at_call 133; with_reducible refine (C5.out.at_ _).mono ?_; rintro _ _ ⟨rfl, e, rfl⟩) | (go_at_call 134; with_reducible refine (C6.out.at_ _).mono ?_; rintro _ _ ⟨rfl, e, rfl⟩))
  refine (atMostOne_any 4000 x.at_ _ _ _ _ (T1.lit e.to _ [.int .i64 x.at_] 1 (by omega) (by decide) rfl)).mono ?_
  rintro _ w3 ⟨rfl, hx3⟩
  obtain ⟨e, rfl⟩ : ∃ e' : ExtOf w1, w3 = e'.to := ⟨⟨w3, Ext.trans (e.h.alloc e.h.size _) hx3⟩, rfl⟩
  rw [d5]
  clear hx3
  go_wp2_with (first | (go_at_call 131; with_reducible refine (C1.out.at_ _).mono ?_; rintro _ _ ⟨rfl, e, rfl⟩) | (go_at_call 54; with_reducible refine (C2.out.at_ _).mono ?_; rintro _ _ ⟨rfl, e, rfl⟩) | (go_at_call 133; with_reducible refine (C5.out.at_ _).mono ?_; rintro _ _ ⟨rfl, e, rfl⟩) | (go_at_call 134; with_reducible refine (C6.out.at_ _).mono ?_; rintro _ _ ⟨rfl, e, rfl⟩))
  repeat (refine wp_region_ext0 _ (by kernel_rfl) (by kernel_rfl) ?_; (repeat (go_big_quiet_step ((first | with_reducible exact C1.out.at_ _ | with_reducible exact C2.out.at_ _ | with_reducible exact C5.out.at_ _ | with_reducible exact C6.out.at_ _)))); refine wpQuiet_nil ?_; intro e; go_wp2_with (first | (go_at_call 131; with_reducible refine (C1.out.at_ _).mono ?_; rintro _ _ ⟨rfl, e, rfl⟩) | (go_at_call 54; with_reducible refine (C2.out.at_ _).mono ?_; rintro _ _ ⟨rfl, e, rfl⟩) | (go_at_call 133; with_reducible refine (C5.out.at_ _).mono ?_; rintro _ _ ⟨rfl, e, rfl⟩) | (go_at_call 134; with_reducible refine (C6.out.at_ _).mono ?_; rintro _ _ ⟨rfl, e, rfl⟩)))
  have hpl := inB_t D7
  clear hw0 hw1 hw2 hw3 ht1 ht2 hq1 hq2 C1 C2 C5 C6
  go_loopw [4, 74] (fun _ i w' => ∃ k : Nat, k ≤ x.points.length ∧ i = .int .i64 k ∧ Hid (allTo k (fun k => pointB x.every k (pointAt x.points k)) = true) ∧ ∃ e : ExtOf w1, w' = e.to) (fun _ i _ => x.points.length - (intOf i).toNat)
  case atStart => exact ⟨0, Nat.zero_le _, rfl, allTo_0 _, _, rfl⟩
  case round =>
    obtain ⟨k, hk, rfl, hfk, e, rfl⟩ := hrel
    by_cases hltk : k < x.points.length
    · skip
      obtain ⟨b', off, y, bs', rfl, hyk, hp⟩ := T1.elem GCheckpoint.enc_len tx7 Hid_rfl hltk
      have EK : Hid (pointB x.every k (pointAt x.points k) = ((y.at_ == (k : Int) * x.every) && keptB y.net y.origins y.at_)) := by show _ = _; rw [pointAt_of hyk]; rfl
      obtain ⟨E1, e1, f1, E2, e2, f2, u0, u1, u2, su1, su2⟩ := GCheckpoint.pt hp
      clear hp
      go_upto_region 11 with (fail)
      generalize hgg2 : e.to.heap.size = g2
      refine rebase_box e hgg2 (fun w2 e hx2 hgeg2 hltg2 cg2 => ?_)
      clear hgg2
      replace su1 := su1.below hx2
      replace su2 := su2.below hx2
      replace x2 := x2.ext hx2
      have hy2 := Ext.trans hx1 hx2
      have v0 := cg2.always hltg2 0 _ rfl
      have v1 := cg2.always hltg2 1 _ rfl
      have v2 := cg2.always hltg2 2 _ rfl
      simp only [Nat.zero_add] at v0 v1 v2
      clear cg2
      clear u0 u1 u2
      have C8 : Hid (QC Try.prog w2 _ _ _) := fun W hW => validKept_any y.net y.origins _ y.at_ W (GNet.mk_ (su1.below hW)) (su2.below hW) Hid_rfl
      have hm1 : (k : Int) * x.every ≤ 4001 * 50 := Int.mul_le_mul (by omega) (by omega) (by omega) (by omega)
      have hm0 : 0 ≤ (k : Int) * x.every := Int.mul_nonneg (by omega) (by omega)
      generalize hp_ : (k : Int) * x.every = pr at hm0 hm1 EK
      have hw0 : IntKind.i64.wrap pr = pr := IntWalk.i64_in _ (by omega)
      cases d11 : (y.at_ != pr)
      case true =>
        (try rw [d11] at C8)
        have E6 : Hid (allTo x.points.length (fun k => pointB x.every k (pointAt x.points k)) = false) := allTo_f (f := fun k => pointB x.every k (pointAt x.points k)) hltk (by show pointB x.every k (pointAt x.points k) = false; rw [EK.out]; rw [show (y.at_ == pr) = false by simpa using d11]; rfl)
        have E : Hid (debuggerB x = false) := by show _ = _; simp only [debuggerB, d1, d2, h3, d5, d6, E8.out, EB.out, EQ1.out, EQ2.out, E6.out, D7]; rfl
        go_wp2_with (first | (go_at_call 133; with_reducible refine (C8.out.at_ _).mono ?_; rintro _ _ ⟨rfl, e, rfl⟩))
        repeat (refine wp_region_ext0 _ (by kernel_rfl) (by kernel_rfl) ?_; (repeat (go_big_quiet_step ((first | with_reducible exact C8.out.at_ _)))); refine wpQuiet_nil ?_; intro e; go_wp2_with (first | (go_at_call 133; with_reducible refine (C8.out.at_ _).mono ?_; rintro _ _ ⟨rfl, e, rfl⟩)))
        go_ret
        exact ⟨by rw [E.out]; rfl, ExtOf.old hy2 e⟩
      (try rw [d11] at C8)
      cases d12 : keptB y.net y.origins y.at_
      case false =>
        (try rw [d12] at C8)
        have E6 : Hid (allTo x.points.length (fun k => pointB x.every k (pointAt x.points k)) = false) := allTo_f (f := fun k => pointB x.every k (pointAt x.points k)) hltk (by show pointB x.every k (pointAt x.points k) = false; rw [EK.out]; rw [d12, Bool.and_false])
        have E : Hid (debuggerB x = false) := by show _ = _; simp only [debuggerB, d1, d2, h3, d5, d6, E8.out, EB.out, EQ1.out, EQ2.out, E6.out, D7]; rfl
        go_wp2_with (first | (go_at_call 133; with_reducible refine (C8.out.at_ _).mono ?_; rintro _ _ ⟨rfl, e, rfl⟩))
        repeat (refine wp_region_ext0 _ (by kernel_rfl) (by kernel_rfl) ?_; (repeat (go_big_quiet_step ((first | with_reducible exact C8.out.at_ _)))); refine wpQuiet_nil ?_; intro e; go_wp2_with (first | (go_at_call 133; with_reducible refine (C8.out.at_ _).mono ?_; rintro _ _ ⟨rfl, e, rfl⟩)))
        go_ret
        exact ⟨by rw [E.out]; rfl, ExtOf.old hy2 e⟩
      (try rw [d12] at C8)
      have E : Hid (pointB x.every k (pointAt x.points k) = true) := by show _ = _; rw [EK.out, show (y.at_ == pr) = true by simpa using d11, d12]; rfl
      go_wp2_with (first | (go_at_call 133; with_reducible refine (C8.out.at_ _).mono ?_; rintro _ _ ⟨rfl, e, rfl⟩))
      repeat (refine wp_region_ext0 _ (by kernel_rfl) (by kernel_rfl) ?_; (repeat (go_big_quiet_step ((first | with_reducible exact C8.out.at_ _)))); refine wpQuiet_nil ?_; intro e; go_wp2_with (first | (go_at_call 133; with_reducible refine (C8.out.at_ _).mono ?_; rintro _ _ ⟨rfl, e, rfl⟩)))
      exact ⟨⟨k+1, by omega, by go_num, allTo_succ hfk E.out, ⟨e.to, hx2.trans e.h⟩, rfl⟩, by simp [intOf]; omega⟩
    · have : x.points.length = k := by omega
      subst this
      have E : Hid (debuggerB x = true) := by show _ = _; simp only [debuggerB, d1, d2, h3, d5, d6, E8.out, EB.out, EQ1.out, EQ2.out, hfk.out, D7]; rfl
      go_wp2_with fail
      repeat (refine wp_region_ext0 _ (by kernel_rfl) (by kernel_rfl) ?_; (repeat (go_big_quiet_step (fail))); refine wpQuiet_nil ?_; intro e; go_wp2_with fail)
      go_ret
      exact ⟨by rw [E.out]; rfl, ExtOf.old hx1 e⟩
end Go.Proofs.Ytmmdkchhahnenaa
