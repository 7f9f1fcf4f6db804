/- The reference's test of a debugger. Printed by gen_val.py. -/
import Derived.Test.YtmmdkchhahnenaaProg
import Derived.Test.YtmmdkchhahnenaaValS
import Derived.Test.YtmmdkchhahnenaaValid
import Derived.BigGuardPart
import Derived.Outline
import Derived.Deep.CutBlock
set_option linter.unusedSimpArgs false
set_option linter.unusedVariables false
namespace Go.Proofs.Ytmmdkchhahnenaa
open Go Go.RowKit Go.Proofs Go.Tr
set_option maxRecDepth 100000 in
set_option maxHeartbeats 8000000 in
theorem l40Ok_any (x : GDebugger) (b o : Nat) (bs : List Nat) (w : World) (h : PtAt w b o x.enc bs) : Calls Try.prog 130 #[.pointer (some ⟨b, o, none⟩)] w fun e w' => e = .returned (.bool (debuggerB x)) ∧ Ext w w' := by
  refine quiet_start fun e => ?_
  obtain ⟨A0, c0, a0, A1, c1, a1, A4, c4, a4, A5, c5, a5, A6, c6, a6, A7, c7, a7, x0, x1, x2, x3, x4, x5, x6, x7, tx0, tx1, tx4, tx5, tx6, tx7⟩ := GDebugger.pt h
  obtain ⟨_, n1⟩ := PtAt.part (ds1 := [_, _, _, _]) (ds2 := x.net.enc) (ds3 := [_, _, _]) h
  simp only [List.length_cons, List.length_nil, Nat.zero_add] at n1
  have hn6 := tx6.nle
  have hn7 := tx7.nle
  have C1 : Hid (QC Try.prog w _ _ _) := fun W hW => l13Book_any x.book _ W (tx0.below hW) Hid_rfl
  have C2 : Hid (QC Try.prog w _ _ _) := fun W hW => l15Schedule_any x.schedule _ W (tx1.below hW) Hid_rfl
  have C3 : Hid (QC Try.prog w _ _ _) := fun W hW => (l00In_any x.every 1 50 W).q
  have C4 : Hid (QC Try.prog w _ _ _) := fun W hW => (l00In_any x.at_ 0 4000 W).q
  have C5 : Hid (QC Try.prog w _ _ _) := fun W hW => l40Origins_any x.net _ _ _ x.origins _ x.at_ W (n1.ext hW) (tx5.below hW) Hid_rfl
  clear h n1 tx0 tx1 tx4 tx5
  go_enter Try.func130, Try.ntmps130
  cases d1 : bookB x.book
  case false =>
    (try rw [d1] at C1); (try rw [d1] at C2); (try rw [d1] at C3); (try rw [d1] at C4); (try rw [d1] at C5)
    have E : Hid (debuggerB x = false) := by show _ = _; first | (simp only [debuggerB, d1]; done) | (simp only [debuggerB, d1]; rfl) | (simp [debuggerB, d1]; done) | ((try simp at d1); simp [debuggerB, d1]; done)
    go_wp2_with (first | (go_at_call 207; with_reducible refine (C1.out.at_ _).mono ?_; rintro _ _ ⟨rfl, e, rfl⟩) | (go_at_call 128; with_reducible refine (C2.out.at_ _).mono ?_; rintro _ _ ⟨rfl, e, rfl⟩) | (go_at_call 115; with_reducible refine (C3.out.at_ _).mono ?_; rintro _ _ ⟨rfl, e, rfl⟩) | (go_at_call 115; with_reducible refine (C4.out.at_ _).mono ?_; rintro _ _ ⟨rfl, e, rfl⟩) | (go_at_call 208; with_reducible refine (C5.out.at_ _).mono ?_; rintro _ _ ⟨rfl, e, rfl⟩))
    repeat (refine wp_region_ext0 _ (by kernel_rfl) (by kernel_rfl) ?_; (repeat (go_big_quiet_step ((first | with_reducible exact C1.out.at_ _ | with_reducible exact C2.out.at_ _ | with_reducible exact C3.out.at_ _ | with_reducible exact C4.out.at_ _ | with_reducible exact C5.out.at_ _)))); refine wpQuiet_nil ?_; intro e; go_wp2_with (first | (go_at_call 207; with_reducible refine (C1.out.at_ _).mono ?_; rintro _ _ ⟨rfl, e, rfl⟩) | (go_at_call 128; with_reducible refine (C2.out.at_ _).mono ?_; rintro _ _ ⟨rfl, e, rfl⟩) | (go_at_call 115; with_reducible refine (C3.out.at_ _).mono ?_; rintro _ _ ⟨rfl, e, rfl⟩) | (go_at_call 115; with_reducible refine (C4.out.at_ _).mono ?_; rintro _ _ ⟨rfl, e, rfl⟩) | (go_at_call 208; with_reducible refine (C5.out.at_ _).mono ?_; rintro _ _ ⟨rfl, e, rfl⟩)))
    go_ret
    exact ⟨by rw [E.out]; rfl, _, rfl⟩
  (try rw [d1] at C1); (try rw [d1] at C2); (try rw [d1] at C3); (try rw [d1] at C4); (try rw [d1] at C5)
  cases d2 : schedB x.schedule
  case false =>
    (try rw [d2] at C1); (try rw [d2] at C2); (try rw [d2] at C3); (try rw [d2] at C4); (try rw [d2] at C5)
    have E : Hid (debuggerB x = false) := by show _ = _; first | (simp only [debuggerB, d1, d2]; done) | (simp only [debuggerB, d1, d2]; rfl) | (simp [debuggerB, d1, d2]; done) | ((try simp at d1); (try simp at d2); simp [debuggerB, d1, d2]; done)
    go_wp2_with (first | (go_at_call 207; with_reducible refine (C1.out.at_ _).mono ?_; rintro _ _ ⟨rfl, e, rfl⟩) | (go_at_call 128; with_reducible refine (C2.out.at_ _).mono ?_; rintro _ _ ⟨rfl, e, rfl⟩) | (go_at_call 115; with_reducible refine (C3.out.at_ _).mono ?_; rintro _ _ ⟨rfl, e, rfl⟩) | (go_at_call 115; with_reducible refine (C4.out.at_ _).mono ?_; rintro _ _ ⟨rfl, e, rfl⟩) | (go_at_call 208; with_reducible refine (C5.out.at_ _).mono ?_; rintro _ _ ⟨rfl, e, rfl⟩))
    repeat (refine wp_region_ext0 _ (by kernel_rfl) (by kernel_rfl) ?_; (repeat (go_big_quiet_step ((first | with_reducible exact C1.out.at_ _ | with_reducible exact C2.out.at_ _ | with_reducible exact C3.out.at_ _ | with_reducible exact C4.out.at_ _ | with_reducible exact C5.out.at_ _)))); refine wpQuiet_nil ?_; intro e; go_wp2_with (first | (go_at_call 207; with_reducible refine (C1.out.at_ _).mono ?_; rintro _ _ ⟨rfl, e, rfl⟩) | (go_at_call 128; with_reducible refine (C2.out.at_ _).mono ?_; rintro _ _ ⟨rfl, e, rfl⟩) | (go_at_call 115; with_reducible refine (C3.out.at_ _).mono ?_; rintro _ _ ⟨rfl, e, rfl⟩) | (go_at_call 115; with_reducible refine (C4.out.at_ _).mono ?_; rintro _ _ ⟨rfl, e, rfl⟩) | (go_at_call 208; with_reducible refine (C5.out.at_ _).mono ?_; rintro _ _ ⟨rfl, e, rfl⟩)))
    go_ret
    exact ⟨by rw [E.out]; rfl, _, rfl⟩
  (try rw [d2] at C1); (try rw [d2] at C2); (try rw [d2] at C3); (try rw [d2] at C4); (try rw [d2] at C5)
  cases d3 : inB x.every 1 50
  case false =>
    (try rw [d3] at C1); (try rw [d3] at C2); (try rw [d3] at C3); (try rw [d3] at C4); (try rw [d3] at C5)
    have E : Hid (debuggerB x = false) := by show _ = _; first | (simp only [debuggerB, d1, d2, d3]; done) | (simp only [debuggerB, d1, d2, d3]; rfl) | (simp [debuggerB, d1, d2, d3]; done) | ((try simp at d1); (try simp at d2); (try simp at d3); simp [debuggerB, d1, d2, d3]; done)
    go_wp2_with (first | (go_at_call 207; with_reducible refine (C1.out.at_ _).mono ?_; rintro _ _ ⟨rfl, e, rfl⟩) | (go_at_call 128; with_reducible refine (C2.out.at_ _).mono ?_; rintro _ _ ⟨rfl, e, rfl⟩) | (go_at_call 115; with_reducible refine (C3.out.at_ _).mono ?_; rintro _ _ ⟨rfl, e, rfl⟩) | (go_at_call 115; with_reducible refine (C4.out.at_ _).mono ?_; rintro _ _ ⟨rfl, e, rfl⟩) | (go_at_call 208; with_reducible refine (C5.out.at_ _).mono ?_; rintro _ _ ⟨rfl, e, rfl⟩))
    repeat (refine wp_region_ext0 _ (by kernel_rfl) (by kernel_rfl) ?_; (repeat (go_big_quiet_step ((first | with_reducible exact C1.out.at_ _ | with_reducible exact C2.out.at_ _ | with_reducible exact C3.out.at_ _ | with_reducible exact C4.out.at_ _ | with_reducible exact C5.out.at_ _)))); refine wpQuiet_nil ?_; intro e; go_wp2_with (first | (go_at_call 207; with_reducible refine (C1.out.at_ _).mono ?_; rintro _ _ ⟨rfl, e, rfl⟩) | (go_at_call 128; with_reducible refine (C2.out.at_ _).mono ?_; rintro _ _ ⟨rfl, e, rfl⟩) | (go_at_call 115; with_reducible refine (C3.out.at_ _).mono ?_; rintro _ _ ⟨rfl, e, rfl⟩) | (go_at_call 115; with_reducible refine (C4.out.at_ _).mono ?_; rintro _ _ ⟨rfl, e, rfl⟩) | (go_at_call 208; with_reducible refine (C5.out.at_ _).mono ?_; rintro _ _ ⟨rfl, e, rfl⟩)))
    go_ret
    exact ⟨by rw [E.out]; rfl, _, rfl⟩
  (try rw [d3] at C1); (try rw [d3] at C2); (try rw [d3] at C3); (try rw [d3] at C4); (try rw [d3] at C5)
  cases d4 : inB x.at_ 0 4000
  case false =>
    (try rw [d4] at C1); (try rw [d4] at C2); (try rw [d4] at C3); (try rw [d4] at C4); (try rw [d4] at C5)
    have E : Hid (debuggerB x = false) := by show _ = _; first | (simp only [debuggerB, d1, d2, d3, d4]; done) | (simp only [debuggerB, d1, d2, d3, d4]; rfl) | (simp [debuggerB, d1, d2, d3, d4]; done) | ((try simp at d1); (try simp at d2); (try simp at d3); (try simp at d4); simp [debuggerB, d1, d2, d3, d4]; done)
    go_wp2_with (first | (go_at_call 207; with_reducible refine (C1.out.at_ _).mono ?_; rintro _ _ ⟨rfl, e, rfl⟩) | (go_at_call 128; with_reducible refine (C2.out.at_ _).mono ?_; rintro _ _ ⟨rfl, e, rfl⟩) | (go_at_call 115; with_reducible refine (C3.out.at_ _).mono ?_; rintro _ _ ⟨rfl, e, rfl⟩) | (go_at_call 115; with_reducible refine (C4.out.at_ _).mono ?_; rintro _ _ ⟨rfl, e, rfl⟩) | (go_at_call 208; with_reducible refine (C5.out.at_ _).mono ?_; rintro _ _ ⟨rfl, e, rfl⟩))
    repeat (refine wp_region_ext0 _ (by kernel_rfl) (by kernel_rfl) ?_; (repeat (go_big_quiet_step ((first | with_reducible exact C1.out.at_ _ | with_reducible exact C2.out.at_ _ | with_reducible exact C3.out.at_ _ | with_reducible exact C4.out.at_ _ | with_reducible exact C5.out.at_ _)))); refine wpQuiet_nil ?_; intro e; go_wp2_with (first | (go_at_call 207; with_reducible refine (C1.out.at_ _).mono ?_; rintro _ _ ⟨rfl, e, rfl⟩) | (go_at_call 128; with_reducible refine (C2.out.at_ _).mono ?_; rintro _ _ ⟨rfl, e, rfl⟩) | (go_at_call 115; with_reducible refine (C3.out.at_ _).mono ?_; rintro _ _ ⟨rfl, e, rfl⟩) | (go_at_call 115; with_reducible refine (C4.out.at_ _).mono ?_; rintro _ _ ⟨rfl, e, rfl⟩) | (go_at_call 208; with_reducible refine (C5.out.at_ _).mono ?_; rintro _ _ ⟨rfl, e, rfl⟩)))
    go_ret
    exact ⟨by rw [E.out]; rfl, _, rfl⟩
  (try rw [d4] at C1); (try rw [d4] at C2); (try rw [d4] at C3); (try rw [d4] at C4); (try rw [d4] at C5)
  cases d5 : keptB x.net x.origins x.at_
  case false =>
    (try rw [d5] at C1); (try rw [d5] at C2); (try rw [d5] at C3); (try rw [d5] at C4); (try rw [d5] at C5)
    have E : Hid (debuggerB x = false) := by show _ = _; first | (simp only [debuggerB, d1, d2, d3, d4, d5]; done) | (simp only [debuggerB, d1, d2, d3, d4, d5]; rfl) | (simp [debuggerB, d1, d2, d3, d4, d5]; done) | ((try simp at d1); (try simp at d2); (try simp at d3); (try simp at d4); (try simp at d5); simp [debuggerB, d1, d2, d3, d4, d5]; done)
    go_wp2_with (first | (go_at_call 207; with_reducible refine (C1.out.at_ _).mono ?_; rintro _ _ ⟨rfl, e, rfl⟩) | (go_at_call 128; with_reducible refine (C2.out.at_ _).mono ?_; rintro _ _ ⟨rfl, e, rfl⟩) | (go_at_call 115; with_reducible refine (C3.out.at_ _).mono ?_; rintro _ _ ⟨rfl, e, rfl⟩) | (go_at_call 115; with_reducible refine (C4.out.at_ _).mono ?_; rintro _ _ ⟨rfl, e, rfl⟩) | (go_at_call 208; with_reducible refine (C5.out.at_ _).mono ?_; rintro _ _ ⟨rfl, e, rfl⟩))
    repeat (refine wp_region_ext0 _ (by kernel_rfl) (by kernel_rfl) ?_; (repeat (go_big_quiet_step ((first | with_reducible exact C1.out.at_ _ | with_reducible exact C2.out.at_ _ | with_reducible exact C3.out.at_ _ | with_reducible exact C4.out.at_ _ | with_reducible exact C5.out.at_ _)))); refine wpQuiet_nil ?_; intro e; go_wp2_with (first | (go_at_call 207; with_reducible refine (C1.out.at_ _).mono ?_; rintro _ _ ⟨rfl, e, rfl⟩) | (go_at_call 128; with_reducible refine (C2.out.at_ _).mono ?_; rintro _ _ ⟨rfl, e, rfl⟩) | (go_at_call 115; with_reducible refine (C3.out.at_ _).mono ?_; rintro _ _ ⟨rfl, e, rfl⟩) | (go_at_call 115; with_reducible refine (C4.out.at_ _).mono ?_; rintro _ _ ⟨rfl, e, rfl⟩) | (go_at_call 208; with_reducible refine (C5.out.at_ _).mono ?_; rintro _ _ ⟨rfl, e, rfl⟩)))
    go_ret
    exact ⟨by rw [E.out]; rfl, _, rfl⟩
  (try rw [d5] at C1); (try rw [d5] at C2); (try rw [d5] at C3); (try rw [d5] at C4); (try rw [d5] at C5)
  cases d6 : decide ((8 : Int) < x.breaks.length)
  case true =>
    (try rw [d6] at C1); (try rw [d6] at C2); (try rw [d6] at C3); (try rw [d6] at C4); (try rw [d6] at C5)
    have E : Hid (debuggerB x = false) := by show _ = _; simp at d6; simp [debuggerB, show ¬ ((x.breaks.length : Int) ≤ 8) by omega]
    go_wp2_with (first | (go_at_call 207; with_reducible refine (C1.out.at_ _).mono ?_; rintro _ _ ⟨rfl, e, rfl⟩) | (go_at_call 128; with_reducible refine (C2.out.at_ _).mono ?_; rintro _ _ ⟨rfl, e, rfl⟩) | (go_at_call 115; with_reducible refine (C3.out.at_ _).mono ?_; rintro _ _ ⟨rfl, e, rfl⟩) | (go_at_call 115; with_reducible refine (C4.out.at_ _).mono ?_; rintro _ _ ⟨rfl, e, rfl⟩) | (go_at_call 208; with_reducible refine (C5.out.at_ _).mono ?_; rintro _ _ ⟨rfl, e, rfl⟩))
    repeat (refine wp_region_ext0 _ (by kernel_rfl) (by kernel_rfl) ?_; (repeat (go_big_quiet_step ((first | with_reducible exact C1.out.at_ _ | with_reducible exact C2.out.at_ _ | with_reducible exact C3.out.at_ _ | with_reducible exact C4.out.at_ _ | with_reducible exact C5.out.at_ _)))); refine wpQuiet_nil ?_; intro e; go_wp2_with (first | (go_at_call 207; with_reducible refine (C1.out.at_ _).mono ?_; rintro _ _ ⟨rfl, e, rfl⟩) | (go_at_call 128; with_reducible refine (C2.out.at_ _).mono ?_; rintro _ _ ⟨rfl, e, rfl⟩) | (go_at_call 115; with_reducible refine (C3.out.at_ _).mono ?_; rintro _ _ ⟨rfl, e, rfl⟩) | (go_at_call 115; with_reducible refine (C4.out.at_ _).mono ?_; rintro _ _ ⟨rfl, e, rfl⟩) | (go_at_call 208; with_reducible refine (C5.out.at_ _).mono ?_; rintro _ _ ⟨rfl, e, rfl⟩)))
    go_ret
    exact ⟨by rw [E.out]; rfl, _, rfl⟩
  (try rw [d6] at C1); (try rw [d6] at C2); (try rw [d6] at C3); (try rw [d6] at C4); (try rw [d6] at C5)
  have E8 : Hid (decide ((x.breaks.length : Int) ≤ 8) = true) := by show _ = _; simp at d6; simp; omega
  have he := inB_t d3
  have ha := inB_t d4
  go_wp2_with (first | (go_at_call 207; with_reducible refine (C1.out.at_ _).mono ?_; rintro _ _ ⟨rfl, e, rfl⟩) | (go_at_call 128; with_reducible refine (C2.out.at_ _).mono ?_; rintro _ _ ⟨rfl, e, rfl⟩) | (go_at_call 115; with_reducible refine (C3.out.at_ _).mono ?_; rintro _ _ ⟨rfl, e, rfl⟩) | (go_at_call 115; with_reducible refine (C4.out.at_ _).mono ?_; rintro _ _ ⟨rfl, e, rfl⟩) | (go_at_call 208; with_reducible refine (C5.out.at_ _).mono ?_; rintro _ _ ⟨rfl, e, rfl⟩))
  repeat (refine wp_region_ext0 _ (by kernel_rfl) (by kernel_rfl) ?_; (repeat (go_big_quiet_step ((first | with_reducible exact C1.out.at_ _ | with_reducible exact C2.out.at_ _ | with_reducible exact C3.out.at_ _ | with_reducible exact C4.out.at_ _ | with_reducible exact C5.out.at_ _)))); refine wpQuiet_nil ?_; intro e; go_wp2_with (first | (go_at_call 207; with_reducible refine (C1.out.at_ _).mono ?_; rintro _ _ ⟨rfl, e, rfl⟩) | (go_at_call 128; with_reducible refine (C2.out.at_ _).mono ?_; rintro _ _ ⟨rfl, e, rfl⟩) | (go_at_call 115; with_reducible refine (C3.out.at_ _).mono ?_; rintro _ _ ⟨rfl, e, rfl⟩) | (go_at_call 115; with_reducible refine (C4.out.at_ _).mono ?_; rintro _ _ ⟨rfl, e, rfl⟩) | (go_at_call 208; with_reducible refine (C5.out.at_ _).mono ?_; rintro _ _ ⟨rfl, e, rfl⟩)))
  go_loopw [3] (fun i w' => ∃ k : Nat, k ≤ x.breaks.length ∧ i = .int .i64 k ∧ Hid (allTo k (fun k => brkOk (breakAt x.breaks k)) = true) ∧ ∃ e : ExtOf w, w' = e.to) (fun i _ => x.breaks.length - (intOf i).toNat)
  case atStart => exact ⟨0, Nat.zero_le _, rfl, allTo_0 _, _, rfl⟩
  case round =>
    obtain ⟨k, hk, rfl, hfk, e, rfl⟩ := hrel
    by_cases hltk : k < x.breaks.length
    · skip
      obtain ⟨b', off, y, bs', rfl, hyk, hp⟩ := T1.elem GBreak.enc_len tx6 Hid_rfl hltk
      have EK : Hid (brkOk (breakAt x.breaks k) = brkOk y) := by show _ = _; rw [breakAt_of hyk]
      have C6 : Hid (QC Try.prog w _ _ _) := fun W hW => l40Break_any y b' (off + k * 2) _ W (hp.ext hW)
      cases d7 : brkOk y
      case false =>
        (try rw [d7] at C6)
        have E6 : Hid (allTo x.breaks.length (fun k => brkOk (breakAt x.breaks k)) = false) := allTo_f (f := fun k => brkOk (breakAt x.breaks k)) hltk (by show brkOk (breakAt x.breaks k) = false; rw [EK.out]; exact d7)
        have E : Hid (debuggerB x = false) := by show _ = _; simp only [debuggerB, d1, d2, d3, d4, d5, E8.out, E6.out]; rfl
        go_wp2_with (first | (go_at_call 209; with_reducible refine (C6.out.at_ _).mono ?_; rintro _ _ ⟨rfl, e, rfl⟩))
        repeat (refine wp_region_ext0 _ (by kernel_rfl) (by kernel_rfl) ?_; (repeat (go_big_quiet_step ((first | with_reducible exact C6.out.at_ _)))); refine wpQuiet_nil ?_; intro e; go_wp2_with (first | (go_at_call 209; with_reducible refine (C6.out.at_ _).mono ?_; rintro _ _ ⟨rfl, e, rfl⟩)))
        go_ret
        exact ⟨by rw [E.out]; rfl, _, rfl⟩
      (try rw [d7] at C6)
      have E : Hid (brkOk (breakAt x.breaks k) = true) := by show _ = _; rw [EK.out]; exact d7
      go_wp2_with (first | (go_at_call 209; with_reducible refine (C6.out.at_ _).mono ?_; rintro _ _ ⟨rfl, e, rfl⟩))
      repeat (refine wp_region_ext0 _ (by kernel_rfl) (by kernel_rfl) ?_; (repeat (go_big_quiet_step ((first | with_reducible exact C6.out.at_ _)))); refine wpQuiet_nil ?_; intro e; go_wp2_with (first | (go_at_call 209; with_reducible refine (C6.out.at_ _).mono ?_; rintro _ _ ⟨rfl, e, rfl⟩)))
      exact ⟨⟨k+1, by omega, by go_num, allTo_succ hfk E.out, _, rfl⟩, by simp [intOf]; omega⟩
    · have : x.breaks.length = k := by omega
      subst this
      have EB := hfk
      clear hfk
      have hdv0 := Int.ediv_nonneg ha.1 (show 0 ≤ x.every by omega)
      have hdv1 := Int.ediv_le_self x.every ha.1
      have hdw0 := Int.ediv_nonneg (show (0 : Int) ≤ 4000 by omega) (show 0 ≤ x.every by omega)
      have hdw1 := Int.ediv_le_self x.every (show (0 : Int) ≤ 4000 by omega)
      generalize hq1 : x.at_ / x.every = q1 at hdv0 hdv1
      generalize hq2 : (4000 : Int) / x.every = q2 at hdw0 hdw1
      have ht1 : x.at_.tdiv x.every = q1 := by rw [Int.tdiv_eq_ediv_of_nonneg ha.1, hq1]
      have ht2 : (4000 : Int).tdiv x.every = q2 := by rw [Int.tdiv_eq_ediv_of_nonneg (by omega), hq2]
      have hw0 : IntKind.i64.wrap (q1) = q1 := IntWalk.i64_in _ (by omega)
      have hw1 : IntKind.i64.wrap (q2) = q2 := IntWalk.i64_in _ (by omega)
      have hw2 : IntKind.i64.wrap (q1 + 1) = q1 + 1 := IntWalk.i64_in _ (by omega)
      have hw3 : IntKind.i64.wrap (q2 + 1) = q2 + 1 := IntWalk.i64_in _ (by omega)
      have hz : (x.every == 0) = false := by simp; omega
      have hz2 : ¬ x.every = 0 := by omega
      have EQ1 := Lib.hid hq1
      have EQ2 := Lib.hid hq2
      have C7 : Hid (QC Try.prog w _ _ _) := fun W hW => (l00In_any x.points.length (q1 + 1) (q2 + 1) W).q
      cases d8 : inB x.points.length (q1 + 1) (q2 + 1)
      case false =>
        (try rw [d8] at C7)
        have E : Hid (debuggerB x = false) := by show _ = _; simp only [debuggerB, d1, d2, d3, d4, d5, E8.out, EB.out, EQ1.out, EQ2.out, d8]; rfl
        go_wp2_with (first | (go_at_call 115; with_reducible refine (C7.out.at_ _).mono ?_; rintro _ _ ⟨rfl, e, rfl⟩))
        repeat (refine wp_region_ext0 _ (by kernel_rfl) (by kernel_rfl) ?_; (repeat (go_big_quiet_step ((first | with_reducible exact C7.out.at_ _)))); refine wpQuiet_nil ?_; intro e; go_wp2_with (first | (go_at_call 115; with_reducible refine (C7.out.at_ _).mono ?_; rintro _ _ ⟨rfl, e, rfl⟩)))
        go_ret
        exact ⟨by rw [E.out]; rfl, _, rfl⟩
      (try rw [d8] at C7)
      go_wp2_with (first | (go_at_call 115; with_reducible refine (C7.out.at_ _).mono ?_; rintro _ _ ⟨rfl, e, rfl⟩))
      repeat (refine wp_region_ext0 _ (by kernel_rfl) (by kernel_rfl) ?_; (repeat (go_big_quiet_step ((first | with_reducible exact C7.out.at_ _)))); refine wpQuiet_nil ?_; intro e; go_wp2_with (first | (go_at_call 115; with_reducible refine (C7.out.at_ _).mono ?_; rintro _ _ ⟨rfl, e, rfl⟩)))
      have hpl := inB_t d8
      clear hw0 hw1 hw2 hw3 ht1 ht2 hq1 hq2 C7
      go_loopw [4] (fun i w' => ∃ k : Nat, k ≤ x.points.length ∧ i = .int .i64 k ∧ Hid (allTo k (fun k => pointB x.every k (pointAt x.points k)) = true) ∧ ∃ e : ExtOf w, w' = e.to) (fun i _ => x.points.length - (intOf i).toNat)
      case atStart => exact ⟨0, Nat.zero_le _, rfl, allTo_0 _, _, rfl⟩
      case round =>
        obtain ⟨k, hk, rfl, hfk, e, rfl⟩ := hrel
        by_cases hltk : k < x.points.length
        · skip
          obtain ⟨b', off, y, bs', rfl, hyk, hp⟩ := T1.elem GCheckpoint.enc_len tx7 Hid_rfl hltk
          have EK : Hid (pointB x.every k (pointAt x.points k) = ((y.at_ == (k : Int) * x.every) && keptB y.net y.origins y.at_)) := by show _ = _; rw [pointAt_of hyk]; rfl
          obtain ⟨E1, e1, f1, E2, e2, f2, u0, u1, u2, su1, su2⟩ := GCheckpoint.pt hp
          obtain ⟨_, n1⟩ := PtAt.part (ds1 := [_]) (ds2 := y.net.enc) (ds3 := [_]) hp
          simp only [List.length_cons, List.length_nil, Nat.zero_add] at n1
          have C8 : Hid (QC Try.prog w _ _ _) := fun W hW => l40Origins_any y.net _ _ _ y.origins _ y.at_ W (n1.ext hW) (su2.below hW) Hid_rfl
          have hm1 : (k : Int) * x.every ≤ 4001 * 50 := Int.mul_le_mul (by omega) (by omega) (by omega) (by omega)
          have hm0 : 0 ≤ (k : Int) * x.every := Int.mul_nonneg (by omega) (by omega)
          generalize hp_ : (k : Int) * x.every = pr at hm0 hm1 EK
          have hw0 : IntKind.i64.wrap pr = pr := IntWalk.i64_in _ (by omega)
          cases d9 : (y.at_ != pr)
          case true =>
            (try rw [d9] at C8)
            have E6 : Hid (allTo x.points.length (fun k => pointB x.every k (pointAt x.points k)) = false) := allTo_f (f := fun k => pointB x.every k (pointAt x.points k)) hltk (by show pointB x.every k (pointAt x.points k) = false; rw [EK.out]; rw [show (y.at_ == pr) = false by simpa using d9]; rfl)
            have E : Hid (debuggerB x = false) := by show _ = _; simp only [debuggerB, d1, d2, d3, d4, d5, E8.out, EB.out, EQ1.out, EQ2.out, E6.out, d8]; rfl
            go_wp2_with (first | (go_at_call 208; with_reducible refine (C8.out.at_ _).mono ?_; rintro _ _ ⟨rfl, e, rfl⟩))
            repeat (refine wp_region_ext0 _ (by kernel_rfl) (by kernel_rfl) ?_; (repeat (go_big_quiet_step ((first | with_reducible exact C8.out.at_ _)))); refine wpQuiet_nil ?_; intro e; go_wp2_with (first | (go_at_call 208; with_reducible refine (C8.out.at_ _).mono ?_; rintro _ _ ⟨rfl, e, rfl⟩)))
            go_ret
            exact ⟨by rw [E.out]; rfl, _, rfl⟩
          (try rw [d9] at C8)
          cases d10 : keptB y.net y.origins y.at_
          case false =>
            (try rw [d10] at C8)
            have E6 : Hid (allTo x.points.length (fun k => pointB x.every k (pointAt x.points k)) = false) := allTo_f (f := fun k => pointB x.every k (pointAt x.points k)) hltk (by show pointB x.every k (pointAt x.points k) = false; rw [EK.out]; rw [d10, Bool.and_false])
            have E : Hid (debuggerB x = false) := by show _ = _; simp only [debuggerB, d1, d2, d3, d4, d5, E8.out, EB.out, EQ1.out, EQ2.out, E6.out, d8]; rfl
            go_wp2_with (first | (go_at_call 208; with_reducible refine (C8.out.at_ _).mono ?_; rintro _ _ ⟨rfl, e, rfl⟩))
            repeat (refine wp_region_ext0 _ (by kernel_rfl) (by kernel_rfl) ?_; (repeat (go_big_quiet_step ((first | with_reducible exact C8.out.at_ _)))); refine wpQuiet_nil ?_; intro e; go_wp2_with (first | (go_at_call 208; with_reducible refine (C8.out.at_ _).mono ?_; rintro _ _ ⟨rfl, e, rfl⟩)))
            go_ret
            exact ⟨by rw [E.out]; rfl, _, rfl⟩
          (try rw [d10] at C8)
          have E : Hid (pointB x.every k (pointAt x.points k) = true) := by show _ = _; rw [EK.out, show (y.at_ == pr) = true by simpa using d9, d10]; rfl
          go_wp2_with (first | (go_at_call 208; with_reducible refine (C8.out.at_ _).mono ?_; rintro _ _ ⟨rfl, e, rfl⟩))
          repeat (refine wp_region_ext0 _ (by kernel_rfl) (by kernel_rfl) ?_; (repeat (go_big_quiet_step ((first | with_reducible exact C8.out.at_ _)))); refine wpQuiet_nil ?_; intro e; go_wp2_with (first | (go_at_call 208; with_reducible refine (C8.out.at_ _).mono ?_; rintro _ _ ⟨rfl, e, rfl⟩)))
          exact ⟨⟨k+1, by omega, by go_num, allTo_succ hfk E.out, _, rfl⟩, by simp [intOf]; omega⟩
        · have : x.points.length = k := by omega
          subst this
          have E : Hid (debuggerB x = true) := by show _ = _; simp only [debuggerB, d1, d2, d3, d4, d5, E8.out, EB.out, EQ1.out, EQ2.out, hfk.out, d8]; rfl
          go_wp2_with fail
          repeat (refine wp_region_ext0 _ (by kernel_rfl) (by kernel_rfl) ?_; (repeat (go_big_quiet_step (fail))); refine wpQuiet_nil ?_; intro e; go_wp2_with fail)
          go_ret
          exact ⟨by rw [E.out]; rfl, _, rfl⟩

set_option maxRecDepth 100000 in
set_option maxHeartbeats 2000000 in
theorem specValidDebugger_any (x : GDebugger) {bs us} (w : World) (h : TN w x.enc bs us) : Calls Try.prog 44 #[.agg us.toArray] w fun e w' => e = .returned (.bool (debuggerB x)) ∧ Ext w w' := by
  refine quiet_start fun e => ?_
  obtain ⟨P0A, P0c, P0b, P1A, P1c, P1b, P4A, P4c, P4b, P5A, P5c, P5b, P6A, P6c, P6b, P7A, P7c, P7b, rfl, _⟩ := GDebugger.us (x := x) h
  go_enter Try.func44, Try.ntmps44
  go_upto_region 1 with (fail)
  generalize hgg : e.to.heap.size = g
  refine rebase_box e hgg (fun w1 e hx1 hgeg hltg cg => ?_)
  clear hgg
  replace h := h.below hx1
  have p := PtAt.box hltg cg h
  clear cg h
  have C1 : Hid (QC Try.prog w1 _ _ _) := fun W hW => l40Ok_any x g 0 _ W (p.ext hW)
  go_wp2_with (first | (go_at_call 130; with_reducible refine (C1.out.at_ _).mono ?_; rintro _ _ ⟨rfl, e, rfl⟩))
  repeat (refine wp_region_ext0 _ (by kernel_rfl) (by kernel_rfl) ?_; (repeat (go_big_quiet_step ((first | with_reducible exact C1.out.at_ _)))); refine wpQuiet_nil ?_; intro e; go_wp2_with (first | (go_at_call 130; with_reducible refine (C1.out.at_ _).mono ?_; rintro _ _ ⟨rfl, e, rfl⟩)))
  go_ret
  exact ⟨rfl, ExtOf.old hx1 e⟩
end Go.Proofs.Ytmmdkchhahnenaa
