/- The reference's tests of books, schedules and origins. Printed by gen_val.py. -/
import Derived.Test.YtmmdkchhahnenaaProg
import Derived.Test.YtmmdkchhahnenaaNetT
import Derived.Test.YtmmdkchhahnenaaValid
import Derived.BigGuardPart
import Derived.Outline
import Derived.Deep.CutBlock
set_option linter.unusedSimpArgs false
set_option linter.unusedVariables false
namespace Go.Proofs.Ytmmdkchhahnenaa
open Go Go.RowKit Go.Proofs Go.Tr
set_option maxHeartbeats 2000000 in
theorem l13Book_any (xs : List GNet) (n : Nat) {A : Option Addr} {c : Nat} {bs : List Nat} (w : World) (hx : T1 w (.sl n (xs.flatMap GNet.enc)) bs (.slice A n c)) (Hl : Hid (xs.length = n)) : Calls Try.prog 207 #[.slice A n c] w fun e w' => e = .returned (.bool (bookB xs)) ∧ Ext w w' := by
  refine quiet_start fun e => ?_
  have hn := hx.nle
  have EV : Hid (bookB xs = (decide ((n : Int) ≤ 24) && allTo n fun k => netB (netAt xs k))) := by show _ = _; rw [← Hl.out]; rfl
  go_enter Try.func207, Try.ntmps207
  cases d1 : decide ((24 : Int) < n)
  case true =>
    have E : Hid (bookB xs = false) := by show _ = _; rw [EV.out, show decide ((n : Int) ≤ 24) = false by simp at d1; simp; omega]; rfl
    go_wp2_with fail
    repeat (refine wp_region_ext0 _ (by kernel_rfl) (by kernel_rfl) ?_; (repeat (go_big_quiet_step (fail))); refine wpQuiet_nil ?_; intro e; go_wp2_with fail)
    go_ret
    exact ⟨by rw [E.out]; rfl, _, rfl⟩
  have EN : Hid (decide ((n : Int) ≤ 24) = true) := by show _ = _; simp at d1; simp; omega
  go_wp2_with fail
  repeat (refine wp_region_ext0 _ (by kernel_rfl) (by kernel_rfl) ?_; (repeat (go_big_quiet_step (fail))); refine wpQuiet_nil ?_; intro e; go_wp2_with fail)
  go_loopw [3] (fun i w' => ∃ k : Nat, k ≤ n ∧ i = .int .i64 k ∧ Hid (allTo k (fun k => netB (netAt xs k)) = true) ∧ ∃ e : ExtOf w, w' = e.to) (fun i _ => n - (intOf i).toNat)
  case atStart => exact ⟨0, Nat.zero_le _, rfl, allTo_0 _, _, rfl⟩
  case round =>
    obtain ⟨k, hk, rfl, hfk, e, rfl⟩ := hrel
    by_cases hltk : k < n
    · skip
      obtain ⟨b, off, x, bs', rfl, hxk, hp⟩ := T1.elem GNet.enc_len hx Hl hltk
      have EK : Hid (netB (netAt xs k) = netB x) := by show _ = _; rw [netAt_of hxk]
      have C1 : Hid (QC Try.prog w _ _ _) := fun W hW => l11Ok_any x b (off + k * 1) _ W (hp.ext hW)
      rw [Nat.mul_one] at C1
      cases d2 : netB x
      case false =>
        (try rw [d2] at C1)
        have E : Hid (bookB xs = false) := by show _ = _; rw [EV.out, allTo_f hltk (by rw [EK.out]; exact d2)]; simp
        go_wp2_with (first | (go_at_call 252; with_reducible refine (C1.out.at_ _).mono ?_; rintro _ _ ⟨rfl, e, rfl⟩))
        repeat (refine wp_region_ext0 _ (by kernel_rfl) (by kernel_rfl) ?_; (repeat (go_big_quiet_step ((first | with_reducible exact C1.out.at_ _)))); refine wpQuiet_nil ?_; intro e; go_wp2_with (first | (go_at_call 252; with_reducible refine (C1.out.at_ _).mono ?_; rintro _ _ ⟨rfl, e, rfl⟩)))
        go_ret
        exact ⟨by rw [E.out]; rfl, _, rfl⟩
      (try rw [d2] at C1)
      have E : Hid (netB (netAt xs k) = true) := by show _ = _; rw [EK.out]; exact d2
      go_wp2_with (first | (go_at_call 252; with_reducible refine (C1.out.at_ _).mono ?_; rintro _ _ ⟨rfl, e, rfl⟩))
      repeat (refine wp_region_ext0 _ (by kernel_rfl) (by kernel_rfl) ?_; (repeat (go_big_quiet_step ((first | with_reducible exact C1.out.at_ _)))); refine wpQuiet_nil ?_; intro e; go_wp2_with (first | (go_at_call 252; with_reducible refine (C1.out.at_ _).mono ?_; rintro _ _ ⟨rfl, e, rfl⟩)))
      exact ⟨⟨k+1, by omega, by go_num, allTo_succ hfk E.out, _, rfl⟩, by simp [intOf]; omega⟩
    · have : n = k := by omega
      subst this
      have E : Hid (bookB xs = true) := by show _ = _; rw [EV.out, EN.out, hfk.out]; rfl
      go_wp2_with fail
      repeat (refine wp_region_ext0 _ (by kernel_rfl) (by kernel_rfl) ?_; (repeat (go_big_quiet_step (fail))); refine wpQuiet_nil ?_; intro e; go_wp2_with fail)
      go_ret
      exact ⟨by rw [E.out]; rfl, _, rfl⟩

set_option maxHeartbeats 2000000 in
theorem l15Schedule_any (xs : List Int) (n : Nat) {A : Option Addr} {c : Nat} {bs : List Nat} (w : World) (hx : T1 w (.sl n (xs.flatMap intE)) bs (.slice A n c)) (Hl : Hid (xs.length = n)) : Calls Try.prog 128 #[.slice A n c] w fun e w' => e = .returned (.bool (schedB xs)) ∧ Ext w w' := by
  refine quiet_start fun e => ?_
  have hn := hx.nle
  have EV : Hid (schedB xs = (decide ((n : Int) ≤ 200) && allTo n fun k => inB (intAt xs k) 0 600)) := by show _ = _; rw [← Hl.out]; rfl
  go_enter Try.func128, Try.ntmps128
  cases d1 : decide ((200 : Int) < n)
  case true =>
    have E : Hid (schedB xs = false) := by show _ = _; rw [EV.out, show decide ((n : Int) ≤ 200) = false by simp at d1; simp; omega]; rfl
    go_wp2_with fail
    repeat (refine wp_region_ext0 _ (by kernel_rfl) (by kernel_rfl) ?_; (repeat (go_big_quiet_step (fail))); refine wpQuiet_nil ?_; intro e; go_wp2_with fail)
    go_ret
    exact ⟨by rw [E.out]; rfl, _, rfl⟩
  have EN : Hid (decide ((n : Int) ≤ 200) = true) := by show _ = _; simp at d1; simp; omega
  go_wp2_with fail
  repeat (refine wp_region_ext0 _ (by kernel_rfl) (by kernel_rfl) ?_; (repeat (go_big_quiet_step (fail))); refine wpQuiet_nil ?_; intro e; go_wp2_with fail)
  go_loopw [3] (fun i w' => ∃ k : Nat, k ≤ n ∧ i = .int .i64 k ∧ Hid (allTo k (fun k => inB (intAt xs k) 0 600) = true) ∧ ∃ e : ExtOf w, w' = e.to) (fun i _ => n - (intOf i).toNat)
  case atStart => exact ⟨0, Nat.zero_le _, rfl, allTo_0 _, _, rfl⟩
  case round =>
    obtain ⟨k, hk, rfl, hfk, e, rfl⟩ := hrel
    by_cases hltk : k < n
    · skip
      obtain ⟨b, off, x, bs', rfl, hxk, hp⟩ := T1.elem (s := 1) (fun _ => rfl) hx Hl hltk
      have kx := intE_pt hp
      rw [Nat.mul_one] at kx
      have EK : Hid (inB (intAt xs k) 0 600 = inB x 0 600) := by show _ = _; rw [intAt_of hxk]
      have C1 : Hid (QC Try.prog w _ _ _) := fun W hW => (l00In_any x 0 600 W).q
      cases d2 : inB x 0 600
      case false =>
        (try rw [d2] at C1)
        have E : Hid (schedB xs = false) := by show _ = _; rw [EV.out, allTo_f hltk (by rw [EK.out]; exact d2)]; simp
        go_wp2_with (first | (go_at_call 115; with_reducible refine (C1.out.at_ _).mono ?_; rintro _ _ ⟨rfl, e, rfl⟩))
        repeat (refine wp_region_ext0 _ (by kernel_rfl) (by kernel_rfl) ?_; (repeat (go_big_quiet_step ((first | with_reducible exact C1.out.at_ _)))); refine wpQuiet_nil ?_; intro e; go_wp2_with (first | (go_at_call 115; with_reducible refine (C1.out.at_ _).mono ?_; rintro _ _ ⟨rfl, e, rfl⟩)))
        go_ret
        exact ⟨by rw [E.out]; rfl, _, rfl⟩
      (try rw [d2] at C1)
      have E : Hid (inB (intAt xs k) 0 600 = true) := by show _ = _; rw [EK.out]; exact d2
      go_wp2_with (first | (go_at_call 115; with_reducible refine (C1.out.at_ _).mono ?_; rintro _ _ ⟨rfl, e, rfl⟩))
      repeat (refine wp_region_ext0 _ (by kernel_rfl) (by kernel_rfl) ?_; (repeat (go_big_quiet_step ((first | with_reducible exact C1.out.at_ _)))); refine wpQuiet_nil ?_; intro e; go_wp2_with (first | (go_at_call 115; with_reducible refine (C1.out.at_ _).mono ?_; rintro _ _ ⟨rfl, e, rfl⟩)))
      exact ⟨⟨k+1, by omega, by go_num, allTo_succ hfk E.out, _, rfl⟩, by simp [intOf]; omega⟩
    · have : n = k := by omega
      subst this
      have E : Hid (schedB xs = true) := by show _ = _; rw [EV.out, EN.out, hfk.out]; rfl
      go_wp2_with fail
      repeat (refine wp_region_ext0 _ (by kernel_rfl) (by kernel_rfl) ?_; (repeat (go_big_quiet_step (fail))); refine wpQuiet_nil ?_; intro e; go_wp2_with fail)
      go_ret
      exact ⟨by rw [E.out]; rfl, _, rfl⟩

set_option maxHeartbeats 2000000 in
theorem l40Origin_any (x : GOrigin) (b o : Nat) (bs : List Nat) (tm : Int) (w : World) (h : PtAt w b o x.enc bs) : Calls Try.prog 253 #[.pointer (some ⟨b, o, none⟩), .int .i64 tm] w fun e w' => e = .returned (.bool (origOk x tm)) ∧ Ext w w' := by
  refine quiet_start fun e => ?_
  obtain ⟨h0, h1, h2⟩ := GOrigin.pt h
  have C1 : Hid (QC Try.prog w _ _ _) := fun W hW => (l00In_any x.step 0 tm W).q
  have C2 : Hid (QC Try.prog w _ _ _) := fun W hW => (l00In_any x.def_ (-1) 23 W).q
  have C3 : Hid (QC Try.prog w _ _ _) := fun W hW => (l00In_any x.source (-1) 599 W).q
  go_enter Try.func253, Try.ntmps253
  cases d1 : inB x.step 0 tm
  case false =>
    (try rw [d1] at C1); (try rw [d1] at C2); (try rw [d1] at C3)
    have E : Hid (origOk x tm = false) := by show _ = _; first | (simp only [origOk, d1]; done) | (simp only [origOk, d1]; rfl) | (simp [origOk, d1]; done) | ((try simp at d1); simp [origOk, d1]; done)
    go_wp2_with (first | (go_at_call 115; with_reducible refine (C1.out.at_ _).mono ?_; rintro _ _ ⟨rfl, e, rfl⟩) | (go_at_call 115; with_reducible refine (C2.out.at_ _).mono ?_; rintro _ _ ⟨rfl, e, rfl⟩) | (go_at_call 115; with_reducible refine (C3.out.at_ _).mono ?_; rintro _ _ ⟨rfl, e, rfl⟩))
    repeat (refine wp_region_ext0 _ (by kernel_rfl) (by kernel_rfl) ?_; (repeat (go_big_quiet_step ((first | with_reducible exact C1.out.at_ _ | with_reducible exact C2.out.at_ _ | with_reducible exact C3.out.at_ _)))); refine wpQuiet_nil ?_; intro e; go_wp2_with (first | (go_at_call 115; with_reducible refine (C1.out.at_ _).mono ?_; rintro _ _ ⟨rfl, e, rfl⟩) | (go_at_call 115; with_reducible refine (C2.out.at_ _).mono ?_; rintro _ _ ⟨rfl, e, rfl⟩) | (go_at_call 115; with_reducible refine (C3.out.at_ _).mono ?_; rintro _ _ ⟨rfl, e, rfl⟩)))
    go_ret
    exact ⟨by rw [E.out]; rfl, _, rfl⟩
  (try rw [d1] at C1); (try rw [d1] at C2); (try rw [d1] at C3)
  cases d2 : inB x.def_ (-1) 23
  case false =>
    (try rw [d2] at C1); (try rw [d2] at C2); (try rw [d2] at C3)
    have E : Hid (origOk x tm = false) := by show _ = _; first | (simp only [origOk, d1, d2]; done) | (simp only [origOk, d1, d2]; rfl) | (simp [origOk, d1, d2]; done) | ((try simp at d1); (try simp at d2); simp [origOk, d1, d2]; done)
    go_wp2_with (first | (go_at_call 115; with_reducible refine (C1.out.at_ _).mono ?_; rintro _ _ ⟨rfl, e, rfl⟩) | (go_at_call 115; with_reducible refine (C2.out.at_ _).mono ?_; rintro _ _ ⟨rfl, e, rfl⟩) | (go_at_call 115; with_reducible refine (C3.out.at_ _).mono ?_; rintro _ _ ⟨rfl, e, rfl⟩))
    repeat (refine wp_region_ext0 _ (by kernel_rfl) (by kernel_rfl) ?_; (repeat (go_big_quiet_step ((first | with_reducible exact C1.out.at_ _ | with_reducible exact C2.out.at_ _ | with_reducible exact C3.out.at_ _)))); refine wpQuiet_nil ?_; intro e; go_wp2_with (first | (go_at_call 115; with_reducible refine (C1.out.at_ _).mono ?_; rintro _ _ ⟨rfl, e, rfl⟩) | (go_at_call 115; with_reducible refine (C2.out.at_ _).mono ?_; rintro _ _ ⟨rfl, e, rfl⟩) | (go_at_call 115; with_reducible refine (C3.out.at_ _).mono ?_; rintro _ _ ⟨rfl, e, rfl⟩)))
    go_ret
    exact ⟨by rw [E.out]; rfl, _, rfl⟩
  (try rw [d2] at C1); (try rw [d2] at C2); (try rw [d2] at C3)
  cases d3 : inB x.source (-1) 599
  case false =>
    (try rw [d3] at C1); (try rw [d3] at C2); (try rw [d3] at C3)
    have E : Hid (origOk x tm = false) := by show _ = _; first | (simp only [origOk, d1, d2, d3]; done) | (simp only [origOk, d1, d2, d3]; rfl) | (simp [origOk, d1, d2, d3]; done) | ((try simp at d1); (try simp at d2); (try simp at d3); simp [origOk, d1, d2, d3]; done)
    go_wp2_with (first | (go_at_call 115; with_reducible refine (C1.out.at_ _).mono ?_; rintro _ _ ⟨rfl, e, rfl⟩) | (go_at_call 115; with_reducible refine (C2.out.at_ _).mono ?_; rintro _ _ ⟨rfl, e, rfl⟩) | (go_at_call 115; with_reducible refine (C3.out.at_ _).mono ?_; rintro _ _ ⟨rfl, e, rfl⟩))
    repeat (refine wp_region_ext0 _ (by kernel_rfl) (by kernel_rfl) ?_; (repeat (go_big_quiet_step ((first | with_reducible exact C1.out.at_ _ | with_reducible exact C2.out.at_ _ | with_reducible exact C3.out.at_ _)))); refine wpQuiet_nil ?_; intro e; go_wp2_with (first | (go_at_call 115; with_reducible refine (C1.out.at_ _).mono ?_; rintro _ _ ⟨rfl, e, rfl⟩) | (go_at_call 115; with_reducible refine (C2.out.at_ _).mono ?_; rintro _ _ ⟨rfl, e, rfl⟩) | (go_at_call 115; with_reducible refine (C3.out.at_ _).mono ?_; rintro _ _ ⟨rfl, e, rfl⟩)))
    go_ret
    exact ⟨by rw [E.out]; rfl, _, rfl⟩
  (try rw [d3] at C1); (try rw [d3] at C2); (try rw [d3] at C3)
  cases d4 : decide (0 ≤ x.source)
  case true =>
    (try rw [d4] at C1); (try rw [d4] at C2); (try rw [d4] at C3)
    have E : Hid (origOk x tm = true) := by show _ = _; first | (simp only [origOk, d1, d2, d3, d4]; done) | (simp only [origOk, d1, d2, d3, d4]; rfl) | (simp [origOk, d1, d2, d3, d4]; done) | ((try simp at d1); (try simp at d2); (try simp at d3); (try simp at d4); simp [origOk, d1, d2, d3, d4]; done)
    go_wp2_with (first | (go_at_call 115; with_reducible refine (C1.out.at_ _).mono ?_; rintro _ _ ⟨rfl, e, rfl⟩) | (go_at_call 115; with_reducible refine (C2.out.at_ _).mono ?_; rintro _ _ ⟨rfl, e, rfl⟩) | (go_at_call 115; with_reducible refine (C3.out.at_ _).mono ?_; rintro _ _ ⟨rfl, e, rfl⟩))
    repeat (refine wp_region_ext0 _ (by kernel_rfl) (by kernel_rfl) ?_; (repeat (go_big_quiet_step ((first | with_reducible exact C1.out.at_ _ | with_reducible exact C2.out.at_ _ | with_reducible exact C3.out.at_ _)))); refine wpQuiet_nil ?_; intro e; go_wp2_with (first | (go_at_call 115; with_reducible refine (C1.out.at_ _).mono ?_; rintro _ _ ⟨rfl, e, rfl⟩) | (go_at_call 115; with_reducible refine (C2.out.at_ _).mono ?_; rintro _ _ ⟨rfl, e, rfl⟩) | (go_at_call 115; with_reducible refine (C3.out.at_ _).mono ?_; rintro _ _ ⟨rfl, e, rfl⟩)))
    go_ret
    exact ⟨by rw [E.out]; rfl, _, rfl⟩
  (try rw [d4] at C1); (try rw [d4] at C2); (try rw [d4] at C3)
  have E : Hid (origOk x tm = decide (x.def_ < 0)) := by show _ = _; first | (simp only [origOk, d1, d2, d3, d4]; done) | (simp only [origOk, d1, d2, d3, d4]; rfl) | (simp [origOk, d1, d2, d3, d4]; done) | ((try simp at d1); (try simp at d2); (try simp at d3); (try simp at d4); simp [origOk, d1, d2, d3, d4]; done)
  go_wp2_with (first | (go_at_call 115; with_reducible refine (C1.out.at_ _).mono ?_; rintro _ _ ⟨rfl, e, rfl⟩) | (go_at_call 115; with_reducible refine (C2.out.at_ _).mono ?_; rintro _ _ ⟨rfl, e, rfl⟩) | (go_at_call 115; with_reducible refine (C3.out.at_ _).mono ?_; rintro _ _ ⟨rfl, e, rfl⟩))
  repeat (refine wp_region_ext0 _ (by kernel_rfl) (by kernel_rfl) ?_; (repeat (go_big_quiet_step ((first | with_reducible exact C1.out.at_ _ | with_reducible exact C2.out.at_ _ | with_reducible exact C3.out.at_ _)))); refine wpQuiet_nil ?_; intro e; go_wp2_with (first | (go_at_call 115; with_reducible refine (C1.out.at_ _).mono ?_; rintro _ _ ⟨rfl, e, rfl⟩) | (go_at_call 115; with_reducible refine (C2.out.at_ _).mono ?_; rintro _ _ ⟨rfl, e, rfl⟩) | (go_at_call 115; with_reducible refine (C3.out.at_ _).mono ?_; rintro _ _ ⟨rfl, e, rfl⟩)))
  go_ret
  exact ⟨by rw [E.out]; rfl, _, rfl⟩

set_option maxHeartbeats 2000000 in
theorem l40Break_any (x : GBreak) (b o : Nat) (bs : List Nat) (w : World) (h : PtAt w b o x.enc bs) : Calls Try.prog 209 #[.pointer (some ⟨b, o, none⟩)] w fun e w' => e = .returned (.bool (brkOk x)) ∧ Ext w w' := by
  refine quiet_start fun e => ?_
  obtain ⟨h0, h1⟩ := GBreak.pt h
  have C1 : Hid (QC Try.prog w _ _ _) := fun W hW => (l00In_any x.value 1 8 W).q
  have C2 : Hid (QC Try.prog w _ _ _) := fun W hW => (l00In_any x.value 0 23 W).q
  have C3 : Hid (QC Try.prog w _ _ _) := fun W hW => (l00In_any x.value 1 600 W).q
  go_enter Try.func209, Try.ntmps209
  cases d1 : (x.kind == 1)
  case true =>
    (try rw [d1] at C1); (try rw [d1] at C2); (try rw [d1] at C3)
    have E : Hid (brkOk x = inB x.value 1 8) := by show _ = _; first | (simp only [brkOk, d1]; done) | (simp only [brkOk, d1]; rfl) | (simp [brkOk, d1]; done) | ((try simp at d1); simp [brkOk, d1]; done)
    go_wp2_with (first | (go_at_call 115; with_reducible refine (C1.out.at_ _).mono ?_; rintro _ _ ⟨rfl, e, rfl⟩) | (go_at_call 115; with_reducible refine (C2.out.at_ _).mono ?_; rintro _ _ ⟨rfl, e, rfl⟩) | (go_at_call 115; with_reducible refine (C3.out.at_ _).mono ?_; rintro _ _ ⟨rfl, e, rfl⟩))
    repeat (refine wp_region_ext0 _ (by kernel_rfl) (by kernel_rfl) ?_; (repeat (go_big_quiet_step ((first | with_reducible exact C1.out.at_ _ | with_reducible exact C2.out.at_ _ | with_reducible exact C3.out.at_ _)))); refine wpQuiet_nil ?_; intro e; go_wp2_with (first | (go_at_call 115; with_reducible refine (C1.out.at_ _).mono ?_; rintro _ _ ⟨rfl, e, rfl⟩) | (go_at_call 115; with_reducible refine (C2.out.at_ _).mono ?_; rintro _ _ ⟨rfl, e, rfl⟩) | (go_at_call 115; with_reducible refine (C3.out.at_ _).mono ?_; rintro _ _ ⟨rfl, e, rfl⟩)))
    go_ret
    exact ⟨by rw [E.out]; rfl, _, rfl⟩
  (try rw [d1] at C1); (try rw [d1] at C2); (try rw [d1] at C3)
  cases d2 : (x.kind == 2)
  case true =>
    (try rw [d2] at C1); (try rw [d2] at C2); (try rw [d2] at C3)
    have E : Hid (brkOk x = inB x.value 0 23) := by show _ = _; first | (simp only [brkOk, d1, d2]; done) | (simp only [brkOk, d1, d2]; rfl) | (simp [brkOk, d1, d2]; done) | ((try simp at d1); (try simp at d2); simp [brkOk, d1, d2]; done)
    go_wp2_with (first | (go_at_call 115; with_reducible refine (C1.out.at_ _).mono ?_; rintro _ _ ⟨rfl, e, rfl⟩) | (go_at_call 115; with_reducible refine (C2.out.at_ _).mono ?_; rintro _ _ ⟨rfl, e, rfl⟩) | (go_at_call 115; with_reducible refine (C3.out.at_ _).mono ?_; rintro _ _ ⟨rfl, e, rfl⟩))
    repeat (refine wp_region_ext0 _ (by kernel_rfl) (by kernel_rfl) ?_; (repeat (go_big_quiet_step ((first | with_reducible exact C1.out.at_ _ | with_reducible exact C2.out.at_ _ | with_reducible exact C3.out.at_ _)))); refine wpQuiet_nil ?_; intro e; go_wp2_with (first | (go_at_call 115; with_reducible refine (C1.out.at_ _).mono ?_; rintro _ _ ⟨rfl, e, rfl⟩) | (go_at_call 115; with_reducible refine (C2.out.at_ _).mono ?_; rintro _ _ ⟨rfl, e, rfl⟩) | (go_at_call 115; with_reducible refine (C3.out.at_ _).mono ?_; rintro _ _ ⟨rfl, e, rfl⟩)))
    go_ret
    exact ⟨by rw [E.out]; rfl, _, rfl⟩
  (try rw [d2] at C1); (try rw [d2] at C2); (try rw [d2] at C3)
  cases d3 : (x.kind == 3)
  case true =>
    (try rw [d3] at C1); (try rw [d3] at C2); (try rw [d3] at C3)
    have E : Hid (brkOk x = inB x.value 1 600) := by show _ = _; first | (simp only [brkOk, d1, d2, d3]; done) | (simp only [brkOk, d1, d2, d3]; rfl) | (simp [brkOk, d1, d2, d3]; done) | ((try simp at d1); (try simp at d2); (try simp at d3); simp [brkOk, d1, d2, d3]; done)
    go_wp2_with (first | (go_at_call 115; with_reducible refine (C1.out.at_ _).mono ?_; rintro _ _ ⟨rfl, e, rfl⟩) | (go_at_call 115; with_reducible refine (C2.out.at_ _).mono ?_; rintro _ _ ⟨rfl, e, rfl⟩) | (go_at_call 115; with_reducible refine (C3.out.at_ _).mono ?_; rintro _ _ ⟨rfl, e, rfl⟩))
    repeat (refine wp_region_ext0 _ (by kernel_rfl) (by kernel_rfl) ?_; (repeat (go_big_quiet_step ((first | with_reducible exact C1.out.at_ _ | with_reducible exact C2.out.at_ _ | with_reducible exact C3.out.at_ _)))); refine wpQuiet_nil ?_; intro e; go_wp2_with (first | (go_at_call 115; with_reducible refine (C1.out.at_ _).mono ?_; rintro _ _ ⟨rfl, e, rfl⟩) | (go_at_call 115; with_reducible refine (C2.out.at_ _).mono ?_; rintro _ _ ⟨rfl, e, rfl⟩) | (go_at_call 115; with_reducible refine (C3.out.at_ _).mono ?_; rintro _ _ ⟨rfl, e, rfl⟩)))
    go_ret
    exact ⟨by rw [E.out]; rfl, _, rfl⟩
  (try rw [d3] at C1); (try rw [d3] at C2); (try rw [d3] at C3)
  have E : Hid (brkOk x = false) := by show _ = _; first | (simp only [brkOk, d1, d2, d3]; done) | (simp only [brkOk, d1, d2, d3]; rfl) | (simp [brkOk, d1, d2, d3]; done) | ((try simp at d1); (try simp at d2); (try simp at d3); simp [brkOk, d1, d2, d3]; done)
  go_wp2_with (first | (go_at_call 115; with_reducible refine (C1.out.at_ _).mono ?_; rintro _ _ ⟨rfl, e, rfl⟩) | (go_at_call 115; with_reducible refine (C2.out.at_ _).mono ?_; rintro _ _ ⟨rfl, e, rfl⟩) | (go_at_call 115; with_reducible refine (C3.out.at_ _).mono ?_; rintro _ _ ⟨rfl, e, rfl⟩))
  repeat (refine wp_region_ext0 _ (by kernel_rfl) (by kernel_rfl) ?_; (repeat (go_big_quiet_step ((first | with_reducible exact C1.out.at_ _ | with_reducible exact C2.out.at_ _ | with_reducible exact C3.out.at_ _)))); refine wpQuiet_nil ?_; intro e; go_wp2_with (first | (go_at_call 115; with_reducible refine (C1.out.at_ _).mono ?_; rintro _ _ ⟨rfl, e, rfl⟩) | (go_at_call 115; with_reducible refine (C2.out.at_ _).mono ?_; rintro _ _ ⟨rfl, e, rfl⟩) | (go_at_call 115; with_reducible refine (C3.out.at_ _).mono ?_; rintro _ _ ⟨rfl, e, rfl⟩)))
  go_ret
  exact ⟨by rw [E.out]; rfl, _, rfl⟩

set_option maxHeartbeats 2000000 in
theorem l40Origins_any (N : GNet) (nb no : Nat) (nbs : List Nat) (xs : List GOrigin) (n : Nat) {A : Option Addr} {c : Nat} {bs : List Nat} (tm : Int) (w : World) (hN : PtAt w nb no N.enc nbs) (hx : T1 w (.sl n (xs.flatMap GOrigin.enc)) bs (.slice A n c)) (Hl : Hid (xs.length = n)) : Calls Try.prog 208 #[.pointer (some ⟨nb, no, none⟩), .slice A n c, .int .i64 tm] w fun e w' => e = .returned (.bool (keptB N xs tm)) ∧ Ext w w' := by
  refine quiet_start fun e => ?_
  obtain ⟨A0, c0, b0, h0, t0⟩ := GNet.pt hN
  have hn := hx.nle
  have EV : Hid (keptB N xs tm = (netB N && ((n : Int) == (N.agents.length : Int)) && allTo n fun k => origOk (originAt xs k) tm)) := by show _ = _; rw [← Hl.out]; rfl
  have C1 : Hid (QC Try.prog w _ _ _) := fun W hW => l11Ok_any N nb no _ W (hN.ext hW)
  go_enter Try.func208, Try.ntmps208
  cases d1 : netB N
  case false =>
    (try rw [d1] at C1)
    have E : Hid (keptB N xs tm = false) := by show _ = _; rw [EV.out, d1]; rfl
    go_wp2_with (first | (go_at_call 252; with_reducible refine (C1.out.at_ _).mono ?_; rintro _ _ ⟨rfl, e, rfl⟩))
    repeat (refine wp_region_ext0 _ (by kernel_rfl) (by kernel_rfl) ?_; (repeat (go_big_quiet_step ((first | with_reducible exact C1.out.at_ _)))); refine wpQuiet_nil ?_; intro e; go_wp2_with (first | (go_at_call 252; with_reducible refine (C1.out.at_ _).mono ?_; rintro _ _ ⟨rfl, e, rfl⟩)))
    go_ret
    exact ⟨by rw [E.out]; rfl, _, rfl⟩
  (try rw [d1] at C1)
  by_cases hl : n = N.agents.length
  case neg =>
    have hb1 : ((n : Int) != (N.agents.length : Int)) = true := by rw [bne_iff_ne]; omega
    have hb2 : (n != N.agents.length) = true := by simpa using hl
    have hb3 : decide (n = N.agents.length) = false := by simpa using hl
    have E : Hid (keptB N xs tm = false) := by show _ = _; rw [EV.out, d1, show (((n : Int) == (N.agents.length : Int)) = false) by rw [beq_eq_false_iff_ne]; omega]; rfl
    go_wp2_with (first | (go_at_call 252; with_reducible refine (C1.out.at_ _).mono ?_; rintro _ _ ⟨rfl, e, rfl⟩))
    repeat (refine wp_region_ext0 _ (by kernel_rfl) (by kernel_rfl) ?_; (repeat (go_big_quiet_step ((first | with_reducible exact C1.out.at_ _)))); refine wpQuiet_nil ?_; intro e; go_wp2_with (first | (go_at_call 252; with_reducible refine (C1.out.at_ _).mono ?_; rintro _ _ ⟨rfl, e, rfl⟩)))
    go_ret
    exact ⟨by rw [E.out]; rfl, _, rfl⟩
  have EN : Hid (((n : Int) == (N.agents.length : Int)) = true) := by show _ = _; rw [beq_iff_eq]; omega
  subst hl
  go_wp2_with (first | (go_at_call 252; with_reducible refine (C1.out.at_ _).mono ?_; rintro _ _ ⟨rfl, e, rfl⟩))
  repeat (refine wp_region_ext0 _ (by kernel_rfl) (by kernel_rfl) ?_; (repeat (go_big_quiet_step ((first | with_reducible exact C1.out.at_ _)))); refine wpQuiet_nil ?_; intro e; go_wp2_with (first | (go_at_call 252; with_reducible refine (C1.out.at_ _).mono ?_; rintro _ _ ⟨rfl, e, rfl⟩)))
  go_loopw [7] (fun i w' => ∃ k : Nat, k ≤ N.agents.length ∧ i = .int .i64 k ∧ Hid (allTo k (fun k => origOk (originAt xs k) tm) = true) ∧ ∃ e : ExtOf w, w' = e.to) (fun i _ => N.agents.length - (intOf i).toNat)
  case atStart => exact ⟨0, Nat.zero_le _, rfl, allTo_0 _, _, rfl⟩
  case round =>
    obtain ⟨k, hk, rfl, hfk, e, rfl⟩ := hrel
    by_cases hltk : k < N.agents.length
    · skip
      obtain ⟨b, off, x, bs', rfl, hxk, hp⟩ := T1.elem GOrigin.enc_len hx Hl hltk
      have EK : Hid (origOk (originAt xs k) tm = origOk x tm) := by show _ = _; rw [originAt_of hxk]
      have C2 : Hid (QC Try.prog w _ _ _) := fun W hW => l40Origin_any x b (off + k * 3) _ tm W (hp.ext hW)
      cases d2 : origOk x tm
      case false =>
        (try rw [d2] at C1); (try rw [d2] at C2)
        have E : Hid (keptB N xs tm = false) := by show _ = _; rw [EV.out, allTo_f hltk (by rw [EK.out]; exact d2)]; simp
        go_wp2_with (first | (go_at_call 252; with_reducible refine (C1.out.at_ _).mono ?_; rintro _ _ ⟨rfl, e, rfl⟩) | (go_at_call 253; with_reducible refine (C2.out.at_ _).mono ?_; rintro _ _ ⟨rfl, e, rfl⟩))
        repeat (refine wp_region_ext0 _ (by kernel_rfl) (by kernel_rfl) ?_; (repeat (go_big_quiet_step ((first | with_reducible exact C1.out.at_ _ | with_reducible exact C2.out.at_ _)))); refine wpQuiet_nil ?_; intro e; go_wp2_with (first | (go_at_call 252; with_reducible refine (C1.out.at_ _).mono ?_; rintro _ _ ⟨rfl, e, rfl⟩) | (go_at_call 253; with_reducible refine (C2.out.at_ _).mono ?_; rintro _ _ ⟨rfl, e, rfl⟩)))
        go_ret
        exact ⟨by rw [E.out]; rfl, _, rfl⟩
      (try rw [d2] at C1); (try rw [d2] at C2)
      have E : Hid (origOk (originAt xs k) tm = true) := by show _ = _; rw [EK.out]; exact d2
      go_wp2_with (first | (go_at_call 252; with_reducible refine (C1.out.at_ _).mono ?_; rintro _ _ ⟨rfl, e, rfl⟩) | (go_at_call 253; with_reducible refine (C2.out.at_ _).mono ?_; rintro _ _ ⟨rfl, e, rfl⟩))
      repeat (refine wp_region_ext0 _ (by kernel_rfl) (by kernel_rfl) ?_; (repeat (go_big_quiet_step ((first | with_reducible exact C1.out.at_ _ | with_reducible exact C2.out.at_ _)))); refine wpQuiet_nil ?_; intro e; go_wp2_with (first | (go_at_call 252; with_reducible refine (C1.out.at_ _).mono ?_; rintro _ _ ⟨rfl, e, rfl⟩) | (go_at_call 253; with_reducible refine (C2.out.at_ _).mono ?_; rintro _ _ ⟨rfl, e, rfl⟩)))
      exact ⟨⟨k+1, by omega, by go_num, allTo_succ hfk E.out, _, rfl⟩, by simp [intOf]; omega⟩
    · have : N.agents.length = k := by omega
      subst this
      have E : Hid (keptB N xs tm = true) := by show _ = _; rw [EV.out, EN.out, hfk.out, d1]; rfl
      go_wp2_with (first | (go_at_call 252; with_reducible refine (C1.out.at_ _).mono ?_; rintro _ _ ⟨rfl, e, rfl⟩))
      repeat (refine wp_region_ext0 _ (by kernel_rfl) (by kernel_rfl) ?_; (repeat (go_big_quiet_step ((first | with_reducible exact C1.out.at_ _)))); refine wpQuiet_nil ?_; intro e; go_wp2_with (first | (go_at_call 252; with_reducible refine (C1.out.at_ _).mono ?_; rintro _ _ ⟨rfl, e, rfl⟩)))
      go_ret
      exact ⟨by rw [E.out]; rfl, _, rfl⟩
end Go.Proofs.Ytmmdkchhahnenaa
