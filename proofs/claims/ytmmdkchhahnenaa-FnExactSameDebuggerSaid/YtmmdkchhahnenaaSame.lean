/- Comparisons of nets and debuggers, the program's and the reference's. Printed by gen_same.py. -/
import Derived.Test.YtmmdkchhahnenaaProg
import Derived.Test.YtmmdkchhahnenaaPDbg
import Derived.Test.YtmmdkchhahnenaaQDbg
import Derived.BigGuardPart
import Derived.Deep.CutBlock
namespace Go.Proofs.Ytmmdkchhahnenaa
open Go Go.RowKit Go.Proofs Go.Tr

set_option maxHeartbeats 2000000 in
theorem l00Same_any (xs ys : List Int) (n m : Nat) {A B : Option Addr} {c d : Nat} {b1 b2 : List Nat} (w : World) (hx : T1 w (.sl n (xs.flatMap intE)) b1 (.slice A n c)) (hy : T1 w (.sl m (ys.flatMap intE)) b2 (.slice B m d)) (Hx : Hid (xs.length = n)) (Hy : Hid (ys.length = m)) : Calls Try.prog 77 #[.slice A n c, .slice B m d] w fun e w' => e = .returned (.bool (eqb xs ys)) ∧ Ext w w' := by
  refine quiet_start fun e => ?_
  have hn := hx.nle
  have hm := hy.nle
  by_cases hnm : n = m
  · subst hnm
    go_enter Try.func77, Try.ntmps77
    go_wp2_with fail
    repeat (refine wp_region_ext0 _ (by kernel_rfl) (by kernel_rfl) ?_; (repeat (go_big_quiet_step (fail))); refine wpQuiet_nil ?_; intro e; go_wp2_with fail)
    go_loopw [5] (fun i w' => ∃ k : Nat, k ≤ n ∧ i = .int .i64 k ∧ Hid (xs.take k = ys.take k) ∧ ∃ e : ExtOf w, w' = e.to) (fun i _ => n - (intOf i).toNat)
    case atStart => exact ⟨0, Nat.zero_le _, rfl, rfl, _, rfl⟩
    case round =>
      obtain ⟨k, hk, rfl, hf, e, rfl⟩ := hrel
      by_cases hlt : k < n
      · skip
        obtain ⟨bx, ox, x, px, rfl, hxk, hpx⟩ := T1.elem (s := 1) (fun _ => rfl) hx Hx hlt
        obtain ⟨by_, oy, y, py, rfl, hyk, hpy⟩ := T1.elem (s := 1) (fun _ => rfl) hy Hy hlt
        have kx := intE_pt hpx
        have ky := intE_pt hpy
        rw [Nat.mul_one] at kx ky
        cases d1 : (x != y)
        case true =>
          have E : Hid (eqb xs ys = false) := by show _ = _; exact eqb_f (ne_at hxk hyk (by rintro rfl; simp at d1))
          go_wp2_with fail
          repeat (refine wp_region_ext0 _ (by kernel_rfl) (by kernel_rfl) ?_; (repeat (go_big_quiet_step (fail))); refine wpQuiet_nil ?_; intro e; go_wp2_with fail)
          go_ret
          exact ⟨by rw [E.out]; rfl, _, rfl⟩
        go_wp2_with fail
        repeat (refine wp_region_ext0 _ (by kernel_rfl) (by kernel_rfl) ?_; (repeat (go_big_quiet_step (fail))); refine wpQuiet_nil ?_; intro e; go_wp2_with fail)
        exact ⟨⟨k+1, by omega, by go_num, take_eq_snoc hf hxk hyk (by simpa using d1), _, rfl⟩, by simp [intOf]; omega⟩
      · have : k = n := by omega
        subst this
        have E : Hid (eqb xs ys = true) := by show _ = _; exact eqb_of (take_eq_all hf Hx Hy)
        go_wp2_with fail
        repeat (refine wp_region_ext0 _ (by kernel_rfl) (by kernel_rfl) ?_; (repeat (go_big_quiet_step (fail))); refine wpQuiet_nil ?_; intro e; go_wp2_with fail)
        go_ret
        exact ⟨by rw [E.out]; rfl, _, rfl⟩
  · go_enter Try.func77, Try.ntmps77
    have E : Hid (eqb xs ys = false) := by show _ = _; exact eqb_f (ne_len Hx Hy hnm)
    go_wp2_with fail
    repeat (refine wp_region_ext0 _ (by kernel_rfl) (by kernel_rfl) ?_; (repeat (go_big_quiet_step (fail))); refine wpQuiet_nil ?_; intro e; go_wp2_with fail)
    go_ret
    exact ⟨by rw [E.out]; rfl, _, rfl⟩

set_option maxHeartbeats 2000000 in
theorem equalInts_any (xs ys : List Int) (n m : Nat) {A B : Option Addr} {c d : Nat} {b1 b2 : List Nat} (w : World) (hx : T1 w (.sl n (xs.flatMap intE)) b1 (.slice A n c)) (hy : T1 w (.sl m (ys.flatMap intE)) b2 (.slice B m d)) (Hx : Hid (xs.length = n)) (Hy : Hid (ys.length = m)) : Calls Try.prog 87 #[.slice A n c, .slice B m d] w fun e w' => e = .returned (.bool (eqb xs ys)) ∧ Ext w w' := by
  refine quiet_start fun e => ?_
  have hn := hx.nle
  have hm := hy.nle
  by_cases hnm : n = m
  · subst hnm
    go_enter Try.func87, Try.ntmps87
    go_wp2_with fail
    repeat (refine wp_region_ext0 _ (by kernel_rfl) (by kernel_rfl) ?_; (repeat (go_big_quiet_step (fail))); refine wpQuiet_nil ?_; intro e; go_wp2_with fail)
    go_loopw [5,13] (fun _ i w' => ∃ k : Nat, k ≤ n ∧ i = .int .i64 k ∧ Hid (xs.take k = ys.take k) ∧ ∃ e : ExtOf w, w' = e.to) (fun _ i _ => n - (intOf i).toNat)
    case atStart => exact ⟨0, Nat.zero_le _, rfl, rfl, _, rfl⟩
    case round =>
      obtain ⟨k, hk, rfl, hf, e, rfl⟩ := hrel
      by_cases hlt : k < n
      · skip
        obtain ⟨bx, ox, x, px, rfl, hxk, hpx⟩ := T1.elem (s := 1) (fun _ => rfl) hx Hx hlt
        obtain ⟨by_, oy, y, py, rfl, hyk, hpy⟩ := T1.elem (s := 1) (fun _ => rfl) hy Hy hlt
        have kx := intE_pt hpx
        have ky := intE_pt hpy
        rw [Nat.mul_one] at kx ky
        cases d1 : (x != y)
        case true =>
          have E : Hid (eqb xs ys = false) := by show _ = _; exact eqb_f (ne_at hxk hyk (by rintro rfl; simp at d1))
          go_wp2_with fail
          repeat (refine wp_region_ext0 _ (by kernel_rfl) (by kernel_rfl) ?_; (repeat (go_big_quiet_step (fail))); refine wpQuiet_nil ?_; intro e; go_wp2_with fail)
          go_ret
          exact ⟨by rw [E.out]; rfl, _, rfl⟩
        go_wp2_with fail
        repeat (refine wp_region_ext0 _ (by kernel_rfl) (by kernel_rfl) ?_; (repeat (go_big_quiet_step (fail))); refine wpQuiet_nil ?_; intro e; go_wp2_with fail)
        exact ⟨⟨k+1, by omega, by go_num, take_eq_snoc hf hxk hyk (by simpa using d1), _, rfl⟩, by simp [intOf]; omega⟩
      · have : k = n := by omega
        subst this
        have E : Hid (eqb xs ys = true) := by show _ = _; exact eqb_of (take_eq_all hf Hx Hy)
        go_wp2_with fail
        repeat (refine wp_region_ext0 _ (by kernel_rfl) (by kernel_rfl) ?_; (repeat (go_big_quiet_step (fail))); refine wpQuiet_nil ?_; intro e; go_wp2_with fail)
        go_ret
        exact ⟨by rw [E.out]; rfl, _, rfl⟩
  · go_enter Try.func87, Try.ntmps87
    have E : Hid (eqb xs ys = false) := by show _ = _; exact eqb_f (ne_len Hx Hy hnm)
    go_wp2_with fail
    repeat (refine wp_region_ext0 _ (by kernel_rfl) (by kernel_rfl) ?_; (repeat (go_big_quiet_step (fail))); refine wpQuiet_nil ?_; intro e; go_wp2_with fail)
    go_ret
    exact ⟨by rw [E.out]; rfl, _, rfl⟩

set_option maxHeartbeats 2000000 in
theorem equalPorts_any (xs ys : List GPort) (n m : Nat) {A B : Option Addr} {c d : Nat} {b1 b2 : List Nat} (w : World) (hx : T1 w (.sl n (xs.flatMap GPort.enc)) b1 (.slice A n c)) (hy : T1 w (.sl m (ys.flatMap GPort.enc)) b2 (.slice B m d)) (Hx : Hid (xs.length = n)) (Hy : Hid (ys.length = m)) : Calls Try.prog 238 #[.slice A n c, .slice B m d] w fun e w' => e = .returned (.bool (eqb xs ys)) ∧ Ext w w' := by
  refine quiet_start fun e => ?_
  have hn := hx.nle
  have hm := hy.nle
  by_cases hnm : n = m
  · subst hnm
    go_enter Try.func238, Try.ntmps238
    go_wp2_with fail
    repeat (refine wp_region_ext0 _ (by kernel_rfl) (by kernel_rfl) ?_; (repeat (go_big_quiet_step (fail))); refine wpQuiet_nil ?_; intro e; go_wp2_with fail)
    go_loopw [5,13] (fun _ i w' => ∃ k : Nat, k ≤ n ∧ i = .int .i64 k ∧ Hid (xs.take k = ys.take k) ∧ ∃ e : ExtOf w, w' = e.to) (fun _ i _ => n - (intOf i).toNat)
    case atStart => exact ⟨0, Nat.zero_le _, rfl, rfl, _, rfl⟩
    case round =>
      obtain ⟨k, hk, rfl, hf, e, rfl⟩ := hrel
      by_cases hlt : k < n
      · skip
        obtain ⟨bx, ox, x, px, rfl, hxk, hpx⟩ := T1.elem GPort.enc_len hx Hx hlt
        obtain ⟨by_, oy, y, py, rfl, hyk, hpy⟩ := T1.elem GPort.enc_len hy Hy hlt
        obtain ⟨kx0, kx1⟩ := GPort.pt hpx
        obtain ⟨ky0, ky1⟩ := GPort.pt hpy
        have hg := portG
        have hne := fun W => portNeq W x y
        cases d1 : eqb x y
        case false =>
          have E : Hid (eqb xs ys = false) := by show _ = _; exact eqb_f (ne_at hxk hyk (eqb_nf d1))
          go_wp2_with fail
          repeat (refine wp_region_ext0 _ (by kernel_rfl) (by kernel_rfl) ?_; (repeat (go_big_quiet_step (fail))); refine wpQuiet_nil ?_; intro e; go_wp2_with fail)
          go_ret
          exact ⟨by rw [E.out]; rfl, _, rfl⟩
        go_wp2_with fail
        repeat (refine wp_region_ext0 _ (by kernel_rfl) (by kernel_rfl) ?_; (repeat (go_big_quiet_step (fail))); refine wpQuiet_nil ?_; intro e; go_wp2_with fail)
        exact ⟨⟨k+1, by omega, by go_num, take_eq_snoc hf hxk hyk (eqb_t d1), _, rfl⟩, by simp [intOf]; omega⟩
      · have : k = n := by omega
        subst this
        have E : Hid (eqb xs ys = true) := by show _ = _; exact eqb_of (take_eq_all hf Hx Hy)
        go_wp2_with fail
        repeat (refine wp_region_ext0 _ (by kernel_rfl) (by kernel_rfl) ?_; (repeat (go_big_quiet_step (fail))); refine wpQuiet_nil ?_; intro e; go_wp2_with fail)
        go_ret
        exact ⟨by rw [E.out]; rfl, _, rfl⟩
  · go_enter Try.func238, Try.ntmps238
    have E : Hid (eqb xs ys = false) := by show _ = _; exact eqb_f (ne_len Hx Hy hnm)
    go_wp2_with fail
    repeat (refine wp_region_ext0 _ (by kernel_rfl) (by kernel_rfl) ?_; (repeat (go_big_quiet_step (fail))); refine wpQuiet_nil ?_; intro e; go_wp2_with fail)
    go_ret
    exact ⟨by rw [E.out]; rfl, _, rfl⟩

set_option maxHeartbeats 2000000 in
theorem equalOrigins_any (xs ys : List GOrigin) (n m : Nat) {A B : Option Addr} {c d : Nat} {b1 b2 : List Nat} (w : World) (hx : T1 w (.sl n (xs.flatMap GOrigin.enc)) b1 (.slice A n c)) (hy : T1 w (.sl m (ys.flatMap GOrigin.enc)) b2 (.slice B m d)) (Hx : Hid (xs.length = n)) (Hy : Hid (ys.length = m)) : Calls Try.prog 88 #[.slice A n c, .slice B m d] w fun e w' => e = .returned (.bool (eqb xs ys)) ∧ Ext w w' := by
  refine quiet_start fun e => ?_
  have hn := hx.nle
  have hm := hy.nle
  by_cases hnm : n = m
  · subst hnm
    go_enter Try.func88, Try.ntmps88
    go_wp2_with fail
    repeat (refine wp_region_ext0 _ (by kernel_rfl) (by kernel_rfl) ?_; (repeat (go_big_quiet_step (fail))); refine wpQuiet_nil ?_; intro e; go_wp2_with fail)
    go_loopw [5,13] (fun _ i w' => ∃ k : Nat, k ≤ n ∧ i = .int .i64 k ∧ Hid (xs.take k = ys.take k) ∧ ∃ e : ExtOf w, w' = e.to) (fun _ i _ => n - (intOf i).toNat)
    case atStart => exact ⟨0, Nat.zero_le _, rfl, rfl, _, rfl⟩
    case round =>
      obtain ⟨k, hk, rfl, hf, e, rfl⟩ := hrel
      by_cases hlt : k < n
      · skip
        obtain ⟨bx, ox, x, px, rfl, hxk, hpx⟩ := T1.elem GOrigin.enc_len hx Hx hlt
        obtain ⟨by_, oy, y, py, rfl, hyk, hpy⟩ := T1.elem GOrigin.enc_len hy Hy hlt
        obtain ⟨kx0, kx1, kx2⟩ := GOrigin.pt hpx
        obtain ⟨ky0, ky1, ky2⟩ := GOrigin.pt hpy
        have hg := originG
        have hne := fun W => originNeq W x y
        cases d1 : eqb x y
        case false =>
          have E : Hid (eqb xs ys = false) := by show _ = _; exact eqb_f (ne_at hxk hyk (eqb_nf d1))
          go_wp2_with fail
          repeat (refine wp_region_ext0 _ (by kernel_rfl) (by kernel_rfl) ?_; (repeat (go_big_quiet_step (fail))); refine wpQuiet_nil ?_; intro e; go_wp2_with fail)
          go_ret
          exact ⟨by rw [E.out]; rfl, _, rfl⟩
        go_wp2_with fail
        repeat (refine wp_region_ext0 _ (by kernel_rfl) (by kernel_rfl) ?_; (repeat (go_big_quiet_step (fail))); refine wpQuiet_nil ?_; intro e; go_wp2_with fail)
        exact ⟨⟨k+1, by omega, by go_num, take_eq_snoc hf hxk hyk (eqb_t d1), _, rfl⟩, by simp [intOf]; omega⟩
      · have : k = n := by omega
        subst this
        have E : Hid (eqb xs ys = true) := by show _ = _; exact eqb_of (take_eq_all hf Hx Hy)
        go_wp2_with fail
        repeat (refine wp_region_ext0 _ (by kernel_rfl) (by kernel_rfl) ?_; (repeat (go_big_quiet_step (fail))); refine wpQuiet_nil ?_; intro e; go_wp2_with fail)
        go_ret
        exact ⟨by rw [E.out]; rfl, _, rfl⟩
  · go_enter Try.func88, Try.ntmps88
    have E : Hid (eqb xs ys = false) := by show _ = _; exact eqb_f (ne_len Hx Hy hnm)
    go_wp2_with fail
    repeat (refine wp_region_ext0 _ (by kernel_rfl) (by kernel_rfl) ?_; (repeat (go_big_quiet_step (fail))); refine wpQuiet_nil ?_; intro e; go_wp2_with fail)
    go_ret
    exact ⟨by rw [E.out]; rfl, _, rfl⟩

set_option maxHeartbeats 2000000 in
theorem equalBreaks_any (xs ys : List GBreak) (n m : Nat) {A B : Option Addr} {c d : Nat} {b1 b2 : List Nat} (w : World) (hx : T1 w (.sl n (xs.flatMap GBreak.enc)) b1 (.slice A n c)) (hy : T1 w (.sl m (ys.flatMap GBreak.enc)) b2 (.slice B m d)) (Hx : Hid (xs.length = n)) (Hy : Hid (ys.length = m)) : Calls Try.prog 89 #[.slice A n c, .slice B m d] w fun e w' => e = .returned (.bool (eqb xs ys)) ∧ Ext w w' := by
  refine quiet_start fun e => ?_
  have hn := hx.nle
  have hm := hy.nle
  by_cases hnm : n = m
  · subst hnm
    go_enter Try.func89, Try.ntmps89
    go_wp2_with fail
    repeat (refine wp_region_ext0 _ (by kernel_rfl) (by kernel_rfl) ?_; (repeat (go_big_quiet_step (fail))); refine wpQuiet_nil ?_; intro e; go_wp2_with fail)
    go_loopw [5,13] (fun _ i w' => ∃ k : Nat, k ≤ n ∧ i = .int .i64 k ∧ Hid (xs.take k = ys.take k) ∧ ∃ e : ExtOf w, w' = e.to) (fun _ i _ => n - (intOf i).toNat)
    case atStart => exact ⟨0, Nat.zero_le _, rfl, rfl, _, rfl⟩
    case round =>
      obtain ⟨k, hk, rfl, hf, e, rfl⟩ := hrel
      by_cases hlt : k < n
      · skip
        obtain ⟨bx, ox, x, px, rfl, hxk, hpx⟩ := T1.elem GBreak.enc_len hx Hx hlt
        obtain ⟨by_, oy, y, py, rfl, hyk, hpy⟩ := T1.elem GBreak.enc_len hy Hy hlt
        obtain ⟨kx0, kx1⟩ := GBreak.pt hpx
        obtain ⟨ky0, ky1⟩ := GBreak.pt hpy
        have hg := breakG
        have hne := fun W => breakNeq W x y
        cases d1 : eqb x y
        case false =>
          have E : Hid (eqb xs ys = false) := by show _ = _; exact eqb_f (ne_at hxk hyk (eqb_nf d1))
          go_wp2_with fail
          repeat (refine wp_region_ext0 _ (by kernel_rfl) (by kernel_rfl) ?_; (repeat (go_big_quiet_step (fail))); refine wpQuiet_nil ?_; intro e; go_wp2_with fail)
          go_ret
          exact ⟨by rw [E.out]; rfl, _, rfl⟩
        go_wp2_with fail
        repeat (refine wp_region_ext0 _ (by kernel_rfl) (by kernel_rfl) ?_; (repeat (go_big_quiet_step (fail))); refine wpQuiet_nil ?_; intro e; go_wp2_with fail)
        exact ⟨⟨k+1, by omega, by go_num, take_eq_snoc hf hxk hyk (eqb_t d1), _, rfl⟩, by simp [intOf]; omega⟩
      · have : k = n := by omega
        subst this
        have E : Hid (eqb xs ys = true) := by show _ = _; exact eqb_of (take_eq_all hf Hx Hy)
        go_wp2_with fail
        repeat (refine wp_region_ext0 _ (by kernel_rfl) (by kernel_rfl) ?_; (repeat (go_big_quiet_step (fail))); refine wpQuiet_nil ?_; intro e; go_wp2_with fail)
        go_ret
        exact ⟨by rw [E.out]; rfl, _, rfl⟩
  · go_enter Try.func89, Try.ntmps89
    have E : Hid (eqb xs ys = false) := by show _ = _; exact eqb_f (ne_len Hx Hy hnm)
    go_wp2_with fail
    repeat (refine wp_region_ext0 _ (by kernel_rfl) (by kernel_rfl) ?_; (repeat (go_big_quiet_step (fail))); refine wpQuiet_nil ?_; intro e; go_wp2_with fail)
    go_ret
    exact ⟨by rw [E.out]; rfl, _, rfl⟩

set_option maxHeartbeats 2000000 in
theorem l40SameOrigins_any (xs ys : List GOrigin) (n m : Nat) {A B : Option Addr} {c d : Nat} {b1 b2 : List Nat} (w : World) (hx : T1 w (.sl n (xs.flatMap GOrigin.enc)) b1 (.slice A n c)) (hy : T1 w (.sl m (ys.flatMap GOrigin.enc)) b2 (.slice B m d)) (Hx : Hid (xs.length = n)) (Hy : Hid (ys.length = m)) : Calls Try.prog 79 #[.slice A n c, .slice B m d] w fun e w' => e = .returned (.bool (eqb xs ys)) ∧ Ext w w' := by
  refine quiet_start fun e => ?_
  have hn := hx.nle
  have hm := hy.nle
  by_cases hnm : n = m
  · subst hnm
    go_enter Try.func79, Try.ntmps79
    go_wp2_with fail
    repeat (refine wp_region_ext0 _ (by kernel_rfl) (by kernel_rfl) ?_; (repeat (go_big_quiet_step (fail))); refine wpQuiet_nil ?_; intro e; go_wp2_with fail)
    go_loopw [5] (fun i w' => ∃ k : Nat, k ≤ n ∧ i = .int .i64 k ∧ Hid (xs.take k = ys.take k) ∧ ∃ e : ExtOf w, w' = e.to) (fun i _ => n - (intOf i).toNat)
    case atStart => exact ⟨0, Nat.zero_le _, rfl, rfl, _, rfl⟩
    case round =>
      obtain ⟨k, hk, rfl, hf, e, rfl⟩ := hrel
      by_cases hlt : k < n
      · skip
        obtain ⟨bx, ox, x, px, rfl, hxk, hpx⟩ := T1.elem GOrigin.enc_len hx Hx hlt
        obtain ⟨by_, oy, y, py, rfl, hyk, hpy⟩ := T1.elem GOrigin.enc_len hy Hy hlt
        obtain ⟨kx0, kx1, kx2⟩ := GOrigin.pt hpx
        obtain ⟨ky0, ky1, ky2⟩ := GOrigin.pt hpy
        have hg := originG
        have hne := fun W => originNeq W x y
        cases d1 : eqb x y
        case false =>
          have E : Hid (eqb xs ys = false) := by show _ = _; exact eqb_f (ne_at hxk hyk (eqb_nf d1))
          go_wp2_with fail
          repeat (refine wp_region_ext0 _ (by kernel_rfl) (by kernel_rfl) ?_; (repeat (go_big_quiet_step (fail))); refine wpQuiet_nil ?_; intro e; go_wp2_with fail)
          go_ret
          exact ⟨by rw [E.out]; rfl, _, rfl⟩
        go_wp2_with fail
        repeat (refine wp_region_ext0 _ (by kernel_rfl) (by kernel_rfl) ?_; (repeat (go_big_quiet_step (fail))); refine wpQuiet_nil ?_; intro e; go_wp2_with fail)
        exact ⟨⟨k+1, by omega, by go_num, take_eq_snoc hf hxk hyk (eqb_t d1), _, rfl⟩, by simp [intOf]; omega⟩
      · have : k = n := by omega
        subst this
        have E : Hid (eqb xs ys = true) := by show _ = _; exact eqb_of (take_eq_all hf Hx Hy)
        go_wp2_with fail
        repeat (refine wp_region_ext0 _ (by kernel_rfl) (by kernel_rfl) ?_; (repeat (go_big_quiet_step (fail))); refine wpQuiet_nil ?_; intro e; go_wp2_with fail)
        go_ret
        exact ⟨by rw [E.out]; rfl, _, rfl⟩
  · go_enter Try.func79, Try.ntmps79
    have E : Hid (eqb xs ys = false) := by show _ = _; exact eqb_f (ne_len Hx Hy hnm)
    go_wp2_with fail
    repeat (refine wp_region_ext0 _ (by kernel_rfl) (by kernel_rfl) ?_; (repeat (go_big_quiet_step (fail))); refine wpQuiet_nil ?_; intro e; go_wp2_with fail)
    go_ret
    exact ⟨by rw [E.out]; rfl, _, rfl⟩

set_option maxRecDepth 100000 in
set_option maxHeartbeats 4000000 in
theorem l11SameAgent_any (x y : GAgent) (b o b2 o2 : Nat) (bs cs : List Nat) (w : World) (h : PtAt w b o x.enc bs) (h2 : PtAt w b2 o2 y.enc cs) : Calls Try.prog 170 #[.pointer (some ⟨b, o, none⟩), .pointer (some ⟨b2, o2, none⟩)] w fun e w' => e = .returned (.bool (eqb x y)) ∧ Ext w w' := by
  refine quiet_start fun e => ?_
  obtain ⟨A3, c3, a3, A4, c4, a4, x0, x1, x2, x3, x4, tx3, tx4⟩ := GAgent.pt h
  obtain ⟨B3, d3, z3, B4, d4, z4, y0, y1, y2, y3, y4, ty3, ty4⟩ := GAgent.pt h2
  have hn4 := tx4.nle
  have hm4 := ty4.nle
  have hg := portG
  have C1 : Hid (QC Try.prog w _ _ _) := fun W hW => l00Same_any x.data y.data _ _ W (tx3.below hW) (ty3.below hW) Hid_rfl Hid_rfl
  go_enter Try.func170, Try.ntmps170
  cases d1 : (x.kind != y.kind)
  case true =>
    (try rw [d1] at C1)
    have E : Hid (eqb x y = false) := by show _ = _; exact eqb_f (fun e => by rw [e] at d1; simp at d1)
    go_wp2_with (first | (go_at_call 77; with_reducible refine (C1.out.at_ _).mono ?_; rintro _ _ ⟨rfl, e, rfl⟩))
    repeat (refine wp_region_ext0 _ (by kernel_rfl) (by kernel_rfl) ?_; (repeat (go_big_quiet_step ((first | with_reducible exact C1.out.at_ _)))); refine wpQuiet_nil ?_; intro e; go_wp2_with (first | (go_at_call 77; with_reducible refine (C1.out.at_ _).mono ?_; rintro _ _ ⟨rfl, e, rfl⟩)))
    go_ret
    exact ⟨by rw [E.out]; rfl, _, rfl⟩
  (try rw [d1] at C1)
  cases d2 : (x.level != y.level)
  case true =>
    (try rw [d2] at C1)
    have E : Hid (eqb x y = false) := by show _ = _; exact eqb_f (fun e => by rw [e] at d2; simp at d2)
    go_wp2_with (first | (go_at_call 77; with_reducible refine (C1.out.at_ _).mono ?_; rintro _ _ ⟨rfl, e, rfl⟩))
    repeat (refine wp_region_ext0 _ (by kernel_rfl) (by kernel_rfl) ?_; (repeat (go_big_quiet_step ((first | with_reducible exact C1.out.at_ _)))); refine wpQuiet_nil ?_; intro e; go_wp2_with (first | (go_at_call 77; with_reducible refine (C1.out.at_ _).mono ?_; rintro _ _ ⟨rfl, e, rfl⟩)))
    go_ret
    exact ⟨by rw [E.out]; rfl, _, rfl⟩
  (try rw [d2] at C1)
  cases d3 : (x.value != y.value)
  case true =>
    (try rw [d3] at C1)
    have E : Hid (eqb x y = false) := by show _ = _; exact eqb_f (fun e => by rw [e] at d3; simp at d3)
    go_wp2_with (first | (go_at_call 77; with_reducible refine (C1.out.at_ _).mono ?_; rintro _ _ ⟨rfl, e, rfl⟩))
    repeat (refine wp_region_ext0 _ (by kernel_rfl) (by kernel_rfl) ?_; (repeat (go_big_quiet_step ((first | with_reducible exact C1.out.at_ _)))); refine wpQuiet_nil ?_; intro e; go_wp2_with (first | (go_at_call 77; with_reducible refine (C1.out.at_ _).mono ?_; rintro _ _ ⟨rfl, e, rfl⟩)))
    go_ret
    exact ⟨by rw [E.out]; rfl, _, rfl⟩
  (try rw [d3] at C1)
  cases d4 : eqb x.data y.data
  case false =>
    (try rw [d4] at C1)
    have E : Hid (eqb x y = false) := by show _ = _; exact eqb_f (fun e => by rw [e, eqb_self] at d4; cases d4)
    go_wp2_with (first | (go_at_call 77; with_reducible refine (C1.out.at_ _).mono ?_; rintro _ _ ⟨rfl, e, rfl⟩))
    repeat (refine wp_region_ext0 _ (by kernel_rfl) (by kernel_rfl) ?_; (repeat (go_big_quiet_step ((first | with_reducible exact C1.out.at_ _)))); refine wpQuiet_nil ?_; intro e; go_wp2_with (first | (go_at_call 77; with_reducible refine (C1.out.at_ _).mono ?_; rintro _ _ ⟨rfl, e, rfl⟩)))
    go_ret
    exact ⟨by rw [E.out]; rfl, _, rfl⟩
  (try rw [d4] at C1)
  by_cases hl : x.ports.length = y.ports.length
  case neg =>
    have E : Hid (eqb x y = false) := by show _ = _; exact eqb_f (fun e => hl (by rw [e]))
    go_wp2_with (first | (go_at_call 77; with_reducible refine (C1.out.at_ _).mono ?_; rintro _ _ ⟨rfl, e, rfl⟩))
    repeat (refine wp_region_ext0 _ (by kernel_rfl) (by kernel_rfl) ?_; (repeat (go_big_quiet_step ((first | with_reducible exact C1.out.at_ _)))); refine wpQuiet_nil ?_; intro e; go_wp2_with (first | (go_at_call 77; with_reducible refine (C1.out.at_ _).mono ?_; rintro _ _ ⟨rfl, e, rfl⟩)))
    go_ret
    exact ⟨by rw [E.out]; rfl, _, rfl⟩
  rw [hl] at tx4 x4 hn4
  have Hx : Hid (x.ports.length = y.ports.length) := hl
  clear hl
  go_wp2_with (first | (go_at_call 77; with_reducible refine (C1.out.at_ _).mono ?_; rintro _ _ ⟨rfl, e, rfl⟩))
  repeat (refine wp_region_ext0 _ (by kernel_rfl) (by kernel_rfl) ?_; (repeat (go_big_quiet_step ((first | with_reducible exact C1.out.at_ _)))); refine wpQuiet_nil ?_; intro e; go_wp2_with (first | (go_at_call 77; with_reducible refine (C1.out.at_ _).mono ?_; rintro _ _ ⟨rfl, e, rfl⟩)))
  go_loopw [5] (fun i w' => ∃ k : Nat, k ≤ y.ports.length ∧ i = .int .i64 k ∧ Hid (x.ports.take k = y.ports.take k) ∧ ∃ e : ExtOf w, w' = e.to) (fun i _ => y.ports.length - (intOf i).toNat)
  case atStart => exact ⟨0, Nat.zero_le _, rfl, rfl, _, rfl⟩
  case round =>
    obtain ⟨k, hk, rfl, hf, e, rfl⟩ := hrel
    by_cases hlt : k < y.ports.length
    · skip
      obtain ⟨bx, ox, p, px, rfl, hxk, hpx⟩ := T1.elem GPort.enc_len tx4 Hx hlt
      obtain ⟨by_, oy, q, py, rfl, hyk, hpy⟩ := T1.elem GPort.enc_len ty4 Hid_rfl hlt
      obtain ⟨p0, p1⟩ := GPort.pt hpx
      obtain ⟨q0, q1⟩ := GPort.pt hpy
      have hne := fun W => portNeq W p q
      cases d5 : eqb p q
      case false =>
        (try rw [d5] at C1)
        have E : Hid (eqb x y = false) := by show _ = _; exact eqb_f (fun e => ne_at hxk hyk (eqb_nf d5) (by rw [e]))
        go_wp2_with (first | (go_at_call 77; with_reducible refine (C1.out.at_ _).mono ?_; rintro _ _ ⟨rfl, e, rfl⟩))
        repeat (refine wp_region_ext0 _ (by kernel_rfl) (by kernel_rfl) ?_; (repeat (go_big_quiet_step ((first | with_reducible exact C1.out.at_ _)))); refine wpQuiet_nil ?_; intro e; go_wp2_with (first | (go_at_call 77; with_reducible refine (C1.out.at_ _).mono ?_; rintro _ _ ⟨rfl, e, rfl⟩)))
        go_ret
        exact ⟨by rw [E.out]; rfl, _, rfl⟩
      (try rw [d5] at C1)
      go_wp2_with (first | (go_at_call 77; with_reducible refine (C1.out.at_ _).mono ?_; rintro _ _ ⟨rfl, e, rfl⟩))
      repeat (refine wp_region_ext0 _ (by kernel_rfl) (by kernel_rfl) ?_; (repeat (go_big_quiet_step ((first | with_reducible exact C1.out.at_ _)))); refine wpQuiet_nil ?_; intro e; go_wp2_with (first | (go_at_call 77; with_reducible refine (C1.out.at_ _).mono ?_; rintro _ _ ⟨rfl, e, rfl⟩)))
      exact ⟨⟨k+1, by omega, by go_num, take_eq_snoc hf hxk hyk (eqb_t d5), _, rfl⟩, by simp [intOf]; omega⟩
    · have : k = y.ports.length := by omega
      subst this
      have E : Hid (eqb x y = true) := by show _ = _; exact eqb_of (GAgent.ext_ (by simpa using d1) (by simpa using d2) (by simpa using d3) (eqb_t d4) (take_eq_all hf Hx Hid_rfl))
      go_wp2_with (first | (go_at_call 77; with_reducible refine (C1.out.at_ _).mono ?_; rintro _ _ ⟨rfl, e, rfl⟩))
      repeat (refine wp_region_ext0 _ (by kernel_rfl) (by kernel_rfl) ?_; (repeat (go_big_quiet_step ((first | with_reducible exact C1.out.at_ _)))); refine wpQuiet_nil ?_; intro e; go_wp2_with (first | (go_at_call 77; with_reducible refine (C1.out.at_ _).mono ?_; rintro _ _ ⟨rfl, e, rfl⟩)))
      go_ret
      exact ⟨by rw [E.out]; rfl, _, rfl⟩
end Go.Proofs.Ytmmdkchhahnenaa
