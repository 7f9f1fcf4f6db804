/- The program's test of a net. Printed by gen_neti.py. -/
import Derived.Test.YtmmdkchhahnenaaProg
import Derived.Test.YtmmdkchhahnenaaAgents
import Derived.Test.YtmmdkchhahnenaaNet
import Derived.Test.YtmmdkchhahnenaaQDbg
import Derived.Test.YtmmdkchhahnenaaGrow
import Derived.Test.YtmmdkchhahnenaaNetL
import Derived.BigGuardPart
import Derived.Outline
import Derived.Deep.CutBlock
set_option linter.unusedSimpArgs false
set_option linter.unusedVariables false
namespace Go.Proofs.Ytmmdkchhahnenaa
open Go Go.RowKit Go.Proofs Go.Tr
set_option maxHeartbeats 4000000 in
theorem badPort_any (N : GNet) (nb no : Nat) (nbs : List Nat) (p : GPort) (w : World) (hN : PtAt w nb no N.enc nbs) (hp : portIn N.agents p = true) : Calls Try.prog 258 #[.agg #[.int .i64 p.agent, .int .i64 p.slot], .pointer (some ⟨nb, no, none⟩)] w fun e w' => e = .returned (.bool (badB N.agents p)) ∧ Ext w w' := by
  refine quiet_start fun e => ?_
  obtain ⟨A0, c0, b0, h0, t0⟩ := GNet.pt hN
  obtain ⟨q, hq⟩ : ∃ q, peerOf N.agents p = q := ⟨_, rfl⟩
  have EV : Hid (badB N.agents p = !wireB N.agents p q) := by show _ = _; rw [badB, hq]
  have Hq := Lib.hid hq
  clear hq
  go_enter Try.func258, Try.ntmps258
  go_upto_region 1 with (fail)
  generalize hgg : e.to.heap.size = g
  refine rebase_box e hgg (fun w1 e hx1 hgeg hltg cg => ?_)
  clear hgg
  replace hN := hN.ext hx1
  replace h0 := h0.ext hx1
  replace t0 := t0.below hx1
  obtain ⟨k0, k1⟩ := GPort.pt0 (x := p) (PtAt.box hltg cg GPort.mk_)
  clear cg
  have C1 : Hid (QC Try.prog w1 _ _ _) := fun W hW => peer_any N nb no _ p W (hN.ext hW) hp
  rw [Hq.out] at C1
  go_upto_region 2 with (first | (go_at_call 259; with_reducible refine (C1.out.at_ _).mono ?_; rintro _ _ ⟨rfl, e, rfl⟩))
  repeat (refine wp_region_ext0 _ (by kernel_rfl) (by kernel_rfl) ?_; (repeat (go_big_quiet_step ((first | with_reducible exact C1.out.at_ _)))); refine wpQuiet_nil ?_; intro e; go_upto_region 2 with (first | (go_at_call 259; with_reducible refine (C1.out.at_ _).mono ?_; rintro _ _ ⟨rfl, e, rfl⟩)))
  generalize hggq : e.to.heap.size = gq
  refine rebase_box e hggq (fun w2 e hx2 hgegq hltgq cgq => ?_)
  clear hggq
  replace hN := hN.ext hx2
  replace h0 := h0.ext hx2
  replace k0 := k0.ext hx2
  replace k1 := k1.ext hx2
  replace t0 := t0.below hx2
  replace C1 : Hid (QC Try.prog w2 _ _ _) := C1.out.ext hx2
  have hy2 := Ext.trans hx1 hx2
  obtain ⟨q0, q1⟩ := GPort.pt0 (x := q) (PtAt.box hltgq cgq GPort.mk_)
  clear cgq
  clear C1
  have hg := portG
  have heq := fun W => portEql W q p
  have C2 : Hid (QC Try.prog w2 _ _ _) := fun W hW => hasPort_any N.agents _ q W (t0.below hW) Hid_rfl
  cases d1 : eqb q p
  case true =>
    (try rw [d1] at C2)
    have E : Hid (badB N.agents p = true) := by show _ = _; rw [EV.out]; simp [wireB, d1]
    go_wp2_with (first | (go_at_call 260; with_reducible refine (C2.out.at_ _).mono ?_; rintro _ _ ⟨rfl, e, rfl⟩))
    repeat (refine wp_region_ext0 _ (by kernel_rfl) (by kernel_rfl) ?_; (repeat (go_big_quiet_step ((first | with_reducible exact C2.out.at_ _)))); refine wpQuiet_nil ?_; intro e; go_wp2_with (first | (go_at_call 260; with_reducible refine (C2.out.at_ _).mono ?_; rintro _ _ ⟨rfl, e, rfl⟩)))
    go_ret
    exact ⟨by rw [E.out]; rfl, ExtOf.old hy2 e⟩
  (try rw [d1] at C2)
  cases d2 : portIn N.agents q
  case false =>
    (try rw [d2] at C2)
    have E : Hid (badB N.agents p = true) := by show _ = _; rw [EV.out]; simp [wireB, d2]
    go_wp2_with (first | (go_at_call 260; with_reducible refine (C2.out.at_ _).mono ?_; rintro _ _ ⟨rfl, e, rfl⟩))
    repeat (refine wp_region_ext0 _ (by kernel_rfl) (by kernel_rfl) ?_; (repeat (go_big_quiet_step ((first | with_reducible exact C2.out.at_ _)))); refine wpQuiet_nil ?_; intro e; go_wp2_with (first | (go_at_call 260; with_reducible refine (C2.out.at_ _).mono ?_; rintro _ _ ⟨rfl, e, rfl⟩)))
    go_ret
    exact ⟨by rw [E.out]; rfl, ExtOf.old hy2 e⟩
  (try rw [d2] at C2)
  obtain ⟨r, hr⟩ : ∃ r, peerOf N.agents q = r := ⟨_, rfl⟩
  have Hr := Lib.hid hr
  clear hr
  have C3 : Hid (QC Try.prog w2 _ _ _) := fun W hW => peer_any N nb no _ q W (hN.ext hW) d2
  rw [Hr.out] at C3
  have hne := fun W => portNeq W r p
  have E : Hid (badB N.agents p = !eqb r p) := by show _ = _; rw [EV.out]; simp [wireB, Hr.out, d1, d2]
  go_wp2_with (first | (go_at_call 260; with_reducible refine (C2.out.at_ _).mono ?_; rintro _ _ ⟨rfl, e, rfl⟩) | (go_at_call 259; with_reducible refine (C3.out.at_ _).mono ?_; rintro _ _ ⟨rfl, e, rfl⟩))
  repeat (refine wp_region_ext0 _ (by kernel_rfl) (by kernel_rfl) ?_; (repeat (go_big_quiet_step ((first | with_reducible exact C2.out.at_ _ | with_reducible exact C3.out.at_ _)))); refine wpQuiet_nil ?_; intro e; go_wp2_with (first | (go_at_call 260; with_reducible refine (C2.out.at_ _).mono ?_; rintro _ _ ⟨rfl, e, rfl⟩) | (go_at_call 259; with_reducible refine (C3.out.at_ _).mono ?_; rintro _ _ ⟨rfl, e, rfl⟩)))
  go_ret
  exact ⟨by rw [E.out]; rfl, ExtOf.old hy2 e⟩

set_option maxHeartbeats 2000000 in
theorem indexBadPort_any (xs : List GPort) (n : Nat) {A : Option Addr} {c : Nat} {bs : List Nat} (N : GNet) (nb no : Nat) (nbs : List Nat) (w : World) (hx : T1 w (.sl n (xs.flatMap GPort.enc)) bs (.slice A n c)) (Hl : Hid (xs.length = n)) (hN : PtAt w nb no N.enc nbs) (hin : ∀ (k : Nat) (y : GPort), xs[k]? = some y → portIn N.agents y = true) : Calls Try.prog 279 #[.slice A n c, .func (.func 258) #[] #[.pointer (some ⟨nb, no, none⟩)]] w fun e w' => e = .returned (.int .i64 (idxOf n (fun k => badB N.agents (portAt xs k)))) ∧ Ext w w' := by
  refine quiet_start fun e => ?_
  have hn := hx.nle
  go_enter Try.func279, Try.ntmps279
  go_wp2_with fail
  repeat (refine wp_region_ext0 _ (by kernel_rfl) (by kernel_rfl) ?_; (repeat (go_big_quiet_step (fail))); refine wpQuiet_nil ?_; intro e; go_wp2_with fail)
  go_loopw [5, 8] (fun _ i w' => ∃ k : Nat, k ≤ n ∧ i = .int .i64 k ∧ Hid (allTo k (fun k => !badB N.agents (portAt xs k)) = true) ∧ ∃ e : ExtOf w, w' = e.to) (fun _ i _ => n - (intOf i).toNat)
  case atStart => exact ⟨0, Nat.zero_le _, rfl, allTo_0 _, _, rfl⟩
  case round =>
    obtain ⟨k, hk, rfl, hf, e, rfl⟩ := hrel
    by_cases hlt : k < n
    · skip
      obtain ⟨b, off, x, bs', rfl, hxk, hp⟩ := T1.elem GPort.enc_len hx Hl hlt
      obtain ⟨kx0, kx1⟩ := GPort.pt hp
      have hpi := hin k x hxk.out
      have EP : Hid (badB N.agents (portAt xs k) = badB N.agents x) := by show _ = _; rw [portAt_of hxk]
      have C1 : Hid (QC Try.prog w _ _ _) := fun W hW => badPort_any N nb no nbs x W (hN.ext hW) hpi
      cases d1 : badB N.agents x
      case true =>
        (try rw [d1] at C1)
        have E : Hid (idxOf n (fun k => badB N.agents (portAt xs k)) = (k : Int)) := by show _ = _; exact idxOf_at hf hlt (by rw [EP.out]; exact d1)
        go_wp2_with (first | (go_at_call 258; with_reducible refine (C1.out.at_ _).mono ?_; rintro _ _ ⟨rfl, e, rfl⟩))
        repeat (refine wp_region_ext0 _ (by kernel_rfl) (by kernel_rfl) ?_; (repeat (go_big_quiet_step ((first | with_reducible exact C1.out.at_ _)))); refine wpQuiet_nil ?_; intro e; go_wp2_with (first | (go_at_call 258; with_reducible refine (C1.out.at_ _).mono ?_; rintro _ _ ⟨rfl, e, rfl⟩)))
        go_ret
        exact ⟨by rw [E.out]; rfl, _, rfl⟩
      (try rw [d1] at C1)
      have E : Hid ((!badB N.agents (portAt xs k)) = true) := by show _ = _; rw [EP.out, d1]; rfl
      go_wp2_with (first | (go_at_call 258; with_reducible refine (C1.out.at_ _).mono ?_; rintro _ _ ⟨rfl, e, rfl⟩))
      repeat (refine wp_region_ext0 _ (by kernel_rfl) (by kernel_rfl) ?_; (repeat (go_big_quiet_step ((first | with_reducible exact C1.out.at_ _)))); refine wpQuiet_nil ?_; intro e; go_wp2_with (first | (go_at_call 258; with_reducible refine (C1.out.at_ _).mono ?_; rintro _ _ ⟨rfl, e, rfl⟩)))
      exact ⟨⟨k+1, by omega, by go_num, allTo_succ hf E.out, _, rfl⟩, by simp [intOf]; omega⟩
    · have : n = k := by omega
      subst this
      have E : Hid (idxOf n (fun k => badB N.agents (portAt xs k)) = -1) := by show _ = _; exact idxOf_none hf
      go_wp2_with fail
      repeat (refine wp_region_ext0 _ (by kernel_rfl) (by kernel_rfl) ?_; (repeat (go_big_quiet_step (fail))); refine wpQuiet_nil ?_; intro e; go_wp2_with fail)
      go_ret
      exact ⟨by rw [E.out]; rfl, _, rfl⟩

set_option maxHeartbeats 1000000 in
theorem containsBadPort_any (xs : List GPort) (n : Nat) {A : Option Addr} {c : Nat} {bs : List Nat} (N : GNet) (nb no : Nat) (nbs : List Nat) (w : World) (hx : T1 w (.sl n (xs.flatMap GPort.enc)) bs (.slice A n c)) (Hl : Hid (xs.length = n)) (hN : PtAt w nb no N.enc nbs) (hin : ∀ (k : Nat) (y : GPort), xs[k]? = some y → portIn N.agents y = true) : Calls Try.prog 256 #[.slice A n c, .func (.func 258) #[] #[.pointer (some ⟨nb, no, none⟩)]] w fun e w' => e = .returned (.bool (anyTo n (fun k => badB N.agents (portAt xs k)))) ∧ Ext w w' := by
  refine quiet_start fun e => ?_
  have C1 : Hid (QC Try.prog w _ _ _) := fun W hW => indexBadPort_any xs n N nb no nbs W (hx.below hW) Hl (hN.ext hW) hin
  have hc := idxOf_ge n (fun k => badB N.agents (portAt xs k))
  go_enter Try.func256, Try.ntmps256
  go_wp2_with (first | (go_at_call 279; with_reducible refine (C1.out.at_ _).mono ?_; rintro _ _ ⟨rfl, e, rfl⟩))
  repeat (refine wp_region_ext0 _ (by kernel_rfl) (by kernel_rfl) ?_; (repeat (go_big_quiet_step ((first | with_reducible exact C1.out.at_ _)))); refine wpQuiet_nil ?_; intro e; go_wp2_with (first | (go_at_call 279; with_reducible refine (C1.out.at_ _).mono ?_; rintro _ _ ⟨rfl, e, rfl⟩)))
  go_ret
  exact ⟨by rw [← hc]; rfl, _, rfl⟩

set_option maxHeartbeats 4000000 in
theorem implValidNet_any (x : GNet) {bs us} (w : World) (h : TN w x.enc bs us) : Calls Try.prog 212 #[.agg us.toArray] w fun e w' => e = .returned (.bool (netB x)) ∧ Ext w w' := by
  refine quiet_start fun e => ?_
  obtain ⟨P0, p0, q0, rfl, _⟩ := GNet.us (x := x) h
  go_enter Try.func212, Try.ntmps212
  go_upto_region 1 with (fail)
  generalize hgg : e.to.heap.size = g
  refine rebase_box e hgg (fun w1 e hx1 hgeg hltg cg => ?_)
  clear hgg
  replace h := h.below hx1
  have p := PtAt.box hltg cg h
  clear cg h
  obtain ⟨A0, c0, b0, h0, t0⟩ := GNet.pt0 p
  have C1 : Hid (QC Try.prog w1 _ _ _) := fun W hW => areAgents_any x.agents _ W (t0.below hW) Hid_rfl
  cases d1 : agentsB x.agents
  case false =>
    (try rw [d1] at C1)
    have E : Hid (netB x = false) := by show _ = _; simp [netB, d1]
    go_wp2_with (first | (go_at_call 255; with_reducible refine (C1.out.at_ _).mono ?_; rintro _ _ ⟨rfl, e, rfl⟩))
    repeat (refine wp_region_ext0 _ (by kernel_rfl) (by kernel_rfl) ?_; (repeat (go_big_quiet_step ((first | with_reducible exact C1.out.at_ _)))); refine wpQuiet_nil ?_; intro e; go_wp2_with (first | (go_at_call 255; with_reducible refine (C1.out.at_ _).mono ?_; rintro _ _ ⟨rfl, e, rfl⟩)))
    go_ret
    exact ⟨by rw [E.out]; rfl, ExtOf.old hx1 e⟩
  (try rw [d1] at C1)
  have EV : Hid (netB x = !anyTo (portsTo x.agents x.agents.length).length (fun k => badB x.agents (portAt (portsTo x.agents x.agents.length) k))) := netB_ports x d1
  go_wp2_with (first | (go_at_call 255; with_reducible refine (C1.out.at_ _).mono ?_; rintro _ _ ⟨rfl, e, rfl⟩))
  repeat (refine wp_region_ext0 _ (by kernel_rfl) (by kernel_rfl) ?_; (repeat (go_big_quiet_step ((first | with_reducible exact C1.out.at_ _)))); refine wpQuiet_nil ?_; intro e; go_wp2_with (first | (go_at_call 255; with_reducible refine (C1.out.at_ _).mono ?_; rintro _ _ ⟨rfl, e, rfl⟩)))
  refine (ports_any x g 0 _ _ (p.ext e.h) d1).mono ?_
  rintro _ w2 ⟨hx2, A, c, bs', rfl, ht⟩
  have hq := Ext.trans e.h hx2
  clear C1
  replace p := p.ext hq
  have hy2 := Ext.trans hx1 hq
  obtain ⟨e, he⟩ : ∃ e : ExtOf w2, w2 = e.to := ⟨⟨w2, Below.refl _ _⟩, rfl⟩
  have C2 : Hid (QC Try.prog w2 _ _ _) := fun W hW => containsBadPort_any (portsTo x.agents x.agents.length) _ x g 0 _ W (ht.below hW) Hid_rfl (p.ext hW) (fun k y hy => portsTo_in hy)
  go_wp2_with (first | (go_at_call 256; with_reducible refine (C2.out.at_ _).mono ?_; rintro _ _ ⟨rfl, e, rfl⟩))
  repeat (refine wp_region_ext0 _ (by kernel_rfl) (by kernel_rfl) ?_; (repeat (go_big_quiet_step ((first | with_reducible exact C2.out.at_ _)))); refine wpQuiet_nil ?_; intro e; go_wp2_with (first | (go_at_call 256; with_reducible refine (C2.out.at_ _).mono ?_; rintro _ _ ⟨rfl, e, rfl⟩)))
  go_ret
  refine ⟨by rw [EV.out]; rfl, ?_⟩
  first | exact ExtOf.old hy2 e | exact ExtOf.old hy2 ⟨_, Below.refl _ _⟩
end Go.Proofs.Ytmmdkchhahnenaa
