/- The reference's functions on nets: what makes them valid. Printed by gen_net.py. -/
import Derived.Test.YtmmdkchhahnenaaProg
import Derived.Test.YtmmdkchhahnenaaAgents
import Derived.Test.YtmmdkchhahnenaaNet
import Derived.Test.YtmmdkchhahnenaaQDbg
import Derived.Test.YtmmdkchhahnenaaNetS
import Derived.BigGuardPart
import Derived.Outline
import Derived.Deep.CutBlock
set_option linter.unusedSimpArgs false
set_option linter.unusedVariables false
namespace Go.Proofs.Ytmmdkchhahnenaa
open Go Go.RowKit Go.Proofs Go.Tr
set_option maxHeartbeats 1000000 in
theorem l11Port_any (xs : List GAgent) (n : Nat) {A : Option Addr} {c : Nat} {bs : List Nat} (p : GPort) (w : World) (hx : T1 w (.sl n (xs.flatMap GAgent.enc)) bs (.slice A n c)) (Hl : Hid (xs.length = n)) : Calls Try.prog 277 #[.slice A n c, .agg #[.int .i64 p.agent, .int .i64 p.slot]] w fun e w' => e = .returned (.bool (portIn xs p)) ∧ Ext w w' := by
  refine quiet_start fun e => ?_
  have hn := hx.nle
  have EV : Hid (portIn xs p = (inB p.agent 0 ((n : Int) - 1) && inB p.slot 0 (((agentAt xs p.agent.toNat).ports.length : Int) - 1))) := by show _ = _; rw [← Hl.out]; rfl
  go_enter Try.func277, Try.ntmps277
  go_upto_region 1 with (fail)
  generalize hgg : e.to.heap.size = g
  refine rebase_box e hgg (fun w1 e hx1 hgeg hltg cg => ?_)
  clear hgg
  replace hx := hx.below hx1
  obtain ⟨k0, k1⟩ := GPort.pt0 (PtAt.box hltg cg GPort.mk_)
  have C1 : Hid (QC Try.prog w1 _ _ _) := fun W hW => (l00In_any p.agent 0 ((n : Int) - 1) W).q
  cases d1 : inB p.agent 0 ((n : Int) - 1)
  case false =>
    (try rw [d1] at C1)
    have hw0 : IntKind.i64.wrap ((n : Int) - 1) = (n : Int) - 1 := IntWalk.i64_in _ (by omega)
    have E : Hid (portIn xs p = false) := by show _ = _; rw [EV.out, d1]; rfl
    go_wp2_with (first | (go_at_call 115; with_reducible refine (C1.out.at_ _).mono ?_; rintro _ _ ⟨rfl, e, rfl⟩))
    repeat (refine wp_region_ext0 _ (by kernel_rfl) (by kernel_rfl) ?_; (repeat (go_big_quiet_step ((first | with_reducible exact C1.out.at_ _)))); refine wpQuiet_nil ?_; intro e; go_wp2_with (first | (go_at_call 115; with_reducible refine (C1.out.at_ _).mono ?_; rintro _ _ ⟨rfl, e, rfl⟩)))
    go_ret
    exact ⟨by rw [E.out]; rfl, ExtOf.old hx1 e⟩
  (try rw [d1] at C1)
  have hr := inB_t d1
  obtain ⟨i, hi⟩ := Int.eq_ofNat_of_zero_le hr.1
  have hlt : i < n := by omega
  obtain ⟨b, off, x, bs', rfl, hxk, hp⟩ := T1.elem GAgent.enc_len hx Hl hlt
  obtain ⟨A3, c3, b3, A4, c4, b4, h0, h1, h2, h3, h4, t3, t4⟩ := GAgent.pt hp
  have hn4 := t4.nle
  clear h0 h1 h2 h3 t3
  have EA : Hid (agentAt xs p.agent.toNat = x) := by show _ = _; rw [hi, Int.toNat_natCast]; exact agentAt_of hxk
  rw [hi] at k0 d1 C1
  have Hi := Lib.hid hi
  clear hi
  have C2 : Hid (QC Try.prog w1 _ _ _) := fun W hW => (l00In_any p.slot 0 ((x.ports.length : Int) - 1) W).q
  have hw0 : IntKind.i64.wrap ((n : Int) - 1) = (n : Int) - 1 := IntWalk.i64_in _ (by omega)
  have hw1 : IntKind.i64.wrap ((x.ports.length : Int) - 1) = (x.ports.length : Int) - 1 := IntWalk.i64_in _ (by omega)
  have E : Hid (portIn xs p = inB p.slot 0 ((x.ports.length : Int) - 1)) := by show _ = _; rw [EV.out, EA.out, Hi.out, d1]; rfl
  go_wp2_with (first | (go_at_call 115; with_reducible refine (C1.out.at_ _).mono ?_; rintro _ _ ⟨rfl, e, rfl⟩) | (go_at_call 115; with_reducible refine (C2.out.at_ _).mono ?_; rintro _ _ ⟨rfl, e, rfl⟩))
  repeat (refine wp_region_ext0 _ (by kernel_rfl) (by kernel_rfl) ?_; (repeat (go_big_quiet_step ((first | with_reducible exact C1.out.at_ _ | with_reducible exact C2.out.at_ _)))); refine wpQuiet_nil ?_; intro e; go_wp2_with (first | (go_at_call 115; with_reducible refine (C1.out.at_ _).mono ?_; rintro _ _ ⟨rfl, e, rfl⟩) | (go_at_call 115; with_reducible refine (C2.out.at_ _).mono ?_; rintro _ _ ⟨rfl, e, rfl⟩)))
  go_ret
  exact ⟨by rw [E.out]; rfl, ExtOf.old hx1 e⟩

set_option maxRecDepth 100000 in
set_option maxHeartbeats 4000000 in
theorem l11Ok_any (x : GNet) (b o : Nat) (bs : List Nat) (w : World) (h : PtAt w b o x.enc bs) : Calls Try.prog 252 #[.pointer (some ⟨b, o, none⟩)] w fun e w' => e = .returned (.bool (netB x)) ∧ Ext w w' := by
  refine quiet_start fun e => ?_
  obtain ⟨A0, c0, b0, h0, t0⟩ := GNet.pt h
  have hn0 := t0.nle
  have EV : Hid (netB x = (agentsB x.agents && allTo x.agents.length (wiresOk x.agents))) := rfl
  have C1 : Hid (QC Try.prog w _ _ _) := fun W hW => l11Agents_any x.agents _ W (t0.below hW) Hid_rfl
  go_enter Try.func252, Try.ntmps252
  cases d1 : agentsB x.agents
  case false =>
    (try rw [d1] at C1)
    have E : Hid (netB x = false) := by show _ = _; rw [EV.out, d1]; rfl
    go_wp2_with (first | (go_at_call 276; with_reducible refine (C1.out.at_ _).mono ?_; rintro _ _ ⟨rfl, e, rfl⟩))
    repeat (refine wp_region_ext0 _ (by kernel_rfl) (by kernel_rfl) ?_; (repeat (go_big_quiet_step ((first | with_reducible exact C1.out.at_ _)))); refine wpQuiet_nil ?_; intro e; go_wp2_with (first | (go_at_call 276; with_reducible refine (C1.out.at_ _).mono ?_; rintro _ _ ⟨rfl, e, rfl⟩)))
    go_ret
    exact ⟨by rw [E.out]; rfl, _, rfl⟩
  (try rw [d1] at C1)
  go_wp2_with (first | (go_at_call 276; with_reducible refine (C1.out.at_ _).mono ?_; rintro _ _ ⟨rfl, e, rfl⟩))
  repeat (refine wp_region_ext0 _ (by kernel_rfl) (by kernel_rfl) ?_; (repeat (go_big_quiet_step ((first | with_reducible exact C1.out.at_ _)))); refine wpQuiet_nil ?_; intro e; go_wp2_with (first | (go_at_call 276; with_reducible refine (C1.out.at_ _).mono ?_; rintro _ _ ⟨rfl, e, rfl⟩)))
  go_loopw [3] (fun i w' => ∃ k : Nat, k ≤ x.agents.length ∧ i = .int .i64 k ∧ Hid (allTo k (wiresOk x.agents) = true) ∧ ∃ e : ExtOf w, w' = e.to) (fun i _ => x.agents.length - (intOf i).toNat)
  case atStart => exact ⟨0, Nat.zero_le _, rfl, allTo_0 _, _, rfl⟩
  case round =>
    obtain ⟨k, hk, rfl, hfk, e, rfl⟩ := hrel
    by_cases hltk : k < x.agents.length
    · skip
      obtain ⟨b', off, y, bs', rfl, hyk, hp⟩ := T1.elem GAgent.enc_len t0 Hid_rfl hltk
      obtain ⟨A3, c3, b3, A4, c4, b4, g0, g1, g2, g3, g4, t3, t4⟩ := GAgent.pt hp
      have hn4 := t4.nle
      clear g0 g1 g2 g3 t3
      have EK : Hid (wiresOk x.agents k = allTo y.ports.length fun j => wireB x.agents ⟨k, j⟩ (portAt y.ports j)) := by show _ = _; rw [wiresOk, agentAt_of hyk]
      go_wp2_with fail
      repeat (refine wp_region_ext0 _ (by kernel_rfl) (by kernel_rfl) ?_; (repeat (go_big_quiet_step (fail))); refine wpQuiet_nil ?_; intro e; go_wp2_with fail)
      go_loopw [5] (fun i w' => ∃ j : Nat, j ≤ y.ports.length ∧ i = .int .i64 j ∧ Hid (allTo j (fun j => wireB x.agents ⟨k, j⟩ (portAt y.ports j)) = true) ∧ ∃ e : ExtOf w, w' = e.to) (fun i _ => y.ports.length - (intOf i).toNat)
      case atStart => exact ⟨0, Nat.zero_le _, rfl, allTo_0 _, _, rfl⟩
      case round =>
        obtain ⟨j, hj, rfl, hfj, e, rfl⟩ := hrel
        by_cases hltj : j < y.ports.length
        · skip
          obtain ⟨bq, oq, q, bs2, rfl, hqj, hq⟩ := T1.elem GPort.enc_len t4 Hid_rfl hltj
          obtain ⟨q0, q1⟩ := GPort.pt hq
          have EJ : Hid (wireB x.agents ⟨k, j⟩ (portAt y.ports j) = wireB x.agents ⟨k, j⟩ q) := by show _ = _; rw [portAt_of hqj]
          go_upto_region 11 with (fail)
          generalize hgga : e.to.heap.size = ga
          refine rebase_box e hgga (fun w1 e hx1 hgega hltga cga => ?_)
          clear hgga
          replace h0 := h0.ext hx1
          replace g4 := g4.ext hx1
          replace q0 := q0.ext hx1
          replace q1 := q1.ext hx1
          replace t0 := t0.below hx1
          replace t4 := t4.below hx1
          obtain ⟨k0, k1⟩ := GPort.pt0 (x := ⟨k, j⟩) (PtAt.box hltga cga GPort.mk_)
          simp only [] at k0 k1
          clear cga
          go_upto_region 12 with (fail)
          generalize hggb : e.to.heap.size = gb
          refine rebase_box e hggb (fun w2 e hx2 hgegb hltgb cgb => ?_)
          clear hggb
          replace h0 := h0.ext hx2
          replace g4 := g4.ext hx2
          replace k0 := k0.ext hx2
          replace k1 := k1.ext hx2
          replace t0 := t0.below hx2
          replace t4 := t4.below hx2
          have hy2 := Ext.trans hx1 hx2
          obtain ⟨p0, p1⟩ := GPort.pt0 (x := q) (PtAt.box hltgb cgb GPort.mk_)
          clear cgb q0 q1
          have hg := portG
          have heq := fun W => portEql W q ⟨k, j⟩
          dsimp only at heq
          have C2 : Hid (QC Try.prog w2 _ _ _) := fun W hW => l11Port_any x.agents _ q W (t0.below hW) Hid_rfl
          cases d2 : eqb q ⟨k, j⟩
          case true =>
            (try rw [d2] at C2)
            have E : Hid (netB x = false) := by show _ = _; rw [EV.out, allTo_f hltk (by rw [EK.out]; exact allTo_f hltj (by rw [EJ.out]; simp [wireB, d2]))]; simp
            go_wp2_with (first | (go_at_call 277; with_reducible refine (C2.out.at_ _).mono ?_; rintro _ _ ⟨rfl, e, rfl⟩))
            repeat (refine wp_region_ext0 _ (by kernel_rfl) (by kernel_rfl) ?_; (repeat (go_big_quiet_step ((first | with_reducible exact C2.out.at_ _)))); refine wpQuiet_nil ?_; intro e; go_wp2_with (first | (go_at_call 277; with_reducible refine (C2.out.at_ _).mono ?_; rintro _ _ ⟨rfl, e, rfl⟩)))
            go_ret
            exact ⟨by rw [E.out]; rfl, ExtOf.old hy2 e⟩
          (try rw [d2] at C2)
          cases d3 : portIn x.agents q
          case false =>
            (try rw [d3] at C2)
            have E : Hid (netB x = false) := by show _ = _; rw [EV.out, allTo_f hltk (by rw [EK.out]; exact allTo_f hltj (by rw [EJ.out]; simp [wireB, d2, d3]))]; simp
            go_wp2_with (first | (go_at_call 277; with_reducible refine (C2.out.at_ _).mono ?_; rintro _ _ ⟨rfl, e, rfl⟩))
            repeat (refine wp_region_ext0 _ (by kernel_rfl) (by kernel_rfl) ?_; (repeat (go_big_quiet_step ((first | with_reducible exact C2.out.at_ _)))); refine wpQuiet_nil ?_; intro e; go_wp2_with (first | (go_at_call 277; with_reducible refine (C2.out.at_ _).mono ?_; rintro _ _ ⟨rfl, e, rfl⟩)))
            go_ret
            exact ⟨by rw [E.out]; rfl, ExtOf.old hy2 e⟩
          (try rw [d3] at C2)
          obtain ⟨i, s, a, r, rfl, hi, ha, hs, hr, hpeer⟩ := portIn_t d3
          have Hpeer := Lib.hid hpeer
          clear hpeer
          obtain ⟨bz, oz, z, bs3, hA0, hzi, hz⟩ := T1.elem GAgent.enc_len t0 Hid_rfl hi
          obtain ⟨_, rfl⟩ : True ∧ z = a := ⟨trivial, Option.some.inj (hzi.out.symm.trans ha.out)⟩
          obtain ⟨rfl, rfl⟩ : b' = bz ∧ off = oz := by simpa using hA0
          clear hA0
          obtain ⟨A3, c3, b3, A5, c5, b5, u0, u1, u2, u3, u4, t3, t5⟩ := GAgent.pt hz
          have hn5 := t5.nle
          clear u0 u1 u2 u3 t3
          obtain ⟨bt, ot, r', bs4, rfl, hrs, hrr⟩ := T1.elem GPort.enc_len t5 Hid_rfl hs
          obtain ⟨_, rfl⟩ : True ∧ r' = r := ⟨trivial, Option.some.inj (hrs.out.symm.trans hr.out)⟩
          obtain ⟨r0, r1⟩ := GPort.pt hrr
          have hne := fun W => portNeq W r' ⟨k, j⟩
          dsimp only at hne
          cases d4 : eqb r' ⟨k, j⟩
          case false =>
            (try rw [d4] at C2)
            have E : Hid (netB x = false) := by show _ = _; rw [EV.out, allTo_f hltk (by rw [EK.out]; exact allTo_f hltj (by rw [EJ.out]; simp [wireB, Hpeer.out, d2, d3, d4]))]; simp
            go_wp2_with (first | (go_at_call 277; with_reducible refine (C2.out.at_ _).mono ?_; rintro _ _ ⟨rfl, e, rfl⟩))
            repeat (refine wp_region_ext0 _ (by kernel_rfl) (by kernel_rfl) ?_; (repeat (go_big_quiet_step ((first | with_reducible exact C2.out.at_ _)))); refine wpQuiet_nil ?_; intro e; go_wp2_with (first | (go_at_call 277; with_reducible refine (C2.out.at_ _).mono ?_; rintro _ _ ⟨rfl, e, rfl⟩)))
            go_ret
            exact ⟨by rw [E.out]; rfl, ExtOf.old hy2 e⟩
          (try rw [d4] at C2)
          have E : Hid (wireB x.agents ⟨k, j⟩ (portAt y.ports j) = true) := by show _ = _; rw [EJ.out]; simp [wireB, Hpeer.out, d2, d3, d4]
          go_wp2_with (first | (go_at_call 277; with_reducible refine (C2.out.at_ _).mono ?_; rintro _ _ ⟨rfl, e, rfl⟩))
          repeat (refine wp_region_ext0 _ (by kernel_rfl) (by kernel_rfl) ?_; (repeat (go_big_quiet_step ((first | with_reducible exact C2.out.at_ _)))); refine wpQuiet_nil ?_; intro e; go_wp2_with (first | (go_at_call 277; with_reducible refine (C2.out.at_ _).mono ?_; rintro _ _ ⟨rfl, e, rfl⟩)))
          exact ⟨⟨j+1, by omega, by go_num, allTo_succ hfj E.out, ⟨e.to, hy2.trans e.h⟩, rfl⟩, by simp [intOf]; omega⟩
        · have : y.ports.length = j := by omega
          subst this
          have E : Hid (wiresOk x.agents k = true) := by show _ = _; rw [EK.out]; exact hfj.out
          go_wp2_with fail
          repeat (refine wp_region_ext0 _ (by kernel_rfl) (by kernel_rfl) ?_; (repeat (go_big_quiet_step (fail))); refine wpQuiet_nil ?_; intro e; go_wp2_with fail)
          exact ⟨⟨k+1, by omega, by go_num, allTo_succ hfk E.out, _, rfl⟩, by simp [intOf]; omega⟩
    · have : x.agents.length = k := by omega
      subst this
      have E : Hid (netB x = true) := by show _ = _; rw [EV.out, d1, hfk.out]; rfl
      go_wp2_with fail
      repeat (refine wp_region_ext0 _ (by kernel_rfl) (by kernel_rfl) ?_; (repeat (go_big_quiet_step (fail))); refine wpQuiet_nil ?_; intro e; go_wp2_with fail)
      go_ret
      exact ⟨by rw [E.out]; rfl, _, rfl⟩
end Go.Proofs.Ytmmdkchhahnenaa
