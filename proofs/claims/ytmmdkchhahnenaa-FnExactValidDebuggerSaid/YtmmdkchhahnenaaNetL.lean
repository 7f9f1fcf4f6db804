/- The program's tests of agents, its ports in a row. Printed by gen_neti.py. -/
import Derived.Test.YtmmdkchhahnenaaProg
import Derived.Test.YtmmdkchhahnenaaAgents
import Derived.Test.YtmmdkchhahnenaaNet
import Derived.Test.YtmmdkchhahnenaaQDbg
import Derived.Test.YtmmdkchhahnenaaGrow
import Derived.Test.YtmmdkchhahnenaaNetJ
import Derived.Test.YtmmdkchhahnenaaNetK
import Derived.Test.YtmmdkchhahnenaaNetP
import Derived.BigGuardPart
import Derived.Outline
import Derived.Deep.CutBlock
set_option linter.unusedSimpArgs false
set_option linter.unusedVariables false
namespace Go.Proofs.Ytmmdkchhahnenaa
open Go Go.RowKit Go.Proofs Go.Tr
set_option maxHeartbeats 4000000 in
theorem areAgents_any (xs : List GAgent) (n : Nat) {A : Option Addr} {c : Nat} {bs : List Nat} (w : World) (hx : T1 w (.sl n (xs.flatMap GAgent.enc)) bs (.slice A n c)) (Hl : Hid (xs.length = n)) : Calls Try.prog 255 #[.slice A n c] w fun e w' => e = .returned (.bool (agentsB xs)) ∧ Ext w w' := by
  refine quiet_start fun e => ?_
  have hn := hx.nle
  have EV : Hid (agentsB xs = (inB n 1 600 && allTo n (agentOk xs))) := by show _ = _; rw [← Hl.out]; rfl
  go_enter Try.func255, Try.ntmps255
  cases d1 : decide ((n : Int) < 1)
  case true =>
    have E : Hid (agentsB xs = false) := by show _ = _; rw [EV.out, inB_no (by simp at d1; omega)]; rfl
    go_wp2_with fail
    repeat (refine wp_region_ext0 _ (by kernel_rfl) (by kernel_rfl) ?_; (repeat (go_big_quiet_step (fail))); refine wpQuiet_nil ?_; intro e; go_wp2_with fail)
    go_ret
    exact ⟨by rw [E.out]; rfl, _, rfl⟩
  cases d2 : decide ((600 : Int) < n)
  case true =>
    have E : Hid (agentsB xs = false) := by show _ = _; rw [EV.out, inB_no (by simp at d2; omega)]; rfl
    go_wp2_with fail
    repeat (refine wp_region_ext0 _ (by kernel_rfl) (by kernel_rfl) ?_; (repeat (go_big_quiet_step (fail))); refine wpQuiet_nil ?_; intro e; go_wp2_with fail)
    go_ret
    exact ⟨by rw [E.out]; rfl, _, rfl⟩
  have hin : inB n 1 600 = true := inB_mk (by simp at d1; omega) (by simp at d2; omega)
  have Hin := Lib.hid hin
  clear hin
  go_wp2_with fail
  repeat (refine wp_region_ext0 _ (by kernel_rfl) (by kernel_rfl) ?_; (repeat (go_big_quiet_step (fail))); refine wpQuiet_nil ?_; intro e; go_wp2_with fail)
  go_loopw [3, 15] (fun _ i w' => ∃ k : Nat, k ≤ n ∧ i = .int .i64 k ∧ Hid (allTo k (agentOk xs) = true) ∧ ∃ e : ExtOf w, w' = e.to) (fun _ i _ => n - (intOf i).toNat)
  case atStart => exact ⟨0, Nat.zero_le _, rfl, allTo_0 _, _, rfl⟩
  case round =>
    obtain ⟨k, hk, rfl, hfk, e, rfl⟩ := hrel
    by_cases hltk : k < n
    · skip
      obtain ⟨b, off, x, bs', rfl, hxk, hp⟩ := T1.elem GAgent.enc_len hx Hl hltk
      obtain ⟨A3, c3, b3, A4, c4, b4, h0, h1, h2, h3, h4, t3, t4⟩ := GAgent.pt hp
      clear hp
      go_upto_region 6 with (fail)
      generalize hgg : e.to.heap.size = g
      refine rebase_box e hgg (fun w1 e hx1 hgeg hltg cg => ?_)
      clear hgg
      replace t3 := t3.below hx1
      replace t4 := t4.below hx1
      have u0 := cg.always hltg 0 _ rfl
      have u1 := cg.always hltg 1 _ rfl
      have u2 := cg.always hltg 2 _ rfl
      have u3 := cg.always hltg 3 _ rfl
      have u4 := cg.always hltg 4 _ rfl
      simp only [Nat.zero_add] at u0 u1 u2 u3 u4
      clear cg
      clear h0 h1 h2 h3 h4
      have C1 : Hid (QC Try.prog w1 _ _ _) := fun W hW => wellFormed_any x W (GAgent.mk_ (t3.below hW) (t4.below hW))
      have EK : Hid (agentOk xs k = (agentB x && ((x.kind == 1) == ((k : Int) == 0)))) := by show _ = _; rw [agentOk, agentAt_of hxk]
      cases d3 : agentB x
      case false =>
        (try rw [d3] at C1)
        have E : Hid (agentsB xs = false) := by show _ = _; rw [EV.out, allTo_f hltk (by rw [EK.out, d3]; rfl)]; simp
        go_wp2_with (first | (go_at_call 278; with_reducible refine (C1.out.at_ _).mono ?_; rintro _ _ ⟨rfl, e, rfl⟩))
        repeat (refine wp_region_ext0 _ (by kernel_rfl) (by kernel_rfl) ?_; (repeat (go_big_quiet_step ((first | with_reducible exact C1.out.at_ _)))); refine wpQuiet_nil ?_; intro e; go_wp2_with (first | (go_at_call 278; with_reducible refine (C1.out.at_ _).mono ?_; rintro _ _ ⟨rfl, e, rfl⟩)))
        go_ret
        exact ⟨by rw [E.out]; rfl, ExtOf.old hx1 e⟩
      (try rw [d3] at C1)
      cases d4 : (x.kind == 1)
      case false =>
        (try rw [d4] at C1)
        cases d5 : ((k : Int) == 0)
        case true =>
          (try rw [d5] at C1)
          have E : Hid (agentsB xs = false) := by show _ = _; rw [EV.out, allTo_f hltk (by rw [EK.out, d3, d4, d5]; rfl)]; simp
          go_wp2_with (first | (go_at_call 278; with_reducible refine (C1.out.at_ _).mono ?_; rintro _ _ ⟨rfl, e, rfl⟩))
          repeat (refine wp_region_ext0 _ (by kernel_rfl) (by kernel_rfl) ?_; (repeat (go_big_quiet_step ((first | with_reducible exact C1.out.at_ _)))); refine wpQuiet_nil ?_; intro e; go_wp2_with (first | (go_at_call 278; with_reducible refine (C1.out.at_ _).mono ?_; rintro _ _ ⟨rfl, e, rfl⟩)))
          go_ret
          exact ⟨by rw [E.out]; rfl, ExtOf.old hx1 e⟩
        (try rw [d5] at C1)
        have E : Hid (agentOk xs k = true) := by show _ = _; rw [EK.out, d3, d4, d5]; rfl
        go_wp2_with (first | (go_at_call 278; with_reducible refine (C1.out.at_ _).mono ?_; rintro _ _ ⟨rfl, e, rfl⟩))
        repeat (refine wp_region_ext0 _ (by kernel_rfl) (by kernel_rfl) ?_; (repeat (go_big_quiet_step ((first | with_reducible exact C1.out.at_ _)))); refine wpQuiet_nil ?_; intro e; go_wp2_with (first | (go_at_call 278; with_reducible refine (C1.out.at_ _).mono ?_; rintro _ _ ⟨rfl, e, rfl⟩)))
        exact ⟨⟨k+1, by omega, by go_num, allTo_succ hfk E.out, ⟨e.to, hx1.trans e.h⟩, rfl⟩, by simp [intOf]; omega⟩
      (try rw [d4] at C1)
      cases d6 : ((k : Int) == 0)
      case false =>
        (try rw [d6] at C1)
        have E : Hid (agentsB xs = false) := by show _ = _; rw [EV.out, allTo_f hltk (by rw [EK.out, d3, d4, d6]; rfl)]; simp
        go_wp2_with (first | (go_at_call 278; with_reducible refine (C1.out.at_ _).mono ?_; rintro _ _ ⟨rfl, e, rfl⟩))
        repeat (refine wp_region_ext0 _ (by kernel_rfl) (by kernel_rfl) ?_; (repeat (go_big_quiet_step ((first | with_reducible exact C1.out.at_ _)))); refine wpQuiet_nil ?_; intro e; go_wp2_with (first | (go_at_call 278; with_reducible refine (C1.out.at_ _).mono ?_; rintro _ _ ⟨rfl, e, rfl⟩)))
        go_ret
        exact ⟨by rw [E.out]; rfl, ExtOf.old hx1 e⟩
      (try rw [d6] at C1)
      have E : Hid (agentOk xs k = true) := by show _ = _; rw [EK.out, d3, d4, d6]; rfl
      go_wp2_with (first | (go_at_call 278; with_reducible refine (C1.out.at_ _).mono ?_; rintro _ _ ⟨rfl, e, rfl⟩))
      repeat (refine wp_region_ext0 _ (by kernel_rfl) (by kernel_rfl) ?_; (repeat (go_big_quiet_step ((first | with_reducible exact C1.out.at_ _)))); refine wpQuiet_nil ?_; intro e; go_wp2_with (first | (go_at_call 278; with_reducible refine (C1.out.at_ _).mono ?_; rintro _ _ ⟨rfl, e, rfl⟩)))
      exact ⟨⟨k+1, by omega, by go_num, allTo_succ hfk E.out, ⟨e.to, hx1.trans e.h⟩, rfl⟩, by simp [intOf]; omega⟩
    · have : n = k := by omega
      subst this
      have E : Hid (agentsB xs = true) := by show _ = _; rw [EV.out, Hin.out, hfk.out]; rfl
      go_wp2_with fail
      repeat (refine wp_region_ext0 _ (by kernel_rfl) (by kernel_rfl) ?_; (repeat (go_big_quiet_step (fail))); refine wpQuiet_nil ?_; intro e; go_wp2_with fail)
      go_ret
      exact ⟨by rw [E.out]; rfl, _, rfl⟩

set_option maxHeartbeats 2000000 in
theorem hasPort_any (xs : List GAgent) (n : Nat) {A : Option Addr} {c : Nat} {bs : List Nat} (p : GPort) (w : World) (hx : T1 w (.sl n (xs.flatMap GAgent.enc)) bs (.slice A n c)) (Hl : Hid (xs.length = n)) : Calls Try.prog 260 #[.slice A n c, .agg #[.int .i64 p.agent, .int .i64 p.slot]] w fun e w' => e = .returned (.bool (portIn xs p)) ∧ Ext w w' := by
  refine quiet_start fun e => ?_
  have hn := hx.nle
  have EV : Hid (portIn xs p = (inB p.agent 0 ((n : Int) - 1) && inB p.slot 0 (((agentAt xs p.agent.toNat).ports.length : Int) - 1))) := by show _ = _; rw [← Hl.out]; rfl
  go_enter Try.func260, Try.ntmps260
  go_upto_region 1 with (fail)
  generalize hgg : e.to.heap.size = g
  refine rebase_box e hgg (fun w1 e hx1 hgeg hltg cg => ?_)
  clear hgg
  replace hx := hx.below hx1
  obtain ⟨k0, k1⟩ := GPort.pt0 (PtAt.box hltg cg GPort.mk_)
  cases d1 : decide (0 ≤ p.agent)
  case false =>
    have E : Hid (portIn xs p = false) := by show _ = _; rw [EV.out, inB_no (by simp at d1; omega)]; rfl
    go_wp2_with fail
    repeat (refine wp_region_ext0 _ (by kernel_rfl) (by kernel_rfl) ?_; (repeat (go_big_quiet_step (fail))); refine wpQuiet_nil ?_; intro e; go_wp2_with fail)
    go_ret
    exact ⟨by rw [E.out]; rfl, ExtOf.old hx1 e⟩
  cases d2 : decide (p.agent < (n : Int))
  case false =>
    have E : Hid (portIn xs p = false) := by show _ = _; rw [EV.out, inB_no (by simp at d2; omega)]; rfl
    go_wp2_with fail
    repeat (refine wp_region_ext0 _ (by kernel_rfl) (by kernel_rfl) ?_; (repeat (go_big_quiet_step (fail))); refine wpQuiet_nil ?_; intro e; go_wp2_with fail)
    go_ret
    exact ⟨by rw [E.out]; rfl, ExtOf.old hx1 e⟩
  cases d3 : decide (0 ≤ p.slot)
  case false =>
    have E : Hid (portIn xs p = false) := by show _ = _; rw [EV.out, inB_no (n := p.slot) (by simp at d3; omega), Bool.and_false]
    go_wp2_with fail
    repeat (refine wp_region_ext0 _ (by kernel_rfl) (by kernel_rfl) ?_; (repeat (go_big_quiet_step (fail))); refine wpQuiet_nil ?_; intro e; go_wp2_with fail)
    go_ret
    exact ⟨by rw [E.out]; rfl, ExtOf.old hx1 e⟩
  have ha0 : 0 ≤ p.agent := by simpa using d1
  have ha1 : p.agent < (n : Int) := by simpa using d2
  obtain ⟨i, hi⟩ := Int.eq_ofNat_of_zero_le ha0
  have hlt : i < n := by omega
  obtain ⟨b, off, x, bs', rfl, hxk, hp⟩ := T1.elem GAgent.enc_len hx Hl hlt
  obtain ⟨A3, c3, b3, A4, c4, b4, h0, h1, h2, h3, h4, t3, t4⟩ := GAgent.pt hp
  have hn4 := t4.nle
  clear h0 h1 h2 h3 t3
  have EA : Hid (agentAt xs p.agent.toNat = x) := by show _ = _; rw [hi, Int.toNat_natCast]; exact agentAt_of hxk
  have EI : Hid (inB p.agent 0 ((n : Int) - 1) = true) := inB_mk ha0 (by omega)
  rw [hi] at k0 d1 d2
  have i0 : (0 : Int) ≤ (i : Int) := by omega
  have i1 : (i : Int) < (n : Int) := by omega
  clear hi ha0 ha1
  have E : Hid (portIn xs p = decide (p.slot < (x.ports.length : Int))) := by show _ = _; rw [EV.out, EA.out, EI.out, Bool.true_and]; unfold inB; rw [show decide ((0 : Int) ≤ p.slot) = true from d3, Bool.true_and]; rw [Bool.eq_iff_iff]; simp; omega
  go_wp2_with fail
  repeat (refine wp_region_ext0 _ (by kernel_rfl) (by kernel_rfl) ?_; (repeat (go_big_quiet_step (fail))); refine wpQuiet_nil ?_; intro e; go_wp2_with fail)
  go_ret
  exact ⟨by rw [E.out]; rfl, ExtOf.old hx1 e⟩

theorem portElem : ElemOk Try.prog 225 286 2 := ElemOk.of Try.underlying225 (by kernel_rfl) (by omega)
set_option maxRecDepth 100000 in
set_option maxHeartbeats 4000000 in
theorem ports_any (x : GNet) (b o : Nat) (bs : List Nat) (w : World) (h : PtAt w b o x.enc bs) (hok : agentsB x.agents = true) : Calls Try.prog 257 #[.pointer (some ⟨b, o, none⟩)] w fun e w' =>
    Ext w w' ∧ ∃ A c bs', e = .returned (.slice A (portsTo x.agents x.agents.length).length c) ∧ T1 w' (.sl (portsTo x.agents x.agents.length).length ((portsTo x.agents x.agents.length).flatMap GPort.enc)) bs' (.slice A (portsTo x.agents x.agents.length).length c) := by
  obtain ⟨A0, c0, b0, h0, t0⟩ := GNet.pt h
  have hn0 := t0.nle
  obtain ⟨hk1, hk2, hall⟩ := agentsB_all hok
  have Hall := Lib.hid hall
  clear hall hok
  refine ext_start fun e => ?_
  go_enter Try.func257, Try.ntmps257
  go_wp2_with fail
  go_loopw [3, 12] (fun v i wr => ∃ k : Nat, k ≤ x.agents.length ∧ i = .int .i64 k ∧ ∃ e : ExtOf w, wr = e.to ∧ e.to.ownsRow w.heap.size 286 2 v (portsTo x.agents k).length ((portsTo x.agents k).flatMap GPort.cells)) (fun _ i _ => x.agents.length - (intOf i).toNat)
  case atStart => exact ⟨0, Nat.zero_le _, rfl, _, rfl, World.ownsRow_nil _ _ _ _⟩
  case round =>
    obtain ⟨k, hk, rfl, e, rfl, ho⟩ := hrel
    by_cases hlt : k < x.agents.length
    · obtain ⟨b', off, y, bs', rfl, hyk, hp⟩ := T1.elem GAgent.enc_len t0 Hid_rfl hlt
      obtain ⟨A3, c3, b3, A4, c4, b4, g0, g1, g2, g3, g4, t3, t4⟩ := GAgent.pt hp
      have hn4 := t4.nle
      have HA : Hid (agentAt x.agents k = y) := agentAt_of hyk
      have hy4 : y.ports.length ≤ 4 := by have := agentOk_ports (Hall.out k hlt); rw [HA.out] at this; exact this
      have hle : (portsTo x.agents k).length ≤ 4 * k := portsTo_le fun j hj => Hall.out j (by omega)
      clear t3 t4 hp
      go_wp2_with fail
      go_loopw [3, 20] (fun v i wr => ∃ j : Nat, j ≤ y.ports.length ∧ i = .int .i64 j ∧ ∃ e : ExtOf w, wr = e.to ∧ e.to.ownsRow w.heap.size 286 2 v ((portsTo x.agents k).length + j) ((portsTo x.agents k).flatMap GPort.cells ++ (portsAt k j).flatMap GPort.cells)) (fun _ i _ => y.ports.length - (intOf i).toNat)
      case atStart => exact ⟨0, Nat.zero_le _, rfl, ⟨_, e.h.alloc e.h.size _⟩, rfl, by simpa [portsAt] using ho.alloc _⟩
      case round =>
        obtain ⟨j, hj, rfl, e, rfl, ho⟩ := hrel
        by_cases hltj : j < y.ports.length
        · have hge := e.h.size
          go_wp2_with (at_builtin; refine wpList_app rfl (.tmp 23) (.tmp 27) 225 rfl portElem w.heap.size _ _ _ rfl (ho.alloc _) e.to.heap.size 1 1 #[.int .i64 (k : Int), .int .i64 (j : Int)] rfl (heap_alloc_new e.to _) rfl rfl (by omega) (by simp; omega) ?_; intro v' w2 ho2 hg2)
          have hx2 : Ext w w2 := Ext.grown (e.h.alloc e.h.size _) hg2 (own_row_ge ho)
          go_roundw
          case rel => exact ⟨j + 1, by omega, by go_num, ⟨w2, hx2⟩, rfl, by rw [portsAt_succ, List.flatMap_append, ← List.append_assoc]; exact ho2⟩
          case measure => simp [intOf]; omega
        · have : y.ports.length = j := by omega
          subst this
          go_wp2_with fail
          go_roundw
          case rel => exact ⟨k + 1, by omega, by go_num, e, rfl, by rw [portsTo_succ, HA.out, List.flatMap_append, List.length_append]; simpa [portsAt] using ho⟩
          case measure => simp [intOf]; omega
    · have : x.agents.length = k := by omega
      subst this
      go_wp2_with fail
      go_ret
      obtain ⟨A, c, bs', rfl, ht⟩ := ownsRow_t1 ho (TN.flats GPort.cells (fun _ => rfl) _)
      exact ⟨e, rfl, A, c, bs', rfl, ht⟩
end Go.Proofs.Ytmmdkchhahnenaa
