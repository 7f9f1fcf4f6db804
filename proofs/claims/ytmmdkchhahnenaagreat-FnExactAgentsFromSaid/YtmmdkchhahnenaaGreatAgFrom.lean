/- Agents of an origin: the program's and the reference's. Printed by gen_af.py. -/
import Derived.Test.YtmmdkchhahnenaaGreatValT
import Derived.Test.YtmmdkchhahnenaaGreatValK
import Derived.Test.YtmmdkchhahnenaaGreatSel
import Derived.BigGuardPart
import Derived.Outline
import Derived.Deep.CutBlock
set_option linter.unusedSimpArgs false
set_option linter.unusedVariables false
namespace Go.Tr
def fromOk (xs : List GOrigin) (d s : Int) (k : Nat) : Bool := (originAt xs k).def_ == d && (originAt xs k).source == s
noncomputable def agentsFrom (x : GDebugger) (d s : Int) : List Int × Int :=
  if debuggerB x then (if inB d (-1) 23 && inB s 0 599 then (selTo x.origins.length (fromOk x.origins d s), 0) else ([], 2)) else ([], 1)
theorem agentsFrom_small (x : GDebugger) (d s : Int) (r0 : List Int) (r1 : Int) (h : (r0, r1) = agentsFrom x d s) (hs : x.small) : cN (r0.flatMap intE) ≤ 1099511627776 := by
  rw [cN_ints]
  have hl : x.origins.length ≤ 1048576 := hs.2.2.2.1.1
  unfold agentsFrom at h
  split at h
  · split at h
    · have := selTo_len x.origins.length (fromOk x.origins d s)
      injection h with h1 h2; subst h1; omega
    · injection h with h1 h2; subst h1; simp
  · injection h with h1 h2; subst h1; simp
theorem debugger_origins {x : GDebugger} (h : debuggerB x = true) : x.origins.length ≤ 600 := by
  simp only [debuggerB, Bool.and_eq_true, keptB, beq_iff_eq] at h
  have hk := h.1.1.1.1.2
  have h1 := hk.1.1
  have h2 := hk.1.2
  have h3 : inB x.net.agents.length 1 600 = true := by
    have := h1; simp only [netB, agentsB, Bool.and_eq_true] at this; exact this.1.1
  have := inB_t h3
  omega
end Go.Tr
namespace Go.Proofs.YtmmdkchhahnenaaGreat
open Go Go.RowKit Go.Proofs Go.Tr
theorem int64Elem : ElemOk Tryz.prog 48 2 1 := ElemOk.of Tryz.underlying48 (by kernel_rfl) (by omega)
set_option maxRecDepth 100000 in
set_option maxHeartbeats 8000000 in
theorem agentsFromS_any (a0 : GDebugger) {p0 : List Nat} {u0 : List Value} (a1 : Int) (a2 : Int) (r0 : (List Int)) (r1 : Int) (hR : (r0, r1) = agentsFrom a0 a1 a2) (w : World) (h0 : TN w a0.enc p0 u0) : Calls Tryz.prog 31 #[.agg u0.toArray, .int .i64 a1, .int .i64 a2] w fun e w' => ∃ (B0 : Option Addr) (d0 : Nat) (q0 : List Nat), e = .returned (.tuple #[.slice B0 r0.length d0, .int .i64 r1]) ∧ Ext w w' ∧ T1 w' (.sl r0.length (r0.flatMap intE)) q0 (.slice B0 r0.length d0) := by
  obtain ⟨A0_, c0_, b0_, A1, c1, b1, A4, c4, b4, A5, c5, b5, A6, c6, b6, A7, c7, b7, rfl, _, _, _, _, _, _, _, _, _, _, tx5, _⟩ := GDebugger.us (x := a0) h0
  suffices hs : Ext w w → Calls Tryz.prog 31 _ w fun e w' => Ext w w' ∧ ∃ B0 d0 q0, e = .returned (.tuple #[.slice B0 r0.length d0, .int .i64 r1]) ∧ T1 w' (.sl r0.length (r0.flatMap intE)) q0 (.slice B0 r0.length d0) ∧ Own w.heap.size w' q0 from (hs (Below.refl _ _)).mono fun _ _ ⟨a, B, d, q, b, c, o⟩ => ⟨B, d, q, b, a, c⟩
  intro _
  refine ext_start fun e => ?_
  go_enter Tryz.func31, Tryz.ntmps31
  go_upto_region 1 with (fail)
  generalize hgg : e.to.heap.size = g
  refine rebase_box e hgg (fun w1 e hx1 hgeg hltg cg => ?_)
  clear hgg
  replace h0 := h0.below hx1
  replace tx5 := tx5.below hx1
  have p := PtAt.box hltg cg h0
  have x0 := cg.always hltg 0 _ rfl
  have x1 := cg.always hltg 1 _ rfl
  have x2 := cg.always hltg 2 _ rfl
  have x3 := cg.always hltg 3 _ rfl
  have x4 := cg.always hltg 4 _ rfl
  have x5 := cg.always hltg 5 _ rfl
  have x6 := cg.always hltg 6 _ rfl
  have x7 := cg.always hltg 7 _ rfl
  simp only [Nat.zero_add] at x0 x1 x2 x3 x4 x5 x6 x7
  clear cg
  have hn5 := tx5.nle
  have C1 : Hid (QC Tryz.prog w1 _ _ _) := fun W hW => l40Ok_any a0 g 0 _ W (p.ext hW)
  cases d1 : debuggerB a0
  case false =>
    (try rw [d1] at C1)
    obtain ⟨rfl, rfl⟩ : r0 = [] ∧ r1 = 1 := by
      have h := hR
      unfold agentsFrom at h
      simp only [d1, Bool.false_and, Bool.and_false, Bool.true_and] at h
      simpa using h
    go_wp2_with (first | (go_at_call 79; with_reducible refine (C1.out.at_ _).mono ?_; rintro _ _ ⟨rfl, e, rfl⟩))
    repeat (refine wp_region_ext0 _ (by kernel_rfl) (by kernel_rfl) ?_; (repeat (go_big_quiet_step ((first | with_reducible exact C1.out.at_ _)))); refine wpQuiet_nil ?_; intro e; go_wp2_with (first | (go_at_call 79; with_reducible refine (C1.out.at_ _).mono ?_; rintro _ _ ⟨rfl, e, rfl⟩)))
    go_ret2
    obtain ⟨e2, he2⟩ : ∃ e2 : ExtOf w, e.to = e2.to := ExtOf.old hx1 e
    exact ⟨e2, he2, none, 0, [], rfl, T1.empty none, Own.nil _ _⟩
  (try rw [d1] at C1)
  have ho6 := debugger_origins d1
  have C2 : Hid (QC Tryz.prog w1 _ _ _) := fun W hW => (l00In_any a1 (-1) 23 W).q
  have C3 : Hid (QC Tryz.prog w1 _ _ _) := fun W hW => (l00In_any a2 0 599 W).q
  cases d2 : inB a1 (-1) 23
  case false =>
    (try rw [d2] at C1); (try rw [d2] at C2); (try rw [d2] at C3)
    obtain ⟨rfl, rfl⟩ : r0 = [] ∧ r1 = 2 := by
      have h := hR
      unfold agentsFrom at h
      simp only [d1, d2, Bool.false_and, Bool.and_false, Bool.true_and] at h
      simpa using h
    go_wp2_with (first | (go_at_call 79; with_reducible refine (C1.out.at_ _).mono ?_; rintro _ _ ⟨rfl, e, rfl⟩) | (go_at_call 52; with_reducible refine (C2.out.at_ _).mono ?_; rintro _ _ ⟨rfl, e, rfl⟩) | (go_at_call 52; with_reducible refine (C3.out.at_ _).mono ?_; rintro _ _ ⟨rfl, e, rfl⟩))
    repeat (refine wp_region_ext0 _ (by kernel_rfl) (by kernel_rfl) ?_; (repeat (go_big_quiet_step ((first | with_reducible exact C1.out.at_ _ | with_reducible exact C2.out.at_ _ | with_reducible exact C3.out.at_ _)))); refine wpQuiet_nil ?_; intro e; go_wp2_with (first | (go_at_call 79; with_reducible refine (C1.out.at_ _).mono ?_; rintro _ _ ⟨rfl, e, rfl⟩) | (go_at_call 52; with_reducible refine (C2.out.at_ _).mono ?_; rintro _ _ ⟨rfl, e, rfl⟩) | (go_at_call 52; with_reducible refine (C3.out.at_ _).mono ?_; rintro _ _ ⟨rfl, e, rfl⟩)))
    go_ret2
    obtain ⟨e2, he2⟩ : ∃ e2 : ExtOf w, e.to = e2.to := ExtOf.old hx1 e
    exact ⟨e2, he2, none, 0, [], rfl, T1.empty none, Own.nil _ _⟩
  (try rw [d2] at C1); (try rw [d2] at C2); (try rw [d2] at C3)
  cases d3 : inB a2 0 599
  case false =>
    (try rw [d3] at C1); (try rw [d3] at C2); (try rw [d3] at C3)
    obtain ⟨rfl, rfl⟩ : r0 = [] ∧ r1 = 2 := by
      have h := hR
      unfold agentsFrom at h
      simp only [d1, d2, d3, Bool.false_and, Bool.and_false, Bool.true_and] at h
      simpa using h
    go_wp2_with (first | (go_at_call 79; with_reducible refine (C1.out.at_ _).mono ?_; rintro _ _ ⟨rfl, e, rfl⟩) | (go_at_call 52; with_reducible refine (C2.out.at_ _).mono ?_; rintro _ _ ⟨rfl, e, rfl⟩) | (go_at_call 52; with_reducible refine (C3.out.at_ _).mono ?_; rintro _ _ ⟨rfl, e, rfl⟩))
    repeat (refine wp_region_ext0 _ (by kernel_rfl) (by kernel_rfl) ?_; (repeat (go_big_quiet_step ((first | with_reducible exact C1.out.at_ _ | with_reducible exact C2.out.at_ _ | with_reducible exact C3.out.at_ _)))); refine wpQuiet_nil ?_; intro e; go_wp2_with (first | (go_at_call 79; with_reducible refine (C1.out.at_ _).mono ?_; rintro _ _ ⟨rfl, e, rfl⟩) | (go_at_call 52; with_reducible refine (C2.out.at_ _).mono ?_; rintro _ _ ⟨rfl, e, rfl⟩) | (go_at_call 52; with_reducible refine (C3.out.at_ _).mono ?_; rintro _ _ ⟨rfl, e, rfl⟩)))
    go_ret2
    obtain ⟨e2, he2⟩ : ∃ e2 : ExtOf w, e.to = e2.to := ExtOf.old hx1 e
    exact ⟨e2, he2, none, 0, [], rfl, T1.empty none, Own.nil _ _⟩
  (try rw [d3] at C1); (try rw [d3] at C2); (try rw [d3] at C3)
  obtain ⟨rfl, rfl⟩ : r0 = selTo a0.origins.length (fromOk a0.origins a1 a2) ∧ r1 = 0 := by
    have h := hR
    unfold agentsFrom at h
    simp only [d1, d2, d3, Bool.true_and] at h
    simpa using h
  clear hR
  go_wp2_with (first | (go_at_call 79; with_reducible refine (C1.out.at_ _).mono ?_; rintro _ _ ⟨rfl, e, rfl⟩) | (go_at_call 52; with_reducible refine (C2.out.at_ _).mono ?_; rintro _ _ ⟨rfl, e, rfl⟩) | (go_at_call 52; with_reducible refine (C3.out.at_ _).mono ?_; rintro _ _ ⟨rfl, e, rfl⟩))
  repeat (refine wp_region_ext0 _ (by kernel_rfl) (by kernel_rfl) ?_; (repeat (go_big_quiet_step ((first | with_reducible exact C1.out.at_ _ | with_reducible exact C2.out.at_ _ | with_reducible exact C3.out.at_ _)))); refine wpQuiet_nil ?_; intro e; go_wp2_with (first | (go_at_call 79; with_reducible refine (C1.out.at_ _).mono ?_; rintro _ _ ⟨rfl, e, rfl⟩) | (go_at_call 52; with_reducible refine (C2.out.at_ _).mono ?_; rintro _ _ ⟨rfl, e, rfl⟩) | (go_at_call 52; with_reducible refine (C3.out.at_ _).mono ?_; rintro _ _ ⟨rfl, e, rfl⟩)))
  go_loopw [8, 9] (fun v i wr => ∃ k : Nat, k ≤ a0.origins.length ∧ i = .int .i64 k ∧ ∃ e : ExtOf w1, wr = e.to ∧ e.to.ownsRow w1.heap.size 2 1 v (selTo k (fromOk a0.origins a1 a2)).length (intV (selTo k (fromOk a0.origins a1 a2)))) (fun _ i _ => a0.origins.length - (intOf i).toNat)
  case atStart => exact ⟨0, Nat.zero_le _, rfl, ⟨_, e.h.alloc e.h.size _⟩, rfl, World.ownsRow_made _ _ 0 e.h.size (by decide) rfl⟩
  case round =>
    obtain ⟨k, hk, rfl, e, rfl, ho⟩ := hrel
    by_cases hlt : k < a0.origins.length
    · skip
      obtain ⟨b', off, y, bs', rfl, hyk, hp⟩ := T1.elem GOrigin.enc_len tx5 Hid_rfl hlt
      obtain ⟨y0, y1, y2⟩ := GOrigin.pt hp
      have hle := selTo_len k (fromOk a0.origins a1 a2)
      have hge := e.h.size
      have hge1 := hx1.size
      have EK : Hid (fromOk a0.origins a1 a2 k = (y.def_ == a1 && y.source == a2)) := by show _ = _; rw [fromOk, originAt_of hyk]
      cases dA : (y.def_ == a1)
      case false =>
        have EF : fromOk a0.origins a1 a2 k = false := by rw [EK.out, dA]; simp
        have ES := Lib.hid (selTo_f EF)
        clear EF
        go_wp2_with fail
        exact ⟨⟨k + 1, by omega, by go_num, _, rfl, by rw [ES.out]; exact ho⟩, by simp [intOf]; omega⟩
      cases dB : (y.source == a2)
      case false =>
        have EF : fromOk a0.origins a1 a2 k = false := by rw [EK.out, dA, dB]; simp
        have ES := Lib.hid (selTo_f EF)
        clear EF
        go_wp2_with fail
        exact ⟨⟨k + 1, by omega, by go_num, _, rfl, by rw [ES.out]; exact ho⟩, by simp [intOf]; omega⟩
      have EF : fromOk a0.origins a1 a2 k = true := by rw [EK.out, dA, dB]; rfl
      have ES := Lib.hid (selTo_t EF)
      clear EF
      go_wp2_with (at_builtin; refine wpList_app rfl (.tmp 46) (.tmp 48) 48 rfl int64Elem w1.heap.size _ _ _ rfl (ho.alloc _) e.to.heap.size 1 1 #[.int .i64 (k : Int)] rfl (heap_alloc_new e.to _) rfl rfl (by omega) (by simp; omega) ?_; intro v' w2 ho2 hg2)
      have hx2 : Ext w1 w2 := Ext.grown (e.h.alloc e.h.size _) hg2 (own_row_ge ho)
      have E2 : Hid ((selTo (k + 1) (fromOk a0.origins a1 a2)).length = (selTo k (fromOk a0.origins a1 a2)).length + 1) := by show _ = _; rw [ES.out]; simp
      exact ⟨⟨k + 1, by omega, by go_num, ⟨w2, hx2⟩, rfl, by rw [E2.out, ES.out, intV_app]; exact ho2⟩, by simp [intOf]; omega⟩
    · have : k = a0.origins.length := by omega
      subst this
      go_wp2_with fail
      go_ret2
      obtain ⟨A, c, bs, rfl, ht, hO⟩ := ownsRow_ints ho
      obtain ⟨e2, he2⟩ : ∃ e2 : ExtOf w, e.to = e2.to := ExtOf.old hx1 e
      exact ⟨e2, he2, A, c, bs, rfl, ht, hO.mono hx1.size⟩

set_option maxRecDepth 100000 in
set_option maxHeartbeats 8000000 in
theorem agentsFromI_any (a0 : GDebugger) {p0 : List Nat} {u0 : List Value} (a1 : Int) (a2 : Int) (r0 : (List Int)) (r1 : Int) (hR : (r0, r1) = agentsFrom a0 a1 a2) (w : World) (h0 : TN w a0.enc p0 u0) : Calls Tryz.prog 33 #[.agg u0.toArray, .int .i64 a1, .int .i64 a2] w fun e w' => ∃ (B0 : Option Addr) (d0 : Nat) (q0 : List Nat), e = .returned (.tuple #[.slice B0 r0.length d0, .int .i64 r1]) ∧ Ext w w' ∧ T1 w' (.sl r0.length (r0.flatMap intE)) q0 (.slice B0 r0.length d0) ∧ Own w.heap.size w' (q0) := by
  obtain ⟨A0_, c0_, b0_, A1, c1, b1, A4, c4, b4, A5, c5, b5, A6, c6, b6, A7, c7, b7, rfl, _, _, _, _, _, _, _, _, _, _, tx5, _⟩ := GDebugger.us (x := a0) h0
  suffices hs : Ext w w → Calls Tryz.prog 33 _ w fun e w' => Ext w w' ∧ ∃ B0 d0 q0, e = .returned (.tuple #[.slice B0 r0.length d0, .int .i64 r1]) ∧ T1 w' (.sl r0.length (r0.flatMap intE)) q0 (.slice B0 r0.length d0) ∧ Own w.heap.size w' q0 from (hs (Below.refl _ _)).mono fun _ _ ⟨a, B, d, q, b, c, o⟩ => ⟨B, d, q, b, a, c, o⟩
  intro _
  refine ext_start fun e => ?_
  go_enter Tryz.func33, Tryz.ntmps33
  go_upto_region 1 with (fail)
  generalize hgg : e.to.heap.size = g
  refine rebase_box e hgg (fun w1 e hx1 hgeg hltg cg => ?_)
  clear hgg
  replace h0 := h0.below hx1
  replace tx5 := tx5.below hx1
  have p := PtAt.box hltg cg h0
  have x0 := cg.always hltg 0 _ rfl
  have x1 := cg.always hltg 1 _ rfl
  have x2 := cg.always hltg 2 _ rfl
  have x3 := cg.always hltg 3 _ rfl
  have x4 := cg.always hltg 4 _ rfl
  have x5 := cg.always hltg 5 _ rfl
  have x6 := cg.always hltg 6 _ rfl
  have x7 := cg.always hltg 7 _ rfl
  simp only [Nat.zero_add] at x0 x1 x2 x3 x4 x5 x6 x7
  clear cg
  have hn5 := tx5.nle
  have C1 : Hid (QC Tryz.prog w1 _ _ _) := fun W hW => implValidDebugger_any a0 W (h0.below hW)
  cases d1 : debuggerB a0
  case false =>
    (try rw [d1] at C1)
    obtain ⟨rfl, rfl⟩ : r0 = [] ∧ r1 = 1 := by
      have h := hR
      unfold agentsFrom at h
      simp only [d1, Bool.false_and, Bool.and_false, Bool.true_and] at h
      simpa using h
    go_wp2_with (first | (go_at_call 83; with_reducible refine (C1.out.at_ _).mono ?_; rintro _ _ ⟨rfl, e, rfl⟩))
    repeat (refine wp_region_ext0 _ (by kernel_rfl) (by kernel_rfl) ?_; (repeat (go_big_quiet_step ((first | with_reducible exact C1.out.at_ _)))); refine wpQuiet_nil ?_; intro e; go_wp2_with (first | (go_at_call 83; with_reducible refine (C1.out.at_ _).mono ?_; rintro _ _ ⟨rfl, e, rfl⟩)))
    go_ret2
    obtain ⟨e2, he2⟩ : ∃ e2 : ExtOf w, e.to = e2.to := ExtOf.old hx1 e
    exact ⟨e2, he2, none, 0, [], rfl, T1.empty none, Own.nil _ _⟩
  (try rw [d1] at C1)
  have ho6 := debugger_origins d1
  cases d2 : decide (a1 < -1)
  case true =>
    (try rw [d2] at C1)
    have dI : inB a1 (-1) 23 = false := by simp only [inB]; simp at d2; rw [Bool.eq_false_iff]; simp; omega
    obtain ⟨rfl, rfl⟩ : r0 = [] ∧ r1 = 2 := by
      have h := hR
      unfold agentsFrom at h
      simp only [d1, dI, Bool.false_and] at h
      simpa using h
    go_wp2_with (first | (go_at_call 83; with_reducible refine (C1.out.at_ _).mono ?_; rintro _ _ ⟨rfl, e, rfl⟩))
    repeat (refine wp_region_ext0 _ (by kernel_rfl) (by kernel_rfl) ?_; (repeat (go_big_quiet_step ((first | with_reducible exact C1.out.at_ _)))); refine wpQuiet_nil ?_; intro e; go_wp2_with (first | (go_at_call 83; with_reducible refine (C1.out.at_ _).mono ?_; rintro _ _ ⟨rfl, e, rfl⟩)))
    go_ret2
    obtain ⟨e2, he2⟩ : ∃ e2 : ExtOf w, e.to = e2.to := ExtOf.old hx1 e
    exact ⟨e2, he2, none, 0, [], rfl, T1.empty none, Own.nil _ _⟩
  (try rw [d2] at C1)
  cases d3 : decide (24 ≤ a1)
  case true =>
    (try rw [d3] at C1)
    have dI : inB a1 (-1) 23 = false := by simp only [inB]; simp at d3; rw [Bool.eq_false_iff]; simp; omega
    obtain ⟨rfl, rfl⟩ : r0 = [] ∧ r1 = 2 := by
      have h := hR
      unfold agentsFrom at h
      simp only [d1, dI, Bool.false_and] at h
      simpa using h
    go_wp2_with (first | (go_at_call 83; with_reducible refine (C1.out.at_ _).mono ?_; rintro _ _ ⟨rfl, e, rfl⟩))
    repeat (refine wp_region_ext0 _ (by kernel_rfl) (by kernel_rfl) ?_; (repeat (go_big_quiet_step ((first | with_reducible exact C1.out.at_ _)))); refine wpQuiet_nil ?_; intro e; go_wp2_with (first | (go_at_call 83; with_reducible refine (C1.out.at_ _).mono ?_; rintro _ _ ⟨rfl, e, rfl⟩)))
    go_ret2
    obtain ⟨e2, he2⟩ : ∃ e2 : ExtOf w, e.to = e2.to := ExtOf.old hx1 e
    exact ⟨e2, he2, none, 0, [], rfl, T1.empty none, Own.nil _ _⟩
  (try rw [d3] at C1)
  have dI : inB a1 (-1) 23 = true := by simp only [inB]; simp at d2 d3; simp; omega
  cases d4 : inB a2 0 599
  case false =>
    (try rw [d4] at C1)
    obtain ⟨rfl, rfl⟩ : r0 = [] ∧ r1 = 2 := by
      have h := hR
      unfold agentsFrom at h
      simp only [d1, dI, d4, Bool.and_false] at h
      simpa using h
    go_wp2_with (first | (go_at_call 83; with_reducible refine (C1.out.at_ _).mono ?_; rintro _ _ ⟨rfl, e, rfl⟩))
    repeat (refine wp_region_ext0 _ (by kernel_rfl) (by kernel_rfl) ?_; (repeat (go_big_quiet_step ((first | with_reducible exact C1.out.at_ _)))); refine wpQuiet_nil ?_; intro e; go_wp2_with (first | (go_at_call 83; with_reducible refine (C1.out.at_ _).mono ?_; rintro _ _ ⟨rfl, e, rfl⟩)))
    refine (atMostOne_any 599 a2 _ _ _ _ (T1.lit e.to _ [.int .i64 a2] 1 (by omega) (by decide) rfl)).mono ?_
    rintro _ w3 ⟨rfl, hx3⟩
    obtain ⟨e, rfl⟩ : ∃ e' : ExtOf w1, w3 = e'.to := ⟨⟨w3, Ext.trans (e.h.alloc e.h.size _) hx3⟩, rfl⟩
    rw [d4]
    clear hx3
    go_wp2_with fail
    go_ret2
    obtain ⟨e2, he2⟩ : ∃ e2 : ExtOf w, e.to = e2.to := ExtOf.old hx1 e
    exact ⟨e2, he2, none, 0, [], rfl, T1.empty none, Own.nil _ _⟩
  (try rw [d4] at C1)
  obtain ⟨rfl, rfl⟩ : r0 = selTo a0.origins.length (fromOk a0.origins a1 a2) ∧ r1 = 0 := by
    have h := hR
    unfold agentsFrom at h
    simp only [d1, dI, d4, Bool.true_and] at h
    simpa using h
  go_wp2_with (first | (go_at_call 83; with_reducible refine (C1.out.at_ _).mono ?_; rintro _ _ ⟨rfl, e, rfl⟩))
  repeat (refine wp_region_ext0 _ (by kernel_rfl) (by kernel_rfl) ?_; (repeat (go_big_quiet_step ((first | with_reducible exact C1.out.at_ _)))); refine wpQuiet_nil ?_; intro e; go_wp2_with (first | (go_at_call 83; with_reducible refine (C1.out.at_ _).mono ?_; rintro _ _ ⟨rfl, e, rfl⟩)))
  refine (atMostOne_any 599 a2 _ _ _ _ (T1.lit e.to _ [.int .i64 a2] 1 (by omega) (by decide) rfl)).mono ?_
  rintro _ w3 ⟨rfl, hx3⟩
  obtain ⟨e, rfl⟩ : ∃ e' : ExtOf w1, w3 = e'.to := ⟨⟨w3, Ext.trans (e.h.alloc e.h.size _) hx3⟩, rfl⟩
  rw [d4]
  clear hx3
  clear hR
  go_wp2_with fail
  repeat (refine wp_region_ext0 _ (by kernel_rfl) (by kernel_rfl) ?_; (repeat (go_big_quiet_step (fail))); refine wpQuiet_nil ?_; intro e; go_wp2_with fail)
  go_loopw [8, 31] (fun v i wr => ∃ k : Nat, k ≤ a0.origins.length ∧ i = .int .i64 k ∧ ∃ e : ExtOf w1, wr = e.to ∧ e.to.ownsRow w1.heap.size 2 1 v (selTo k (fromOk a0.origins a1 a2)).length (intV (selTo k (fromOk a0.origins a1 a2)))) (fun _ i _ => a0.origins.length - (intOf i).toNat)
  case atStart => exact ⟨0, Nat.zero_le _, rfl, _, rfl, World.ownsRow_nil _ _ _ _⟩
  case round =>
    obtain ⟨k, hk, rfl, e, rfl, ho⟩ := hrel
    by_cases hlt : k < a0.origins.length
    · skip
      obtain ⟨b', off, y, bs', rfl, hyk, hp⟩ := T1.elem GOrigin.enc_len tx5 Hid_rfl hlt
      obtain ⟨y0, y1, y2⟩ := GOrigin.pt hp
      have hle := selTo_len k (fromOk a0.origins a1 a2)
      have hge := e.h.size
      have hge1 := hx1.size
      have EK : Hid (fromOk a0.origins a1 a2 k = (y.def_ == a1 && y.source == a2)) := by show _ = _; rw [fromOk, originAt_of hyk]
      go_upto_region 9 with (fail)
      skip
      cases dA : (y.def_ == a1)
      case false =>
        have EF : fromOk a0.origins a1 a2 k = false := by rw [EK.out, dA]; simp
        have ES := Lib.hid (selTo_f EF)
        clear EF
        go_wp2_with fail
        exact ⟨⟨k + 1, by omega, by go_num, ⟨_, e.h.alloc e.h.size _⟩, rfl, by rw [ES.out]; exact ho.alloc _⟩, by simp [intOf]; omega⟩
      cases dB : (y.source == a2)
      case false =>
        have EF : fromOk a0.origins a1 a2 k = false := by rw [EK.out, dA, dB]; simp
        have ES := Lib.hid (selTo_f EF)
        clear EF
        go_wp2_with fail
        exact ⟨⟨k + 1, by omega, by go_num, ⟨_, e.h.alloc e.h.size _⟩, rfl, by rw [ES.out]; exact ho.alloc _⟩, by simp [intOf]; omega⟩
      have EF : fromOk a0.origins a1 a2 k = true := by rw [EK.out, dA, dB]; rfl
      have ES := Lib.hid (selTo_t EF)
      clear EF
      go_wp2_with (at_builtin; refine wpList_app rfl (.tmp 46) (.tmp 48) 48 rfl int64Elem w1.heap.size _ _ _ rfl ((ho.alloc _).alloc _) (e.to.alloc (.cells #[.int .i64 y.step, .int .i64 y.def_, .int .i64 y.source] 108)).heap.size 1 1 #[.int .i64 (k : Int)] (by simp <;> rfl) (by simpa using heap_alloc_new (e.to.alloc (.cells #[.int .i64 y.step, .int .i64 y.def_, .int .i64 y.source] 108)) _) rfl rfl (by omega) (by simp; omega) ?_; intro v' w2 ho2 hg2)
      have hx2 : Ext w1 w2 := Ext.grown ((e.h.alloc e.h.size _).alloc (by simp; omega) _) hg2 (own_row_ge ho)
      have E2 : Hid ((selTo (k + 1) (fromOk a0.origins a1 a2)).length = (selTo k (fromOk a0.origins a1 a2)).length + 1) := by show _ = _; rw [ES.out]; simp
      exact ⟨⟨k + 1, by omega, by go_num, ⟨w2, hx2⟩, rfl, by rw [E2.out, ES.out, intV_app]; exact ho2⟩, by simp [intOf]; omega⟩
    · have : k = a0.origins.length := by omega
      subst this
      go_wp2_with fail
      go_ret2
      obtain ⟨A, c, bs, rfl, ht, hO⟩ := ownsRow_ints ho
      obtain ⟨e2, he2⟩ : ∃ e2 : ExtOf w, e.to = e2.to := ExtOf.old hx1 e
      exact ⟨e2, he2, A, c, bs, rfl, ht, hO.mono hx1.size⟩
end Go.Proofs.YtmmdkchhahnenaaGreat
