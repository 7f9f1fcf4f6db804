/- Deques. Printed by gx_dq.py. -/
import Derived.Test.YthelpioccjjgfaaProg
import Derived.Test.YthelpioccjjgfaaSc
import Derived.Test.YthelpioccjjgfaaDDq
import Derived.Test.YthelpioccjjgfaaArith
import Derived.IntWalk
import Derived.Test.YthelpioccjjgfaaDqP
set_option linter.unusedSimpArgs false
set_option linter.unusedVariables false
namespace Go.Proofs.Ythelpioccjjgfaa
open Go Go.RowKit Go.Proofs Go.Tr
theorem zo_30_9 : zeroOf Try.prog 30 = some [.int .i64 (0), .int .i64 (0), .slice none 0 0, .slice none 0 0, .slice none 0 0, .slice none 0 0] := by kernel_rfl
theorem ok_134_9 : callOk Try.prog 134 = true := by kernel_rfl
theorem sz_30_9 : (Try.prog.info? 30).map (·.size) = some 6 := by kernel_rfl
theorem ag_30_9 : aggB Try.prog 30 = some true := by kernel_rfl
theorem ok_121_9 : callOk Try.prog 121 = true := by kernel_rfl
theorem ok_135_9 : callOk Try.prog 135 = true := by kernel_rfl
theorem ok_147_9 : callOk Try.prog 147 = true := by kernel_rfl
theorem el_24_9 : elemOf? Try.prog 24 = some (2, 1) := by kernel_rfl
theorem ag_2_9 : aggB Try.prog 2 = some false := by kernel_rfl
theorem ok_136_9 : callOk Try.prog 136 = true := by kernel_rfl
theorem ok_137_9 : callOk Try.prog 137 = true := by kernel_rfl
set_option maxHeartbeats 1000000 in
theorem runDequeS_q (a0 : GDeque) (a1 : List Int) (abufferA : Option Addr) (abufferc : Nat) (aactorsA : Option Addr) (aactorsc : Nat) (atakenA : Option Addr) (atakenc : Nat) (arefusedA : Option Addr) (arefusedc : Nat) (sA : Option Addr) (sc : Nat) (r0 : GDeque) (r1 r2 : Int) (hR : (r0, r1, r2) = runDequeR a0 a1) (w0 : World) (abufferH : Ro1 w0 [] (.sl a0.buffer.length (a0.buffer.flatMap intE)) (.slice abufferA a0.buffer.length abufferc)) (aactorsH : Ro1 w0 [] (.sl a0.actors.length (a0.actors.flatMap GDequeActor.enc)) (.slice aactorsA a0.actors.length aactorsc)) (atakenH : Ro1 w0 [] (.sl a0.taken.length (a0.taken.flatMap GHanded.enc)) (.slice atakenA a0.taken.length atakenc)) (arefusedH : Ro1 w0 [] (.sl a0.refused.length (a0.refused.flatMap intE)) (.slice arefusedA a0.refused.length arefusedc)) (hsch : Ro1 w0 [] (.sl a1.length (a1.flatMap intE)) (.slice sA a1.length sc)) : Calls Try.prog 54 #[.agg #[.int .i64 (a0.top), .int .i64 (a0.bottom), .slice abufferA a0.buffer.length abufferc, .slice aactorsA a0.actors.length aactorsc, .slice atakenA a0.taken.length atakenc, .slice arefusedA a0.refused.length arefusedc], .slice sA a1.length sc] w0 fun e w' => ∃ us, e = .returned (.tuple #[.agg us.toArray, .int .i64 r1, .int .i64 r2]) ∧ Tr.Inv w0 [] w' [DatN us r0.enc] := by
 refine enter_i (args := [.agg #[.int .i64 (a0.top), .int .i64 (a0.bottom), .slice abufferA a0.buffer.length abufferc, .slice aactorsA a0.actors.length aactorsc, .slice atakenA a0.taken.length atakenc, .slice arefusedA a0.refused.length arefusedc], .slice sA a1.length sc]) Try.func54 rfl Try.ntmps54 rfl sep0 (fun a w E H => ?_)
 have E : Env 47 a [(0, .agg #[.int .i64 (a0.top), .int .i64 (a0.bottom), .slice abufferA a0.buffer.length abufferc, .slice aactorsA a0.actors.length aactorsc, .slice atakenA a0.taken.length atakenc, .slice arefusedA a0.refused.length arefusedc]), (1, .slice sA a1.length sc)] := E
 refine wp_seq (wp_region_lit ?_)
 refine w_box (us := [.int .i64 (a0.top), .int .i64 (a0.bottom), .slice abufferA a0.buffer.length abufferc, .slice aactorsA a0.actors.length aactorsc, .slice atakenA a0.taken.length atakenc, .slice arefusedA a0.refused.length arefusedc]) E rfl (E.tmp rfl) rfl H (fun a w g1 E H => ?_)
 refine w_alloc E rfl zo_30_9 H (fun a w g2 E H => ?_)
 refine wv E rfl (r_assign (ev_c _)) fun a E => wv E rfl (r_assign (ev_c _)) fun a E => ?_
 refine wpList_nil (then_n (wp_seq (wp_seq (wp_region_lit ?_))))
 obtain ⟨w3b5, w3t5⟩ := Ro1.now arefusedH H
 obtain ⟨w3b4, w3t4⟩ := Ro1.now atakenH H
 obtain ⟨w3b3, w3t3⟩ := Ro1.now aactorsH H
 obtain ⟨w3b2, w3t2⟩ := Ro1.now abufferH H
 have w3p : RoP w [] g1 0 a0.enc := H.rop 1 rfl (TN.v_mk rfl (TN.v_mk rfl (TN.sl_mk w3t2 (TN.sl_mk w3t3 (TN.sl_mk w3t4 (TN.sl_mk w3t5 TN.done))))))
 refine w_quiet (v := .bool (okB a0)) E rfl (ev_cons (E.tmp rfl) (ev_nil)) ok_134_9 (l23Ok_q a0 g1 0 w w3p) H (fun a w E H => ?_)
 refine wv E rfl (r_not (c := !(okB a0)) (E.tmp rfl) rfl) fun a E => ?_
 refine wpList_nil (then_n ?_)
 rcases bcase (okB a0) with ts4 | ts4
 ·
  refine cond_t E rfl (by rw [ts4]; rfl) ?_
  refine wp_seq (wp_region_lit ?_)
  refine wv E rfl (r_build (pv (pvn)) (by kernel_rfl : (Instr.build 30 (List.toArray [])).run Try.prog _ = .ok (.agg #[.int .i64 (0), .int .i64 (0), .slice none 0 0, .slice none 0 0, .slice none 0 0, .slice none 0 0]) _)) fun a E => ?_
  refine w_stores (us := [.int .i64 (0), .int .i64 (0), .slice none 0 0, .slice none 0 0, .slice none 0 0, .slice none 0 0]) (cs' := [.int .i64 (0), .int .i64 (0), .slice none 0 0, .slice none 0 0, .slice none 0 0, .slice none 0 0]) (rs' := [Cel _ [.int .i64 (0), .int .i64 (0), .slice none 0 0, .slice none 0 0, .slice none 0 0, .slice none 0 0] _, _]) E (E.tmp rfl) (E.tmp rfl) rfl sz_30_9 H (i := 0) rfl rfl rfl rfl (fun a w E H => ?_)
  refine wv E rfl (r_assign (ev_c _)) fun a E => wv E rfl (r_assign (ev_c _)) fun a E => ?_
  refine wpList_nil (then_n (wp_ret (then_r ?_)))
  refine post3 E rfl (out_c (us := [.int .i64 (0), .int .i64 (0), .slice none 0 0, .slice none 0 0, .slice none 0 0, .slice none 0 0]) E rfl ag_30_9 sz_30_9 (H.cellsAt 0 rfl)) (out_t E rfl) (out_t E rfl) ?_
  have H := H.mk_e
  have H := H.gr_nil 0 1
  have H := H.gr_dats rfl
  have H := H.mk_s
  have H := H.gr_nil 0 2
  have H := H.gr_dats rfl
  have H := H.mk_s
  have H := H.gr_nil 0 5
  have H := H.gr_dats rfl
  have H := H.mk_s
  have H := H.gr_nil 0 1
  have H := H.gr_dats rfl
  have H := H.mk_s
  have H := H.mk_v (x := .int .i64 (0)) rfl
  have H := H.mk_v (x := .int .i64 (0)) rfl
  have H := H.drop 1 rfl
  have H := H.drop 1 rfl
  obtain ⟨rfl, rfl, rfl⟩ : r0 = (⟨0, 0, [], [], [], []⟩ : GDeque) ∧ r1 = 0 ∧ r2 = 1 := by
   simp only [runDequeR, ts4, B1, B2, B3, B4, B5, B6, B7, B8, B9, B10, B11, B12, B13, B14] at hR
   exact inj3 hR
  exact ⟨_, rfl, H⟩
 refine cond_f E rfl (by rw [ts4]; rfl) ?_
 refine wp_skip (then_n (wp_seq (wp_seq ?_)))
 have hrk := runOk_of ts4
 refine wp_region_lit ?_
 refine vm E rfl rfl fun a E => ?_
 refine w_quiet (v := .bool (schB a1)) E rfl (ev_cons (E.tmp rfl) (ev_nil)) ok_121_9 (l15Schedule_q a1 sc sA w (hsch.at_ H (F := []) (by simp))) H (fun a w E H => ?_)
 refine wv E rfl (r_not (c := !(schB a1)) (E.tmp rfl) rfl) fun a E => ?_
 refine wpList_nil (then_n ?_)
 rcases bcase (schB a1) with ts5 | ts5
 ·
  refine cond_t E rfl (by rw [ts5]; rfl) ?_
  refine wp_seq (wp_region_lit ?_)
  refine wv E rfl (r_build (pv (pvn)) (by kernel_rfl : (Instr.build 30 (List.toArray [])).run Try.prog _ = .ok (.agg #[.int .i64 (0), .int .i64 (0), .slice none 0 0, .slice none 0 0, .slice none 0 0, .slice none 0 0]) _)) fun a E => ?_
  refine w_stores (us := [.int .i64 (0), .int .i64 (0), .slice none 0 0, .slice none 0 0, .slice none 0 0, .slice none 0 0]) (cs' := [.int .i64 (0), .int .i64 (0), .slice none 0 0, .slice none 0 0, .slice none 0 0, .slice none 0 0]) (rs' := [Cel _ [.int .i64 (0), .int .i64 (0), .slice none 0 0, .slice none 0 0, .slice none 0 0, .slice none 0 0] _, _]) E (E.tmp rfl) (E.tmp rfl) rfl sz_30_9 H (i := 0) rfl rfl rfl rfl (fun a w E H => ?_)
  refine wv E rfl (r_assign (ev_c _)) fun a E => wv E rfl (r_assign (ev_c _)) fun a E => ?_
  refine wpList_nil (then_n (wp_ret (then_r ?_)))
  refine post3 E rfl (out_c (us := [.int .i64 (0), .int .i64 (0), .slice none 0 0, .slice none 0 0, .slice none 0 0, .slice none 0 0]) E rfl ag_30_9 sz_30_9 (H.cellsAt 0 rfl)) (out_t E rfl) (out_t E rfl) ?_
  have H := H.mk_e
  have H := H.gr_nil 0 1
  have H := H.gr_dats rfl
  have H := H.mk_s
  have H := H.gr_nil 0 2
  have H := H.gr_dats rfl
  have H := H.mk_s
  have H := H.gr_nil 0 5
  have H := H.gr_dats rfl
  have H := H.mk_s
  have H := H.gr_nil 0 1
  have H := H.gr_dats rfl
  have H := H.mk_s
  have H := H.mk_v (x := .int .i64 (0)) rfl
  have H := H.mk_v (x := .int .i64 (0)) rfl
  have H := H.drop 1 rfl
  have H := H.drop 1 rfl
  obtain ⟨rfl, rfl, rfl⟩ : r0 = (⟨0, 0, [], [], [], []⟩ : GDeque) ∧ r1 = 0 ∧ r2 = 2 := by
   simp only [runDequeR, ts4, ts5, B1, B2, B3, B4, B5, B6, B7, B8, B9, B10, B11, B12, B13, B14] at hR
   exact inj3 hR
  exact ⟨_, rfl, H⟩
 refine cond_f E rfl (by rw [ts5]; rfl) ?_
 refine wp_skip (then_n (wp_seq ?_))
 have hM := actM_le (runOk_of ts4)
 refine wp_region_lit ?_
 obtain ⟨w6b5, w6t5⟩ := Ro1.now arefusedH H
 obtain ⟨w6b4, w6t4⟩ := Ro1.now atakenH H
 obtain ⟨w6b3, w6t3⟩ := Ro1.now aactorsH H
 obtain ⟨w6b2, w6t2⟩ := Ro1.now abufferH H
 have w6p : RoP w [] g1 0 a0.enc := H.rop 1 rfl (TN.v_mk rfl (TN.v_mk rfl (TN.sl_mk w6t2 (TN.sl_mk w6t3 (TN.sl_mk w6t4 (TN.sl_mk w6t5 TN.done))))))
 have hrk := runOk_of ts4
 refine w_call E rfl (ev_cons (E.tmp rfl) (ev_nil)) ok_135_9 (l23Own_q a0 g1 0 w w6p (by have := hrk.b1; omega) (by have := hrk.r1; omega) hrk.n1 (by have := hrk.h1; omega) (fun k a h => by have := (hrk.acts k a h).1; omega)) ?_
 rintro _ w ⟨w7AB, w7cB, w7AA, w7cA, w7AT, w7cT, w7AR, w7cR, rfl, hI⟩
 refine ⟨_, rfl, fun a E => ?_⟩
 have H := H.new hI
 clear hI
 obtain ⟨bb, p8c, p8h⟩ := H.gr_pos 0 rfl hrk.b0
 injection p8h with p8e p8f p8g
 revert E
 revert H
 subst p8e
 subst p8g
 intro H E
 have H : Tr.Inv w0 [] w [Gr (.slice (some ⟨bb, 0, none⟩) a0.buffer.length w7cB) 2 1 a0.buffer.length (a0.buffer.flatMap intE), Gr (.slice w7AA a0.actors.length w7cA) 119 5 a0.actors.length (a0.actors.flatMap GDequeActor.enc), Gr (.slice w7AT a0.taken.length w7cT) 36 2 a0.taken.length (a0.taken.flatMap GHanded.enc), Gr (.slice w7AR a0.refused.length w7cR) 2 1 a0.refused.length (a0.refused.flatMap intE), Cel g2 [.int .i64 (0), .int .i64 (0), .slice none 0 0, .slice none 0 0, .slice none 0 0, .slice none 0 0] 30, Cel g1 [.int .i64 (a0.top), .int .i64 (a0.bottom), .slice abufferA a0.buffer.length abufferc, .slice aactorsA a0.actors.length aactorsc, .slice atakenA a0.taken.length atakenc, .slice arefusedA a0.refused.length arefusedc] 30] := H
 obtain ⟨rb, p9c, p9h⟩ := H.gr_pos 1 rfl hrk.n0
 injection p9h with p9e p9f p9g
 revert E
 revert H
 subst p9e
 subst p9g
 intro H E
 have H : Tr.Inv w0 [] w [Gr (.slice (some ⟨bb, 0, none⟩) a0.buffer.length w7cB) 2 1 a0.buffer.length (a0.buffer.flatMap intE), Gr (.slice (some ⟨rb, 0, none⟩) a0.actors.length w7cA) 119 5 a0.actors.length (a0.actors.flatMap GDequeActor.enc), Gr (.slice w7AT a0.taken.length w7cT) 36 2 a0.taken.length (a0.taken.flatMap GHanded.enc), Gr (.slice w7AR a0.refused.length w7cR) 2 1 a0.refused.length (a0.refused.flatMap intE), Cel g2 [.int .i64 (0), .int .i64 (0), .slice none 0 0, .slice none 0 0, .slice none 0 0, .slice none 0 0] 30, Cel g1 [.int .i64 (a0.top), .int .i64 (a0.bottom), .slice abufferA a0.buffer.length abufferc, .slice aactorsA a0.actors.length aactorsc, .slice atakenA a0.taken.length atakenc, .slice arefusedA a0.refused.length arefusedc] 30] := H
 refine w_alloc E rfl zo_30_9 H (fun a w g10 E H => ?_)
 refine w_stores (us := [.int .i64 (a0.top), .int .i64 (a0.bottom), .slice (some ⟨bb, 0, none⟩) a0.buffer.length w7cB, .slice (some ⟨rb, 0, none⟩) a0.actors.length w7cA, .slice w7AT a0.taken.length w7cT, .slice w7AR a0.refused.length w7cR]) (cs' := [.int .i64 (a0.top), .int .i64 (a0.bottom), .slice (some ⟨bb, 0, none⟩) a0.buffer.length w7cB, .slice (some ⟨rb, 0, none⟩) a0.actors.length w7cA, .slice w7AT a0.taken.length w7cT, .slice w7AR a0.refused.length w7cR]) (rs' := [Cel _ [.int .i64 (a0.top), .int .i64 (a0.bottom), .slice (some ⟨bb, 0, none⟩) a0.buffer.length w7cB, .slice (some ⟨rb, 0, none⟩) a0.actors.length w7cA, .slice w7AT a0.taken.length w7cT, .slice w7AR a0.refused.length w7cR] _, _, _, _, _, _, _]) E (E.tmp rfl) (E.tmp rfl) rfl sz_30_9 H (i := 0) rfl rfl rfl rfl (fun a w E H => ?_)
 refine wpList_nil (then_n (wp_seq ?_))
 rw [show runDequeR a0 a1 = runD a1 (actM a0 + 1) a0 0 by simp only [runDequeR, ts4, ts5, B1, B2, B3, B4, B5, B6, B7, B8, B9, B10, B11, B12, B13, B14]] at hR
 refine wp_region_lit ?_
 refine wv E rfl (r_assign (ev_c _)) fun a E => ?_
 refine wpList_nil (then_n (wp_block ?_))
 have H := H.front 5 rfl
 have H := H.front 5 rfl
 have H := H.front 5 rfl
 have H := H.front 5 rfl
 have H := H.front 5 rfl
 have H := H.front 5 rfl
 have H := H.drop 6 rfl
 refine wp_loop_ghost (fun m a w => ∃ (y : GDeque) (n f : Nat) (AT : Option Addr) (cT : Nat) (AR : Option Addr) (cR : Nat), m = f + 1 ∧ RunOk y ∧ actM y < f ∧ n + f ≤ 100000000 ∧ (r0, r1, r2) = runD a1 f y n ∧ Env 47 a [(1, .slice sA a1.length sc), (4, .pointer (some ⟨g2, 0, none⟩)), (7, .pointer (some ⟨g10, 0, none⟩)), (8, .int .i64 (((n : Nat) : Int)))] ∧ Tr.Inv w0 [] w [Cel g10 [.int .i64 (y.top), .int .i64 (y.bottom), .slice (some ⟨bb, 0, none⟩) y.buffer.length w7cB, .slice (some ⟨rb, 0, none⟩) y.actors.length w7cA, .slice AT y.taken.length cT, .slice AR y.refused.length cR] 30, Gr (.slice (some ⟨bb, 0, none⟩) y.buffer.length w7cB) 2 1 y.buffer.length (y.buffer.flatMap intE), Gr (.slice (some ⟨rb, 0, none⟩) y.actors.length w7cA) 119 5 y.actors.length (y.actors.flatMap GDequeActor.enc), Gr (.slice AT y.taken.length cT) 36 2 y.taken.length (y.taken.flatMap GHanded.enc), Gr (.slice AR y.refused.length cR) 2 1 y.refused.length (y.refused.flatMap intE), Cel g2 [.int .i64 (0), .int .i64 (0), .slice none 0 0, .slice none 0 0, .slice none 0 0, .slice none 0 0] 30]) _ ⟨a0, 0, actM a0 + 1, _, _, _, _, rfl, hrk, by omega, by omega, hR, (Env.pick E (Env.pick E (Env.pick E (Env.pick E E.nil rfl) rfl) rfl) rfl), H⟩ ?_
 rintro _ a w ⟨y, n, f, AT, cT, AR, cR, rfl, hrk, hMf, hnf, hR, E, H⟩
 obtain ⟨f, rfl⟩ : ∃ g, f = g + 1 := ⟨f - 1, by omega⟩
 refine wp_block (wp_seq (wp_region_lit ?_))
 obtain ⟨w11b5, w11t5⟩ := H.gr_t 4 rfl (by rw [flat_len intE 1 (fun _ => rfl)])
 obtain ⟨w11b4, w11t4⟩ := H.gr_t 3 rfl (by rw [flat_len GHanded.enc 2 GHanded.enc_len])
 obtain ⟨w11b3, w11t3⟩ := H.gr_t 2 rfl (by rw [flat_len GDequeActor.enc 5 GDequeActor.enc_len])
 obtain ⟨w11b2, w11t2⟩ := H.gr_t 1 rfl (by rw [flat_len intE 1 (fun _ => rfl)])
 have w11p : RoP w [] g10 0 y.enc := H.rop 0 rfl (TN.v_mk rfl (TN.v_mk rfl (TN.sl_mk w11t2 (TN.sl_mk w11t3 (TN.sl_mk w11t4 (TN.sl_mk w11t5 TN.done))))))
 refine w_call E rfl (ev_cons (E.tmp rfl) (ev_nil)) ok_147_9 (l23Busy_q y g10 0 w w11p hrk.n1) ?_
 rintro _ w ⟨u12A, u12c, rfl, hI⟩
 refine ⟨_, rfl, fun a E => ?_⟩
 have H := H.new hI
 clear hI
 refine va E rfl rfl fun a E => ?_
 refine wpList_nil (then_n (wp_seq (wp_seq (wp_region_lit ?_))))
 refine vm E rfl rfl fun a E => ?_
 refine wv E rfl (r_len (E.tmp rfl) el_24_9) (fun a E => ?_)
 refine wv E rfl (r_bin (E.tmp rfl) (ev_c _) (b_eql (b := (((busyTo y.actors y.actors.length).length : Nat) : Int) == 0) rfl)) fun a E => ?_
 refine wpList_nil (then_n ?_)
 rcases bcase ((((busyTo y.actors y.actors.length).length : Nat) : Int) == 0) with ts13 | ts13
 ·
  refine cond_f E rfl ts13 ?_
  refine wp_skip (then_n (wp_seq ?_))
  have hL : 0 < (busyTo y.actors y.actors.length).length := by have h := ts13; simp only [beq_eq_false_iff_ne, ne_eq] at h; omega
  refine wp_region_lit ?_
  refine wv E rfl (r_assign (ev_c _)) fun a E => ?_
  refine wpList_nil (then_n (wp_seq (wp_seq (wp_region_lit ?_))))
  refine vm E rfl rfl fun a E => ?_
  refine wv E rfl (r_len (E.tmp rfl) el_24_9) (fun a E => ?_)
  refine wv E rfl (r_bin (E.tmp rfl) (ev_c _) (b_gtr (b := decide (0 < ((a1.length : Nat) : Int))) rfl)) fun a E => ?_
  refine wpList_nil (then_n ?_)
  rcases bcase (decide (0 < ((a1.length : Nat) : Int))) with ts14 | ts14
  ·
   refine cond_f E rfl ts14 ?_
   refine wp_skip (then_n (wp_seq ?_))
   have hni : nextI a1 n (busyTo y.actors y.actors.length).length = 0 := nextI_f (by have h := ts14; simp only [decide_eq_false_iff_not] at h; omega)
   have hq := hL
   obtain ⟨ub, p15c, p15h⟩ := H.gr_pos 0 rfl hL
   injection p15h with p15e p15f p15g
   revert E
   revert H
   subst p15e
   subst p15g
   intro H E
   have H : Tr.Inv w0 [] w [Gr (.slice (some ⟨ub, 0, none⟩) ((busyTo y.actors y.actors.length).length) u12c) 2 1 ((busyTo y.actors y.actors.length).length) ((busyTo y.actors y.actors.length).flatMap intE), Cel g10 [.int .i64 (y.top), .int .i64 (y.bottom), .slice (some ⟨bb, 0, none⟩) y.buffer.length w7cB, .slice (some ⟨rb, 0, none⟩) y.actors.length w7cA, .slice AT y.taken.length cT, .slice AR y.refused.length cR] 30, Gr (.slice (some ⟨bb, 0, none⟩) y.buffer.length w7cB) 2 1 y.buffer.length (y.buffer.flatMap intE), Gr (.slice (some ⟨rb, 0, none⟩) y.actors.length w7cA) 119 5 y.actors.length (y.actors.flatMap GDequeActor.enc), Gr (.slice AT y.taken.length cT) 36 2 y.taken.length (y.taken.flatMap GHanded.enc), Gr (.slice AR y.refused.length cR) 2 1 y.refused.length (y.refused.flatMap intE), Cel g2 [.int .i64 (0), .int .i64 (0), .slice none 0 0, .slice none 0 0, .slice none 0 0, .slice none 0 0] 30] := H
   have H := H.gr_dats (by rw [flat_len intE 1 (fun _ => rfl)])
   obtain ⟨i, ea, hbq, hil, hbx, hbt⟩ := busy_at hq
   obtain ⟨n0, tl, pc, tt, tb, tx, hye⟩ := act_open hbt
   have hk : y.actors[i]? = some ⟨n0 :: tl, pc, tt, tb, tx⟩ := by rw [hbx, hye]
   have hrs := hrk.stp hk
   refine wp_region_lit ?_
   refine vm E rfl rfl fun a E => vm E rfl rfl fun a E => wv E rfl (r_ia (k := 0) (o' := 0) (E.tmp rfl) (E.tmp rfl) rfl el_24_9 (by omega) rfl) fun a E => wv E rfl (r_load (E.tmp rfl) ag_2_9 (H.dat_cell 0 rfl rfl 0 hbq)) fun a E => ?_
   -- step
   have H := H.front 5 rfl
   have H := H.front 5 rfl
   have H := H.front 5 rfl
   have H := H.front 5 rfl
   have H := H.front 5 rfl
   obtain ⟨q16F, q16S, q16I, q16b⟩ := Tr.Inv.frame (pre := [Cel g10 [.int .i64 (y.top), .int .i64 (y.bottom), .slice (some ⟨bb, 0, none⟩) y.buffer.length w7cB, .slice (some ⟨rb, 0, none⟩) y.actors.length w7cA, .slice AT y.taken.length cT, .slice AR y.refused.length cR] 30, Gr (.slice (some ⟨bb, 0, none⟩) y.buffer.length w7cB) 2 1 y.buffer.length (y.buffer.flatMap intE), Gr (.slice (some ⟨rb, 0, none⟩) y.actors.length w7cA) 119 5 y.actors.length (y.actors.flatMap GDequeActor.enc), Gr (.slice AT y.taken.length cT) 36 2 y.taken.length (y.taken.flatMap GHanded.enc), Gr (.slice AR y.refused.length cR) 2 1 y.refused.length (y.refused.flatMap intE)]) (rest := [Dat (.slice (some ⟨ub, 0, none⟩) ((busyTo y.actors y.actors.length).length) u12c) ((busyTo y.actors y.actors.length).length) ((busyTo y.actors y.actors.length).flatMap intE), Cel g2 [.int .i64 (0), .int .i64 (0), .slice none 0 0, .slice none 0 0, .slice none 0 0, .slice none 0 0] 30]) H
   obtain ⟨z, hzz⟩ : ∃ z, z = stepS y i ⟨n0 :: tl, pc, tt, tb, tx⟩ := ⟨_, rfl⟩
   have hz2z : z = stepS y i ea := by rw [hye]; exact hzz
   refine w_call E rfl (ev_cons (E.tmp rfl) (ev_cons (E.tmp rfl) (ev_nil))) ok_136_9 (l23Step_q y g10 bb w7cB cT cR rb w7cA AT AR i n0 tl pc tt tb tx z w q16S hk hrs.1 hrk.b0 hrk.b1 (by have := hrk.h1; omega) (by have := hrk.r1; omega) hzz hrs.2.1 hrs.2.2.1 hrs.2.2.2) ?_
   rintro _ w ⟨q16AT, q16cT, q16AR, q16cR, rfl, hI⟩
   refine ⟨_, rfl, fun a E => ?_⟩
   have H := q16b _ _ hI
   clear hI q16S q16I q16b
   have H : Tr.Inv w0 [] w [Cel g10 [.int .i64 (z.top), .int .i64 (z.bottom), .slice (some ⟨bb, 0, none⟩) y.buffer.length w7cB, .slice (some ⟨rb, 0, none⟩) y.actors.length w7cA, .slice q16AT z.taken.length q16cT, .slice q16AR z.refused.length q16cR] 30, Gr (.slice (some ⟨bb, 0, none⟩) y.buffer.length w7cB) 2 1 y.buffer.length (z.buffer.flatMap intE), Gr (.slice (some ⟨rb, 0, none⟩) y.actors.length w7cA) 119 5 y.actors.length (z.actors.flatMap GDequeActor.enc), Gr (.slice q16AT z.taken.length q16cT) 36 2 z.taken.length (z.taken.flatMap GHanded.enc), Gr (.slice q16AR z.refused.length q16cR) 2 1 z.refused.length (z.refused.flatMap intE), Dat (.slice (some ⟨ub, 0, none⟩) ((busyTo y.actors y.actors.length).length) u12c) ((busyTo y.actors y.actors.length).length) ((busyTo y.actors y.actors.length).flatMap intE), Cel g2 [.int .i64 (0), .int .i64 (0), .slice none 0 0, .slice none 0 0, .slice none 0 0, .slice none 0 0] 30] := H
   have hbl : z.buffer.length = y.buffer.length := by rw [hzz]; exact (stepS_len _ _ _).1
   have hal : z.actors.length = y.actors.length := by rw [hzz]; exact (stepS_len _ _ _).2
   have H : Tr.Inv w0 [] w [Cel g10 [.int .i64 (z.top), .int .i64 (z.bottom), .slice (some ⟨bb, 0, none⟩) z.buffer.length w7cB, .slice (some ⟨rb, 0, none⟩) z.actors.length w7cA, .slice q16AT z.taken.length q16cT, .slice q16AR z.refused.length q16cR] 30, Gr (.slice (some ⟨bb, 0, none⟩) z.buffer.length w7cB) 2 1 z.buffer.length (z.buffer.flatMap intE), Gr (.slice (some ⟨rb, 0, none⟩) z.actors.length w7cA) 119 5 z.actors.length (z.actors.flatMap GDequeActor.enc), Gr (.slice q16AT z.taken.length q16cT) 36 2 z.taken.length (z.taken.flatMap GHanded.enc), Gr (.slice q16AR z.refused.length q16cR) 2 1 z.refused.length (z.refused.flatMap intE), Dat (.slice (some ⟨ub, 0, none⟩) ((busyTo y.actors y.actors.length).length) u12c) ((busyTo y.actors y.actors.length).length) ((busyTo y.actors y.actors.length).flatMap intE), Cel g2 [.int .i64 (0), .int .i64 (0), .slice none 0 0, .slice none 0 0, .slice none 0 0, .slice none 0 0] 30] := by rw [hbl, hal]; exact H
   refine wpList_nil (then_n (wp_seq (wp_seq (wp_region_lit ?_))))
   obtain ⟨w17b5, w17t5⟩ := H.gr_t 4 rfl (by rw [flat_len intE 1 (fun _ => rfl)])
   obtain ⟨w17b4, w17t4⟩ := H.gr_t 3 rfl (by rw [flat_len GHanded.enc 2 GHanded.enc_len])
   obtain ⟨w17b3, w17t3⟩ := H.gr_t 2 rfl (by rw [flat_len GDequeActor.enc 5 GDequeActor.enc_len])
   obtain ⟨w17b2, w17t2⟩ := H.gr_t 1 rfl (by rw [flat_len intE 1 (fun _ => rfl)])
   have w17p : RoP w [] g10 0 z.enc := H.rop 0 rfl (TN.v_mk rfl (TN.v_mk rfl (TN.sl_mk w17t2 (TN.sl_mk w17t3 (TN.sl_mk w17t4 (TN.sl_mk w17t5 TN.done))))))
   refine w_quiet (v := .bool (fullB z)) E rfl (ev_cons (E.tmp rfl) (ev_nil)) ok_137_9 (l23Full_q z g10 0 w w17p) H (fun a w E H => ?_)
   refine wpList_nil (then_n ?_)
   rcases bcase (fullB z) with ts18 | ts18
   ·
    refine cond_f E rfl ts18 ?_
    refine wp_skip (then_n (wp_region_lit ?_))
    refine vm E rfl rfl fun a E => wv E rfl (r_bin (E.tmp rfl) (ev_c _) (b_add (wrap_succ (by omega)))) fun a E => va E rfl rfl fun a E => ?_
    refine wpList_nil (inb_n ?_)
    have H := H.front 6 rfl
    have H := H.front 5 rfl
    have H := H.front 5 rfl
    have H := H.front 5 rfl
    have H := H.front 5 rfl
    have H := H.front 5 rfl
    have H := H.front 5 rfl
    have H := H.front 5 rfl
    have H := H.front 5 rfl
    have H := H.front 5 rfl
    have H := H.front 5 rfl
    have H := H.front 5 rfl
    have H := H.drop 6 rfl
    have hrn := runOk_step hrk hk hrs.2.1 hrs.2.2.1 (by rw [← hzz]; exact ts18)
    rw [← hzz] at hrn
    have hMn := actM_step hk hrs.2.1 hrs.2.2.1
    rw [← hzz] at hMn
    rw [runD_go ts13 hni hbq hbx, ← hz2z, ts18, cond_false] at hR
    exact then_n ⟨_, by omega, z, n + 1, f, _, _, _, _, rfl, hrn, by omega, by omega, hR, (Env.pick E (Env.pick E (Env.pick E (Env.pick E E.nil rfl) rfl) rfl) rfl), H⟩
   refine cond_t E rfl ts18 ?_
   refine wp_seq (wp_region_lit ?_)
   refine wv E rfl (r_build (pv (pvn)) (by kernel_rfl : (Instr.build 30 (List.toArray [])).run Try.prog _ = .ok (.agg #[.int .i64 (0), .int .i64 (0), .slice none 0 0, .slice none 0 0, .slice none 0 0, .slice none 0 0]) _)) fun a E => ?_
   refine w_stores (us := [.int .i64 (0), .int .i64 (0), .slice none 0 0, .slice none 0 0, .slice none 0 0, .slice none 0 0]) (cs' := [.int .i64 (0), .int .i64 (0), .slice none 0 0, .slice none 0 0, .slice none 0 0, .slice none 0 0]) (rs' := [_, _, _, _, _, _, Cel _ [.int .i64 (0), .int .i64 (0), .slice none 0 0, .slice none 0 0, .slice none 0 0, .slice none 0 0] _]) E (E.tmp rfl) (E.tmp rfl) rfl sz_30_9 H (i := 6) rfl rfl rfl rfl (fun a w E H => ?_)
   refine wv E rfl (r_assign (ev_c _)) fun a E => wv E rfl (r_assign (ev_c _)) fun a E => ?_
   refine wpList_nil (then_n (wp_ret (then_r (inb_r (then_r (inb_r ?_))))))
   refine post3 E rfl (out_c (us := [.int .i64 (0), .int .i64 (0), .slice none 0 0, .slice none 0 0, .slice none 0 0, .slice none 0 0]) E rfl ag_30_9 sz_30_9 (H.cellsAt 6 rfl)) (out_t E rfl) (out_t E rfl) ?_
   have H := H.mk_e
   have H := H.gr_nil 0 1
   have H := H.gr_dats rfl
   have H := H.mk_s
   have H := H.gr_nil 0 2
   have H := H.gr_dats rfl
   have H := H.mk_s
   have H := H.gr_nil 0 5
   have H := H.gr_dats rfl
   have H := H.mk_s
   have H := H.gr_nil 0 1
   have H := H.gr_dats rfl
   have H := H.mk_s
   have H := H.mk_v (x := .int .i64 (0)) rfl
   have H := H.mk_v (x := .int .i64 (0)) rfl
   have H := H.drop 1 rfl
   have H := H.drop 1 rfl
   have H := H.drop 1 rfl
   have H := H.drop 1 rfl
   have H := H.drop 1 rfl
   have H := H.drop 1 rfl
   have H := H.drop 1 rfl
   obtain ⟨rfl, rfl, rfl⟩ : r0 = (⟨0, 0, [], [], [], []⟩ : GDeque) ∧ r1 = 0 ∧ r2 = 4 := by
    rw [runD_go ts13 hni hbq hbx, ← hz2z, ts18, cond_true] at hR
    exact inj3 hR
   exact ⟨_, rfl, H⟩
  refine cond_t E rfl ts14 ?_
  have hpos : 0 < a1.length := by have h := ts14; simp only [decide_eq_true_eq] at h; omega
  have hml := Nat.mod_lt n hpos
  revert E
  revert H
  obtain ⟨e19b, e19o, e19y, rfl, e19x, e19q⟩ := Ro1.elem (f := intE) (s := 1) (fun _ => rfl) hsch rfl hml
  intro H E
  have r20p0 : RoP w0 [] e19b (e19o + (n % a1.length) * 1) [.v (.int .i64 (e19y))] := e19q
  obtain ⟨r20k0, r20p1⟩ := RoP.vv r20p0
  clear r20p0
  clear r20p1
  obtain ⟨j, hj⟩ := sch_el ts5 e19x
  have hni : nextI a1 n (busyTo y.actors y.actors.length).length = j % (busyTo y.actors y.actors.length).length := nextI_t hpos (e19x.trans (congrArg some hj))
  revert E
  revert H
  subst hj
  intro H E
  refine wp_region_lit ?_
  refine vm E rfl rfl fun a E => vm E rfl rfl fun a E => vm E rfl rfl fun a E => ?_
  refine wv E rfl (r_len (E.tmp rfl) el_24_9) (fun a E => ?_)
  refine wv E rfl (r_bin (E.tmp rfl) (E.tmp rfl) (b_rem (by omega) (Int.ofNat_tmod _ _).symm)) fun a E => wv E rfl (r_ia (k := n % a1.length) (o' := e19o + (n % a1.length) * 1) (E.tmp rfl) (E.tmp rfl) rfl el_24_9 (by omega) rfl) fun a E => wv E rfl (r_load (E.tmp rfl) ag_2_9 (r20k0.get H)) fun a E => vm E rfl rfl fun a E => ?_
  refine wv E rfl (r_len (E.tmp rfl) el_24_9) (fun a E => ?_)
  refine wv E rfl (r_bin (E.tmp rfl) (E.tmp rfl) (b_rem (by omega) (Int.ofNat_tmod _ _).symm)) fun a E => va E rfl rfl fun a E => ?_
  refine wpList_nil (then_n (wp_seq ?_))
  have hq := Nat.mod_lt j hL
  obtain ⟨ub, p21c, p21h⟩ := H.gr_pos 0 rfl hL
  injection p21h with p21e p21f p21g
  revert E
  revert H
  subst p21e
  subst p21g
  intro H E
  have H : Tr.Inv w0 [] w [Gr (.slice (some ⟨ub, 0, none⟩) ((busyTo y.actors y.actors.length).length) u12c) 2 1 ((busyTo y.actors y.actors.length).length) ((busyTo y.actors y.actors.length).flatMap intE), Cel g10 [.int .i64 (y.top), .int .i64 (y.bottom), .slice (some ⟨bb, 0, none⟩) y.buffer.length w7cB, .slice (some ⟨rb, 0, none⟩) y.actors.length w7cA, .slice AT y.taken.length cT, .slice AR y.refused.length cR] 30, Gr (.slice (some ⟨bb, 0, none⟩) y.buffer.length w7cB) 2 1 y.buffer.length (y.buffer.flatMap intE), Gr (.slice (some ⟨rb, 0, none⟩) y.actors.length w7cA) 119 5 y.actors.length (y.actors.flatMap GDequeActor.enc), Gr (.slice AT y.taken.length cT) 36 2 y.taken.length (y.taken.flatMap GHanded.enc), Gr (.slice AR y.refused.length cR) 2 1 y.refused.length (y.refused.flatMap intE), Cel g2 [.int .i64 (0), .int .i64 (0), .slice none 0 0, .slice none 0 0, .slice none 0 0, .slice none 0 0] 30] := H
  have H := H.gr_dats (by rw [flat_len intE 1 (fun _ => rfl)])
  obtain ⟨i, ea, hbq, hil, hbx, hbt⟩ := busy_at hq
  obtain ⟨n0, tl, pc, tt, tb, tx, hye⟩ := act_open hbt
  have hk : y.actors[i]? = some ⟨n0 :: tl, pc, tt, tb, tx⟩ := by rw [hbx, hye]
  have hrs := hrk.stp hk
  refine wp_region_lit ?_
  refine vm E rfl rfl fun a E => vm E rfl rfl fun a E => wv E rfl (r_ia (k := j % ((busyTo y.actors y.actors.length).length)) (o' := (j % ((busyTo y.actors y.actors.length).length)) * 1) (E.tmp rfl) (E.tmp rfl) rfl el_24_9 (by omega) (Nat.zero_add _)) fun a E => wv E rfl (r_load (E.tmp rfl) ag_2_9 (dc1 (H.dat_cell 0 rfl rfl (j % ((busyTo y.actors y.actors.length).length)) hbq))) fun a E => ?_
  -- step
  have H := H.front 5 rfl
  have H := H.front 5 rfl
  have H := H.front 5 rfl
  have H := H.front 5 rfl
  have H := H.front 5 rfl
  obtain ⟨q22F, q22S, q22I, q22b⟩ := Tr.Inv.frame (pre := [Cel g10 [.int .i64 (y.top), .int .i64 (y.bottom), .slice (some ⟨bb, 0, none⟩) y.buffer.length w7cB, .slice (some ⟨rb, 0, none⟩) y.actors.length w7cA, .slice AT y.taken.length cT, .slice AR y.refused.length cR] 30, Gr (.slice (some ⟨bb, 0, none⟩) y.buffer.length w7cB) 2 1 y.buffer.length (y.buffer.flatMap intE), Gr (.slice (some ⟨rb, 0, none⟩) y.actors.length w7cA) 119 5 y.actors.length (y.actors.flatMap GDequeActor.enc), Gr (.slice AT y.taken.length cT) 36 2 y.taken.length (y.taken.flatMap GHanded.enc), Gr (.slice AR y.refused.length cR) 2 1 y.refused.length (y.refused.flatMap intE)]) (rest := [Dat (.slice (some ⟨ub, 0, none⟩) ((busyTo y.actors y.actors.length).length) u12c) ((busyTo y.actors y.actors.length).length) ((busyTo y.actors y.actors.length).flatMap intE), Cel g2 [.int .i64 (0), .int .i64 (0), .slice none 0 0, .slice none 0 0, .slice none 0 0, .slice none 0 0] 30]) H
  obtain ⟨z, hzz⟩ : ∃ z, z = stepS y i ⟨n0 :: tl, pc, tt, tb, tx⟩ := ⟨_, rfl⟩
  have hz2z : z = stepS y i ea := by rw [hye]; exact hzz
  refine w_call E rfl (ev_cons (E.tmp rfl) (ev_cons (E.tmp rfl) (ev_nil))) ok_136_9 (l23Step_q y g10 bb w7cB cT cR rb w7cA AT AR i n0 tl pc tt tb tx z w q22S hk hrs.1 hrk.b0 hrk.b1 (by have := hrk.h1; omega) (by have := hrk.r1; omega) hzz hrs.2.1 hrs.2.2.1 hrs.2.2.2) ?_
  rintro _ w ⟨q22AT, q22cT, q22AR, q22cR, rfl, hI⟩
  refine ⟨_, rfl, fun a E => ?_⟩
  have H := q22b _ _ hI
  clear hI q22S q22I q22b
  have H : Tr.Inv w0 [] w [Cel g10 [.int .i64 (z.top), .int .i64 (z.bottom), .slice (some ⟨bb, 0, none⟩) y.buffer.length w7cB, .slice (some ⟨rb, 0, none⟩) y.actors.length w7cA, .slice q22AT z.taken.length q22cT, .slice q22AR z.refused.length q22cR] 30, Gr (.slice (some ⟨bb, 0, none⟩) y.buffer.length w7cB) 2 1 y.buffer.length (z.buffer.flatMap intE), Gr (.slice (some ⟨rb, 0, none⟩) y.actors.length w7cA) 119 5 y.actors.length (z.actors.flatMap GDequeActor.enc), Gr (.slice q22AT z.taken.length q22cT) 36 2 z.taken.length (z.taken.flatMap GHanded.enc), Gr (.slice q22AR z.refused.length q22cR) 2 1 z.refused.length (z.refused.flatMap intE), Dat (.slice (some ⟨ub, 0, none⟩) ((busyTo y.actors y.actors.length).length) u12c) ((busyTo y.actors y.actors.length).length) ((busyTo y.actors y.actors.length).flatMap intE), Cel g2 [.int .i64 (0), .int .i64 (0), .slice none 0 0, .slice none 0 0, .slice none 0 0, .slice none 0 0] 30] := H
  have hbl : z.buffer.length = y.buffer.length := by rw [hzz]; exact (stepS_len _ _ _).1
  have hal : z.actors.length = y.actors.length := by rw [hzz]; exact (stepS_len _ _ _).2
  have H : Tr.Inv w0 [] w [Cel g10 [.int .i64 (z.top), .int .i64 (z.bottom), .slice (some ⟨bb, 0, none⟩) z.buffer.length w7cB, .slice (some ⟨rb, 0, none⟩) z.actors.length w7cA, .slice q22AT z.taken.length q22cT, .slice q22AR z.refused.length q22cR] 30, Gr (.slice (some ⟨bb, 0, none⟩) z.buffer.length w7cB) 2 1 z.buffer.length (z.buffer.flatMap intE), Gr (.slice (some ⟨rb, 0, none⟩) z.actors.length w7cA) 119 5 z.actors.length (z.actors.flatMap GDequeActor.enc), Gr (.slice q22AT z.taken.length q22cT) 36 2 z.taken.length (z.taken.flatMap GHanded.enc), Gr (.slice q22AR z.refused.length q22cR) 2 1 z.refused.length (z.refused.flatMap intE), Dat (.slice (some ⟨ub, 0, none⟩) ((busyTo y.actors y.actors.length).length) u12c) ((busyTo y.actors y.actors.length).length) ((busyTo y.actors y.actors.length).flatMap intE), Cel g2 [.int .i64 (0), .int .i64 (0), .slice none 0 0, .slice none 0 0, .slice none 0 0, .slice none 0 0] 30] := by rw [hbl, hal]; exact H
  refine wpList_nil (then_n (wp_seq (wp_seq (wp_region_lit ?_))))
  obtain ⟨w23b5, w23t5⟩ := H.gr_t 4 rfl (by rw [flat_len intE 1 (fun _ => rfl)])
  obtain ⟨w23b4, w23t4⟩ := H.gr_t 3 rfl (by rw [flat_len GHanded.enc 2 GHanded.enc_len])
  obtain ⟨w23b3, w23t3⟩ := H.gr_t 2 rfl (by rw [flat_len GDequeActor.enc 5 GDequeActor.enc_len])
  obtain ⟨w23b2, w23t2⟩ := H.gr_t 1 rfl (by rw [flat_len intE 1 (fun _ => rfl)])
  have w23p : RoP w [] g10 0 z.enc := H.rop 0 rfl (TN.v_mk rfl (TN.v_mk rfl (TN.sl_mk w23t2 (TN.sl_mk w23t3 (TN.sl_mk w23t4 (TN.sl_mk w23t5 TN.done))))))
  refine w_quiet (v := .bool (fullB z)) E rfl (ev_cons (E.tmp rfl) (ev_nil)) ok_137_9 (l23Full_q z g10 0 w w23p) H (fun a w E H => ?_)
  refine wpList_nil (then_n ?_)
  rcases bcase (fullB z) with ts24 | ts24
  ·
   refine cond_f E rfl ts24 ?_
   refine wp_skip (then_n (wp_region_lit ?_))
   refine vm E rfl rfl fun a E => wv E rfl (r_bin (E.tmp rfl) (ev_c _) (b_add (wrap_succ (by omega)))) fun a E => va E rfl rfl fun a E => ?_
   refine wpList_nil (inb_n ?_)
   have H := H.front 6 rfl
   have H := H.front 5 rfl
   have H := H.front 5 rfl
   have H := H.front 5 rfl
   have H := H.front 5 rfl
   have H := H.front 5 rfl
   have H := H.front 5 rfl
   have H := H.front 5 rfl
   have H := H.front 5 rfl
   have H := H.front 5 rfl
   have H := H.front 5 rfl
   have H := H.front 5 rfl
   have H := H.drop 6 rfl
   have hrn := runOk_step hrk hk hrs.2.1 hrs.2.2.1 (by rw [← hzz]; exact ts24)
   rw [← hzz] at hrn
   have hMn := actM_step hk hrs.2.1 hrs.2.2.1
   rw [← hzz] at hMn
   rw [runD_go ts13 hni hbq hbx, ← hz2z, ts24, cond_false] at hR
   exact then_n ⟨_, by omega, z, n + 1, f, _, _, _, _, rfl, hrn, by omega, by omega, hR, (Env.pick E (Env.pick E (Env.pick E (Env.pick E E.nil rfl) rfl) rfl) rfl), H⟩
  refine cond_t E rfl ts24 ?_
  refine wp_seq (wp_region_lit ?_)
  refine wv E rfl (r_build (pv (pvn)) (by kernel_rfl : (Instr.build 30 (List.toArray [])).run Try.prog _ = .ok (.agg #[.int .i64 (0), .int .i64 (0), .slice none 0 0, .slice none 0 0, .slice none 0 0, .slice none 0 0]) _)) fun a E => ?_
  refine w_stores (us := [.int .i64 (0), .int .i64 (0), .slice none 0 0, .slice none 0 0, .slice none 0 0, .slice none 0 0]) (cs' := [.int .i64 (0), .int .i64 (0), .slice none 0 0, .slice none 0 0, .slice none 0 0, .slice none 0 0]) (rs' := [_, _, _, _, _, _, Cel _ [.int .i64 (0), .int .i64 (0), .slice none 0 0, .slice none 0 0, .slice none 0 0, .slice none 0 0] _]) E (E.tmp rfl) (E.tmp rfl) rfl sz_30_9 H (i := 6) rfl rfl rfl rfl (fun a w E H => ?_)
  refine wv E rfl (r_assign (ev_c _)) fun a E => wv E rfl (r_assign (ev_c _)) fun a E => ?_
  refine wpList_nil (then_n (wp_ret (then_r (inb_r (then_r (inb_r ?_))))))
  refine post3 E rfl (out_c (us := [.int .i64 (0), .int .i64 (0), .slice none 0 0, .slice none 0 0, .slice none 0 0, .slice none 0 0]) E rfl ag_30_9 sz_30_9 (H.cellsAt 6 rfl)) (out_t E rfl) (out_t E rfl) ?_
  have H := H.mk_e
  have H := H.gr_nil 0 1
  have H := H.gr_dats rfl
  have H := H.mk_s
  have H := H.gr_nil 0 2
  have H := H.gr_dats rfl
  have H := H.mk_s
  have H := H.gr_nil 0 5
  have H := H.gr_dats rfl
  have H := H.mk_s
  have H := H.gr_nil 0 1
  have H := H.gr_dats rfl
  have H := H.mk_s
  have H := H.mk_v (x := .int .i64 (0)) rfl
  have H := H.mk_v (x := .int .i64 (0)) rfl
  have H := H.drop 1 rfl
  have H := H.drop 1 rfl
  have H := H.drop 1 rfl
  have H := H.drop 1 rfl
  have H := H.drop 1 rfl
  have H := H.drop 1 rfl
  have H := H.drop 1 rfl
  obtain ⟨rfl, rfl, rfl⟩ : r0 = (⟨0, 0, [], [], [], []⟩ : GDeque) ∧ r1 = 0 ∧ r2 = 4 := by
   rw [runD_go ts13 hni hbq hbx, ← hz2z, ts24, cond_true] at hR
   exact inj3 hR
  exact ⟨_, rfl, H⟩
 refine cond_t E rfl ts13 ?_
 refine wp_seq (wp_region_lit ?_)
 refine wv E rfl (r_loads (us := [.int .i64 (y.top), .int .i64 (y.bottom), .slice (some ⟨bb, 0, none⟩) y.buffer.length w7cB, .slice (some ⟨rb, 0, none⟩) y.actors.length w7cA, .slice AT y.taken.length cT, .slice AR y.refused.length cR]) (E.tmp rfl) ag_30_9 sz_30_9 (H.cellsAt 1 rfl)) fun a E => vm E rfl rfl fun a E => ?_
 refine w_stores (us := [.int .i64 (y.top), .int .i64 (y.bottom), .slice (some ⟨bb, 0, none⟩) y.buffer.length w7cB, .slice (some ⟨rb, 0, none⟩) y.actors.length w7cA, .slice AT y.taken.length cT, .slice AR y.refused.length cR]) (cs' := [.int .i64 (y.top), .int .i64 (y.bottom), .slice (some ⟨bb, 0, none⟩) y.buffer.length w7cB, .slice (some ⟨rb, 0, none⟩) y.actors.length w7cA, .slice AT y.taken.length cT, .slice AR y.refused.length cR]) (rs' := [_, _, _, _, _, _, Cel _ [.int .i64 (y.top), .int .i64 (y.bottom), .slice (some ⟨bb, 0, none⟩) y.buffer.length w7cB, .slice (some ⟨rb, 0, none⟩) y.actors.length w7cA, .slice AT y.taken.length cT, .slice AR y.refused.length cR] _]) E (E.tmp rfl) (E.tmp rfl) rfl sz_30_9 H (i := 6) rfl rfl rfl rfl (fun a w E H => ?_)
 refine va E rfl rfl fun a E => wv E rfl (r_assign (ev_c _)) fun a E => ?_
 refine wpList_nil (then_n (wp_ret (then_r (inb_r (then_r (inb_r ?_))))))
 refine post3 E rfl (out_c (us := [.int .i64 (y.top), .int .i64 (y.bottom), .slice (some ⟨bb, 0, none⟩) y.buffer.length w7cB, .slice (some ⟨rb, 0, none⟩) y.actors.length w7cA, .slice AT y.taken.length cT, .slice AR y.refused.length cR]) E rfl ag_30_9 sz_30_9 (H.cellsAt 6 rfl)) (out_t E rfl) (out_t E rfl) ?_
 have H := H.mk_e
 have H := H.front 6 rfl
 have H := H.gr_dats (by rw [flat_len intE 1 (fun _ => rfl)])
 have H := H.mk_s
 have H := H.front 5 rfl
 have H := H.gr_dats (by rw [flat_len GHanded.enc 2 GHanded.enc_len])
 have H := H.mk_s
 have H := H.front 4 rfl
 have H := H.gr_dats (by rw [flat_len GDequeActor.enc 5 GDequeActor.enc_len])
 have H := H.mk_s
 have H := H.front 3 rfl
 have H := H.gr_dats (by rw [flat_len intE 1 (fun _ => rfl)])
 have H := H.mk_s
 have H := H.mk_v (x := .int .i64 (y.bottom)) rfl
 have H := H.mk_v (x := .int .i64 (y.top)) rfl
 have H := H.drop 1 rfl
 have H := H.drop 1 rfl
 have H := H.drop 1 rfl
 obtain ⟨rfl, rfl, rfl⟩ : r0 = y ∧ r1 = ((n : Nat) : Int) ∧ r2 = 0 := by
  rw [runD_end ts13] at hR
  exact inj3 hR
 exact ⟨_, rfl, H⟩
end Go.Proofs.Ythelpioccjjgfaa
