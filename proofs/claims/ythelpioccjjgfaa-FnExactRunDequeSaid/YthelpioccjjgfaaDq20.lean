/- Deques. Printed by gx_dq.py. -/
import Derived.Test.YthelpioccjjgfaaProg
import Derived.Test.YthelpioccjjgfaaSc
import Derived.Test.YthelpioccjjgfaaDDq
import Derived.Test.YthelpioccjjgfaaArith
import Derived.IntWalk
import Derived.Test.YthelpioccjjgfaaDq18
set_option linter.unusedSimpArgs false
set_option linter.unusedVariables false
namespace Go.Tr
theorem nextI_lt {sch : List Int} {n m : Nat} (hm : 0 < m) : nextI sch n m < m := by
  unfold nextI
  split
  · exact Nat.mod_lt _ hm
  · exact hm
end Go.Tr
namespace Go.Proofs.Ythelpioccjjgfaa
open Go Go.RowKit Go.Proofs Go.Tr
theorem el_24_19 : elemOf? Try.prog 24 = some (2, 1) := by kernel_rfl
theorem ag_2_19 : aggB Try.prog 2 = some false := by kernel_rfl
theorem ok_157_19 : callOk Try.prog 157 = true := by kernel_rfl
theorem ok_149_19 : callOk Try.prog 149 = true := by kernel_rfl
theorem ok_60_19 : callOk Try.prog 60 = true := by kernel_rfl
theorem fo_30_3_19 : fldOff Try.prog 30 3 = some 3 := by kernel_rfl
theorem ag_27_19 : aggB Try.prog 27 = some false := by kernel_rfl
theorem el_27_19 : elemOf? Try.prog 27 = some (119, 5) := by kernel_rfl
theorem ag_119_19 : aggB Try.prog 119 = some true := by kernel_rfl
theorem sz_119_19 : (Try.prog.info? 119).map (·.size) = some 5 := by kernel_rfl
theorem zo_119_19 : zeroOf Try.prog 119 = some [.slice none 0 0, .int .i64 (0), .int .i64 (0), .int .i64 (0), .int .i64 (0)] := by kernel_rfl
theorem fo_119_0_19 : fldOff Try.prog 119 0 = some 0 := by kernel_rfl
theorem ag_24_19 : aggB Try.prog 24 = some false := by kernel_rfl
theorem eo_24_19 : ElemOk Try.prog 24 2 1 := ElemOk.of Try.underlying24 (by kernel_rfl) (by omega)
theorem zo_30_19 : zeroOf Try.prog 30 = some [.int .i64 (0), .int .i64 (0), .slice none 0 0, .slice none 0 0, .slice none 0 0, .slice none 0 0] := by kernel_rfl
theorem ag_30_19 : aggB Try.prog 30 = some true := by kernel_rfl
theorem sz_30_19 : (Try.prog.info? 30).map (·.size) = some 6 := by kernel_rfl
theorem ok_65_19 : callOk Try.prog 65 = true := by kernel_rfl
theorem ok_66_19 : callOk Try.prog 66 = true := by kernel_rfl
theorem ok_67_19 : callOk Try.prog 67 = true := by kernel_rfl
theorem ok_68_19 : callOk Try.prog 68 = true := by kernel_rfl
theorem ok_70_19 : callOk Try.prog 70 = true := by kernel_rfl
theorem ok_69_19 : callOk Try.prog 69 = true := by kernel_rfl
set_option maxHeartbeats 1000000 in
theorem vs1_q (n : Int) (w0 : World)  : Calls Try.prog 157 #[.int .i64 (n)] w0 fun e w' => e = .returned (.bool (!inB n 0 600)) ∧ Ext w0 w' := by
 refine enter_i (args := [.int .i64 (n)]) Try.func157 rfl Try.ntmps157 rfl sep0 (fun a w E H => ?_)
 have E : Env 9 a [(0, .int .i64 (n))] := E
 refine wp_seq (wp_region_lit ?_)
 refine wv E rfl (r_assign (ev_c _)) fun a E => ?_
 refine wpList_nil (then_n (wp_seq (wp_region_lit ?_)))
 refine vm E rfl rfl fun a E => wv E rfl (r_bin (E.tmp rfl) (ev_c _) (b_lss (b := decide (n < 0)) rfl)) fun a E => vm E rfl rfl fun a E => ?_
 rcases bcase (decide (n < 0)) with ts1 | ts1
 ·
  refine ung E rfl rfl rfl ts1 ?_
  refine vm E rfl rfl fun a E => ?_
  refine ung E rfl rfl rfl ts1 ?_
  refine wv E rfl (r_bin (E.tmp rfl) (ev_c _) (b_gtr (b := decide (600 < n)) rfl)) fun a E => wv E rfl (r_pick_f ((E.tmp rfl).trans (congrArg Value.bool ts1)) (E.tmp rfl)) fun a E => va E rfl rfl fun a E => ?_
  refine wpList_nil (then_n (wp_ret ?_))
  refine post1 E rfl (out_t E rfl) ?_
  have hE : (decide (600 < n)) = !inB n 0 600 := by
   have hts1 := ts1
   rw [Bool.eq_iff_iff]
   simp [inB] at hts1 ⊢
   all_goals first | done | omega | (intros; omega)
  exact rb hE H
 refine wnh (c := true) E rfl rfl rfl rfl ts1 rfl fun a E => ?_
 refine wnh (c := true) E rfl rfl rfl rfl ts1 rfl fun a E => ?_
 refine wv E rfl (r_pick_t ((E.tmp rfl).trans (congrArg Value.bool ts1)) (ev_c _)) fun a E => va E rfl rfl fun a E => ?_
 refine wpList_nil (then_n (wp_ret ?_))
 refine post1 E rfl (out_t E rfl) ?_
 have hE : true = !inB n 0 600 := by
  have hts1 := ts1
  rw [Bool.eq_iff_iff]
  simp [inB] at hts1 ⊢
  all_goals first | done | omega | (intros; omega)
 exact rb hE H

set_option maxHeartbeats 1000000 in
theorem idx_vs1 (xs : List Int) (c : Nat) (A : Option Addr)  (w0 : World)  (hx : Ro1 w0 [] (.sl xs.length (xs.flatMap intE)) (.slice A xs.length c)) : Calls Try.prog 149 #[.slice A xs.length c, .func (.func 157) #[] #[]] w0 fun e w' => ∃ i : Int, e = .returned (.int .i64 i) ∧ decide (0 ≤ i) = (!xs.all (fun n => inB n 0 600)) ∧ Ext w0 w' := by
 refine enter_i (args := [.slice A xs.length c, .func (.func 157) #[] #[]]) Try.func149 rfl Try.ntmps149 rfl sep0 (fun a w E H => ?_)
 have E : Env 19 a [(0, .slice A xs.length c), (1, .func (.func 157) #[] #[])] := E
 have hnl := hx.nle
 refine wp_seq (wp_region_lit ?_)
 refine wv E rfl (r_assign (ev_c _)) fun a E => ?_
 refine wpList_nil (then_n (wp_seq (wp_seq (wp_region_lit ?_))))
 refine vm E rfl rfl fun a E => ?_
 refine wv E rfl (r_len (E.tmp rfl) el_24_19) (fun a E => ?_)
 refine wv E rfl (r_move (ev_c _)) fun a E => ?_
 refine wpList_nil (then_n (wp_block ?_))
 refine wp_loop_ghost (fun m a w => ∃ (k : Nat), m = xs.length - k ∧ k ≤ xs.length ∧ (xs.take k).all (fun n => inB n 0 600) = true ∧ Env 19 a [(0, .slice A xs.length c), (1, .func (.func 157) #[] #[]), (7, .int .i64 (((xs.length : Nat) : Int))), (8, .int .i64 (((k : Nat) : Int)))] ∧ Tr.Inv w0 [] w []) _ ⟨0, rfl, Nat.zero_le _, rfl, (Env.pick E (Env.pick E (Env.pick E (Env.pick E E.nil rfl) rfl) rfl) rfl), H⟩ ?_
 rintro _ a w ⟨k, rfl, hk, hall, E, H⟩
 by_cases hlt : k < xs.length
 ·
  skip
  revert E
  revert H
  obtain ⟨e1b, e1o, e1y, rfl, e1x, e1q⟩ := Ro1.elem (f := intE) (s := 1) (fun _ => rfl) hx rfl hlt
  intro H E
  have r2p0 : RoP w0 [] e1b (e1o + k * 1) [.v (.int .i64 (e1y))] := e1q
  obtain ⟨r2k0, r2p1⟩ := RoP.vv r2p0
  clear r2p0
  clear r2p1
  refine wp_seq (wp_region_lit ?_)
  refine wv E rfl (r_bin (E.tmp rfl) (E.tmp rfl) (b_lss (b := true) (by simp; exact hlt))) fun a E => ?_
  refine wpList_nil (then_n (wp_seq ?_))
  refine cond_t E rfl rfl ?_
  refine wp_skip (then_n (wp_seq (wp_block (wp_seq (wp_region_lit ?_)))))
  refine vm E rfl rfl fun a E => va E rfl rfl fun a E => ?_
  refine wpList_nil (then_n (wp_seq (wp_region_lit ?_)))
  refine vm E rfl rfl fun a E => vm E rfl rfl fun a E => vm E rfl rfl fun a E => wv E rfl (r_ia (k := k) (o' := e1o + k * 1) (E.tmp rfl) (E.tmp rfl) rfl el_24_19 (by omega) rfl) fun a E => wv E rfl (r_load (E.tmp rfl) ag_2_19 (r2k0.get H)) fun a E => ?_
  refine w_quietv (v := .bool (!inB e1y 0 600)) (cs := []) E rfl (E.tmp rfl) (ev_cons (E.tmp rfl) (ev_nil)) ok_157_19 (vs1_q e1y w) H (fun a w E H => ?_)
  refine wpList_nil (then_n ?_)
  rcases bcase (inB e1y 0 600) with ts3 | ts3
  ·
   refine cond_t E rfl (by rw [ts3]; rfl) ?_
   refine wp_seq (wp_region_lit ?_)
   refine vm E rfl rfl fun a E => va E rfl rfl fun a E => ?_
   refine wpList_nil (then_n (wp_ret (inb_r (then_r (then_r (inb_r (then_r ?_)))))))
   refine post1 E rfl (out_t E rfl) ?_
   have hp : (fun n => inB n 0 600) e1y = false := by show inB e1y 0 600 = false; exact ts3
   exact ⟨_, rfl, idx_hit e1x hp, H.to_ext⟩
  refine cond_f E rfl (by rw [ts3]; rfl) ?_
  refine wp_skip (inb_n (then_n (wp_region_lit ?_)))
  refine wv E rfl (r_bin (E.tmp rfl) (ev_c _) (b_add (wrap_succ (by omega)))) fun a E => vm E rfl rfl fun a E => ?_
  refine wpList_nil ?_
  have hp : (fun n => inB n 0 600) e1y = true := by show inB e1y 0 600 = true; exact ts3
  exact then_n ⟨_, by omega, k + 1, rfl, by omega, all_succ hall e1x hp, (Env.pick E (Env.pick E (Env.pick E (Env.pick E E.nil rfl) rfl) rfl) rfl), H⟩
 ·
  skip
  refine wp_seq (wp_region_lit ?_)
  refine wv E rfl (r_bin (E.tmp rfl) (E.tmp rfl) (b_lss (b := false) (by simp; omega))) fun a E => ?_
  refine wpList_nil (then_n (wp_seq ?_))
  refine cond_f E rfl rfl ?_
  refine wp_exit (then_e (then_e (inb_ee (then_n (wp_seq (wp_region_lit ?_))))))
  refine wv E rfl (r_assign (ev_c _)) fun a E => ?_
  refine wpList_nil (then_n (wp_ret ?_))
  refine post1 E rfl (out_t E rfl) ?_
  exact ⟨_, rfl, idx_miss hall (by omega), H.to_ext⟩

set_option maxHeartbeats 1000000 in
theorem con_vs1 (xs : List Int) (c : Nat) (A : Option Addr)  (w0 : World)  (hx : Ro1 w0 [] (.sl xs.length (xs.flatMap intE)) (.slice A xs.length c)) : Calls Try.prog 60 #[.slice A xs.length c, .func (.func 157) #[] #[]] w0 fun e w' => e = .returned (.bool (!xs.all (fun n => inB n 0 600))) ∧ Ext w0 w' := by
 refine enter_i (args := [.slice A xs.length c, .func (.func 157) #[] #[]]) Try.func60 rfl Try.ntmps60 rfl sep0 (fun a w E H => ?_)
 have E : Env 9 a [(0, .slice A xs.length c), (1, .func (.func 157) #[] #[])] := E
 refine wp_seq (wp_region_lit ?_)
 refine wv E rfl (r_assign (ev_c _)) fun a E => ?_
 refine wpList_nil (then_n (wp_seq (wp_region_lit ?_)))
 refine vm E rfl rfl fun a E => vm E rfl rfl fun a E => ?_
 refine w_call E rfl (ev_cons (E.tmp rfl) (ev_cons (E.tmp rfl) (ev_nil))) ok_149_19 (idx_vs1 xs c A  w   (hx.at_ H (F := []) (by simp))) ?_
 rintro _ w ⟨i, rfl, hi, hext⟩
 refine ⟨_, rfl, fun a E => ?_⟩
 have H := Tr.Inv.ext H hext
 clear hext
 refine wv E rfl (r_bin (E.tmp rfl) (ev_c _) (b_geq (b := decide (0 ≤ i)) rfl)) fun a E => va E rfl rfl fun a E => ?_
 refine wpList_nil (then_n (wp_ret ?_))
 refine post1 E rfl (out_t E rfl) ?_
 exact ⟨congrArg (fun z => Ending.returned (Value.bool z)) hi, H.to_ext⟩

set_option maxHeartbeats 1000000 in
theorem validSchedule_q (xs : List Int) (c : Nat) (A : Option Addr) (w0 : World) (hx : Ro1 w0 [] (.sl xs.length (xs.flatMap intE)) (.slice A xs.length c)) : Calls Try.prog 66 #[.slice A xs.length c] w0 fun e w' => e = .returned (.bool (schB xs)) ∧ Ext w0 w' := by
 refine enter_i (args := [.slice A xs.length c]) Try.func66 rfl Try.ntmps66 rfl sep0 (fun a w E H => ?_)
 have E : Env 11 a [(0, .slice A xs.length c)] := E
 refine wp_seq (wp_region_lit ?_)
 refine wv E rfl (r_assign (ev_c _)) fun a E => ?_
 refine wpList_nil (then_n (wp_seq (wp_region_lit ?_)))
 refine vm E rfl rfl fun a E => ?_
 refine wv E rfl (r_len (E.tmp rfl) el_24_19) (fun a E => ?_)
 refine wv E rfl (r_bin (E.tmp rfl) (ev_c _) (b_leq (b := decide (((xs.length : Nat) : Int) ≤ 200)) rfl)) fun a E => vm E rfl rfl fun a E => ?_
 rcases bcase (decide (((xs.length : Nat) : Int) ≤ 200)) with ts1 | ts1
 ·
  refine wnh (c := false) E rfl rfl rfl rfl ts1 rfl fun a E => ?_
  refine wnh (c := false) E rfl rfl rfl rfl ts1 rfl fun a E => ?_
  refine wnh (c := false) E rfl rfl rfl rfl ts1 rfl fun a E => ?_
  refine wv E rfl (r_pick_f ((E.tmp rfl).trans (congrArg Value.bool ts1)) (ev_c _)) fun a E => va E rfl rfl fun a E => ?_
  refine wpList_nil (then_n (wp_ret ?_))
  refine post1 E rfl (out_t E rfl) ?_
  have hE : false = schB xs := by
   have e1 : decide ((200 : Int) < ((xs.length : Nat) : Int)) = true := by have h := ts1; simp at h ⊢; omega
   simp only [schB, ts1, e1, B1, B2, B3, B4, B5, B6, B7, B8, B9, B10, B11, B12, B13, B14, Bool.not_not]
  exact rb hE H
 refine ung E rfl rfl rfl ts1 ?_
 refine vm E rfl rfl fun a E => ?_
 refine ung E rfl rfl rfl ts1 ?_
 refine w_quiet (v := .bool (!xs.all (fun n => inB n 0 600))) E rfl (ev_cons (E.tmp rfl) (ev_cons (ev_f _) (ev_nil))) ok_60_19 (con_vs1 xs c A w (hx.at_ H (F := []) (by simp))) H (fun a w E H => ?_)
 refine ung E rfl rfl rfl ts1 ?_
 refine wv E rfl (r_not (c := !(!xs.all (fun n => inB n 0 600))) (E.tmp rfl) rfl) fun a E => wv E rfl (r_pick_t ((E.tmp rfl).trans (congrArg Value.bool ts1)) (E.tmp rfl)) fun a E => va E rfl rfl fun a E => ?_
 refine wpList_nil (then_n (wp_ret ?_))
 refine post1 E rfl (out_t E rfl) ?_
 have hE : (!(!xs.all (fun n => inB n 0 600))) = schB xs := by
  have e1 : decide ((200 : Int) < ((xs.length : Nat) : Int)) = false := by have h := ts1; simp at h ⊢; omega
  simp only [schB, ts1, e1, B1, B2, B3, B4, B5, B6, B7, B8, B9, B10, B11, B12, B13, B14, Bool.not_not]
 exact rb hE H

set_option maxHeartbeats 1000000 in
theorem busyI_q (x : GDeque) (b o : Nat) (w0 : World) (hp : RoP w0 [] b o x.enc) (hn : x.actors.length ≤ 1000) : Calls Try.prog 68 #[.pointer (some ⟨b, o, none⟩)] w0 fun e w' => ∃ A' c', e = .returned (.slice A' (busyTo x.actors x.actors.length).length c') ∧ Tr.Inv w0 [] w' [Gr (.slice A' (busyTo x.actors x.actors.length).length c') 2 1 (busyTo x.actors x.actors.length).length ((busyTo x.actors x.actors.length).flatMap intE)] := by
 refine enter_i (args := [.pointer (some ⟨b, o, none⟩)]) Try.func68 rfl Try.ntmps68 rfl sep0 (fun a w E H => ?_)
 have E : Env 26 a [(0, .pointer (some ⟨b, o, none⟩))] := E
 have r1p0 : RoP w0 [] b o [.v (.int .i64 (x.top)), .v (.int .i64 (x.bottom)), .sl x.buffer.length (x.buffer.flatMap intE), .sl x.actors.length (x.actors.flatMap GDequeActor.enc), .sl x.taken.length (x.taken.flatMap GHanded.enc), .sl x.refused.length (x.refused.flatMap intE)] := hp
 obtain ⟨r1k0, r1p1⟩ := RoP.vv r1p0
 clear r1p0
 obtain ⟨r1k1, r1p2⟩ := RoP.vv r1p1
 clear r1p1
 obtain ⟨r1A2, r1c2, r1k2, r1t2, r1n2, r1p3⟩ := RoP.sl r1p2
 clear r1p2
 obtain ⟨r1A3, r1c3, r1k3, r1t3, r1n3, r1p4⟩ := RoP.sl r1p3
 clear r1p3
 obtain ⟨r1A4, r1c4, r1k4, r1t4, r1n4, r1p5⟩ := RoP.sl r1p4
 clear r1p4
 obtain ⟨r1A5, r1c5, r1k5, r1t5, r1n5, r1p6⟩ := RoP.sl r1p5
 clear r1p5
 clear r1p6
 refine wp_seq (wp_region_lit ?_)
 refine wv E rfl (r_assign (ev_c _)) fun a E => ?_
 refine wpList_nil (then_n (wp_seq (wp_region_lit ?_)))
 refine wv E rfl (r_assign (ev_c _)) fun a E => ?_
 refine wpList_nil (then_n (wp_seq (wp_seq (wp_region_lit ?_))))
 refine vm E rfl rfl fun a E => wv E rfl (r_nil (E.tmp rfl)) fun a E => wv E rfl (r_fa (o' := o + 3) (E.tmp rfl) fo_30_3_19 rfl) fun a E => wv E rfl (r_load (E.tmp rfl) ag_27_19 (r1k3.get H)) fun a E => ?_
 refine wv E rfl (r_len (E.tmp rfl) el_27_19) (fun a E => ?_)
 refine wv E rfl (r_move (ev_c _)) fun a E => ?_
 refine wpList_nil (then_n (wp_block ?_))
 have H := H.gr_nil 2 1
 refine wp_loop_ghost (fun m a w => ∃ (k : Nat) (A : Option Addr) (c : Nat), m = x.actors.length - k ∧ k ≤ x.actors.length ∧ Env 26 a [(2, .slice none 0 0), (9, .slice r1A3 x.actors.length r1c3), (10, .int .i64 (((x.actors.length : Nat) : Int))), (11, .int .i64 (((k : Nat) : Int))), (3, .slice A ((busyTo x.actors k).length) c)] ∧ Tr.Inv w0 [] w [Gr (.slice A ((busyTo x.actors k).length) c) 2 1 ((busyTo x.actors k).length) ((busyTo x.actors k).flatMap intE)]) _ ⟨0, _, _, rfl, Nat.zero_le _, (Env.pick E (Env.pick E (Env.pick E (Env.pick E (Env.pick E E.nil rfl) rfl) rfl) rfl) rfl), H⟩ ?_
 rintro _ a w ⟨k, A, c, rfl, hk, E, H⟩
 by_cases hlt : k < x.actors.length
 ·
  skip
  have hbl := busyTo_le x.actors k
  have hnl := r1t3.nle
  revert E
  revert H
  obtain ⟨e2b, e2o, e2y, rfl, e2x, e2q⟩ := Ro1.elem (f := GDequeActor.enc) GDequeActor.enc_len r1t3 rfl hlt
  intro H E
  have r3p0 : RoP w0 [] e2b (e2o + k * 5) [.sl e2y.todo.length (e2y.todo.flatMap intE), .v (.int .i64 (e2y.pc)), .v (.int .i64 (e2y.t)), .v (.int .i64 (e2y.b)), .v (.int .i64 (e2y.x))] := e2q
  obtain ⟨r3A0, r3c0, r3k0, r3t0, r3n0, r3p1⟩ := RoP.sl r3p0
  clear r3p0
  obtain ⟨r3k1, r3p2⟩ := RoP.vv r3p1
  clear r3p1
  obtain ⟨r3k2, r3p3⟩ := RoP.vv r3p2
  clear r3p2
  obtain ⟨r3k3, r3p4⟩ := RoP.vv r3p3
  clear r3p3
  obtain ⟨r3k4, r3p5⟩ := RoP.vv r3p4
  clear r3p4
  clear r3p5
  refine wp_seq (wp_region_lit ?_)
  refine wv E rfl (r_bin (E.tmp rfl) (E.tmp rfl) (b_lss (b := true) (by simp; exact hlt))) fun a E => ?_
  refine wpList_nil (then_n (wp_seq ?_))
  refine cond_t E rfl rfl ?_
  refine wp_skip (then_n (wp_seq (wp_block (wp_seq (wp_region_lit ?_)))))
  refine vm E rfl rfl fun a E => wv E rfl (r_ia (k := k) (o' := e2o + k * 5) (E.tmp rfl) (E.tmp rfl) rfl el_27_19 (by omega) rfl) fun a E => wv E rfl (r_loads (us := [.slice r3A0 e2y.todo.length r3c0, .int .i64 (e2y.pc), .int .i64 (e2y.t), .int .i64 (e2y.b), .int .i64 (e2y.x)]) (E.tmp rfl) ag_119_19 sz_119_19 (ca_cons (r3k0.get H) (ca_cons (r3k1.get H) (ca_cons (r3k2.get H) (ca_cons (r3k3.get H) (ca_cons (r3k4.get H) (ca_nil _ _ _))))))) fun a E => ?_
  refine w_alloc E rfl zo_119_19 H (fun a w g4 E H => ?_)
  refine va E rfl rfl fun a E => ?_
  refine w_stores (us := [.slice r3A0 e2y.todo.length r3c0, .int .i64 (e2y.pc), .int .i64 (e2y.t), .int .i64 (e2y.b), .int .i64 (e2y.x)]) (cs' := [.slice r3A0 e2y.todo.length r3c0, .int .i64 (e2y.pc), .int .i64 (e2y.t), .int .i64 (e2y.b), .int .i64 (e2y.x)]) (rs' := [Cel _ [.slice r3A0 e2y.todo.length r3c0, .int .i64 (e2y.pc), .int .i64 (e2y.t), .int .i64 (e2y.b), .int .i64 (e2y.x)] _, _]) E (E.tmp rfl) (E.tmp rfl) rfl sz_119_19 H (i := 0) rfl rfl rfl rfl (fun a w E H => ?_)
  refine wpList_nil (then_n (wp_seq (wp_region_lit ?_)))
  refine wv E rfl (r_fa (o' := 0) (E.tmp rfl) fo_119_0_19 rfl) fun a E => wv E rfl (r_load (E.tmp rfl) ag_24_19 (H.cell 0 rfl rfl)) fun a E => ?_
  refine wv E rfl (r_len (E.tmp rfl) el_24_19) (fun a E => ?_)
  refine wv E rfl (r_bin (E.tmp rfl) (ev_c _) (b_gtr (b := decide (0 < ((e2y.todo.length : Nat) : Int))) rfl)) fun a E => ?_
  refine wpList_nil (then_n ?_)
  rcases bcase (decide (0 < ((e2y.todo.length : Nat) : Int))) with ts5 | ts5
  ·
   refine cond_f E rfl ts5 ?_
   refine wp_skip (inb_n (then_n (wp_region_lit ?_)))
   refine wv E rfl (r_bin (E.tmp rfl) (ev_c _) (b_add (wrap_succ (by omega)))) fun a E => vm E rfl rfl fun a E => ?_
   refine wpList_nil ?_
   have hB := busy_f e2x (by simpa using ts5)
   rw [← hB] at H E
   have H := H.front 1 rfl
   have H := H.drop 1 rfl
   exact then_n ⟨_, by omega, k + 1, A, c, rfl, by omega, (Env.pick E (Env.pick E (Env.pick E (Env.pick E (Env.pick E E.nil rfl) rfl) rfl) rfl) rfl), H⟩
  refine cond_t E rfl ts5 ?_
  refine wp_region_lit ?_
  refine vm E rfl rfl fun a E => vm E rfl rfl fun a E => ?_
  refine wv E rfl (r_bslice (pv (pvc (E.tmp rfl) (pvn))) (by kernel_rfl : (Instr.buildSlice 24 1 (List.toArray [(0, .int .i64 (((k : Nat) : Int)))])).run Try.prog w = .ok (.slice (some ⟨w.heap.size, 0, none⟩) 1 1) (w.alloc (.cells (List.toArray [.int .i64 (((k : Nat) : Int))]) 2)))) (fun a E => ?_)
  have H := H.alloc [.int .i64 (((k : Nat) : Int))] 2
  obtain ⟨g6, hgg6⟩ : ∃ g, g = w.heap.size := ⟨_, rfl⟩
  rw [← hgg6] at E H
  clear hgg6
  generalize w.alloc _ = w at H ⊢
  have H := H.front 2 rfl
  have H := (H.flat (us := [.int .i64 (((k : Nat) : Int))]) rfl).front 1 rfl
  refine w_app E rfl (E.tmp rfl) (E.tmp rfl) eo_24_19 H (H.src (i := 2) rfl rfl rfl) (by omega) (fun a w Aa7 ca7 E H => ?_)
  refine va E rfl rfl fun a E => ?_
  refine wpList_nil (inb_n (then_n (wp_region_lit ?_)))
  refine wv E rfl (r_bin (E.tmp rfl) (ev_c _) (b_add (wrap_succ (by omega)))) fun a E => vm E rfl rfl fun a E => ?_
  refine wpList_nil ?_
  have hB := busy_t e2x (by simpa using ts5)
  have e1 : (busyTo x.actors k).flatMap intE ++ [Value.int .i64 (((k : Nat) : Int))].map D.v = (busyTo x.actors (k + 1)).flatMap intE := by rw [hB]; simp [intE]
  have e2 : (busyTo x.actors k).length + 1 = (busyTo x.actors (k + 1)).length := by rw [hB]; simp
  rw [e1, e2] at H
  rw [e2] at E
  have H := H.drop 1 rfl
  have H := H.drop 1 rfl
  exact then_n ⟨_, by omega, k + 1, Aa7, ca7, rfl, by omega, (Env.pick E (Env.pick E (Env.pick E (Env.pick E (Env.pick E E.nil rfl) rfl) rfl) rfl) rfl), H⟩
 ·
  skip
  have hkn : k = x.actors.length := by omega
  refine wp_seq (wp_region_lit ?_)
  refine wv E rfl (r_bin (E.tmp rfl) (E.tmp rfl) (b_lss (b := false) (by simp; omega))) fun a E => ?_
  refine wpList_nil (then_n (wp_seq ?_))
  refine cond_f E rfl rfl ?_
  refine wp_exit (then_e (then_e (inb_ee (then_n (wp_seq (wp_region_lit ?_))))))
  refine vm E rfl rfl fun a E => va E rfl rfl fun a E => ?_
  refine wpList_nil (then_n (wp_ret ?_))
  refine post1 E rfl (out_t E rfl) ?_
  subst hkn
  exact ⟨_, _, rfl, H⟩

set_option maxHeartbeats 1000000 in
theorem chosenBy_q (xs cs : List Int) (A B : Option Addr) (c d n q : Nat) (v : Int) (w0 : World) (hx : Ro1 w0 [] (.sl xs.length (xs.flatMap intE)) (.slice A xs.length c)) (hc : Ro1 w0 [] (.sl cs.length (cs.flatMap intE)) (.slice B cs.length d)) (hsb : schB xs = true) (hL : 0 < cs.length) (hqe : nextI xs n cs.length = q) (hv : cs[q]? = some v) : Calls Try.prog 70 #[.slice A xs.length c, .slice B cs.length d, .int .i64 (((n : Nat) : Int))] w0 fun e w' => e = .returned (.int .i64 v) ∧ Ext w0 w' := by
 refine enter_i (args := [.slice A xs.length c, .slice B cs.length d, .int .i64 (((n : Nat) : Int))]) Try.func70 rfl Try.ntmps70 rfl sep0 (fun a w E H => ?_)
 have E : Env 25 a [(0, .slice A xs.length c), (1, .slice B cs.length d), (2, .int .i64 (((n : Nat) : Int)))] := E
 refine wp_seq (wp_region_lit ?_)
 refine wv E rfl (r_assign (ev_c _)) fun a E => ?_
 refine wpList_nil (then_n (wp_seq (wp_region_lit ?_)))
 refine wv E rfl (r_assign (ev_c _)) fun a E => ?_
 refine wpList_nil (then_n (wp_seq (wp_seq (wp_region_lit ?_))))
 refine vm E rfl rfl fun a E => ?_
 refine wv E rfl (r_len (E.tmp rfl) el_24_19) (fun a E => ?_)
 refine wv E rfl (r_bin (E.tmp rfl) (ev_c _) (b_gtr (b := decide (0 < ((xs.length : Nat) : Int))) rfl)) fun a E => ?_
 refine wpList_nil (then_n ?_)
 rcases bcase (decide (0 < ((xs.length : Nat) : Int))) with ts1 | ts1
 ·
  refine cond_f E rfl ts1 ?_
  refine wp_skip (then_n (wp_seq ?_))
  have hni : nextI xs n cs.length = 0 := nextI_f (by have h := ts1; simp only [decide_eq_false_iff_not] at h; omega)
  have hq := hL
  revert E
  revert H
  obtain ⟨e2b, e2o, e2y, rfl, e2x, e2q⟩ := Ro1.elem (f := intE) (s := 1) (fun _ => rfl) hc rfl hq
  intro H E
  have r3p0 : RoP w0 [] e2b e2o [.v (.int .i64 (e2y))] := e2q
  obtain ⟨r3k0, r3p1⟩ := RoP.vv r3p0
  clear r3p0
  clear r3p1
  refine wp_region_lit ?_
  refine vm E rfl rfl fun a E => vm E rfl rfl fun a E => vm E rfl rfl fun a E => ?_
  refine wv E rfl (r_len (E.tmp rfl) el_24_19) (fun a E => ?_)
  refine wv E rfl (r_bin (E.tmp rfl) (E.tmp rfl) (b_rem (by omega) (Int.zero_tmod _))) fun a E => wv E rfl (r_ia (k := 0) (o' := e2o) (E.tmp rfl) (E.tmp rfl) rfl el_24_19 (by omega) rfl) fun a E => wv E rfl (r_load (E.tmp rfl) ag_2_19 (r3k0.get H)) fun a E => va E rfl rfl fun a E => ?_
  refine wpList_nil (then_n (wp_ret ?_))
  refine post1 E rfl (out_t E rfl) ?_
  have hv2 : e2y = v := Option.some.inj (e2x.symm.trans (by rw [← hv, ← hqe, hni]))
  rw [hv2]
  exact ⟨rfl, H.to_ext⟩
 refine cond_t E rfl ts1 ?_
 have hpos : 0 < xs.length := by have h := ts1; simp only [decide_eq_true_eq] at h; omega
 have hml := Nat.mod_lt n hpos
 revert E
 revert H
 obtain ⟨e4b, e4o, e4y, rfl, e4x, e4q⟩ := Ro1.elem (f := intE) (s := 1) (fun _ => rfl) hx rfl hml
 intro H E
 have r5p0 : RoP w0 [] e4b (e4o + (n % xs.length) * 1) [.v (.int .i64 (e4y))] := e4q
 obtain ⟨r5k0, r5p1⟩ := RoP.vv r5p0
 clear r5p0
 clear r5p1
 obtain ⟨j, hj⟩ := sch_el hsb e4x
 have hni := nextI_t (m := cs.length) hpos (e4x.trans (congrArg some hj))
 revert E
 revert H
 subst hj
 intro H E
 refine wp_region_lit ?_
 refine vm E rfl rfl fun a E => vm E rfl rfl fun a E => vm E rfl rfl fun a E => ?_
 refine wv E rfl (r_len (E.tmp rfl) el_24_19) (fun a E => ?_)
 refine wv E rfl (r_bin (E.tmp rfl) (E.tmp rfl) (b_rem (by omega) (Int.ofNat_tmod _ _).symm)) fun a E => wv E rfl (r_ia (k := n % xs.length) (o' := e4o + (n % xs.length) * 1) (E.tmp rfl) (E.tmp rfl) rfl el_24_19 (by omega) rfl) fun a E => wv E rfl (r_load (E.tmp rfl) ag_2_19 (r5k0.get H)) fun a E => va E rfl rfl fun a E => ?_
 refine wpList_nil (then_n (wp_seq ?_))
 have hq := Nat.mod_lt j hL
 revert E
 revert H
 obtain ⟨e6b, e6o, e6y, rfl, e6x, e6q⟩ := Ro1.elem (f := intE) (s := 1) (fun _ => rfl) hc rfl hq
 intro H E
 have r7p0 : RoP w0 [] e6b (e6o + (j % cs.length) * 1) [.v (.int .i64 (e6y))] := e6q
 obtain ⟨r7k0, r7p1⟩ := RoP.vv r7p0
 clear r7p0
 clear r7p1
 refine wp_region_lit ?_
 refine vm E rfl rfl fun a E => vm E rfl rfl fun a E => vm E rfl rfl fun a E => ?_
 refine wv E rfl (r_len (E.tmp rfl) el_24_19) (fun a E => ?_)
 refine wv E rfl (r_bin (E.tmp rfl) (E.tmp rfl) (b_rem (by omega) (Int.ofNat_tmod _ _).symm)) fun a E => wv E rfl (r_ia (k := j % cs.length) (o' := e6o + (j % cs.length) * 1) (E.tmp rfl) (E.tmp rfl) rfl el_24_19 (by omega) rfl) fun a E => wv E rfl (r_load (E.tmp rfl) ag_2_19 (r7k0.get H)) fun a E => va E rfl rfl fun a E => ?_
 refine wpList_nil (then_n (wp_ret ?_))
 refine post1 E rfl (out_t E rfl) ?_
 have hv2 : e6y = v := Option.some.inj (e6x.symm.trans (by rw [← hv, ← hqe, hni]))
 rw [hv2]
 exact ⟨rfl, H.to_ext⟩

set_option maxHeartbeats 1000000 in
theorem runDequeI_q (a0 : GDeque) (a1 : List Int) (abufferA : Option Addr) (abufferc : Nat) (aactorsA : Option Addr) (aactorsc : Nat) (atakenA : Option Addr) (atakenc : Nat) (arefusedA : Option Addr) (arefusedc : Nat) (sA : Option Addr) (sc : Nat) (r0 : GDeque) (r1 r2 : Int) (hR : (r0, r1, r2) = runDequeR a0 a1) (w0 : World) (abufferH : Ro1 w0 [] (.sl a0.buffer.length (a0.buffer.flatMap intE)) (.slice abufferA a0.buffer.length abufferc)) (aactorsH : Ro1 w0 [] (.sl a0.actors.length (a0.actors.flatMap GDequeActor.enc)) (.slice aactorsA a0.actors.length aactorsc)) (atakenH : Ro1 w0 [] (.sl a0.taken.length (a0.taken.flatMap GHanded.enc)) (.slice atakenA a0.taken.length atakenc)) (arefusedH : Ro1 w0 [] (.sl a0.refused.length (a0.refused.flatMap intE)) (.slice arefusedA a0.refused.length arefusedc)) (hsch : Ro1 w0 [] (.sl a1.length (a1.flatMap intE)) (.slice sA a1.length sc)) : Calls Try.prog 15 #[.agg #[.int .i64 (a0.top), .int .i64 (a0.bottom), .slice abufferA a0.buffer.length abufferc, .slice aactorsA a0.actors.length aactorsc, .slice atakenA a0.taken.length atakenc, .slice arefusedA a0.refused.length arefusedc], .slice sA a1.length sc] w0 fun e w' => ∃ us, e = .returned (.tuple #[.agg us.toArray, .int .i64 r1, .int .i64 r2]) ∧ Tr.Inv w0 [] w' [DatN us r0.enc] := by
 refine enter_i (args := [.agg #[.int .i64 (a0.top), .int .i64 (a0.bottom), .slice abufferA a0.buffer.length abufferc, .slice aactorsA a0.actors.length aactorsc, .slice atakenA a0.taken.length atakenc, .slice arefusedA a0.refused.length arefusedc], .slice sA a1.length sc]) Try.func15 rfl Try.ntmps15 rfl sep0 (fun a w E H => ?_)
 have E : Env 42 a [(0, .agg #[.int .i64 (a0.top), .int .i64 (a0.bottom), .slice abufferA a0.buffer.length abufferc, .slice aactorsA a0.actors.length aactorsc, .slice atakenA a0.taken.length atakenc, .slice arefusedA a0.refused.length arefusedc]), (1, .slice sA a1.length sc)] := E
 refine wp_seq (wp_region_lit ?_)
 refine w_box (us := [.int .i64 (a0.top), .int .i64 (a0.bottom), .slice abufferA a0.buffer.length abufferc, .slice aactorsA a0.actors.length aactorsc, .slice atakenA a0.taken.length atakenc, .slice arefusedA a0.refused.length arefusedc]) E rfl (E.tmp rfl) rfl H (fun a w g1 E H => ?_)
 refine w_alloc E rfl zo_30_19 H (fun a w g2 E H => ?_)
 refine wv E rfl (r_assign (ev_c _)) fun a E => wv E rfl (r_assign (ev_c _)) fun a E => ?_
 refine wpList_nil (then_n (wp_seq (wp_block (wp_seq (wp_region_lit ?_)))))
 refine wv E rfl (r_loads (us := [.int .i64 (a0.top), .int .i64 (a0.bottom), .slice abufferA a0.buffer.length abufferc, .slice aactorsA a0.actors.length aactorsc, .slice atakenA a0.taken.length atakenc, .slice arefusedA a0.refused.length arefusedc]) (E.tmp rfl) ag_30_19 sz_30_19 (H.cellsAt 1 rfl)) fun a E => ?_
 refine w_quiet (v := .bool (okB a0)) E rfl (ev_cons (E.tmp rfl) (ev_nil)) ok_65_19 (validDeque_q a0 abufferA abufferc aactorsA aactorsc atakenA atakenc arefusedA arefusedc w (abufferH.at_ H (F := []) (by simp)) (aactorsH.at_ H (F := []) (by simp)) (atakenH.at_ H (F := []) (by simp)) (arefusedH.at_ H (F := []) (by simp))) H (fun a w E H => ?_)
 refine wv E rfl (r_not (c := !(okB a0)) (E.tmp rfl) rfl) fun a E => va E rfl rfl fun a E => ?_
 refine wpList_nil (then_n ?_)
 rcases bcase (okB a0) with ts3 | ts3
 ·
  refine cond_t E rfl (by rw [ts3]; rfl) ?_
  refine wp_seq (wp_region_lit ?_)
  refine wv E rfl (r_build (pv (pvn)) (by kernel_rfl : (Instr.build 30 (List.toArray [])).run Try.prog _ = .ok (.agg #[.int .i64 (0), .int .i64 (0), .slice none 0 0, .slice none 0 0, .slice none 0 0, .slice none 0 0]) _)) fun a E => ?_
  refine w_stores (us := [.int .i64 (0), .int .i64 (0), .slice none 0 0, .slice none 0 0, .slice none 0 0, .slice none 0 0]) (cs' := [.int .i64 (0), .int .i64 (0), .slice none 0 0, .slice none 0 0, .slice none 0 0, .slice none 0 0]) (rs' := [Cel _ [.int .i64 (0), .int .i64 (0), .slice none 0 0, .slice none 0 0, .slice none 0 0, .slice none 0 0] _, _]) E (E.tmp rfl) (E.tmp rfl) rfl sz_30_19 H (i := 0) rfl rfl rfl rfl (fun a w E H => ?_)
  refine wv E rfl (r_assign (ev_c _)) fun a E => wv E rfl (r_assign (ev_c _)) fun a E => ?_
  refine wpList_nil (then_n (wp_ret (inb_r (then_r ?_))))
  refine post3 E rfl (out_c (us := [.int .i64 (0), .int .i64 (0), .slice none 0 0, .slice none 0 0, .slice none 0 0, .slice none 0 0]) E rfl ag_30_19 sz_30_19 (H.cellsAt 0 rfl)) (out_t E rfl) (out_t E rfl) ?_
  have H := H.mk_e
  have H := H.gr_nil 0 1
  have H := H.gr_dats rfl
  have H := H.mk_s
  have H := H.gr_nil 0 2
  have H := H.gr_dats rfl
  have H := H.mk_s
  have H := H.gr_nil 0 5
  have H := H.gr_dats rfl
  have H := H.mk_s
  have H := H.gr_nil 0 1
  have H := H.gr_dats rfl
  have H := H.mk_s
  have H := H.mk_v (x := .int .i64 (0)) rfl
  have H := H.mk_v (x := .int .i64 (0)) rfl
  have H := H.drop 1 rfl
  have H := H.drop 1 rfl
  obtain ⟨rfl, rfl, rfl⟩ : r0 = (⟨0, 0, [], [], [], []⟩ : GDeque) ∧ r1 = 0 ∧ r2 = 1 := by
   simp only [runDequeR, ts3, B1, B2, B3, B4, B5, B6, B7, B8, B9, B10, B11, B12, B13, B14] at hR
   exact inj3 hR
  exact ⟨_, rfl, H⟩
 refine cond_f E rfl (by rw [ts3]; rfl) ?_
 refine wp_seq ?_
 have hrk := runOk_of ts3
 have htk := thOk_of ts3
 refine wp_region_lit ?_
 refine vm E rfl rfl fun a E => ?_
 refine w_quiet (v := .bool (schB a1)) E rfl (ev_cons (E.tmp rfl) (ev_nil)) ok_66_19 (validSchedule_q a1 sc sA w (hsch.at_ H (F := []) (by simp))) H (fun a w E H => ?_)
 refine wv E rfl (r_not (c := !(schB a1)) (E.tmp rfl) rfl) fun a E => va E rfl rfl fun a E => ?_
 refine wpList_nil (then_n ?_)
 rcases bcase (schB a1) with ts4 | ts4
 ·
  refine cond_t E rfl (by rw [ts4]; rfl) ?_
  refine wp_seq (wp_region_lit ?_)
  refine wv E rfl (r_build (pv (pvn)) (by kernel_rfl : (Instr.build 30 (List.toArray [])).run Try.prog _ = .ok (.agg #[.int .i64 (0), .int .i64 (0), .slice none 0 0, .slice none 0 0, .slice none 0 0, .slice none 0 0]) _)) fun a E => ?_
  refine w_stores (us := [.int .i64 (0), .int .i64 (0), .slice none 0 0, .slice none 0 0, .slice none 0 0, .slice none 0 0]) (cs' := [.int .i64 (0), .int .i64 (0), .slice none 0 0, .slice none 0 0, .slice none 0 0, .slice none 0 0]) (rs' := [Cel _ [.int .i64 (0), .int .i64 (0), .slice none 0 0, .slice none 0 0, .slice none 0 0, .slice none 0 0] _, _]) E (E.tmp rfl) (E.tmp rfl) rfl sz_30_19 H (i := 0) rfl rfl rfl rfl (fun a w E H => ?_)
  refine wv E rfl (r_assign (ev_c _)) fun a E => wv E rfl (r_assign (ev_c _)) fun a E => ?_
  refine wpList_nil (then_n (wp_ret (inb_r (then_r ?_))))
  refine post3 E rfl (out_c (us := [.int .i64 (0), .int .i64 (0), .slice none 0 0, .slice none 0 0, .slice none 0 0, .slice none 0 0]) E rfl ag_30_19 sz_30_19 (H.cellsAt 0 rfl)) (out_t E rfl) (out_t E rfl) ?_
  have H := H.mk_e
  have H := H.gr_nil 0 1
  have H := H.gr_dats rfl
  have H := H.mk_s
  have H := H.gr_nil 0 2
  have H := H.gr_dats rfl
  have H := H.mk_s
  have H := H.gr_nil 0 5
  have H := H.gr_dats rfl
  have H := H.mk_s
  have H := H.gr_nil 0 1
  have H := H.gr_dats rfl
  have H := H.mk_s
  have H := H.mk_v (x := .int .i64 (0)) rfl
  have H := H.mk_v (x := .int .i64 (0)) rfl
  have H := H.drop 1 rfl
  have H := H.drop 1 rfl
  obtain ⟨rfl, rfl, rfl⟩ : r0 = (⟨0, 0, [], [], [], []⟩ : GDeque) ∧ r1 = 0 ∧ r2 = 2 := by
   simp only [runDequeR, ts3, ts4, B1, B2, B3, B4, B5, B6, B7, B8, B9, B10, B11, B12, B13, B14] at hR
   exact inj3 hR
  exact ⟨_, rfl, H⟩
 refine cond_f E rfl (by rw [ts4]; rfl) ?_
 refine wp_skip (inb_n (then_n (wp_seq ?_)))
 have hM := actM_le (runOk_of ts3)
 refine wp_region_lit ?_
 refine wv E rfl (r_loads (us := [.int .i64 (a0.top), .int .i64 (a0.bottom), .slice abufferA a0.buffer.length abufferc, .slice aactorsA a0.actors.length aactorsc, .slice atakenA a0.taken.length atakenc, .slice arefusedA a0.refused.length arefusedc]) (E.tmp rfl) ag_30_19 sz_30_19 (H.cellsAt 1 rfl)) fun a E => ?_
 refine w_call E rfl (ev_cons (E.tmp rfl) (ev_nil)) ok_67_19 (copyDeque_q a0 abufferA abufferc aactorsA aactorsc atakenA atakenc arefusedA arefusedc w (abufferH.at_ H (F := []) (by simp)) (aactorsH.at_ H (F := []) (by simp)) (atakenH.at_ H (F := []) (by simp)) (arefusedH.at_ H (F := []) (by simp)) (by have := hrk.b1; omega) (by have := hrk.r1; omega) hrk.n1 hrk.n0 (by have := hrk.h1; omega) (fun k a h => by have := (hrk.acts k a h).1; omega)) ?_
 rintro _ w ⟨w5AB, w5cB, w5AA, w5cA, w5AT, w5cT, w5AR, w5cR, rfl, hI⟩
 refine ⟨_, rfl, fun a E => ?_⟩
 have H := H.new hI
 clear hI
 obtain ⟨bb, p6c, p6h⟩ := H.gr_pos 0 rfl hrk.b0
 injection p6h with p6e p6f p6g
 revert E
 revert H
 subst p6e
 subst p6g
 intro H E
 have H : Tr.Inv w0 [] w [Gr (.slice (some ⟨bb, 0, none⟩) a0.buffer.length w5cB) 2 1 a0.buffer.length (a0.buffer.flatMap intE), Gr (.slice w5AA a0.actors.length w5cA) 119 5 a0.actors.length (a0.actors.flatMap GDequeActor.enc), Gr (.slice w5AT a0.taken.length w5cT) 36 2 a0.taken.length (a0.taken.flatMap GHanded.enc), Gr (.slice w5AR a0.refused.length w5cR) 2 1 a0.refused.length (a0.refused.flatMap intE), Cel g2 [.int .i64 (0), .int .i64 (0), .slice none 0 0, .slice none 0 0, .slice none 0 0, .slice none 0 0] 30, Cel g1 [.int .i64 (a0.top), .int .i64 (a0.bottom), .slice abufferA a0.buffer.length abufferc, .slice aactorsA a0.actors.length aactorsc, .slice atakenA a0.taken.length atakenc, .slice arefusedA a0.refused.length arefusedc] 30] := H
 obtain ⟨rb, p7c, p7h⟩ := H.gr_pos 1 rfl hrk.n0
 injection p7h with p7e p7f p7g
 revert E
 revert H
 subst p7e
 subst p7g
 intro H E
 have H : Tr.Inv w0 [] w [Gr (.slice (some ⟨bb, 0, none⟩) a0.buffer.length w5cB) 2 1 a0.buffer.length (a0.buffer.flatMap intE), Gr (.slice (some ⟨rb, 0, none⟩) a0.actors.length w5cA) 119 5 a0.actors.length (a0.actors.flatMap GDequeActor.enc), Gr (.slice w5AT a0.taken.length w5cT) 36 2 a0.taken.length (a0.taken.flatMap GHanded.enc), Gr (.slice w5AR a0.refused.length w5cR) 2 1 a0.refused.length (a0.refused.flatMap intE), Cel g2 [.int .i64 (0), .int .i64 (0), .slice none 0 0, .slice none 0 0, .slice none 0 0, .slice none 0 0] 30, Cel g1 [.int .i64 (a0.top), .int .i64 (a0.bottom), .slice abufferA a0.buffer.length abufferc, .slice aactorsA a0.actors.length aactorsc, .slice atakenA a0.taken.length atakenc, .slice arefusedA a0.refused.length arefusedc] 30] := H
 refine w_alloc E rfl zo_30_19 H (fun a w g8 E H => ?_)
 refine w_stores (us := [.int .i64 (a0.top), .int .i64 (a0.bottom), .slice (some ⟨bb, 0, none⟩) a0.buffer.length w5cB, .slice (some ⟨rb, 0, none⟩) a0.actors.length w5cA, .slice w5AT a0.taken.length w5cT, .slice w5AR a0.refused.length w5cR]) (cs' := [.int .i64 (a0.top), .int .i64 (a0.bottom), .slice (some ⟨bb, 0, none⟩) a0.buffer.length w5cB, .slice (some ⟨rb, 0, none⟩) a0.actors.length w5cA, .slice w5AT a0.taken.length w5cT, .slice w5AR a0.refused.length w5cR]) (rs' := [Cel _ [.int .i64 (a0.top), .int .i64 (a0.bottom), .slice (some ⟨bb, 0, none⟩) a0.buffer.length w5cB, .slice (some ⟨rb, 0, none⟩) a0.actors.length w5cA, .slice w5AT a0.taken.length w5cT, .slice w5AR a0.refused.length w5cR] _, _, _, _, _, _, _]) E (E.tmp rfl) (E.tmp rfl) rfl sz_30_19 H (i := 0) rfl rfl rfl rfl (fun a w E H => ?_)
 refine wpList_nil (then_n (wp_seq (wp_region_lit ?_)))
 refine wv E rfl (r_assign (ev_c _)) fun a E => ?_
 refine wpList_nil (then_n (wp_seq (wp_seq ?_)))
 rw [show runDequeR a0 a1 = runD a1 (actM a0 + 1) a0 0 by simp only [runDequeR, ts3, ts4, B1, B2, B3, B4, B5, B6, B7, B8, B9, B10, B11, B12, B13, B14]] at hR
 refine wp_region_lit ?_
 obtain ⟨w10b5, w10t5⟩ := H.gr_t 4 rfl (by rw [flat_len intE 1 (fun _ => rfl)])
 obtain ⟨w10b4, w10t4⟩ := H.gr_t 3 rfl (by rw [flat_len GHanded.enc 2 GHanded.enc_len])
 obtain ⟨w10b3, w10t3⟩ := H.gr_t 2 rfl (by rw [flat_len GDequeActor.enc 5 GDequeActor.enc_len])
 obtain ⟨w10b2, w10t2⟩ := H.gr_t 1 rfl (by rw [flat_len intE 1 (fun _ => rfl)])
 have w10p : RoP w [] g8 0 a0.enc := H.rop 0 rfl (TN.v_mk rfl (TN.v_mk rfl (TN.sl_mk w10t2 (TN.sl_mk w10t3 (TN.sl_mk w10t4 (TN.sl_mk w10t5 TN.done))))))
 refine w_call E rfl (ev_cons (E.tmp rfl) (ev_nil)) ok_68_19 (busyI_q a0 g8 0 w w10p hrk.n1) ?_
 rintro _ w ⟨u9A, u9c, rfl, hI⟩
 refine ⟨_, rfl, fun a E => ?_⟩
 have H := H.new hI
 clear hI
 refine va E rfl rfl fun a E => ?_
 refine wpList_nil (then_n (wp_block ?_))
 have H := H.front 6 rfl
 have H := H.front 1 rfl
 have H := H.front 6 rfl
 have H := H.front 6 rfl
 have H := H.front 6 rfl
 have H := H.front 6 rfl
 have H := H.front 6 rfl
 have H := H.drop 7 rfl
 refine wp_loop_ghost (fun m a w => ∃ (y : GDeque) (n f : Nat) (AT : Option Addr) (cT : Nat) (AR : Option Addr) (cR : Nat) (bA : Option Addr) (bc : Nat), m = f + 1 ∧ RunOk y ∧ ThOk y ∧ actM y < f ∧ n + f ≤ 100000000 ∧ (r0, r1, r2) = runD a1 f y n ∧ Env 42 a [(1, .slice sA a1.length sc), (4, .pointer (some ⟨g2, 0, none⟩)), (7, .pointer (some ⟨g8, 0, none⟩)), (8, .int .i64 (((n : Nat) : Int))), (9, .slice bA ((busyTo y.actors y.actors.length).length) bc)] ∧ Tr.Inv w0 [] w [Cel g8 [.int .i64 (y.top), .int .i64 (y.bottom), .slice (some ⟨bb, 0, none⟩) y.buffer.length w5cB, .slice (some ⟨rb, 0, none⟩) y.actors.length w5cA, .slice AT y.taken.length cT, .slice AR y.refused.length cR] 30, Gr (.slice (some ⟨bb, 0, none⟩) y.buffer.length w5cB) 2 1 y.buffer.length (y.buffer.flatMap intE), Gr (.slice (some ⟨rb, 0, none⟩) y.actors.length w5cA) 119 5 y.actors.length (y.actors.flatMap GDequeActor.enc), Gr (.slice AT y.taken.length cT) 36 2 y.taken.length (y.taken.flatMap GHanded.enc), Gr (.slice AR y.refused.length cR) 2 1 y.refused.length (y.refused.flatMap intE), Gr (.slice bA ((busyTo y.actors y.actors.length).length) bc) 2 1 ((busyTo y.actors y.actors.length).length) ((busyTo y.actors y.actors.length).flatMap intE), Cel g2 [.int .i64 (0), .int .i64 (0), .slice none 0 0, .slice none 0 0, .slice none 0 0, .slice none 0 0] 30]) _ ⟨a0, 0, actM a0 + 1, _, _, _, _, _, _, rfl, hrk, htk, by omega, by omega, hR, (Env.pick E (Env.pick E (Env.pick E (Env.pick E (Env.pick E E.nil rfl) rfl) rfl) rfl) rfl), H⟩ ?_
 rintro _ a w ⟨y, n, f, AT, cT, AR, cR, bA, bc, rfl, hrk, htk, hMf, hnf, hR, E, H⟩
 obtain ⟨f, rfl⟩ : ∃ g, f = g + 1 := ⟨f - 1, by omega⟩
 refine wp_seq (wp_seq (wp_region_lit ?_))
 refine vm E rfl rfl fun a E => ?_
 refine wv E rfl (r_len (E.tmp rfl) el_24_19) (fun a E => ?_)
 refine wv E rfl (r_bin (E.tmp rfl) (ev_c _) (b_gtr (b := decide (0 < (((busyTo y.actors y.actors.length).length : Nat) : Int))) rfl)) fun a E => ?_
 refine wpList_nil (then_n ?_)
 rcases bcase (decide (0 < (((busyTo y.actors y.actors.length).length : Nat) : Int))) with ts11 | ts11
 ·
  refine cond_f E rfl ts11 ?_
  refine wp_exit (then_e (then_e (inb_ee (then_n (wp_seq (wp_region_lit ?_))))))
  refine wv E rfl (r_loads (us := [.int .i64 (y.top), .int .i64 (y.bottom), .slice (some ⟨bb, 0, none⟩) y.buffer.length w5cB, .slice (some ⟨rb, 0, none⟩) y.actors.length w5cA, .slice AT y.taken.length cT, .slice AR y.refused.length cR]) (E.tmp rfl) ag_30_19 sz_30_19 (H.cellsAt 0 rfl)) fun a E => ?_
  obtain ⟨y12b, y12T⟩ := H.gr_t 1 rfl (by rw [flat_len intE 1 (fun _ => rfl)])
  obtain ⟨y13b, y13T⟩ := H.gr_t 2 rfl (by rw [flat_len GDequeActor.enc 5 GDequeActor.enc_len])
  obtain ⟨y14b, y14T⟩ := H.gr_t 3 rfl (by rw [flat_len GHanded.enc 2 GHanded.enc_len])
  obtain ⟨y15b, y15T⟩ := H.gr_t 4 rfl (by rw [flat_len intE 1 (fun _ => rfl)])
  refine w_call E rfl (ev_cons (E.tmp rfl) (ev_nil)) ok_67_19 (copyDeque_q y (some ⟨bb, 0, none⟩) w5cB (some ⟨rb, 0, none⟩) w5cA AT cT AR cR w (Ro1.of y12T) (Ro1.of y13T) (Ro1.of y14T) (Ro1.of y15T) (by have := hrk.b1; omega) (by have := hrk.r1; omega) hrk.n1 hrk.n0 (by have := hrk.h1; omega) (fun k a h => by have := (hrk.acts k a h).1; omega)) ?_
  rintro _ w ⟨w16AB, w16cB, w16AA, w16cA, w16AT, w16cT, w16AR, w16cR, rfl, hI⟩
  refine ⟨_, rfl, fun a E => ?_⟩
  have H := H.new hI
  clear hI
  refine vm E rfl rfl fun a E => ?_
  refine w_stores (us := [.int .i64 (y.top), .int .i64 (y.bottom), .slice w16AB y.buffer.length w16cB, .slice w16AA y.actors.length w16cA, .slice w16AT y.taken.length w16cT, .slice w16AR y.refused.length w16cR]) (cs' := [.int .i64 (y.top), .int .i64 (y.bottom), .slice w16AB y.buffer.length w16cB, .slice w16AA y.actors.length w16cA, .slice w16AT y.taken.length w16cT, .slice w16AR y.refused.length w16cR]) (rs' := [_, _, _, _, _, _, _, _, _, _, Cel _ [.int .i64 (y.top), .int .i64 (y.bottom), .slice w16AB y.buffer.length w16cB, .slice w16AA y.actors.length w16cA, .slice w16AT y.taken.length w16cT, .slice w16AR y.refused.length w16cR] _]) E (E.tmp rfl) (E.tmp rfl) rfl sz_30_19 H (i := 10) rfl rfl rfl rfl (fun a w E H => ?_)
  refine va E rfl rfl fun a E => wv E rfl (r_assign (ev_c _)) fun a E => ?_
  refine wpList_nil (then_n (wp_ret ?_))
  refine post3 E rfl (out_c (us := [.int .i64 (y.top), .int .i64 (y.bottom), .slice w16AB y.buffer.length w16cB, .slice w16AA y.actors.length w16cA, .slice w16AT y.taken.length w16cT, .slice w16AR y.refused.length w16cR]) E rfl ag_30_19 sz_30_19 (H.cellsAt 10 rfl)) (out_t E rfl) (out_t E rfl) ?_
  have H := H.mk_e
  have H := H.front 4 rfl
  have H := H.gr_dats (by rw [flat_len intE 1 (fun _ => rfl)])
  have H := H.mk_s
  have H := H.front 3 rfl
  have H := H.gr_dats (by rw [flat_len GHanded.enc 2 GHanded.enc_len])
  have H := H.mk_s
  have H := H.front 2 rfl
  have H := H.gr_dats (by rw [flat_len GDequeActor.enc 5 GDequeActor.enc_len])
  have H := H.mk_s
  have H := H.front 1 rfl
  have H := H.gr_dats (by rw [flat_len intE 1 (fun _ => rfl)])
  have H := H.mk_s
  have H := H.mk_v (x := .int .i64 (y.bottom)) rfl
  have H := H.mk_v (x := .int .i64 (y.top)) rfl
  have H := H.drop 1 rfl
  have H := H.drop 1 rfl
  have H := H.drop 1 rfl
  have H := H.drop 1 rfl
  have H := H.drop 1 rfl
  have H := H.drop 1 rfl
  have H := H.drop 1 rfl
  obtain ⟨rfl, rfl, rfl⟩ : r0 = y ∧ r1 = ((n : Nat) : Int) ∧ r2 = 0 := by
   rw [runD_end (by have h := ts11; simp only [decide_eq_false_iff_not, beq_iff_eq] at h ⊢; omega)] at hR
   exact inj3 hR
  exact ⟨_, rfl, H⟩
 refine cond_t E rfl ts11 ?_
 refine wp_skip (then_n (wp_seq (wp_block (wp_seq (wp_seq (wp_region_lit ?_))))))
 refine vm E rfl rfl fun a E => vm E rfl rfl fun a E => vm E rfl rfl fun a E => ?_
 have hL : 0 < (busyTo y.actors y.actors.length).length := by have h := ts11; simp only [decide_eq_true_eq] at h; omega
 have hbne : ((((busyTo y.actors y.actors.length).length : Nat) : Int) == 0) = false := by simp only [beq_eq_false_iff_ne, ne_eq]; omega
 obtain ⟨q, hni⟩ : ∃ q, nextI a1 n (busyTo y.actors y.actors.length).length = q := ⟨_, rfl⟩
 have hql : q < (busyTo y.actors y.actors.length).length := hni ▸ nextI_lt hL
 obtain ⟨i, ea, hbq, hil, hbx, hbt⟩ := busy_at hql
 obtain ⟨n0, tl, pc, tt, tb, tx, hye⟩ := act_open hbt
 have hk : y.actors[i]? = some ⟨n0 :: tl, pc, tt, tb, tx⟩ := by rw [hbx, hye]
 have hrs := hrk.stp hk
 obtain ⟨y17b, y17T⟩ := H.gr_t 5 rfl (by rw [flat_len intE 1 (fun _ => rfl)])
 refine w_quiet (v := .int .i64 (((i : Nat) : Int))) E rfl (ev_cons (E.tmp rfl) (ev_cons (E.tmp rfl) (ev_cons (E.tmp rfl) (ev_nil)))) ok_70_19 (chosenBy_q a1 (busyTo y.actors y.actors.length) sA bA sc bc n q ((i : Nat) : Int) w (hsch.at_ H (F := []) (by simp)) (Ro1.of y17T) ts4 hL hni hbq) H (fun a w E H => ?_)
 have H := H.front 4 rfl
 have H := H.front 4 rfl
 have H := H.front 4 rfl
 have H := H.front 4 rfl
 have H := H.front 4 rfl
 obtain ⟨q18F, q18S, q18I, q18b⟩ := Tr.Inv.frame (pre := [Cel g8 [.int .i64 (y.top), .int .i64 (y.bottom), .slice (some ⟨bb, 0, none⟩) y.buffer.length w5cB, .slice (some ⟨rb, 0, none⟩) y.actors.length w5cA, .slice AT y.taken.length cT, .slice AR y.refused.length cR] 30, Gr (.slice (some ⟨bb, 0, none⟩) y.buffer.length w5cB) 2 1 y.buffer.length (y.buffer.flatMap intE), Gr (.slice (some ⟨rb, 0, none⟩) y.actors.length w5cA) 119 5 y.actors.length (y.actors.flatMap GDequeActor.enc), Gr (.slice AT y.taken.length cT) 36 2 y.taken.length (y.taken.flatMap GHanded.enc), Gr (.slice AR y.refused.length cR) 2 1 y.refused.length (y.refused.flatMap intE)]) (rest := [Gr (.slice bA ((busyTo y.actors y.actors.length).length) bc) 2 1 ((busyTo y.actors y.actors.length).length) ((busyTo y.actors y.actors.length).flatMap intE), Cel g2 [.int .i64 (0), .int .i64 (0), .slice none 0 0, .slice none 0 0, .slice none 0 0, .slice none 0 0] 30]) H
 obtain ⟨z, hzz⟩ : ∃ z, z = stepS y i ⟨n0 :: tl, pc, tt, tb, tx⟩ := ⟨_, rfl⟩
 have hz2z : z = stepS y i ea := by rw [hye]; exact hzz
 refine w_call E rfl (ev_cons (E.tmp rfl) (ev_cons (E.tmp rfl) (ev_nil))) ok_69_19 (stepI_q y g8 bb w5cB cT cR rb w5cA AT AR i n0 tl pc tt tb tx z w q18S hk hrs.1 hrk.b0 hrk.b1 (by have := hrk.h1; omega) (by have := hrk.r1; omega) hzz (fun h0 => htk _ _ h0 hk _ (List.mem_cons_self ..)) hrs.2.2.2) ?_
 rintro _ w ⟨q18AT, q18cT, q18AR, q18cR, rfl, hI⟩
 refine ⟨_, rfl, fun a E => ?_⟩
 have H := q18b _ _ hI
 clear hI q18S q18I q18b
 have H : Tr.Inv w0 [] w [Cel g8 [.int .i64 (z.top), .int .i64 (z.bottom), .slice (some ⟨bb, 0, none⟩) y.buffer.length w5cB, .slice (some ⟨rb, 0, none⟩) y.actors.length w5cA, .slice q18AT z.taken.length q18cT, .slice q18AR z.refused.length q18cR] 30, Gr (.slice (some ⟨bb, 0, none⟩) y.buffer.length w5cB) 2 1 y.buffer.length (z.buffer.flatMap intE), Gr (.slice (some ⟨rb, 0, none⟩) y.actors.length w5cA) 119 5 y.actors.length (z.actors.flatMap GDequeActor.enc), Gr (.slice q18AT z.taken.length q18cT) 36 2 z.taken.length (z.taken.flatMap GHanded.enc), Gr (.slice q18AR z.refused.length q18cR) 2 1 z.refused.length (z.refused.flatMap intE), Gr (.slice bA ((busyTo y.actors y.actors.length).length) bc) 2 1 ((busyTo y.actors y.actors.length).length) ((busyTo y.actors y.actors.length).flatMap intE), Cel g2 [.int .i64 (0), .int .i64 (0), .slice none 0 0, .slice none 0 0, .slice none 0 0, .slice none 0 0] 30] := H
 have hbl : z.buffer.length = y.buffer.length := by rw [hzz]; exact (stepS_len _ _ _).1
 have hal : z.actors.length = y.actors.length := by rw [hzz]; exact (stepS_len _ _ _).2
 have H : Tr.Inv w0 [] w [Cel g8 [.int .i64 (z.top), .int .i64 (z.bottom), .slice (some ⟨bb, 0, none⟩) z.buffer.length w5cB, .slice (some ⟨rb, 0, none⟩) z.actors.length w5cA, .slice q18AT z.taken.length q18cT, .slice q18AR z.refused.length q18cR] 30, Gr (.slice (some ⟨bb, 0, none⟩) z.buffer.length w5cB) 2 1 z.buffer.length (z.buffer.flatMap intE), Gr (.slice (some ⟨rb, 0, none⟩) z.actors.length w5cA) 119 5 z.actors.length (z.actors.flatMap GDequeActor.enc), Gr (.slice q18AT z.taken.length q18cT) 36 2 z.taken.length (z.taken.flatMap GHanded.enc), Gr (.slice q18AR z.refused.length q18cR) 2 1 z.refused.length (z.refused.flatMap intE), Gr (.slice bA ((busyTo y.actors y.actors.length).length) bc) 2 1 ((busyTo y.actors y.actors.length).length) ((busyTo y.actors y.actors.length).flatMap intE), Cel g2 [.int .i64 (0), .int .i64 (0), .slice none 0 0, .slice none 0 0, .slice none 0 0, .slice none 0 0] 30] := by rw [hbl, hal]; exact H
 rcases bcase (fullB z) with ts19 | ts19
 ·
  rw [ts19, cond_false] at E
  have hrz := runOk_step hrk hk hrs.2.1 hrs.2.2.1 (by rw [← hzz]; exact ts19)
  rw [← hzz] at hrz
  refine va E rfl rfl fun a E => ?_
  refine wpList_nil (then_n (wp_seq (wp_region_lit ?_)))
  refine vm E rfl rfl fun a E => wv E rfl (r_bin (E.tmp rfl) (ev_c _) (b_neq (b := false) rfl)) fun a E => ?_
  refine wpList_nil (then_n ?_)
  refine cond_f E rfl rfl ?_
  refine wp_skip (then_n (wp_region_lit ?_))
  refine vm E rfl rfl fun a E => wv E rfl (r_bin (E.tmp rfl) (ev_c _) (b_add (wrap_succ (by omega)))) fun a E => va E rfl rfl fun a E => ?_
  refine wpList_nil (inb_n (then_n (wp_region_lit ?_)))
  obtain ⟨w21b5, w21t5⟩ := H.gr_t 4 rfl (by rw [flat_len intE 1 (fun _ => rfl)])
  obtain ⟨w21b4, w21t4⟩ := H.gr_t 3 rfl (by rw [flat_len GHanded.enc 2 GHanded.enc_len])
  obtain ⟨w21b3, w21t3⟩ := H.gr_t 2 rfl (by rw [flat_len GDequeActor.enc 5 GDequeActor.enc_len])
  obtain ⟨w21b2, w21t2⟩ := H.gr_t 1 rfl (by rw [flat_len intE 1 (fun _ => rfl)])
  have w21p : RoP w [] g8 0 z.enc := H.rop 0 rfl (TN.v_mk rfl (TN.v_mk rfl (TN.sl_mk w21t2 (TN.sl_mk w21t3 (TN.sl_mk w21t4 (TN.sl_mk w21t5 TN.done))))))
  refine w_call E rfl (ev_cons (E.tmp rfl) (ev_nil)) ok_68_19 (busyI_q z g8 0 w w21p hrz.n1) ?_
  rintro _ w ⟨u20A, u20c, rfl, hI⟩
  refine ⟨_, rfl, fun a E => ?_⟩
  have H := H.new hI
  clear hI
  refine va E rfl rfl fun a E => ?_
  refine wpList_nil ?_
  have H := H.front 7 rfl
  have H := H.front 1 rfl
  have H := H.front 6 rfl
  have H := H.front 6 rfl
  have H := H.front 6 rfl
  have H := H.front 6 rfl
  have H := H.front 6 rfl
  have H := H.front 6 rfl
  have H := H.front 6 rfl
  have H := H.front 6 rfl
  have H := H.front 6 rfl
  have H := H.front 6 rfl
  have H := H.front 6 rfl
  have H := H.front 6 rfl
  have H := H.drop 7 rfl
  have hMn := actM_step hk hrs.2.1 hrs.2.2.1
  rw [← hzz] at hMn
  have htz := thOk_step htk hk hrs.2.1 hrs.2.2.1
  rw [← hzz] at htz
  rw [runD_go hbne hni hbq hbx, ← hz2z, ts19, cond_false] at hR
  exact then_n ⟨_, by omega, z, n + 1, f, _, _, _, _, _, _, rfl, hrz, htz, by omega, by omega, hR, (Env.pick E (Env.pick E (Env.pick E (Env.pick E (Env.pick E E.nil rfl) rfl) rfl) rfl) rfl), H⟩
 rw [ts19, cond_true] at E
 refine va E rfl rfl fun a E => ?_
 refine wpList_nil (then_n (wp_seq (wp_region_lit ?_)))
 refine vm E rfl rfl fun a E => wv E rfl (r_bin (E.tmp rfl) (ev_c _) (b_neq (b := true) rfl)) fun a E => ?_
 refine wpList_nil (then_n ?_)
 refine cond_t E rfl rfl ?_
 refine wp_seq (wp_region_lit ?_)
 refine wv E rfl (r_build (pv (pvn)) (by kernel_rfl : (Instr.build 30 (List.toArray [])).run Try.prog _ = .ok (.agg #[.int .i64 (0), .int .i64 (0), .slice none 0 0, .slice none 0 0, .slice none 0 0, .slice none 0 0]) _)) fun a E => vm E rfl rfl fun a E => ?_
 refine w_stores (us := [.int .i64 (0), .int .i64 (0), .slice none 0 0, .slice none 0 0, .slice none 0 0, .slice none 0 0]) (cs' := [.int .i64 (0), .int .i64 (0), .slice none 0 0, .slice none 0 0, .slice none 0 0, .slice none 0 0]) (rs' := [_, _, _, _, _, _, Cel _ [.int .i64 (0), .int .i64 (0), .slice none 0 0, .slice none 0 0, .slice none 0 0, .slice none 0 0] _]) E (E.tmp rfl) (E.tmp rfl) rfl sz_30_19 H (i := 6) rfl rfl rfl rfl (fun a w E H => ?_)
 refine wv E rfl (r_assign (ev_c _)) fun a E => va E rfl rfl fun a E => ?_
 refine wpList_nil (then_n (wp_ret (then_r (inb_r (then_r (then_r (inb_r (then_r ?_))))))))
 refine post3 E rfl (out_c (us := [.int .i64 (0), .int .i64 (0), .slice none 0 0, .slice none 0 0, .slice none 0 0, .slice none 0 0]) E rfl ag_30_19 sz_30_19 (H.cellsAt 6 rfl)) (out_t E rfl) (out_t E rfl) ?_
 have H := H.mk_e
 have H := H.gr_nil 0 1
 have H := H.gr_dats rfl
 have H := H.mk_s
 have H := H.gr_nil 0 2
 have H := H.gr_dats rfl
 have H := H.mk_s
 have H := H.gr_nil 0 5
 have H := H.gr_dats rfl
 have H := H.mk_s
 have H := H.gr_nil 0 1
 have H := H.gr_dats rfl
 have H := H.mk_s
 have H := H.mk_v (x := .int .i64 (0)) rfl
 have H := H.mk_v (x := .int .i64 (0)) rfl
 have H := H.drop 1 rfl
 have H := H.drop 1 rfl
 have H := H.drop 1 rfl
 have H := H.drop 1 rfl
 have H := H.drop 1 rfl
 have H := H.drop 1 rfl
 have H := H.drop 1 rfl
 obtain ⟨rfl, rfl, rfl⟩ : r0 = (⟨0, 0, [], [], [], []⟩ : GDeque) ∧ r1 = 0 ∧ r2 = 4 := by
  rw [runD_go hbne hni hbq hbx, ← hz2z, ts19, cond_true] at hR
  exact inj3 hR
 exact ⟨_, rfl, H⟩
end Go.Proofs.Ythelpioccjjgfaa
