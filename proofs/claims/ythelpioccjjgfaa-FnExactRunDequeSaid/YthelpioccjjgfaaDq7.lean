/- Deques. Printed by gx_dq.py. -/
import Derived.Test.YthelpioccjjgfaaProg
import Derived.Test.YthelpioccjjgfaaSc
import Derived.Test.YthelpioccjjgfaaDDq
import Derived.Test.YthelpioccjjgfaaArith
import Derived.IntWalk
import Derived.Test.YthelpioccjjgfaaDq1
set_option linter.unusedSimpArgs false
set_option linter.unusedVariables false
namespace Go.Tr
def busyTo (xs : List GDequeActor) : Nat → List Int
  | 0 => []
  | k + 1 => busyTo xs k ++ (match xs[k]? with | some a => if 0 < a.todo.length then [((k : Nat) : Int)] else [] | none => [])
theorem busyTo_le (xs : List GDequeActor) : ∀ k, (busyTo xs k).length ≤ k
  | 0 => Nat.le_refl _
  | k + 1 => by
    have := busyTo_le xs k
    unfold busyTo
    rw [List.length_append]
    cases xs[k]? with
    | none => simp; omega
    | some a => by_cases h : 0 < a.todo.length <;> simp [h] <;> omega
theorem busy_t {xs : List GDequeActor} {k : Nat} {a : GDequeActor} (hx : xs[k]? = some a) (h : 0 < a.todo.length) : busyTo xs (k + 1) = busyTo xs k ++ [((k : Nat) : Int)] := by simp only [busyTo, hx, if_pos h]
theorem busy_f {xs : List GDequeActor} {k : Nat} {a : GDequeActor} (hx : xs[k]? = some a) (h : a.todo = []) : busyTo xs (k + 1) = busyTo xs k := by simp [busyTo, hx, h]
def schB (xs : List Int) : Bool := !decide ((200 : Int) < ((xs.length : Nat) : Int)) && xs.all (fun n => inB n 0 600)
def actF (xs : List GDequeActor) (i : Nat) : Bool := match xs[i]? with | some a => actorB a (((i : Nat) : Int) == 0) | none => true
def bufOk (n : Int) : Bool := !((n != 0) && !inB n 1 1000)
def takB (m : Nat) (h : GHanded) : Bool := inB h.actor 0 (IntKind.i64.wrap (((m : Nat) : Int) - 1)) && inB h.value 0 1000
def okB (x : GDeque) : Bool := inB ((x.buffer.length : Nat) : Int) 1 8 && inB x.top 0 1000 && inB x.bottom (-1) 1000 && inB ((x.actors.length : Nat) : Int) 1 4 && !decide ((1000 : Int) < ((x.taken.length : Nat) : Int)) && !decide ((1000 : Int) < ((x.refused.length : Nat) : Int)) &&
  x.buffer.all bufOk && allTo x.actors.length (actF x.actors) && x.taken.all (takB x.actors.length) && x.refused.all (fun n => inB n 1 1000) && (match x.actors[0]? with | some a => roomB x a | none => true)
end Go.Tr
namespace Go.Proofs.Ythelpioccjjgfaa
open Go Go.RowKit Go.Proofs Go.Tr
theorem fo_30_3_6 : fldOff Try.prog 30 3 = some 3 := by kernel_rfl
theorem ag_27_6 : aggB Try.prog 27 = some false := by kernel_rfl
theorem el_27_6 : elemOf? Try.prog 27 = some (119, 5) := by kernel_rfl
theorem fo_119_0_6 : fldOff Try.prog 119 0 = some 0 := by kernel_rfl
theorem ag_24_6 : aggB Try.prog 24 = some false := by kernel_rfl
theorem el_24_6 : elemOf? Try.prog 24 = some (2, 1) := by kernel_rfl
theorem eo_24_6 : ElemOk Try.prog 24 2 1 := ElemOk.of Try.underlying24 (by kernel_rfl) (by omega)
theorem ag_2_6 : aggB Try.prog 2 = some false := by kernel_rfl
theorem ok_122_6 : callOk Try.prog 122 = true := by kernel_rfl
theorem fo_30_2_6 : fldOff Try.prog 30 2 = some 2 := by kernel_rfl
theorem fo_30_0_6 : fldOff Try.prog 30 0 = some 0 := by kernel_rfl
theorem fo_30_1_6 : fldOff Try.prog 30 1 = some 1 := by kernel_rfl
theorem fo_30_4_6 : fldOff Try.prog 30 4 = some 4 := by kernel_rfl
theorem ag_28_6 : aggB Try.prog 28 = some false := by kernel_rfl
theorem el_28_6 : elemOf? Try.prog 28 = some (36, 2) := by kernel_rfl
theorem fo_30_5_6 : fldOff Try.prog 30 5 = some 5 := by kernel_rfl
theorem ok_205_6 : callOk Try.prog 205 = true := by kernel_rfl
theorem ok_206_6 : callOk Try.prog 206 = true := by kernel_rfl
theorem fo_36_0_6 : fldOff Try.prog 36 0 = some 0 := by kernel_rfl
theorem fo_36_1_6 : fldOff Try.prog 36 1 = some 1 := by kernel_rfl
theorem ok_207_6 : callOk Try.prog 207 = true := by kernel_rfl
set_option maxHeartbeats 1000000 in
theorem l23Busy_q (x : GDeque) (b o : Nat) (w0 : World) (hp : RoP w0 [] b o x.enc) (hn : x.actors.length ≤ 1000) : Calls Try.prog 147 #[.pointer (some ⟨b, o, none⟩)] w0 fun e w' => ∃ A' c', e = .returned (.slice A' (busyTo x.actors x.actors.length).length c') ∧ Tr.Inv w0 [] w' [Gr (.slice A' (busyTo x.actors x.actors.length).length c') 2 1 (busyTo x.actors x.actors.length).length ((busyTo x.actors x.actors.length).flatMap intE)] := by
 refine enter_i (args := [.pointer (some ⟨b, o, none⟩)]) Try.func147 rfl Try.ntmps147 rfl sep0 (fun a w E H => ?_)
 have E : Env 30 a [(0, .pointer (some ⟨b, o, none⟩))] := E
 have r1p0 : RoP w0 [] b o [.v (.int .i64 (x.top)), .v (.int .i64 (x.bottom)), .sl x.buffer.length (x.buffer.flatMap intE), .sl x.actors.length (x.actors.flatMap GDequeActor.enc), .sl x.taken.length (x.taken.flatMap GHanded.enc), .sl x.refused.length (x.refused.flatMap intE)] := hp
 obtain ⟨r1k0, r1p1⟩ := RoP.vv r1p0
 clear r1p0
 obtain ⟨r1k1, r1p2⟩ := RoP.vv r1p1
 clear r1p1
 obtain ⟨r1A2, r1c2, r1k2, r1t2, r1n2, r1p3⟩ := RoP.sl r1p2
 clear r1p2
 obtain ⟨r1A3, r1c3, r1k3, r1t3, r1n3, r1p4⟩ := RoP.sl r1p3
 clear r1p3
 obtain ⟨r1A4, r1c4, r1k4, r1t4, r1n4, r1p5⟩ := RoP.sl r1p4
 clear r1p4
 obtain ⟨r1A5, r1c5, r1k5, r1t5, r1n5, r1p6⟩ := RoP.sl r1p5
 clear r1p5
 clear r1p6
 refine wp_seq (wp_region_lit ?_)
 refine wv E rfl (r_assign (ev_c _)) fun a E => ?_
 refine wpList_nil (then_n (wp_seq (wp_region_lit ?_)))
 refine wv E rfl (r_bslice (pv (pvn)) (by kernel_rfl : (Instr.buildSlice 24 0 (List.toArray [])).run Try.prog w = .ok (.slice (some ⟨w.heap.size, 0, none⟩) 0 0) (w.alloc (.cells (List.toArray []) 2)))) (fun a E => ?_)
 have H := H.alloc [] 2
 obtain ⟨g2, hgg2⟩ : ∃ g, g = w.heap.size := ⟨_, rfl⟩
 rw [← hgg2] at E H
 clear hgg2
 generalize w.alloc _ = w at H ⊢
 refine va E rfl rfl fun a E => ?_
 refine wpList_nil (then_n (wp_seq (wp_seq (wp_region_lit ?_))))
 refine wv E rfl (r_assign (ev_c _)) fun a E => ?_
 refine wpList_nil (then_n (wp_block ?_))
 have H := H.gr_new 1
 refine wp_loop_ghost (fun m a w => ∃ (k : Nat) (A : Option Addr) (c : Nat), m = x.actors.length - k ∧ k ≤ x.actors.length ∧ Env 30 a [(0, .pointer (some ⟨b, o, none⟩)), (2, .slice none 0 0), (4, .int .i64 (((k : Nat) : Int))), (3, .slice A ((busyTo x.actors k).length) c)] ∧ Tr.Inv w0 [] w [Gr (.slice A ((busyTo x.actors k).length) c) 2 1 ((busyTo x.actors k).length) ((busyTo x.actors k).flatMap intE)]) _ ⟨0, _, _, rfl, Nat.zero_le _, (Env.pick E (Env.pick E (Env.pick E (Env.pick E E.nil rfl) rfl) rfl) rfl), H⟩ ?_
 rintro _ a w ⟨k, A, c, rfl, hk, E, H⟩
 by_cases hlt : k < x.actors.length
 ·
  skip
  have hbl := busyTo_le x.actors k
  have hnl := r1t3.nle
  revert E
  revert H
  obtain ⟨e3b, e3o, e3y, rfl, e3x, e3q⟩ := Ro1.elem (f := GDequeActor.enc) GDequeActor.enc_len r1t3 rfl hlt
  intro H E
  have r4p0 : RoP w0 [] e3b (e3o + k * 5) [.sl e3y.todo.length (e3y.todo.flatMap intE), .v (.int .i64 (e3y.pc)), .v (.int .i64 (e3y.t)), .v (.int .i64 (e3y.b)), .v (.int .i64 (e3y.x))] := e3q
  obtain ⟨r4A0, r4c0, r4k0, r4t0, r4n0, r4p1⟩ := RoP.sl r4p0
  clear r4p0
  obtain ⟨r4k1, r4p2⟩ := RoP.vv r4p1
  clear r4p1
  obtain ⟨r4k2, r4p3⟩ := RoP.vv r4p2
  clear r4p2
  obtain ⟨r4k3, r4p4⟩ := RoP.vv r4p3
  clear r4p3
  obtain ⟨r4k4, r4p5⟩ := RoP.vv r4p4
  clear r4p4
  clear r4p5
  refine wp_seq (wp_seq (wp_region_lit ?_))
  refine vm E rfl rfl fun a E => vm E rfl rfl fun a E => wv E rfl (r_nil (E.tmp rfl)) fun a E => wv E rfl (r_fa (o' := o + 3) (E.tmp rfl) fo_30_3_6 rfl) fun a E => wv E rfl (r_load (E.tmp rfl) ag_27_6 (r1k3.get H)) fun a E => ?_
  refine wv E rfl (r_len (E.tmp rfl) el_27_6) (fun a E => ?_)
  refine wv E rfl (r_bin (E.tmp rfl) (E.tmp rfl) (b_lss (b := true) (by simp; exact hlt))) fun a E => ?_
  refine wpList_nil (then_n ?_)
  refine cond_t E rfl rfl ?_
  refine wp_skip (then_n (wp_seq (wp_block (wp_seq (wp_region_lit ?_)))))
  refine vm E rfl rfl fun a E => wv E rfl (r_nil (E.tmp rfl)) fun a E => wv E rfl (r_fa (o' := o + 3) (E.tmp rfl) fo_30_3_6 rfl) fun a E => wv E rfl (r_load (E.tmp rfl) ag_27_6 (r1k3.get H)) fun a E => vm E rfl rfl fun a E => ?_
  refine wv E rfl (r_ia (k := k) (o' := e3o + k * 5) (E.tmp rfl) (E.tmp rfl) rfl el_27_6 (by omega) rfl) fun a E => wv E rfl (r_fa (o' := e3o + k * 5) (E.tmp rfl) fo_119_0_6 rfl) fun a E => wv E rfl (r_load (E.tmp rfl) ag_24_6 (r4k0.get H)) fun a E => ?_
  refine wv E rfl (r_len (E.tmp rfl) el_24_6) (fun a E => ?_)
  refine wv E rfl (r_bin (E.tmp rfl) (ev_c _) (b_gtr (b := decide (0 < ((e3y.todo.length : Nat) : Int))) rfl)) fun a E => ?_
  refine wpList_nil (then_n ?_)
  rcases bcase (decide (0 < ((e3y.todo.length : Nat) : Int))) with ts5 | ts5
  ·
   refine cond_f E rfl ts5 ?_
   refine wp_skip (inb_n (then_n (wp_region_lit ?_)))
   refine vm E rfl rfl fun a E => wv E rfl (r_bin (E.tmp rfl) (ev_c _) (b_add (wrap_succ (by omega)))) fun a E => va E rfl rfl fun a E => ?_
   refine wpList_nil ?_
   have hB := busy_f e3x (by simpa using ts5)
   rw [← hB] at H E
   exact then_n ⟨_, by omega, k + 1, A, c, rfl, by omega, (Env.pick E (Env.pick E (Env.pick E (Env.pick E E.nil rfl) rfl) rfl) rfl), H⟩
  refine cond_t E rfl ts5 ?_
  refine wp_region_lit ?_
  refine vm E rfl rfl fun a E => vm E rfl rfl fun a E => ?_
  refine wv E rfl (r_bslice (pv (pvc (E.tmp rfl) (pvn))) (by kernel_rfl : (Instr.buildSlice 24 1 (List.toArray [(0, .int .i64 (((k : Nat) : Int)))])).run Try.prog w = .ok (.slice (some ⟨w.heap.size, 0, none⟩) 1 1) (w.alloc (.cells (List.toArray [.int .i64 (((k : Nat) : Int))]) 2)))) (fun a E => ?_)
  have H := H.alloc [.int .i64 (((k : Nat) : Int))] 2
  obtain ⟨g6, hgg6⟩ : ∃ g, g = w.heap.size := ⟨_, rfl⟩
  rw [← hgg6] at E H
  clear hgg6
  generalize w.alloc _ = w at H ⊢
  have H := H.front 1 rfl
  have H := (H.flat (us := [.int .i64 (((k : Nat) : Int))]) rfl).front 1 rfl
  refine w_app E rfl (E.tmp rfl) (E.tmp rfl) eo_24_6 H (H.src (i := 2) rfl rfl rfl) (by omega) (fun a w Aa7 ca7 E H => ?_)
  refine va E rfl rfl fun a E => ?_
  refine wpList_nil (inb_n (then_n (wp_region_lit ?_)))
  refine vm E rfl rfl fun a E => wv E rfl (r_bin (E.tmp rfl) (ev_c _) (b_add (wrap_succ (by omega)))) fun a E => va E rfl rfl fun a E => ?_
  refine wpList_nil ?_
  have hB := busy_t e3x (by simpa using ts5)
  have e1 : (busyTo x.actors k).flatMap intE ++ [Value.int .i64 (((k : Nat) : Int))].map D.v = (busyTo x.actors (k + 1)).flatMap intE := by rw [hB]; simp [intE]
  have e2 : (busyTo x.actors k).length + 1 = (busyTo x.actors (k + 1)).length := by rw [hB]; simp
  rw [e1, e2] at H
  rw [e2] at E
  have H := H.drop 1 rfl
  exact then_n ⟨_, by omega, k + 1, Aa7, ca7, rfl, by omega, (Env.pick E (Env.pick E (Env.pick E (Env.pick E E.nil rfl) rfl) rfl) rfl), H⟩
 ·
  skip
  have hkn : k = x.actors.length := by omega
  refine wp_seq (wp_seq (wp_region_lit ?_))
  refine vm E rfl rfl fun a E => vm E rfl rfl fun a E => wv E rfl (r_nil (E.tmp rfl)) fun a E => wv E rfl (r_fa (o' := o + 3) (E.tmp rfl) fo_30_3_6 rfl) fun a E => wv E rfl (r_load (E.tmp rfl) ag_27_6 (r1k3.get H)) fun a E => ?_
  refine wv E rfl (r_len (E.tmp rfl) el_27_6) (fun a E => ?_)
  refine wv E rfl (r_bin (E.tmp rfl) (E.tmp rfl) (b_lss (b := false) (by simp; omega))) fun a E => ?_
  refine wpList_nil (then_n ?_)
  refine cond_f E rfl rfl ?_
  refine wp_exit (then_e (then_e (inb_ee (then_n (wp_seq (wp_region_lit ?_))))))
  refine vm E rfl rfl fun a E => va E rfl rfl fun a E => ?_
  refine wpList_nil (then_n (wp_ret ?_))
  refine post1 E rfl (out_t E rfl) ?_
  subst hkn
  exact ⟨_, _, rfl, H⟩

set_option maxHeartbeats 1000000 in
theorem l15Schedule_q (xs : List Int) (c : Nat) (A : Option Addr) (w0 : World) (hx : Ro1 w0 [] (.sl xs.length (xs.flatMap intE)) (.slice A xs.length c)) : Calls Try.prog 121 #[.slice A xs.length c] w0 fun e w' => e = .returned (.bool (schB xs)) ∧ Ext w0 w' := by
 refine enter_i (args := [.slice A xs.length c]) Try.func121 rfl Try.ntmps121 rfl sep0 (fun a w E H => ?_)
 have E : Env 19 a [(0, .slice A xs.length c)] := E
 have hnl := hx.nle
 refine wp_seq (wp_region_lit ?_)
 refine wv E rfl (r_assign (ev_c _)) fun a E => ?_
 refine wpList_nil (then_n (wp_seq (wp_seq (wp_region_lit ?_))))
 refine vm E rfl rfl fun a E => ?_
 refine wv E rfl (r_len (E.tmp rfl) el_24_6) (fun a E => ?_)
 refine wv E rfl (r_bin (E.tmp rfl) (ev_c _) (b_gtr (b := decide (200 < ((xs.length : Nat) : Int))) rfl)) fun a E => ?_
 refine wpList_nil (then_n ?_)
 rcases bcase (decide (200 < ((xs.length : Nat) : Int))) with ts1 | ts1
 ·
  refine cond_f E rfl ts1 ?_
  refine wp_skip (then_n (wp_seq (wp_seq (wp_region_lit ?_))))
  refine wv E rfl (r_assign (ev_c _)) fun a E => ?_
  refine wpList_nil (then_n (wp_block ?_))
  refine wp_loop_ghost (fun m a w => ∃ (k : Nat), m = xs.length - k ∧ k ≤ xs.length ∧ (xs.take k).all (fun n => inB n 0 600) = true ∧ Env 19 a [(0, .slice A xs.length c), (3, .int .i64 (((k : Nat) : Int)))] ∧ Tr.Inv w0 [] w []) _ ⟨0, rfl, Nat.zero_le _, rfl, (Env.pick E (Env.pick E E.nil rfl) rfl), H⟩ ?_
  rintro _ a w ⟨k, rfl, hkk, hallk, E, H⟩
  by_cases hltk : k < xs.length
  ·
   skip
   revert E
   revert H
   obtain ⟨e2b, e2o, e2y, rfl, e2x, e2q⟩ := Ro1.elem (f := intE) (s := 1) (fun _ => rfl) hx rfl hltk
   intro H E
   have r3p0 : RoP w0 [] e2b (e2o + k * 1) [.v (.int .i64 (e2y))] := e2q
   obtain ⟨r3k0, r3p1⟩ := RoP.vv r3p0
   clear r3p0
   clear r3p1
   refine wp_seq (wp_seq (wp_region_lit ?_))
   refine vm E rfl rfl fun a E => vm E rfl rfl fun a E => ?_
   refine wv E rfl (r_len (E.tmp rfl) el_24_6) (fun a E => ?_)
   refine wv E rfl (r_bin (E.tmp rfl) (E.tmp rfl) (b_lss (b := true) (by simp; exact hltk))) fun a E => ?_
   refine wpList_nil (then_n ?_)
   refine cond_t E rfl rfl ?_
   refine wp_skip (then_n (wp_seq (wp_block (wp_seq (wp_region_lit ?_)))))
   refine vm E rfl rfl fun a E => vm E rfl rfl fun a E => wv E rfl (r_ia (k := k) (o' := e2o + k * 1) (E.tmp rfl) (E.tmp rfl) rfl el_24_6 (by omega) rfl) fun a E => wv E rfl (r_load (E.tmp rfl) ag_2_6 (r3k0.get H)) fun a E => ?_
   refine w_quiet (v := .bool (inB e2y 0 600)) E rfl (ev_cons (E.tmp rfl) (ev_cons (ev_c _) (ev_cons (ev_c _) (ev_nil)))) ok_122_6 (l00In_q e2y 0 600 w) H (fun a w E H => ?_)
   refine wv E rfl (r_not (c := !(inB e2y 0 600)) (E.tmp rfl) rfl) fun a E => ?_
   refine wpList_nil (then_n ?_)
   rcases bcase (inB e2y 0 600) with ts4 | ts4
   ·
    refine cond_t E rfl (by rw [ts4]; rfl) ?_
    refine wp_seq (wp_region_lit ?_)
    refine wv E rfl (r_assign (ev_c _)) fun a E => ?_
    refine wpList_nil (then_n (wp_ret (inb_r (then_r (then_r (inb_r (then_r ?_)))))))
    refine post1 E rfl (out_t E rfl) ?_
    have hbad := all_bad (p := fun n => inB n 0 600) e2x (by first | rfl | (simp only [ts1, ts4, B1, B2, B3, B4, B5, B6, B7, B8, B9, B10, B11, B12, B13, B14]; done) | (simp only [ts1, ts4, B1, B2, B3, B4, B5, B6, B7, B8, B9, B10, B11, B12, B13, B14]; rfl) | (simp [ts1, ts4, B1, B2, B3, B4, B5, B6, B7, B8, B9, B10, B11, B12, B13, B14]; done) | ((try simp [inB] at ts1); (try simp [inB] at ts4); simp [inB]; omega))
    have hE : false = schB xs := by first | rfl | (simp only [schB, ts1, ts4, hbad, B1, B2, B3, B4, B5, B6, B7, B8, B9, B10, B11, B12, B13, B14]; done) | (simp only [schB, ts1, ts4, hbad, B1, B2, B3, B4, B5, B6, B7, B8, B9, B10, B11, B12, B13, B14]; rfl) | (simp [schB, ts1, ts4, hbad, B1, B2, B3, B4, B5, B6, B7, B8, B9, B10, B11, B12, B13, B14]; done) | ((try simp [schB, inB] at ts1); (try simp [schB, inB] at ts4); (try simp [schB, inB] at hbad); simp [schB, inB]; omega)
    exact rb hE H
   refine cond_f E rfl (by rw [ts4]; rfl) ?_
   refine wp_skip (inb_n (then_n (wp_region_lit ?_)))
   refine vm E rfl rfl fun a E => wv E rfl (r_bin (E.tmp rfl) (ev_c _) (b_add (wrap_succ (by omega)))) fun a E => va E rfl rfl fun a E => ?_
   refine wpList_nil ?_
   have hstep : (fun n => inB n 0 600) e2y = true := by first | rfl | (simp only [ts1, ts4, B1, B2, B3, B4, B5, B6, B7, B8, B9, B10, B11, B12, B13, B14]; done) | (simp only [ts1, ts4, B1, B2, B3, B4, B5, B6, B7, B8, B9, B10, B11, B12, B13, B14]; rfl) | (simp [ts1, ts4, B1, B2, B3, B4, B5, B6, B7, B8, B9, B10, B11, B12, B13, B14]; done) | ((try simp [inB] at ts1); (try simp [inB] at ts4); simp [inB]; omega)
   exact then_n ⟨_, by omega, k + 1, rfl, by omega, all_succ hallk e2x hstep, (Env.pick E (Env.pick E E.nil rfl) rfl), H⟩
  ·
   skip
   have hfullk := all_full hallk (by omega)
   refine wp_seq (wp_seq (wp_region_lit ?_))
   refine vm E rfl rfl fun a E => vm E rfl rfl fun a E => ?_
   refine wv E rfl (r_len (E.tmp rfl) el_24_6) (fun a E => ?_)
   refine wv E rfl (r_bin (E.tmp rfl) (E.tmp rfl) (b_lss (b := false) (by simp; omega))) fun a E => ?_
   refine wpList_nil (then_n ?_)
   refine cond_f E rfl rfl ?_
   refine wp_exit (then_e (then_e (inb_ee (then_n (wp_seq (wp_region_lit ?_))))))
   refine wv E rfl (r_assign (ev_c _)) fun a E => ?_
   refine wpList_nil (then_n (wp_ret ?_))
   refine post1 E rfl (out_t E rfl) ?_
   have hE : true = schB xs := by first | rfl | (simp only [schB, ts1, hfullk, B1, B2, B3, B4, B5, B6, B7, B8, B9, B10, B11, B12, B13, B14]; done) | (simp only [schB, ts1, hfullk, B1, B2, B3, B4, B5, B6, B7, B8, B9, B10, B11, B12, B13, B14]; rfl) | (simp [schB, ts1, hfullk, B1, B2, B3, B4, B5, B6, B7, B8, B9, B10, B11, B12, B13, B14]; done) | ((try simp [schB, inB] at ts1); (try simp [schB, inB] at hfullk); simp [schB, inB]; omega)
   exact rb hE H
 refine cond_t E rfl ts1 ?_
 refine wp_seq (wp_region_lit ?_)
 refine wv E rfl (r_assign (ev_c _)) fun a E => ?_
 refine wpList_nil (then_n (wp_ret (then_r ?_)))
 refine post1 E rfl (out_t E rfl) ?_
 have hE : false = schB xs := by first | rfl | (simp only [schB, ts1, B1, B2, B3, B4, B5, B6, B7, B8, B9, B10, B11, B12, B13, B14]; done) | (simp only [schB, ts1, B1, B2, B3, B4, B5, B6, B7, B8, B9, B10, B11, B12, B13, B14]; rfl) | (simp [schB, ts1, B1, B2, B3, B4, B5, B6, B7, B8, B9, B10, B11, B12, B13, B14]; done) | ((try simp [schB, inB] at ts1); simp [schB, inB]; omega)
 exact rb hE H

set_option maxHeartbeats 4000000 in
theorem l23Ok_q (x : GDeque) (b o : Nat) (w0 : World) (hp : RoP w0 [] b o x.enc) : Calls Try.prog 134 #[.pointer (some ⟨b, o, none⟩)] w0 fun e w' => e = .returned (.bool (okB x)) ∧ Ext w0 w' := by
 refine enter_i (args := [.pointer (some ⟨b, o, none⟩)]) Try.func134 rfl Try.ntmps134 rfl sep0 (fun a w E H => ?_)
 have E : Env 161 a [(0, .pointer (some ⟨b, o, none⟩))] := E
 have r1p0 : RoP w0 [] b o [.v (.int .i64 (x.top)), .v (.int .i64 (x.bottom)), .sl x.buffer.length (x.buffer.flatMap intE), .sl x.actors.length (x.actors.flatMap GDequeActor.enc), .sl x.taken.length (x.taken.flatMap GHanded.enc), .sl x.refused.length (x.refused.flatMap intE)] := hp
 obtain ⟨r1k0, r1p1⟩ := RoP.vv r1p0
 clear r1p0
 obtain ⟨r1k1, r1p2⟩ := RoP.vv r1p1
 clear r1p1
 obtain ⟨r1A2, r1c2, r1k2, r1t2, r1n2, r1p3⟩ := RoP.sl r1p2
 clear r1p2
 obtain ⟨r1A3, r1c3, r1k3, r1t3, r1n3, r1p4⟩ := RoP.sl r1p3
 clear r1p3
 obtain ⟨r1A4, r1c4, r1k4, r1t4, r1n4, r1p5⟩ := RoP.sl r1p4
 clear r1p4
 obtain ⟨r1A5, r1c5, r1k5, r1t5, r1n5, r1p6⟩ := RoP.sl r1p5
 clear r1p5
 clear r1p6
 refine wp_seq (wp_region_lit ?_)
 refine wv E rfl (r_assign (ev_c _)) fun a E => ?_
 refine wpList_nil (then_n (wp_seq (wp_region_lit ?_)))
 refine vm E rfl rfl fun a E => wv E rfl (r_nil (E.tmp rfl)) fun a E => wv E rfl (r_fa (o' := o + 2) (E.tmp rfl) fo_30_2_6 rfl) fun a E => wv E rfl (r_load (E.tmp rfl) ag_24_6 (r1k2.get H)) fun a E => ?_
 refine wv E rfl (r_len (E.tmp rfl) el_24_6) (fun a E => ?_)
 refine va E rfl rfl fun a E => ?_
 refine wpList_nil (then_n (wp_seq (wp_seq ?_)))
 refine reg_mid (fun a w => Env 161 a [(0, .pointer (some ⟨b, o, none⟩)), (2, .bool (false)), (56, .bool ((!(inB ((x.buffer.length : Nat) : Int) 1 8)) || ((!(inB x.top 0 1000)) || ((!(inB x.bottom (-1) 1000)) || ((!(inB ((x.actors.length : Nat) : Int) 1 4)) || ((decide (1000 < ((x.taken.length : Nat) : Int))) || (decide (1000 < ((x.refused.length : Nat) : Int)))))))))] ∧ Tr.Inv w0 [] w []) ?_ (fun a w hj => ?_)
 ·
  refine wp_region_lit ?_
  refine vm E rfl rfl fun a E => ?_
  refine w_quiet (v := .bool (inB ((x.buffer.length : Nat) : Int) 1 8)) E rfl (ev_cons (E.tmp rfl) (ev_cons (ev_c _) (ev_cons (ev_c _) (ev_nil)))) ok_122_6 (l00In_q ((x.buffer.length : Nat) : Int) 1 8 w) H (fun a w E H => ?_)
  refine wv E rfl (r_not (c := !(inB ((x.buffer.length : Nat) : Int) 1 8)) (E.tmp rfl) rfl) fun a E => vm E rfl rfl fun a E => ?_
  rcases bcase (inB ((x.buffer.length : Nat) : Int) 1 8) with ts2 | ts2
  ·
   refine wnh (c := true) E rfl rfl rfl rfl (by rw [ts2]; rfl) rfl fun a E => ?_
   refine wnh (c := true) E rfl rfl rfl rfl (by rw [ts2]; rfl) rfl fun a E => ?_
   refine wnh (c := true) E rfl rfl rfl rfl (by rw [ts2]; rfl) rfl fun a E => ?_
   refine wnh (c := true) E rfl rfl rfl rfl (by rw [ts2]; rfl) rfl fun a E => ?_
   refine wnh (c := true) E rfl rfl rfl rfl (by rw [ts2]; rfl) rfl fun a E => ?_
   refine wnh (c := true) E rfl rfl rfl rfl (by rw [ts2]; rfl) rfl fun a E => ?_
   refine wv E rfl (r_pick_t ((E.tmp rfl).trans (congrArg Value.bool (by rw [ts2]; rfl))) (ev_c _)) fun a E => vm E rfl rfl fun a E => wn E rfl rfl rfl rfl rfl fun a E => wn E rfl rfl rfl rfl rfl fun a E => wn E rfl rfl rfl rfl rfl fun a E => ?_
   refine wn E rfl rfl rfl rfl rfl fun a E => wn E rfl rfl rfl rfl rfl fun a E => wn E rfl rfl rfl rfl rfl fun a E => wv E rfl (r_pick_t (E.tmp rfl) (ev_c _)) fun a E => vm E rfl rfl fun a E => ?_
   refine wn E rfl rfl rfl rfl rfl fun a E => wn E rfl rfl rfl rfl rfl fun a E => wn E rfl rfl rfl rfl rfl fun a E => wn E rfl rfl rfl rfl rfl fun a E => wn E rfl rfl rfl rfl rfl fun a E => ?_
   refine wn E rfl rfl rfl rfl rfl fun a E => wn E rfl rfl rfl rfl rfl fun a E => wv E rfl (r_pick_t (E.tmp rfl) (ev_c _)) fun a E => vm E rfl rfl fun a E => wn E rfl rfl rfl rfl rfl fun a E => ?_
   refine wn E rfl rfl rfl rfl rfl fun a E => wn E rfl rfl rfl rfl rfl fun a E => wn E rfl rfl rfl rfl rfl fun a E => wn E rfl rfl rfl rfl rfl fun a E => wn E rfl rfl rfl rfl rfl fun a E => ?_
   refine wv E rfl (r_pick_t (E.tmp rfl) (ev_c _)) fun a E => vm E rfl rfl fun a E => wn E rfl rfl rfl rfl rfl fun a E => wn E rfl rfl rfl rfl rfl fun a E => wn E rfl rfl rfl rfl rfl fun a E => ?_
   refine wn E rfl rfl rfl rfl rfl fun a E => wn E rfl rfl rfl rfl rfl fun a E => wn E rfl rfl rfl rfl rfl fun a E => wv E rfl (r_pick_t (E.tmp rfl) (ev_c _)) fun a E => ?_
   refine wpList_nil ?_
   have ej3 : ((!(inB ((x.buffer.length : Nat) : Int) 1 8)) || ((!(inB x.top 0 1000)) || ((!(inB x.bottom (-1) 1000)) || ((!(inB ((x.actors.length : Nat) : Int) 1 4)) || ((decide (1000 < ((x.taken.length : Nat) : Int))) || (decide (1000 < ((x.refused.length : Nat) : Int)))))))) = true := by simp only [ts2, B1, B2, B3, B4, B5, B6, B7, B8, B9, B10, B11, B12, B13, B14]
   exact ⟨rfl, by rw [ej3]; exact (Env.pick E (Env.pick E (Env.pick E E.nil rfl) rfl) rfl), H⟩
  refine ung E rfl rfl rfl (by rw [ts2]; rfl) ?_
  refine vm E rfl rfl fun a E => ?_
  refine ung E rfl rfl rfl (by rw [ts2]; rfl) ?_
  refine wv E rfl (r_nil (E.tmp rfl)) fun a E => ?_
  refine ung E rfl rfl rfl (by rw [ts2]; rfl) ?_
  refine wv E rfl (r_fa (o' := o) (E.tmp rfl) fo_30_0_6 rfl) fun a E => ?_
  refine ung E rfl rfl rfl (by rw [ts2]; rfl) ?_
  refine wv E rfl (r_load (E.tmp rfl) ag_2_6 (r1k0.get H)) fun a E => ?_
  refine ung E rfl rfl rfl (by rw [ts2]; rfl) ?_
  refine w_quiet (v := .bool (inB x.top 0 1000)) E rfl (ev_cons (E.tmp rfl) (ev_cons (ev_c _) (ev_cons (ev_c _) (ev_nil)))) ok_122_6 (l00In_q x.top 0 1000 w) H (fun a w E H => ?_)
  refine ung E rfl rfl rfl (by rw [ts2]; rfl) ?_
  refine wv E rfl (r_not (c := !(inB x.top 0 1000)) (E.tmp rfl) rfl) fun a E => wv E rfl (r_pick_f ((E.tmp rfl).trans (congrArg Value.bool (by rw [ts2]; rfl))) (E.tmp rfl)) fun a E => vm E rfl rfl fun a E => ?_
  rcases bcase (inB x.top 0 1000) with ts4 | ts4
  ·
   refine wnh (c := true) E rfl rfl rfl rfl (by rw [ts4]; rfl) rfl fun a E => ?_
   refine wnh (c := true) E rfl rfl rfl rfl (by rw [ts4]; rfl) rfl fun a E => ?_
   refine wnh (c := true) E rfl rfl rfl rfl (by rw [ts4]; rfl) rfl fun a E => ?_
   refine wnh (c := true) E rfl rfl rfl rfl (by rw [ts4]; rfl) rfl fun a E => ?_
   refine wnh (c := true) E rfl rfl rfl rfl (by rw [ts4]; rfl) rfl fun a E => ?_
   refine wnh (c := true) E rfl rfl rfl rfl (by rw [ts4]; rfl) rfl fun a E => ?_
   refine wv E rfl (r_pick_t ((E.tmp rfl).trans (congrArg Value.bool (by rw [ts4]; rfl))) (ev_c _)) fun a E => vm E rfl rfl fun a E => wn E rfl rfl rfl rfl rfl fun a E => wn E rfl rfl rfl rfl rfl fun a E => wn E rfl rfl rfl rfl rfl fun a E => ?_
   refine wn E rfl rfl rfl rfl rfl fun a E => wn E rfl rfl rfl rfl rfl fun a E => wn E rfl rfl rfl rfl rfl fun a E => wn E rfl rfl rfl rfl rfl fun a E => wv E rfl (r_pick_t (E.tmp rfl) (ev_c _)) fun a E => ?_
   refine vm E rfl rfl fun a E => wn E rfl rfl rfl rfl rfl fun a E => wn E rfl rfl rfl rfl rfl fun a E => wn E rfl rfl rfl rfl rfl fun a E => wn E rfl rfl rfl rfl rfl fun a E => ?_
   refine wn E rfl rfl rfl rfl rfl fun a E => wn E rfl rfl rfl rfl rfl fun a E => wv E rfl (r_pick_t (E.tmp rfl) (ev_c _)) fun a E => vm E rfl rfl fun a E => wn E rfl rfl rfl rfl rfl fun a E => ?_
   refine wn E rfl rfl rfl rfl rfl fun a E => wn E rfl rfl rfl rfl rfl fun a E => wn E rfl rfl rfl rfl rfl fun a E => wn E rfl rfl rfl rfl rfl fun a E => wn E rfl rfl rfl rfl rfl fun a E => ?_
   refine wv E rfl (r_pick_t (E.tmp rfl) (ev_c _)) fun a E => ?_
   refine wpList_nil ?_
   have ej5 : ((!(inB ((x.buffer.length : Nat) : Int) 1 8)) || ((!(inB x.top 0 1000)) || ((!(inB x.bottom (-1) 1000)) || ((!(inB ((x.actors.length : Nat) : Int) 1 4)) || ((decide (1000 < ((x.taken.length : Nat) : Int))) || (decide (1000 < ((x.refused.length : Nat) : Int)))))))) = true := by simp only [ts2, ts4, B1, B2, B3, B4, B5, B6, B7, B8, B9, B10, B11, B12, B13, B14]
   exact ⟨rfl, by rw [ej5]; exact (Env.pick E (Env.pick E (Env.pick E E.nil rfl) rfl) rfl), H⟩
  refine ung E rfl rfl rfl (by rw [ts4]; rfl) ?_
  refine vm E rfl rfl fun a E => ?_
  refine ung E rfl rfl rfl (by rw [ts4]; rfl) ?_
  refine wv E rfl (r_nil (E.tmp rfl)) fun a E => ?_
  refine ung E rfl rfl rfl (by rw [ts4]; rfl) ?_
  refine wv E rfl (r_fa (o' := o + 1) (E.tmp rfl) fo_30_1_6 rfl) fun a E => ?_
  refine ung E rfl rfl rfl (by rw [ts4]; rfl) ?_
  refine wv E rfl (r_load (E.tmp rfl) ag_2_6 (r1k1.get H)) fun a E => ?_
  refine ung E rfl rfl rfl (by rw [ts4]; rfl) ?_
  refine w_quiet (v := .bool (inB x.bottom (-1) 1000)) E rfl (ev_cons (E.tmp rfl) (ev_cons (ev_c _) (ev_cons (ev_c _) (ev_nil)))) ok_122_6 (l00In_q x.bottom (-1) 1000 w) H (fun a w E H => ?_)
  refine ung E rfl rfl rfl (by rw [ts4]; rfl) ?_
  refine wv E rfl (r_not (c := !(inB x.bottom (-1) 1000)) (E.tmp rfl) rfl) fun a E => wv E rfl (r_pick_f ((E.tmp rfl).trans (congrArg Value.bool (by rw [ts4]; rfl))) (E.tmp rfl)) fun a E => vm E rfl rfl fun a E => ?_
  rcases bcase (inB x.bottom (-1) 1000) with ts6 | ts6
  ·
   refine wnh (c := true) E rfl rfl rfl rfl (by rw [ts6]; rfl) rfl fun a E => ?_
   refine wnh (c := true) E rfl rfl rfl rfl (by rw [ts6]; rfl) rfl fun a E => ?_
   refine wnh (c := true) E rfl rfl rfl rfl (by rw [ts6]; rfl) rfl fun a E => ?_
   refine wnh (c := true) E rfl rfl rfl rfl (by rw [ts6]; rfl) rfl fun a E => ?_
   refine wnh (c := true) E rfl rfl rfl rfl (by rw [ts6]; rfl) rfl fun a E => ?_
   refine wnh (c := true) E rfl rfl rfl rfl (by rw [ts6]; rfl) rfl fun a E => ?_
   refine wnh (c := true) E rfl rfl rfl rfl (by rw [ts6]; rfl) rfl fun a E => ?_
   refine wv E rfl (r_pick_t ((E.tmp rfl).trans (congrArg Value.bool (by rw [ts6]; rfl))) (ev_c _)) fun a E => vm E rfl rfl fun a E => wn E rfl rfl rfl rfl rfl fun a E => wn E rfl rfl rfl rfl rfl fun a E => wn E rfl rfl rfl rfl rfl fun a E => ?_
   refine wn E rfl rfl rfl rfl rfl fun a E => wn E rfl rfl rfl rfl rfl fun a E => wn E rfl rfl rfl rfl rfl fun a E => wv E rfl (r_pick_t (E.tmp rfl) (ev_c _)) fun a E => vm E rfl rfl fun a E => ?_
   refine wn E rfl rfl rfl rfl rfl fun a E => wn E rfl rfl rfl rfl rfl fun a E => wn E rfl rfl rfl rfl rfl fun a E => wn E rfl rfl rfl rfl rfl fun a E => wn E rfl rfl rfl rfl rfl fun a E => ?_
   refine wn E rfl rfl rfl rfl rfl fun a E => wv E rfl (r_pick_t (E.tmp rfl) (ev_c _)) fun a E => ?_
   refine wpList_nil ?_
   have ej7 : ((!(inB ((x.buffer.length : Nat) : Int) 1 8)) || ((!(inB x.top 0 1000)) || ((!(inB x.bottom (-1) 1000)) || ((!(inB ((x.actors.length : Nat) : Int) 1 4)) || ((decide (1000 < ((x.taken.length : Nat) : Int))) || (decide (1000 < ((x.refused.length : Nat) : Int)))))))) = true := by simp only [ts2, ts4, ts6, B1, B2, B3, B4, B5, B6, B7, B8, B9, B10, B11, B12, B13, B14]
   exact ⟨rfl, by rw [ej7]; exact (Env.pick E (Env.pick E (Env.pick E E.nil rfl) rfl) rfl), H⟩
  refine ung E rfl rfl rfl (by rw [ts6]; rfl) ?_
  refine vm E rfl rfl fun a E => ?_
  refine ung E rfl rfl rfl (by rw [ts6]; rfl) ?_
  refine wv E rfl (r_nil (E.tmp rfl)) fun a E => ?_
  refine ung E rfl rfl rfl (by rw [ts6]; rfl) ?_
  refine wv E rfl (r_fa (o' := o + 3) (E.tmp rfl) fo_30_3_6 rfl) fun a E => ?_
  refine ung E rfl rfl rfl (by rw [ts6]; rfl) ?_
  refine wv E rfl (r_load (E.tmp rfl) ag_27_6 (r1k3.get H)) fun a E => ?_
  refine ung E rfl rfl rfl (by rw [ts6]; rfl) ?_
  refine wv E rfl (r_len (E.tmp rfl) el_27_6) (fun a E => ?_)
  refine ung E rfl rfl rfl (by rw [ts6]; rfl) ?_
  refine w_quiet (v := .bool (inB ((x.actors.length : Nat) : Int) 1 4)) E rfl (ev_cons (E.tmp rfl) (ev_cons (ev_c _) (ev_cons (ev_c _) (ev_nil)))) ok_122_6 (l00In_q ((x.actors.length : Nat) : Int) 1 4 w) H (fun a w E H => ?_)
  refine ung E rfl rfl rfl (by rw [ts6]; rfl) ?_
  refine wv E rfl (r_not (c := !(inB ((x.actors.length : Nat) : Int) 1 4)) (E.tmp rfl) rfl) fun a E => wv E rfl (r_pick_f ((E.tmp rfl).trans (congrArg Value.bool (by rw [ts6]; rfl))) (E.tmp rfl)) fun a E => vm E rfl rfl fun a E => ?_
  rcases bcase (inB ((x.actors.length : Nat) : Int) 1 4) with ts8 | ts8
  ·
   refine wnh (c := true) E rfl rfl rfl rfl (by rw [ts8]; rfl) rfl fun a E => ?_
   refine wnh (c := true) E rfl rfl rfl rfl (by rw [ts8]; rfl) rfl fun a E => ?_
   refine wnh (c := true) E rfl rfl rfl rfl (by rw [ts8]; rfl) rfl fun a E => ?_
   refine wnh (c := true) E rfl rfl rfl rfl (by rw [ts8]; rfl) rfl fun a E => ?_
   refine wnh (c := true) E rfl rfl rfl rfl (by rw [ts8]; rfl) rfl fun a E => ?_
   refine wnh (c := true) E rfl rfl rfl rfl (by rw [ts8]; rfl) rfl fun a E => ?_
   refine wv E rfl (r_pick_t ((E.tmp rfl).trans (congrArg Value.bool (by rw [ts8]; rfl))) (ev_c _)) fun a E => vm E rfl rfl fun a E => wn E rfl rfl rfl rfl rfl fun a E => wn E rfl rfl rfl rfl rfl fun a E => wn E rfl rfl rfl rfl rfl fun a E => ?_
   refine wn E rfl rfl rfl rfl rfl fun a E => wn E rfl rfl rfl rfl rfl fun a E => wn E rfl rfl rfl rfl rfl fun a E => wv E rfl (r_pick_t (E.tmp rfl) (ev_c _)) fun a E => ?_
   refine wpList_nil ?_
   have ej9 : ((!(inB ((x.buffer.length : Nat) : Int) 1 8)) || ((!(inB x.top 0 1000)) || ((!(inB x.bottom (-1) 1000)) || ((!(inB ((x.actors.length : Nat) : Int) 1 4)) || ((decide (1000 < ((x.taken.length : Nat) : Int))) || (decide (1000 < ((x.refused.length : Nat) : Int)))))))) = true := by simp only [ts2, ts4, ts6, ts8, B1, B2, B3, B4, B5, B6, B7, B8, B9, B10, B11, B12, B13, B14]
   exact ⟨rfl, by rw [ej9]; exact (Env.pick E (Env.pick E (Env.pick E E.nil rfl) rfl) rfl), H⟩
  refine ung E rfl rfl rfl (by rw [ts8]; rfl) ?_
  refine vm E rfl rfl fun a E => ?_
  refine ung E rfl rfl rfl (by rw [ts8]; rfl) ?_
  refine wv E rfl (r_nil (E.tmp rfl)) fun a E => ?_
  refine ung E rfl rfl rfl (by rw [ts8]; rfl) ?_
  refine wv E rfl (r_fa (o' := o + 4) (E.tmp rfl) fo_30_4_6 rfl) fun a E => ?_
  refine ung E rfl rfl rfl (by rw [ts8]; rfl) ?_
  refine wv E rfl (r_load (E.tmp rfl) ag_28_6 (r1k4.get H)) fun a E => ?_
  refine ung E rfl rfl rfl (by rw [ts8]; rfl) ?_
  refine wv E rfl (r_len (E.tmp rfl) el_28_6) (fun a E => ?_)
  refine ung E rfl rfl rfl (by rw [ts8]; rfl) ?_
  refine wv E rfl (r_bin (E.tmp rfl) (ev_c _) (b_gtr (b := decide (1000 < ((x.taken.length : Nat) : Int))) rfl)) fun a E => wv E rfl (r_pick_f ((E.tmp rfl).trans (congrArg Value.bool (by rw [ts8]; rfl))) (E.tmp rfl)) fun a E => vm E rfl rfl fun a E => ?_
  rcases bcase (decide (1000 < ((x.taken.length : Nat) : Int))) with ts10 | ts10
  ·
   refine ung E rfl rfl rfl ts10 ?_
   refine vm E rfl rfl fun a E => ?_
   refine ung E rfl rfl rfl ts10 ?_
   refine wv E rfl (r_nil (E.tmp rfl)) fun a E => ?_
   refine ung E rfl rfl rfl ts10 ?_
   refine wv E rfl (r_fa (o' := o + 5) (E.tmp rfl) fo_30_5_6 rfl) fun a E => ?_
   refine ung E rfl rfl rfl ts10 ?_
   refine wv E rfl (r_load (E.tmp rfl) ag_24_6 (r1k5.get H)) fun a E => ?_
   refine ung E rfl rfl rfl ts10 ?_
   refine wv E rfl (r_len (E.tmp rfl) el_24_6) (fun a E => ?_)
   refine ung E rfl rfl rfl ts10 ?_
   refine wv E rfl (r_bin (E.tmp rfl) (ev_c _) (b_gtr (b := decide (1000 < ((x.refused.length : Nat) : Int))) rfl)) fun a E => wv E rfl (r_pick_f ((E.tmp rfl).trans (congrArg Value.bool ts10)) (E.tmp rfl)) fun a E => ?_
   refine wpList_nil ?_
   have ej11 : ((!(inB ((x.buffer.length : Nat) : Int) 1 8)) || ((!(inB x.top 0 1000)) || ((!(inB x.bottom (-1) 1000)) || ((!(inB ((x.actors.length : Nat) : Int) 1 4)) || ((decide (1000 < ((x.taken.length : Nat) : Int))) || (decide (1000 < ((x.refused.length : Nat) : Int)))))))) = (decide (1000 < ((x.refused.length : Nat) : Int))) := by simp only [ts2, ts4, ts6, ts8, ts10, B1, B2, B3, B4, B5, B6, B7, B8, B9, B10, B11, B12, B13, B14]
   exact ⟨rfl, by rw [ej11]; exact (Env.pick E (Env.pick E (Env.pick E E.nil rfl) rfl) rfl), H⟩
  refine wnh (c := true) E rfl rfl rfl rfl ts10 rfl fun a E => ?_
  refine wnh (c := true) E rfl rfl rfl rfl ts10 rfl fun a E => ?_
  refine wnh (c := true) E rfl rfl rfl rfl ts10 rfl fun a E => ?_
  refine wnh (c := true) E rfl rfl rfl rfl ts10 rfl fun a E => ?_
  refine wnh (c := true) E rfl rfl rfl rfl ts10 rfl fun a E => ?_
  refine wnh (c := true) E rfl rfl rfl rfl ts10 rfl fun a E => ?_
  refine wv E rfl (r_pick_t ((E.tmp rfl).trans (congrArg Value.bool ts10)) (ev_c _)) fun a E => ?_
  refine wpList_nil ?_
  have ej12 : ((!(inB ((x.buffer.length : Nat) : Int) 1 8)) || ((!(inB x.top 0 1000)) || ((!(inB x.bottom (-1) 1000)) || ((!(inB ((x.actors.length : Nat) : Int) 1 4)) || ((decide (1000 < ((x.taken.length : Nat) : Int))) || (decide (1000 < ((x.refused.length : Nat) : Int)))))))) = true := by simp only [ts2, ts4, ts6, ts8, ts10, B1, B2, B3, B4, B5, B6, B7, B8, B9, B10, B11, B12, B13, B14]
  exact ⟨rfl, by rw [ej12]; exact (Env.pick E (Env.pick E (Env.pick E E.nil rfl) rfl) rfl), H⟩
 obtain ⟨E, H⟩ := hj
 refine then_n ?_
 rcases bcase ((!(inB ((x.buffer.length : Nat) : Int) 1 8)) || ((!(inB x.top 0 1000)) || ((!(inB x.bottom (-1) 1000)) || ((!(inB ((x.actors.length : Nat) : Int) 1 4)) || ((decide (1000 < ((x.taken.length : Nat) : Int))) || (decide (1000 < ((x.refused.length : Nat) : Int)))))))) with ts13 | ts13
 ·
  obtain ⟨ts14, ts15⟩ := b_of ts13
  have ts16 := b_nf ts14
  obtain ⟨ts17, ts18⟩ := b_of ts15
  have ts19 := b_nf ts17
  obtain ⟨ts20, ts21⟩ := b_of ts18
  have ts22 := b_nf ts20
  obtain ⟨ts23, ts24⟩ := b_of ts21
  have ts25 := b_nf ts23
  obtain ⟨ts26, ts27⟩ := b_of ts24
  refine cond_f E rfl ts13 ?_
  refine wp_skip (then_n (wp_seq (wp_seq (wp_region_lit ?_))))
  refine wv E rfl (r_assign (ev_c _)) fun a E => ?_
  refine wpList_nil (then_n (wp_block ?_))
  refine wp_loop_ghost (fun m a w => ∃ (k1 : Nat), m = x.buffer.length - k1 ∧ k1 ≤ x.buffer.length ∧ (x.buffer.take k1).all (bufOk) = true ∧ Env 161 a [(0, .pointer (some ⟨b, o, none⟩)), (4, .int .i64 (((k1 : Nat) : Int)))] ∧ Tr.Inv w0 [] w []) _ ⟨0, rfl, Nat.zero_le _, rfl, (Env.pick E (Env.pick E E.nil rfl) rfl), H⟩ ?_
  rintro _ a w ⟨k1, rfl, hkk1, hallk1, E, H⟩
  by_cases hltk1 : k1 < x.buffer.length
  ·
   skip
   revert E
   revert H
   obtain ⟨e28b, e28o, e28y, rfl, e28x, e28q⟩ := Ro1.elem (f := intE) (s := 1) (fun _ => rfl) r1t2 rfl hltk1
   intro H E
   have r29p0 : RoP w0 [] e28b (e28o + k1 * 1) [.v (.int .i64 (e28y))] := e28q
   obtain ⟨r29k0, r29p1⟩ := RoP.vv r29p0
   clear r29p0
   clear r29p1
   refine wp_seq (wp_seq (wp_region_lit ?_))
   refine vm E rfl rfl fun a E => vm E rfl rfl fun a E => wv E rfl (r_nil (E.tmp rfl)) fun a E => wv E rfl (r_fa (o' := o + 2) (E.tmp rfl) fo_30_2_6 rfl) fun a E => wv E rfl (r_load (E.tmp rfl) ag_24_6 (r1k2.get H)) fun a E => ?_
   refine wv E rfl (r_len (E.tmp rfl) el_24_6) (fun a E => ?_)
   refine wv E rfl (r_bin (E.tmp rfl) (E.tmp rfl) (b_lss (b := true) (by simp; exact hltk1))) fun a E => ?_
   refine wpList_nil (then_n ?_)
   refine cond_t E rfl rfl ?_
   refine wp_skip (then_n (wp_seq (wp_block (wp_seq (wp_region_lit ?_)))))
   refine vm E rfl rfl fun a E => wv E rfl (r_nil (E.tmp rfl)) fun a E => wv E rfl (r_fa (o' := o + 2) (E.tmp rfl) fo_30_2_6 rfl) fun a E => wv E rfl (r_load (E.tmp rfl) ag_24_6 (r1k2.get H)) fun a E => vm E rfl rfl fun a E => ?_
   refine wv E rfl (r_ia (k := k1) (o' := e28o + k1 * 1) (E.tmp rfl) (E.tmp rfl) rfl el_24_6 (by omega) rfl) fun a E => wv E rfl (r_load (E.tmp rfl) ag_2_6 (r29k0.get H)) fun a E => wv E rfl (r_bin (E.tmp rfl) (ev_c _) (b_neq (b := e28y != 0) rfl)) fun a E => vm E rfl rfl fun a E => ?_
   rcases bcase (e28y != 0) with ts30 | ts30
   ·
    refine wnh (c := false) E rfl rfl rfl rfl ts30 rfl fun a E => ?_
    refine wnh (c := false) E rfl rfl rfl rfl ts30 rfl fun a E => ?_
    refine wnh (c := false) E rfl rfl rfl rfl ts30 rfl fun a E => ?_
    refine wnh (c := false) E rfl rfl rfl rfl ts30 rfl fun a E => ?_
    refine wnh (c := false) E rfl rfl rfl rfl ts30 rfl fun a E => ?_
    refine wnh (c := false) E rfl rfl rfl rfl ts30 rfl fun a E => ?_
    refine wnh (c := false) E rfl rfl rfl rfl ts30 rfl fun a E => ?_
    refine wnh (c := false) E rfl rfl rfl rfl ts30 rfl fun a E => ?_
    refine wnh (c := false) E rfl rfl rfl rfl ts30 rfl fun a E => ?_
    refine wv E rfl (r_pick_f ((E.tmp rfl).trans (congrArg Value.bool ts30)) (ev_c _)) fun a E => ?_
    refine wpList_nil (then_n ?_)
    refine cond_f E rfl rfl ?_
    refine wp_skip (inb_n (then_n (wp_region_lit ?_)))
    refine vm E rfl rfl fun a E => wv E rfl (r_bin (E.tmp rfl) (ev_c _) (b_add (wrap_succ (by omega)))) fun a E => va E rfl rfl fun a E => ?_
    refine wpList_nil ?_
    have hstep : (bufOk) e28y = true := by first | rfl | (simp only [bufOk, takB, ts16, ts19, ts22, ts25, ts26, ts27, ts30, B1, B2, B3, B4, B5, B6, B7, B8, B9, B10, B11, B12, B13, B14]; done) | (simp only [bufOk, takB, ts16, ts19, ts22, ts25, ts26, ts27, ts30, B1, B2, B3, B4, B5, B6, B7, B8, B9, B10, B11, B12, B13, B14]; rfl) | (simp [bufOk, takB, ts16, ts19, ts22, ts25, ts26, ts27, ts30, B1, B2, B3, B4, B5, B6, B7, B8, B9, B10, B11, B12, B13, B14]; done) | ((try simp [bufOk, takB, inB] at ts16); (try simp [bufOk, takB, inB] at ts19); (try simp [bufOk, takB, inB] at ts22); (try simp [bufOk, takB, inB] at ts25); (try simp [bufOk, takB, inB] at ts26); (try simp [bufOk, takB, inB] at ts27); (try simp [bufOk, takB, inB] at ts30); simp [bufOk, takB, inB]; omega)
    exact then_n ⟨_, by omega, k1 + 1, rfl, by omega, all_succ hallk1 e28x hstep, (Env.pick E (Env.pick E E.nil rfl) rfl), H⟩
   refine ung E rfl rfl rfl ts30 ?_
   refine vm E rfl rfl fun a E => ?_
   refine ung E rfl rfl rfl ts30 ?_
   refine wv E rfl (r_nil (E.tmp rfl)) fun a E => ?_
   refine ung E rfl rfl rfl ts30 ?_
   refine wv E rfl (r_fa (o' := o + 2) (E.tmp rfl) fo_30_2_6 rfl) fun a E => ?_
   refine ung E rfl rfl rfl ts30 ?_
   refine wv E rfl (r_load (E.tmp rfl) ag_24_6 (r1k2.get H)) fun a E => ?_
   refine ung E rfl rfl rfl ts30 ?_
   refine vm E rfl rfl fun a E => ?_
   refine ung E rfl rfl rfl ts30 ?_
   refine wv E rfl (r_ia (k := k1) (o' := e28o + k1 * 1) (E.tmp rfl) (E.tmp rfl) rfl el_24_6 (by omega) rfl) fun a E => ?_
   refine ung E rfl rfl rfl ts30 ?_
   refine wv E rfl (r_load (E.tmp rfl) ag_2_6 (r29k0.get H)) fun a E => ?_
   refine ung E rfl rfl rfl ts30 ?_
   refine w_quiet (v := .bool (inB e28y 1 1000)) E rfl (ev_cons (E.tmp rfl) (ev_nil)) ok_205_6 (l23Task_q e28y w) H (fun a w E H => ?_)
   refine ung E rfl rfl rfl ts30 ?_
   refine wv E rfl (r_not (c := !(inB e28y 1 1000)) (E.tmp rfl) rfl) fun a E => wv E rfl (r_pick_t ((E.tmp rfl).trans (congrArg Value.bool ts30)) (E.tmp rfl)) fun a E => ?_
   refine wpList_nil (then_n ?_)
   rcases bcase (inB e28y 1 1000) with ts31 | ts31
   ·
    refine cond_t E rfl (by rw [ts31]; rfl) ?_
    refine wp_seq (wp_region_lit ?_)
    refine wv E rfl (r_assign (ev_c _)) fun a E => ?_
    refine wpList_nil (then_n (wp_ret (inb_r (then_r (then_r (inb_r (then_r ?_)))))))
    refine post1 E rfl (out_t E rfl) ?_
    have hbad := all_bad (p := bufOk) e28x (by first | rfl | (simp only [bufOk, takB, ts16, ts19, ts22, ts25, ts26, ts27, ts30, ts31, B1, B2, B3, B4, B5, B6, B7, B8, B9, B10, B11, B12, B13, B14]; done) | (simp only [bufOk, takB, ts16, ts19, ts22, ts25, ts26, ts27, ts30, ts31, B1, B2, B3, B4, B5, B6, B7, B8, B9, B10, B11, B12, B13, B14]; rfl) | (simp [bufOk, takB, ts16, ts19, ts22, ts25, ts26, ts27, ts30, ts31, B1, B2, B3, B4, B5, B6, B7, B8, B9, B10, B11, B12, B13, B14]; done) | ((try simp [bufOk, takB, inB] at ts16); (try simp [bufOk, takB, inB] at ts19); (try simp [bufOk, takB, inB] at ts22); (try simp [bufOk, takB, inB] at ts25); (try simp [bufOk, takB, inB] at ts26); (try simp [bufOk, takB, inB] at ts27); (try simp [bufOk, takB, inB] at ts30); (try simp [bufOk, takB, inB] at ts31); simp [bufOk, takB, inB]; omega))
    have hE : false = okB x := by first | rfl | (simp only [okB, ts16, ts19, ts22, ts25, ts26, ts27, ts30, ts31, hbad, B1, B2, B3, B4, B5, B6, B7, B8, B9, B10, B11, B12, B13, B14]; done) | (simp only [okB, ts16, ts19, ts22, ts25, ts26, ts27, ts30, ts31, hbad, B1, B2, B3, B4, B5, B6, B7, B8, B9, B10, B11, B12, B13, B14]; rfl) | (simp [okB, ts16, ts19, ts22, ts25, ts26, ts27, ts30, ts31, hbad, B1, B2, B3, B4, B5, B6, B7, B8, B9, B10, B11, B12, B13, B14]; done) | ((try simp [okB, inB] at ts16); (try simp [okB, inB] at ts19); (try simp [okB, inB] at ts22); (try simp [okB, inB] at ts25); (try simp [okB, inB] at ts26); (try simp [okB, inB] at ts27); (try simp [okB, inB] at ts30); (try simp [okB, inB] at ts31); (try simp [okB, inB] at hbad); simp [okB, inB]; omega)
    exact rb hE H
   refine cond_f E rfl (by rw [ts31]; rfl) ?_
   refine wp_skip (inb_n (then_n (wp_region_lit ?_)))
   refine vm E rfl rfl fun a E => wv E rfl (r_bin (E.tmp rfl) (ev_c _) (b_add (wrap_succ (by omega)))) fun a E => va E rfl rfl fun a E => ?_
   refine wpList_nil ?_
   have hstep : (bufOk) e28y = true := by first | rfl | (simp only [bufOk, takB, ts16, ts19, ts22, ts25, ts26, ts27, ts30, ts31, B1, B2, B3, B4, B5, B6, B7, B8, B9, B10, B11, B12, B13, B14]; done) | (simp only [bufOk, takB, ts16, ts19, ts22, ts25, ts26, ts27, ts30, ts31, B1, B2, B3, B4, B5, B6, B7, B8, B9, B10, B11, B12, B13, B14]; rfl) | (simp [bufOk, takB, ts16, ts19, ts22, ts25, ts26, ts27, ts30, ts31, B1, B2, B3, B4, B5, B6, B7, B8, B9, B10, B11, B12, B13, B14]; done) | ((try simp [bufOk, takB, inB] at ts16); (try simp [bufOk, takB, inB] at ts19); (try simp [bufOk, takB, inB] at ts22); (try simp [bufOk, takB, inB] at ts25); (try simp [bufOk, takB, inB] at ts26); (try simp [bufOk, takB, inB] at ts27); (try simp [bufOk, takB, inB] at ts30); (try simp [bufOk, takB, inB] at ts31); simp [bufOk, takB, inB]; omega)
   exact then_n ⟨_, by omega, k1 + 1, rfl, by omega, all_succ hallk1 e28x hstep, (Env.pick E (Env.pick E E.nil rfl) rfl), H⟩
  ·
   skip
   have hfullk1 := all_full hallk1 (by omega)
   refine wp_seq (wp_seq (wp_region_lit ?_))
   refine vm E rfl rfl fun a E => vm E rfl rfl fun a E => wv E rfl (r_nil (E.tmp rfl)) fun a E => wv E rfl (r_fa (o' := o + 2) (E.tmp rfl) fo_30_2_6 rfl) fun a E => wv E rfl (r_load (E.tmp rfl) ag_24_6 (r1k2.get H)) fun a E => ?_
   refine wv E rfl (r_len (E.tmp rfl) el_24_6) (fun a E => ?_)
   refine wv E rfl (r_bin (E.tmp rfl) (E.tmp rfl) (b_lss (b := false) (by simp; omega))) fun a E => ?_
   refine wpList_nil (then_n ?_)
   refine cond_f E rfl rfl ?_
   refine wp_exit (then_e (then_e (inb_ee (then_n (wp_seq (wp_seq (wp_region_lit ?_)))))))
   refine wv E rfl (r_assign (ev_c _)) fun a E => ?_
   refine wpList_nil (then_n (wp_block ?_))
   refine wp_loop_ghost (fun m a w => ∃ (k : Nat), m = x.actors.length - k ∧ k ≤ x.actors.length ∧ allTo k (actF x.actors) = true ∧ Env 161 a [(0, .pointer (some ⟨b, o, none⟩)), (5, .int .i64 (((k : Nat) : Int)))] ∧ Tr.Inv w0 [] w []) _ ⟨0, rfl, Nat.zero_le _, rfl, (Env.pick E (Env.pick E E.nil rfl) rfl), H⟩ ?_
   rintro _ a w ⟨k, rfl, hk, hallA, E, H⟩
   by_cases hlt : k < x.actors.length
   ·
    skip
    revert E
    revert H
    obtain ⟨e32b, e32o, e32y, rfl, e32x, e32q⟩ := Ro1.elem (f := GDequeActor.enc) GDequeActor.enc_len r1t3 rfl hlt
    intro H E
    have r33p0 : RoP w0 [] e32b (e32o + k * 5) [.sl e32y.todo.length (e32y.todo.flatMap intE), .v (.int .i64 (e32y.pc)), .v (.int .i64 (e32y.t)), .v (.int .i64 (e32y.b)), .v (.int .i64 (e32y.x))] := e32q
    obtain ⟨r33A0, r33c0, r33k0, r33t0, r33n0, r33p1⟩ := RoP.sl r33p0
    clear r33p0
    obtain ⟨r33k1, r33p2⟩ := RoP.vv r33p1
    clear r33p1
    obtain ⟨r33k2, r33p3⟩ := RoP.vv r33p2
    clear r33p2
    obtain ⟨r33k3, r33p4⟩ := RoP.vv r33p3
    clear r33p3
    obtain ⟨r33k4, r33p5⟩ := RoP.vv r33p4
    clear r33p4
    clear r33p5
    refine wp_seq (wp_seq (wp_region_lit ?_))
    refine vm E rfl rfl fun a E => vm E rfl rfl fun a E => wv E rfl (r_nil (E.tmp rfl)) fun a E => wv E rfl (r_fa (o' := o + 3) (E.tmp rfl) fo_30_3_6 rfl) fun a E => wv E rfl (r_load (E.tmp rfl) ag_27_6 (r1k3.get H)) fun a E => ?_
    refine wv E rfl (r_len (E.tmp rfl) el_27_6) (fun a E => ?_)
    refine wv E rfl (r_bin (E.tmp rfl) (E.tmp rfl) (b_lss (b := true) (by simp; exact hlt))) fun a E => ?_
    refine wpList_nil (then_n ?_)
    refine cond_t E rfl rfl ?_
    refine wp_skip (then_n (wp_seq (wp_block (wp_seq (wp_region_lit ?_)))))
    refine vm E rfl rfl fun a E => wv E rfl (r_nil (E.tmp rfl)) fun a E => wv E rfl (r_fa (o' := o + 3) (E.tmp rfl) fo_30_3_6 rfl) fun a E => wv E rfl (r_load (E.tmp rfl) ag_27_6 (r1k3.get H)) fun a E => vm E rfl rfl fun a E => ?_
    refine wv E rfl (r_ia (k := k) (o' := e32o + k * 5) (E.tmp rfl) (E.tmp rfl) rfl el_27_6 (by omega) rfl) fun a E => vm E rfl rfl fun a E => wv E rfl (r_bin (E.tmp rfl) (ev_c _) (b_eql (b := ((k : Nat) : Int) == 0) rfl)) fun a E => ?_
    refine w_quiet (v := .bool (actorB e32y (((k : Nat) : Int) == 0))) E rfl (ev_cons (E.tmp rfl) (ev_cons (E.tmp rfl) (ev_nil))) ok_206_6 (l23Actor_q e32y (((k : Nat) : Int) == 0) e32b (e32o + k * 5) w (e32q.at_ H (F := []) (by simp))) H (fun a w E H => ?_)
    refine wv E rfl (r_not (c := !(actorB e32y (((k : Nat) : Int) == 0))) (E.tmp rfl) rfl) fun a E => ?_
    refine wpList_nil (then_n ?_)
    rcases bcase (actorB e32y (((k : Nat) : Int) == 0)) with ts34 | ts34
    ·
     refine cond_t E rfl (by rw [ts34]; rfl) ?_
     refine wp_seq (wp_region_lit ?_)
     refine wv E rfl (r_assign (ev_c _)) fun a E => ?_
     refine wpList_nil (then_n (wp_ret (inb_r (then_r (then_r (inb_r (then_r ?_)))))))
     refine post1 E rfl (out_t E rfl) ?_
     have hbadA : allTo x.actors.length (actF x.actors) = false := allTo_f hlt (by simp only [actF, e32x, ts34])
     have hE : false = okB x := by first | rfl | (simp only [okB, ts16, ts19, ts22, ts25, ts26, ts27, hfullk1, ts34, hbadA, B1, B2, B3, B4, B5, B6, B7, B8, B9, B10, B11, B12, B13, B14]; done) | (simp only [okB, ts16, ts19, ts22, ts25, ts26, ts27, hfullk1, ts34, hbadA, B1, B2, B3, B4, B5, B6, B7, B8, B9, B10, B11, B12, B13, B14]; rfl) | (simp [okB, ts16, ts19, ts22, ts25, ts26, ts27, hfullk1, ts34, hbadA, B1, B2, B3, B4, B5, B6, B7, B8, B9, B10, B11, B12, B13, B14]; done) | ((try simp [okB, inB] at ts16); (try simp [okB, inB] at ts19); (try simp [okB, inB] at ts22); (try simp [okB, inB] at ts25); (try simp [okB, inB] at ts26); (try simp [okB, inB] at ts27); (try simp [okB, inB] at hfullk1); (try simp [okB, inB] at ts34); (try simp [okB, inB] at hbadA); simp [okB, inB]; omega)
     exact rb hE H
    refine cond_f E rfl (by rw [ts34]; rfl) ?_
    refine wp_skip (inb_n (then_n (wp_region_lit ?_)))
    refine vm E rfl rfl fun a E => wv E rfl (r_bin (E.tmp rfl) (ev_c _) (b_add (wrap_succ (by omega)))) fun a E => va E rfl rfl fun a E => ?_
    refine wpList_nil ?_
    have hF : actF x.actors k = true := by simp only [actF, e32x, ts34]
    exact then_n ⟨_, by omega, k + 1, rfl, by omega, allTo_succ hallA hF, (Env.pick E (Env.pick E E.nil rfl) rfl), H⟩
   ·
    skip
    have hkn : k = x.actors.length := by omega
    have hacts : allTo x.actors.length (actF x.actors) = true := by rw [← hkn]; exact hallA
    refine wp_seq (wp_seq (wp_region_lit ?_))
    refine vm E rfl rfl fun a E => vm E rfl rfl fun a E => wv E rfl (r_nil (E.tmp rfl)) fun a E => wv E rfl (r_fa (o' := o + 3) (E.tmp rfl) fo_30_3_6 rfl) fun a E => wv E rfl (r_load (E.tmp rfl) ag_27_6 (r1k3.get H)) fun a E => ?_
    refine wv E rfl (r_len (E.tmp rfl) el_27_6) (fun a E => ?_)
    refine wv E rfl (r_bin (E.tmp rfl) (E.tmp rfl) (b_lss (b := false) (by simp; omega))) fun a E => ?_
    refine wpList_nil (then_n ?_)
    refine cond_f E rfl rfl ?_
    refine wp_exit (then_e (then_e (inb_ee (then_n (wp_seq (wp_seq (wp_region_lit ?_)))))))
    refine wv E rfl (r_assign (ev_c _)) fun a E => ?_
    refine wpList_nil (then_n (wp_block ?_))
    refine wp_loop_ghost (fun m a w => ∃ (k3 : Nat), m = x.taken.length - k3 ∧ k3 ≤ x.taken.length ∧ (x.taken.take k3).all (takB x.actors.length) = true ∧ Env 161 a [(0, .pointer (some ⟨b, o, none⟩)), (6, .int .i64 (((k3 : Nat) : Int)))] ∧ Tr.Inv w0 [] w []) _ ⟨0, rfl, Nat.zero_le _, rfl, (Env.pick E (Env.pick E E.nil rfl) rfl), H⟩ ?_
    rintro _ a w ⟨k3, rfl, hkk3, hallk3, E, H⟩
    by_cases hltk3 : k3 < x.taken.length
    ·
     skip
     revert E
     revert H
     obtain ⟨e35b, e35o, e35y, rfl, e35x, e35q⟩ := Ro1.elem (f := GHanded.enc) GHanded.enc_len r1t4 rfl hltk3
     intro H E
     have r36p0 : RoP w0 [] e35b (e35o + k3 * 2) [.v (.int .i64 (e35y.actor)), .v (.int .i64 (e35y.value))] := e35q
     obtain ⟨r36k0, r36p1⟩ := RoP.vv r36p0
     clear r36p0
     obtain ⟨r36k1, r36p2⟩ := RoP.vv r36p1
     clear r36p1
     clear r36p2
     refine wp_seq (wp_seq (wp_region_lit ?_))
     refine vm E rfl rfl fun a E => vm E rfl rfl fun a E => wv E rfl (r_nil (E.tmp rfl)) fun a E => wv E rfl (r_fa (o' := o + 4) (E.tmp rfl) fo_30_4_6 rfl) fun a E => wv E rfl (r_load (E.tmp rfl) ag_28_6 (r1k4.get H)) fun a E => ?_
     refine wv E rfl (r_len (E.tmp rfl) el_28_6) (fun a E => ?_)
     refine wv E rfl (r_bin (E.tmp rfl) (E.tmp rfl) (b_lss (b := true) (by simp; exact hltk3))) fun a E => ?_
     refine wpList_nil (then_n ?_)
     refine cond_t E rfl rfl ?_
     refine wp_skip (then_n (wp_seq (wp_block (wp_seq ?_))))
     rcases bcase (inB e35y.actor 0 (IntKind.i64.wrap (((x.actors.length : Nat) : Int) - 1))) with ts37 | ts37
     ·
      let fl17 : Flow := ⟨[.c (.pointer (some ⟨b, o, none⟩)), .c (.pointer (some ⟨b, o, none⟩)), .c (.pointer (some ⟨b, o + 4, none⟩)), .c (.slice (some ⟨e35b, e35o, none⟩) x.taken.length r1c4), .c (.int .i64 (((k3 : Nat) : Int))), .c (.pointer (some ⟨e35b, e35o + k3 * 2, none⟩)), .c (.pointer (some ⟨e35b, e35o + k3 * 2, none⟩)), .c (.int .i64 (e35y.actor)), .c (.pointer (some ⟨b, o, none⟩)), .c (.pointer (some ⟨b, o, none⟩)), .c (.pointer (some ⟨b, o + 3, none⟩)), .c (.slice r1A3 x.actors.length r1c3), .c (.int .i64 (((x.actors.length : Nat) : Int))), .c (.int .i64 (IntKind.i64.wrap (((x.actors.length : Nat) : Int) - 1))), .c (.bool (inB e35y.actor 0 (IntKind.i64.wrap (((x.actors.length : Nat) : Int) - 1)))), .c (.bool (!(inB e35y.actor 0 (IntKind.i64.wrap (((x.actors.length : Nat) : Int) - 1))))), .c (.bool (!(inB e35y.actor 0 (IntKind.i64.wrap (((x.actors.length : Nat) : Int) - 1))))), .c (undef), .c (undef), .c (undef), .c (undef), .c (undef), .c (undef), .c (undef), .c (undef), .c (undef), .c (undef), .c (.bool (true))], [], [[], [0], [0, 1], [0, 1, 2], [], [0, 1, 2, 3, 4], [0, 1, 2, 3, 4, 5], [0, 1, 2, 3, 4, 5, 6], [], [8], [8, 9], [8, 9, 10], [8, 9, 10, 11], [8, 9, 10, 11, 12], [0, 1, 2, 3, 4, 5, 6, 7, 8, 9, 10, 11, 12, 13], [0, 1, 2, 3, 4, 5, 6, 7, 8, 9, 10, 11, 12, 13, 14], [0, 1, 2, 3, 4, 5, 6, 7, 8, 9, 10, 11, 12, 13, 14, 15], [0, 1, 2, 3, 4, 5, 6, 7, 8, 9, 10, 11, 12, 13, 14, 15, 16], [0, 1, 2, 3, 4, 5, 6, 7, 8, 9, 10, 11, 12, 13, 14, 15, 16, 17], [0, 1, 2, 3, 4, 5, 6, 7, 8, 9, 10, 11, 12, 13, 14, 15, 16, 17, 18], [0, 1, 2, 3, 4, 5, 6, 7, 8, 9, 10, 11, 12, 13, 14, 15, 16, 17, 18, 19], [0, 1, 2, 3, 4, 5, 6, 7, 8, 9, 10, 11, 12, 13, 14, 15, 16], [0, 1, 2, 3, 4, 5, 6, 7, 8, 9, 10, 11, 12, 13, 14, 15, 16, 17, 18, 19, 20, 21], [0, 1, 2, 3, 4, 5, 6, 7, 8, 9, 10, 11, 12, 13, 14, 15, 16, 17, 18, 19, 20, 21, 22], [0, 1, 2, 3, 4, 5, 6, 7, 8, 9, 10, 11, 12, 13, 14, 15, 16, 17, 18, 19, 20, 21, 22, 23], [0, 1, 2, 3, 4, 5, 6, 7, 8, 9, 10, 11, 12, 13, 14, 15, 16, 17, 18, 19, 20, 21, 22, 23, 24], [0, 1, 2, 3, 4, 5, 6, 7, 8, 9, 10, 11, 12, 13, 14, 15, 16, 17, 18, 19, 20, 21, 22, 23, 24, 25], [0, 1, 2, 3, 4, 5, 6, 7, 8, 9, 10, 11, 12, 13, 14, 15, 16, 17, 18, 19, 20, 21, 22, 23, 24, 25, 26]]⟩
      have E : Env 161 a [(0, .pointer (some ⟨b, o, none⟩)), (6, .int .i64 (((k3 : Nat) : Int))), (104, .int .i64 (((k3 : Nat) : Int))), (105, .pointer (some ⟨b, o, none⟩)), (106, .pointer (some ⟨b, o, none⟩)), (107, .pointer (some ⟨b, o + 4, none⟩)), (108, .slice (some ⟨e35b, e35o, none⟩) x.taken.length r1c4), (109, .int .i64 (((x.taken.length : Nat) : Int))), (110, .bool (true))] := (Env.pick E (Env.pick E (Env.pick E (Env.pick E (Env.pick E (Env.pick E (Env.pick E (Env.pick E (Env.pick E E.nil rfl) rfl) rfl) rfl) rfl) rfl) rfl) rfl) rfl)
      refine wp_flow (rs := []) rfl fl17 E (by rw [List.append_nil]; exact H) 28 rfl (by kernel_rfl) ?_ ?_
      ·
       refine AllTo.snoc (AllTo.snoc (AllTo.snoc (AllTo.snoc (AllTo.snoc (AllTo.snoc (AllTo.snoc (AllTo.snoc (AllTo.snoc (AllTo.snoc (AllTo.snoc (AllTo.snoc (AllTo.snoc (AllTo.snoc (AllTo.snoc (AllTo.snoc (AllTo.snoc (AllTo.snoc (AllTo.snoc (AllTo.snoc (AllTo.snoc (AllTo.snoc (AllTo.snoc (AllTo.snoc (AllTo.snoc (AllTo.snoc (AllTo.snoc (AllTo.snoc (AllTo.zero _) ?_) ?_) ?_) ?_) ?_) ?_) ?_) ?_) ?_) ?_) ?_) ?_) ?_) ?_) ?_) ?_) ?_) ?_) ?_) ?_) ?_) ?_) ?_) ?_) ?_) ?_) ?_) ?_
       ·
        refine ⟨_, _, _, rfl, rfl, rfl, fun ν a w rs E hk ht H => ?_⟩
        exact Gives.val rfl (r_move (E.tmp rfl)) ⟨trivial, rfl, H⟩
       ·
        refine ⟨_, _, _, rfl, rfl, rfl, fun ν a w rs E hk ht H => ?_⟩
        have E := Env.add (v := .pointer (some ⟨b, o, none⟩)) E (ht 0 (by decide) _ _ 113 rfl rfl rfl)
        exact Gives.val rfl (r_nil (E.tmp rfl)) ⟨trivial, rfl, H⟩
       ·
        refine ⟨_, _, _, rfl, rfl, rfl, fun ν a w rs E hk ht H => ?_⟩
        have E := Env.add (v := .pointer (some ⟨b, o, none⟩)) E (ht 1 (by decide) _ _ 114 rfl rfl rfl)
        exact Gives.val rfl (r_fa (o' := o + 4) (E.tmp rfl) fo_30_4_6 rfl) ⟨trivial, rfl, H⟩
       ·
        refine ⟨_, _, _, rfl, rfl, rfl, fun ν a w rs E hk ht H => ?_⟩
        have E := Env.add (v := .pointer (some ⟨b, o + 4, none⟩)) E (ht 2 (by decide) _ _ 115 rfl rfl rfl)
        have H : Tr.Inv w0 [] w ([] ++ ([] ++ rs)) := H
        exact Gives.val rfl (r_load (E.tmp rfl) ag_28_6 (r1k4.get H)) ⟨trivial, rfl, H⟩
       ·
        refine ⟨_, _, _, rfl, rfl, rfl, fun ν a w rs E hk ht H => ?_⟩
        exact Gives.val rfl (r_move (E.tmp rfl)) ⟨trivial, rfl, H⟩
       ·
        refine ⟨_, _, _, rfl, rfl, rfl, fun ν a w rs E hk ht H => ?_⟩
        have E := Env.add (v := .slice (some ⟨e35b, e35o, none⟩) x.taken.length r1c4) E (ht 3 (by decide) _ _ 116 rfl rfl rfl)
        have E := Env.add (v := .int .i64 (((k3 : Nat) : Int))) E (ht 4 (by decide) _ _ 117 rfl rfl rfl)
        exact Gives.val rfl (r_ia (k := k3) (o' := e35o + k3 * 2) (E.tmp rfl) (E.tmp rfl) rfl el_28_6 (by omega) rfl) ⟨trivial, rfl, H⟩
       ·
        refine ⟨_, _, _, rfl, rfl, rfl, fun ν a w rs E hk ht H => ?_⟩
        have E := Env.add (v := .pointer (some ⟨e35b, e35o + k3 * 2, none⟩)) E (ht 5 (by decide) _ _ 118 rfl rfl rfl)
        exact Gives.val rfl (r_fa (o' := e35o + k3 * 2) (E.tmp rfl) fo_36_0_6 rfl) ⟨trivial, rfl, H⟩
       ·
        refine ⟨_, _, _, rfl, rfl, rfl, fun ν a w rs E hk ht H => ?_⟩
        have E := Env.add (v := .pointer (some ⟨e35b, e35o + k3 * 2, none⟩)) E (ht 6 (by decide) _ _ 119 rfl rfl rfl)
        have H : Tr.Inv w0 [] w ([] ++ ([] ++ rs)) := H
        exact Gives.val rfl (r_load (E.tmp rfl) ag_2_6 (r36k0.get H)) ⟨trivial, rfl, H⟩
       ·
        refine ⟨_, _, _, rfl, rfl, rfl, fun ν a w rs E hk ht H => ?_⟩
        exact Gives.val rfl (r_move (E.tmp rfl)) ⟨trivial, rfl, H⟩
       ·
        refine ⟨_, _, _, rfl, rfl, rfl, fun ν a w rs E hk ht H => ?_⟩
        have E := Env.add (v := .pointer (some ⟨b, o, none⟩)) E (ht 8 (by decide) _ _ 121 rfl rfl rfl)
        exact Gives.val rfl (r_nil (E.tmp rfl)) ⟨trivial, rfl, H⟩
       ·
        refine ⟨_, _, _, rfl, rfl, rfl, fun ν a w rs E hk ht H => ?_⟩
        have E := Env.add (v := .pointer (some ⟨b, o, none⟩)) E (ht 9 (by decide) _ _ 122 rfl rfl rfl)
        exact Gives.val rfl (r_fa (o' := o + 3) (E.tmp rfl) fo_30_3_6 rfl) ⟨trivial, rfl, H⟩
       ·
        refine ⟨_, _, _, rfl, rfl, rfl, fun ν a w rs E hk ht H => ?_⟩
        have E := Env.add (v := .pointer (some ⟨b, o + 3, none⟩)) E (ht 10 (by decide) _ _ 123 rfl rfl rfl)
        have H : Tr.Inv w0 [] w ([] ++ ([] ++ rs)) := H
        exact Gives.val rfl (r_load (E.tmp rfl) ag_27_6 (r1k3.get H)) ⟨trivial, rfl, H⟩
       ·
        refine ⟨_, _, _, rfl, rfl, rfl, fun ν a w rs E hk ht H => ?_⟩
        have E := Env.add (v := .slice r1A3 x.actors.length r1c3) E (ht 11 (by decide) _ _ 124 rfl rfl rfl)
        exact Gives.val rfl (r_len (E.tmp rfl) el_27_6) ⟨trivial, rfl, H⟩
       ·
        refine ⟨_, _, _, rfl, rfl, rfl, fun ν a w rs E hk ht H => ?_⟩
        have E := Env.add (v := .int .i64 (((x.actors.length : Nat) : Int))) E (ht 12 (by decide) _ _ 125 rfl rfl rfl)
        exact Gives.val rfl (r_bin (E.tmp rfl) (ev_c _) (b_sub rfl)) ⟨trivial, rfl, H⟩
       ·
        refine ⟨_, _, _, rfl, rfl, rfl, fun ν a w rs E hk ht H => ?_⟩
        have E := Env.add (v := .int .i64 (e35y.actor)) E (ht 7 (by decide) _ _ 120 rfl rfl rfl)
        have E := Env.add (v := .int .i64 (IntKind.i64.wrap (((x.actors.length : Nat) : Int) - 1))) E (ht 13 (by decide) _ _ 126 rfl rfl rfl)
        have H : Tr.Inv w0 [] w ([] ++ ([] ++ rs)) := H
        exact Gives.call (R := (fun e w' => e = .returned (.bool (inB e35y.actor 0 (IntKind.i64.wrap (((x.actors.length : Nat) : Int) - 1)))) ∧ Ext w w')) rfl (r_call (ev_cons (E.tmp rfl) (ev_cons (ev_c _) (ev_cons (E.tmp rfl) (ev_nil)))) ok_122_6) (l00In_q e35y.actor 0 (IntKind.i64.wrap (((x.actors.length : Nat) : Int) - 1)) w) fun e w2 ⟨he, hb⟩ => ⟨_, he, trivial, rfl, H.ext hb⟩
       ·
        refine ⟨_, _, _, rfl, rfl, rfl, fun ν a w rs E hk ht H => ?_⟩
        have E := Env.add (v := .bool (inB e35y.actor 0 (IntKind.i64.wrap (((x.actors.length : Nat) : Int) - 1)))) E (ht 14 (by decide) _ _ 127 rfl rfl rfl)
        exact Gives.val rfl (r_not (c := !(inB e35y.actor 0 (IntKind.i64.wrap (((x.actors.length : Nat) : Int) - 1)))) (E.tmp rfl) rfl) ⟨trivial, rfl, H⟩
       ·
        refine ⟨_, _, _, rfl, rfl, rfl, fun ν a w rs E hk ht H => ?_⟩
        have E := Env.add (v := .bool (!(inB e35y.actor 0 (IntKind.i64.wrap (((x.actors.length : Nat) : Int) - 1))))) E (ht 15 (by decide) _ _ 128 rfl rfl rfl)
        exact Gives.val rfl (r_move (E.tmp rfl)) ⟨trivial, rfl, H⟩
       ·
        refine ⟨_, _, _, rfl, rfl, rfl, fun ν a w rs E hk ht H => ?_⟩
        have E := Env.add (v := .bool (!(inB e35y.actor 0 (IntKind.i64.wrap (((x.actors.length : Nat) : Int) - 1))))) E (ht 16 (by decide) _ _ 129 rfl rfl rfl)
        exact Gives.no (wantn (yld E (by rfl : _ = some _) rfl (by rfl : List.lookup _ _ = some (.bool (!(inB e35y.actor 0 (IntKind.i64.wrap (((x.actors.length : Nat) : Int) - 1)))) : Value))) (bnq (c := true) (by rw [ts37]; rfl) rfl)) ⟨trivial, rfl, H⟩
       ·
        refine ⟨_, _, _, rfl, rfl, rfl, fun ν a w rs E hk ht H => ?_⟩
        have E := Env.add (v := .bool (!(inB e35y.actor 0 (IntKind.i64.wrap (((x.actors.length : Nat) : Int) - 1))))) E (ht 16 (by decide) _ _ 129 rfl rfl rfl)
        exact Gives.no (wantn (yld E (by rfl : _ = some _) rfl (by rfl : List.lookup _ _ = some (.bool (!(inB e35y.actor 0 (IntKind.i64.wrap (((x.actors.length : Nat) : Int) - 1)))) : Value))) (bnq (c := true) (by rw [ts37]; rfl) rfl)) ⟨trivial, rfl, H⟩
       ·
        refine ⟨_, _, _, rfl, rfl, rfl, fun ν a w rs E hk ht H => ?_⟩
        have E := Env.add (v := .bool (!(inB e35y.actor 0 (IntKind.i64.wrap (((x.actors.length : Nat) : Int) - 1))))) E (ht 16 (by decide) _ _ 129 rfl rfl rfl)
        exact Gives.no (wantn (yld E (by rfl : _ = some _) rfl (by rfl : List.lookup _ _ = some (.bool (!(inB e35y.actor 0 (IntKind.i64.wrap (((x.actors.length : Nat) : Int) - 1)))) : Value))) (bnq (c := true) (by rw [ts37]; rfl) rfl)) ⟨trivial, rfl, H⟩
       ·
        refine ⟨_, _, _, rfl, rfl, rfl, fun ν a w rs E hk ht H => ?_⟩
        have E := Env.add (v := .bool (!(inB e35y.actor 0 (IntKind.i64.wrap (((x.actors.length : Nat) : Int) - 1))))) E (ht 16 (by decide) _ _ 129 rfl rfl rfl)
        exact Gives.no (wantn (yld E (by rfl : _ = some _) rfl (by rfl : List.lookup _ _ = some (.bool (!(inB e35y.actor 0 (IntKind.i64.wrap (((x.actors.length : Nat) : Int) - 1)))) : Value))) (bnq (c := true) (by rw [ts37]; rfl) rfl)) ⟨trivial, rfl, H⟩
       ·
        refine ⟨_, _, _, rfl, rfl, rfl, fun ν a w rs E hk ht H => ?_⟩
        have E := Env.add (v := .bool (!(inB e35y.actor 0 (IntKind.i64.wrap (((x.actors.length : Nat) : Int) - 1))))) E (ht 16 (by decide) _ _ 129 rfl rfl rfl)
        exact Gives.no (wantn (yld E (by rfl : _ = some _) rfl (by rfl : List.lookup _ _ = some (.bool (!(inB e35y.actor 0 (IntKind.i64.wrap (((x.actors.length : Nat) : Int) - 1)))) : Value))) (bnq (c := true) (by rw [ts37]; rfl) rfl)) ⟨trivial, rfl, H⟩
       ·
        refine ⟨_, _, _, rfl, rfl, rfl, fun ν a w rs E hk ht H => ?_⟩
        have E := Env.add (v := .bool (!(inB e35y.actor 0 (IntKind.i64.wrap (((x.actors.length : Nat) : Int) - 1))))) E (ht 16 (by decide) _ _ 129 rfl rfl rfl)
        exact Gives.no (wantn (yld E (by rfl : _ = some _) rfl (by rfl : List.lookup _ _ = some (.bool (!(inB e35y.actor 0 (IntKind.i64.wrap (((x.actors.length : Nat) : Int) - 1)))) : Value))) (bnq (c := true) (by rw [ts37]; rfl) rfl)) ⟨trivial, rfl, H⟩
       ·
        refine ⟨_, _, _, rfl, rfl, rfl, fun ν a w rs E hk ht H => ?_⟩
        have E := Env.add (v := .bool (!(inB e35y.actor 0 (IntKind.i64.wrap (((x.actors.length : Nat) : Int) - 1))))) E (ht 16 (by decide) _ _ 129 rfl rfl rfl)
        exact Gives.no (wantn (yld E (by rfl : _ = some _) rfl (by rfl : List.lookup _ _ = some (.bool (!(inB e35y.actor 0 (IntKind.i64.wrap (((x.actors.length : Nat) : Int) - 1)))) : Value))) (bnq (c := true) (by rw [ts37]; rfl) rfl)) ⟨trivial, rfl, H⟩
       ·
        refine ⟨_, _, _, rfl, rfl, rfl, fun ν a w rs E hk ht H => ?_⟩
        have E := Env.add (v := .bool (!(inB e35y.actor 0 (IntKind.i64.wrap (((x.actors.length : Nat) : Int) - 1))))) E (ht 16 (by decide) _ _ 129 rfl rfl rfl)
        exact Gives.no (wantn (yld E (by rfl : _ = some _) rfl (by rfl : List.lookup _ _ = some (.bool (!(inB e35y.actor 0 (IntKind.i64.wrap (((x.actors.length : Nat) : Int) - 1)))) : Value))) (bnq (c := true) (by rw [ts37]; rfl) rfl)) ⟨trivial, rfl, H⟩
       ·
        refine ⟨_, _, _, rfl, rfl, rfl, fun ν a w rs E hk ht H => ?_⟩
        have E := Env.add (v := .bool (!(inB e35y.actor 0 (IntKind.i64.wrap (((x.actors.length : Nat) : Int) - 1))))) E (ht 16 (by decide) _ _ 129 rfl rfl rfl)
        exact Gives.no (wantn (yld E (by rfl : _ = some _) rfl (by rfl : List.lookup _ _ = some (.bool (!(inB e35y.actor 0 (IntKind.i64.wrap (((x.actors.length : Nat) : Int) - 1)))) : Value))) (bnq (c := true) (by rw [ts37]; rfl) rfl)) ⟨trivial, rfl, H⟩
       ·
        refine ⟨_, _, _, rfl, rfl, rfl, fun ν a w rs E hk ht H => ?_⟩
        have E := Env.add (v := .bool (!(inB e35y.actor 0 (IntKind.i64.wrap (((x.actors.length : Nat) : Int) - 1))))) E (ht 16 (by decide) _ _ 129 rfl rfl rfl)
        exact Gives.no (wantn (yld E (by rfl : _ = some _) rfl (by rfl : List.lookup _ _ = some (.bool (!(inB e35y.actor 0 (IntKind.i64.wrap (((x.actors.length : Nat) : Int) - 1)))) : Value))) (bnq (c := true) (by rw [ts37]; rfl) rfl)) ⟨trivial, rfl, H⟩
       ·
        refine ⟨_, _, _, rfl, rfl, rfl, fun ν a w rs E hk ht H => ?_⟩
        have E := Env.add (v := .bool (!(inB e35y.actor 0 (IntKind.i64.wrap (((x.actors.length : Nat) : Int) - 1))))) E (ht 16 (by decide) _ _ 129 rfl rfl rfl)
        have E := Env.add (v := undef) E (ht 26 (by decide) _ _ 139 rfl rfl rfl)
        exact Gives.val rfl (r_pick_t ((E.tmp rfl).trans (congrArg Value.bool (by rw [ts37]; rfl))) (ev_c _)) ⟨trivial, rfl, H⟩
      ·
       refine fun ν a w E hk ht H => ?_
       have E := Env.add E (show a.tmps[113]? = some (.pointer (some ⟨b, o, none⟩)) from ht 0 _ _ 113 rfl rfl rfl)
       have E := Env.add E (show a.tmps[114]? = some (.pointer (some ⟨b, o, none⟩)) from ht 1 _ _ 114 rfl rfl rfl)
       have E := Env.add E (show a.tmps[115]? = some (.pointer (some ⟨b, o + 4, none⟩)) from ht 2 _ _ 115 rfl rfl rfl)
       have E := Env.add E (show a.tmps[116]? = some (.slice (some ⟨e35b, e35o, none⟩) x.taken.length r1c4) from ht 3 _ _ 116 rfl rfl rfl)
       have E := Env.add E (show a.tmps[117]? = some (.int .i64 (((k3 : Nat) : Int))) from ht 4 _ _ 117 rfl rfl rfl)
       have E := Env.add E (show a.tmps[118]? = some (.pointer (some ⟨e35b, e35o + k3 * 2, none⟩)) from ht 5 _ _ 118 rfl rfl rfl)
       have E := Env.add E (show a.tmps[119]? = some (.pointer (some ⟨e35b, e35o + k3 * 2, none⟩)) from ht 6 _ _ 119 rfl rfl rfl)
       have E := Env.add E (show a.tmps[120]? = some (.int .i64 (e35y.actor)) from ht 7 _ _ 120 rfl rfl rfl)
       have E := Env.add E (show a.tmps[121]? = some (.pointer (some ⟨b, o, none⟩)) from ht 8 _ _ 121 rfl rfl rfl)
       have E := Env.add E (show a.tmps[122]? = some (.pointer (some ⟨b, o, none⟩)) from ht 9 _ _ 122 rfl rfl rfl)
       have E := Env.add E (show a.tmps[123]? = some (.pointer (some ⟨b, o + 3, none⟩)) from ht 10 _ _ 123 rfl rfl rfl)
       have E := Env.add E (show a.tmps[124]? = some (.slice r1A3 x.actors.length r1c3) from ht 11 _ _ 124 rfl rfl rfl)
       have E := Env.add E (show a.tmps[125]? = some (.int .i64 (((x.actors.length : Nat) : Int))) from ht 12 _ _ 125 rfl rfl rfl)
       have E := Env.add E (show a.tmps[126]? = some (.int .i64 (IntKind.i64.wrap (((x.actors.length : Nat) : Int) - 1))) from ht 13 _ _ 126 rfl rfl rfl)
       have E := Env.add E (show a.tmps[127]? = some (.bool (inB e35y.actor 0 (IntKind.i64.wrap (((x.actors.length : Nat) : Int) - 1)))) from ht 14 _ _ 127 rfl rfl rfl)
       have E := Env.add E (show a.tmps[128]? = some (.bool (!(inB e35y.actor 0 (IntKind.i64.wrap (((x.actors.length : Nat) : Int) - 1))))) from ht 15 _ _ 128 rfl rfl rfl)
       have E := Env.add E (show a.tmps[129]? = some (.bool (!(inB e35y.actor 0 (IntKind.i64.wrap (((x.actors.length : Nat) : Int) - 1))))) from ht 16 _ _ 129 rfl rfl rfl)
       have E := Env.add E (show a.tmps[130]? = some (undef) from ht 17 _ _ 130 rfl rfl rfl)
       have E := Env.add E (show a.tmps[131]? = some (undef) from ht 18 _ _ 131 rfl rfl rfl)
       have E := Env.add E (show a.tmps[132]? = some (undef) from ht 19 _ _ 132 rfl rfl rfl)
       have E := Env.add E (show a.tmps[133]? = some (undef) from ht 20 _ _ 133 rfl rfl rfl)
       have E := Env.add E (show a.tmps[134]? = some (undef) from ht 21 _ _ 134 rfl rfl rfl)
       have E := Env.add E (show a.tmps[135]? = some (undef) from ht 22 _ _ 135 rfl rfl rfl)
       have E := Env.add E (show a.tmps[136]? = some (undef) from ht 23 _ _ 136 rfl rfl rfl)
       have E := Env.add E (show a.tmps[137]? = some (undef) from ht 24 _ _ 137 rfl rfl rfl)
       have E := Env.add E (show a.tmps[138]? = some (undef) from ht 25 _ _ 138 rfl rfl rfl)
       have E := Env.add E (show a.tmps[139]? = some (undef) from ht 26 _ _ 139 rfl rfl rfl)
       have E := Env.add E (show a.tmps[140]? = some (.bool (true)) from ht 27 _ _ 140 rfl rfl rfl)
       have H : Tr.Inv w0 [] w [] := H
       have E : Env 161 a [(0, .pointer (some ⟨b, o, none⟩)), (6, .int .i64 (((k3 : Nat) : Int))), (104, .int .i64 (((k3 : Nat) : Int))), (105, .pointer (some ⟨b, o, none⟩)), (106, .pointer (some ⟨b, o, none⟩)), (107, .pointer (some ⟨b, o + 4, none⟩)), (108, .slice (some ⟨e35b, e35o, none⟩) x.taken.length r1c4), (109, .int .i64 (((x.taken.length : Nat) : Int))), (110, .bool (true)), (113, .pointer (some ⟨b, o, none⟩)), (114, .pointer (some ⟨b, o, none⟩)), (115, .pointer (some ⟨b, o + 4, none⟩)), (116, .slice (some ⟨e35b, e35o, none⟩) x.taken.length r1c4), (117, .int .i64 (((k3 : Nat) : Int))), (118, .pointer (some ⟨e35b, e35o + k3 * 2, none⟩)), (119, .pointer (some ⟨e35b, e35o + k3 * 2, none⟩)), (120, .int .i64 (e35y.actor)), (121, .pointer (some ⟨b, o, none⟩)), (122, .pointer (some ⟨b, o, none⟩)), (123, .pointer (some ⟨b, o + 3, none⟩)), (124, .slice r1A3 x.actors.length r1c3), (125, .int .i64 (((x.actors.length : Nat) : Int))), (126, .int .i64 (IntKind.i64.wrap (((x.actors.length : Nat) : Int) - 1))), (127, .bool (inB e35y.actor 0 (IntKind.i64.wrap (((x.actors.length : Nat) : Int) - 1)))), (128, .bool (!(inB e35y.actor 0 (IntKind.i64.wrap (((x.actors.length : Nat) : Int) - 1))))), (129, .bool (!(inB e35y.actor 0 (IntKind.i64.wrap (((x.actors.length : Nat) : Int) - 1))))), (130, undef), (131, undef), (132, undef), (133, undef), (134, undef), (135, undef), (136, undef), (137, undef), (138, undef), (139, undef), (140, .bool (true))] := (Env.pick E (Env.pick E (Env.pick E (Env.pick E (Env.pick E (Env.pick E (Env.pick E (Env.pick E (Env.pick E (Env.pick E (Env.pick E (Env.pick E (Env.pick E (Env.pick E (Env.pick E (Env.pick E (Env.pick E (Env.pick E (Env.pick E (Env.pick E (Env.pick E (Env.pick E (Env.pick E (Env.pick E (Env.pick E (Env.pick E (Env.pick E (Env.pick E (Env.pick E (Env.pick E (Env.pick E (Env.pick E (Env.pick E (Env.pick E (Env.pick E (Env.pick E (Env.pick E E.nil rfl) rfl) rfl) rfl) rfl) rfl) rfl) rfl) rfl) rfl) rfl) rfl) rfl) rfl) rfl) rfl) rfl) rfl) rfl) rfl) rfl) rfl) rfl) rfl) rfl) rfl) rfl) rfl) rfl) rfl) rfl) rfl) rfl) rfl) rfl) rfl) rfl)
       clear hk ht
       refine then_n ?_
       refine cond_t E rfl rfl ?_
       refine wp_seq (wp_region_lit ?_)
       refine wv E rfl (r_assign (ev_c _)) fun a E => ?_
       refine wpList_nil (then_n (wp_ret (inb_r (then_r (then_r (inb_r (then_r ?_)))))))
       refine post1 E rfl (out_t E rfl) ?_
       have hbad := all_bad (p := takB x.actors.length) e35x (by first | rfl | (simp only [bufOk, takB, ts16, ts19, ts22, ts25, ts26, ts27, hfullk1, hacts, ts37, B1, B2, B3, B4, B5, B6, B7, B8, B9, B10, B11, B12, B13, B14]; done) | (simp only [bufOk, takB, ts16, ts19, ts22, ts25, ts26, ts27, hfullk1, hacts, ts37, B1, B2, B3, B4, B5, B6, B7, B8, B9, B10, B11, B12, B13, B14]; rfl) | (simp [bufOk, takB, ts16, ts19, ts22, ts25, ts26, ts27, hfullk1, hacts, ts37, B1, B2, B3, B4, B5, B6, B7, B8, B9, B10, B11, B12, B13, B14]; done) | ((try simp [bufOk, takB, inB] at ts16); (try simp [bufOk, takB, inB] at ts19); (try simp [bufOk, takB, inB] at ts22); (try simp [bufOk, takB, inB] at ts25); (try simp [bufOk, takB, inB] at ts26); (try simp [bufOk, takB, inB] at ts27); (try simp [bufOk, takB, inB] at hfullk1); (try simp [bufOk, takB, inB] at hacts); (try simp [bufOk, takB, inB] at ts37); simp [bufOk, takB, inB]; omega))
       have hE : false = okB x := by first | rfl | (simp only [okB, ts16, ts19, ts22, ts25, ts26, ts27, hfullk1, hacts, ts37, hbad, B1, B2, B3, B4, B5, B6, B7, B8, B9, B10, B11, B12, B13, B14]; done) | (simp only [okB, ts16, ts19, ts22, ts25, ts26, ts27, hfullk1, hacts, ts37, hbad, B1, B2, B3, B4, B5, B6, B7, B8, B9, B10, B11, B12, B13, B14]; rfl) | (simp [okB, ts16, ts19, ts22, ts25, ts26, ts27, hfullk1, hacts, ts37, hbad, B1, B2, B3, B4, B5, B6, B7, B8, B9, B10, B11, B12, B13, B14]; done) | ((try simp [okB, inB] at ts16); (try simp [okB, inB] at ts19); (try simp [okB, inB] at ts22); (try simp [okB, inB] at ts25); (try simp [okB, inB] at ts26); (try simp [okB, inB] at ts27); (try simp [okB, inB] at hfullk1); (try simp [okB, inB] at hacts); (try simp [okB, inB] at ts37); (try simp [okB, inB] at hbad); simp [okB, inB]; omega)
       exact rb hE H
     let fl17 : Flow := ⟨[.c (.pointer (some ⟨b, o, none⟩)), .c (.pointer (some ⟨b, o, none⟩)), .c (.pointer (some ⟨b, o + 4, none⟩)), .c (.slice (some ⟨e35b, e35o, none⟩) x.taken.length r1c4), .c (.int .i64 (((k3 : Nat) : Int))), .c (.pointer (some ⟨e35b, e35o + k3 * 2, none⟩)), .c (.pointer (some ⟨e35b, e35o + k3 * 2, none⟩)), .c (.int .i64 (e35y.actor)), .c (.pointer (some ⟨b, o, none⟩)), .c (.pointer (some ⟨b, o, none⟩)), .c (.pointer (some ⟨b, o + 3, none⟩)), .c (.slice r1A3 x.actors.length r1c3), .c (.int .i64 (((x.actors.length : Nat) : Int))), .c (.int .i64 (IntKind.i64.wrap (((x.actors.length : Nat) : Int) - 1))), .c (.bool (inB e35y.actor 0 (IntKind.i64.wrap (((x.actors.length : Nat) : Int) - 1)))), .c (.bool (!(inB e35y.actor 0 (IntKind.i64.wrap (((x.actors.length : Nat) : Int) - 1))))), .c (.bool (!(inB e35y.actor 0 (IntKind.i64.wrap (((x.actors.length : Nat) : Int) - 1))))), .c (.pointer (some ⟨b, o, none⟩)), .c (.pointer (some ⟨b, o, none⟩)), .c (.pointer (some ⟨b, o + 4, none⟩)), .c (.slice (some ⟨e35b, e35o, none⟩) x.taken.length r1c4), .c (.int .i64 (((k3 : Nat) : Int))), .c (.pointer (some ⟨e35b, e35o + k3 * 2, none⟩)), .c (.pointer (some ⟨e35b, e35o + k3 * 2 + 1, none⟩)), .c (.int .i64 (e35y.value)), .c (.bool (inB e35y.value 0 1000)), .c (.bool (!(inB e35y.value 0 1000))), .c (.bool (!(inB e35y.value 0 1000)))], [], [[], [0], [0, 1], [0, 1, 2], [], [0, 1, 2, 3, 4], [0, 1, 2, 3, 4, 5], [0, 1, 2, 3, 4, 5, 6], [], [8], [8, 9], [8, 9, 10], [8, 9, 10, 11], [8, 9, 10, 11, 12], [0, 1, 2, 3, 4, 5, 6, 7, 8, 9, 10, 11, 12, 13], [0, 1, 2, 3, 4, 5, 6, 7, 8, 9, 10, 11, 12, 13, 14], [0, 1, 2, 3, 4, 5, 6, 7, 8, 9, 10, 11, 12, 13, 14, 15], [0, 1, 2, 3, 4, 5, 6, 7, 8, 9, 10, 11, 12, 13, 14, 15, 16], [0, 1, 2, 3, 4, 5, 6, 7, 8, 9, 10, 11, 12, 13, 14, 15, 16, 17], [0, 1, 2, 3, 4, 5, 6, 7, 8, 9, 10, 11, 12, 13, 14, 15, 16, 17, 18], [0, 1, 2, 3, 4, 5, 6, 7, 8, 9, 10, 11, 12, 13, 14, 15, 16, 17, 18, 19], [0, 1, 2, 3, 4, 5, 6, 7, 8, 9, 10, 11, 12, 13, 14, 15, 16], [0, 1, 2, 3, 4, 5, 6, 7, 8, 9, 10, 11, 12, 13, 14, 15, 16, 17, 18, 19, 20, 21], [0, 1, 2, 3, 4, 5, 6, 7, 8, 9, 10, 11, 12, 13, 14, 15, 16, 17, 18, 19, 20, 21, 22], [0, 1, 2, 3, 4, 5, 6, 7, 8, 9, 10, 11, 12, 13, 14, 15, 16, 17, 18, 19, 20, 21, 22, 23], [0, 1, 2, 3, 4, 5, 6, 7, 8, 9, 10, 11, 12, 13, 14, 15, 16, 17, 18, 19, 20, 21, 22, 23, 24], [0, 1, 2, 3, 4, 5, 6, 7, 8, 9, 10, 11, 12, 13, 14, 15, 16, 17, 18, 19, 20, 21, 22, 23, 24, 25], [0, 1, 2, 3, 4, 5, 6, 7, 8, 9, 10, 11, 12, 13, 14, 15, 16, 17, 18, 19, 20, 21, 22, 23, 24, 25, 26]]⟩
     have E : Env 161 a [(0, .pointer (some ⟨b, o, none⟩)), (6, .int .i64 (((k3 : Nat) : Int))), (104, .int .i64 (((k3 : Nat) : Int))), (105, .pointer (some ⟨b, o, none⟩)), (106, .pointer (some ⟨b, o, none⟩)), (107, .pointer (some ⟨b, o + 4, none⟩)), (108, .slice (some ⟨e35b, e35o, none⟩) x.taken.length r1c4), (109, .int .i64 (((x.taken.length : Nat) : Int))), (110, .bool (true))] := (Env.pick E (Env.pick E (Env.pick E (Env.pick E (Env.pick E (Env.pick E (Env.pick E (Env.pick E (Env.pick E E.nil rfl) rfl) rfl) rfl) rfl) rfl) rfl) rfl) rfl)
     refine wp_flow (rs := []) rfl fl17 E (by rw [List.append_nil]; exact H) 28 rfl (by kernel_rfl) ?_ ?_
     ·
      refine AllTo.snoc (AllTo.snoc (AllTo.snoc (AllTo.snoc (AllTo.snoc (AllTo.snoc (AllTo.snoc (AllTo.snoc (AllTo.snoc (AllTo.snoc (AllTo.snoc (AllTo.snoc (AllTo.snoc (AllTo.snoc (AllTo.snoc (AllTo.snoc (AllTo.snoc (AllTo.snoc (AllTo.snoc (AllTo.snoc (AllTo.snoc (AllTo.snoc (AllTo.snoc (AllTo.snoc (AllTo.snoc (AllTo.snoc (AllTo.snoc (AllTo.snoc (AllTo.zero _) ?_) ?_) ?_) ?_) ?_) ?_) ?_) ?_) ?_) ?_) ?_) ?_) ?_) ?_) ?_) ?_) ?_) ?_) ?_) ?_) ?_) ?_) ?_) ?_) ?_) ?_) ?_) ?_
      ·
       refine ⟨_, _, _, rfl, rfl, rfl, fun ν a w rs E hk ht H => ?_⟩
       exact Gives.val rfl (r_move (E.tmp rfl)) ⟨trivial, rfl, H⟩
      ·
       refine ⟨_, _, _, rfl, rfl, rfl, fun ν a w rs E hk ht H => ?_⟩
       have E := Env.add (v := .pointer (some ⟨b, o, none⟩)) E (ht 0 (by decide) _ _ 113 rfl rfl rfl)
       exact Gives.val rfl (r_nil (E.tmp rfl)) ⟨trivial, rfl, H⟩
      ·
       refine ⟨_, _, _, rfl, rfl, rfl, fun ν a w rs E hk ht H => ?_⟩
       have E := Env.add (v := .pointer (some ⟨b, o, none⟩)) E (ht 1 (by decide) _ _ 114 rfl rfl rfl)
       exact Gives.val rfl (r_fa (o' := o + 4) (E.tmp rfl) fo_30_4_6 rfl) ⟨trivial, rfl, H⟩
      ·
       refine ⟨_, _, _, rfl, rfl, rfl, fun ν a w rs E hk ht H => ?_⟩
       have E := Env.add (v := .pointer (some ⟨b, o + 4, none⟩)) E (ht 2 (by decide) _ _ 115 rfl rfl rfl)
       have H : Tr.Inv w0 [] w ([] ++ ([] ++ rs)) := H
       exact Gives.val rfl (r_load (E.tmp rfl) ag_28_6 (r1k4.get H)) ⟨trivial, rfl, H⟩
      ·
       refine ⟨_, _, _, rfl, rfl, rfl, fun ν a w rs E hk ht H => ?_⟩
       exact Gives.val rfl (r_move (E.tmp rfl)) ⟨trivial, rfl, H⟩
      ·
       refine ⟨_, _, _, rfl, rfl, rfl, fun ν a w rs E hk ht H => ?_⟩
       have E := Env.add (v := .slice (some ⟨e35b, e35o, none⟩) x.taken.length r1c4) E (ht 3 (by decide) _ _ 116 rfl rfl rfl)
       have E := Env.add (v := .int .i64 (((k3 : Nat) : Int))) E (ht 4 (by decide) _ _ 117 rfl rfl rfl)
       exact Gives.val rfl (r_ia (k := k3) (o' := e35o + k3 * 2) (E.tmp rfl) (E.tmp rfl) rfl el_28_6 (by omega) rfl) ⟨trivial, rfl, H⟩
      ·
       refine ⟨_, _, _, rfl, rfl, rfl, fun ν a w rs E hk ht H => ?_⟩
       have E := Env.add (v := .pointer (some ⟨e35b, e35o + k3 * 2, none⟩)) E (ht 5 (by decide) _ _ 118 rfl rfl rfl)
       exact Gives.val rfl (r_fa (o' := e35o + k3 * 2) (E.tmp rfl) fo_36_0_6 rfl) ⟨trivial, rfl, H⟩
      ·
       refine ⟨_, _, _, rfl, rfl, rfl, fun ν a w rs E hk ht H => ?_⟩
       have E := Env.add (v := .pointer (some ⟨e35b, e35o + k3 * 2, none⟩)) E (ht 6 (by decide) _ _ 119 rfl rfl rfl)
       have H : Tr.Inv w0 [] w ([] ++ ([] ++ rs)) := H
       exact Gives.val rfl (r_load (E.tmp rfl) ag_2_6 (r36k0.get H)) ⟨trivial, rfl, H⟩
      ·
       refine ⟨_, _, _, rfl, rfl, rfl, fun ν a w rs E hk ht H => ?_⟩
       exact Gives.val rfl (r_move (E.tmp rfl)) ⟨trivial, rfl, H⟩
      ·
       refine ⟨_, _, _, rfl, rfl, rfl, fun ν a w rs E hk ht H => ?_⟩
       have E := Env.add (v := .pointer (some ⟨b, o, none⟩)) E (ht 8 (by decide) _ _ 121 rfl rfl rfl)
       exact Gives.val rfl (r_nil (E.tmp rfl)) ⟨trivial, rfl, H⟩
      ·
       refine ⟨_, _, _, rfl, rfl, rfl, fun ν a w rs E hk ht H => ?_⟩
       have E := Env.add (v := .pointer (some ⟨b, o, none⟩)) E (ht 9 (by decide) _ _ 122 rfl rfl rfl)
       exact Gives.val rfl (r_fa (o' := o + 3) (E.tmp rfl) fo_30_3_6 rfl) ⟨trivial, rfl, H⟩
      ·
       refine ⟨_, _, _, rfl, rfl, rfl, fun ν a w rs E hk ht H => ?_⟩
       have E := Env.add (v := .pointer (some ⟨b, o + 3, none⟩)) E (ht 10 (by decide) _ _ 123 rfl rfl rfl)
       have H : Tr.Inv w0 [] w ([] ++ ([] ++ rs)) := H
       exact Gives.val rfl (r_load (E.tmp rfl) ag_27_6 (r1k3.get H)) ⟨trivial, rfl, H⟩
      ·
       refine ⟨_, _, _, rfl, rfl, rfl, fun ν a w rs E hk ht H => ?_⟩
       have E := Env.add (v := .slice r1A3 x.actors.length r1c3) E (ht 11 (by decide) _ _ 124 rfl rfl rfl)
       exact Gives.val rfl (r_len (E.tmp rfl) el_27_6) ⟨trivial, rfl, H⟩
      ·
       refine ⟨_, _, _, rfl, rfl, rfl, fun ν a w rs E hk ht H => ?_⟩
       have E := Env.add (v := .int .i64 (((x.actors.length : Nat) : Int))) E (ht 12 (by decide) _ _ 125 rfl rfl rfl)
       exact Gives.val rfl (r_bin (E.tmp rfl) (ev_c _) (b_sub rfl)) ⟨trivial, rfl, H⟩
      ·
       refine ⟨_, _, _, rfl, rfl, rfl, fun ν a w rs E hk ht H => ?_⟩
       have E := Env.add (v := .int .i64 (e35y.actor)) E (ht 7 (by decide) _ _ 120 rfl rfl rfl)
       have E := Env.add (v := .int .i64 (IntKind.i64.wrap (((x.actors.length : Nat) : Int) - 1))) E (ht 13 (by decide) _ _ 126 rfl rfl rfl)
       have H : Tr.Inv w0 [] w ([] ++ ([] ++ rs)) := H
       exact Gives.call (R := (fun e w' => e = .returned (.bool (inB e35y.actor 0 (IntKind.i64.wrap (((x.actors.length : Nat) : Int) - 1)))) ∧ Ext w w')) rfl (r_call (ev_cons (E.tmp rfl) (ev_cons (ev_c _) (ev_cons (E.tmp rfl) (ev_nil)))) ok_122_6) (l00In_q e35y.actor 0 (IntKind.i64.wrap (((x.actors.length : Nat) : Int) - 1)) w) fun e w2 ⟨he, hb⟩ => ⟨_, he, trivial, rfl, H.ext hb⟩
      ·
       refine ⟨_, _, _, rfl, rfl, rfl, fun ν a w rs E hk ht H => ?_⟩
       have E := Env.add (v := .bool (inB e35y.actor 0 (IntKind.i64.wrap (((x.actors.length : Nat) : Int) - 1)))) E (ht 14 (by decide) _ _ 127 rfl rfl rfl)
       exact Gives.val rfl (r_not (c := !(inB e35y.actor 0 (IntKind.i64.wrap (((x.actors.length : Nat) : Int) - 1)))) (E.tmp rfl) rfl) ⟨trivial, rfl, H⟩
      ·
       refine ⟨_, _, _, rfl, rfl, rfl, fun ν a w rs E hk ht H => ?_⟩
       have E := Env.add (v := .bool (!(inB e35y.actor 0 (IntKind.i64.wrap (((x.actors.length : Nat) : Int) - 1))))) E (ht 15 (by decide) _ _ 128 rfl rfl rfl)
       exact Gives.val rfl (r_move (E.tmp rfl)) ⟨trivial, rfl, H⟩
      ·
       refine ⟨_, _, _, rfl, rfl, rfl, fun ν a w rs E hk ht H => ?_⟩
       have E := Env.add (v := .bool (!(inB e35y.actor 0 (IntKind.i64.wrap (((x.actors.length : Nat) : Int) - 1))))) E (ht 16 (by decide) _ _ 129 rfl rfl rfl)
       exact Gives.val (wantg (yld E (by rfl : _ = some _) rfl (by rfl : List.lookup _ _ = some (.bool (!(inB e35y.actor 0 (IntKind.i64.wrap (((x.actors.length : Nat) : Int) - 1)))) : Value))) (by rw [ts37]; rfl)) (r_move (E.tmp rfl)) ⟨trivial, rfl, H⟩
      ·
       refine ⟨_, _, _, rfl, rfl, rfl, fun ν a w rs E hk ht H => ?_⟩
       have E := Env.add (v := .bool (!(inB e35y.actor 0 (IntKind.i64.wrap (((x.actors.length : Nat) : Int) - 1))))) E (ht 16 (by decide) _ _ 129 rfl rfl rfl)
       have E := Env.add (v := .pointer (some ⟨b, o, none⟩)) E (ht 17 (by decide) _ _ 130 rfl rfl rfl)
       exact Gives.val (wantg (yld E (by rfl : _ = some _) rfl (by rfl : List.lookup _ _ = some (.bool (!(inB e35y.actor 0 (IntKind.i64.wrap (((x.actors.length : Nat) : Int) - 1)))) : Value))) (by rw [ts37]; rfl)) (r_nil (E.tmp rfl)) ⟨trivial, rfl, H⟩
      ·
       refine ⟨_, _, _, rfl, rfl, rfl, fun ν a w rs E hk ht H => ?_⟩
       have E := Env.add (v := .bool (!(inB e35y.actor 0 (IntKind.i64.wrap (((x.actors.length : Nat) : Int) - 1))))) E (ht 16 (by decide) _ _ 129 rfl rfl rfl)
       have E := Env.add (v := .pointer (some ⟨b, o, none⟩)) E (ht 18 (by decide) _ _ 131 rfl rfl rfl)
       exact Gives.val (wantg (yld E (by rfl : _ = some _) rfl (by rfl : List.lookup _ _ = some (.bool (!(inB e35y.actor 0 (IntKind.i64.wrap (((x.actors.length : Nat) : Int) - 1)))) : Value))) (by rw [ts37]; rfl)) (r_fa (o' := o + 4) (E.tmp rfl) fo_30_4_6 rfl) ⟨trivial, rfl, H⟩
      ·
       refine ⟨_, _, _, rfl, rfl, rfl, fun ν a w rs E hk ht H => ?_⟩
       have E := Env.add (v := .bool (!(inB e35y.actor 0 (IntKind.i64.wrap (((x.actors.length : Nat) : Int) - 1))))) E (ht 16 (by decide) _ _ 129 rfl rfl rfl)
       have E := Env.add (v := .pointer (some ⟨b, o + 4, none⟩)) E (ht 19 (by decide) _ _ 132 rfl rfl rfl)
       have H : Tr.Inv w0 [] w ([] ++ ([] ++ rs)) := H
       exact Gives.val (wantg (yld E (by rfl : _ = some _) rfl (by rfl : List.lookup _ _ = some (.bool (!(inB e35y.actor 0 (IntKind.i64.wrap (((x.actors.length : Nat) : Int) - 1)))) : Value))) (by rw [ts37]; rfl)) (r_load (E.tmp rfl) ag_28_6 (r1k4.get H)) ⟨trivial, rfl, H⟩
      ·
       refine ⟨_, _, _, rfl, rfl, rfl, fun ν a w rs E hk ht H => ?_⟩
       have E := Env.add (v := .bool (!(inB e35y.actor 0 (IntKind.i64.wrap (((x.actors.length : Nat) : Int) - 1))))) E (ht 16 (by decide) _ _ 129 rfl rfl rfl)
       exact Gives.val (wantg (yld E (by rfl : _ = some _) rfl (by rfl : List.lookup _ _ = some (.bool (!(inB e35y.actor 0 (IntKind.i64.wrap (((x.actors.length : Nat) : Int) - 1)))) : Value))) (by rw [ts37]; rfl)) (r_move (E.tmp rfl)) ⟨trivial, rfl, H⟩
      ·
       refine ⟨_, _, _, rfl, rfl, rfl, fun ν a w rs E hk ht H => ?_⟩
       have E := Env.add (v := .bool (!(inB e35y.actor 0 (IntKind.i64.wrap (((x.actors.length : Nat) : Int) - 1))))) E (ht 16 (by decide) _ _ 129 rfl rfl rfl)
       have E := Env.add (v := .slice (some ⟨e35b, e35o, none⟩) x.taken.length r1c4) E (ht 20 (by decide) _ _ 133 rfl rfl rfl)
       have E := Env.add (v := .int .i64 (((k3 : Nat) : Int))) E (ht 21 (by decide) _ _ 134 rfl rfl rfl)
       exact Gives.val (wantg (yld E (by rfl : _ = some _) rfl (by rfl : List.lookup _ _ = some (.bool (!(inB e35y.actor 0 (IntKind.i64.wrap (((x.actors.length : Nat) : Int) - 1)))) : Value))) (by rw [ts37]; rfl)) (r_ia (k := k3) (o' := e35o + k3 * 2) (E.tmp rfl) (E.tmp rfl) rfl el_28_6 (by omega) rfl) ⟨trivial, rfl, H⟩
      ·
       refine ⟨_, _, _, rfl, rfl, rfl, fun ν a w rs E hk ht H => ?_⟩
       have E := Env.add (v := .bool (!(inB e35y.actor 0 (IntKind.i64.wrap (((x.actors.length : Nat) : Int) - 1))))) E (ht 16 (by decide) _ _ 129 rfl rfl rfl)
       have E := Env.add (v := .pointer (some ⟨e35b, e35o + k3 * 2, none⟩)) E (ht 22 (by decide) _ _ 135 rfl rfl rfl)
       exact Gives.val (wantg (yld E (by rfl : _ = some _) rfl (by rfl : List.lookup _ _ = some (.bool (!(inB e35y.actor 0 (IntKind.i64.wrap (((x.actors.length : Nat) : Int) - 1)))) : Value))) (by rw [ts37]; rfl)) (r_fa (o' := e35o + k3 * 2 + 1) (E.tmp rfl) fo_36_1_6 rfl) ⟨trivial, rfl, H⟩
      ·
       refine ⟨_, _, _, rfl, rfl, rfl, fun ν a w rs E hk ht H => ?_⟩
       have E := Env.add (v := .bool (!(inB e35y.actor 0 (IntKind.i64.wrap (((x.actors.length : Nat) : Int) - 1))))) E (ht 16 (by decide) _ _ 129 rfl rfl rfl)
       have E := Env.add (v := .pointer (some ⟨e35b, e35o + k3 * 2 + 1, none⟩)) E (ht 23 (by decide) _ _ 136 rfl rfl rfl)
       have H : Tr.Inv w0 [] w ([] ++ ([] ++ rs)) := H
       exact Gives.val (wantg (yld E (by rfl : _ = some _) rfl (by rfl : List.lookup _ _ = some (.bool (!(inB e35y.actor 0 (IntKind.i64.wrap (((x.actors.length : Nat) : Int) - 1)))) : Value))) (by rw [ts37]; rfl)) (r_load (E.tmp rfl) ag_2_6 (r36k1.get H)) ⟨trivial, rfl, H⟩
      ·
       refine ⟨_, _, _, rfl, rfl, rfl, fun ν a w rs E hk ht H => ?_⟩
       have E := Env.add (v := .bool (!(inB e35y.actor 0 (IntKind.i64.wrap (((x.actors.length : Nat) : Int) - 1))))) E (ht 16 (by decide) _ _ 129 rfl rfl rfl)
       have E := Env.add (v := .int .i64 (e35y.value)) E (ht 24 (by decide) _ _ 137 rfl rfl rfl)
       have H : Tr.Inv w0 [] w ([] ++ ([] ++ rs)) := H
       exact Gives.call (R := (fun e w' => e = .returned (.bool (inB e35y.value 0 1000)) ∧ Ext w w')) (wantg (yld E (by rfl : _ = some _) rfl (by rfl : List.lookup _ _ = some (.bool (!(inB e35y.actor 0 (IntKind.i64.wrap (((x.actors.length : Nat) : Int) - 1)))) : Value))) (by rw [ts37]; rfl)) (r_call (ev_cons (E.tmp rfl) (ev_cons (ev_c _) (ev_cons (ev_c _) (ev_nil)))) ok_122_6) (l00In_q e35y.value 0 1000 w) fun e w2 ⟨he, hb⟩ => ⟨_, he, trivial, rfl, H.ext hb⟩
      ·
       refine ⟨_, _, _, rfl, rfl, rfl, fun ν a w rs E hk ht H => ?_⟩
       have E := Env.add (v := .bool (!(inB e35y.actor 0 (IntKind.i64.wrap (((x.actors.length : Nat) : Int) - 1))))) E (ht 16 (by decide) _ _ 129 rfl rfl rfl)
       have E := Env.add (v := .bool (inB e35y.value 0 1000)) E (ht 25 (by decide) _ _ 138 rfl rfl rfl)
       exact Gives.val (wantg (yld E (by rfl : _ = some _) rfl (by rfl : List.lookup _ _ = some (.bool (!(inB e35y.actor 0 (IntKind.i64.wrap (((x.actors.length : Nat) : Int) - 1)))) : Value))) (by rw [ts37]; rfl)) (r_not (c := !(inB e35y.value 0 1000)) (E.tmp rfl) rfl) ⟨trivial, rfl, H⟩
      ·
       refine ⟨_, _, _, rfl, rfl, rfl, fun ν a w rs E hk ht H => ?_⟩
       have E := Env.add (v := .bool (!(inB e35y.actor 0 (IntKind.i64.wrap (((x.actors.length : Nat) : Int) - 1))))) E (ht 16 (by decide) _ _ 129 rfl rfl rfl)
       have E := Env.add (v := .bool (!(inB e35y.value 0 1000))) E (ht 26 (by decide) _ _ 139 rfl rfl rfl)
       exact Gives.val rfl (r_pick_f ((E.tmp rfl).trans (congrArg Value.bool (by rw [ts37]; rfl))) (E.tmp rfl)) ⟨trivial, rfl, H⟩
     ·
      refine fun ν a w E hk ht H => ?_
      have E := Env.add E (show a.tmps[113]? = some (.pointer (some ⟨b, o, none⟩)) from ht 0 _ _ 113 rfl rfl rfl)
      have E := Env.add E (show a.tmps[114]? = some (.pointer (some ⟨b, o, none⟩)) from ht 1 _ _ 114 rfl rfl rfl)
      have E := Env.add E (show a.tmps[115]? = some (.pointer (some ⟨b, o + 4, none⟩)) from ht 2 _ _ 115 rfl rfl rfl)
      have E := Env.add E (show a.tmps[116]? = some (.slice (some ⟨e35b, e35o, none⟩) x.taken.length r1c4) from ht 3 _ _ 116 rfl rfl rfl)
      have E := Env.add E (show a.tmps[117]? = some (.int .i64 (((k3 : Nat) : Int))) from ht 4 _ _ 117 rfl rfl rfl)
      have E := Env.add E (show a.tmps[118]? = some (.pointer (some ⟨e35b, e35o + k3 * 2, none⟩)) from ht 5 _ _ 118 rfl rfl rfl)
      have E := Env.add E (show a.tmps[119]? = some (.pointer (some ⟨e35b, e35o + k3 * 2, none⟩)) from ht 6 _ _ 119 rfl rfl rfl)
      have E := Env.add E (show a.tmps[120]? = some (.int .i64 (e35y.actor)) from ht 7 _ _ 120 rfl rfl rfl)
      have E := Env.add E (show a.tmps[121]? = some (.pointer (some ⟨b, o, none⟩)) from ht 8 _ _ 121 rfl rfl rfl)
      have E := Env.add E (show a.tmps[122]? = some (.pointer (some ⟨b, o, none⟩)) from ht 9 _ _ 122 rfl rfl rfl)
      have E := Env.add E (show a.tmps[123]? = some (.pointer (some ⟨b, o + 3, none⟩)) from ht 10 _ _ 123 rfl rfl rfl)
      have E := Env.add E (show a.tmps[124]? = some (.slice r1A3 x.actors.length r1c3) from ht 11 _ _ 124 rfl rfl rfl)
      have E := Env.add E (show a.tmps[125]? = some (.int .i64 (((x.actors.length : Nat) : Int))) from ht 12 _ _ 125 rfl rfl rfl)
      have E := Env.add E (show a.tmps[126]? = some (.int .i64 (IntKind.i64.wrap (((x.actors.length : Nat) : Int) - 1))) from ht 13 _ _ 126 rfl rfl rfl)
      have E := Env.add E (show a.tmps[127]? = some (.bool (inB e35y.actor 0 (IntKind.i64.wrap (((x.actors.length : Nat) : Int) - 1)))) from ht 14 _ _ 127 rfl rfl rfl)
      have E := Env.add E (show a.tmps[128]? = some (.bool (!(inB e35y.actor 0 (IntKind.i64.wrap (((x.actors.length : Nat) : Int) - 1))))) from ht 15 _ _ 128 rfl rfl rfl)
      have E := Env.add E (show a.tmps[129]? = some (.bool (!(inB e35y.actor 0 (IntKind.i64.wrap (((x.actors.length : Nat) : Int) - 1))))) from ht 16 _ _ 129 rfl rfl rfl)
      have E := Env.add E (show a.tmps[130]? = some (.pointer (some ⟨b, o, none⟩)) from ht 17 _ _ 130 rfl rfl rfl)
      have E := Env.add E (show a.tmps[131]? = some (.pointer (some ⟨b, o, none⟩)) from ht 18 _ _ 131 rfl rfl rfl)
      have E := Env.add E (show a.tmps[132]? = some (.pointer (some ⟨b, o + 4, none⟩)) from ht 19 _ _ 132 rfl rfl rfl)
      have E := Env.add E (show a.tmps[133]? = some (.slice (some ⟨e35b, e35o, none⟩) x.taken.length r1c4) from ht 20 _ _ 133 rfl rfl rfl)
      have E := Env.add E (show a.tmps[134]? = some (.int .i64 (((k3 : Nat) : Int))) from ht 21 _ _ 134 rfl rfl rfl)
      have E := Env.add E (show a.tmps[135]? = some (.pointer (some ⟨e35b, e35o + k3 * 2, none⟩)) from ht 22 _ _ 135 rfl rfl rfl)
      have E := Env.add E (show a.tmps[136]? = some (.pointer (some ⟨e35b, e35o + k3 * 2 + 1, none⟩)) from ht 23 _ _ 136 rfl rfl rfl)
      have E := Env.add E (show a.tmps[137]? = some (.int .i64 (e35y.value)) from ht 24 _ _ 137 rfl rfl rfl)
      have E := Env.add E (show a.tmps[138]? = some (.bool (inB e35y.value 0 1000)) from ht 25 _ _ 138 rfl rfl rfl)
      have E := Env.add E (show a.tmps[139]? = some (.bool (!(inB e35y.value 0 1000))) from ht 26 _ _ 139 rfl rfl rfl)
      have E := Env.add E (show a.tmps[140]? = some (.bool (!(inB e35y.value 0 1000))) from ht 27 _ _ 140 rfl rfl rfl)
      have H : Tr.Inv w0 [] w [] := H
      have E : Env 161 a [(0, .pointer (some ⟨b, o, none⟩)), (6, .int .i64 (((k3 : Nat) : Int))), (104, .int .i64 (((k3 : Nat) : Int))), (105, .pointer (some ⟨b, o, none⟩)), (106, .pointer (some ⟨b, o, none⟩)), (107, .pointer (some ⟨b, o + 4, none⟩)), (108, .slice (some ⟨e35b, e35o, none⟩) x.taken.length r1c4), (109, .int .i64 (((x.taken.length : Nat) : Int))), (110, .bool (true)), (113, .pointer (some ⟨b, o, none⟩)), (114, .pointer (some ⟨b, o, none⟩)), (115, .pointer (some ⟨b, o + 4, none⟩)), (116, .slice (some ⟨e35b, e35o, none⟩) x.taken.length r1c4), (117, .int .i64 (((k3 : Nat) : Int))), (118, .pointer (some ⟨e35b, e35o + k3 * 2, none⟩)), (119, .pointer (some ⟨e35b, e35o + k3 * 2, none⟩)), (120, .int .i64 (e35y.actor)), (121, .pointer (some ⟨b, o, none⟩)), (122, .pointer (some ⟨b, o, none⟩)), (123, .pointer (some ⟨b, o + 3, none⟩)), (124, .slice r1A3 x.actors.length r1c3), (125, .int .i64 (((x.actors.length : Nat) : Int))), (126, .int .i64 (IntKind.i64.wrap (((x.actors.length : Nat) : Int) - 1))), (127, .bool (inB e35y.actor 0 (IntKind.i64.wrap (((x.actors.length : Nat) : Int) - 1)))), (128, .bool (!(inB e35y.actor 0 (IntKind.i64.wrap (((x.actors.length : Nat) : Int) - 1))))), (129, .bool (!(inB e35y.actor 0 (IntKind.i64.wrap (((x.actors.length : Nat) : Int) - 1))))), (130, .pointer (some ⟨b, o, none⟩)), (131, .pointer (some ⟨b, o, none⟩)), (132, .pointer (some ⟨b, o + 4, none⟩)), (133, .slice (some ⟨e35b, e35o, none⟩) x.taken.length r1c4), (134, .int .i64 (((k3 : Nat) : Int))), (135, .pointer (some ⟨e35b, e35o + k3 * 2, none⟩)), (136, .pointer (some ⟨e35b, e35o + k3 * 2 + 1, none⟩)), (137, .int .i64 (e35y.value)), (138, .bool (inB e35y.value 0 1000)), (139, .bool (!(inB e35y.value 0 1000))), (140, .bool (!(inB e35y.value 0 1000)))] := (Env.pick E (Env.pick E (Env.pick E (Env.pick E (Env.pick E (Env.pick E (Env.pick E (Env.pick E (Env.pick E (Env.pick E (Env.pick E (Env.pick E (Env.pick E (Env.pick E (Env.pick E (Env.pick E (Env.pick E (Env.pick E (Env.pick E (Env.pick E (Env.pick E (Env.pick E (Env.pick E (Env.pick E (Env.pick E (Env.pick E (Env.pick E (Env.pick E (Env.pick E (Env.pick E (Env.pick E (Env.pick E (Env.pick E (Env.pick E (Env.pick E (Env.pick E (Env.pick E E.nil rfl) rfl) rfl) rfl) rfl) rfl) rfl) rfl) rfl) rfl) rfl) rfl) rfl) rfl) rfl) rfl) rfl) rfl) rfl) rfl) rfl) rfl) rfl) rfl) rfl) rfl) rfl) rfl) rfl) rfl) rfl) rfl) rfl) rfl) rfl) rfl) rfl)
      clear hk ht
      refine then_n ?_
      rcases bcase (inB e35y.value 0 1000) with ts38 | ts38
      ·
       refine cond_t E rfl (by rw [ts38]; rfl) ?_
       refine wp_seq (wp_region_lit ?_)
       refine wv E rfl (r_assign (ev_c _)) fun a E => ?_
       refine wpList_nil (then_n (wp_ret (inb_r (then_r (then_r (inb_r (then_r ?_)))))))
       refine post1 E rfl (out_t E rfl) ?_
       have hbad := all_bad (p := takB x.actors.length) e35x (by first | rfl | (simp only [bufOk, takB, ts16, ts19, ts22, ts25, ts26, ts27, hfullk1, hacts, ts37, ts38, B1, B2, B3, B4, B5, B6, B7, B8, B9, B10, B11, B12, B13, B14]; done) | (simp only [bufOk, takB, ts16, ts19, ts22, ts25, ts26, ts27, hfullk1, hacts, ts37, ts38, B1, B2, B3, B4, B5, B6, B7, B8, B9, B10, B11, B12, B13, B14]; rfl) | (simp [bufOk, takB, ts16, ts19, ts22, ts25, ts26, ts27, hfullk1, hacts, ts37, ts38, B1, B2, B3, B4, B5, B6, B7, B8, B9, B10, B11, B12, B13, B14]; done) | ((try simp [bufOk, takB, inB] at ts16); (try simp [bufOk, takB, inB] at ts19); (try simp [bufOk, takB, inB] at ts22); (try simp [bufOk, takB, inB] at ts25); (try simp [bufOk, takB, inB] at ts26); (try simp [bufOk, takB, inB] at ts27); (try simp [bufOk, takB, inB] at hfullk1); (try simp [bufOk, takB, inB] at hacts); (try simp [bufOk, takB, inB] at ts37); (try simp [bufOk, takB, inB] at ts38); simp [bufOk, takB, inB]; omega))
       have hE : false = okB x := by first | rfl | (simp only [okB, ts16, ts19, ts22, ts25, ts26, ts27, hfullk1, hacts, ts37, ts38, hbad, B1, B2, B3, B4, B5, B6, B7, B8, B9, B10, B11, B12, B13, B14]; done) | (simp only [okB, ts16, ts19, ts22, ts25, ts26, ts27, hfullk1, hacts, ts37, ts38, hbad, B1, B2, B3, B4, B5, B6, B7, B8, B9, B10, B11, B12, B13, B14]; rfl) | (simp [okB, ts16, ts19, ts22, ts25, ts26, ts27, hfullk1, hacts, ts37, ts38, hbad, B1, B2, B3, B4, B5, B6, B7, B8, B9, B10, B11, B12, B13, B14]; done) | ((try simp [okB, inB] at ts16); (try simp [okB, inB] at ts19); (try simp [okB, inB] at ts22); (try simp [okB, inB] at ts25); (try simp [okB, inB] at ts26); (try simp [okB, inB] at ts27); (try simp [okB, inB] at hfullk1); (try simp [okB, inB] at hacts); (try simp [okB, inB] at ts37); (try simp [okB, inB] at ts38); (try simp [okB, inB] at hbad); simp [okB, inB]; omega)
       exact rb hE H
      refine cond_f E rfl (by rw [ts38]; rfl) ?_
      refine wp_skip (inb_n (then_n (wp_region_lit ?_)))
      refine vm E rfl rfl fun a E => wv E rfl (r_bin (E.tmp rfl) (ev_c _) (b_add (wrap_succ (by omega)))) fun a E => va E rfl rfl fun a E => ?_
      refine wpList_nil ?_
      have hstep : (takB x.actors.length) e35y = true := by first | rfl | (simp only [bufOk, takB, ts16, ts19, ts22, ts25, ts26, ts27, hfullk1, hacts, ts37, ts38, B1, B2, B3, B4, B5, B6, B7, B8, B9, B10, B11, B12, B13, B14]; done) | (simp only [bufOk, takB, ts16, ts19, ts22, ts25, ts26, ts27, hfullk1, hacts, ts37, ts38, B1, B2, B3, B4, B5, B6, B7, B8, B9, B10, B11, B12, B13, B14]; rfl) | (simp [bufOk, takB, ts16, ts19, ts22, ts25, ts26, ts27, hfullk1, hacts, ts37, ts38, B1, B2, B3, B4, B5, B6, B7, B8, B9, B10, B11, B12, B13, B14]; done) | ((try simp [bufOk, takB, inB] at ts16); (try simp [bufOk, takB, inB] at ts19); (try simp [bufOk, takB, inB] at ts22); (try simp [bufOk, takB, inB] at ts25); (try simp [bufOk, takB, inB] at ts26); (try simp [bufOk, takB, inB] at ts27); (try simp [bufOk, takB, inB] at hfullk1); (try simp [bufOk, takB, inB] at hacts); (try simp [bufOk, takB, inB] at ts37); (try simp [bufOk, takB, inB] at ts38); simp [bufOk, takB, inB]; omega)
      exact then_n ⟨_, by omega, k3 + 1, rfl, by omega, all_succ hallk3 e35x hstep, (Env.pick E (Env.pick E E.nil rfl) rfl), H⟩
    ·
     skip
     have hfullk3 := all_full hallk3 (by omega)
     refine wp_seq (wp_seq (wp_region_lit ?_))
     refine vm E rfl rfl fun a E => vm E rfl rfl fun a E => wv E rfl (r_nil (E.tmp rfl)) fun a E => wv E rfl (r_fa (o' := o + 4) (E.tmp rfl) fo_30_4_6 rfl) fun a E => wv E rfl (r_load (E.tmp rfl) ag_28_6 (r1k4.get H)) fun a E => ?_
     refine wv E rfl (r_len (E.tmp rfl) el_28_6) (fun a E => ?_)
     refine wv E rfl (r_bin (E.tmp rfl) (E.tmp rfl) (b_lss (b := false) (by simp; omega))) fun a E => ?_
     refine wpList_nil (then_n ?_)
     refine cond_f E rfl rfl ?_
     refine wp_exit (then_e (then_e (inb_ee (then_n (wp_seq (wp_seq (wp_region_lit ?_)))))))
     refine wv E rfl (r_assign (ev_c _)) fun a E => ?_
     refine wpList_nil (then_n (wp_block ?_))
     refine wp_loop_ghost (fun m a w => ∃ (k4 : Nat), m = x.refused.length - k4 ∧ k4 ≤ x.refused.length ∧ (x.refused.take k4).all (fun n => inB n 1 1000) = true ∧ Env 161 a [(0, .pointer (some ⟨b, o, none⟩)), (7, .int .i64 (((k4 : Nat) : Int)))] ∧ Tr.Inv w0 [] w []) _ ⟨0, rfl, Nat.zero_le _, rfl, (Env.pick E (Env.pick E E.nil rfl) rfl), H⟩ ?_
     rintro _ a w ⟨k4, rfl, hkk4, hallk4, E, H⟩
     by_cases hltk4 : k4 < x.refused.length
     ·
      skip
      revert E
      revert H
      obtain ⟨e39b, e39o, e39y, rfl, e39x, e39q⟩ := Ro1.elem (f := intE) (s := 1) (fun _ => rfl) r1t5 rfl hltk4
      intro H E
      have r40p0 : RoP w0 [] e39b (e39o + k4 * 1) [.v (.int .i64 (e39y))] := e39q
      obtain ⟨r40k0, r40p1⟩ := RoP.vv r40p0
      clear r40p0
      clear r40p1
      refine wp_seq (wp_seq (wp_region_lit ?_))
      refine vm E rfl rfl fun a E => vm E rfl rfl fun a E => wv E rfl (r_nil (E.tmp rfl)) fun a E => wv E rfl (r_fa (o' := o + 5) (E.tmp rfl) fo_30_5_6 rfl) fun a E => wv E rfl (r_load (E.tmp rfl) ag_24_6 (r1k5.get H)) fun a E => ?_
      refine wv E rfl (r_len (E.tmp rfl) el_24_6) (fun a E => ?_)
      refine wv E rfl (r_bin (E.tmp rfl) (E.tmp rfl) (b_lss (b := true) (by simp; exact hltk4))) fun a E => ?_
      refine wpList_nil (then_n ?_)
      refine cond_t E rfl rfl ?_
      refine wp_skip (then_n (wp_seq (wp_block (wp_seq (wp_region_lit ?_)))))
      refine vm E rfl rfl fun a E => wv E rfl (r_nil (E.tmp rfl)) fun a E => wv E rfl (r_fa (o' := o + 5) (E.tmp rfl) fo_30_5_6 rfl) fun a E => wv E rfl (r_load (E.tmp rfl) ag_24_6 (r1k5.get H)) fun a E => vm E rfl rfl fun a E => ?_
      refine wv E rfl (r_ia (k := k4) (o' := e39o + k4 * 1) (E.tmp rfl) (E.tmp rfl) rfl el_24_6 (by omega) rfl) fun a E => wv E rfl (r_load (E.tmp rfl) ag_2_6 (r40k0.get H)) fun a E => ?_
      refine w_quiet (v := .bool (inB e39y 1 1000)) E rfl (ev_cons (E.tmp rfl) (ev_nil)) ok_205_6 (l23Task_q e39y w) H (fun a w E H => ?_)
      refine wv E rfl (r_not (c := !(inB e39y 1 1000)) (E.tmp rfl) rfl) fun a E => ?_
      refine wpList_nil (then_n ?_)
      rcases bcase (inB e39y 1 1000) with ts41 | ts41
      ·
       refine cond_t E rfl (by rw [ts41]; rfl) ?_
       refine wp_seq (wp_region_lit ?_)
       refine wv E rfl (r_assign (ev_c _)) fun a E => ?_
       refine wpList_nil (then_n (wp_ret (inb_r (then_r (then_r (inb_r (then_r ?_)))))))
       refine post1 E rfl (out_t E rfl) ?_
       have hbad := all_bad (p := fun n => inB n 1 1000) e39x (by first | rfl | (simp only [bufOk, takB, ts16, ts19, ts22, ts25, ts26, ts27, hfullk1, hacts, hfullk3, ts41, B1, B2, B3, B4, B5, B6, B7, B8, B9, B10, B11, B12, B13, B14]; done) | (simp only [bufOk, takB, ts16, ts19, ts22, ts25, ts26, ts27, hfullk1, hacts, hfullk3, ts41, B1, B2, B3, B4, B5, B6, B7, B8, B9, B10, B11, B12, B13, B14]; rfl) | (simp [bufOk, takB, ts16, ts19, ts22, ts25, ts26, ts27, hfullk1, hacts, hfullk3, ts41, B1, B2, B3, B4, B5, B6, B7, B8, B9, B10, B11, B12, B13, B14]; done) | ((try simp [bufOk, takB, inB] at ts16); (try simp [bufOk, takB, inB] at ts19); (try simp [bufOk, takB, inB] at ts22); (try simp [bufOk, takB, inB] at ts25); (try simp [bufOk, takB, inB] at ts26); (try simp [bufOk, takB, inB] at ts27); (try simp [bufOk, takB, inB] at hfullk1); (try simp [bufOk, takB, inB] at hacts); (try simp [bufOk, takB, inB] at hfullk3); (try simp [bufOk, takB, inB] at ts41); simp [bufOk, takB, inB]; omega))
       have hE : false = okB x := by first | rfl | (simp only [okB, ts16, ts19, ts22, ts25, ts26, ts27, hfullk1, hacts, hfullk3, ts41, hbad, B1, B2, B3, B4, B5, B6, B7, B8, B9, B10, B11, B12, B13, B14]; done) | (simp only [okB, ts16, ts19, ts22, ts25, ts26, ts27, hfullk1, hacts, hfullk3, ts41, hbad, B1, B2, B3, B4, B5, B6, B7, B8, B9, B10, B11, B12, B13, B14]; rfl) | (simp [okB, ts16, ts19, ts22, ts25, ts26, ts27, hfullk1, hacts, hfullk3, ts41, hbad, B1, B2, B3, B4, B5, B6, B7, B8, B9, B10, B11, B12, B13, B14]; done) | ((try simp [okB, inB] at ts16); (try simp [okB, inB] at ts19); (try simp [okB, inB] at ts22); (try simp [okB, inB] at ts25); (try simp [okB, inB] at ts26); (try simp [okB, inB] at ts27); (try simp [okB, inB] at hfullk1); (try simp [okB, inB] at hacts); (try simp [okB, inB] at hfullk3); (try simp [okB, inB] at ts41); (try simp [okB, inB] at hbad); simp [okB, inB]; omega)
       exact rb hE H
      refine cond_f E rfl (by rw [ts41]; rfl) ?_
      refine wp_skip (inb_n (then_n (wp_region_lit ?_)))
      refine vm E rfl rfl fun a E => wv E rfl (r_bin (E.tmp rfl) (ev_c _) (b_add (wrap_succ (by omega)))) fun a E => va E rfl rfl fun a E => ?_
      refine wpList_nil ?_
      have hstep : (fun n => inB n 1 1000) e39y = true := by first | rfl | (simp only [bufOk, takB, ts16, ts19, ts22, ts25, ts26, ts27, hfullk1, hacts, hfullk3, ts41, B1, B2, B3, B4, B5, B6, B7, B8, B9, B10, B11, B12, B13, B14]; done) | (simp only [bufOk, takB, ts16, ts19, ts22, ts25, ts26, ts27, hfullk1, hacts, hfullk3, ts41, B1, B2, B3, B4, B5, B6, B7, B8, B9, B10, B11, B12, B13, B14]; rfl) | (simp [bufOk, takB, ts16, ts19, ts22, ts25, ts26, ts27, hfullk1, hacts, hfullk3, ts41, B1, B2, B3, B4, B5, B6, B7, B8, B9, B10, B11, B12, B13, B14]; done) | ((try simp [bufOk, takB, inB] at ts16); (try simp [bufOk, takB, inB] at ts19); (try simp [bufOk, takB, inB] at ts22); (try simp [bufOk, takB, inB] at ts25); (try simp [bufOk, takB, inB] at ts26); (try simp [bufOk, takB, inB] at ts27); (try simp [bufOk, takB, inB] at hfullk1); (try simp [bufOk, takB, inB] at hacts); (try simp [bufOk, takB, inB] at hfullk3); (try simp [bufOk, takB, inB] at ts41); simp [bufOk, takB, inB]; omega)
      exact then_n ⟨_, by omega, k4 + 1, rfl, by omega, all_succ hallk4 e39x hstep, (Env.pick E (Env.pick E E.nil rfl) rfl), H⟩
     ·
      skip
      have hfullk4 := all_full hallk4 (by omega)
      refine wp_seq (wp_seq (wp_region_lit ?_))
      refine vm E rfl rfl fun a E => vm E rfl rfl fun a E => wv E rfl (r_nil (E.tmp rfl)) fun a E => wv E rfl (r_fa (o' := o + 5) (E.tmp rfl) fo_30_5_6 rfl) fun a E => wv E rfl (r_load (E.tmp rfl) ag_24_6 (r1k5.get H)) fun a E => ?_
      refine wv E rfl (r_len (E.tmp rfl) el_24_6) (fun a E => ?_)
      refine wv E rfl (r_bin (E.tmp rfl) (E.tmp rfl) (b_lss (b := false) (by simp; omega))) fun a E => ?_
      refine wpList_nil (then_n ?_)
      refine cond_f E rfl rfl ?_
      refine wp_exit (then_e (then_e (inb_ee (then_n (wp_seq ?_)))))
      have hpos : 0 < x.actors.length := by have h := inB_t ts25; omega
      obtain ⟨a0, h0⟩ : ∃ a0, x.actors[0]? = some a0 := ⟨_, List.getElem?_eq_getElem hpos⟩
      have hv0 : actorB a0 true = true := by have h := allTo_of hacts hpos; simp only [actF, h0] at h; exact h
      refine wp_region_lit ?_
      refine vm E rfl rfl fun a E => ?_
      refine w_quiet (v := .bool (roomB x a0)) E rfl (ev_cons (E.tmp rfl) (ev_nil)) ok_207_6 (l23Room_q x a0 b o w (hp.at_ H (F := []) (by simp)) h0 hv0) H (fun a w E H => ?_)
      refine va E rfl rfl fun a E => ?_
      refine wpList_nil (then_n (wp_ret ?_))
      refine post1 E rfl (out_t E rfl) ?_
      have hE : (roomB x a0) = okB x := by first | rfl | (simp only [okB, ts16, ts19, ts22, ts25, ts26, ts27, hfullk1, hacts, hfullk3, hfullk4, h0, B1, B2, B3, B4, B5, B6, B7, B8, B9, B10, B11, B12, B13, B14]; done) | (simp only [okB, ts16, ts19, ts22, ts25, ts26, ts27, hfullk1, hacts, hfullk3, hfullk4, h0, B1, B2, B3, B4, B5, B6, B7, B8, B9, B10, B11, B12, B13, B14]; rfl) | (simp [okB, ts16, ts19, ts22, ts25, ts26, ts27, hfullk1, hacts, hfullk3, hfullk4, h0, B1, B2, B3, B4, B5, B6, B7, B8, B9, B10, B11, B12, B13, B14]; done) | ((try simp [okB, inB] at ts16); (try simp [okB, inB] at ts19); (try simp [okB, inB] at ts22); (try simp [okB, inB] at ts25); (try simp [okB, inB] at ts26); (try simp [okB, inB] at ts27); (try simp [okB, inB] at hfullk1); (try simp [okB, inB] at hacts); (try simp [okB, inB] at hfullk3); (try simp [okB, inB] at hfullk4); (try simp [okB, inB] at h0); simp [okB, inB]; omega)
      exact rb hE H
 refine cond_t E rfl ts13 ?_
 refine wp_seq (wp_region_lit ?_)
 refine wv E rfl (r_assign (ev_c _)) fun a E => ?_
 refine wpList_nil (then_n (wp_ret (then_r ?_)))
 refine post1 E rfl (out_t E rfl) ?_
 rcases b_ot ts13 with ts42 | ⟨ts42, ts43⟩
 ·
  have ts44 := b_nt ts42
  have hE : false = okB x := by first | rfl | (simp only [okB, ts44, B1, B2, B3, B4, B5, B6, B7, B8, B9, B10, B11, B12, B13, B14]; done) | (simp only [okB, ts44, B1, B2, B3, B4, B5, B6, B7, B8, B9, B10, B11, B12, B13, B14]; rfl) | (simp [okB, ts44, B1, B2, B3, B4, B5, B6, B7, B8, B9, B10, B11, B12, B13, B14]; done) | ((try simp [okB, inB] at ts44); simp [okB, inB]; omega)
  exact rb hE H
 have ts45 := b_nf ts42
 rcases b_ot ts43 with ts46 | ⟨ts46, ts47⟩
 ·
  have ts48 := b_nt ts46
  have hE : false = okB x := by first | rfl | (simp only [okB, ts45, ts48, B1, B2, B3, B4, B5, B6, B7, B8, B9, B10, B11, B12, B13, B14]; done) | (simp only [okB, ts45, ts48, B1, B2, B3, B4, B5, B6, B7, B8, B9, B10, B11, B12, B13, B14]; rfl) | (simp [okB, ts45, ts48, B1, B2, B3, B4, B5, B6, B7, B8, B9, B10, B11, B12, B13, B14]; done) | ((try simp [okB, inB] at ts45); (try simp [okB, inB] at ts48); simp [okB, inB]; omega)
  exact rb hE H
 have ts49 := b_nf ts46
 rcases b_ot ts47 with ts50 | ⟨ts50, ts51⟩
 ·
  have ts52 := b_nt ts50
  have hE : false = okB x := by first | rfl | (simp only [okB, ts45, ts49, ts52, B1, B2, B3, B4, B5, B6, B7, B8, B9, B10, B11, B12, B13, B14]; done) | (simp only [okB, ts45, ts49, ts52, B1, B2, B3, B4, B5, B6, B7, B8, B9, B10, B11, B12, B13, B14]; rfl) | (simp [okB, ts45, ts49, ts52, B1, B2, B3, B4, B5, B6, B7, B8, B9, B10, B11, B12, B13, B14]; done) | ((try simp [okB, inB] at ts45); (try simp [okB, inB] at ts49); (try simp [okB, inB] at ts52); simp [okB, inB]; omega)
  exact rb hE H
 have ts53 := b_nf ts50
 rcases b_ot ts51 with ts54 | ⟨ts54, ts55⟩
 ·
  have ts56 := b_nt ts54
  have hE : false = okB x := by first | rfl | (simp only [okB, ts45, ts49, ts53, ts56, B1, B2, B3, B4, B5, B6, B7, B8, B9, B10, B11, B12, B13, B14]; done) | (simp only [okB, ts45, ts49, ts53, ts56, B1, B2, B3, B4, B5, B6, B7, B8, B9, B10, B11, B12, B13, B14]; rfl) | (simp [okB, ts45, ts49, ts53, ts56, B1, B2, B3, B4, B5, B6, B7, B8, B9, B10, B11, B12, B13, B14]; done) | ((try simp [okB, inB] at ts45); (try simp [okB, inB] at ts49); (try simp [okB, inB] at ts53); (try simp [okB, inB] at ts56); simp [okB, inB]; omega)
  exact rb hE H
 have ts57 := b_nf ts54
 rcases b_ot ts55 with ts58 | ⟨ts58, ts59⟩
 ·
  have hE : false = okB x := by first | rfl | (simp only [okB, ts45, ts49, ts53, ts57, ts58, B1, B2, B3, B4, B5, B6, B7, B8, B9, B10, B11, B12, B13, B14]; done) | (simp only [okB, ts45, ts49, ts53, ts57, ts58, B1, B2, B3, B4, B5, B6, B7, B8, B9, B10, B11, B12, B13, B14]; rfl) | (simp [okB, ts45, ts49, ts53, ts57, ts58, B1, B2, B3, B4, B5, B6, B7, B8, B9, B10, B11, B12, B13, B14]; done) | ((try simp [okB, inB] at ts45); (try simp [okB, inB] at ts49); (try simp [okB, inB] at ts53); (try simp [okB, inB] at ts57); (try simp [okB, inB] at ts58); simp [okB, inB]; omega)
  exact rb hE H
 have hE : false = okB x := by first | rfl | (simp only [okB, ts45, ts49, ts53, ts57, ts58, ts59, B1, B2, B3, B4, B5, B6, B7, B8, B9, B10, B11, B12, B13, B14]; done) | (simp only [okB, ts45, ts49, ts53, ts57, ts58, ts59, B1, B2, B3, B4, B5, B6, B7, B8, B9, B10, B11, B12, B13, B14]; rfl) | (simp [okB, ts45, ts49, ts53, ts57, ts58, ts59, B1, B2, B3, B4, B5, B6, B7, B8, B9, B10, B11, B12, B13, B14]; done) | ((try simp [okB, inB] at ts45); (try simp [okB, inB] at ts49); (try simp [okB, inB] at ts53); (try simp [okB, inB] at ts57); (try simp [okB, inB] at ts58); (try simp [okB, inB] at ts59); simp [okB, inB]; omega)
 exact rb hE H
end Go.Proofs.Ythelpioccjjgfaa
