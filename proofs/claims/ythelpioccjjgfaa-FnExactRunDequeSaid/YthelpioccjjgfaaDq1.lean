/- Deques. Printed by gx_dq.py. -/
import Derived.Test.YthelpioccjjgfaaProg
import Derived.Test.YthelpioccjjgfaaSc
import Derived.Test.YthelpioccjjgfaaDDq
import Derived.Test.YthelpioccjjgfaaArith
import Derived.IntWalk
set_option linter.unusedSimpArgs false
set_option linter.unusedVariables false
namespace Go.Tr
def todoOk (n : Int) (ow : Bool) : Bool := !((n != 0) && (!ow || !inB n 1 1000))
def headOk (a : GDequeActor) (ow : Bool) : Bool := match a.todo[0]? with | none => true | some n => cond (n != 0) (decide (a.pc < 3) && decide (0 ≤ a.b)) (ow || decide (0 ≤ a.b))
def actorB (a : GDequeActor) (ow : Bool) : Bool := !decide ((10 : Int) < ((a.todo.length : Nat) : Int)) && inB a.pc 0 3 && inB a.t 0 1000 && inB a.b (-1) 1000 && inB a.x 0 1000 && a.todo.all (fun n => todoOk n ow) &&
  cond (a.pc == 0 || ((a.todo.length : Nat) : Int) == 0) (a.pc == 0 && a.t == 0 && a.b == 0 && a.x == 0) (headOk a ow)
def head0 (a : GDequeActor) : Bool := match a.todo[0]? with | none => false | some n => n == 0
def leastB (a : GDequeActor) : Int := cond (decide (0 < a.pc) && head0 a) (-1) 0
def roomB (x : GDeque) (a : GDequeActor) : Bool := inB (IntKind.i64.wrap (x.bottom - x.top)) (leastB a) ((x.buffer.length : Nat) : Int)
theorem actor_pos {a : GDequeActor} {ow : Bool} (h : actorB a ow = true) (hp : 0 < a.pc) : 0 < a.todo.length := by
  rcases Nat.eq_zero_or_pos a.todo.length with h0 | h0
  · exfalso
    unfold actorB at h
    rw [h0] at h
    have h1 : (a.pc == 0) = false := by simp; omega
    simp [h1] at h
  · exact h0
def atI (i : Int) (n : Nat) : Int := Int.tmod (IntKind.i64.wrap (Int.tmod i ((n : Nat) : Int) + ((n : Nat) : Int))) ((n : Nat) : Int)
end Go.Tr
namespace Go.Proofs.Ythelpioccjjgfaa
open Go Go.RowKit Go.Proofs Go.Tr
theorem ok_122 : callOk Try.prog 122 = true := by kernel_rfl
theorem fo_119_0 : fldOff Try.prog 119 0 = some 0 := by kernel_rfl
theorem ag_24 : aggB Try.prog 24 = some false := by kernel_rfl
theorem el_24 : elemOf? Try.prog 24 = some (2, 1) := by kernel_rfl
theorem fo_119_1 : fldOff Try.prog 119 1 = some 1 := by kernel_rfl
theorem ag_2 : aggB Try.prog 2 = some false := by kernel_rfl
theorem fo_119_2 : fldOff Try.prog 119 2 = some 2 := by kernel_rfl
theorem fo_119_3 : fldOff Try.prog 119 3 = some 3 := by kernel_rfl
theorem fo_119_4 : fldOff Try.prog 119 4 = some 4 := by kernel_rfl
theorem ok_205 : callOk Try.prog 205 = true := by kernel_rfl
theorem fo_30_3 : fldOff Try.prog 30 3 = some 3 := by kernel_rfl
theorem ag_27 : aggB Try.prog 27 = some false := by kernel_rfl
theorem el_27 : elemOf? Try.prog 27 = some (119, 5) := by kernel_rfl
theorem fo_30_1 : fldOff Try.prog 30 1 = some 1 := by kernel_rfl
theorem fo_30_0 : fldOff Try.prog 30 0 = some 0 := by kernel_rfl
theorem fo_30_2 : fldOff Try.prog 30 2 = some 2 := by kernel_rfl
set_option maxHeartbeats 1000000 in
theorem l00In_q (n lo hi : Int) (w0 : World)  : Calls Try.prog 122 #[.int .i64 (n), .int .i64 (lo), .int .i64 (hi)] w0 fun e w' => e = .returned (.bool (inB n lo hi)) ∧ Ext w0 w' := by
 refine enter_i (args := [.int .i64 (n), .int .i64 (lo), .int .i64 (hi)]) Try.func122 rfl Try.ntmps122 rfl sep0 (fun a w E H => ?_)
 have E : Env 15 a [(0, .int .i64 (n)), (1, .int .i64 (lo)), (2, .int .i64 (hi))] := E
 refine wp_seq (wp_region_lit ?_)
 refine wv E rfl (r_assign (ev_c _)) fun a E => ?_
 refine wpList_nil (then_n (wp_seq (wp_region_lit ?_)))
 refine vm E rfl rfl fun a E => vm E rfl rfl fun a E => wv E rfl (r_bin (E.tmp rfl) (E.tmp rfl) (b_geq (b := decide (lo ≤ n)) rfl)) fun a E => vm E rfl rfl fun a E => ?_
 rcases bcase (decide (lo ≤ n)) with ts1 | ts1
 ·
  refine wnh (c := false) E rfl rfl rfl rfl ts1 rfl fun a E => ?_
  refine wnh (c := false) E rfl rfl rfl rfl ts1 rfl fun a E => ?_
  refine wnh (c := false) E rfl rfl rfl rfl ts1 rfl fun a E => ?_
  refine wv E rfl (r_pick_f ((E.tmp rfl).trans (congrArg Value.bool ts1)) (ev_c _)) fun a E => va E rfl rfl fun a E => ?_
  refine wpList_nil (then_n (wp_ret ?_))
  refine post1 E rfl (out_t E rfl) ?_
  have hE : false = inB n lo hi := by first | rfl | (simp only [inB, ts1, B1, B2, B3, B4, B5, B6, B7, B8, B9, B10, B11, B12, B13, B14]; done) | (simp only [inB, ts1, B1, B2, B3, B4, B5, B6, B7, B8, B9, B10, B11, B12, B13, B14]; rfl) | (simp [inB, ts1, B1, B2, B3, B4, B5, B6, B7, B8, B9, B10, B11, B12, B13, B14]; done) | ((try simp [inB, inB] at ts1); simp [inB, inB]; omega)
  exact rb hE H
 refine ung E rfl rfl rfl ts1 ?_
 refine vm E rfl rfl fun a E => ?_
 refine ung E rfl rfl rfl ts1 ?_
 refine vm E rfl rfl fun a E => ?_
 refine ung E rfl rfl rfl ts1 ?_
 refine wv E rfl (r_bin (E.tmp rfl) (E.tmp rfl) (b_leq (b := decide (n ≤ hi)) rfl)) fun a E => wv E rfl (r_pick_t ((E.tmp rfl).trans (congrArg Value.bool ts1)) (E.tmp rfl)) fun a E => va E rfl rfl fun a E => ?_
 refine wpList_nil (then_n (wp_ret ?_))
 refine post1 E rfl (out_t E rfl) ?_
 have hE : (decide (n ≤ hi)) = inB n lo hi := by first | rfl | (simp only [inB, ts1, B1, B2, B3, B4, B5, B6, B7, B8, B9, B10, B11, B12, B13, B14]; done) | (simp only [inB, ts1, B1, B2, B3, B4, B5, B6, B7, B8, B9, B10, B11, B12, B13, B14]; rfl) | (simp [inB, ts1, B1, B2, B3, B4, B5, B6, B7, B8, B9, B10, B11, B12, B13, B14]; done) | ((try simp [inB, inB] at ts1); simp [inB, inB]; omega)
 exact rb hE H

set_option maxHeartbeats 1000000 in
theorem l23Task_q (n : Int) (w0 : World)  : Calls Try.prog 205 #[.int .i64 (n)] w0 fun e w' => e = .returned (.bool (inB n 1 1000)) ∧ Ext w0 w' := by
 refine enter_i (args := [.int .i64 (n)]) Try.func205 rfl Try.ntmps205 rfl sep0 (fun a w E H => ?_)
 have E : Env 5 a [(0, .int .i64 (n))] := E
 refine wp_seq (wp_region_lit ?_)
 refine wv E rfl (r_assign (ev_c _)) fun a E => ?_
 refine wpList_nil (then_n (wp_seq (wp_region_lit ?_)))
 refine vm E rfl rfl fun a E => ?_
 refine w_quiet (v := .bool (inB n 1 1000)) E rfl (ev_cons (E.tmp rfl) (ev_cons (ev_c _) (ev_cons (ev_c _) (ev_nil)))) ok_122 (l00In_q n 1 1000 w) H (fun a w E H => ?_)
 refine va E rfl rfl fun a E => ?_
 refine wpList_nil (then_n (wp_ret ?_))
 refine post1 E rfl (out_t E rfl) ?_
 have hE : (inB n 1 1000) = inB n 1 1000 := by first | rfl | (simp only [B1, B2, B3, B4, B5, B6, B7, B8, B9, B10, B11, B12, B13, B14]; done) | (simp only [B1, B2, B3, B4, B5, B6, B7, B8, B9, B10, B11, B12, B13, B14]; rfl) | (simp [B1, B2, B3, B4, B5, B6, B7, B8, B9, B10, B11, B12, B13, B14]; done) | (skip; simp [inB]; omega)
 exact rb hE H

set_option maxHeartbeats 1000000 in
theorem l23Actor_q (x : GDequeActor) (ow : Bool) (b o : Nat) (w0 : World) (hp : RoP w0 [] b o x.enc) : Calls Try.prog 206 #[.pointer (some ⟨b, o, none⟩), .bool (ow)] w0 fun e w' => e = .returned (.bool (actorB x ow)) ∧ Ext w0 w' := by
 refine enter_i (args := [.pointer (some ⟨b, o, none⟩), .bool (ow)]) Try.func206 rfl Try.ntmps206 rfl sep0 (fun a w E H => ?_)
 have E : Env 144 a [(0, .pointer (some ⟨b, o, none⟩)), (1, .bool (ow))] := E
 have r1p0 : RoP w0 [] b o [.sl x.todo.length (x.todo.flatMap intE), .v (.int .i64 (x.pc)), .v (.int .i64 (x.t)), .v (.int .i64 (x.b)), .v (.int .i64 (x.x))] := hp
 obtain ⟨r1A0, r1c0, r1k0, r1t0, r1n0, r1p1⟩ := RoP.sl r1p0
 clear r1p0
 obtain ⟨r1k1, r1p2⟩ := RoP.vv r1p1
 clear r1p1
 obtain ⟨r1k2, r1p3⟩ := RoP.vv r1p2
 clear r1p2
 obtain ⟨r1k3, r1p4⟩ := RoP.vv r1p3
 clear r1p3
 obtain ⟨r1k4, r1p5⟩ := RoP.vv r1p4
 clear r1p4
 clear r1p5
 refine wp_seq (wp_region_lit ?_)
 refine wv E rfl (r_assign (ev_c _)) fun a E => ?_
 refine wpList_nil (then_n (wp_seq (wp_seq ?_)))
 refine reg_mid (fun a w => Env 144 a [(0, .pointer (some ⟨b, o, none⟩)), (1, .bool (ow)), (4, .bool (false)), (44, .bool ((decide (10 < ((x.todo.length : Nat) : Int))) || ((!(inB x.pc 0 3)) || ((!(inB x.t 0 1000)) || ((!(inB x.b (-1) 1000)) || (!(inB x.x 0 1000)))))))] ∧ Tr.Inv w0 [] w []) ?_ (fun a w hj => ?_)
 ·
  refine wp_region_lit ?_
  refine vm E rfl rfl fun a E => wv E rfl (r_nil (E.tmp rfl)) fun a E => wv E rfl (r_fa (o' := o) (E.tmp rfl) fo_119_0 rfl) fun a E => wv E rfl (r_load (E.tmp rfl) ag_24 (r1k0.get H)) fun a E => ?_
  refine wv E rfl (r_len (E.tmp rfl) el_24) (fun a E => ?_)
  refine wv E rfl (r_bin (E.tmp rfl) (ev_c _) (b_gtr (b := decide (10 < ((x.todo.length : Nat) : Int))) rfl)) fun a E => vm E rfl rfl fun a E => ?_
  rcases bcase (decide (10 < ((x.todo.length : Nat) : Int))) with ts2 | ts2
  ·
   refine ung E rfl rfl rfl ts2 ?_
   refine vm E rfl rfl fun a E => ?_
   refine ung E rfl rfl rfl ts2 ?_
   refine wv E rfl (r_nil (E.tmp rfl)) fun a E => ?_
   refine ung E rfl rfl rfl ts2 ?_
   refine wv E rfl (r_fa (o' := o + 1) (E.tmp rfl) fo_119_1 rfl) fun a E => ?_
   refine ung E rfl rfl rfl ts2 ?_
   refine wv E rfl (r_load (E.tmp rfl) ag_2 (r1k1.get H)) fun a E => ?_
   refine ung E rfl rfl rfl ts2 ?_
   refine w_quiet (v := .bool (inB x.pc 0 3)) E rfl (ev_cons (E.tmp rfl) (ev_cons (ev_c _) (ev_cons (ev_c _) (ev_nil)))) ok_122 (l00In_q x.pc 0 3 w) H (fun a w E H => ?_)
   refine ung E rfl rfl rfl ts2 ?_
   refine wv E rfl (r_not (c := !(inB x.pc 0 3)) (E.tmp rfl) rfl) fun a E => wv E rfl (r_pick_f ((E.tmp rfl).trans (congrArg Value.bool ts2)) (E.tmp rfl)) fun a E => vm E rfl rfl fun a E => ?_
   rcases bcase (inB x.pc 0 3) with ts3 | ts3
   ·
    refine wnh (c := true) E rfl rfl rfl rfl (by rw [ts3]; rfl) rfl fun a E => ?_
    refine wnh (c := true) E rfl rfl rfl rfl (by rw [ts3]; rfl) rfl fun a E => ?_
    refine wnh (c := true) E rfl rfl rfl rfl (by rw [ts3]; rfl) rfl fun a E => ?_
    refine wnh (c := true) E rfl rfl rfl rfl (by rw [ts3]; rfl) rfl fun a E => ?_
    refine wnh (c := true) E rfl rfl rfl rfl (by rw [ts3]; rfl) rfl fun a E => ?_
    refine wnh (c := true) E rfl rfl rfl rfl (by rw [ts3]; rfl) rfl fun a E => ?_
    refine wv E rfl (r_pick_t ((E.tmp rfl).trans (congrArg Value.bool (by rw [ts3]; rfl))) (ev_c _)) fun a E => vm E rfl rfl fun a E => wn E rfl rfl rfl rfl rfl fun a E => wn E rfl rfl rfl rfl rfl fun a E => wn E rfl rfl rfl rfl rfl fun a E => ?_
    refine wn E rfl rfl rfl rfl rfl fun a E => wn E rfl rfl rfl rfl rfl fun a E => wn E rfl rfl rfl rfl rfl fun a E => wv E rfl (r_pick_t (E.tmp rfl) (ev_c _)) fun a E => vm E rfl rfl fun a E => ?_
    refine wn E rfl rfl rfl rfl rfl fun a E => wn E rfl rfl rfl rfl rfl fun a E => wn E rfl rfl rfl rfl rfl fun a E => wn E rfl rfl rfl rfl rfl fun a E => wn E rfl rfl rfl rfl rfl fun a E => ?_
    refine wn E rfl rfl rfl rfl rfl fun a E => wv E rfl (r_pick_t (E.tmp rfl) (ev_c _)) fun a E => ?_
    refine wpList_nil ?_
    have ej4 : ((decide (10 < ((x.todo.length : Nat) : Int))) || ((!(inB x.pc 0 3)) || ((!(inB x.t 0 1000)) || ((!(inB x.b (-1) 1000)) || (!(inB x.x 0 1000)))))) = true := by simp only [ts2, ts3, B1, B2, B3, B4, B5, B6, B7, B8, B9, B10, B11, B12, B13, B14]
    exact ⟨rfl, by rw [ej4]; exact (Env.pick E (Env.pick E (Env.pick E (Env.pick E E.nil rfl) rfl) rfl) rfl), H⟩
   refine ung E rfl rfl rfl (by rw [ts3]; rfl) ?_
   refine vm E rfl rfl fun a E => ?_
   refine ung E rfl rfl rfl (by rw [ts3]; rfl) ?_
   refine wv E rfl (r_nil (E.tmp rfl)) fun a E => ?_
   refine ung E rfl rfl rfl (by rw [ts3]; rfl) ?_
   refine wv E rfl (r_fa (o' := o + 2) (E.tmp rfl) fo_119_2 rfl) fun a E => ?_
   refine ung E rfl rfl rfl (by rw [ts3]; rfl) ?_
   refine wv E rfl (r_load (E.tmp rfl) ag_2 (r1k2.get H)) fun a E => ?_
   refine ung E rfl rfl rfl (by rw [ts3]; rfl) ?_
   refine w_quiet (v := .bool (inB x.t 0 1000)) E rfl (ev_cons (E.tmp rfl) (ev_cons (ev_c _) (ev_cons (ev_c _) (ev_nil)))) ok_122 (l00In_q x.t 0 1000 w) H (fun a w E H => ?_)
   refine ung E rfl rfl rfl (by rw [ts3]; rfl) ?_
   refine wv E rfl (r_not (c := !(inB x.t 0 1000)) (E.tmp rfl) rfl) fun a E => wv E rfl (r_pick_f ((E.tmp rfl).trans (congrArg Value.bool (by rw [ts3]; rfl))) (E.tmp rfl)) fun a E => vm E rfl rfl fun a E => ?_
   rcases bcase (inB x.t 0 1000) with ts5 | ts5
   ·
    refine wnh (c := true) E rfl rfl rfl rfl (by rw [ts5]; rfl) rfl fun a E => ?_
    refine wnh (c := true) E rfl rfl rfl rfl (by rw [ts5]; rfl) rfl fun a E => ?_
    refine wnh (c := true) E rfl rfl rfl rfl (by rw [ts5]; rfl) rfl fun a E => ?_
    refine wnh (c := true) E rfl rfl rfl rfl (by rw [ts5]; rfl) rfl fun a E => ?_
    refine wnh (c := true) E rfl rfl rfl rfl (by rw [ts5]; rfl) rfl fun a E => ?_
    refine wnh (c := true) E rfl rfl rfl rfl (by rw [ts5]; rfl) rfl fun a E => ?_
    refine wv E rfl (r_pick_t ((E.tmp rfl).trans (congrArg Value.bool (by rw [ts5]; rfl))) (ev_c _)) fun a E => vm E rfl rfl fun a E => wn E rfl rfl rfl rfl rfl fun a E => wn E rfl rfl rfl rfl rfl fun a E => wn E rfl rfl rfl rfl rfl fun a E => ?_
    refine wn E rfl rfl rfl rfl rfl fun a E => wn E rfl rfl rfl rfl rfl fun a E => wn E rfl rfl rfl rfl rfl fun a E => wv E rfl (r_pick_t (E.tmp rfl) (ev_c _)) fun a E => ?_
    refine wpList_nil ?_
    have ej6 : ((decide (10 < ((x.todo.length : Nat) : Int))) || ((!(inB x.pc 0 3)) || ((!(inB x.t 0 1000)) || ((!(inB x.b (-1) 1000)) || (!(inB x.x 0 1000)))))) = true := by simp only [ts2, ts3, ts5, B1, B2, B3, B4, B5, B6, B7, B8, B9, B10, B11, B12, B13, B14]
    exact ⟨rfl, by rw [ej6]; exact (Env.pick E (Env.pick E (Env.pick E (Env.pick E E.nil rfl) rfl) rfl) rfl), H⟩
   refine ung E rfl rfl rfl (by rw [ts5]; rfl) ?_
   refine vm E rfl rfl fun a E => ?_
   refine ung E rfl rfl rfl (by rw [ts5]; rfl) ?_
   refine wv E rfl (r_nil (E.tmp rfl)) fun a E => ?_
   refine ung E rfl rfl rfl (by rw [ts5]; rfl) ?_
   refine wv E rfl (r_fa (o' := o + 3) (E.tmp rfl) fo_119_3 rfl) fun a E => ?_
   refine ung E rfl rfl rfl (by rw [ts5]; rfl) ?_
   refine wv E rfl (r_load (E.tmp rfl) ag_2 (r1k3.get H)) fun a E => ?_
   refine ung E rfl rfl rfl (by rw [ts5]; rfl) ?_
   refine w_quiet (v := .bool (inB x.b (-1) 1000)) E rfl (ev_cons (E.tmp rfl) (ev_cons (ev_c _) (ev_cons (ev_c _) (ev_nil)))) ok_122 (l00In_q x.b (-1) 1000 w) H (fun a w E H => ?_)
   refine ung E rfl rfl rfl (by rw [ts5]; rfl) ?_
   refine wv E rfl (r_not (c := !(inB x.b (-1) 1000)) (E.tmp rfl) rfl) fun a E => wv E rfl (r_pick_f ((E.tmp rfl).trans (congrArg Value.bool (by rw [ts5]; rfl))) (E.tmp rfl)) fun a E => vm E rfl rfl fun a E => ?_
   rcases bcase (inB x.b (-1) 1000) with ts7 | ts7
   ·
    refine wnh (c := true) E rfl rfl rfl rfl (by rw [ts7]; rfl) rfl fun a E => ?_
    refine wnh (c := true) E rfl rfl rfl rfl (by rw [ts7]; rfl) rfl fun a E => ?_
    refine wnh (c := true) E rfl rfl rfl rfl (by rw [ts7]; rfl) rfl fun a E => ?_
    refine wnh (c := true) E rfl rfl rfl rfl (by rw [ts7]; rfl) rfl fun a E => ?_
    refine wnh (c := true) E rfl rfl rfl rfl (by rw [ts7]; rfl) rfl fun a E => ?_
    refine wnh (c := true) E rfl rfl rfl rfl (by rw [ts7]; rfl) rfl fun a E => ?_
    refine wv E rfl (r_pick_t ((E.tmp rfl).trans (congrArg Value.bool (by rw [ts7]; rfl))) (ev_c _)) fun a E => ?_
    refine wpList_nil ?_
    have ej8 : ((decide (10 < ((x.todo.length : Nat) : Int))) || ((!(inB x.pc 0 3)) || ((!(inB x.t 0 1000)) || ((!(inB x.b (-1) 1000)) || (!(inB x.x 0 1000)))))) = true := by simp only [ts2, ts3, ts5, ts7, B1, B2, B3, B4, B5, B6, B7, B8, B9, B10, B11, B12, B13, B14]
    exact ⟨rfl, by rw [ej8]; exact (Env.pick E (Env.pick E (Env.pick E (Env.pick E E.nil rfl) rfl) rfl) rfl), H⟩
   refine ung E rfl rfl rfl (by rw [ts7]; rfl) ?_
   refine vm E rfl rfl fun a E => ?_
   refine ung E rfl rfl rfl (by rw [ts7]; rfl) ?_
   refine wv E rfl (r_nil (E.tmp rfl)) fun a E => ?_
   refine ung E rfl rfl rfl (by rw [ts7]; rfl) ?_
   refine wv E rfl (r_fa (o' := o + 4) (E.tmp rfl) fo_119_4 rfl) fun a E => ?_
   refine ung E rfl rfl rfl (by rw [ts7]; rfl) ?_
   refine wv E rfl (r_load (E.tmp rfl) ag_2 (r1k4.get H)) fun a E => ?_
   refine ung E rfl rfl rfl (by rw [ts7]; rfl) ?_
   refine w_quiet (v := .bool (inB x.x 0 1000)) E rfl (ev_cons (E.tmp rfl) (ev_cons (ev_c _) (ev_cons (ev_c _) (ev_nil)))) ok_122 (l00In_q x.x 0 1000 w) H (fun a w E H => ?_)
   refine ung E rfl rfl rfl (by rw [ts7]; rfl) ?_
   refine wv E rfl (r_not (c := !(inB x.x 0 1000)) (E.tmp rfl) rfl) fun a E => wv E rfl (r_pick_f ((E.tmp rfl).trans (congrArg Value.bool (by rw [ts7]; rfl))) (E.tmp rfl)) fun a E => ?_
   refine wpList_nil ?_
   have ej9 : ((decide (10 < ((x.todo.length : Nat) : Int))) || ((!(inB x.pc 0 3)) || ((!(inB x.t 0 1000)) || ((!(inB x.b (-1) 1000)) || (!(inB x.x 0 1000)))))) = (!(inB x.x 0 1000)) := by simp only [ts2, ts3, ts5, ts7, B1, B2, B3, B4, B5, B6, B7, B8, B9, B10, B11, B12, B13, B14]
   exact ⟨rfl, by rw [ej9]; exact (Env.pick E (Env.pick E (Env.pick E (Env.pick E E.nil rfl) rfl) rfl) rfl), H⟩
  refine wnh (c := true) E rfl rfl rfl rfl ts2 rfl fun a E => ?_
  refine wnh (c := true) E rfl rfl rfl rfl ts2 rfl fun a E => ?_
  refine wnh (c := true) E rfl rfl rfl rfl ts2 rfl fun a E => ?_
  refine wnh (c := true) E rfl rfl rfl rfl ts2 rfl fun a E => ?_
  refine wnh (c := true) E rfl rfl rfl rfl ts2 rfl fun a E => ?_
  refine wnh (c := true) E rfl rfl rfl rfl ts2 rfl fun a E => ?_
  refine wv E rfl (r_pick_t ((E.tmp rfl).trans (congrArg Value.bool ts2)) (ev_c _)) fun a E => vm E rfl rfl fun a E => wn E rfl rfl rfl rfl rfl fun a E => wn E rfl rfl rfl rfl rfl fun a E => wn E rfl rfl rfl rfl rfl fun a E => ?_
  refine wn E rfl rfl rfl rfl rfl fun a E => wn E rfl rfl rfl rfl rfl fun a E => wn E rfl rfl rfl rfl rfl fun a E => wv E rfl (r_pick_t (E.tmp rfl) (ev_c _)) fun a E => vm E rfl rfl fun a E => ?_
  refine wn E rfl rfl rfl rfl rfl fun a E => wn E rfl rfl rfl rfl rfl fun a E => wn E rfl rfl rfl rfl rfl fun a E => wn E rfl rfl rfl rfl rfl fun a E => wn E rfl rfl rfl rfl rfl fun a E => ?_
  refine wn E rfl rfl rfl rfl rfl fun a E => wv E rfl (r_pick_t (E.tmp rfl) (ev_c _)) fun a E => vm E rfl rfl fun a E => wn E rfl rfl rfl rfl rfl fun a E => wn E rfl rfl rfl rfl rfl fun a E => ?_
  refine wn E rfl rfl rfl rfl rfl fun a E => wn E rfl rfl rfl rfl rfl fun a E => wn E rfl rfl rfl rfl rfl fun a E => wn E rfl rfl rfl rfl rfl fun a E => wv E rfl (r_pick_t (E.tmp rfl) (ev_c _)) fun a E => ?_
  refine wpList_nil ?_
  have ej10 : ((decide (10 < ((x.todo.length : Nat) : Int))) || ((!(inB x.pc 0 3)) || ((!(inB x.t 0 1000)) || ((!(inB x.b (-1) 1000)) || (!(inB x.x 0 1000)))))) = true := by simp only [ts2, B1, B2, B3, B4, B5, B6, B7, B8, B9, B10, B11, B12, B13, B14]
  exact ⟨rfl, by rw [ej10]; exact (Env.pick E (Env.pick E (Env.pick E (Env.pick E E.nil rfl) rfl) rfl) rfl), H⟩
 obtain ⟨E, H⟩ := hj
 refine then_n ?_
 rcases bcase ((decide (10 < ((x.todo.length : Nat) : Int))) || ((!(inB x.pc 0 3)) || ((!(inB x.t 0 1000)) || ((!(inB x.b (-1) 1000)) || (!(inB x.x 0 1000)))))) with ts11 | ts11
 ·
  obtain ⟨ts12, ts13⟩ := b_of ts11
  obtain ⟨ts14, ts15⟩ := b_of ts13
  have ts16 := b_nf ts14
  obtain ⟨ts17, ts18⟩ := b_of ts15
  have ts19 := b_nf ts17
  obtain ⟨ts20, ts21⟩ := b_of ts18
  have ts22 := b_nf ts20
  have ts23 := b_nf ts21
  refine cond_f E rfl ts11 ?_
  refine wp_skip (then_n (wp_seq (wp_seq (wp_region_lit ?_))))
  refine wv E rfl (r_assign (ev_c _)) fun a E => ?_
  refine wpList_nil (then_n (wp_block ?_))
  refine wp_loop_ghost (fun m a w => ∃ (k : Nat), m = x.todo.length - k ∧ k ≤ x.todo.length ∧ (x.todo.take k).all (fun n => todoOk n ow) = true ∧ Env 144 a [(0, .pointer (some ⟨b, o, none⟩)), (1, .bool (ow)), (5, .int .i64 (((k : Nat) : Int)))] ∧ Tr.Inv w0 [] w []) _ ⟨0, rfl, Nat.zero_le _, rfl, (Env.pick E (Env.pick E (Env.pick E E.nil rfl) rfl) rfl), H⟩ ?_
  rintro _ a w ⟨k, rfl, hkk, hallk, E, H⟩
  by_cases hltk : k < x.todo.length
  ·
   skip
   revert E
   revert H
   obtain ⟨e24b, e24o, e24y, rfl, e24x, e24q⟩ := Ro1.elem (f := intE) (s := 1) (fun _ => rfl) r1t0 rfl hltk
   intro H E
   have r25p0 : RoP w0 [] e24b (e24o + k * 1) [.v (.int .i64 (e24y))] := e24q
   obtain ⟨r25k0, r25p1⟩ := RoP.vv r25p0
   clear r25p0
   clear r25p1
   refine wp_seq (wp_seq (wp_region_lit ?_))
   refine vm E rfl rfl fun a E => vm E rfl rfl fun a E => wv E rfl (r_nil (E.tmp rfl)) fun a E => wv E rfl (r_fa (o' := o) (E.tmp rfl) fo_119_0 rfl) fun a E => wv E rfl (r_load (E.tmp rfl) ag_24 (r1k0.get H)) fun a E => ?_
   refine wv E rfl (r_len (E.tmp rfl) el_24) (fun a E => ?_)
   refine wv E rfl (r_bin (E.tmp rfl) (E.tmp rfl) (b_lss (b := true) (by simp; exact hltk))) fun a E => ?_
   refine wpList_nil (then_n ?_)
   refine cond_t E rfl rfl ?_
   refine wp_skip (then_n (wp_seq (wp_block (wp_seq (wp_region_lit ?_)))))
   refine vm E rfl rfl fun a E => wv E rfl (r_nil (E.tmp rfl)) fun a E => wv E rfl (r_fa (o' := o) (E.tmp rfl) fo_119_0 rfl) fun a E => wv E rfl (r_load (E.tmp rfl) ag_24 (r1k0.get H)) fun a E => vm E rfl rfl fun a E => ?_
   refine wv E rfl (r_ia (k := k) (o' := e24o + k * 1) (E.tmp rfl) (E.tmp rfl) rfl el_24 (by omega) rfl) fun a E => wv E rfl (r_load (E.tmp rfl) ag_2 (r25k0.get H)) fun a E => wv E rfl (r_bin (E.tmp rfl) (ev_c _) (b_neq (b := e24y != 0) rfl)) fun a E => vm E rfl rfl fun a E => ?_
   rcases bcase (e24y != 0) with ts26 | ts26
   ·
    refine wnh (c := false) E rfl rfl rfl rfl ts26 rfl fun a E => ?_
    refine wnh (c := false) E rfl rfl rfl rfl ts26 rfl fun a E => ?_
    refine wnh (c := false) E rfl rfl rfl rfl ts26 rfl fun a E => ?_
    refine wnu E rfl rfl rfl rfl fun a E => wnu E rfl rfl rfl rfl fun a E => wnu E rfl rfl rfl rfl fun a E => wnu E rfl rfl rfl rfl fun a E => wnu E rfl rfl rfl rfl fun a E => ?_
    refine wnu E rfl rfl rfl rfl fun a E => wnu E rfl rfl rfl rfl fun a E => wnu E rfl rfl rfl rfl fun a E => wnu E rfl rfl rfl rfl fun a E => ?_
    refine wnh (c := false) E rfl rfl rfl rfl ts26 rfl fun a E => ?_
    refine wv E rfl (r_pick_f ((E.tmp rfl).trans (congrArg Value.bool ts26)) (ev_c _)) fun a E => ?_
    refine wpList_nil (then_n ?_)
    refine cond_f E rfl rfl ?_
    refine wp_skip (inb_n (then_n (wp_region_lit ?_)))
    refine vm E rfl rfl fun a E => wv E rfl (r_bin (E.tmp rfl) (ev_c _) (b_add (wrap_succ (by omega)))) fun a E => va E rfl rfl fun a E => ?_
    refine wpList_nil ?_
    have hstep : (fun n => todoOk n ow) e24y = true := by first | rfl | (simp only [todoOk, ts12, ts16, ts19, ts22, ts23, ts26, B1, B2, B3, B4, B5, B6, B7, B8, B9, B10, B11, B12, B13, B14]; done) | (simp only [todoOk, ts12, ts16, ts19, ts22, ts23, ts26, B1, B2, B3, B4, B5, B6, B7, B8, B9, B10, B11, B12, B13, B14]; rfl) | (simp [todoOk, ts12, ts16, ts19, ts22, ts23, ts26, B1, B2, B3, B4, B5, B6, B7, B8, B9, B10, B11, B12, B13, B14]; done) | ((try simp [todoOk, inB] at ts12); (try simp [todoOk, inB] at ts16); (try simp [todoOk, inB] at ts19); (try simp [todoOk, inB] at ts22); (try simp [todoOk, inB] at ts23); (try simp [todoOk, inB] at ts26); simp [todoOk, inB]; omega)
    exact then_n ⟨_, by omega, k + 1, rfl, by omega, all_succ hallk e24x hstep, (Env.pick E (Env.pick E (Env.pick E E.nil rfl) rfl) rfl), H⟩
   refine ung E rfl rfl rfl ts26 ?_
   refine vm E rfl rfl fun a E => ?_
   refine ung E rfl rfl rfl ts26 ?_
   refine wv E rfl (r_not (c := !ow) (E.tmp rfl) rfl) fun a E => ?_
   refine ung E rfl rfl rfl ts26 ?_
   refine vm E rfl rfl fun a E => ?_
   rcases bcase (ow) with ts27 | ts27
   ·
    refine wnh (c := true) E rfl rfl rfl rfl (by rw [ts27]; rfl) rfl fun a E => ?_
    refine wnh (c := true) E rfl rfl rfl rfl (by rw [ts27]; rfl) rfl fun a E => ?_
    refine wnh (c := true) E rfl rfl rfl rfl (by rw [ts27]; rfl) rfl fun a E => ?_
    refine wnh (c := true) E rfl rfl rfl rfl (by rw [ts27]; rfl) rfl fun a E => ?_
    refine wnh (c := true) E rfl rfl rfl rfl (by rw [ts27]; rfl) rfl fun a E => ?_
    refine wnh (c := true) E rfl rfl rfl rfl (by rw [ts27]; rfl) rfl fun a E => ?_
    refine wnh (c := true) E rfl rfl rfl rfl (by rw [ts27]; rfl) rfl fun a E => ?_
    refine wnh (c := true) E rfl rfl rfl rfl (by rw [ts27]; rfl) rfl fun a E => ?_
    refine wnh (c := true) E rfl rfl rfl rfl (by rw [ts27]; rfl) rfl fun a E => ?_
    refine ung E rfl rfl rfl ts26 ?_
    refine wv E rfl (r_pick_t ((E.tmp rfl).trans (congrArg Value.bool (by rw [ts27]; rfl))) (ev_c _)) fun a E => wv E rfl (r_pick_t ((E.tmp rfl).trans (congrArg Value.bool ts26)) (E.tmp rfl)) fun a E => ?_
    refine wpList_nil (then_n ?_)
    refine cond_t E rfl rfl ?_
    refine wp_seq (wp_region_lit ?_)
    refine wv E rfl (r_assign (ev_c _)) fun a E => ?_
    refine wpList_nil (then_n (wp_ret (inb_r (then_r (then_r (inb_r (then_r ?_)))))))
    refine post1 E rfl (out_t E rfl) ?_
    have hbad := all_bad (p := fun n => todoOk n ow) e24x (by subst ts27; first | rfl | (simp only [todoOk, ts12, ts16, ts19, ts22, ts23, ts26, B1, B2, B3, B4, B5, B6, B7, B8, B9, B10, B11, B12, B13, B14]; done) | (simp only [todoOk, ts12, ts16, ts19, ts22, ts23, ts26, B1, B2, B3, B4, B5, B6, B7, B8, B9, B10, B11, B12, B13, B14]; rfl) | (simp [todoOk, ts12, ts16, ts19, ts22, ts23, ts26, B1, B2, B3, B4, B5, B6, B7, B8, B9, B10, B11, B12, B13, B14]; done) | ((try simp [todoOk, inB] at ts12); (try simp [todoOk, inB] at ts16); (try simp [todoOk, inB] at ts19); (try simp [todoOk, inB] at ts22); (try simp [todoOk, inB] at ts23); (try simp [todoOk, inB] at ts26); simp [todoOk, inB]; omega))
    have hE : false = actorB x ow := by subst ts27; first | rfl | (simp only [actorB, headOk, ts12, ts16, ts19, ts22, ts23, ts26, hbad, B1, B2, B3, B4, B5, B6, B7, B8, B9, B10, B11, B12, B13, B14]; done) | (simp only [actorB, headOk, ts12, ts16, ts19, ts22, ts23, ts26, hbad, B1, B2, B3, B4, B5, B6, B7, B8, B9, B10, B11, B12, B13, B14]; rfl) | (simp [actorB, headOk, ts12, ts16, ts19, ts22, ts23, ts26, hbad, B1, B2, B3, B4, B5, B6, B7, B8, B9, B10, B11, B12, B13, B14]; done) | ((try simp [actorB, headOk, inB] at ts12); (try simp [actorB, headOk, inB] at ts16); (try simp [actorB, headOk, inB] at ts19); (try simp [actorB, headOk, inB] at ts22); (try simp [actorB, headOk, inB] at ts23); (try simp [actorB, headOk, inB] at ts26); (try simp [actorB, headOk, inB] at hbad); simp [actorB, headOk, inB]; omega)
    exact rb hE H
   refine ung E rfl rfl rfl (by rw [ts27]; rfl) ?_
   refine vm E rfl rfl fun a E => ?_
   refine ung E rfl rfl rfl (by rw [ts27]; rfl) ?_
   refine wv E rfl (r_nil (E.tmp rfl)) fun a E => ?_
   refine ung E rfl rfl rfl (by rw [ts27]; rfl) ?_
   refine wv E rfl (r_fa (o' := o) (E.tmp rfl) fo_119_0 rfl) fun a E => ?_
   refine ung E rfl rfl rfl (by rw [ts27]; rfl) ?_
   refine wv E rfl (r_load (E.tmp rfl) ag_24 (r1k0.get H)) fun a E => ?_
   refine ung E rfl rfl rfl (by rw [ts27]; rfl) ?_
   refine vm E rfl rfl fun a E => ?_
   refine ung E rfl rfl rfl (by rw [ts27]; rfl) ?_
   refine wv E rfl (r_ia (k := k) (o' := e24o + k * 1) (E.tmp rfl) (E.tmp rfl) rfl el_24 (by omega) rfl) fun a E => ?_
   refine ung E rfl rfl rfl (by rw [ts27]; rfl) ?_
   refine wv E rfl (r_load (E.tmp rfl) ag_2 (r25k0.get H)) fun a E => ?_
   refine ung E rfl rfl rfl (by rw [ts27]; rfl) ?_
   refine w_quiet (v := .bool (inB e24y 1 1000)) E rfl (ev_cons (E.tmp rfl) (ev_nil)) ok_205 (l23Task_q e24y w) H (fun a w E H => ?_)
   refine ung E rfl rfl rfl (by rw [ts27]; rfl) ?_
   refine wv E rfl (r_not (c := !(inB e24y 1 1000)) (E.tmp rfl) rfl) fun a E => ?_
   refine ung E rfl rfl rfl ts26 ?_
   refine wv E rfl (r_pick_f ((E.tmp rfl).trans (congrArg Value.bool (by rw [ts27]; rfl))) (E.tmp rfl)) fun a E => wv E rfl (r_pick_t ((E.tmp rfl).trans (congrArg Value.bool ts26)) (E.tmp rfl)) fun a E => ?_
   refine wpList_nil (then_n ?_)
   rcases bcase (inB e24y 1 1000) with ts28 | ts28
   ·
    refine cond_t E rfl (by rw [ts28]; rfl) ?_
    refine wp_seq (wp_region_lit ?_)
    refine wv E rfl (r_assign (ev_c _)) fun a E => ?_
    refine wpList_nil (then_n (wp_ret (inb_r (then_r (then_r (inb_r (then_r ?_)))))))
    refine post1 E rfl (out_t E rfl) ?_
    have hbad := all_bad (p := fun n => todoOk n ow) e24x (by subst ts27; first | rfl | (simp only [todoOk, ts12, ts16, ts19, ts22, ts23, ts26, ts28, B1, B2, B3, B4, B5, B6, B7, B8, B9, B10, B11, B12, B13, B14]; done) | (simp only [todoOk, ts12, ts16, ts19, ts22, ts23, ts26, ts28, B1, B2, B3, B4, B5, B6, B7, B8, B9, B10, B11, B12, B13, B14]; rfl) | (simp [todoOk, ts12, ts16, ts19, ts22, ts23, ts26, ts28, B1, B2, B3, B4, B5, B6, B7, B8, B9, B10, B11, B12, B13, B14]; done) | ((try simp [todoOk, inB] at ts12); (try simp [todoOk, inB] at ts16); (try simp [todoOk, inB] at ts19); (try simp [todoOk, inB] at ts22); (try simp [todoOk, inB] at ts23); (try simp [todoOk, inB] at ts26); (try simp [todoOk, inB] at ts28); simp [todoOk, inB]; omega))
    have hE : false = actorB x ow := by subst ts27; first | rfl | (simp only [actorB, headOk, ts12, ts16, ts19, ts22, ts23, ts26, ts28, hbad, B1, B2, B3, B4, B5, B6, B7, B8, B9, B10, B11, B12, B13, B14]; done) | (simp only [actorB, headOk, ts12, ts16, ts19, ts22, ts23, ts26, ts28, hbad, B1, B2, B3, B4, B5, B6, B7, B8, B9, B10, B11, B12, B13, B14]; rfl) | (simp [actorB, headOk, ts12, ts16, ts19, ts22, ts23, ts26, ts28, hbad, B1, B2, B3, B4, B5, B6, B7, B8, B9, B10, B11, B12, B13, B14]; done) | ((try simp [actorB, headOk, inB] at ts12); (try simp [actorB, headOk, inB] at ts16); (try simp [actorB, headOk, inB] at ts19); (try simp [actorB, headOk, inB] at ts22); (try simp [actorB, headOk, inB] at ts23); (try simp [actorB, headOk, inB] at ts26); (try simp [actorB, headOk, inB] at ts28); (try simp [actorB, headOk, inB] at hbad); simp [actorB, headOk, inB]; omega)
    exact rb hE H
   refine cond_f E rfl (by rw [ts28]; rfl) ?_
   refine wp_skip (inb_n (then_n (wp_region_lit ?_)))
   refine vm E rfl rfl fun a E => wv E rfl (r_bin (E.tmp rfl) (ev_c _) (b_add (wrap_succ (by omega)))) fun a E => va E rfl rfl fun a E => ?_
   refine wpList_nil ?_
   have hstep : (fun n => todoOk n ow) e24y = true := by subst ts27; first | rfl | (simp only [todoOk, ts12, ts16, ts19, ts22, ts23, ts26, ts28, B1, B2, B3, B4, B5, B6, B7, B8, B9, B10, B11, B12, B13, B14]; done) | (simp only [todoOk, ts12, ts16, ts19, ts22, ts23, ts26, ts28, B1, B2, B3, B4, B5, B6, B7, B8, B9, B10, B11, B12, B13, B14]; rfl) | (simp [todoOk, ts12, ts16, ts19, ts22, ts23, ts26, ts28, B1, B2, B3, B4, B5, B6, B7, B8, B9, B10, B11, B12, B13, B14]; done) | ((try simp [todoOk, inB] at ts12); (try simp [todoOk, inB] at ts16); (try simp [todoOk, inB] at ts19); (try simp [todoOk, inB] at ts22); (try simp [todoOk, inB] at ts23); (try simp [todoOk, inB] at ts26); (try simp [todoOk, inB] at ts28); simp [todoOk, inB]; omega)
   exact then_n ⟨_, by omega, k + 1, rfl, by omega, all_succ hallk e24x hstep, (Env.pick E (Env.pick E (Env.pick E E.nil rfl) rfl) rfl), H⟩
  ·
   skip
   have hfullk := all_full hallk (by omega)
   refine wp_seq (wp_seq (wp_region_lit ?_))
   refine vm E rfl rfl fun a E => vm E rfl rfl fun a E => wv E rfl (r_nil (E.tmp rfl)) fun a E => wv E rfl (r_fa (o' := o) (E.tmp rfl) fo_119_0 rfl) fun a E => wv E rfl (r_load (E.tmp rfl) ag_24 (r1k0.get H)) fun a E => ?_
   refine wv E rfl (r_len (E.tmp rfl) el_24) (fun a E => ?_)
   refine wv E rfl (r_bin (E.tmp rfl) (E.tmp rfl) (b_lss (b := false) (by simp; omega))) fun a E => ?_
   refine wpList_nil (then_n ?_)
   refine cond_f E rfl rfl ?_
   refine wp_exit (then_e (then_e (inb_ee (then_n (wp_seq ?_)))))
   refine reg_mid (fun a w => Env 144 a [(0, .pointer (some ⟨b, o, none⟩)), (1, .bool (ow)), (6, .bool ((x.pc == 0) && ((x.t == 0) && ((x.b == 0) && (x.x == 0)))))] ∧ Tr.Inv w0 [] w []) ?_ (fun a w hj => ?_)
   ·
    refine wp_region_lit ?_
    refine vm E rfl rfl fun a E => wv E rfl (r_nil (E.tmp rfl)) fun a E => wv E rfl (r_fa (o' := o + 1) (E.tmp rfl) fo_119_1 rfl) fun a E => wv E rfl (r_load (E.tmp rfl) ag_2 (r1k1.get H)) fun a E => wv E rfl (r_bin (E.tmp rfl) (ev_c _) (b_eql (b := x.pc == 0) rfl)) fun a E => ?_
    refine vm E rfl rfl fun a E => ?_
    rcases bcase (x.pc == 0) with ts29 | ts29
    ·
     refine wnh (c := false) E rfl rfl rfl rfl ts29 rfl fun a E => ?_
     refine wnh (c := false) E rfl rfl rfl rfl ts29 rfl fun a E => ?_
     refine wnh (c := false) E rfl rfl rfl rfl ts29 rfl fun a E => ?_
     refine wnh (c := false) E rfl rfl rfl rfl ts29 rfl fun a E => ?_
     refine wnh (c := false) E rfl rfl rfl rfl ts29 rfl fun a E => ?_
     refine wv E rfl (r_pick_f ((E.tmp rfl).trans (congrArg Value.bool ts29)) (ev_c _)) fun a E => vm E rfl rfl fun a E => wn E rfl rfl rfl rfl rfl fun a E => wn E rfl rfl rfl rfl rfl fun a E => wn E rfl rfl rfl rfl rfl fun a E => ?_
     refine wn E rfl rfl rfl rfl rfl fun a E => wn E rfl rfl rfl rfl rfl fun a E => wv E rfl (r_pick_f (E.tmp rfl) (ev_c _)) fun a E => vm E rfl rfl fun a E => wn E rfl rfl rfl rfl rfl fun a E => ?_
     refine wn E rfl rfl rfl rfl rfl fun a E => wn E rfl rfl rfl rfl rfl fun a E => wn E rfl rfl rfl rfl rfl fun a E => wn E rfl rfl rfl rfl rfl fun a E => wv E rfl (r_pick_f (E.tmp rfl) (ev_c _)) fun a E => ?_
     refine va E rfl rfl fun a E => ?_
     refine wpList_nil ?_
     have ej30 : ((x.pc == 0) && ((x.t == 0) && ((x.b == 0) && (x.x == 0)))) = false := by simp only [ts29, B1, B2, B3, B4, B5, B6, B7, B8, B9, B10, B11, B12, B13, B14]
     exact ⟨rfl, by rw [ej30]; exact (Env.pick E (Env.pick E (Env.pick E E.nil rfl) rfl) rfl), H⟩
    refine ung E rfl rfl rfl ts29 ?_
    refine vm E rfl rfl fun a E => ?_
    refine ung E rfl rfl rfl ts29 ?_
    refine wv E rfl (r_nil (E.tmp rfl)) fun a E => ?_
    refine ung E rfl rfl rfl ts29 ?_
    refine wv E rfl (r_fa (o' := o + 2) (E.tmp rfl) fo_119_2 rfl) fun a E => ?_
    refine ung E rfl rfl rfl ts29 ?_
    refine wv E rfl (r_load (E.tmp rfl) ag_2 (r1k2.get H)) fun a E => ?_
    refine ung E rfl rfl rfl ts29 ?_
    refine wv E rfl (r_bin (E.tmp rfl) (ev_c _) (b_eql (b := x.t == 0) rfl)) fun a E => wv E rfl (r_pick_t ((E.tmp rfl).trans (congrArg Value.bool ts29)) (E.tmp rfl)) fun a E => vm E rfl rfl fun a E => ?_
    rcases bcase (x.t == 0) with ts31 | ts31
    ·
     refine wnh (c := false) E rfl rfl rfl rfl ts31 rfl fun a E => ?_
     refine wnh (c := false) E rfl rfl rfl rfl ts31 rfl fun a E => ?_
     refine wnh (c := false) E rfl rfl rfl rfl ts31 rfl fun a E => ?_
     refine wnh (c := false) E rfl rfl rfl rfl ts31 rfl fun a E => ?_
     refine wnh (c := false) E rfl rfl rfl rfl ts31 rfl fun a E => ?_
     refine wv E rfl (r_pick_f ((E.tmp rfl).trans (congrArg Value.bool ts31)) (ev_c _)) fun a E => vm E rfl rfl fun a E => wn E rfl rfl rfl rfl rfl fun a E => wn E rfl rfl rfl rfl rfl fun a E => wn E rfl rfl rfl rfl rfl fun a E => ?_
     refine wn E rfl rfl rfl rfl rfl fun a E => wn E rfl rfl rfl rfl rfl fun a E => wv E rfl (r_pick_f (E.tmp rfl) (ev_c _)) fun a E => va E rfl rfl fun a E => ?_
     refine wpList_nil ?_
     have ej32 : ((x.pc == 0) && ((x.t == 0) && ((x.b == 0) && (x.x == 0)))) = false := by simp only [ts29, ts31, B1, B2, B3, B4, B5, B6, B7, B8, B9, B10, B11, B12, B13, B14]
     exact ⟨rfl, by rw [ej32]; exact (Env.pick E (Env.pick E (Env.pick E E.nil rfl) rfl) rfl), H⟩
    refine ung E rfl rfl rfl ts31 ?_
    refine vm E rfl rfl fun a E => ?_
    refine ung E rfl rfl rfl ts31 ?_
    refine wv E rfl (r_nil (E.tmp rfl)) fun a E => ?_
    refine ung E rfl rfl rfl ts31 ?_
    refine wv E rfl (r_fa (o' := o + 3) (E.tmp rfl) fo_119_3 rfl) fun a E => ?_
    refine ung E rfl rfl rfl ts31 ?_
    refine wv E rfl (r_load (E.tmp rfl) ag_2 (r1k3.get H)) fun a E => ?_
    refine ung E rfl rfl rfl ts31 ?_
    refine wv E rfl (r_bin (E.tmp rfl) (ev_c _) (b_eql (b := x.b == 0) rfl)) fun a E => wv E rfl (r_pick_t ((E.tmp rfl).trans (congrArg Value.bool ts31)) (E.tmp rfl)) fun a E => vm E rfl rfl fun a E => ?_
    rcases bcase (x.b == 0) with ts33 | ts33
    ·
     refine wnh (c := false) E rfl rfl rfl rfl ts33 rfl fun a E => ?_
     refine wnh (c := false) E rfl rfl rfl rfl ts33 rfl fun a E => ?_
     refine wnh (c := false) E rfl rfl rfl rfl ts33 rfl fun a E => ?_
     refine wnh (c := false) E rfl rfl rfl rfl ts33 rfl fun a E => ?_
     refine wnh (c := false) E rfl rfl rfl rfl ts33 rfl fun a E => ?_
     refine wv E rfl (r_pick_f ((E.tmp rfl).trans (congrArg Value.bool ts33)) (ev_c _)) fun a E => va E rfl rfl fun a E => ?_
     refine wpList_nil ?_
     have ej34 : ((x.pc == 0) && ((x.t == 0) && ((x.b == 0) && (x.x == 0)))) = false := by simp only [ts29, ts31, ts33, B1, B2, B3, B4, B5, B6, B7, B8, B9, B10, B11, B12, B13, B14]
     exact ⟨rfl, by rw [ej34]; exact (Env.pick E (Env.pick E (Env.pick E E.nil rfl) rfl) rfl), H⟩
    refine ung E rfl rfl rfl ts33 ?_
    refine vm E rfl rfl fun a E => ?_
    refine ung E rfl rfl rfl ts33 ?_
    refine wv E rfl (r_nil (E.tmp rfl)) fun a E => ?_
    refine ung E rfl rfl rfl ts33 ?_
    refine wv E rfl (r_fa (o' := o + 4) (E.tmp rfl) fo_119_4 rfl) fun a E => ?_
    refine ung E rfl rfl rfl ts33 ?_
    refine wv E rfl (r_load (E.tmp rfl) ag_2 (r1k4.get H)) fun a E => ?_
    refine ung E rfl rfl rfl ts33 ?_
    refine wv E rfl (r_bin (E.tmp rfl) (ev_c _) (b_eql (b := x.x == 0) rfl)) fun a E => wv E rfl (r_pick_t ((E.tmp rfl).trans (congrArg Value.bool ts33)) (E.tmp rfl)) fun a E => va E rfl rfl fun a E => ?_
    refine wpList_nil ?_
    have ej35 : ((x.pc == 0) && ((x.t == 0) && ((x.b == 0) && (x.x == 0)))) = (x.x == 0) := by simp only [ts29, ts31, ts33, B1, B2, B3, B4, B5, B6, B7, B8, B9, B10, B11, B12, B13, B14]
    exact ⟨rfl, by rw [ej35]; exact (Env.pick E (Env.pick E (Env.pick E E.nil rfl) rfl) rfl), H⟩
   obtain ⟨E, H⟩ := hj
   refine then_n (wp_seq (wp_seq ?_))
   refine reg_mid (fun a w => Env 144 a [(0, .pointer (some ⟨b, o, none⟩)), (1, .bool (ow)), (6, .bool ((x.pc == 0) && ((x.t == 0) && ((x.b == 0) && (x.x == 0))))), (115, .bool ((x.pc == 0) || (((x.todo.length : Nat) : Int) == 0)))] ∧ Tr.Inv w0 [] w []) ?_ (fun a w hj => ?_)
   ·
    refine wp_region_lit ?_
    refine vm E rfl rfl fun a E => wv E rfl (r_nil (E.tmp rfl)) fun a E => wv E rfl (r_fa (o' := o + 1) (E.tmp rfl) fo_119_1 rfl) fun a E => wv E rfl (r_load (E.tmp rfl) ag_2 (r1k1.get H)) fun a E => wv E rfl (r_bin (E.tmp rfl) (ev_c _) (b_eql (b := x.pc == 0) rfl)) fun a E => ?_
    refine vm E rfl rfl fun a E => ?_
    rcases bcase (x.pc == 0) with ts36 | ts36
    ·
     refine ung E rfl rfl rfl ts36 ?_
     refine vm E rfl rfl fun a E => ?_
     refine ung E rfl rfl rfl ts36 ?_
     refine wv E rfl (r_nil (E.tmp rfl)) fun a E => ?_
     refine ung E rfl rfl rfl ts36 ?_
     refine wv E rfl (r_fa (o' := o) (E.tmp rfl) fo_119_0 rfl) fun a E => ?_
     refine ung E rfl rfl rfl ts36 ?_
     refine wv E rfl (r_load (E.tmp rfl) ag_24 (r1k0.get H)) fun a E => ?_
     refine ung E rfl rfl rfl ts36 ?_
     refine wv E rfl (r_len (E.tmp rfl) el_24) (fun a E => ?_)
     refine ung E rfl rfl rfl ts36 ?_
     refine wv E rfl (r_bin (E.tmp rfl) (ev_c _) (b_eql (b := ((x.todo.length : Nat) : Int) == 0) rfl)) fun a E => wv E rfl (r_pick_f ((E.tmp rfl).trans (congrArg Value.bool ts36)) (E.tmp rfl)) fun a E => ?_
     refine wpList_nil ?_
     have ej37 : ((x.pc == 0) || (((x.todo.length : Nat) : Int) == 0)) = (((x.todo.length : Nat) : Int) == 0) := by simp only [ts36, B1, B2, B3, B4, B5, B6, B7, B8, B9, B10, B11, B12, B13, B14]
     exact ⟨rfl, by rw [ej37]; exact (Env.pick E (Env.pick E (Env.pick E (Env.pick E E.nil rfl) rfl) rfl) rfl), H⟩
    refine wnh (c := true) E rfl rfl rfl rfl ts36 rfl fun a E => ?_
    refine wnh (c := true) E rfl rfl rfl rfl ts36 rfl fun a E => ?_
    refine wnh (c := true) E rfl rfl rfl rfl ts36 rfl fun a E => ?_
    refine wnh (c := true) E rfl rfl rfl rfl ts36 rfl fun a E => ?_
    refine wnh (c := true) E rfl rfl rfl rfl ts36 rfl fun a E => ?_
    refine wnh (c := true) E rfl rfl rfl rfl ts36 rfl fun a E => ?_
    refine wv E rfl (r_pick_t ((E.tmp rfl).trans (congrArg Value.bool ts36)) (ev_c _)) fun a E => ?_
    refine wpList_nil ?_
    have ej38 : ((x.pc == 0) || (((x.todo.length : Nat) : Int) == 0)) = true := by simp only [ts36, B1, B2, B3, B4, B5, B6, B7, B8, B9, B10, B11, B12, B13, B14]
    exact ⟨rfl, by rw [ej38]; exact (Env.pick E (Env.pick E (Env.pick E (Env.pick E E.nil rfl) rfl) rfl) rfl), H⟩
   obtain ⟨E, H⟩ := hj
   refine then_n ?_
   rcases bcase ((x.pc == 0) || (((x.todo.length : Nat) : Int) == 0)) with ts39 | ts39
   ·
    obtain ⟨ts40, ts41⟩ := b_of ts39
    refine cond_f E rfl ts39 ?_
    refine wp_skip (then_n (wp_seq (wp_seq ?_)))
    have hpos : 0 < x.todo.length := by have h := ts41; simp at h; exact List.length_pos_iff.2 h
    revert E
    revert H
    obtain ⟨e42b, e42o, e42y, rfl, e42x, e42q⟩ := Ro1.elem (f := intE) (s := 1) (fun _ => rfl) r1t0 rfl hpos
    intro H E
    have r43p0 : RoP w0 [] e42b e42o [.v (.int .i64 (e42y))] := e42q
    obtain ⟨r43k0, r43p1⟩ := RoP.vv r43p0
    clear r43p0
    clear r43p1
    refine wp_region_lit ?_
    refine vm E rfl rfl fun a E => wv E rfl (r_nil (E.tmp rfl)) fun a E => wv E rfl (r_fa (o' := o) (E.tmp rfl) fo_119_0 rfl) fun a E => wv E rfl (r_load (E.tmp rfl) ag_24 (r1k0.get H)) fun a E => wv E rfl (r_ia (k := 0) (o' := e42o) (E.tmp rfl) (ev_c _) rfl el_24 (by omega) rfl) fun a E => ?_
    refine wv E rfl (r_load (E.tmp rfl) ag_2 (r43k0.get H)) fun a E => wv E rfl (r_bin (E.tmp rfl) (ev_c _) (b_neq (b := e42y != 0) rfl)) fun a E => ?_
    refine wpList_nil (then_n ?_)
    rcases bcase (e42y != 0) with ts44 | ts44
    ·
     refine cond_f E rfl ts44 ?_
     refine wp_skip (then_n (wp_seq (wp_region_lit ?_)))
     refine vm E rfl rfl fun a E => vm E rfl rfl fun a E => ?_
     rcases bcase (ow) with ts45 | ts45
     ·
      refine ung E rfl rfl rfl ts45 ?_
      refine vm E rfl rfl fun a E => ?_
      refine ung E rfl rfl rfl ts45 ?_
      refine wv E rfl (r_nil (E.tmp rfl)) fun a E => ?_
      refine ung E rfl rfl rfl ts45 ?_
      refine wv E rfl (r_fa (o' := o + 3) (E.tmp rfl) fo_119_3 rfl) fun a E => ?_
      refine ung E rfl rfl rfl ts45 ?_
      refine wv E rfl (r_load (E.tmp rfl) ag_2 (r1k3.get H)) fun a E => ?_
      refine ung E rfl rfl rfl ts45 ?_
      refine wv E rfl (r_bin (E.tmp rfl) (ev_c _) (b_geq (b := decide (0 ≤ x.b)) rfl)) fun a E => wv E rfl (r_pick_f ((E.tmp rfl).trans (congrArg Value.bool ts45)) (E.tmp rfl)) fun a E => va E rfl rfl fun a E => ?_
      refine wpList_nil (then_n (wp_ret ?_))
      refine post1 E rfl (out_t E rfl) ?_
      have hE : (decide (0 ≤ x.b)) = actorB x ow := by subst ts45; first | rfl | (simp only [actorB, headOk, ts12, ts16, ts19, ts22, ts23, hfullk, ts40, ts41, e42x, ts44, B1, B2, B3, B4, B5, B6, B7, B8, B9, B10, B11, B12, B13, B14]; done) | (simp only [actorB, headOk, ts12, ts16, ts19, ts22, ts23, hfullk, ts40, ts41, e42x, ts44, B1, B2, B3, B4, B5, B6, B7, B8, B9, B10, B11, B12, B13, B14]; rfl) | (simp [actorB, headOk, ts12, ts16, ts19, ts22, ts23, hfullk, ts40, ts41, e42x, ts44, B1, B2, B3, B4, B5, B6, B7, B8, B9, B10, B11, B12, B13, B14]; done) | ((try simp [actorB, headOk, inB] at ts12); (try simp [actorB, headOk, inB] at ts16); (try simp [actorB, headOk, inB] at ts19); (try simp [actorB, headOk, inB] at ts22); (try simp [actorB, headOk, inB] at ts23); (try simp [actorB, headOk, inB] at hfullk); (try simp [actorB, headOk, inB] at ts40); (try simp [actorB, headOk, inB] at ts41); (try simp [actorB, headOk, inB] at e42x); (try simp [actorB, headOk, inB] at ts44); simp [actorB, headOk, inB]; omega)
      exact rb hE H
     refine wnh (c := true) E rfl rfl rfl rfl ts45 rfl fun a E => ?_
     refine wnh (c := true) E rfl rfl rfl rfl ts45 rfl fun a E => ?_
     refine wnh (c := true) E rfl rfl rfl rfl ts45 rfl fun a E => ?_
     refine wnh (c := true) E rfl rfl rfl rfl ts45 rfl fun a E => ?_
     refine wnh (c := true) E rfl rfl rfl rfl ts45 rfl fun a E => ?_
     refine wv E rfl (r_pick_t ((E.tmp rfl).trans (congrArg Value.bool ts45)) (ev_c _)) fun a E => va E rfl rfl fun a E => ?_
     refine wpList_nil (then_n (wp_ret ?_))
     refine post1 E rfl (out_t E rfl) ?_
     have hE : true = actorB x ow := by subst ts45; first | rfl | (simp only [actorB, headOk, ts12, ts16, ts19, ts22, ts23, hfullk, ts40, ts41, e42x, ts44, B1, B2, B3, B4, B5, B6, B7, B8, B9, B10, B11, B12, B13, B14]; done) | (simp only [actorB, headOk, ts12, ts16, ts19, ts22, ts23, hfullk, ts40, ts41, e42x, ts44, B1, B2, B3, B4, B5, B6, B7, B8, B9, B10, B11, B12, B13, B14]; rfl) | (simp [actorB, headOk, ts12, ts16, ts19, ts22, ts23, hfullk, ts40, ts41, e42x, ts44, B1, B2, B3, B4, B5, B6, B7, B8, B9, B10, B11, B12, B13, B14]; done) | ((try simp [actorB, headOk, inB] at ts12); (try simp [actorB, headOk, inB] at ts16); (try simp [actorB, headOk, inB] at ts19); (try simp [actorB, headOk, inB] at ts22); (try simp [actorB, headOk, inB] at ts23); (try simp [actorB, headOk, inB] at hfullk); (try simp [actorB, headOk, inB] at ts40); (try simp [actorB, headOk, inB] at ts41); (try simp [actorB, headOk, inB] at e42x); (try simp [actorB, headOk, inB] at ts44); simp [actorB, headOk, inB]; omega)
     exact rb hE H
    refine cond_t E rfl ts44 ?_
    refine wp_seq (wp_region_lit ?_)
    refine vm E rfl rfl fun a E => wv E rfl (r_nil (E.tmp rfl)) fun a E => wv E rfl (r_fa (o' := o + 1) (E.tmp rfl) fo_119_1 rfl) fun a E => wv E rfl (r_load (E.tmp rfl) ag_2 (r1k1.get H)) fun a E => wv E rfl (r_bin (E.tmp rfl) (ev_c _) (b_lss (b := decide (x.pc < 3)) rfl)) fun a E => ?_
    refine vm E rfl rfl fun a E => ?_
    rcases bcase (decide (x.pc < 3)) with ts46 | ts46
    ·
     refine wnh (c := false) E rfl rfl rfl rfl ts46 rfl fun a E => ?_
     refine wnh (c := false) E rfl rfl rfl rfl ts46 rfl fun a E => ?_
     refine wnh (c := false) E rfl rfl rfl rfl ts46 rfl fun a E => ?_
     refine wnh (c := false) E rfl rfl rfl rfl ts46 rfl fun a E => ?_
     refine wnh (c := false) E rfl rfl rfl rfl ts46 rfl fun a E => ?_
     refine wv E rfl (r_pick_f ((E.tmp rfl).trans (congrArg Value.bool ts46)) (ev_c _)) fun a E => va E rfl rfl fun a E => ?_
     refine wpList_nil (then_n (wp_ret (then_r ?_)))
     refine post1 E rfl (out_t E rfl) ?_
     have hE : false = actorB x ow := by first | rfl | (simp only [actorB, headOk, ts12, ts16, ts19, ts22, ts23, hfullk, ts40, ts41, e42x, ts44, ts46, B1, B2, B3, B4, B5, B6, B7, B8, B9, B10, B11, B12, B13, B14]; done) | (simp only [actorB, headOk, ts12, ts16, ts19, ts22, ts23, hfullk, ts40, ts41, e42x, ts44, ts46, B1, B2, B3, B4, B5, B6, B7, B8, B9, B10, B11, B12, B13, B14]; rfl) | (simp [actorB, headOk, ts12, ts16, ts19, ts22, ts23, hfullk, ts40, ts41, e42x, ts44, ts46, B1, B2, B3, B4, B5, B6, B7, B8, B9, B10, B11, B12, B13, B14]; done) | ((try simp [actorB, headOk, inB] at ts12); (try simp [actorB, headOk, inB] at ts16); (try simp [actorB, headOk, inB] at ts19); (try simp [actorB, headOk, inB] at ts22); (try simp [actorB, headOk, inB] at ts23); (try simp [actorB, headOk, inB] at hfullk); (try simp [actorB, headOk, inB] at ts40); (try simp [actorB, headOk, inB] at ts41); (try simp [actorB, headOk, inB] at e42x); (try simp [actorB, headOk, inB] at ts44); (try simp [actorB, headOk, inB] at ts46); simp [actorB, headOk, inB]; omega)
     exact rb hE H
    refine ung E rfl rfl rfl ts46 ?_
    refine vm E rfl rfl fun a E => ?_
    refine ung E rfl rfl rfl ts46 ?_
    refine wv E rfl (r_nil (E.tmp rfl)) fun a E => ?_
    refine ung E rfl rfl rfl ts46 ?_
    refine wv E rfl (r_fa (o' := o + 3) (E.tmp rfl) fo_119_3 rfl) fun a E => ?_
    refine ung E rfl rfl rfl ts46 ?_
    refine wv E rfl (r_load (E.tmp rfl) ag_2 (r1k3.get H)) fun a E => ?_
    refine ung E rfl rfl rfl ts46 ?_
    refine wv E rfl (r_bin (E.tmp rfl) (ev_c _) (b_geq (b := decide (0 ≤ x.b)) rfl)) fun a E => wv E rfl (r_pick_t ((E.tmp rfl).trans (congrArg Value.bool ts46)) (E.tmp rfl)) fun a E => va E rfl rfl fun a E => ?_
    refine wpList_nil (then_n (wp_ret (then_r ?_)))
    refine post1 E rfl (out_t E rfl) ?_
    have hE : (decide (0 ≤ x.b)) = actorB x ow := by first | rfl | (simp only [actorB, headOk, ts12, ts16, ts19, ts22, ts23, hfullk, ts40, ts41, e42x, ts44, ts46, B1, B2, B3, B4, B5, B6, B7, B8, B9, B10, B11, B12, B13, B14]; done) | (simp only [actorB, headOk, ts12, ts16, ts19, ts22, ts23, hfullk, ts40, ts41, e42x, ts44, ts46, B1, B2, B3, B4, B5, B6, B7, B8, B9, B10, B11, B12, B13, B14]; rfl) | (simp [actorB, headOk, ts12, ts16, ts19, ts22, ts23, hfullk, ts40, ts41, e42x, ts44, ts46, B1, B2, B3, B4, B5, B6, B7, B8, B9, B10, B11, B12, B13, B14]; done) | ((try simp [actorB, headOk, inB] at ts12); (try simp [actorB, headOk, inB] at ts16); (try simp [actorB, headOk, inB] at ts19); (try simp [actorB, headOk, inB] at ts22); (try simp [actorB, headOk, inB] at ts23); (try simp [actorB, headOk, inB] at hfullk); (try simp [actorB, headOk, inB] at ts40); (try simp [actorB, headOk, inB] at ts41); (try simp [actorB, headOk, inB] at e42x); (try simp [actorB, headOk, inB] at ts44); (try simp [actorB, headOk, inB] at ts46); simp [actorB, headOk, inB]; omega)
    exact rb hE H
   refine cond_t E rfl ts39 ?_
   refine wp_seq (wp_region_lit ?_)
   refine vm E rfl rfl fun a E => va E rfl rfl fun a E => ?_
   refine wpList_nil (then_n (wp_ret (then_r ?_)))
   refine post1 E rfl (out_t E rfl) ?_
   rcases bcase ((x.pc == 0) && ((x.t == 0) && ((x.b == 0) && (x.x == 0)))) with ts47 | ts47
   ·
    rw [show ((x.pc == 0) && ((x.t == 0) && ((x.b == 0) && (x.x == 0)))) = false from ts47]
    rcases b_ot ts39 with ts48 | ⟨ts48, ts49⟩
    ·
     rcases b_af ts47 with ts50 | ⟨ts50, ts51⟩
     ·
      have hE : false = actorB x ow := by first | rfl | (simp only [actorB, headOk, ts12, ts16, ts19, ts22, ts23, hfullk, ts48, ts50, B1, B2, B3, B4, B5, B6, B7, B8, B9, B10, B11, B12, B13, B14]; done) | (simp only [actorB, headOk, ts12, ts16, ts19, ts22, ts23, hfullk, ts48, ts50, B1, B2, B3, B4, B5, B6, B7, B8, B9, B10, B11, B12, B13, B14]; rfl) | (simp [actorB, headOk, ts12, ts16, ts19, ts22, ts23, hfullk, ts48, ts50, B1, B2, B3, B4, B5, B6, B7, B8, B9, B10, B11, B12, B13, B14]; done) | ((try simp [actorB, headOk, inB] at ts12); (try simp [actorB, headOk, inB] at ts16); (try simp [actorB, headOk, inB] at ts19); (try simp [actorB, headOk, inB] at ts22); (try simp [actorB, headOk, inB] at ts23); (try simp [actorB, headOk, inB] at hfullk); (try simp [actorB, headOk, inB] at ts48); (try simp [actorB, headOk, inB] at ts50); simp [actorB, headOk, inB]; omega)
      exact rb hE H
     rcases b_af ts51 with ts52 | ⟨ts52, ts53⟩
     ·
      have hE : false = actorB x ow := by first | rfl | (simp only [actorB, headOk, ts12, ts16, ts19, ts22, ts23, hfullk, ts48, ts50, ts52, B1, B2, B3, B4, B5, B6, B7, B8, B9, B10, B11, B12, B13, B14]; done) | (simp only [actorB, headOk, ts12, ts16, ts19, ts22, ts23, hfullk, ts48, ts50, ts52, B1, B2, B3, B4, B5, B6, B7, B8, B9, B10, B11, B12, B13, B14]; rfl) | (simp [actorB, headOk, ts12, ts16, ts19, ts22, ts23, hfullk, ts48, ts50, ts52, B1, B2, B3, B4, B5, B6, B7, B8, B9, B10, B11, B12, B13, B14]; done) | ((try simp [actorB, headOk, inB] at ts12); (try simp [actorB, headOk, inB] at ts16); (try simp [actorB, headOk, inB] at ts19); (try simp [actorB, headOk, inB] at ts22); (try simp [actorB, headOk, inB] at ts23); (try simp [actorB, headOk, inB] at hfullk); (try simp [actorB, headOk, inB] at ts48); (try simp [actorB, headOk, inB] at ts50); (try simp [actorB, headOk, inB] at ts52); simp [actorB, headOk, inB]; omega)
      exact rb hE H
     rcases b_af ts53 with ts54 | ⟨ts54, ts55⟩
     ·
      have hE : false = actorB x ow := by first | rfl | (simp only [actorB, headOk, ts12, ts16, ts19, ts22, ts23, hfullk, ts48, ts50, ts52, ts54, B1, B2, B3, B4, B5, B6, B7, B8, B9, B10, B11, B12, B13, B14]; done) | (simp only [actorB, headOk, ts12, ts16, ts19, ts22, ts23, hfullk, ts48, ts50, ts52, ts54, B1, B2, B3, B4, B5, B6, B7, B8, B9, B10, B11, B12, B13, B14]; rfl) | (simp [actorB, headOk, ts12, ts16, ts19, ts22, ts23, hfullk, ts48, ts50, ts52, ts54, B1, B2, B3, B4, B5, B6, B7, B8, B9, B10, B11, B12, B13, B14]; done) | ((try simp [actorB, headOk, inB] at ts12); (try simp [actorB, headOk, inB] at ts16); (try simp [actorB, headOk, inB] at ts19); (try simp [actorB, headOk, inB] at ts22); (try simp [actorB, headOk, inB] at ts23); (try simp [actorB, headOk, inB] at hfullk); (try simp [actorB, headOk, inB] at ts48); (try simp [actorB, headOk, inB] at ts50); (try simp [actorB, headOk, inB] at ts52); (try simp [actorB, headOk, inB] at ts54); simp [actorB, headOk, inB]; omega)
      exact rb hE H
     have hE : false = actorB x ow := by first | rfl | (simp only [actorB, headOk, ts12, ts16, ts19, ts22, ts23, hfullk, ts48, ts50, ts52, ts54, ts55, B1, B2, B3, B4, B5, B6, B7, B8, B9, B10, B11, B12, B13, B14]; done) | (simp only [actorB, headOk, ts12, ts16, ts19, ts22, ts23, hfullk, ts48, ts50, ts52, ts54, ts55, B1, B2, B3, B4, B5, B6, B7, B8, B9, B10, B11, B12, B13, B14]; rfl) | (simp [actorB, headOk, ts12, ts16, ts19, ts22, ts23, hfullk, ts48, ts50, ts52, ts54, ts55, B1, B2, B3, B4, B5, B6, B7, B8, B9, B10, B11, B12, B13, B14]; done) | ((try simp [actorB, headOk, inB] at ts12); (try simp [actorB, headOk, inB] at ts16); (try simp [actorB, headOk, inB] at ts19); (try simp [actorB, headOk, inB] at ts22); (try simp [actorB, headOk, inB] at ts23); (try simp [actorB, headOk, inB] at hfullk); (try simp [actorB, headOk, inB] at ts48); (try simp [actorB, headOk, inB] at ts50); (try simp [actorB, headOk, inB] at ts52); (try simp [actorB, headOk, inB] at ts54); (try simp [actorB, headOk, inB] at ts55); simp [actorB, headOk, inB]; omega)
     exact rb hE H
    rcases b_af ts47 with ts56 | ⟨ts56, ts57⟩
    ·
     have hE : false = actorB x ow := by first | rfl | (simp only [actorB, headOk, ts12, ts16, ts19, ts22, ts23, hfullk, ts48, ts49, ts56, B1, B2, B3, B4, B5, B6, B7, B8, B9, B10, B11, B12, B13, B14]; done) | (simp only [actorB, headOk, ts12, ts16, ts19, ts22, ts23, hfullk, ts48, ts49, ts56, B1, B2, B3, B4, B5, B6, B7, B8, B9, B10, B11, B12, B13, B14]; rfl) | (simp [actorB, headOk, ts12, ts16, ts19, ts22, ts23, hfullk, ts48, ts49, ts56, B1, B2, B3, B4, B5, B6, B7, B8, B9, B10, B11, B12, B13, B14]; done) | ((try simp [actorB, headOk, inB] at ts12); (try simp [actorB, headOk, inB] at ts16); (try simp [actorB, headOk, inB] at ts19); (try simp [actorB, headOk, inB] at ts22); (try simp [actorB, headOk, inB] at ts23); (try simp [actorB, headOk, inB] at hfullk); (try simp [actorB, headOk, inB] at ts48); (try simp [actorB, headOk, inB] at ts49); (try simp [actorB, headOk, inB] at ts56); simp [actorB, headOk, inB]; omega)
     exact rb hE H
    rcases b_af ts57 with ts58 | ⟨ts58, ts59⟩
    ·
     have hE : false = actorB x ow := by first | rfl | (simp only [actorB, headOk, ts12, ts16, ts19, ts22, ts23, hfullk, ts48, ts49, ts56, ts58, B1, B2, B3, B4, B5, B6, B7, B8, B9, B10, B11, B12, B13, B14]; done) | (simp only [actorB, headOk, ts12, ts16, ts19, ts22, ts23, hfullk, ts48, ts49, ts56, ts58, B1, B2, B3, B4, B5, B6, B7, B8, B9, B10, B11, B12, B13, B14]; rfl) | (simp [actorB, headOk, ts12, ts16, ts19, ts22, ts23, hfullk, ts48, ts49, ts56, ts58, B1, B2, B3, B4, B5, B6, B7, B8, B9, B10, B11, B12, B13, B14]; done) | ((try simp [actorB, headOk, inB] at ts12); (try simp [actorB, headOk, inB] at ts16); (try simp [actorB, headOk, inB] at ts19); (try simp [actorB, headOk, inB] at ts22); (try simp [actorB, headOk, inB] at ts23); (try simp [actorB, headOk, inB] at hfullk); (try simp [actorB, headOk, inB] at ts48); (try simp [actorB, headOk, inB] at ts49); (try simp [actorB, headOk, inB] at ts56); (try simp [actorB, headOk, inB] at ts58); simp [actorB, headOk, inB]; omega)
     exact rb hE H
    rcases b_af ts59 with ts60 | ⟨ts60, ts61⟩
    ·
     have hE : false = actorB x ow := by first | rfl | (simp only [actorB, headOk, ts12, ts16, ts19, ts22, ts23, hfullk, ts48, ts49, ts56, ts58, ts60, B1, B2, B3, B4, B5, B6, B7, B8, B9, B10, B11, B12, B13, B14]; done) | (simp only [actorB, headOk, ts12, ts16, ts19, ts22, ts23, hfullk, ts48, ts49, ts56, ts58, ts60, B1, B2, B3, B4, B5, B6, B7, B8, B9, B10, B11, B12, B13, B14]; rfl) | (simp [actorB, headOk, ts12, ts16, ts19, ts22, ts23, hfullk, ts48, ts49, ts56, ts58, ts60, B1, B2, B3, B4, B5, B6, B7, B8, B9, B10, B11, B12, B13, B14]; done) | ((try simp [actorB, headOk, inB] at ts12); (try simp [actorB, headOk, inB] at ts16); (try simp [actorB, headOk, inB] at ts19); (try simp [actorB, headOk, inB] at ts22); (try simp [actorB, headOk, inB] at ts23); (try simp [actorB, headOk, inB] at hfullk); (try simp [actorB, headOk, inB] at ts48); (try simp [actorB, headOk, inB] at ts49); (try simp [actorB, headOk, inB] at ts56); (try simp [actorB, headOk, inB] at ts58); (try simp [actorB, headOk, inB] at ts60); simp [actorB, headOk, inB]; omega)
     exact rb hE H
    have hE : false = actorB x ow := by first | rfl | (simp only [actorB, headOk, ts12, ts16, ts19, ts22, ts23, hfullk, ts48, ts49, ts56, ts58, ts60, ts61, B1, B2, B3, B4, B5, B6, B7, B8, B9, B10, B11, B12, B13, B14]; done) | (simp only [actorB, headOk, ts12, ts16, ts19, ts22, ts23, hfullk, ts48, ts49, ts56, ts58, ts60, ts61, B1, B2, B3, B4, B5, B6, B7, B8, B9, B10, B11, B12, B13, B14]; rfl) | (simp [actorB, headOk, ts12, ts16, ts19, ts22, ts23, hfullk, ts48, ts49, ts56, ts58, ts60, ts61, B1, B2, B3, B4, B5, B6, B7, B8, B9, B10, B11, B12, B13, B14]; done) | ((try simp [actorB, headOk, inB] at ts12); (try simp [actorB, headOk, inB] at ts16); (try simp [actorB, headOk, inB] at ts19); (try simp [actorB, headOk, inB] at ts22); (try simp [actorB, headOk, inB] at ts23); (try simp [actorB, headOk, inB] at hfullk); (try simp [actorB, headOk, inB] at ts48); (try simp [actorB, headOk, inB] at ts49); (try simp [actorB, headOk, inB] at ts56); (try simp [actorB, headOk, inB] at ts58); (try simp [actorB, headOk, inB] at ts60); (try simp [actorB, headOk, inB] at ts61); simp [actorB, headOk, inB]; omega)
    exact rb hE H
   obtain ⟨ts62, ts63⟩ := b_at ts47
   obtain ⟨ts64, ts65⟩ := b_at ts63
   obtain ⟨ts66, ts67⟩ := b_at ts65
   rw [show ((x.pc == 0) && ((x.t == 0) && ((x.b == 0) && (x.x == 0)))) = true from ts47]
   rcases b_ot ts39 with ts68 | ⟨ts68, ts69⟩
   ·
    have hE : true = actorB x ow := by first | rfl | (simp only [actorB, headOk, ts12, ts16, ts19, ts22, ts23, hfullk, ts62, ts64, ts66, ts67, ts68, B1, B2, B3, B4, B5, B6, B7, B8, B9, B10, B11, B12, B13, B14]; done) | (simp only [actorB, headOk, ts12, ts16, ts19, ts22, ts23, hfullk, ts62, ts64, ts66, ts67, ts68, B1, B2, B3, B4, B5, B6, B7, B8, B9, B10, B11, B12, B13, B14]; rfl) | (simp [actorB, headOk, ts12, ts16, ts19, ts22, ts23, hfullk, ts62, ts64, ts66, ts67, ts68, B1, B2, B3, B4, B5, B6, B7, B8, B9, B10, B11, B12, B13, B14]; done) | ((try simp [actorB, headOk, inB] at ts12); (try simp [actorB, headOk, inB] at ts16); (try simp [actorB, headOk, inB] at ts19); (try simp [actorB, headOk, inB] at ts22); (try simp [actorB, headOk, inB] at ts23); (try simp [actorB, headOk, inB] at hfullk); (try simp [actorB, headOk, inB] at ts62); (try simp [actorB, headOk, inB] at ts64); (try simp [actorB, headOk, inB] at ts66); (try simp [actorB, headOk, inB] at ts67); (try simp [actorB, headOk, inB] at ts68); simp [actorB, headOk, inB]; omega)
    exact rb hE H
   have hE : true = actorB x ow := by first | rfl | (simp only [actorB, headOk, ts12, ts16, ts19, ts22, ts23, hfullk, ts62, ts64, ts66, ts67, ts68, ts69, B1, B2, B3, B4, B5, B6, B7, B8, B9, B10, B11, B12, B13, B14]; done) | (simp only [actorB, headOk, ts12, ts16, ts19, ts22, ts23, hfullk, ts62, ts64, ts66, ts67, ts68, ts69, B1, B2, B3, B4, B5, B6, B7, B8, B9, B10, B11, B12, B13, B14]; rfl) | (simp [actorB, headOk, ts12, ts16, ts19, ts22, ts23, hfullk, ts62, ts64, ts66, ts67, ts68, ts69, B1, B2, B3, B4, B5, B6, B7, B8, B9, B10, B11, B12, B13, B14]; done) | ((try simp [actorB, headOk, inB] at ts12); (try simp [actorB, headOk, inB] at ts16); (try simp [actorB, headOk, inB] at ts19); (try simp [actorB, headOk, inB] at ts22); (try simp [actorB, headOk, inB] at ts23); (try simp [actorB, headOk, inB] at hfullk); (try simp [actorB, headOk, inB] at ts62); (try simp [actorB, headOk, inB] at ts64); (try simp [actorB, headOk, inB] at ts66); (try simp [actorB, headOk, inB] at ts67); (try simp [actorB, headOk, inB] at ts68); (try simp [actorB, headOk, inB] at ts69); simp [actorB, headOk, inB]; omega)
   exact rb hE H
 refine cond_t E rfl ts11 ?_
 refine wp_seq (wp_region_lit ?_)
 refine wv E rfl (r_assign (ev_c _)) fun a E => ?_
 refine wpList_nil (then_n (wp_ret (then_r ?_)))
 refine post1 E rfl (out_t E rfl) ?_
 rcases b_ot ts11 with ts70 | ⟨ts70, ts71⟩
 ·
  have hE : false = actorB x ow := by first | rfl | (simp only [actorB, headOk, ts70, B1, B2, B3, B4, B5, B6, B7, B8, B9, B10, B11, B12, B13, B14]; done) | (simp only [actorB, headOk, ts70, B1, B2, B3, B4, B5, B6, B7, B8, B9, B10, B11, B12, B13, B14]; rfl) | (simp [actorB, headOk, ts70, B1, B2, B3, B4, B5, B6, B7, B8, B9, B10, B11, B12, B13, B14]; done) | ((try simp [actorB, headOk, inB] at ts70); simp [actorB, headOk, inB]; omega)
  exact rb hE H
 rcases b_ot ts71 with ts72 | ⟨ts72, ts73⟩
 ·
  have ts74 := b_nt ts72
  have hE : false = actorB x ow := by first | rfl | (simp only [actorB, headOk, ts70, ts74, B1, B2, B3, B4, B5, B6, B7, B8, B9, B10, B11, B12, B13, B14]; done) | (simp only [actorB, headOk, ts70, ts74, B1, B2, B3, B4, B5, B6, B7, B8, B9, B10, B11, B12, B13, B14]; rfl) | (simp [actorB, headOk, ts70, ts74, B1, B2, B3, B4, B5, B6, B7, B8, B9, B10, B11, B12, B13, B14]; done) | ((try simp [actorB, headOk, inB] at ts70); (try simp [actorB, headOk, inB] at ts74); simp [actorB, headOk, inB]; omega)
  exact rb hE H
 have ts75 := b_nf ts72
 rcases b_ot ts73 with ts76 | ⟨ts76, ts77⟩
 ·
  have ts78 := b_nt ts76
  have hE : false = actorB x ow := by first | rfl | (simp only [actorB, headOk, ts70, ts75, ts78, B1, B2, B3, B4, B5, B6, B7, B8, B9, B10, B11, B12, B13, B14]; done) | (simp only [actorB, headOk, ts70, ts75, ts78, B1, B2, B3, B4, B5, B6, B7, B8, B9, B10, B11, B12, B13, B14]; rfl) | (simp [actorB, headOk, ts70, ts75, ts78, B1, B2, B3, B4, B5, B6, B7, B8, B9, B10, B11, B12, B13, B14]; done) | ((try simp [actorB, headOk, inB] at ts70); (try simp [actorB, headOk, inB] at ts75); (try simp [actorB, headOk, inB] at ts78); simp [actorB, headOk, inB]; omega)
  exact rb hE H
 have ts79 := b_nf ts76
 rcases b_ot ts77 with ts80 | ⟨ts80, ts81⟩
 ·
  have ts82 := b_nt ts80
  have hE : false = actorB x ow := by first | rfl | (simp only [actorB, headOk, ts70, ts75, ts79, ts82, B1, B2, B3, B4, B5, B6, B7, B8, B9, B10, B11, B12, B13, B14]; done) | (simp only [actorB, headOk, ts70, ts75, ts79, ts82, B1, B2, B3, B4, B5, B6, B7, B8, B9, B10, B11, B12, B13, B14]; rfl) | (simp [actorB, headOk, ts70, ts75, ts79, ts82, B1, B2, B3, B4, B5, B6, B7, B8, B9, B10, B11, B12, B13, B14]; done) | ((try simp [actorB, headOk, inB] at ts70); (try simp [actorB, headOk, inB] at ts75); (try simp [actorB, headOk, inB] at ts79); (try simp [actorB, headOk, inB] at ts82); simp [actorB, headOk, inB]; omega)
  exact rb hE H
 have ts83 := b_nf ts80
 have ts84 := b_nt ts81
 have hE : false = actorB x ow := by first | rfl | (simp only [actorB, headOk, ts70, ts75, ts79, ts83, ts84, B1, B2, B3, B4, B5, B6, B7, B8, B9, B10, B11, B12, B13, B14]; done) | (simp only [actorB, headOk, ts70, ts75, ts79, ts83, ts84, B1, B2, B3, B4, B5, B6, B7, B8, B9, B10, B11, B12, B13, B14]; rfl) | (simp [actorB, headOk, ts70, ts75, ts79, ts83, ts84, B1, B2, B3, B4, B5, B6, B7, B8, B9, B10, B11, B12, B13, B14]; done) | ((try simp [actorB, headOk, inB] at ts70); (try simp [actorB, headOk, inB] at ts75); (try simp [actorB, headOk, inB] at ts79); (try simp [actorB, headOk, inB] at ts83); (try simp [actorB, headOk, inB] at ts84); simp [actorB, headOk, inB]; omega)
 exact rb hE H

set_option maxHeartbeats 1000000 in
theorem l23Room_q (x : GDeque) (a0 : GDequeActor) (b o : Nat) (w0 : World) (hp : RoP w0 [] b o x.enc) (h0 : x.actors[0]? = some a0) (hv : actorB a0 true = true) : Calls Try.prog 207 #[.pointer (some ⟨b, o, none⟩)] w0 fun e w' => e = .returned (.bool (roomB x a0)) ∧ Ext w0 w' := by
 refine enter_i (args := [.pointer (some ⟨b, o, none⟩)]) Try.func207 rfl Try.ntmps207 rfl sep0 (fun a w E H => ?_)
 have E : Env 40 a [(0, .pointer (some ⟨b, o, none⟩))] := E
 have r1p0 : RoP w0 [] b o [.v (.int .i64 (x.top)), .v (.int .i64 (x.bottom)), .sl x.buffer.length (x.buffer.flatMap intE), .sl x.actors.length (x.actors.flatMap GDequeActor.enc), .sl x.taken.length (x.taken.flatMap GHanded.enc), .sl x.refused.length (x.refused.flatMap intE)] := hp
 obtain ⟨r1k0, r1p1⟩ := RoP.vv r1p0
 clear r1p0
 obtain ⟨r1k1, r1p2⟩ := RoP.vv r1p1
 clear r1p1
 obtain ⟨r1A2, r1c2, r1k2, r1t2, r1n2, r1p3⟩ := RoP.sl r1p2
 clear r1p2
 obtain ⟨r1A3, r1c3, r1k3, r1t3, r1n3, r1p4⟩ := RoP.sl r1p3
 clear r1p3
 obtain ⟨r1A4, r1c4, r1k4, r1t4, r1n4, r1p5⟩ := RoP.sl r1p4
 clear r1p4
 obtain ⟨r1A5, r1c5, r1k5, r1t5, r1n5, r1p6⟩ := RoP.sl r1p5
 clear r1p5
 clear r1p6
 have hlen0 : 0 < x.actors.length := (List.getElem?_eq_some_iff.1 h0).1
 revert E
 revert H
 obtain ⟨e2b, e2o, e2y, rfl, e2x, e2q⟩ := Ro1.elem (f := GDequeActor.enc) GDequeActor.enc_len r1t3 rfl hlen0
 intro H E
 have r3p0 : RoP w0 [] e2b e2o [.sl e2y.todo.length (e2y.todo.flatMap intE), .v (.int .i64 (e2y.pc)), .v (.int .i64 (e2y.t)), .v (.int .i64 (e2y.b)), .v (.int .i64 (e2y.x))] := e2q
 obtain ⟨r3A0, r3c0, r3k0, r3t0, r3n0, r3p1⟩ := RoP.sl r3p0
 clear r3p0
 obtain ⟨r3k1, r3p2⟩ := RoP.vv r3p1
 clear r3p1
 obtain ⟨r3k2, r3p3⟩ := RoP.vv r3p2
 clear r3p2
 obtain ⟨r3k3, r3p4⟩ := RoP.vv r3p3
 clear r3p3
 obtain ⟨r3k4, r3p5⟩ := RoP.vv r3p4
 clear r3p4
 clear r3p5
 obtain rfl : a0 = e2y := Option.some.inj (h0.symm.trans e2x)
 refine wp_seq (wp_region_lit ?_)
 refine wv E rfl (r_assign (ev_c _)) fun a E => ?_
 refine wpList_nil (then_n (wp_seq (wp_region_lit ?_)))
 refine vm E rfl rfl fun a E => wv E rfl (r_nil (E.tmp rfl)) fun a E => wv E rfl (r_fa (o' := o + 3) (E.tmp rfl) fo_30_3 rfl) fun a E => wv E rfl (r_load (E.tmp rfl) ag_27 (r1k3.get H)) fun a E => wv E rfl (r_ia (k := 0) (o' := e2o) (E.tmp rfl) (ev_c _) rfl el_27 (by omega) rfl) fun a E => ?_
 refine va E rfl rfl fun a E => ?_
 refine wpList_nil (then_n (wp_seq (wp_region_lit ?_)))
 refine wv E rfl (r_assign (ev_c _)) fun a E => ?_
 refine wpList_nil (then_n (wp_seq (wp_seq (wp_region_lit ?_))))
 refine vm E rfl rfl fun a E => wv E rfl (r_nil (E.tmp rfl)) fun a E => wv E rfl (r_fa (o' := e2o + 1) (E.tmp rfl) fo_119_1 rfl) fun a E => wv E rfl (r_load (E.tmp rfl) ag_2 (r3k1.get H)) fun a E => wv E rfl (r_bin (E.tmp rfl) (ev_c _) (b_gtr (b := decide (0 < a0.pc)) rfl)) fun a E => ?_
 refine vm E rfl rfl fun a E => ?_
 rcases bcase (decide (0 < a0.pc)) with ts4 | ts4
 ·
  refine wnh (c := false) E rfl rfl rfl rfl ts4 rfl fun a E => ?_
  refine wnh (c := false) E rfl rfl rfl rfl ts4 rfl fun a E => ?_
  refine wnh (c := false) E rfl rfl rfl rfl ts4 rfl fun a E => ?_
  refine wnh (c := false) E rfl rfl rfl rfl ts4 rfl fun a E => ?_
  refine wnh (c := false) E rfl rfl rfl rfl ts4 rfl fun a E => ?_
  refine wnh (c := false) E rfl rfl rfl rfl ts4 rfl fun a E => ?_
  refine wnh (c := false) E rfl rfl rfl rfl ts4 rfl fun a E => ?_
  refine wv E rfl (r_pick_f ((E.tmp rfl).trans (congrArg Value.bool ts4)) (ev_c _)) fun a E => ?_
  refine wpList_nil (then_n ?_)
  refine cond_f E rfl rfl ?_
  refine wp_skip (then_n (wp_seq ?_))
  let fl5 : Flow := ⟨[.c (.pointer (some ⟨b, o, none⟩)), .c (.pointer (some ⟨b, o, none⟩)), .c (.pointer (some ⟨b, o + 1, none⟩)), .c (.int .i64 (x.bottom)), .c (.pointer (some ⟨b, o, none⟩)), .c (.pointer (some ⟨b, o, none⟩)), .c (.pointer (some ⟨b, o, none⟩)), .c (.int .i64 (x.top)), .c (.int .i64 (IntKind.i64.wrap (x.bottom - x.top))), .c (.int .i64 (0)), .c (.pointer (some ⟨b, o, none⟩)), .c (.pointer (some ⟨b, o, none⟩)), .c (.pointer (some ⟨b, o + 2, none⟩)), .c (.slice r1A2 x.buffer.length r1c2), .c (.int .i64 (((x.buffer.length : Nat) : Int))), .c (.bool (inB (IntKind.i64.wrap (x.bottom - x.top)) 0 ((x.buffer.length : Nat) : Int))), .c (.bool (inB (IntKind.i64.wrap (x.bottom - x.top)) 0 ((x.buffer.length : Nat) : Int)))], [], [[], [0], [0, 1], [0, 1, 2], [], [4], [4, 5], [4, 5, 6], [0, 1, 2, 3, 4, 5, 6, 7], [], [], [10], [10, 11], [10, 11, 12], [10, 11, 12, 13], [0, 1, 2, 3, 4, 5, 6, 7, 8, 9, 10, 11, 12, 13, 14], [0, 1, 2, 3, 4, 5, 6, 7, 8, 9, 10, 11, 12, 13, 14, 15]]⟩
  have E : Env 40 a [(0, .pointer (some ⟨b, o, none⟩)), (3, .pointer (some ⟨e2b, e2o, none⟩)), (4, .int .i64 (0)), (5, .pointer (some ⟨b, o, none⟩)), (6, .pointer (some ⟨b, o, none⟩)), (7, .pointer (some ⟨b, o + 3, none⟩)), (8, .slice (some ⟨e2b, e2o, none⟩) x.actors.length r1c3), (9, .pointer (some ⟨e2b, e2o, none⟩)), (10, .pointer (some ⟨e2b, e2o, none⟩)), (11, .pointer (some ⟨e2b, e2o, none⟩)), (12, .pointer (some ⟨e2b, e2o + 1, none⟩)), (13, .int .i64 (a0.pc)), (14, .bool (decide (0 < a0.pc))), (15, .bool (decide (0 < a0.pc))), (16, undef), (17, undef), (18, undef), (19, undef), (20, undef), (21, undef), (22, undef), (23, .bool (false))] := (Env.pick E (Env.pick E (Env.pick E (Env.pick E (Env.pick E (Env.pick E (Env.pick E (Env.pick E (Env.pick E (Env.pick E (Env.pick E (Env.pick E (Env.pick E (Env.pick E (Env.pick E (Env.pick E (Env.pick E (Env.pick E (Env.pick E (Env.pick E (Env.pick E (Env.pick E E.nil rfl) rfl) rfl) rfl) rfl) rfl) rfl) rfl) rfl) rfl) rfl) rfl) rfl) rfl) rfl) rfl) rfl) rfl) rfl) rfl) rfl) rfl)
  refine wp_flow (rs := []) rfl fl5 E (by rw [List.append_nil]; exact H) 17 rfl (by kernel_rfl) ?_ ?_
  ·
   refine AllTo.snoc (AllTo.snoc (AllTo.snoc (AllTo.snoc (AllTo.snoc (AllTo.snoc (AllTo.snoc (AllTo.snoc (AllTo.snoc (AllTo.snoc (AllTo.snoc (AllTo.snoc (AllTo.snoc (AllTo.snoc (AllTo.snoc (AllTo.snoc (AllTo.snoc (AllTo.zero _) ?_) ?_) ?_) ?_) ?_) ?_) ?_) ?_) ?_) ?_) ?_) ?_) ?_) ?_) ?_) ?_) ?_
   ·
    refine ⟨_, _, _, rfl, rfl, rfl, fun ν a w rs E hk ht H => ?_⟩
    exact Gives.val rfl (r_move (E.tmp rfl)) ⟨trivial, rfl, H⟩
   ·
    refine ⟨_, _, _, rfl, rfl, rfl, fun ν a w rs E hk ht H => ?_⟩
    have E := Env.add (v := .pointer (some ⟨b, o, none⟩)) E (ht 0 (by decide) _ _ 24 rfl rfl rfl)
    exact Gives.val rfl (r_nil (E.tmp rfl)) ⟨trivial, rfl, H⟩
   ·
    refine ⟨_, _, _, rfl, rfl, rfl, fun ν a w rs E hk ht H => ?_⟩
    have E := Env.add (v := .pointer (some ⟨b, o, none⟩)) E (ht 1 (by decide) _ _ 25 rfl rfl rfl)
    exact Gives.val rfl (r_fa (o' := o + 1) (E.tmp rfl) fo_30_1 rfl) ⟨trivial, rfl, H⟩
   ·
    refine ⟨_, _, _, rfl, rfl, rfl, fun ν a w rs E hk ht H => ?_⟩
    have E := Env.add (v := .pointer (some ⟨b, o + 1, none⟩)) E (ht 2 (by decide) _ _ 26 rfl rfl rfl)
    have H : Tr.Inv w0 [] w ([] ++ ([] ++ rs)) := H
    exact Gives.val rfl (r_load (E.tmp rfl) ag_2 (r1k1.get H)) ⟨trivial, rfl, H⟩
   ·
    refine ⟨_, _, _, rfl, rfl, rfl, fun ν a w rs E hk ht H => ?_⟩
    exact Gives.val rfl (r_move (E.tmp rfl)) ⟨trivial, rfl, H⟩
   ·
    refine ⟨_, _, _, rfl, rfl, rfl, fun ν a w rs E hk ht H => ?_⟩
    have E := Env.add (v := .pointer (some ⟨b, o, none⟩)) E (ht 4 (by decide) _ _ 28 rfl rfl rfl)
    exact Gives.val rfl (r_nil (E.tmp rfl)) ⟨trivial, rfl, H⟩
   ·
    refine ⟨_, _, _, rfl, rfl, rfl, fun ν a w rs E hk ht H => ?_⟩
    have E := Env.add (v := .pointer (some ⟨b, o, none⟩)) E (ht 5 (by decide) _ _ 29 rfl rfl rfl)
    exact Gives.val rfl (r_fa (o' := o) (E.tmp rfl) fo_30_0 rfl) ⟨trivial, rfl, H⟩
   ·
    refine ⟨_, _, _, rfl, rfl, rfl, fun ν a w rs E hk ht H => ?_⟩
    have E := Env.add (v := .pointer (some ⟨b, o, none⟩)) E (ht 6 (by decide) _ _ 30 rfl rfl rfl)
    have H : Tr.Inv w0 [] w ([] ++ ([] ++ rs)) := H
    exact Gives.val rfl (r_load (E.tmp rfl) ag_2 (r1k0.get H)) ⟨trivial, rfl, H⟩
   ·
    refine ⟨_, _, _, rfl, rfl, rfl, fun ν a w rs E hk ht H => ?_⟩
    have E := Env.add (v := .int .i64 (x.bottom)) E (ht 3 (by decide) _ _ 27 rfl rfl rfl)
    have E := Env.add (v := .int .i64 (x.top)) E (ht 7 (by decide) _ _ 31 rfl rfl rfl)
    exact Gives.val rfl (r_bin (E.tmp rfl) (E.tmp rfl) (b_sub rfl)) ⟨trivial, rfl, H⟩
   ·
    refine ⟨_, _, _, rfl, rfl, rfl, fun ν a w rs E hk ht H => ?_⟩
    exact Gives.val rfl (r_move (E.tmp rfl)) ⟨trivial, rfl, H⟩
   ·
    refine ⟨_, _, _, rfl, rfl, rfl, fun ν a w rs E hk ht H => ?_⟩
    exact Gives.val rfl (r_move (E.tmp rfl)) ⟨trivial, rfl, H⟩
   ·
    refine ⟨_, _, _, rfl, rfl, rfl, fun ν a w rs E hk ht H => ?_⟩
    have E := Env.add (v := .pointer (some ⟨b, o, none⟩)) E (ht 10 (by decide) _ _ 34 rfl rfl rfl)
    exact Gives.val rfl (r_nil (E.tmp rfl)) ⟨trivial, rfl, H⟩
   ·
    refine ⟨_, _, _, rfl, rfl, rfl, fun ν a w rs E hk ht H => ?_⟩
    have E := Env.add (v := .pointer (some ⟨b, o, none⟩)) E (ht 11 (by decide) _ _ 35 rfl rfl rfl)
    exact Gives.val rfl (r_fa (o' := o + 2) (E.tmp rfl) fo_30_2 rfl) ⟨trivial, rfl, H⟩
   ·
    refine ⟨_, _, _, rfl, rfl, rfl, fun ν a w rs E hk ht H => ?_⟩
    have E := Env.add (v := .pointer (some ⟨b, o + 2, none⟩)) E (ht 12 (by decide) _ _ 36 rfl rfl rfl)
    have H : Tr.Inv w0 [] w ([] ++ ([] ++ rs)) := H
    exact Gives.val rfl (r_load (E.tmp rfl) ag_24 (r1k2.get H)) ⟨trivial, rfl, H⟩
   ·
    refine ⟨_, _, _, rfl, rfl, rfl, fun ν a w rs E hk ht H => ?_⟩
    have E := Env.add (v := .slice r1A2 x.buffer.length r1c2) E (ht 13 (by decide) _ _ 37 rfl rfl rfl)
    exact Gives.val rfl (r_len (E.tmp rfl) el_24) ⟨trivial, rfl, H⟩
   ·
    refine ⟨_, _, _, rfl, rfl, rfl, fun ν a w rs E hk ht H => ?_⟩
    have E := Env.add (v := .int .i64 (IntKind.i64.wrap (x.bottom - x.top))) E (ht 8 (by decide) _ _ 32 rfl rfl rfl)
    have E := Env.add (v := .int .i64 (0)) E (ht 9 (by decide) _ _ 33 rfl rfl rfl)
    have E := Env.add (v := .int .i64 (((x.buffer.length : Nat) : Int))) E (ht 14 (by decide) _ _ 38 rfl rfl rfl)
    have H : Tr.Inv w0 [] w ([] ++ ([] ++ rs)) := H
    exact Gives.call (R := (fun e w' => e = .returned (.bool (inB (IntKind.i64.wrap (x.bottom - x.top)) 0 ((x.buffer.length : Nat) : Int))) ∧ Ext w w')) rfl (r_call (ev_cons (E.tmp rfl) (ev_cons (E.tmp rfl) (ev_cons (E.tmp rfl) (ev_nil)))) ok_122) (l00In_q (IntKind.i64.wrap (x.bottom - x.top)) 0 ((x.buffer.length : Nat) : Int) w) fun e w2 ⟨he, hb⟩ => ⟨_, he, trivial, rfl, H.ext hb⟩
   ·
    refine ⟨_, _, _, rfl, rfl, rfl, fun ν a w rs E hk ht H => ?_⟩
    have E := Env.add (v := .bool (inB (IntKind.i64.wrap (x.bottom - x.top)) 0 ((x.buffer.length : Nat) : Int))) E (ht 15 (by decide) _ _ 39 rfl rfl rfl)
    exact Gives.val rfl (r_assign (E.tmp rfl)) ⟨trivial, rfl, H⟩
  ·
   refine fun ν a w E hk ht H => ?_
   have E := Env.add E (show a.tmps[2]? = some (.bool (inB (IntKind.i64.wrap (x.bottom - x.top)) 0 ((x.buffer.length : Nat) : Int))) from ht 16 _ _ 2 rfl rfl rfl)
   have H : Tr.Inv w0 [] w [] := H
   have E : Env 40 a [(0, .pointer (some ⟨b, o, none⟩)), (2, .bool (inB (IntKind.i64.wrap (x.bottom - x.top)) 0 ((x.buffer.length : Nat) : Int))), (3, .pointer (some ⟨e2b, e2o, none⟩)), (4, .int .i64 (0)), (5, .pointer (some ⟨b, o, none⟩)), (6, .pointer (some ⟨b, o, none⟩)), (7, .pointer (some ⟨b, o + 3, none⟩)), (8, .slice (some ⟨e2b, e2o, none⟩) x.actors.length r1c3), (9, .pointer (some ⟨e2b, e2o, none⟩)), (10, .pointer (some ⟨e2b, e2o, none⟩)), (11, .pointer (some ⟨e2b, e2o, none⟩)), (12, .pointer (some ⟨e2b, e2o + 1, none⟩)), (13, .int .i64 (a0.pc)), (14, .bool (decide (0 < a0.pc))), (15, .bool (decide (0 < a0.pc))), (16, undef), (17, undef), (18, undef), (19, undef), (20, undef), (21, undef), (22, undef), (23, .bool (false))] := (Env.pick E (Env.pick E (Env.pick E (Env.pick E (Env.pick E (Env.pick E (Env.pick E (Env.pick E (Env.pick E (Env.pick E (Env.pick E (Env.pick E (Env.pick E (Env.pick E (Env.pick E (Env.pick E (Env.pick E (Env.pick E (Env.pick E (Env.pick E (Env.pick E (Env.pick E (Env.pick E E.nil rfl) rfl) rfl) rfl) rfl) rfl) rfl) rfl) rfl) rfl) rfl) rfl) rfl) rfl) rfl) rfl) rfl) rfl) rfl) rfl) rfl) rfl) rfl)
   clear hk ht
   refine then_n (wp_ret ?_)
   refine post1 E rfl (out_t E rfl) ?_
   have hE : (inB (IntKind.i64.wrap (x.bottom - x.top)) 0 ((x.buffer.length : Nat) : Int)) = roomB x a0 := by first | rfl | (simp only [roomB, leastB, head0, ts4, B1, B2, B3, B4, B5, B6, B7, B8, B9, B10, B11, B12, B13, B14]; done) | (simp only [roomB, leastB, head0, ts4, B1, B2, B3, B4, B5, B6, B7, B8, B9, B10, B11, B12, B13, B14]; rfl) | (simp [roomB, leastB, head0, ts4, B1, B2, B3, B4, B5, B6, B7, B8, B9, B10, B11, B12, B13, B14]; done) | ((try simp [roomB, leastB, head0, inB] at ts4); simp [roomB, leastB, head0, inB]; omega)
   exact rb hE H
 refine ung E rfl rfl rfl ts4 ?_
 have hpos : 0 < a0.todo.length := actor_pos hv (by simpa using ts4)
 revert E
 revert H
 obtain ⟨e5b, e5o, e5y, rfl, e5x, e5q⟩ := Ro1.elem (f := intE) (s := 1) (fun _ => rfl) r3t0 rfl hpos
 intro H E
 have r6p0 : RoP w0 [] e5b e5o [.v (.int .i64 (e5y))] := e5q
 obtain ⟨r6k0, r6p1⟩ := RoP.vv r6p0
 clear r6p0
 clear r6p1
 refine vm E rfl rfl fun a E => ?_
 refine ung E rfl rfl rfl ts4 ?_
 refine wv E rfl (r_nil (E.tmp rfl)) fun a E => ?_
 refine ung E rfl rfl rfl ts4 ?_
 refine wv E rfl (r_fa (o' := e2o) (E.tmp rfl) fo_119_0 rfl) fun a E => ?_
 refine ung E rfl rfl rfl ts4 ?_
 refine wv E rfl (r_load (E.tmp rfl) ag_24 (r3k0.get H)) fun a E => ?_
 refine ung E rfl rfl rfl ts4 ?_
 refine wv E rfl (r_ia (k := 0) (o' := e5o) (E.tmp rfl) (ev_c _) rfl el_24 (by omega) rfl) fun a E => ?_
 refine ung E rfl rfl rfl ts4 ?_
 refine wv E rfl (r_load (E.tmp rfl) ag_2 (r6k0.get H)) fun a E => ?_
 refine ung E rfl rfl rfl ts4 ?_
 refine wv E rfl (r_bin (E.tmp rfl) (ev_c _) (b_eql (b := e5y == 0) rfl)) fun a E => wv E rfl (r_pick_t ((E.tmp rfl).trans (congrArg Value.bool ts4)) (E.tmp rfl)) fun a E => ?_
 refine wpList_nil (then_n ?_)
 rcases bcase (e5y == 0) with ts7 | ts7
 ·
  refine cond_f E rfl ts7 ?_
  refine wp_skip (then_n (wp_seq ?_))
  let fl5 : Flow := ⟨[.c (.pointer (some ⟨b, o, none⟩)), .c (.pointer (some ⟨b, o, none⟩)), .c (.pointer (some ⟨b, o + 1, none⟩)), .c (.int .i64 (x.bottom)), .c (.pointer (some ⟨b, o, none⟩)), .c (.pointer (some ⟨b, o, none⟩)), .c (.pointer (some ⟨b, o, none⟩)), .c (.int .i64 (x.top)), .c (.int .i64 (IntKind.i64.wrap (x.bottom - x.top))), .c (.int .i64 (0)), .c (.pointer (some ⟨b, o, none⟩)), .c (.pointer (some ⟨b, o, none⟩)), .c (.pointer (some ⟨b, o + 2, none⟩)), .c (.slice r1A2 x.buffer.length r1c2), .c (.int .i64 (((x.buffer.length : Nat) : Int))), .c (.bool (inB (IntKind.i64.wrap (x.bottom - x.top)) 0 ((x.buffer.length : Nat) : Int))), .c (.bool (inB (IntKind.i64.wrap (x.bottom - x.top)) 0 ((x.buffer.length : Nat) : Int)))], [], [[], [0], [0, 1], [0, 1, 2], [], [4], [4, 5], [4, 5, 6], [0, 1, 2, 3, 4, 5, 6, 7], [], [], [10], [10, 11], [10, 11, 12], [10, 11, 12, 13], [0, 1, 2, 3, 4, 5, 6, 7, 8, 9, 10, 11, 12, 13, 14], [0, 1, 2, 3, 4, 5, 6, 7, 8, 9, 10, 11, 12, 13, 14, 15]]⟩
  have E : Env 40 a [(0, .pointer (some ⟨b, o, none⟩)), (3, .pointer (some ⟨e2b, e2o, none⟩)), (4, .int .i64 (0)), (5, .pointer (some ⟨b, o, none⟩)), (6, .pointer (some ⟨b, o, none⟩)), (7, .pointer (some ⟨b, o + 3, none⟩)), (8, .slice (some ⟨e2b, e2o, none⟩) x.actors.length r1c3), (9, .pointer (some ⟨e2b, e2o, none⟩)), (10, .pointer (some ⟨e2b, e2o, none⟩)), (11, .pointer (some ⟨e2b, e2o, none⟩)), (12, .pointer (some ⟨e2b, e2o + 1, none⟩)), (13, .int .i64 (a0.pc)), (14, .bool (decide (0 < a0.pc))), (15, .bool (decide (0 < a0.pc))), (16, .pointer (some ⟨e2b, e2o, none⟩)), (17, .pointer (some ⟨e2b, e2o, none⟩)), (18, .pointer (some ⟨e2b, e2o, none⟩)), (19, .slice (some ⟨e5b, e5o, none⟩) a0.todo.length r3c0), (20, .pointer (some ⟨e5b, e5o, none⟩)), (21, .int .i64 (e5y)), (22, .bool (e5y == 0)), (23, .bool (e5y == 0))] := (Env.pick E (Env.pick E (Env.pick E (Env.pick E (Env.pick E (Env.pick E (Env.pick E (Env.pick E (Env.pick E (Env.pick E (Env.pick E (Env.pick E (Env.pick E (Env.pick E (Env.pick E (Env.pick E (Env.pick E (Env.pick E (Env.pick E (Env.pick E (Env.pick E (Env.pick E E.nil rfl) rfl) rfl) rfl) rfl) rfl) rfl) rfl) rfl) rfl) rfl) rfl) rfl) rfl) rfl) rfl) rfl) rfl) rfl) rfl) rfl) rfl)
  refine wp_flow (rs := []) rfl fl5 E (by rw [List.append_nil]; exact H) 17 rfl (by kernel_rfl) ?_ ?_
  ·
   refine AllTo.snoc (AllTo.snoc (AllTo.snoc (AllTo.snoc (AllTo.snoc (AllTo.snoc (AllTo.snoc (AllTo.snoc (AllTo.snoc (AllTo.snoc (AllTo.snoc (AllTo.snoc (AllTo.snoc (AllTo.snoc (AllTo.snoc (AllTo.snoc (AllTo.snoc (AllTo.zero _) ?_) ?_) ?_) ?_) ?_) ?_) ?_) ?_) ?_) ?_) ?_) ?_) ?_) ?_) ?_) ?_) ?_
   ·
    refine ⟨_, _, _, rfl, rfl, rfl, fun ν a w rs E hk ht H => ?_⟩
    exact Gives.val rfl (r_move (E.tmp rfl)) ⟨trivial, rfl, H⟩
   ·
    refine ⟨_, _, _, rfl, rfl, rfl, fun ν a w rs E hk ht H => ?_⟩
    have E := Env.add (v := .pointer (some ⟨b, o, none⟩)) E (ht 0 (by decide) _ _ 24 rfl rfl rfl)
    exact Gives.val rfl (r_nil (E.tmp rfl)) ⟨trivial, rfl, H⟩
   ·
    refine ⟨_, _, _, rfl, rfl, rfl, fun ν a w rs E hk ht H => ?_⟩
    have E := Env.add (v := .pointer (some ⟨b, o, none⟩)) E (ht 1 (by decide) _ _ 25 rfl rfl rfl)
    exact Gives.val rfl (r_fa (o' := o + 1) (E.tmp rfl) fo_30_1 rfl) ⟨trivial, rfl, H⟩
   ·
    refine ⟨_, _, _, rfl, rfl, rfl, fun ν a w rs E hk ht H => ?_⟩
    have E := Env.add (v := .pointer (some ⟨b, o + 1, none⟩)) E (ht 2 (by decide) _ _ 26 rfl rfl rfl)
    have H : Tr.Inv w0 [] w ([] ++ ([] ++ rs)) := H
    exact Gives.val rfl (r_load (E.tmp rfl) ag_2 (r1k1.get H)) ⟨trivial, rfl, H⟩
   ·
    refine ⟨_, _, _, rfl, rfl, rfl, fun ν a w rs E hk ht H => ?_⟩
    exact Gives.val rfl (r_move (E.tmp rfl)) ⟨trivial, rfl, H⟩
   ·
    refine ⟨_, _, _, rfl, rfl, rfl, fun ν a w rs E hk ht H => ?_⟩
    have E := Env.add (v := .pointer (some ⟨b, o, none⟩)) E (ht 4 (by decide) _ _ 28 rfl rfl rfl)
    exact Gives.val rfl (r_nil (E.tmp rfl)) ⟨trivial, rfl, H⟩
   ·
    refine ⟨_, _, _, rfl, rfl, rfl, fun ν a w rs E hk ht H => ?_⟩
    have E := Env.add (v := .pointer (some ⟨b, o, none⟩)) E (ht 5 (by decide) _ _ 29 rfl rfl rfl)
    exact Gives.val rfl (r_fa (o' := o) (E.tmp rfl) fo_30_0 rfl) ⟨trivial, rfl, H⟩
   ·
    refine ⟨_, _, _, rfl, rfl, rfl, fun ν a w rs E hk ht H => ?_⟩
    have E := Env.add (v := .pointer (some ⟨b, o, none⟩)) E (ht 6 (by decide) _ _ 30 rfl rfl rfl)
    have H : Tr.Inv w0 [] w ([] ++ ([] ++ rs)) := H
    exact Gives.val rfl (r_load (E.tmp rfl) ag_2 (r1k0.get H)) ⟨trivial, rfl, H⟩
   ·
    refine ⟨_, _, _, rfl, rfl, rfl, fun ν a w rs E hk ht H => ?_⟩
    have E := Env.add (v := .int .i64 (x.bottom)) E (ht 3 (by decide) _ _ 27 rfl rfl rfl)
    have E := Env.add (v := .int .i64 (x.top)) E (ht 7 (by decide) _ _ 31 rfl rfl rfl)
    exact Gives.val rfl (r_bin (E.tmp rfl) (E.tmp rfl) (b_sub rfl)) ⟨trivial, rfl, H⟩
   ·
    refine ⟨_, _, _, rfl, rfl, rfl, fun ν a w rs E hk ht H => ?_⟩
    exact Gives.val rfl (r_move (E.tmp rfl)) ⟨trivial, rfl, H⟩
   ·
    refine ⟨_, _, _, rfl, rfl, rfl, fun ν a w rs E hk ht H => ?_⟩
    exact Gives.val rfl (r_move (E.tmp rfl)) ⟨trivial, rfl, H⟩
   ·
    refine ⟨_, _, _, rfl, rfl, rfl, fun ν a w rs E hk ht H => ?_⟩
    have E := Env.add (v := .pointer (some ⟨b, o, none⟩)) E (ht 10 (by decide) _ _ 34 rfl rfl rfl)
    exact Gives.val rfl (r_nil (E.tmp rfl)) ⟨trivial, rfl, H⟩
   ·
    refine ⟨_, _, _, rfl, rfl, rfl, fun ν a w rs E hk ht H => ?_⟩
    have E := Env.add (v := .pointer (some ⟨b, o, none⟩)) E (ht 11 (by decide) _ _ 35 rfl rfl rfl)
    exact Gives.val rfl (r_fa (o' := o + 2) (E.tmp rfl) fo_30_2 rfl) ⟨trivial, rfl, H⟩
   ·
    refine ⟨_, _, _, rfl, rfl, rfl, fun ν a w rs E hk ht H => ?_⟩
    have E := Env.add (v := .pointer (some ⟨b, o + 2, none⟩)) E (ht 12 (by decide) _ _ 36 rfl rfl rfl)
    have H : Tr.Inv w0 [] w ([] ++ ([] ++ rs)) := H
    exact Gives.val rfl (r_load (E.tmp rfl) ag_24 (r1k2.get H)) ⟨trivial, rfl, H⟩
   ·
    refine ⟨_, _, _, rfl, rfl, rfl, fun ν a w rs E hk ht H => ?_⟩
    have E := Env.add (v := .slice r1A2 x.buffer.length r1c2) E (ht 13 (by decide) _ _ 37 rfl rfl rfl)
    exact Gives.val rfl (r_len (E.tmp rfl) el_24) ⟨trivial, rfl, H⟩
   ·
    refine ⟨_, _, _, rfl, rfl, rfl, fun ν a w rs E hk ht H => ?_⟩
    have E := Env.add (v := .int .i64 (IntKind.i64.wrap (x.bottom - x.top))) E (ht 8 (by decide) _ _ 32 rfl rfl rfl)
    have E := Env.add (v := .int .i64 (0)) E (ht 9 (by decide) _ _ 33 rfl rfl rfl)
    have E := Env.add (v := .int .i64 (((x.buffer.length : Nat) : Int))) E (ht 14 (by decide) _ _ 38 rfl rfl rfl)
    have H : Tr.Inv w0 [] w ([] ++ ([] ++ rs)) := H
    exact Gives.call (R := (fun e w' => e = .returned (.bool (inB (IntKind.i64.wrap (x.bottom - x.top)) 0 ((x.buffer.length : Nat) : Int))) ∧ Ext w w')) rfl (r_call (ev_cons (E.tmp rfl) (ev_cons (E.tmp rfl) (ev_cons (E.tmp rfl) (ev_nil)))) ok_122) (l00In_q (IntKind.i64.wrap (x.bottom - x.top)) 0 ((x.buffer.length : Nat) : Int) w) fun e w2 ⟨he, hb⟩ => ⟨_, he, trivial, rfl, H.ext hb⟩
   ·
    refine ⟨_, _, _, rfl, rfl, rfl, fun ν a w rs E hk ht H => ?_⟩
    have E := Env.add (v := .bool (inB (IntKind.i64.wrap (x.bottom - x.top)) 0 ((x.buffer.length : Nat) : Int))) E (ht 15 (by decide) _ _ 39 rfl rfl rfl)
    exact Gives.val rfl (r_assign (E.tmp rfl)) ⟨trivial, rfl, H⟩
  ·
   refine fun ν a w E hk ht H => ?_
   have E := Env.add E (show a.tmps[2]? = some (.bool (inB (IntKind.i64.wrap (x.bottom - x.top)) 0 ((x.buffer.length : Nat) : Int))) from ht 16 _ _ 2 rfl rfl rfl)
   have H : Tr.Inv w0 [] w [] := H
   have E : Env 40 a [(0, .pointer (some ⟨b, o, none⟩)), (2, .bool (inB (IntKind.i64.wrap (x.bottom - x.top)) 0 ((x.buffer.length : Nat) : Int))), (3, .pointer (some ⟨e2b, e2o, none⟩)), (4, .int .i64 (0)), (5, .pointer (some ⟨b, o, none⟩)), (6, .pointer (some ⟨b, o, none⟩)), (7, .pointer (some ⟨b, o + 3, none⟩)), (8, .slice (some ⟨e2b, e2o, none⟩) x.actors.length r1c3), (9, .pointer (some ⟨e2b, e2o, none⟩)), (10, .pointer (some ⟨e2b, e2o, none⟩)), (11, .pointer (some ⟨e2b, e2o, none⟩)), (12, .pointer (some ⟨e2b, e2o + 1, none⟩)), (13, .int .i64 (a0.pc)), (14, .bool (decide (0 < a0.pc))), (15, .bool (decide (0 < a0.pc))), (16, .pointer (some ⟨e2b, e2o, none⟩)), (17, .pointer (some ⟨e2b, e2o, none⟩)), (18, .pointer (some ⟨e2b, e2o, none⟩)), (19, .slice (some ⟨e5b, e5o, none⟩) a0.todo.length r3c0), (20, .pointer (some ⟨e5b, e5o, none⟩)), (21, .int .i64 (e5y)), (22, .bool (e5y == 0)), (23, .bool (e5y == 0))] := (Env.pick E (Env.pick E (Env.pick E (Env.pick E (Env.pick E (Env.pick E (Env.pick E (Env.pick E (Env.pick E (Env.pick E (Env.pick E (Env.pick E (Env.pick E (Env.pick E (Env.pick E (Env.pick E (Env.pick E (Env.pick E (Env.pick E (Env.pick E (Env.pick E (Env.pick E (Env.pick E E.nil rfl) rfl) rfl) rfl) rfl) rfl) rfl) rfl) rfl) rfl) rfl) rfl) rfl) rfl) rfl) rfl) rfl) rfl) rfl) rfl) rfl) rfl) rfl)
   clear hk ht
   refine then_n (wp_ret ?_)
   refine post1 E rfl (out_t E rfl) ?_
   have hE : (inB (IntKind.i64.wrap (x.bottom - x.top)) 0 ((x.buffer.length : Nat) : Int)) = roomB x a0 := by first | rfl | (simp only [roomB, leastB, head0, ts4, e5x, ts7, B1, B2, B3, B4, B5, B6, B7, B8, B9, B10, B11, B12, B13, B14]; done) | (simp only [roomB, leastB, head0, ts4, e5x, ts7, B1, B2, B3, B4, B5, B6, B7, B8, B9, B10, B11, B12, B13, B14]; rfl) | (simp [roomB, leastB, head0, ts4, e5x, ts7, B1, B2, B3, B4, B5, B6, B7, B8, B9, B10, B11, B12, B13, B14]; done) | ((try simp [roomB, leastB, head0, inB] at ts4); (try simp [roomB, leastB, head0, inB] at e5x); (try simp [roomB, leastB, head0, inB] at ts7); simp [roomB, leastB, head0, inB]; omega)
   exact rb hE H
 refine cond_t E rfl ts7 ?_
 refine wp_region_lit ?_
 refine wv E rfl (r_assign (ev_c _)) fun a E => ?_
 refine wpList_nil (then_n (wp_seq ?_))
 let fl5 : Flow := ⟨[.c (.pointer (some ⟨b, o, none⟩)), .c (.pointer (some ⟨b, o, none⟩)), .c (.pointer (some ⟨b, o + 1, none⟩)), .c (.int .i64 (x.bottom)), .c (.pointer (some ⟨b, o, none⟩)), .c (.pointer (some ⟨b, o, none⟩)), .c (.pointer (some ⟨b, o, none⟩)), .c (.int .i64 (x.top)), .c (.int .i64 (IntKind.i64.wrap (x.bottom - x.top))), .c (.int .i64 ((-1))), .c (.pointer (some ⟨b, o, none⟩)), .c (.pointer (some ⟨b, o, none⟩)), .c (.pointer (some ⟨b, o + 2, none⟩)), .c (.slice r1A2 x.buffer.length r1c2), .c (.int .i64 (((x.buffer.length : Nat) : Int))), .c (.bool (inB (IntKind.i64.wrap (x.bottom - x.top)) (-1) ((x.buffer.length : Nat) : Int))), .c (.bool (inB (IntKind.i64.wrap (x.bottom - x.top)) (-1) ((x.buffer.length : Nat) : Int)))], [], [[], [0], [0, 1], [0, 1, 2], [], [4], [4, 5], [4, 5, 6], [0, 1, 2, 3, 4, 5, 6, 7], [], [], [10], [10, 11], [10, 11, 12], [10, 11, 12, 13], [0, 1, 2, 3, 4, 5, 6, 7, 8, 9, 10, 11, 12, 13, 14], [0, 1, 2, 3, 4, 5, 6, 7, 8, 9, 10, 11, 12, 13, 14, 15]]⟩
 have E : Env 40 a [(0, .pointer (some ⟨b, o, none⟩)), (3, .pointer (some ⟨e2b, e2o, none⟩)), (4, .int .i64 ((-1))), (5, .pointer (some ⟨b, o, none⟩)), (6, .pointer (some ⟨b, o, none⟩)), (7, .pointer (some ⟨b, o + 3, none⟩)), (8, .slice (some ⟨e2b, e2o, none⟩) x.actors.length r1c3), (9, .pointer (some ⟨e2b, e2o, none⟩)), (10, .pointer (some ⟨e2b, e2o, none⟩)), (11, .pointer (some ⟨e2b, e2o, none⟩)), (12, .pointer (some ⟨e2b, e2o + 1, none⟩)), (13, .int .i64 (a0.pc)), (14, .bool (decide (0 < a0.pc))), (15, .bool (decide (0 < a0.pc))), (16, .pointer (some ⟨e2b, e2o, none⟩)), (17, .pointer (some ⟨e2b, e2o, none⟩)), (18, .pointer (some ⟨e2b, e2o, none⟩)), (19, .slice (some ⟨e5b, e5o, none⟩) a0.todo.length r3c0), (20, .pointer (some ⟨e5b, e5o, none⟩)), (21, .int .i64 (e5y)), (22, .bool (e5y == 0)), (23, .bool (e5y == 0))] := (Env.pick E (Env.pick E (Env.pick E (Env.pick E (Env.pick E (Env.pick E (Env.pick E (Env.pick E (Env.pick E (Env.pick E (Env.pick E (Env.pick E (Env.pick E (Env.pick E (Env.pick E (Env.pick E (Env.pick E (Env.pick E (Env.pick E (Env.pick E (Env.pick E (Env.pick E E.nil rfl) rfl) rfl) rfl) rfl) rfl) rfl) rfl) rfl) rfl) rfl) rfl) rfl) rfl) rfl) rfl) rfl) rfl) rfl) rfl) rfl) rfl)
 refine wp_flow (rs := []) rfl fl5 E (by rw [List.append_nil]; exact H) 17 rfl (by kernel_rfl) ?_ ?_
 ·
  refine AllTo.snoc (AllTo.snoc (AllTo.snoc (AllTo.snoc (AllTo.snoc (AllTo.snoc (AllTo.snoc (AllTo.snoc (AllTo.snoc (AllTo.snoc (AllTo.snoc (AllTo.snoc (AllTo.snoc (AllTo.snoc (AllTo.snoc (AllTo.snoc (AllTo.snoc (AllTo.zero _) ?_) ?_) ?_) ?_) ?_) ?_) ?_) ?_) ?_) ?_) ?_) ?_) ?_) ?_) ?_) ?_) ?_
  ·
   refine ⟨_, _, _, rfl, rfl, rfl, fun ν a w rs E hk ht H => ?_⟩
   exact Gives.val rfl (r_move (E.tmp rfl)) ⟨trivial, rfl, H⟩
  ·
   refine ⟨_, _, _, rfl, rfl, rfl, fun ν a w rs E hk ht H => ?_⟩
   have E := Env.add (v := .pointer (some ⟨b, o, none⟩)) E (ht 0 (by decide) _ _ 24 rfl rfl rfl)
   exact Gives.val rfl (r_nil (E.tmp rfl)) ⟨trivial, rfl, H⟩
  ·
   refine ⟨_, _, _, rfl, rfl, rfl, fun ν a w rs E hk ht H => ?_⟩
   have E := Env.add (v := .pointer (some ⟨b, o, none⟩)) E (ht 1 (by decide) _ _ 25 rfl rfl rfl)
   exact Gives.val rfl (r_fa (o' := o + 1) (E.tmp rfl) fo_30_1 rfl) ⟨trivial, rfl, H⟩
  ·
   refine ⟨_, _, _, rfl, rfl, rfl, fun ν a w rs E hk ht H => ?_⟩
   have E := Env.add (v := .pointer (some ⟨b, o + 1, none⟩)) E (ht 2 (by decide) _ _ 26 rfl rfl rfl)
   have H : Tr.Inv w0 [] w ([] ++ ([] ++ rs)) := H
   exact Gives.val rfl (r_load (E.tmp rfl) ag_2 (r1k1.get H)) ⟨trivial, rfl, H⟩
  ·
   refine ⟨_, _, _, rfl, rfl, rfl, fun ν a w rs E hk ht H => ?_⟩
   exact Gives.val rfl (r_move (E.tmp rfl)) ⟨trivial, rfl, H⟩
  ·
   refine ⟨_, _, _, rfl, rfl, rfl, fun ν a w rs E hk ht H => ?_⟩
   have E := Env.add (v := .pointer (some ⟨b, o, none⟩)) E (ht 4 (by decide) _ _ 28 rfl rfl rfl)
   exact Gives.val rfl (r_nil (E.tmp rfl)) ⟨trivial, rfl, H⟩
  ·
   refine ⟨_, _, _, rfl, rfl, rfl, fun ν a w rs E hk ht H => ?_⟩
   have E := Env.add (v := .pointer (some ⟨b, o, none⟩)) E (ht 5 (by decide) _ _ 29 rfl rfl rfl)
   exact Gives.val rfl (r_fa (o' := o) (E.tmp rfl) fo_30_0 rfl) ⟨trivial, rfl, H⟩
  ·
   refine ⟨_, _, _, rfl, rfl, rfl, fun ν a w rs E hk ht H => ?_⟩
   have E := Env.add (v := .pointer (some ⟨b, o, none⟩)) E (ht 6 (by decide) _ _ 30 rfl rfl rfl)
   have H : Tr.Inv w0 [] w ([] ++ ([] ++ rs)) := H
   exact Gives.val rfl (r_load (E.tmp rfl) ag_2 (r1k0.get H)) ⟨trivial, rfl, H⟩
  ·
   refine ⟨_, _, _, rfl, rfl, rfl, fun ν a w rs E hk ht H => ?_⟩
   have E := Env.add (v := .int .i64 (x.bottom)) E (ht 3 (by decide) _ _ 27 rfl rfl rfl)
   have E := Env.add (v := .int .i64 (x.top)) E (ht 7 (by decide) _ _ 31 rfl rfl rfl)
   exact Gives.val rfl (r_bin (E.tmp rfl) (E.tmp rfl) (b_sub rfl)) ⟨trivial, rfl, H⟩
  ·
   refine ⟨_, _, _, rfl, rfl, rfl, fun ν a w rs E hk ht H => ?_⟩
   exact Gives.val rfl (r_move (E.tmp rfl)) ⟨trivial, rfl, H⟩
  ·
   refine ⟨_, _, _, rfl, rfl, rfl, fun ν a w rs E hk ht H => ?_⟩
   exact Gives.val rfl (r_move (E.tmp rfl)) ⟨trivial, rfl, H⟩
  ·
   refine ⟨_, _, _, rfl, rfl, rfl, fun ν a w rs E hk ht H => ?_⟩
   have E := Env.add (v := .pointer (some ⟨b, o, none⟩)) E (ht 10 (by decide) _ _ 34 rfl rfl rfl)
   exact Gives.val rfl (r_nil (E.tmp rfl)) ⟨trivial, rfl, H⟩
  ·
   refine ⟨_, _, _, rfl, rfl, rfl, fun ν a w rs E hk ht H => ?_⟩
   have E := Env.add (v := .pointer (some ⟨b, o, none⟩)) E (ht 11 (by decide) _ _ 35 rfl rfl rfl)
   exact Gives.val rfl (r_fa (o' := o + 2) (E.tmp rfl) fo_30_2 rfl) ⟨trivial, rfl, H⟩
  ·
   refine ⟨_, _, _, rfl, rfl, rfl, fun ν a w rs E hk ht H => ?_⟩
   have E := Env.add (v := .pointer (some ⟨b, o + 2, none⟩)) E (ht 12 (by decide) _ _ 36 rfl rfl rfl)
   have H : Tr.Inv w0 [] w ([] ++ ([] ++ rs)) := H
   exact Gives.val rfl (r_load (E.tmp rfl) ag_24 (r1k2.get H)) ⟨trivial, rfl, H⟩
  ·
   refine ⟨_, _, _, rfl, rfl, rfl, fun ν a w rs E hk ht H => ?_⟩
   have E := Env.add (v := .slice r1A2 x.buffer.length r1c2) E (ht 13 (by decide) _ _ 37 rfl rfl rfl)
   exact Gives.val rfl (r_len (E.tmp rfl) el_24) ⟨trivial, rfl, H⟩
  ·
   refine ⟨_, _, _, rfl, rfl, rfl, fun ν a w rs E hk ht H => ?_⟩
   have E := Env.add (v := .int .i64 (IntKind.i64.wrap (x.bottom - x.top))) E (ht 8 (by decide) _ _ 32 rfl rfl rfl)
   have E := Env.add (v := .int .i64 ((-1))) E (ht 9 (by decide) _ _ 33 rfl rfl rfl)
   have E := Env.add (v := .int .i64 (((x.buffer.length : Nat) : Int))) E (ht 14 (by decide) _ _ 38 rfl rfl rfl)
   have H : Tr.Inv w0 [] w ([] ++ ([] ++ rs)) := H
   exact Gives.call (R := (fun e w' => e = .returned (.bool (inB (IntKind.i64.wrap (x.bottom - x.top)) (-1) ((x.buffer.length : Nat) : Int))) ∧ Ext w w')) rfl (r_call (ev_cons (E.tmp rfl) (ev_cons (E.tmp rfl) (ev_cons (E.tmp rfl) (ev_nil)))) ok_122) (l00In_q (IntKind.i64.wrap (x.bottom - x.top)) (-1) ((x.buffer.length : Nat) : Int) w) fun e w2 ⟨he, hb⟩ => ⟨_, he, trivial, rfl, H.ext hb⟩
  ·
   refine ⟨_, _, _, rfl, rfl, rfl, fun ν a w rs E hk ht H => ?_⟩
   have E := Env.add (v := .bool (inB (IntKind.i64.wrap (x.bottom - x.top)) (-1) ((x.buffer.length : Nat) : Int))) E (ht 15 (by decide) _ _ 39 rfl rfl rfl)
   exact Gives.val rfl (r_assign (E.tmp rfl)) ⟨trivial, rfl, H⟩
 ·
  refine fun ν a w E hk ht H => ?_
  have E := Env.add E (show a.tmps[2]? = some (.bool (inB (IntKind.i64.wrap (x.bottom - x.top)) (-1) ((x.buffer.length : Nat) : Int))) from ht 16 _ _ 2 rfl rfl rfl)
  have H : Tr.Inv w0 [] w [] := H
  have E : Env 40 a [(0, .pointer (some ⟨b, o, none⟩)), (2, .bool (inB (IntKind.i64.wrap (x.bottom - x.top)) (-1) ((x.buffer.length : Nat) : Int))), (3, .pointer (some ⟨e2b, e2o, none⟩)), (4, .int .i64 ((-1))), (5, .pointer (some ⟨b, o, none⟩)), (6, .pointer (some ⟨b, o, none⟩)), (7, .pointer (some ⟨b, o + 3, none⟩)), (8, .slice (some ⟨e2b, e2o, none⟩) x.actors.length r1c3), (9, .pointer (some ⟨e2b, e2o, none⟩)), (10, .pointer (some ⟨e2b, e2o, none⟩)), (11, .pointer (some ⟨e2b, e2o, none⟩)), (12, .pointer (some ⟨e2b, e2o + 1, none⟩)), (13, .int .i64 (a0.pc)), (14, .bool (decide (0 < a0.pc))), (15, .bool (decide (0 < a0.pc))), (16, .pointer (some ⟨e2b, e2o, none⟩)), (17, .pointer (some ⟨e2b, e2o, none⟩)), (18, .pointer (some ⟨e2b, e2o, none⟩)), (19, .slice (some ⟨e5b, e5o, none⟩) a0.todo.length r3c0), (20, .pointer (some ⟨e5b, e5o, none⟩)), (21, .int .i64 (e5y)), (22, .bool (e5y == 0)), (23, .bool (e5y == 0))] := (Env.pick E (Env.pick E (Env.pick E (Env.pick E (Env.pick E (Env.pick E (Env.pick E (Env.pick E (Env.pick E (Env.pick E (Env.pick E (Env.pick E (Env.pick E (Env.pick E (Env.pick E (Env.pick E (Env.pick E (Env.pick E (Env.pick E (Env.pick E (Env.pick E (Env.pick E (Env.pick E E.nil rfl) rfl) rfl) rfl) rfl) rfl) rfl) rfl) rfl) rfl) rfl) rfl) rfl) rfl) rfl) rfl) rfl) rfl) rfl) rfl) rfl) rfl) rfl)
  clear hk ht
  refine then_n (wp_ret ?_)
  refine post1 E rfl (out_t E rfl) ?_
  have hE : (inB (IntKind.i64.wrap (x.bottom - x.top)) (-1) ((x.buffer.length : Nat) : Int)) = roomB x a0 := by first | rfl | (simp only [roomB, leastB, head0, ts4, e5x, ts7, B1, B2, B3, B4, B5, B6, B7, B8, B9, B10, B11, B12, B13, B14]; done) | (simp only [roomB, leastB, head0, ts4, e5x, ts7, B1, B2, B3, B4, B5, B6, B7, B8, B9, B10, B11, B12, B13, B14]; rfl) | (simp [roomB, leastB, head0, ts4, e5x, ts7, B1, B2, B3, B4, B5, B6, B7, B8, B9, B10, B11, B12, B13, B14]; done) | ((try simp [roomB, leastB, head0, inB] at ts4); (try simp [roomB, leastB, head0, inB] at e5x); (try simp [roomB, leastB, head0, inB] at ts7); simp [roomB, leastB, head0, inB]; omega)
  exact rb hE H
end Go.Proofs.Ythelpioccjjgfaa
