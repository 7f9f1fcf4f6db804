/- Deques. Printed by gx_dq.py. -/
import Derived.Test.YthelpioccjjgfaaProg
import Derived.Test.YthelpioccjjgfaaSc
import Derived.Test.YthelpioccjjgfaaDDq
import Derived.Test.YthelpioccjjgfaaArith
import Derived.IntWalk
import Derived.Test.YthelpioccjjgfaaDq14
set_option linter.unusedSimpArgs false
set_option linter.unusedVariables false
namespace Go.Tr
def takingB (a : GDequeActor) : Bool := decide ((0 : Int) < ((a.todo.length : Nat) : Int)) && head0 a && decide (1 ≤ a.pc)
end Go.Tr
namespace Go.Proofs.Ythelpioccjjgfaa
open Go Go.RowKit Go.Proofs Go.Tr
theorem fo_119_0_14 : fldOff Try.prog 119 0 = some 0 := by kernel_rfl
theorem ag_24_14 : aggB Try.prog 24 = some false := by kernel_rfl
theorem el_24_14 : elemOf? Try.prog 24 = some (2, 1) := by kernel_rfl
theorem ag_2_14 : aggB Try.prog 2 = some false := by kernel_rfl
theorem fo_119_1_14 : fldOff Try.prog 119 1 = some 1 := by kernel_rfl
theorem ok_60_14 : callOk Try.prog 60 = true := by kernel_rfl
theorem fo_119_3_14 : fldOff Try.prog 119 3 = some 3 := by kernel_rfl
theorem ok_151_14 : callOk Try.prog 151 = true := by kernel_rfl
theorem ag_4_14 : aggB Try.prog 4 = some false := by kernel_rfl
theorem ag_119_14 : aggB Try.prog 119 = some true := by kernel_rfl
theorem sz_119_14 : (Try.prog.info? 119).map (·.size) = some 5 := by kernel_rfl
theorem ok_153_14 : callOk Try.prog 153 = true := by kernel_rfl
theorem fo_119_2_14 : fldOff Try.prog 119 2 = some 2 := by kernel_rfl
theorem fo_119_4_14 : fldOff Try.prog 119 4 = some 4 := by kernel_rfl
set_option maxHeartbeats 1000000 in
theorem taking_q (x : GDequeActor) (aA : Option Addr) (ac : Nat) (w0 : World) (aH : Ro1 w0 [] (.sl x.todo.length (x.todo.flatMap intE)) (.slice aA x.todo.length ac)) : Calls Try.prog 153 #[.agg #[.slice aA x.todo.length ac, .int .i64 (x.pc), .int .i64 (x.t), .int .i64 (x.b), .int .i64 (x.x)]] w0 fun e w' => e = .returned (.bool (takingB x)) ∧ Ext w0 w' := by
 refine enter_i (args := [.agg #[.slice aA x.todo.length ac, .int .i64 (x.pc), .int .i64 (x.t), .int .i64 (x.b), .int .i64 (x.x)]]) Try.func153 rfl Try.ntmps153 rfl sep0 (fun a w E H => ?_)
 have E : Env 19 a [(0, .agg #[.slice aA x.todo.length ac, .int .i64 (x.pc), .int .i64 (x.t), .int .i64 (x.b), .int .i64 (x.x)])] := E
 refine wp_seq (wp_region_lit ?_)
 refine w_box (us := [.slice aA x.todo.length ac, .int .i64 (x.pc), .int .i64 (x.t), .int .i64 (x.b), .int .i64 (x.x)]) E rfl (E.tmp rfl) rfl H (fun a w g1 E H => ?_)
 refine wv E rfl (r_assign (ev_c _)) fun a E => ?_
 refine wpList_nil (then_n (wp_seq (wp_region_lit ?_)))
 refine wv E rfl (r_fa (o' := 0) (E.tmp rfl) fo_119_0_14 rfl) fun a E => wv E rfl (r_load (E.tmp rfl) ag_24_14 (H.cell 0 rfl rfl)) fun a E => ?_
 refine wv E rfl (r_len (E.tmp rfl) el_24_14) (fun a E => ?_)
 refine wv E rfl (r_bin (E.tmp rfl) (ev_c _) (b_gtr (b := decide (0 < ((x.todo.length : Nat) : Int))) rfl)) fun a E => vm E rfl rfl fun a E => ?_
 rcases bcase (decide (0 < ((x.todo.length : Nat) : Int))) with ts2 | ts2
 ·
  refine wnh (c := false) E rfl rfl rfl rfl ts2 rfl fun a E => ?_
  refine wnh (c := false) E rfl rfl rfl rfl ts2 rfl fun a E => ?_
  refine wnh (c := false) E rfl rfl rfl rfl ts2 rfl fun a E => ?_
  refine wnh (c := false) E rfl rfl rfl rfl ts2 rfl fun a E => ?_
  refine wnh (c := false) E rfl rfl rfl rfl ts2 rfl fun a E => ?_
  refine wv E rfl (r_pick_f ((E.tmp rfl).trans (congrArg Value.bool ts2)) (ev_c _)) fun a E => vm E rfl rfl fun a E => wn E rfl rfl rfl rfl rfl fun a E => wn E rfl rfl rfl rfl rfl fun a E => wn E rfl rfl rfl rfl rfl fun a E => ?_
  refine wv E rfl (r_pick_f (E.tmp rfl) (ev_c _)) fun a E => va E rfl rfl fun a E => ?_
  refine wpList_nil (then_n (wp_ret ?_))
  refine post1 E rfl (out_t E rfl) ?_
  have hE : false = takingB x := by
   first | (simp only [takingB, head0, ts2, B1, B2, B3, B4, B5, B6, B7, B8, B9, B10, B11, B12, B13, B14]; done) | (simp only [takingB, head0, ts2, B1, B2, B3, B4, B5, B6, B7, B8, B9, B10, B11, B12, B13, B14]; rfl) | (simp only [takingB, head0, ts2]; simp)
  exact rb hE H
 refine ung E rfl rfl rfl ts2 ?_
 refine wv E rfl (r_fa (o' := 0) (E.tmp rfl) fo_119_0_14 rfl) fun a E => ?_
 refine ung E rfl rfl rfl ts2 ?_
 refine wv E rfl (r_load (E.tmp rfl) ag_24_14 (H.cell 0 rfl rfl)) fun a E => ?_
 refine ung E rfl rfl rfl ts2 ?_
 have hpos : 0 < x.todo.length := by have h := ts2; simp at h; first | omega | exact List.length_pos_iff.2 h
 revert E
 revert H
 obtain ⟨e3b, e3o, e3y, rfl, e3x, e3q⟩ := Ro1.elem (f := intE) (s := 1) (fun _ => rfl) aH rfl hpos
 intro H E
 have r4p0 : RoP w0 [] e3b e3o [.v (.int .i64 (e3y))] := e3q
 obtain ⟨r4k0, r4p1⟩ := RoP.vv r4p0
 clear r4p0
 clear r4p1
 refine wv E rfl (r_ia (k := 0) (o' := e3o) (E.tmp rfl) (ev_c _) rfl el_24_14 (by omega) rfl) fun a E => ?_
 refine ung E rfl rfl rfl ts2 ?_
 refine wv E rfl (r_load (E.tmp rfl) ag_2_14 (r4k0.get H)) fun a E => ?_
 refine ung E rfl rfl rfl ts2 ?_
 refine wv E rfl (r_bin (E.tmp rfl) (ev_c _) (b_eql (b := e3y == 0) rfl)) fun a E => wv E rfl (r_pick_t ((E.tmp rfl).trans (congrArg Value.bool ts2)) (E.tmp rfl)) fun a E => vm E rfl rfl fun a E => ?_
 rcases bcase (e3y == 0) with ts5 | ts5
 ·
  refine wnh (c := false) E rfl rfl rfl rfl ts5 rfl fun a E => ?_
  refine wnh (c := false) E rfl rfl rfl rfl ts5 rfl fun a E => ?_
  refine wnh (c := false) E rfl rfl rfl rfl ts5 rfl fun a E => ?_
  refine wv E rfl (r_pick_f ((E.tmp rfl).trans (congrArg Value.bool ts5)) (ev_c _)) fun a E => va E rfl rfl fun a E => ?_
  refine wpList_nil (then_n (wp_ret ?_))
  refine post1 E rfl (out_t E rfl) ?_
  have hE : false = takingB x := by
   first | (simp only [takingB, head0, ts2, e3x, ts5, B1, B2, B3, B4, B5, B6, B7, B8, B9, B10, B11, B12, B13, B14]; done) | (simp only [takingB, head0, ts2, e3x, ts5, B1, B2, B3, B4, B5, B6, B7, B8, B9, B10, B11, B12, B13, B14]; rfl) | (simp only [takingB, head0, ts2, e3x, ts5]; simp)
  exact rb hE H
 refine ung E rfl rfl rfl ts5 ?_
 refine wv E rfl (r_fa (o' := 1) (E.tmp rfl) fo_119_1_14 rfl) fun a E => ?_
 refine ung E rfl rfl rfl ts5 ?_
 refine wv E rfl (r_load (E.tmp rfl) ag_2_14 (H.cell 0 rfl rfl)) fun a E => ?_
 refine ung E rfl rfl rfl ts5 ?_
 refine wv E rfl (r_bin (E.tmp rfl) (ev_c _) (b_geq (b := decide (1 ≤ x.pc)) rfl)) fun a E => wv E rfl (r_pick_t ((E.tmp rfl).trans (congrArg Value.bool ts5)) (E.tmp rfl)) fun a E => va E rfl rfl fun a E => ?_
 refine wpList_nil (then_n (wp_ret ?_))
 refine post1 E rfl (out_t E rfl) ?_
 have hE : (decide (1 ≤ x.pc)) = takingB x := by
  first | (simp only [takingB, head0, ts2, e3x, ts5, B1, B2, B3, B4, B5, B6, B7, B8, B9, B10, B11, B12, B13, B14]; done) | (simp only [takingB, head0, ts2, e3x, ts5, B1, B2, B3, B4, B5, B6, B7, B8, B9, B10, B11, B12, B13, B14]; rfl) | (simp only [takingB, head0, ts2, e3x, ts5]; simp)
 exact rb hE H

set_option maxHeartbeats 1000000 in
theorem validActor_q (x : GDequeActor) (ow : Bool) (aA : Option Addr) (ac : Nat) (w0 : World) (aH : Ro1 w0 [] (.sl x.todo.length (x.todo.flatMap intE)) (.slice aA x.todo.length ac)) : Calls Try.prog 152 #[.agg #[.slice aA x.todo.length ac, .int .i64 (x.pc), .int .i64 (x.t), .int .i64 (x.b), .int .i64 (x.x)], .bool (ow)] w0 fun e w' => e = .returned (.bool (actorB x ow)) ∧ Ext w0 w' := by
 refine enter_i (args := [.agg #[.slice aA x.todo.length ac, .int .i64 (x.pc), .int .i64 (x.t), .int .i64 (x.b), .int .i64 (x.x)], .bool (ow)]) Try.func152 rfl Try.ntmps152 rfl sep0 (fun a w E H => ?_)
 have E : Env 86 a [(0, .agg #[.slice aA x.todo.length ac, .int .i64 (x.pc), .int .i64 (x.t), .int .i64 (x.b), .int .i64 (x.x)]), (1, .bool (ow))] := E
 refine wp_seq (wp_region_lit ?_)
 refine w_box (us := [.slice aA x.todo.length ac, .int .i64 (x.pc), .int .i64 (x.t), .int .i64 (x.b), .int .i64 (x.x)]) E rfl (E.tmp rfl) rfl H (fun a w g1 E H => ?_)
 refine w_box (us := [.bool (ow)]) E rfl (E.tmp rfl) rfl H (fun a w g2 E H => ?_)
 refine wv E rfl (r_assign (ev_c _)) fun a E => ?_
 refine wpList_nil (then_n (wp_seq (wp_seq ?_)))
 refine reg_mid (fun a w => Env 86 a [(2, .pointer (some ⟨g1, 0, none⟩)), (3, .pointer (some ⟨g2, 0, none⟩)), (4, .bool (false)), (16, .bool ((decide (10 < ((x.todo.length : Nat) : Int))) || (!x.todo.all (fun n => todoOk n ow))))] ∧ Tr.Inv w0 [] w [Cel g2 [.bool (ow)] 4, Cel g1 [.slice aA x.todo.length ac, .int .i64 (x.pc), .int .i64 (x.t), .int .i64 (x.b), .int .i64 (x.x)] 119]) ?_ (fun a w hj => ?_)
 ·
  refine wp_region_lit ?_
  refine wv E rfl (r_fa (o' := 0) (E.tmp rfl) fo_119_0_14 rfl) fun a E => wv E rfl (r_load (E.tmp rfl) ag_24_14 (H.cell 1 rfl rfl)) fun a E => ?_
  refine wv E rfl (r_len (E.tmp rfl) el_24_14) (fun a E => ?_)
  refine wv E rfl (r_bin (E.tmp rfl) (ev_c _) (b_gtr (b := decide (10 < ((x.todo.length : Nat) : Int))) rfl)) fun a E => vm E rfl rfl fun a E => ?_
  rcases bcase (decide (10 < ((x.todo.length : Nat) : Int))) with ts3 | ts3
  ·
   refine ung E rfl rfl rfl ts3 ?_
   refine wv E rfl (r_fa (o' := 0) (E.tmp rfl) fo_119_0_14 rfl) fun a E => ?_
   refine ung E rfl rfl rfl ts3 ?_
   refine wv E rfl (r_load (E.tmp rfl) ag_24_14 (H.cell 1 rfl rfl)) fun a E => ?_
   refine ung E rfl rfl rfl ts3 ?_
   refine wv E rfl (r_mkf (ev_cons (E.tmp rfl) (ev_nil))) fun a E => ?_
   refine ung E rfl rfl rfl ts3 ?_
   refine w_quiet (v := .bool (!x.todo.all (fun n => todoOk n ow))) E rfl (ev_cons (E.tmp rfl) (ev_cons (E.tmp rfl) (ev_nil))) ok_60_14 (con_va1 x.todo ac aA g2 ow w (H.roc 0 rfl rfl) (aH.at_ H (F := []) (by simp))) H (fun a w E H => ?_)
   refine wv E rfl (r_pick_f ((E.tmp rfl).trans (congrArg Value.bool ts3)) (E.tmp rfl)) fun a E => ?_
   refine wpList_nil ?_
   have ej4 : ((decide (10 < ((x.todo.length : Nat) : Int))) || (!x.todo.all (fun n => todoOk n ow))) = (!x.todo.all (fun n => todoOk n ow)) := by simp only [ts3, B1, B2, B3, B4, B5, B6, B7, B8, B9, B10, B11, B12, B13, B14]
   exact ⟨rfl, by rw [ej4]; exact (Env.pick E (Env.pick E (Env.pick E (Env.pick E E.nil rfl) rfl) rfl) rfl), H⟩
  refine wnh (c := true) E rfl rfl rfl rfl ts3 rfl fun a E => ?_
  refine wnh (c := true) E rfl rfl rfl rfl ts3 rfl fun a E => ?_
  refine wnh (c := true) E rfl rfl rfl rfl ts3 rfl fun a E => ?_
  refine wnh (c := true) E rfl rfl rfl rfl ts3 rfl fun a E => ?_
  refine wv E rfl (r_pick_t ((E.tmp rfl).trans (congrArg Value.bool ts3)) (ev_c _)) fun a E => ?_
  refine wpList_nil ?_
  have ej5 : ((decide (10 < ((x.todo.length : Nat) : Int))) || (!x.todo.all (fun n => todoOk n ow))) = true := by simp only [ts3, B1, B2, B3, B4, B5, B6, B7, B8, B9, B10, B11, B12, B13, B14]
  exact ⟨rfl, by rw [ej5]; exact (Env.pick E (Env.pick E (Env.pick E (Env.pick E E.nil rfl) rfl) rfl) rfl), H⟩
 obtain ⟨E, H⟩ := hj
 refine then_n ?_
 rcases bcase ((decide (10 < ((x.todo.length : Nat) : Int))) || (!x.todo.all (fun n => todoOk n ow))) with ts6 | ts6
 ·
  obtain ⟨ts7, ts8⟩ := b_of ts6
  have ts9 := b_nf ts8
  refine cond_f E rfl ts6 ?_
  refine wp_skip (then_n (wp_seq (wp_seq ?_)))
  refine reg_mid (fun a w => Env 86 a [(2, .pointer (some ⟨g1, 0, none⟩)), (3, .pointer (some ⟨g2, 0, none⟩)), (4, .bool (false)), (25, .bool ((((x.todo.length : Nat) : Int) == 0) || (x.pc == 0)))] ∧ Tr.Inv w0 [] w [Cel g2 [.bool (ow)] 4, Cel g1 [.slice aA x.todo.length ac, .int .i64 (x.pc), .int .i64 (x.t), .int .i64 (x.b), .int .i64 (x.x)] 119]) ?_ (fun a w hj => ?_)
  ·
   refine wp_region_lit ?_
   refine wv E rfl (r_fa (o' := 0) (E.tmp rfl) fo_119_0_14 rfl) fun a E => wv E rfl (r_load (E.tmp rfl) ag_24_14 (H.cell 1 rfl rfl)) fun a E => ?_
   refine wv E rfl (r_len (E.tmp rfl) el_24_14) (fun a E => ?_)
   refine wv E rfl (r_bin (E.tmp rfl) (ev_c _) (b_eql (b := ((x.todo.length : Nat) : Int) == 0) rfl)) fun a E => vm E rfl rfl fun a E => ?_
   rcases bcase (((x.todo.length : Nat) : Int) == 0) with ts10 | ts10
   ·
    refine ung E rfl rfl rfl ts10 ?_
    refine wv E rfl (r_fa (o' := 1) (E.tmp rfl) fo_119_1_14 rfl) fun a E => ?_
    refine ung E rfl rfl rfl ts10 ?_
    refine wv E rfl (r_load (E.tmp rfl) ag_2_14 (H.cell 1 rfl rfl)) fun a E => ?_
    refine ung E rfl rfl rfl ts10 ?_
    refine wv E rfl (r_bin (E.tmp rfl) (ev_c _) (b_eql (b := x.pc == 0) rfl)) fun a E => wv E rfl (r_pick_f ((E.tmp rfl).trans (congrArg Value.bool ts10)) (E.tmp rfl)) fun a E => ?_
    refine wpList_nil ?_
    have ej11 : ((((x.todo.length : Nat) : Int) == 0) || (x.pc == 0)) = (x.pc == 0) := by simp only [ts10, B1, B2, B3, B4, B5, B6, B7, B8, B9, B10, B11, B12, B13, B14]
    exact ⟨rfl, by rw [ej11]; exact (Env.pick E (Env.pick E (Env.pick E (Env.pick E E.nil rfl) rfl) rfl) rfl), H⟩
   refine wnh (c := true) E rfl rfl rfl rfl ts10 rfl fun a E => ?_
   refine wnh (c := true) E rfl rfl rfl rfl ts10 rfl fun a E => ?_
   refine wnh (c := true) E rfl rfl rfl rfl ts10 rfl fun a E => ?_
   refine wv E rfl (r_pick_t ((E.tmp rfl).trans (congrArg Value.bool ts10)) (ev_c _)) fun a E => ?_
   refine wpList_nil ?_
   have ej12 : ((((x.todo.length : Nat) : Int) == 0) || (x.pc == 0)) = true := by simp only [ts10, B1, B2, B3, B4, B5, B6, B7, B8, B9, B10, B11, B12, B13, B14]
   exact ⟨rfl, by rw [ej12]; exact (Env.pick E (Env.pick E (Env.pick E (Env.pick E E.nil rfl) rfl) rfl) rfl), H⟩
  obtain ⟨E, H⟩ := hj
  refine then_n ?_
  rcases bcase ((((x.todo.length : Nat) : Int) == 0) || (x.pc == 0)) with ts13 | ts13
  ·
   obtain ⟨ts14, ts15⟩ := b_of ts13
   refine cond_f E rfl ts13 ?_
   refine wp_skip (then_n (wp_seq (wp_region_lit ?_)))
   refine wv E rfl (r_assign (ev_c _)) fun a E => ?_
   refine wpList_nil (then_n (wp_seq (wp_seq ?_)))
   have hpos : 0 < x.todo.length := by have h := ts14; simp at h; exact List.length_pos_iff.2 h
   revert E
   revert H
   obtain ⟨e16b, e16o, e16y, rfl, e16x, e16q⟩ := Ro1.elem (f := intE) (s := 1) (fun _ => rfl) aH rfl hpos
   intro H E
   have r17p0 : RoP w0 [] e16b e16o [.v (.int .i64 (e16y))] := e16q
   obtain ⟨r17k0, r17p1⟩ := RoP.vv r17p0
   clear r17p0
   clear r17p1
   refine wp_region_lit ?_
   refine wv E rfl (r_fa (o' := 0) (E.tmp rfl) fo_119_0_14 rfl) fun a E => wv E rfl (r_load (E.tmp rfl) ag_24_14 (H.cell 1 rfl rfl)) fun a E => wv E rfl (r_ia (k := 0) (o' := e16o) (E.tmp rfl) (ev_c _) rfl el_24_14 (by omega) rfl) fun a E => wv E rfl (r_load (E.tmp rfl) ag_2_14 (r17k0.get H)) fun a E => wv E rfl (r_bin (E.tmp rfl) (ev_c _) (b_neq (b := e16y != 0) rfl)) fun a E => ?_
   refine wpList_nil (then_n ?_)
   rcases bcase (e16y != 0) with ts18 | ts18
   ·
    refine cond_f E rfl ts18 ?_
    refine wp_skip (then_n (wp_seq ?_))
    refine reg_mid (fun a w => Env 86 a [(2, .pointer (some ⟨g1, 0, none⟩)), (4, .bool (false)), (5, .int .i64 (3)), (6, .bool ((inB x.b 0 1000) || ((x.b == (-1)) && (ow && (takingB x)))))] ∧ Tr.Inv w0 [] w [Cel g2 [.bool (ow)] 4, Cel g1 [.slice (some ⟨e16b, e16o, none⟩) x.todo.length ac, .int .i64 (x.pc), .int .i64 (x.t), .int .i64 (x.b), .int .i64 (x.x)] 119]) ?_ (fun a w hj => ?_)
    ·
     refine wp_region_lit ?_
     refine wv E rfl (r_fa (o' := 3) (E.tmp rfl) fo_119_3_14 rfl) fun a E => wv E rfl (r_load (E.tmp rfl) ag_2_14 (H.cell 1 rfl rfl)) fun a E => ?_
     refine w_quiet (v := .bool (inB x.b 0 1000)) E rfl (ev_cons (E.tmp rfl) (ev_nil)) ok_151_14 (isEnd_q x.b w) H (fun a w E H => ?_)
     refine vm E rfl rfl fun a E => ?_
     rcases bcase (inB x.b 0 1000) with ts19 | ts19
     ·
      refine ung E rfl rfl rfl ts19 ?_
      refine wv E rfl (r_fa (o' := 3) (E.tmp rfl) fo_119_3_14 rfl) fun a E => ?_
      refine ung E rfl rfl rfl ts19 ?_
      refine wv E rfl (r_load (E.tmp rfl) ag_2_14 (H.cell 1 rfl rfl)) fun a E => ?_
      refine ung E rfl rfl rfl ts19 ?_
      refine wv E rfl (r_bin (E.tmp rfl) (ev_c _) (b_eql (b := x.b == (-1)) rfl)) fun a E => ?_
      refine ung E rfl rfl rfl ts19 ?_
      refine vm E rfl rfl fun a E => ?_
      rcases bcase (x.b == (-1)) with ts20 | ts20
      ·
       refine wnh (c := false) E rfl rfl rfl rfl ts20 rfl fun a E => ?_
       refine ung E rfl rfl rfl ts19 ?_
       refine wv E rfl (r_pick_f ((E.tmp rfl).trans (congrArg Value.bool ts20)) (ev_c _)) fun a E => ?_
       refine ung E rfl rfl rfl ts19 ?_
       refine vm E rfl rfl fun a E => wn E rfl rfl rfl rfl rfl fun a E => wn E rfl rfl rfl rfl rfl fun a E => ?_
       refine ung E rfl rfl rfl ts19 ?_
       refine wv E rfl (r_pick_f (E.tmp rfl) (ev_c _)) fun a E => wv E rfl (r_pick_f ((E.tmp rfl).trans (congrArg Value.bool ts19)) (E.tmp rfl)) fun a E => va E rfl rfl fun a E => ?_
       refine wpList_nil ?_
       have ej21 : ((inB x.b 0 1000) || ((x.b == (-1)) && (ow && (takingB x)))) = false := by simp only [ts19, ts20, B1, B2, B3, B4, B5, B6, B7, B8, B9, B10, B11, B12, B13, B14]
       exact ⟨rfl, by rw [ej21]; exact (Env.pick E (Env.pick E (Env.pick E (Env.pick E E.nil rfl) rfl) rfl) rfl), H⟩
      refine ung E rfl rfl rfl ts20 ?_
      refine wv E rfl (r_load (E.tmp rfl) ag_4_14 (H.cell 0 rfl rfl)) fun a E => ?_
      refine ung E rfl rfl rfl ts19 ?_
      refine wv E rfl (r_pick_t ((E.tmp rfl).trans (congrArg Value.bool ts20)) (E.tmp rfl)) fun a E => ?_
      refine ung E rfl rfl rfl ts19 ?_
      refine vm E rfl rfl fun a E => ?_
      rcases bcase (ow) with ts22 | ts22
      ·
       refine wnh (c := false) E rfl rfl rfl rfl ts22 rfl fun a E => ?_
       refine wnh (c := false) E rfl rfl rfl rfl ts22 rfl fun a E => ?_
       refine ung E rfl rfl rfl ts19 ?_
       refine wv E rfl (r_pick_f ((E.tmp rfl).trans (congrArg Value.bool ts22)) (ev_c _)) fun a E => wv E rfl (r_pick_f ((E.tmp rfl).trans (congrArg Value.bool ts19)) (E.tmp rfl)) fun a E => va E rfl rfl fun a E => ?_
       refine wpList_nil ?_
       have ej23 : ((inB x.b 0 1000) || ((x.b == (-1)) && (ow && (takingB x)))) = false := by simp only [ts19, ts20, ts22, B1, B2, B3, B4, B5, B6, B7, B8, B9, B10, B11, B12, B13, B14]
       exact ⟨rfl, by rw [ej23]; exact (Env.pick E (Env.pick E (Env.pick E (Env.pick E E.nil rfl) rfl) rfl) rfl), H⟩
      refine ung E rfl rfl rfl ts22 ?_
      refine wv E rfl (r_loads (us := [.slice (some ⟨e16b, e16o, none⟩) x.todo.length ac, .int .i64 (x.pc), .int .i64 (x.t), .int .i64 (x.b), .int .i64 (x.x)]) (E.tmp rfl) ag_119_14 sz_119_14 (H.cellsAt 1 rfl)) fun a E => ?_
      refine ung E rfl rfl rfl ts22 ?_
      refine w_quiet (v := .bool (takingB x)) E rfl (ev_cons (E.tmp rfl) (ev_nil)) ok_153_14 (taking_q x (some ⟨e16b, e16o, none⟩) ac w (aH.at_ H (F := []) (by simp))) H (fun a w E H => ?_)
      refine ung E rfl rfl rfl ts19 ?_
      refine wv E rfl (r_pick_t ((E.tmp rfl).trans (congrArg Value.bool ts22)) (E.tmp rfl)) fun a E => wv E rfl (r_pick_f ((E.tmp rfl).trans (congrArg Value.bool ts19)) (E.tmp rfl)) fun a E => va E rfl rfl fun a E => ?_
      refine wpList_nil ?_
      have ej24 : ((inB x.b 0 1000) || ((x.b == (-1)) && (ow && (takingB x)))) = (takingB x) := by simp only [ts19, ts20, ts22, B1, B2, B3, B4, B5, B6, B7, B8, B9, B10, B11, B12, B13, B14]
      exact ⟨rfl, by rw [ej24]; exact (Env.pick E (Env.pick E (Env.pick E (Env.pick E E.nil rfl) rfl) rfl) rfl), H⟩
     refine wnh (c := true) E rfl rfl rfl rfl ts19 rfl fun a E => ?_
     refine wnh (c := true) E rfl rfl rfl rfl ts19 rfl fun a E => ?_
     refine wnh (c := true) E rfl rfl rfl rfl ts19 rfl fun a E => ?_
     refine wnh (c := true) E rfl rfl rfl rfl ts19 rfl fun a E => ?_
     refine wnu E rfl rfl rfl rfl fun a E => ?_
     refine wnh (c := true) E rfl rfl rfl rfl ts19 rfl fun a E => ?_
     refine wnh (c := true) E rfl rfl rfl rfl ts19 rfl fun a E => ?_
     refine wnu E rfl rfl rfl rfl fun a E => wnu E rfl rfl rfl rfl fun a E => ?_
     refine wnh (c := true) E rfl rfl rfl rfl ts19 rfl fun a E => ?_
     refine wv E rfl (r_pick_t ((E.tmp rfl).trans (congrArg Value.bool ts19)) (ev_c _)) fun a E => va E rfl rfl fun a E => ?_
     refine wpList_nil ?_
     have ej25 : ((inB x.b 0 1000) || ((x.b == (-1)) && (ow && (takingB x)))) = true := by simp only [ts19, B1, B2, B3, B4, B5, B6, B7, B8, B9, B10, B11, B12, B13, B14]
     exact ⟨rfl, by rw [ej25]; exact (Env.pick E (Env.pick E (Env.pick E (Env.pick E E.nil rfl) rfl) rfl) rfl), H⟩
    obtain ⟨E, H⟩ := hj
    refine then_n (wp_seq (wp_region_lit ?_))
    refine wv E rfl (r_fa (o' := 1) (E.tmp rfl) fo_119_1_14 rfl) fun a E => wv E rfl (r_load (E.tmp rfl) ag_2_14 (H.cell 1 rfl rfl)) fun a E => wv E rfl (r_bin (E.tmp rfl) (ev_c _) (b_geq (b := decide (1 ≤ x.pc)) rfl)) fun a E => vm E rfl rfl fun a E => ?_
    rcases bcase (decide (1 ≤ x.pc)) with ts26 | ts26
    ·
     refine wnh (c := false) E rfl rfl rfl rfl ts26 rfl fun a E => ?_
     refine wnh (c := false) E rfl rfl rfl rfl ts26 rfl fun a E => ?_
     refine wnh (c := false) E rfl rfl rfl rfl ts26 rfl fun a E => ?_
     refine wnh (c := false) E rfl rfl rfl rfl ts26 rfl fun a E => ?_
     refine wv E rfl (r_pick_f ((E.tmp rfl).trans (congrArg Value.bool ts26)) (ev_c _)) fun a E => vm E rfl rfl fun a E => wn E rfl rfl rfl rfl rfl fun a E => wn E rfl rfl rfl rfl rfl fun a E => wn E rfl rfl rfl rfl rfl fun a E => ?_
     refine wv E rfl (r_pick_f (E.tmp rfl) (ev_c _)) fun a E => vm E rfl rfl fun a E => wn E rfl rfl rfl rfl rfl fun a E => wn E rfl rfl rfl rfl rfl fun a E => wn E rfl rfl rfl rfl rfl fun a E => ?_
     refine wv E rfl (r_pick_f (E.tmp rfl) (ev_c _)) fun a E => vm E rfl rfl fun a E => wn E rfl rfl rfl rfl rfl fun a E => wv E rfl (r_pick_f (E.tmp rfl) (ev_c _)) fun a E => va E rfl rfl fun a E => ?_
     refine wpList_nil (then_n (wp_ret ?_))
     refine post1 E rfl (out_t E rfl) ?_
     have hE : false = actorB x ow := by
      have hd0 : head0 x = (e16y == 0) := by simp only [head0, e16x]
      have hok : headOk x ow = cond (e16y != 0) (decide (x.pc < 3) && decide (0 ≤ x.b)) (ow || decide (0 ≤ x.b)) := by simp only [headOk, e16x]
      have hts7 := ts7
      have hts9 := ts9
      have hts14 := ts14
      have hts15 := ts15
      have hts18 := ts18
      have hts26 := ts26
      simp only [actorB, hok, ts7, ts9, ts14, ts15, ts18, ts26]
      first | done | rfl | (simp; done) | (clear E H; simp [takingB, inB, hd0] at hts7 hts9 hts14 hts15 hts18 hts26 ⊢; first | done | omega) | (clear E H; rw [Bool.eq_iff_iff]; simp [takingB, inB, hd0] at hts7 hts9 hts14 hts15 hts18 hts26 ⊢; omega)
     exact rb hE H
    refine ung E rfl rfl rfl ts26 ?_
    refine wv E rfl (r_fa (o' := 1) (E.tmp rfl) fo_119_1_14 rfl) fun a E => ?_
    refine ung E rfl rfl rfl ts26 ?_
    refine wv E rfl (r_load (E.tmp rfl) ag_2_14 (H.cell 1 rfl rfl)) fun a E => ?_
    refine ung E rfl rfl rfl ts26 ?_
    refine vm E rfl rfl fun a E => ?_
    refine ung E rfl rfl rfl ts26 ?_
    refine wv E rfl (r_bin (E.tmp rfl) (E.tmp rfl) (b_leq (b := decide (x.pc ≤ 3)) rfl)) fun a E => wv E rfl (r_pick_t ((E.tmp rfl).trans (congrArg Value.bool ts26)) (E.tmp rfl)) fun a E => vm E rfl rfl fun a E => ?_
    rcases bcase (decide (x.pc ≤ 3)) with ts27 | ts27
    ·
     refine wnh (c := false) E rfl rfl rfl rfl ts27 rfl fun a E => ?_
     refine wnh (c := false) E rfl rfl rfl rfl ts27 rfl fun a E => ?_
     refine wnh (c := false) E rfl rfl rfl rfl ts27 rfl fun a E => ?_
     refine wv E rfl (r_pick_f ((E.tmp rfl).trans (congrArg Value.bool ts27)) (ev_c _)) fun a E => vm E rfl rfl fun a E => wn E rfl rfl rfl rfl rfl fun a E => wn E rfl rfl rfl rfl rfl fun a E => wn E rfl rfl rfl rfl rfl fun a E => ?_
     refine wv E rfl (r_pick_f (E.tmp rfl) (ev_c _)) fun a E => vm E rfl rfl fun a E => wn E rfl rfl rfl rfl rfl fun a E => wv E rfl (r_pick_f (E.tmp rfl) (ev_c _)) fun a E => va E rfl rfl fun a E => ?_
     refine wpList_nil (then_n (wp_ret ?_))
     refine post1 E rfl (out_t E rfl) ?_
     have hE : false = actorB x ow := by
      have hd0 : head0 x = (e16y == 0) := by simp only [head0, e16x]
      have hok : headOk x ow = cond (e16y != 0) (decide (x.pc < 3) && decide (0 ≤ x.b)) (ow || decide (0 ≤ x.b)) := by simp only [headOk, e16x]
      have hts7 := ts7
      have hts9 := ts9
      have hts14 := ts14
      have hts15 := ts15
      have hts18 := ts18
      have hts26 := ts26
      have hts27 := ts27
      simp only [actorB, hok, ts7, ts9, ts14, ts15, ts18, ts26, ts27]
      first | done | rfl | (simp; done) | (clear E H; simp [takingB, inB, hd0] at hts7 hts9 hts14 hts15 hts18 hts26 hts27 ⊢; first | done | omega) | (clear E H; rw [Bool.eq_iff_iff]; simp [takingB, inB, hd0] at hts7 hts9 hts14 hts15 hts18 hts26 hts27 ⊢; omega)
     exact rb hE H
    refine ung E rfl rfl rfl ts27 ?_
    refine wv E rfl (r_fa (o' := 2) (E.tmp rfl) fo_119_2_14 rfl) fun a E => ?_
    refine ung E rfl rfl rfl ts27 ?_
    refine wv E rfl (r_load (E.tmp rfl) ag_2_14 (H.cell 1 rfl rfl)) fun a E => ?_
    refine ung E rfl rfl rfl ts27 ?_
    refine w_quiet (v := .bool (inB x.t 0 1000)) E rfl (ev_cons (E.tmp rfl) (ev_nil)) ok_151_14 (isEnd_q x.t w) H (fun a w E H => ?_)
    refine wv E rfl (r_pick_t ((E.tmp rfl).trans (congrArg Value.bool ts27)) (E.tmp rfl)) fun a E => vm E rfl rfl fun a E => ?_
    rcases bcase (inB x.t 0 1000) with ts28 | ts28
    ·
     refine wnh (c := false) E rfl rfl rfl rfl ts28 rfl fun a E => ?_
     refine wnh (c := false) E rfl rfl rfl rfl ts28 rfl fun a E => ?_
     refine wnh (c := false) E rfl rfl rfl rfl ts28 rfl fun a E => ?_
     refine wv E rfl (r_pick_f ((E.tmp rfl).trans (congrArg Value.bool ts28)) (ev_c _)) fun a E => vm E rfl rfl fun a E => wn E rfl rfl rfl rfl rfl fun a E => wv E rfl (r_pick_f (E.tmp rfl) (ev_c _)) fun a E => va E rfl rfl fun a E => ?_
     refine wpList_nil (then_n (wp_ret ?_))
     refine post1 E rfl (out_t E rfl) ?_
     have hE : false = actorB x ow := by
      have hd0 : head0 x = (e16y == 0) := by simp only [head0, e16x]
      have hok : headOk x ow = cond (e16y != 0) (decide (x.pc < 3) && decide (0 ≤ x.b)) (ow || decide (0 ≤ x.b)) := by simp only [headOk, e16x]
      have hts7 := ts7
      have hts9 := ts9
      have hts14 := ts14
      have hts15 := ts15
      have hts18 := ts18
      have hts26 := ts26
      have hts27 := ts27
      have hts28 := ts28
      simp only [actorB, hok, ts7, ts9, ts14, ts15, ts18, ts26, ts27, ts28]
      first | done | rfl | (simp; done) | (clear E H; simp [takingB, inB, hd0] at hts7 hts9 hts14 hts15 hts18 hts26 hts27 hts28 ⊢; first | done | omega) | (clear E H; rw [Bool.eq_iff_iff]; simp [takingB, inB, hd0] at hts7 hts9 hts14 hts15 hts18 hts26 hts27 hts28 ⊢; omega)
     exact rb hE H
    refine ung E rfl rfl rfl ts28 ?_
    refine wv E rfl (r_fa (o' := 4) (E.tmp rfl) fo_119_4_14 rfl) fun a E => ?_
    refine ung E rfl rfl rfl ts28 ?_
    refine wv E rfl (r_load (E.tmp rfl) ag_2_14 (H.cell 1 rfl rfl)) fun a E => ?_
    refine ung E rfl rfl rfl ts28 ?_
    refine w_quiet (v := .bool (inB x.x 0 1000)) E rfl (ev_cons (E.tmp rfl) (ev_nil)) ok_151_14 (isEnd_q x.x w) H (fun a w E H => ?_)
    refine wv E rfl (r_pick_t ((E.tmp rfl).trans (congrArg Value.bool ts28)) (E.tmp rfl)) fun a E => vm E rfl rfl fun a E => ?_
    rcases bcase (inB x.x 0 1000) with ts29 | ts29
    ·
     refine wnh (c := false) E rfl rfl rfl rfl ts29 rfl fun a E => ?_
     refine wv E rfl (r_pick_f ((E.tmp rfl).trans (congrArg Value.bool ts29)) (ev_c _)) fun a E => va E rfl rfl fun a E => ?_
     refine wpList_nil (then_n (wp_ret ?_))
     refine post1 E rfl (out_t E rfl) ?_
     have hE : false = actorB x ow := by
      have hd0 : head0 x = (e16y == 0) := by simp only [head0, e16x]
      have hok : headOk x ow = cond (e16y != 0) (decide (x.pc < 3) && decide (0 ≤ x.b)) (ow || decide (0 ≤ x.b)) := by simp only [headOk, e16x]
      have hts7 := ts7
      have hts9 := ts9
      have hts14 := ts14
      have hts15 := ts15
      have hts18 := ts18
      have hts26 := ts26
      have hts27 := ts27
      have hts28 := ts28
      have hts29 := ts29
      simp only [actorB, hok, ts7, ts9, ts14, ts15, ts18, ts26, ts27, ts28, ts29]
      first | done | rfl | (simp; done) | (clear E H; simp [takingB, inB, hd0] at hts7 hts9 hts14 hts15 hts18 hts26 hts27 hts28 hts29 ⊢; first | done | omega) | (clear E H; rw [Bool.eq_iff_iff]; simp [takingB, inB, hd0] at hts7 hts9 hts14 hts15 hts18 hts26 hts27 hts28 hts29 ⊢; omega)
     exact rb hE H
    refine ung E rfl rfl rfl ts29 ?_
    refine vm E rfl rfl fun a E => wv E rfl (r_pick_t ((E.tmp rfl).trans (congrArg Value.bool ts29)) (E.tmp rfl)) fun a E => va E rfl rfl fun a E => ?_
    refine wpList_nil (then_n (wp_ret ?_))
    refine post1 E rfl (out_t E rfl) ?_
    rcases bcase ((inB x.b 0 1000) || ((x.b == (-1)) && (ow && (takingB x)))) with ts30 | ts30
    ·
     obtain ⟨ts31, ts32⟩ := b_of ts30
     rw [show ((inB x.b 0 1000) || ((x.b == (-1)) && (ow && (takingB x)))) = false from ts30]
     rcases b_af ts32 with ts33 | ⟨ts33, ts34⟩
     ·
      have hE : false = actorB x ow := by
       have hd0 : head0 x = (e16y == 0) := by simp only [head0, e16x]
       have hok : headOk x ow = cond (e16y != 0) (decide (x.pc < 3) && decide (0 ≤ x.b)) (ow || decide (0 ≤ x.b)) := by simp only [headOk, e16x]
       have hts7 := ts7
       have hts9 := ts9
       have hts14 := ts14
       have hts15 := ts15
       have hts18 := ts18
       have hts26 := ts26
       have hts27 := ts27
       have hts28 := ts28
       have hts29 := ts29
       have hts31 := ts31
       have hts33 := ts33
       simp only [actorB, hok, ts7, ts9, ts14, ts15, ts18, ts26, ts27, ts28, ts29, ts31, ts33]
       first | done | rfl | (simp; done) | (clear E H; simp [takingB, inB, hd0] at hts7 hts9 hts14 hts15 hts18 hts26 hts27 hts28 hts29 hts31 hts33 ⊢; first | done | omega) | (clear E H; rw [Bool.eq_iff_iff]; simp [takingB, inB, hd0] at hts7 hts9 hts14 hts15 hts18 hts26 hts27 hts28 hts29 hts31 hts33 ⊢; omega)
      exact rb hE H
     rcases b_af ts34 with ts35 | ⟨ts35, ts36⟩
     ·
      have hE : false = actorB x ow := by
       subst ts35
       have hd0 : head0 x = (e16y == 0) := by simp only [head0, e16x]
       have hok : headOk x false = cond (e16y != 0) (decide (x.pc < 3) && decide (0 ≤ x.b)) (false || decide (0 ≤ x.b)) := by simp only [headOk, e16x]
       have hts7 := ts7
       have hts9 := ts9
       have hts14 := ts14
       have hts15 := ts15
       have hts18 := ts18
       have hts26 := ts26
       have hts27 := ts27
       have hts28 := ts28
       have hts29 := ts29
       have hts31 := ts31
       have hts33 := ts33
       simp only [actorB, hok, ts7, ts9, ts14, ts15, ts18, ts26, ts27, ts28, ts29, ts31, ts33]
       first | done | rfl | (simp; done) | (clear E H; simp [takingB, inB, hd0] at hts7 hts9 hts14 hts15 hts18 hts26 hts27 hts28 hts29 hts31 hts33 ⊢; first | done | omega) | (clear E H; rw [Bool.eq_iff_iff]; simp [takingB, inB, hd0] at hts7 hts9 hts14 hts15 hts18 hts26 hts27 hts28 hts29 hts31 hts33 ⊢; omega)
      exact rb hE H
     have hE : false = actorB x ow := by
      subst ts35
      have hd0 : head0 x = (e16y == 0) := by simp only [head0, e16x]
      have hok : headOk x true = cond (e16y != 0) (decide (x.pc < 3) && decide (0 ≤ x.b)) (true || decide (0 ≤ x.b)) := by simp only [headOk, e16x]
      have hts7 := ts7
      have hts9 := ts9
      have hts14 := ts14
      have hts15 := ts15
      have hts18 := ts18
      have hts26 := ts26
      have hts27 := ts27
      have hts28 := ts28
      have hts29 := ts29
      have hts31 := ts31
      have hts33 := ts33
      have hts36 := ts36
      simp only [actorB, hok, ts7, ts9, ts14, ts15, ts18, ts26, ts27, ts28, ts29, ts31, ts33, ts36]
      first | done | rfl | (simp; done) | (clear E H; simp [takingB, inB, hd0] at hts7 hts9 hts14 hts15 hts18 hts26 hts27 hts28 hts29 hts31 hts33 hts36 ⊢; first | done | omega) | (clear E H; rw [Bool.eq_iff_iff]; simp [takingB, inB, hd0] at hts7 hts9 hts14 hts15 hts18 hts26 hts27 hts28 hts29 hts31 hts33 hts36 ⊢; omega)
     exact rb hE H
    rw [show ((inB x.b 0 1000) || ((x.b == (-1)) && (ow && (takingB x)))) = true from ts30]
    rcases b_ot ts30 with ts37 | ⟨ts37, ts38⟩
    ·
     have hE : true = actorB x ow := by
      have hd0 : head0 x = (e16y == 0) := by simp only [head0, e16x]
      have hok : headOk x ow = cond (e16y != 0) (decide (x.pc < 3) && decide (0 ≤ x.b)) (ow || decide (0 ≤ x.b)) := by simp only [headOk, e16x]
      have hts7 := ts7
      have hts9 := ts9
      have hts14 := ts14
      have hts15 := ts15
      have hts18 := ts18
      have hts26 := ts26
      have hts27 := ts27
      have hts28 := ts28
      have hts29 := ts29
      have hts37 := ts37
      simp only [actorB, hok, ts7, ts9, ts14, ts15, ts18, ts26, ts27, ts28, ts29, ts37]
      first | done | rfl | (simp; done) | (clear E H; simp [takingB, inB, hd0] at hts7 hts9 hts14 hts15 hts18 hts26 hts27 hts28 hts29 hts37 ⊢; first | done | omega) | (clear E H; rw [Bool.eq_iff_iff]; simp [takingB, inB, hd0] at hts7 hts9 hts14 hts15 hts18 hts26 hts27 hts28 hts29 hts37 ⊢; omega)
     exact rb hE H
    obtain ⟨ts39, ts40⟩ := b_at ts38
    obtain ⟨ts41, ts42⟩ := b_at ts40
    have hE : true = actorB x ow := by
     subst ts41
     have hd0 : head0 x = (e16y == 0) := by simp only [head0, e16x]
     have hok : headOk x true = cond (e16y != 0) (decide (x.pc < 3) && decide (0 ≤ x.b)) (true || decide (0 ≤ x.b)) := by simp only [headOk, e16x]
     have hts7 := ts7
     have hts9 := ts9
     have hts14 := ts14
     have hts15 := ts15
     have hts18 := ts18
     have hts26 := ts26
     have hts27 := ts27
     have hts28 := ts28
     have hts29 := ts29
     have hts37 := ts37
     have hts39 := ts39
     have hts42 := ts42
     simp only [actorB, hok, ts7, ts9, ts14, ts15, ts18, ts26, ts27, ts28, ts29, ts37, ts39, ts42]
     first | done | rfl | (simp; done) | (clear E H; simp [takingB, inB, hd0] at hts7 hts9 hts14 hts15 hts18 hts26 hts27 hts28 hts29 hts37 hts39 hts42 ⊢; first | done | omega) | (clear E H; rw [Bool.eq_iff_iff]; simp [takingB, inB, hd0] at hts7 hts9 hts14 hts15 hts18 hts26 hts27 hts28 hts29 hts37 hts39 hts42 ⊢; omega)
    exact rb hE H
   refine cond_t E rfl ts18 ?_
   refine wp_region_lit ?_
   refine wv E rfl (r_assign (ev_c _)) fun a E => ?_
   refine wpList_nil (then_n (wp_seq ?_))
   refine reg_mid (fun a w => Env 86 a [(2, .pointer (some ⟨g1, 0, none⟩)), (4, .bool (false)), (5, .int .i64 (2)), (6, .bool ((inB x.b 0 1000) || ((x.b == (-1)) && (ow && (takingB x)))))] ∧ Tr.Inv w0 [] w [Cel g2 [.bool (ow)] 4, Cel g1 [.slice (some ⟨e16b, e16o, none⟩) x.todo.length ac, .int .i64 (x.pc), .int .i64 (x.t), .int .i64 (x.b), .int .i64 (x.x)] 119]) ?_ (fun a w hj => ?_)
   ·
    refine wp_region_lit ?_
    refine wv E rfl (r_fa (o' := 3) (E.tmp rfl) fo_119_3_14 rfl) fun a E => wv E rfl (r_load (E.tmp rfl) ag_2_14 (H.cell 1 rfl rfl)) fun a E => ?_
    refine w_quiet (v := .bool (inB x.b 0 1000)) E rfl (ev_cons (E.tmp rfl) (ev_nil)) ok_151_14 (isEnd_q x.b w) H (fun a w E H => ?_)
    refine vm E rfl rfl fun a E => ?_
    rcases bcase (inB x.b 0 1000) with ts43 | ts43
    ·
     refine ung E rfl rfl rfl ts43 ?_
     refine wv E rfl (r_fa (o' := 3) (E.tmp rfl) fo_119_3_14 rfl) fun a E => ?_
     refine ung E rfl rfl rfl ts43 ?_
     refine wv E rfl (r_load (E.tmp rfl) ag_2_14 (H.cell 1 rfl rfl)) fun a E => ?_
     refine ung E rfl rfl rfl ts43 ?_
     refine wv E rfl (r_bin (E.tmp rfl) (ev_c _) (b_eql (b := x.b == (-1)) rfl)) fun a E => ?_
     refine ung E rfl rfl rfl ts43 ?_
     refine vm E rfl rfl fun a E => ?_
     rcases bcase (x.b == (-1)) with ts44 | ts44
     ·
      refine wnh (c := false) E rfl rfl rfl rfl ts44 rfl fun a E => ?_
      refine ung E rfl rfl rfl ts43 ?_
      refine wv E rfl (r_pick_f ((E.tmp rfl).trans (congrArg Value.bool ts44)) (ev_c _)) fun a E => ?_
      refine ung E rfl rfl rfl ts43 ?_
      refine vm E rfl rfl fun a E => wn E rfl rfl rfl rfl rfl fun a E => wn E rfl rfl rfl rfl rfl fun a E => ?_
      refine ung E rfl rfl rfl ts43 ?_
      refine wv E rfl (r_pick_f (E.tmp rfl) (ev_c _)) fun a E => wv E rfl (r_pick_f ((E.tmp rfl).trans (congrArg Value.bool ts43)) (E.tmp rfl)) fun a E => va E rfl rfl fun a E => ?_
      refine wpList_nil ?_
      have ej45 : ((inB x.b 0 1000) || ((x.b == (-1)) && (ow && (takingB x)))) = false := by simp only [ts43, ts44, B1, B2, B3, B4, B5, B6, B7, B8, B9, B10, B11, B12, B13, B14]
      exact ⟨rfl, by rw [ej45]; exact (Env.pick E (Env.pick E (Env.pick E (Env.pick E E.nil rfl) rfl) rfl) rfl), H⟩
     refine ung E rfl rfl rfl ts44 ?_
     refine wv E rfl (r_load (E.tmp rfl) ag_4_14 (H.cell 0 rfl rfl)) fun a E => ?_
     refine ung E rfl rfl rfl ts43 ?_
     refine wv E rfl (r_pick_t ((E.tmp rfl).trans (congrArg Value.bool ts44)) (E.tmp rfl)) fun a E => ?_
     refine ung E rfl rfl rfl ts43 ?_
     refine vm E rfl rfl fun a E => ?_
     rcases bcase (ow) with ts46 | ts46
     ·
      refine wnh (c := false) E rfl rfl rfl rfl ts46 rfl fun a E => ?_
      refine wnh (c := false) E rfl rfl rfl rfl ts46 rfl fun a E => ?_
      refine ung E rfl rfl rfl ts43 ?_
      refine wv E rfl (r_pick_f ((E.tmp rfl).trans (congrArg Value.bool ts46)) (ev_c _)) fun a E => wv E rfl (r_pick_f ((E.tmp rfl).trans (congrArg Value.bool ts43)) (E.tmp rfl)) fun a E => va E rfl rfl fun a E => ?_
      refine wpList_nil ?_
      have ej47 : ((inB x.b 0 1000) || ((x.b == (-1)) && (ow && (takingB x)))) = false := by simp only [ts43, ts44, ts46, B1, B2, B3, B4, B5, B6, B7, B8, B9, B10, B11, B12, B13, B14]
      exact ⟨rfl, by rw [ej47]; exact (Env.pick E (Env.pick E (Env.pick E (Env.pick E E.nil rfl) rfl) rfl) rfl), H⟩
     refine ung E rfl rfl rfl ts46 ?_
     refine wv E rfl (r_loads (us := [.slice (some ⟨e16b, e16o, none⟩) x.todo.length ac, .int .i64 (x.pc), .int .i64 (x.t), .int .i64 (x.b), .int .i64 (x.x)]) (E.tmp rfl) ag_119_14 sz_119_14 (H.cellsAt 1 rfl)) fun a E => ?_
     refine ung E rfl rfl rfl ts46 ?_
     refine w_quiet (v := .bool (takingB x)) E rfl (ev_cons (E.tmp rfl) (ev_nil)) ok_153_14 (taking_q x (some ⟨e16b, e16o, none⟩) ac w (aH.at_ H (F := []) (by simp))) H (fun a w E H => ?_)
     refine ung E rfl rfl rfl ts43 ?_
     refine wv E rfl (r_pick_t ((E.tmp rfl).trans (congrArg Value.bool ts46)) (E.tmp rfl)) fun a E => wv E rfl (r_pick_f ((E.tmp rfl).trans (congrArg Value.bool ts43)) (E.tmp rfl)) fun a E => va E rfl rfl fun a E => ?_
     refine wpList_nil ?_
     have ej48 : ((inB x.b 0 1000) || ((x.b == (-1)) && (ow && (takingB x)))) = (takingB x) := by simp only [ts43, ts44, ts46, B1, B2, B3, B4, B5, B6, B7, B8, B9, B10, B11, B12, B13, B14]
     exact ⟨rfl, by rw [ej48]; exact (Env.pick E (Env.pick E (Env.pick E (Env.pick E E.nil rfl) rfl) rfl) rfl), H⟩
    refine wnh (c := true) E rfl rfl rfl rfl ts43 rfl fun a E => ?_
    refine wnh (c := true) E rfl rfl rfl rfl ts43 rfl fun a E => ?_
    refine wnh (c := true) E rfl rfl rfl rfl ts43 rfl fun a E => ?_
    refine wnh (c := true) E rfl rfl rfl rfl ts43 rfl fun a E => ?_
    refine wnu E rfl rfl rfl rfl fun a E => ?_
    refine wnh (c := true) E rfl rfl rfl rfl ts43 rfl fun a E => ?_
    refine wnh (c := true) E rfl rfl rfl rfl ts43 rfl fun a E => ?_
    refine wnu E rfl rfl rfl rfl fun a E => wnu E rfl rfl rfl rfl fun a E => ?_
    refine wnh (c := true) E rfl rfl rfl rfl ts43 rfl fun a E => ?_
    refine wv E rfl (r_pick_t ((E.tmp rfl).trans (congrArg Value.bool ts43)) (ev_c _)) fun a E => va E rfl rfl fun a E => ?_
    refine wpList_nil ?_
    have ej49 : ((inB x.b 0 1000) || ((x.b == (-1)) && (ow && (takingB x)))) = true := by simp only [ts43, B1, B2, B3, B4, B5, B6, B7, B8, B9, B10, B11, B12, B13, B14]
    exact ⟨rfl, by rw [ej49]; exact (Env.pick E (Env.pick E (Env.pick E (Env.pick E E.nil rfl) rfl) rfl) rfl), H⟩
   obtain ⟨E, H⟩ := hj
   refine then_n (wp_seq (wp_region_lit ?_))
   refine wv E rfl (r_fa (o' := 1) (E.tmp rfl) fo_119_1_14 rfl) fun a E => wv E rfl (r_load (E.tmp rfl) ag_2_14 (H.cell 1 rfl rfl)) fun a E => wv E rfl (r_bin (E.tmp rfl) (ev_c _) (b_geq (b := decide (1 ≤ x.pc)) rfl)) fun a E => vm E rfl rfl fun a E => ?_
   rcases bcase (decide (1 ≤ x.pc)) with ts50 | ts50
   ·
    refine wnh (c := false) E rfl rfl rfl rfl ts50 rfl fun a E => ?_
    refine wnh (c := false) E rfl rfl rfl rfl ts50 rfl fun a E => ?_
    refine wnh (c := false) E rfl rfl rfl rfl ts50 rfl fun a E => ?_
    refine wnh (c := false) E rfl rfl rfl rfl ts50 rfl fun a E => ?_
    refine wv E rfl (r_pick_f ((E.tmp rfl).trans (congrArg Value.bool ts50)) (ev_c _)) fun a E => vm E rfl rfl fun a E => wn E rfl rfl rfl rfl rfl fun a E => wn E rfl rfl rfl rfl rfl fun a E => wn E rfl rfl rfl rfl rfl fun a E => ?_
    refine wv E rfl (r_pick_f (E.tmp rfl) (ev_c _)) fun a E => vm E rfl rfl fun a E => wn E rfl rfl rfl rfl rfl fun a E => wn E rfl rfl rfl rfl rfl fun a E => wn E rfl rfl rfl rfl rfl fun a E => ?_
    refine wv E rfl (r_pick_f (E.tmp rfl) (ev_c _)) fun a E => vm E rfl rfl fun a E => wn E rfl rfl rfl rfl rfl fun a E => wv E rfl (r_pick_f (E.tmp rfl) (ev_c _)) fun a E => va E rfl rfl fun a E => ?_
    refine wpList_nil (then_n (wp_ret ?_))
    refine post1 E rfl (out_t E rfl) ?_
    have hE : false = actorB x ow := by
     have hd0 : head0 x = (e16y == 0) := by simp only [head0, e16x]
     have hok : headOk x ow = cond (e16y != 0) (decide (x.pc < 3) && decide (0 ≤ x.b)) (ow || decide (0 ≤ x.b)) := by simp only [headOk, e16x]
     have hts7 := ts7
     have hts9 := ts9
     have hts14 := ts14
     have hts15 := ts15
     have hts18 := ts18
     have hts50 := ts50
     simp only [actorB, hok, ts7, ts9, ts14, ts15, ts18, ts50]
     first | done | rfl | (simp; done) | (clear E H; simp [takingB, inB, hd0] at hts7 hts9 hts14 hts15 hts18 hts50 ⊢; first | done | omega) | (clear E H; rw [Bool.eq_iff_iff]; simp [takingB, inB, hd0] at hts7 hts9 hts14 hts15 hts18 hts50 ⊢; omega)
    exact rb hE H
   refine ung E rfl rfl rfl ts50 ?_
   refine wv E rfl (r_fa (o' := 1) (E.tmp rfl) fo_119_1_14 rfl) fun a E => ?_
   refine ung E rfl rfl rfl ts50 ?_
   refine wv E rfl (r_load (E.tmp rfl) ag_2_14 (H.cell 1 rfl rfl)) fun a E => ?_
   refine ung E rfl rfl rfl ts50 ?_
   refine vm E rfl rfl fun a E => ?_
   refine ung E rfl rfl rfl ts50 ?_
   refine wv E rfl (r_bin (E.tmp rfl) (E.tmp rfl) (b_leq (b := decide (x.pc ≤ 2)) rfl)) fun a E => wv E rfl (r_pick_t ((E.tmp rfl).trans (congrArg Value.bool ts50)) (E.tmp rfl)) fun a E => vm E rfl rfl fun a E => ?_
   rcases bcase (decide (x.pc ≤ 2)) with ts51 | ts51
   ·
    refine wnh (c := false) E rfl rfl rfl rfl ts51 rfl fun a E => ?_
    refine wnh (c := false) E rfl rfl rfl rfl ts51 rfl fun a E => ?_
    refine wnh (c := false) E rfl rfl rfl rfl ts51 rfl fun a E => ?_
    refine wv E rfl (r_pick_f ((E.tmp rfl).trans (congrArg Value.bool ts51)) (ev_c _)) fun a E => vm E rfl rfl fun a E => wn E rfl rfl rfl rfl rfl fun a E => wn E rfl rfl rfl rfl rfl fun a E => wn E rfl rfl rfl rfl rfl fun a E => ?_
    refine wv E rfl (r_pick_f (E.tmp rfl) (ev_c _)) fun a E => vm E rfl rfl fun a E => wn E rfl rfl rfl rfl rfl fun a E => wv E rfl (r_pick_f (E.tmp rfl) (ev_c _)) fun a E => va E rfl rfl fun a E => ?_
    refine wpList_nil (then_n (wp_ret ?_))
    refine post1 E rfl (out_t E rfl) ?_
    have hE : false = actorB x ow := by
     have hd0 : head0 x = (e16y == 0) := by simp only [head0, e16x]
     have hok : headOk x ow = cond (e16y != 0) (decide (x.pc < 3) && decide (0 ≤ x.b)) (ow || decide (0 ≤ x.b)) := by simp only [headOk, e16x]
     have hts7 := ts7
     have hts9 := ts9
     have hts14 := ts14
     have hts15 := ts15
     have hts18 := ts18
     have hts50 := ts50
     have hts51 := ts51
     simp only [actorB, hok, ts7, ts9, ts14, ts15, ts18, ts50, ts51]
     first | done | rfl | (simp; done) | (clear E H; simp [takingB, inB, hd0] at hts7 hts9 hts14 hts15 hts18 hts50 hts51 ⊢; first | done | omega) | (clear E H; rw [Bool.eq_iff_iff]; simp [takingB, inB, hd0] at hts7 hts9 hts14 hts15 hts18 hts50 hts51 ⊢; omega)
    exact rb hE H
   refine ung E rfl rfl rfl ts51 ?_
   refine wv E rfl (r_fa (o' := 2) (E.tmp rfl) fo_119_2_14 rfl) fun a E => ?_
   refine ung E rfl rfl rfl ts51 ?_
   refine wv E rfl (r_load (E.tmp rfl) ag_2_14 (H.cell 1 rfl rfl)) fun a E => ?_
   refine ung E rfl rfl rfl ts51 ?_
   refine w_quiet (v := .bool (inB x.t 0 1000)) E rfl (ev_cons (E.tmp rfl) (ev_nil)) ok_151_14 (isEnd_q x.t w) H (fun a w E H => ?_)
   refine wv E rfl (r_pick_t ((E.tmp rfl).trans (congrArg Value.bool ts51)) (E.tmp rfl)) fun a E => vm E rfl rfl fun a E => ?_
   rcases bcase (inB x.t 0 1000) with ts52 | ts52
   ·
    refine wnh (c := false) E rfl rfl rfl rfl ts52 rfl fun a E => ?_
    refine wnh (c := false) E rfl rfl rfl rfl ts52 rfl fun a E => ?_
    refine wnh (c := false) E rfl rfl rfl rfl ts52 rfl fun a E => ?_
    refine wv E rfl (r_pick_f ((E.tmp rfl).trans (congrArg Value.bool ts52)) (ev_c _)) fun a E => vm E rfl rfl fun a E => wn E rfl rfl rfl rfl rfl fun a E => wv E rfl (r_pick_f (E.tmp rfl) (ev_c _)) fun a E => va E rfl rfl fun a E => ?_
    refine wpList_nil (then_n (wp_ret ?_))
    refine post1 E rfl (out_t E rfl) ?_
    have hE : false = actorB x ow := by
     have hd0 : head0 x = (e16y == 0) := by simp only [head0, e16x]
     have hok : headOk x ow = cond (e16y != 0) (decide (x.pc < 3) && decide (0 ≤ x.b)) (ow || decide (0 ≤ x.b)) := by simp only [headOk, e16x]
     have hts7 := ts7
     have hts9 := ts9
     have hts14 := ts14
     have hts15 := ts15
     have hts18 := ts18
     have hts50 := ts50
     have hts51 := ts51
     have hts52 := ts52
     simp only [actorB, hok, ts7, ts9, ts14, ts15, ts18, ts50, ts51, ts52]
     first | done | rfl | (simp; done) | (clear E H; simp [takingB, inB, hd0] at hts7 hts9 hts14 hts15 hts18 hts50 hts51 hts52 ⊢; first | done | omega) | (clear E H; rw [Bool.eq_iff_iff]; simp [takingB, inB, hd0] at hts7 hts9 hts14 hts15 hts18 hts50 hts51 hts52 ⊢; omega)
    exact rb hE H
   refine ung E rfl rfl rfl ts52 ?_
   refine wv E rfl (r_fa (o' := 4) (E.tmp rfl) fo_119_4_14 rfl) fun a E => ?_
   refine ung E rfl rfl rfl ts52 ?_
   refine wv E rfl (r_load (E.tmp rfl) ag_2_14 (H.cell 1 rfl rfl)) fun a E => ?_
   refine ung E rfl rfl rfl ts52 ?_
   refine w_quiet (v := .bool (inB x.x 0 1000)) E rfl (ev_cons (E.tmp rfl) (ev_nil)) ok_151_14 (isEnd_q x.x w) H (fun a w E H => ?_)
   refine wv E rfl (r_pick_t ((E.tmp rfl).trans (congrArg Value.bool ts52)) (E.tmp rfl)) fun a E => vm E rfl rfl fun a E => ?_
   rcases bcase (inB x.x 0 1000) with ts53 | ts53
   ·
    refine wnh (c := false) E rfl rfl rfl rfl ts53 rfl fun a E => ?_
    refine wv E rfl (r_pick_f ((E.tmp rfl).trans (congrArg Value.bool ts53)) (ev_c _)) fun a E => va E rfl rfl fun a E => ?_
    refine wpList_nil (then_n (wp_ret ?_))
    refine post1 E rfl (out_t E rfl) ?_
    have hE : false = actorB x ow := by
     have hd0 : head0 x = (e16y == 0) := by simp only [head0, e16x]
     have hok : headOk x ow = cond (e16y != 0) (decide (x.pc < 3) && decide (0 ≤ x.b)) (ow || decide (0 ≤ x.b)) := by simp only [headOk, e16x]
     have hts7 := ts7
     have hts9 := ts9
     have hts14 := ts14
     have hts15 := ts15
     have hts18 := ts18
     have hts50 := ts50
     have hts51 := ts51
     have hts52 := ts52
     have hts53 := ts53
     simp only [actorB, hok, ts7, ts9, ts14, ts15, ts18, ts50, ts51, ts52, ts53]
     first | done | rfl | (simp; done) | (clear E H; simp [takingB, inB, hd0] at hts7 hts9 hts14 hts15 hts18 hts50 hts51 hts52 hts53 ⊢; first | done | omega) | (clear E H; rw [Bool.eq_iff_iff]; simp [takingB, inB, hd0] at hts7 hts9 hts14 hts15 hts18 hts50 hts51 hts52 hts53 ⊢; omega)
    exact rb hE H
   refine ung E rfl rfl rfl ts53 ?_
   refine vm E rfl rfl fun a E => wv E rfl (r_pick_t ((E.tmp rfl).trans (congrArg Value.bool ts53)) (E.tmp rfl)) fun a E => va E rfl rfl fun a E => ?_
   refine wpList_nil (then_n (wp_ret ?_))
   refine post1 E rfl (out_t E rfl) ?_
   rcases bcase ((inB x.b 0 1000) || ((x.b == (-1)) && (ow && (takingB x)))) with ts54 | ts54
   ·
    obtain ⟨ts55, ts56⟩ := b_of ts54
    rw [show ((inB x.b 0 1000) || ((x.b == (-1)) && (ow && (takingB x)))) = false from ts54]
    rcases b_af ts56 with ts57 | ⟨ts57, ts58⟩
    ·
     have hE : false = actorB x ow := by
      have hd0 : head0 x = (e16y == 0) := by simp only [head0, e16x]
      have hok : headOk x ow = cond (e16y != 0) (decide (x.pc < 3) && decide (0 ≤ x.b)) (ow || decide (0 ≤ x.b)) := by simp only [headOk, e16x]
      have hts7 := ts7
      have hts9 := ts9
      have hts14 := ts14
      have hts15 := ts15
      have hts18 := ts18
      have hts50 := ts50
      have hts51 := ts51
      have hts52 := ts52
      have hts53 := ts53
      have hts55 := ts55
      have hts57 := ts57
      simp only [actorB, hok, ts7, ts9, ts14, ts15, ts18, ts50, ts51, ts52, ts53, ts55, ts57]
      first | done | rfl | (simp; done) | (clear E H; simp [takingB, inB, hd0] at hts7 hts9 hts14 hts15 hts18 hts50 hts51 hts52 hts53 hts55 hts57 ⊢; first | done | omega) | (clear E H; rw [Bool.eq_iff_iff]; simp [takingB, inB, hd0] at hts7 hts9 hts14 hts15 hts18 hts50 hts51 hts52 hts53 hts55 hts57 ⊢; omega)
     exact rb hE H
    rcases b_af ts58 with ts59 | ⟨ts59, ts60⟩
    ·
     have hE : false = actorB x ow := by
      subst ts59
      have hd0 : head0 x = (e16y == 0) := by simp only [head0, e16x]
      have hok : headOk x false = cond (e16y != 0) (decide (x.pc < 3) && decide (0 ≤ x.b)) (false || decide (0 ≤ x.b)) := by simp only [headOk, e16x]
      have hts7 := ts7
      have hts9 := ts9
      have hts14 := ts14
      have hts15 := ts15
      have hts18 := ts18
      have hts50 := ts50
      have hts51 := ts51
      have hts52 := ts52
      have hts53 := ts53
      have hts55 := ts55
      have hts57 := ts57
      simp only [actorB, hok, ts7, ts9, ts14, ts15, ts18, ts50, ts51, ts52, ts53, ts55, ts57]
      first | done | rfl | (simp; done) | (clear E H; simp [takingB, inB, hd0] at hts7 hts9 hts14 hts15 hts18 hts50 hts51 hts52 hts53 hts55 hts57 ⊢; first | done | omega) | (clear E H; rw [Bool.eq_iff_iff]; simp [takingB, inB, hd0] at hts7 hts9 hts14 hts15 hts18 hts50 hts51 hts52 hts53 hts55 hts57 ⊢; omega)
     exact rb hE H
    have hE : false = actorB x ow := by
     subst ts59
     have hd0 : head0 x = (e16y == 0) := by simp only [head0, e16x]
     have hok : headOk x true = cond (e16y != 0) (decide (x.pc < 3) && decide (0 ≤ x.b)) (true || decide (0 ≤ x.b)) := by simp only [headOk, e16x]
     have hts7 := ts7
     have hts9 := ts9
     have hts14 := ts14
     have hts15 := ts15
     have hts18 := ts18
     have hts50 := ts50
     have hts51 := ts51
     have hts52 := ts52
     have hts53 := ts53
     have hts55 := ts55
     have hts57 := ts57
     have hts60 := ts60
     simp only [actorB, hok, ts7, ts9, ts14, ts15, ts18, ts50, ts51, ts52, ts53, ts55, ts57, ts60]
     first | done | rfl | (simp; done) | (clear E H; simp [takingB, inB, hd0] at hts7 hts9 hts14 hts15 hts18 hts50 hts51 hts52 hts53 hts55 hts57 hts60 ⊢; first | done | omega) | (clear E H; rw [Bool.eq_iff_iff]; simp [takingB, inB, hd0] at hts7 hts9 hts14 hts15 hts18 hts50 hts51 hts52 hts53 hts55 hts57 hts60 ⊢; omega)
    exact rb hE H
   rw [show ((inB x.b 0 1000) || ((x.b == (-1)) && (ow && (takingB x)))) = true from ts54]
   rcases b_ot ts54 with ts61 | ⟨ts61, ts62⟩
   ·
    have hE : true = actorB x ow := by
     have hd0 : head0 x = (e16y == 0) := by simp only [head0, e16x]
     have hok : headOk x ow = cond (e16y != 0) (decide (x.pc < 3) && decide (0 ≤ x.b)) (ow || decide (0 ≤ x.b)) := by simp only [headOk, e16x]
     have hts7 := ts7
     have hts9 := ts9
     have hts14 := ts14
     have hts15 := ts15
     have hts18 := ts18
     have hts50 := ts50
     have hts51 := ts51
     have hts52 := ts52
     have hts53 := ts53
     have hts61 := ts61
     simp only [actorB, hok, ts7, ts9, ts14, ts15, ts18, ts50, ts51, ts52, ts53, ts61]
     first | done | rfl | (simp; done) | (clear E H; simp [takingB, inB, hd0] at hts7 hts9 hts14 hts15 hts18 hts50 hts51 hts52 hts53 hts61 ⊢; first | done | omega) | (clear E H; rw [Bool.eq_iff_iff]; simp [takingB, inB, hd0] at hts7 hts9 hts14 hts15 hts18 hts50 hts51 hts52 hts53 hts61 ⊢; omega)
    exact rb hE H
   obtain ⟨ts63, ts64⟩ := b_at ts62
   obtain ⟨ts65, ts66⟩ := b_at ts64
   have hE : true = actorB x ow := by
    subst ts65
    have hd0 : head0 x = (e16y == 0) := by simp only [head0, e16x]
    have hok : headOk x true = cond (e16y != 0) (decide (x.pc < 3) && decide (0 ≤ x.b)) (true || decide (0 ≤ x.b)) := by simp only [headOk, e16x]
    have hts7 := ts7
    have hts9 := ts9
    have hts14 := ts14
    have hts15 := ts15
    have hts18 := ts18
    have hts50 := ts50
    have hts51 := ts51
    have hts52 := ts52
    have hts53 := ts53
    have hts61 := ts61
    have hts63 := ts63
    have hts66 := ts66
    simp only [actorB, hok, ts7, ts9, ts14, ts15, ts18, ts50, ts51, ts52, ts53, ts61, ts63, ts66]
    first | done | rfl | (simp; done) | (clear E H; simp [takingB, inB, hd0] at hts7 hts9 hts14 hts15 hts18 hts50 hts51 hts52 hts53 hts61 hts63 hts66 ⊢; first | done | omega) | (clear E H; rw [Bool.eq_iff_iff]; simp [takingB, inB, hd0] at hts7 hts9 hts14 hts15 hts18 hts50 hts51 hts52 hts53 hts61 hts63 hts66 ⊢; omega)
   exact rb hE H
  refine cond_t E rfl ts13 ?_
  refine wp_seq (wp_region_lit ?_)
  refine wv E rfl (r_fa (o' := 1) (E.tmp rfl) fo_119_1_14 rfl) fun a E => wv E rfl (r_load (E.tmp rfl) ag_2_14 (H.cell 1 rfl rfl)) fun a E => wv E rfl (r_bin (E.tmp rfl) (ev_c _) (b_eql (b := x.pc == 0) rfl)) fun a E => vm E rfl rfl fun a E => ?_
  rcases bcase (x.pc == 0) with ts67 | ts67
  ·
   refine wnh (c := false) E rfl rfl rfl rfl ts67 rfl fun a E => ?_
   refine wnh (c := false) E rfl rfl rfl rfl ts67 rfl fun a E => ?_
   refine wnh (c := false) E rfl rfl rfl rfl ts67 rfl fun a E => ?_
   refine wv E rfl (r_pick_f ((E.tmp rfl).trans (congrArg Value.bool ts67)) (ev_c _)) fun a E => vm E rfl rfl fun a E => wn E rfl rfl rfl rfl rfl fun a E => wn E rfl rfl rfl rfl rfl fun a E => wn E rfl rfl rfl rfl rfl fun a E => ?_
   refine wv E rfl (r_pick_f (E.tmp rfl) (ev_c _)) fun a E => vm E rfl rfl fun a E => wn E rfl rfl rfl rfl rfl fun a E => wn E rfl rfl rfl rfl rfl fun a E => wn E rfl rfl rfl rfl rfl fun a E => ?_
   refine wv E rfl (r_pick_f (E.tmp rfl) (ev_c _)) fun a E => va E rfl rfl fun a E => ?_
   refine wpList_nil (then_n (wp_ret (then_r ?_)))
   refine post1 E rfl (out_t E rfl) ?_
   rcases b_ot ts13 with ts68 | ⟨ts68, ts69⟩
   ·
    have hE : false = actorB x ow := by
     have hts7 := ts7
     have hts9 := ts9
     have hts67 := ts67
     have hts68 := ts68
     simp only [actorB, ts7, ts9, ts67, ts68]
     first | done | rfl | (simp; done) | (clear E H; simp [takingB, inB] at hts7 hts9 hts67 hts68 ⊢; first | done | omega) | (clear E H; rw [Bool.eq_iff_iff]; simp [takingB, inB] at hts7 hts9 hts67 hts68 ⊢; omega)
    exact rb hE H
   have hE : false = actorB x ow := by
    have hts7 := ts7
    have hts9 := ts9
    have hts67 := ts67
    have hts68 := ts68
    have hts69 := ts69
    simp only [actorB, ts7, ts9, ts67, ts68, ts69]
    first | done | rfl | (simp; done) | (clear E H; simp [takingB, inB] at hts7 hts9 hts67 hts68 hts69 ⊢; first | done | omega) | (clear E H; rw [Bool.eq_iff_iff]; simp [takingB, inB] at hts7 hts9 hts67 hts68 hts69 ⊢; omega)
   exact rb hE H
  refine ung E rfl rfl rfl ts67 ?_
  refine wv E rfl (r_fa (o' := 2) (E.tmp rfl) fo_119_2_14 rfl) fun a E => ?_
  refine ung E rfl rfl rfl ts67 ?_
  refine wv E rfl (r_load (E.tmp rfl) ag_2_14 (H.cell 1 rfl rfl)) fun a E => ?_
  refine ung E rfl rfl rfl ts67 ?_
  refine wv E rfl (r_bin (E.tmp rfl) (ev_c _) (b_eql (b := x.t == 0) rfl)) fun a E => wv E rfl (r_pick_t ((E.tmp rfl).trans (congrArg Value.bool ts67)) (E.tmp rfl)) fun a E => vm E rfl rfl fun a E => ?_
  rcases bcase (x.t == 0) with ts70 | ts70
  ·
   refine wnh (c := false) E rfl rfl rfl rfl ts70 rfl fun a E => ?_
   refine wnh (c := false) E rfl rfl rfl rfl ts70 rfl fun a E => ?_
   refine wnh (c := false) E rfl rfl rfl rfl ts70 rfl fun a E => ?_
   refine wv E rfl (r_pick_f ((E.tmp rfl).trans (congrArg Value.bool ts70)) (ev_c _)) fun a E => vm E rfl rfl fun a E => wn E rfl rfl rfl rfl rfl fun a E => wn E rfl rfl rfl rfl rfl fun a E => wn E rfl rfl rfl rfl rfl fun a E => ?_
   refine wv E rfl (r_pick_f (E.tmp rfl) (ev_c _)) fun a E => va E rfl rfl fun a E => ?_
   refine wpList_nil (then_n (wp_ret (then_r ?_)))
   refine post1 E rfl (out_t E rfl) ?_
   rcases b_ot ts13 with ts71 | ⟨ts71, ts72⟩
   ·
    have hE : false = actorB x ow := by
     have hts7 := ts7
     have hts9 := ts9
     have hts67 := ts67
     have hts70 := ts70
     have hts71 := ts71
     simp only [actorB, ts7, ts9, ts67, ts70, ts71]
     first | done | rfl | (simp; done) | (clear E H; simp [takingB, inB] at hts7 hts9 hts67 hts70 hts71 ⊢; first | done | omega) | (clear E H; rw [Bool.eq_iff_iff]; simp [takingB, inB] at hts7 hts9 hts67 hts70 hts71 ⊢; omega)
    exact rb hE H
   have hE : false = actorB x ow := by
    have hts7 := ts7
    have hts9 := ts9
    have hts67 := ts67
    have hts70 := ts70
    have hts71 := ts71
    have hts72 := ts72
    simp only [actorB, ts7, ts9, ts67, ts70, ts71, ts72]
    first | done | rfl | (simp; done) | (clear E H; simp [takingB, inB] at hts7 hts9 hts67 hts70 hts71 hts72 ⊢; first | done | omega) | (clear E H; rw [Bool.eq_iff_iff]; simp [takingB, inB] at hts7 hts9 hts67 hts70 hts71 hts72 ⊢; omega)
   exact rb hE H
  refine ung E rfl rfl rfl ts70 ?_
  refine wv E rfl (r_fa (o' := 3) (E.tmp rfl) fo_119_3_14 rfl) fun a E => ?_
  refine ung E rfl rfl rfl ts70 ?_
  refine wv E rfl (r_load (E.tmp rfl) ag_2_14 (H.cell 1 rfl rfl)) fun a E => ?_
  refine ung E rfl rfl rfl ts70 ?_
  refine wv E rfl (r_bin (E.tmp rfl) (ev_c _) (b_eql (b := x.b == 0) rfl)) fun a E => wv E rfl (r_pick_t ((E.tmp rfl).trans (congrArg Value.bool ts70)) (E.tmp rfl)) fun a E => vm E rfl rfl fun a E => ?_
  rcases bcase (x.b == 0) with ts73 | ts73
  ·
   refine wnh (c := false) E rfl rfl rfl rfl ts73 rfl fun a E => ?_
   refine wnh (c := false) E rfl rfl rfl rfl ts73 rfl fun a E => ?_
   refine wnh (c := false) E rfl rfl rfl rfl ts73 rfl fun a E => ?_
   refine wv E rfl (r_pick_f ((E.tmp rfl).trans (congrArg Value.bool ts73)) (ev_c _)) fun a E => va E rfl rfl fun a E => ?_
   refine wpList_nil (then_n (wp_ret (then_r ?_)))
   refine post1 E rfl (out_t E rfl) ?_
   rcases b_ot ts13 with ts74 | ⟨ts74, ts75⟩
   ·
    have hE : false = actorB x ow := by
     have hts7 := ts7
     have hts9 := ts9
     have hts67 := ts67
     have hts70 := ts70
     have hts73 := ts73
     have hts74 := ts74
     simp only [actorB, ts7, ts9, ts67, ts70, ts73, ts74]
     first | done | rfl | (simp; done) | (clear E H; simp [takingB, inB] at hts7 hts9 hts67 hts70 hts73 hts74 ⊢; first | done | omega) | (clear E H; rw [Bool.eq_iff_iff]; simp [takingB, inB] at hts7 hts9 hts67 hts70 hts73 hts74 ⊢; omega)
    exact rb hE H
   have hE : false = actorB x ow := by
    have hts7 := ts7
    have hts9 := ts9
    have hts67 := ts67
    have hts70 := ts70
    have hts73 := ts73
    have hts74 := ts74
    have hts75 := ts75
    simp only [actorB, ts7, ts9, ts67, ts70, ts73, ts74, ts75]
    first | done | rfl | (simp; done) | (clear E H; simp [takingB, inB] at hts7 hts9 hts67 hts70 hts73 hts74 hts75 ⊢; first | done | omega) | (clear E H; rw [Bool.eq_iff_iff]; simp [takingB, inB] at hts7 hts9 hts67 hts70 hts73 hts74 hts75 ⊢; omega)
   exact rb hE H
  refine ung E rfl rfl rfl ts73 ?_
  refine wv E rfl (r_fa (o' := 4) (E.tmp rfl) fo_119_4_14 rfl) fun a E => ?_
  refine ung E rfl rfl rfl ts73 ?_
  refine wv E rfl (r_load (E.tmp rfl) ag_2_14 (H.cell 1 rfl rfl)) fun a E => ?_
  refine ung E rfl rfl rfl ts73 ?_
  refine wv E rfl (r_bin (E.tmp rfl) (ev_c _) (b_eql (b := x.x == 0) rfl)) fun a E => wv E rfl (r_pick_t ((E.tmp rfl).trans (congrArg Value.bool ts73)) (E.tmp rfl)) fun a E => va E rfl rfl fun a E => ?_
  refine wpList_nil (then_n (wp_ret (then_r ?_)))
  refine post1 E rfl (out_t E rfl) ?_
  rcases b_ot ts13 with ts76 | ⟨ts76, ts77⟩
  ·
   have hE : (x.x == 0) = actorB x ow := by
    have hts7 := ts7
    have hts9 := ts9
    have hts67 := ts67
    have hts70 := ts70
    have hts73 := ts73
    have hts76 := ts76
    simp only [actorB, ts7, ts9, ts67, ts70, ts73, ts76]
    first | done | rfl | (simp; done) | (clear E H; simp [takingB, inB] at hts7 hts9 hts67 hts70 hts73 hts76 ⊢; first | done | omega) | (clear E H; rw [Bool.eq_iff_iff]; simp [takingB, inB] at hts7 hts9 hts67 hts70 hts73 hts76 ⊢; omega)
   exact rb hE H
  have hE : (x.x == 0) = actorB x ow := by
   have hts7 := ts7
   have hts9 := ts9
   have hts67 := ts67
   have hts70 := ts70
   have hts73 := ts73
   have hts76 := ts76
   have hts77 := ts77
   simp only [actorB, ts7, ts9, ts67, ts70, ts73, ts76, ts77]
   first | done | rfl | (simp; done) | (clear E H; simp [takingB, inB] at hts7 hts9 hts67 hts70 hts73 hts76 hts77 ⊢; first | done | omega) | (clear E H; rw [Bool.eq_iff_iff]; simp [takingB, inB] at hts7 hts9 hts67 hts70 hts73 hts76 hts77 ⊢; omega)
  exact rb hE H
 refine cond_t E rfl ts6 ?_
 refine wp_seq (wp_region_lit ?_)
 refine wv E rfl (r_assign (ev_c _)) fun a E => ?_
 refine wpList_nil (then_n (wp_ret (then_r ?_)))
 refine post1 E rfl (out_t E rfl) ?_
 rcases b_ot ts6 with ts78 | ⟨ts78, ts79⟩
 ·
  have hE : false = actorB x ow := by
   have hts78 := ts78
   simp only [actorB, ts78]
   first | done | rfl | (simp; done) | (clear E H; simp [takingB, inB] at hts78 ⊢; first | done | omega) | (clear E H; rw [Bool.eq_iff_iff]; simp [takingB, inB] at hts78 ⊢; omega)
  exact rb hE H
 have ts80 := b_nt ts79
 have hE : false = actorB x ow := by
  have hts78 := ts78
  have hts80 := ts80
  simp only [actorB, ts78, ts80]
  first | done | rfl | (simp; done) | (clear E H; simp [takingB, inB] at hts78 hts80 ⊢; first | done | omega) | (clear E H; rw [Bool.eq_iff_iff]; simp [takingB, inB] at hts78 hts80 ⊢; omega)
 exact rb hE H
end Go.Proofs.Ythelpioccjjgfaa
