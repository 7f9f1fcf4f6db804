/- Deques. Printed by gx_dq.py. -/
import Derived.Test.YthelpioccjjgfaaProg
import Derived.Test.YthelpioccjjgfaaSc
import Derived.Test.YthelpioccjjgfaaDDq
import Derived.Test.YthelpioccjjgfaaArith
import Derived.IntWalk
import Derived.Test.YthelpioccjjgfaaDq7
set_option linter.unusedSimpArgs false
set_option linter.unusedVariables false
namespace Go.Tr
theorem idx_hit {α : Type} {q : α → Bool} {xs : List α} {k : Nat} {x : α} (hx : xs[k]? = some x) (hp : q x = false) : decide ((0 : Int) ≤ ((k : Nat) : Int)) = (!xs.all q) := by
  rw [all_bad hx hp]; simp
theorem idx_miss {α : Type} {q : α → Bool} {xs : List α} {k : Nat} (h : (xs.take k).all q = true) (hk : xs.length ≤ k) : decide ((0 : Int) ≤ -1) = (!xs.all q) := by
  rw [List.take_of_length_le hk] at h; rw [h]; rfl
end Go.Tr
namespace Go.Proofs.Ythelpioccjjgfaa
open Go Go.RowKit Go.Proofs Go.Tr
theorem ok_62_13 : callOk Try.prog 62 = true := by kernel_rfl
theorem ag_4_13 : aggB Try.prog 4 = some false := by kernel_rfl
theorem fo_36_0_13 : fldOff Try.prog 36 0 = some 0 := by kernel_rfl
theorem ag_2_13 : aggB Try.prog 2 = some false := by kernel_rfl
theorem fo_30_3_13 : fldOff Try.prog 30 3 = some 3 := by kernel_rfl
theorem ag_27_13 : aggB Try.prog 27 = some false := by kernel_rfl
theorem el_27_13 : elemOf? Try.prog 27 = some (119, 5) := by kernel_rfl
theorem fo_36_1_13 : fldOff Try.prog 36 1 = some 1 := by kernel_rfl
theorem ok_151_13 : callOk Try.prog 151 = true := by kernel_rfl
theorem el_24_13 : elemOf? Try.prog 24 = some (2, 1) := by kernel_rfl
theorem ok_150_13 : callOk Try.prog 150 = true := by kernel_rfl
theorem ok_149_13 : callOk Try.prog 149 = true := by kernel_rfl
theorem ok_156_13 : callOk Try.prog 156 = true := by kernel_rfl
theorem ok_216_13 : callOk Try.prog 216 = true := by kernel_rfl
theorem el_28_13 : elemOf? Try.prog 28 = some (36, 2) := by kernel_rfl
theorem ag_36_13 : aggB Try.prog 36 = some true := by kernel_rfl
theorem sz_36_13 : (Try.prog.info? 36).map (·.size) = some 2 := by kernel_rfl
theorem ok_155_13 : callOk Try.prog 155 = true := by kernel_rfl
theorem ok_217_13 : callOk Try.prog 217 = true := by kernel_rfl
set_option maxHeartbeats 1000000 in
theorem isTask_q (n : Int) (w0 : World)  : Calls Try.prog 62 #[.int .i64 (n)] w0 fun e w' => e = .returned (.bool (inB n 1 1000)) ∧ Ext w0 w' := by
 refine enter_i (args := [.int .i64 (n)]) Try.func62 rfl Try.ntmps62 rfl sep0 (fun a w E H => ?_)
 have E : Env 9 a [(0, .int .i64 (n))] := E
 refine wp_seq (wp_region_lit ?_)
 refine wv E rfl (r_assign (ev_c _)) fun a E => ?_
 refine wpList_nil (then_n (wp_seq (wp_region_lit ?_)))
 refine vm E rfl rfl fun a E => wv E rfl (r_bin (E.tmp rfl) (ev_c _) (b_geq (b := decide (1 ≤ n)) rfl)) fun a E => vm E rfl rfl fun a E => ?_
 rcases bcase (decide (1 ≤ n)) with ts1 | ts1
 ·
  refine wnh (c := false) E rfl rfl rfl rfl ts1 rfl fun a E => ?_
  refine wnh (c := false) E rfl rfl rfl rfl ts1 rfl fun a E => ?_
  refine wv E rfl (r_pick_f ((E.tmp rfl).trans (congrArg Value.bool ts1)) (ev_c _)) fun a E => va E rfl rfl fun a E => ?_
  refine wpList_nil (then_n (wp_ret ?_))
  refine post1 E rfl (out_t E rfl) ?_
  have hE : false = inB n 1 1000 := by first | rfl | (simp only [inB, ts1, B1, B2, B3, B4, B5, B6, B7, B8, B9, B10, B11, B12, B13, B14]; done) | (simp only [inB, ts1, B1, B2, B3, B4, B5, B6, B7, B8, B9, B10, B11, B12, B13, B14]; rfl) | (simp [inB, ts1, B1, B2, B3, B4, B5, B6, B7, B8, B9, B10, B11, B12, B13, B14]; done) | ((try simp [inB, inB] at ts1); simp [inB, inB]; omega)
  exact rb hE H
 refine ung E rfl rfl rfl ts1 ?_
 refine vm E rfl rfl fun a E => ?_
 refine ung E rfl rfl rfl ts1 ?_
 refine wv E rfl (r_bin (E.tmp rfl) (ev_c _) (b_leq (b := decide (n ≤ 1000)) rfl)) fun a E => wv E rfl (r_pick_t ((E.tmp rfl).trans (congrArg Value.bool ts1)) (E.tmp rfl)) fun a E => va E rfl rfl fun a E => ?_
 refine wpList_nil (then_n (wp_ret ?_))
 refine post1 E rfl (out_t E rfl) ?_
 have hE : (decide (n ≤ 1000)) = inB n 1 1000 := by first | rfl | (simp only [inB, ts1, B1, B2, B3, B4, B5, B6, B7, B8, B9, B10, B11, B12, B13, B14]; done) | (simp only [inB, ts1, B1, B2, B3, B4, B5, B6, B7, B8, B9, B10, B11, B12, B13, B14]; rfl) | (simp [inB, ts1, B1, B2, B3, B4, B5, B6, B7, B8, B9, B10, B11, B12, B13, B14]; done) | ((try simp [inB, inB] at ts1); simp [inB, inB]; omega)
 exact rb hE H

set_option maxHeartbeats 1000000 in
theorem isEnd_q (n : Int) (w0 : World)  : Calls Try.prog 151 #[.int .i64 (n)] w0 fun e w' => e = .returned (.bool (inB n 0 1000)) ∧ Ext w0 w' := by
 refine enter_i (args := [.int .i64 (n)]) Try.func151 rfl Try.ntmps151 rfl sep0 (fun a w E H => ?_)
 have E : Env 9 a [(0, .int .i64 (n))] := E
 refine wp_seq (wp_region_lit ?_)
 refine wv E rfl (r_assign (ev_c _)) fun a E => ?_
 refine wpList_nil (then_n (wp_seq (wp_region_lit ?_)))
 refine vm E rfl rfl fun a E => wv E rfl (r_bin (E.tmp rfl) (ev_c _) (b_geq (b := decide (0 ≤ n)) rfl)) fun a E => vm E rfl rfl fun a E => ?_
 rcases bcase (decide (0 ≤ n)) with ts1 | ts1
 ·
  refine wnh (c := false) E rfl rfl rfl rfl ts1 rfl fun a E => ?_
  refine wnh (c := false) E rfl rfl rfl rfl ts1 rfl fun a E => ?_
  refine wv E rfl (r_pick_f ((E.tmp rfl).trans (congrArg Value.bool ts1)) (ev_c _)) fun a E => va E rfl rfl fun a E => ?_
  refine wpList_nil (then_n (wp_ret ?_))
  refine post1 E rfl (out_t E rfl) ?_
  have hE : false = inB n 0 1000 := by first | rfl | (simp only [inB, ts1, B1, B2, B3, B4, B5, B6, B7, B8, B9, B10, B11, B12, B13, B14]; done) | (simp only [inB, ts1, B1, B2, B3, B4, B5, B6, B7, B8, B9, B10, B11, B12, B13, B14]; rfl) | (simp [inB, ts1, B1, B2, B3, B4, B5, B6, B7, B8, B9, B10, B11, B12, B13, B14]; done) | ((try simp [inB, inB] at ts1); simp [inB, inB]; omega)
  exact rb hE H
 refine ung E rfl rfl rfl ts1 ?_
 refine vm E rfl rfl fun a E => ?_
 refine ung E rfl rfl rfl ts1 ?_
 refine wv E rfl (r_bin (E.tmp rfl) (ev_c _) (b_leq (b := decide (n ≤ 1000)) rfl)) fun a E => wv E rfl (r_pick_t ((E.tmp rfl).trans (congrArg Value.bool ts1)) (E.tmp rfl)) fun a E => va E rfl rfl fun a E => ?_
 refine wpList_nil (then_n (wp_ret ?_))
 refine post1 E rfl (out_t E rfl) ?_
 have hE : (decide (n ≤ 1000)) = inB n 0 1000 := by first | rfl | (simp only [inB, ts1, B1, B2, B3, B4, B5, B6, B7, B8, B9, B10, B11, B12, B13, B14]; done) | (simp only [inB, ts1, B1, B2, B3, B4, B5, B6, B7, B8, B9, B10, B11, B12, B13, B14]; rfl) | (simp [inB, ts1, B1, B2, B3, B4, B5, B6, B7, B8, B9, B10, B11, B12, B13, B14]; done) | ((try simp [inB, inB] at ts1); simp [inB, inB]; omega)
 exact rb hE H

set_option maxHeartbeats 1000000 in
theorem vd1_q (n : Int) (w0 : World)  : Calls Try.prog 150 #[.int .i64 (n)] w0 fun e w' => e = .returned (.bool (!bufOk n)) ∧ Ext w0 w' := by
 refine enter_i (args := [.int .i64 (n)]) Try.func150 rfl Try.ntmps150 rfl sep0 (fun a w E H => ?_)
 have E : Env 10 a [(0, .int .i64 (n))] := E
 refine wp_seq (wp_region_lit ?_)
 refine wv E rfl (r_assign (ev_c _)) fun a E => ?_
 refine wpList_nil (then_n (wp_seq (wp_region_lit ?_)))
 refine vm E rfl rfl fun a E => wv E rfl (r_bin (E.tmp rfl) (ev_c _) (b_neq (b := n != 0) rfl)) fun a E => vm E rfl rfl fun a E => ?_
 rcases bcase (n != 0) with ts1 | ts1
 ·
  refine wnh (c := false) E rfl rfl rfl rfl ts1 rfl fun a E => ?_
  refine wnh (c := false) E rfl rfl rfl rfl ts1 rfl fun a E => ?_
  refine wnh (c := false) E rfl rfl rfl rfl ts1 rfl fun a E => ?_
  refine wv E rfl (r_pick_f ((E.tmp rfl).trans (congrArg Value.bool ts1)) (ev_c _)) fun a E => va E rfl rfl fun a E => ?_
  refine wpList_nil (then_n (wp_ret ?_))
  refine post1 E rfl (out_t E rfl) ?_
  have hE : false = !bufOk n := by first | rfl | (simp only [bufOk, ts1, B1, B2, B3, B4, B5, B6, B7, B8, B9, B10, B11, B12, B13, B14]; done) | (simp only [bufOk, ts1, B1, B2, B3, B4, B5, B6, B7, B8, B9, B10, B11, B12, B13, B14]; rfl) | (simp [bufOk, ts1, B1, B2, B3, B4, B5, B6, B7, B8, B9, B10, B11, B12, B13, B14]; done) | ((try simp [bufOk, inB] at ts1); simp [bufOk, inB]; omega)
  exact rb hE H
 refine ung E rfl rfl rfl ts1 ?_
 refine vm E rfl rfl fun a E => ?_
 refine ung E rfl rfl rfl ts1 ?_
 refine w_quiet (v := .bool (inB n 1 1000)) E rfl (ev_cons (E.tmp rfl) (ev_nil)) ok_62_13 (isTask_q n w) H (fun a w E H => ?_)
 refine ung E rfl rfl rfl ts1 ?_
 refine wv E rfl (r_not (c := !(inB n 1 1000)) (E.tmp rfl) rfl) fun a E => wv E rfl (r_pick_t ((E.tmp rfl).trans (congrArg Value.bool ts1)) (E.tmp rfl)) fun a E => va E rfl rfl fun a E => ?_
 refine wpList_nil (then_n (wp_ret ?_))
 refine post1 E rfl (out_t E rfl) ?_
 have hE : (!(inB n 1 1000)) = !bufOk n := by first | rfl | (simp only [bufOk, ts1, B1, B2, B3, B4, B5, B6, B7, B8, B9, B10, B11, B12, B13, B14]; done) | (simp only [bufOk, ts1, B1, B2, B3, B4, B5, B6, B7, B8, B9, B10, B11, B12, B13, B14]; rfl) | (simp [bufOk, ts1, B1, B2, B3, B4, B5, B6, B7, B8, B9, B10, B11, B12, B13, B14]; done) | ((try simp [bufOk, inB] at ts1); simp [bufOk, inB]; omega)
 exact rb hE H

set_option maxHeartbeats 1000000 in
theorem vd3_q (n : Int) (w0 : World)  : Calls Try.prog 156 #[.int .i64 (n)] w0 fun e w' => e = .returned (.bool (!inB n 1 1000)) ∧ Ext w0 w' := by
 refine enter_i (args := [.int .i64 (n)]) Try.func156 rfl Try.ntmps156 rfl sep0 (fun a w E H => ?_)
 have E : Env 6 a [(0, .int .i64 (n))] := E
 refine wp_seq (wp_region_lit ?_)
 refine wv E rfl (r_assign (ev_c _)) fun a E => ?_
 refine wpList_nil (then_n (wp_seq (wp_region_lit ?_)))
 refine vm E rfl rfl fun a E => ?_
 refine w_quiet (v := .bool (inB n 1 1000)) E rfl (ev_cons (E.tmp rfl) (ev_nil)) ok_62_13 (isTask_q n w) H (fun a w E H => ?_)
 refine wv E rfl (r_not (c := !(inB n 1 1000)) (E.tmp rfl) rfl) fun a E => va E rfl rfl fun a E => ?_
 refine wpList_nil (then_n (wp_ret ?_))
 refine post1 E rfl (out_t E rfl) ?_
 have hE : (!(inB n 1 1000)) = !inB n 1 1000 := by first | rfl | (simp only [B1, B2, B3, B4, B5, B6, B7, B8, B9, B10, B11, B12, B13, B14]; done) | (simp only [B1, B2, B3, B4, B5, B6, B7, B8, B9, B10, B11, B12, B13, B14]; rfl) | (simp [B1, B2, B3, B4, B5, B6, B7, B8, B9, B10, B11, B12, B13, B14]; done) | (skip; simp [inB]; omega)
 exact rb hE H

set_option maxHeartbeats 1000000 in
theorem va1_q (n : Int) (gb : Nat) (ow : Bool) (w0 : World) (hcap : RoC w0 [] gb 0 (.bool ow)) : Calls Try.prog 216 #[.int .i64 (n), .pointer (some ⟨gb, 0, none⟩)] w0 fun e w' => e = .returned (.bool (!todoOk n ow)) ∧ Ext w0 w' := by
 refine enter_i (args := [.int .i64 (n), .pointer (some ⟨gb, 0, none⟩)]) Try.func216 rfl Try.ntmps216 rfl sep0 (fun a w E H => ?_)
 have E : Env 15 a [(0, .int .i64 (n)), (1, .pointer (some ⟨gb, 0, none⟩))] := E
 refine wp_seq (wp_region_lit ?_)
 refine wv E rfl (r_assign (ev_c _)) fun a E => ?_
 refine wpList_nil (then_n (wp_seq (wp_region_lit ?_)))
 refine vm E rfl rfl fun a E => wv E rfl (r_bin (E.tmp rfl) (ev_c _) (b_neq (b := n != 0) rfl)) fun a E => vm E rfl rfl fun a E => ?_
 rcases bcase (n != 0) with ts1 | ts1
 ·
  refine wnh (c := false) E rfl rfl rfl rfl ts1 rfl fun a E => ?_
  refine wnh (c := false) E rfl rfl rfl rfl ts1 rfl fun a E => ?_
  refine wnh (c := false) E rfl rfl rfl rfl ts1 rfl fun a E => ?_
  refine wnu E rfl rfl rfl rfl fun a E => wnu E rfl rfl rfl rfl fun a E => wnu E rfl rfl rfl rfl fun a E => ?_
  refine wnh (c := false) E rfl rfl rfl rfl ts1 rfl fun a E => ?_
  refine wv E rfl (r_pick_f ((E.tmp rfl).trans (congrArg Value.bool ts1)) (ev_c _)) fun a E => va E rfl rfl fun a E => ?_
  refine wpList_nil (then_n (wp_ret ?_))
  refine post1 E rfl (out_t E rfl) ?_
  have hE : false = !todoOk n ow := by first | rfl | (simp only [todoOk, ts1, B1, B2, B3, B4, B5, B6, B7, B8, B9, B10, B11, B12, B13, B14]; done) | (simp only [todoOk, ts1, B1, B2, B3, B4, B5, B6, B7, B8, B9, B10, B11, B12, B13, B14]; rfl) | (simp [todoOk, ts1, B1, B2, B3, B4, B5, B6, B7, B8, B9, B10, B11, B12, B13, B14]; done) | ((try simp [todoOk, inB] at ts1); simp [todoOk, inB]; omega)
  exact rb hE H
 refine ung E rfl rfl rfl ts1 ?_
 refine wv E rfl (r_load (E.tmp rfl) ag_4_13 (hcap.get H)) fun a E => ?_
 refine ung E rfl rfl rfl ts1 ?_
 refine wv E rfl (r_not (c := !ow) (E.tmp rfl) rfl) fun a E => ?_
 refine ung E rfl rfl rfl ts1 ?_
 refine vm E rfl rfl fun a E => ?_
 rcases bcase (ow) with ts2 | ts2
 ·
  refine wnh (c := true) E rfl rfl rfl rfl (by rw [ts2]; rfl) rfl fun a E => ?_
  refine wnh (c := true) E rfl rfl rfl rfl (by rw [ts2]; rfl) rfl fun a E => ?_
  refine wnh (c := true) E rfl rfl rfl rfl (by rw [ts2]; rfl) rfl fun a E => ?_
  refine ung E rfl rfl rfl ts1 ?_
  refine wv E rfl (r_pick_t ((E.tmp rfl).trans (congrArg Value.bool (by rw [ts2]; rfl))) (ev_c _)) fun a E => wv E rfl (r_pick_t ((E.tmp rfl).trans (congrArg Value.bool ts1)) (E.tmp rfl)) fun a E => va E rfl rfl fun a E => ?_
  refine wpList_nil (then_n (wp_ret ?_))
  refine post1 E rfl (out_t E rfl) ?_
  have hE : true = !todoOk n ow := by subst ts2; first | rfl | (simp only [todoOk, ts1, B1, B2, B3, B4, B5, B6, B7, B8, B9, B10, B11, B12, B13, B14]; done) | (simp only [todoOk, ts1, B1, B2, B3, B4, B5, B6, B7, B8, B9, B10, B11, B12, B13, B14]; rfl) | (simp [todoOk, ts1, B1, B2, B3, B4, B5, B6, B7, B8, B9, B10, B11, B12, B13, B14]; done) | ((try simp [todoOk, inB] at ts1); simp [todoOk, inB]; omega)
  exact rb hE H
 refine ung E rfl rfl rfl (by rw [ts2]; rfl) ?_
 refine vm E rfl rfl fun a E => ?_
 refine ung E rfl rfl rfl (by rw [ts2]; rfl) ?_
 refine w_quiet (v := .bool (inB n 1 1000)) E rfl (ev_cons (E.tmp rfl) (ev_nil)) ok_62_13 (isTask_q n w) H (fun a w E H => ?_)
 refine ung E rfl rfl rfl (by rw [ts2]; rfl) ?_
 refine wv E rfl (r_not (c := !(inB n 1 1000)) (E.tmp rfl) rfl) fun a E => ?_
 refine ung E rfl rfl rfl ts1 ?_
 refine wv E rfl (r_pick_f ((E.tmp rfl).trans (congrArg Value.bool (by rw [ts2]; rfl))) (E.tmp rfl)) fun a E => wv E rfl (r_pick_t ((E.tmp rfl).trans (congrArg Value.bool ts1)) (E.tmp rfl)) fun a E => va E rfl rfl fun a E => ?_
 refine wpList_nil (then_n (wp_ret ?_))
 refine post1 E rfl (out_t E rfl) ?_
 have hE : (!(inB n 1 1000)) = !todoOk n ow := by subst ts2; first | rfl | (simp only [todoOk, ts1, B1, B2, B3, B4, B5, B6, B7, B8, B9, B10, B11, B12, B13, B14]; done) | (simp only [todoOk, ts1, B1, B2, B3, B4, B5, B6, B7, B8, B9, B10, B11, B12, B13, B14]; rfl) | (simp [todoOk, ts1, B1, B2, B3, B4, B5, B6, B7, B8, B9, B10, B11, B12, B13, B14]; done) | ((try simp [todoOk, inB] at ts1); simp [todoOk, inB]; omega)
 exact rb hE H

set_option maxHeartbeats 1000000 in
theorem vd2_q (h : GHanded) (gb m c : Nat) (A : Option Addr) (w0 : World) (hm : m ≤ 9223372036854775807) (hcap : RoC w0 [] gb 3 (.slice A m c)) : Calls Try.prog 155 #[.agg #[.int .i64 (h.actor), .int .i64 (h.value)], .pointer (some ⟨gb, 0, none⟩)] w0 fun e w' => e = .returned (.bool (!takB m h)) ∧ Ext w0 w' := by
 refine enter_i (args := [.agg #[.int .i64 (h.actor), .int .i64 (h.value)], .pointer (some ⟨gb, 0, none⟩)]) Try.func155 rfl Try.ntmps155 rfl sep0 (fun a w E H => ?_)
 have E : Env 21 a [(0, .agg #[.int .i64 (h.actor), .int .i64 (h.value)]), (1, .pointer (some ⟨gb, 0, none⟩))] := E
 have hmw : IntKind.i64.wrap (((m : Nat) : Int) - 1) = ((m : Nat) : Int) - 1 := IntWalk.i64_in _ (by omega)
 refine wp_seq (wp_region_lit ?_)
 refine w_box (us := [.int .i64 (h.actor), .int .i64 (h.value)]) E rfl (E.tmp rfl) rfl H (fun a w g1 E H => ?_)
 refine wv E rfl (r_assign (ev_c _)) fun a E => ?_
 refine wpList_nil (then_n (wp_seq (wp_region_lit ?_)))
 refine wv E rfl (r_fa (o' := 0) (E.tmp rfl) fo_36_0_13 rfl) fun a E => wv E rfl (r_load (E.tmp rfl) ag_2_13 (H.cell 0 rfl rfl)) fun a E => wv E rfl (r_bin (E.tmp rfl) (ev_c _) (b_lss (b := decide (h.actor < 0)) rfl)) fun a E => vm E rfl rfl fun a E => ?_
 rcases bcase (decide (h.actor < 0)) with ts2 | ts2
 ·
  refine ung E rfl rfl rfl ts2 ?_
  refine wv E rfl (r_fa (o' := 0) (E.tmp rfl) fo_36_0_13 rfl) fun a E => ?_
  refine ung E rfl rfl rfl ts2 ?_
  refine wv E rfl (r_load (E.tmp rfl) ag_2_13 (H.cell 0 rfl rfl)) fun a E => ?_
  refine ung E rfl rfl rfl ts2 ?_
  refine wv E rfl (r_fa (o' := 3) (E.tmp rfl) fo_30_3_13 rfl) fun a E => ?_
  refine ung E rfl rfl rfl ts2 ?_
  refine wv E rfl (r_load (E.tmp rfl) ag_27_13 (hcap.get H)) fun a E => ?_
  refine ung E rfl rfl rfl ts2 ?_
  refine wv E rfl (r_len (E.tmp rfl) el_27_13) (fun a E => ?_)
  refine ung E rfl rfl rfl ts2 ?_
  refine wv E rfl (r_bin (E.tmp rfl) (E.tmp rfl) (b_geq (b := decide (((m : Nat) : Int) ≤ h.actor)) rfl)) fun a E => wv E rfl (r_pick_f ((E.tmp rfl).trans (congrArg Value.bool ts2)) (E.tmp rfl)) fun a E => vm E rfl rfl fun a E => ?_
  rcases bcase (decide (((m : Nat) : Int) ≤ h.actor)) with ts3 | ts3
  ·
   refine ung E rfl rfl rfl ts3 ?_
   refine wv E rfl (r_fa (o' := 1) (E.tmp rfl) fo_36_1_13 rfl) fun a E => ?_
   refine ung E rfl rfl rfl ts3 ?_
   refine wv E rfl (r_load (E.tmp rfl) ag_2_13 (H.cell 0 rfl rfl)) fun a E => ?_
   refine ung E rfl rfl rfl ts3 ?_
   refine w_quiet (v := .bool (inB h.value 0 1000)) E rfl (ev_cons (E.tmp rfl) (ev_nil)) ok_151_13 (isEnd_q h.value w) H (fun a w E H => ?_)
   refine ung E rfl rfl rfl ts3 ?_
   refine wv E rfl (r_not (c := !(inB h.value 0 1000)) (E.tmp rfl) rfl) fun a E => wv E rfl (r_pick_f ((E.tmp rfl).trans (congrArg Value.bool ts3)) (E.tmp rfl)) fun a E => va E rfl rfl fun a E => ?_
   refine wpList_nil (then_n (wp_ret ?_))
   refine post1 E rfl (out_t E rfl) ?_
   have hE : (!(inB h.value 0 1000)) = !takB m h := by
    simp only [takB, hmw]
    have hts2 := ts2; have hts3 := ts3
    first | (simp only [ts2, ts3, B1, B2, B3, B4, B5, B6, B7, B8, B9, B10, B11, B12, B13, B14]; rw [Bool.eq_iff_iff]; simp [inB, ts2, ts3]; omega) | (simp [inB] at hts2; simp [inB] at hts3; rw [Bool.eq_iff_iff]; simp [inB, ts2, ts3]; omega)
   exact rb hE H
  refine wnh (c := true) E rfl rfl rfl rfl ts3 rfl fun a E => ?_
  refine wnh (c := true) E rfl rfl rfl rfl ts3 rfl fun a E => ?_
  refine wnh (c := true) E rfl rfl rfl rfl ts3 rfl fun a E => ?_
  refine wnh (c := true) E rfl rfl rfl rfl ts3 rfl fun a E => ?_
  refine wv E rfl (r_pick_t ((E.tmp rfl).trans (congrArg Value.bool ts3)) (ev_c _)) fun a E => va E rfl rfl fun a E => ?_
  refine wpList_nil (then_n (wp_ret ?_))
  refine post1 E rfl (out_t E rfl) ?_
  have hE : true = !takB m h := by
   simp only [takB, hmw]
   have hts2 := ts2; have hts3 := ts3
   first | (simp only [ts2, ts3, B1, B2, B3, B4, B5, B6, B7, B8, B9, B10, B11, B12, B13, B14]; rw [Bool.eq_iff_iff]; simp [inB, ts2, ts3]; omega) | (simp [inB] at hts2; simp [inB] at hts3; rw [Bool.eq_iff_iff]; simp [inB, ts2, ts3]; omega)
  exact rb hE H
 refine wnh (c := true) E rfl rfl rfl rfl ts2 rfl fun a E => ?_
 refine wnh (c := true) E rfl rfl rfl rfl ts2 rfl fun a E => ?_
 refine wnh (c := true) E rfl rfl rfl rfl ts2 rfl fun a E => ?_
 refine wnh (c := true) E rfl rfl rfl rfl ts2 rfl fun a E => ?_
 refine wnh (c := true) E rfl rfl rfl rfl ts2 rfl fun a E => ?_
 refine wnh (c := true) E rfl rfl rfl rfl ts2 rfl fun a E => ?_
 refine wv E rfl (r_pick_t ((E.tmp rfl).trans (congrArg Value.bool ts2)) (ev_c _)) fun a E => vm E rfl rfl fun a E => wn E rfl rfl rfl rfl rfl fun a E => wn E rfl rfl rfl rfl rfl fun a E => wn E rfl rfl rfl rfl rfl fun a E => ?_
 refine wn E rfl rfl rfl rfl rfl fun a E => wv E rfl (r_pick_t (E.tmp rfl) (ev_c _)) fun a E => va E rfl rfl fun a E => ?_
 refine wpList_nil (then_n (wp_ret ?_))
 refine post1 E rfl (out_t E rfl) ?_
 have hE : true = !takB m h := by
  simp only [takB, hmw]
  have hts2 := ts2
  first | (simp only [ts2, B1, B2, B3, B4, B5, B6, B7, B8, B9, B10, B11, B12, B13, B14]; rw [Bool.eq_iff_iff]; simp [inB, ts2]; omega) | (simp [inB] at hts2; rw [Bool.eq_iff_iff]; simp [inB, ts2]; omega)
 exact rb hE H

set_option maxHeartbeats 1000000 in
theorem idx_vd1 (xs : List Int) (c : Nat) (A : Option Addr)  (w0 : World)  (hx : Ro1 w0 [] (.sl xs.length (xs.flatMap intE)) (.slice A xs.length c)) : Calls Try.prog 149 #[.slice A xs.length c, .func (.func 150) #[] #[]] w0 fun e w' => ∃ i : Int, e = .returned (.int .i64 i) ∧ decide (0 ≤ i) = (!xs.all (bufOk)) ∧ Ext w0 w' := by
 refine enter_i (args := [.slice A xs.length c, .func (.func 150) #[] #[]]) Try.func149 rfl Try.ntmps149 rfl sep0 (fun a w E H => ?_)
 have E : Env 19 a [(0, .slice A xs.length c), (1, .func (.func 150) #[] #[])] := E
 have hnl := hx.nle
 refine wp_seq (wp_region_lit ?_)
 refine wv E rfl (r_assign (ev_c _)) fun a E => ?_
 refine wpList_nil (then_n (wp_seq (wp_seq (wp_region_lit ?_))))
 refine vm E rfl rfl fun a E => ?_
 refine wv E rfl (r_len (E.tmp rfl) el_24_13) (fun a E => ?_)
 refine wv E rfl (r_move (ev_c _)) fun a E => ?_
 refine wpList_nil (then_n (wp_block ?_))
 refine wp_loop_ghost (fun m a w => ∃ (k : Nat), m = xs.length - k ∧ k ≤ xs.length ∧ (xs.take k).all (bufOk) = true ∧ Env 19 a [(0, .slice A xs.length c), (1, .func (.func 150) #[] #[]), (7, .int .i64 (((xs.length : Nat) : Int))), (8, .int .i64 (((k : Nat) : Int)))] ∧ Tr.Inv w0 [] w []) _ ⟨0, rfl, Nat.zero_le _, rfl, (Env.pick E (Env.pick E (Env.pick E (Env.pick E E.nil rfl) rfl) rfl) rfl), H⟩ ?_
 rintro _ a w ⟨k, rfl, hk, hall, E, H⟩
 by_cases hlt : k < xs.length
 ·
  skip
  revert E
  revert H
  obtain ⟨e1b, e1o, e1y, rfl, e1x, e1q⟩ := Ro1.elem (f := intE) (s := 1) (fun _ => rfl) hx rfl hlt
  intro H E
  have r2p0 : RoP w0 [] e1b (e1o + k * 1) [.v (.int .i64 (e1y))] := e1q
  obtain ⟨r2k0, r2p1⟩ := RoP.vv r2p0
  clear r2p0
  clear r2p1
  refine wp_seq (wp_region_lit ?_)
  refine wv E rfl (r_bin (E.tmp rfl) (E.tmp rfl) (b_lss (b := true) (by simp; exact hlt))) fun a E => ?_
  refine wpList_nil (then_n (wp_seq ?_))
  refine cond_t E rfl rfl ?_
  refine wp_skip (then_n (wp_seq (wp_block (wp_seq (wp_region_lit ?_)))))
  refine vm E rfl rfl fun a E => va E rfl rfl fun a E => ?_
  refine wpList_nil (then_n (wp_seq (wp_region_lit ?_)))
  refine vm E rfl rfl fun a E => vm E rfl rfl fun a E => vm E rfl rfl fun a E => wv E rfl (r_ia (k := k) (o' := e1o + k * 1) (E.tmp rfl) (E.tmp rfl) rfl el_24_13 (by omega) rfl) fun a E => wv E rfl (r_load (E.tmp rfl) ag_2_13 (r2k0.get H)) fun a E => ?_
  refine w_quietv (v := .bool (!bufOk e1y)) (cs := []) E rfl (E.tmp rfl) (ev_cons (E.tmp rfl) (ev_nil)) ok_150_13 (vd1_q e1y w) H (fun a w E H => ?_)
  refine wpList_nil (then_n ?_)
  rcases bcase (bufOk e1y) with ts3 | ts3
  ·
   refine cond_t E rfl (by rw [ts3]; rfl) ?_
   refine wp_seq (wp_region_lit ?_)
   refine vm E rfl rfl fun a E => va E rfl rfl fun a E => ?_
   refine wpList_nil (then_n (wp_ret (inb_r (then_r (then_r (inb_r (then_r ?_)))))))
   refine post1 E rfl (out_t E rfl) ?_
   have hp : (bufOk) e1y = false := by show bufOk e1y = false; exact ts3
   exact ⟨_, rfl, idx_hit e1x hp, H.to_ext⟩
  refine cond_f E rfl (by rw [ts3]; rfl) ?_
  refine wp_skip (inb_n (then_n (wp_region_lit ?_)))
  refine wv E rfl (r_bin (E.tmp rfl) (ev_c _) (b_add (wrap_succ (by omega)))) fun a E => vm E rfl rfl fun a E => ?_
  refine wpList_nil ?_
  have hp : (bufOk) e1y = true := by show bufOk e1y = true; exact ts3
  exact then_n ⟨_, by omega, k + 1, rfl, by omega, all_succ hall e1x hp, (Env.pick E (Env.pick E (Env.pick E (Env.pick E E.nil rfl) rfl) rfl) rfl), H⟩
 ·
  skip
  refine wp_seq (wp_region_lit ?_)
  refine wv E rfl (r_bin (E.tmp rfl) (E.tmp rfl) (b_lss (b := false) (by simp; omega))) fun a E => ?_
  refine wpList_nil (then_n (wp_seq ?_))
  refine cond_f E rfl rfl ?_
  refine wp_exit (then_e (then_e (inb_ee (then_n (wp_seq (wp_region_lit ?_))))))
  refine wv E rfl (r_assign (ev_c _)) fun a E => ?_
  refine wpList_nil (then_n (wp_ret ?_))
  refine post1 E rfl (out_t E rfl) ?_
  exact ⟨_, rfl, idx_miss hall (by omega), H.to_ext⟩

set_option maxHeartbeats 1000000 in
theorem con_vd1 (xs : List Int) (c : Nat) (A : Option Addr)  (w0 : World)  (hx : Ro1 w0 [] (.sl xs.length (xs.flatMap intE)) (.slice A xs.length c)) : Calls Try.prog 60 #[.slice A xs.length c, .func (.func 150) #[] #[]] w0 fun e w' => e = .returned (.bool (!xs.all (bufOk))) ∧ Ext w0 w' := by
 refine enter_i (args := [.slice A xs.length c, .func (.func 150) #[] #[]]) Try.func60 rfl Try.ntmps60 rfl sep0 (fun a w E H => ?_)
 have E : Env 9 a [(0, .slice A xs.length c), (1, .func (.func 150) #[] #[])] := E
 refine wp_seq (wp_region_lit ?_)
 refine wv E rfl (r_assign (ev_c _)) fun a E => ?_
 refine wpList_nil (then_n (wp_seq (wp_region_lit ?_)))
 refine vm E rfl rfl fun a E => vm E rfl rfl fun a E => ?_
 refine w_call E rfl (ev_cons (E.tmp rfl) (ev_cons (E.tmp rfl) (ev_nil))) ok_149_13 (idx_vd1 xs c A  w   (hx.at_ H (F := []) (by simp))) ?_
 rintro _ w ⟨i, rfl, hi, hext⟩
 refine ⟨_, rfl, fun a E => ?_⟩
 have H := Tr.Inv.ext H hext
 clear hext
 refine wv E rfl (r_bin (E.tmp rfl) (ev_c _) (b_geq (b := decide (0 ≤ i)) rfl)) fun a E => va E rfl rfl fun a E => ?_
 refine wpList_nil (then_n (wp_ret ?_))
 refine post1 E rfl (out_t E rfl) ?_
 exact ⟨congrArg (fun z => Ending.returned (Value.bool z)) hi, H.to_ext⟩

set_option maxHeartbeats 1000000 in
theorem idx_vd3 (xs : List Int) (c : Nat) (A : Option Addr)  (w0 : World)  (hx : Ro1 w0 [] (.sl xs.length (xs.flatMap intE)) (.slice A xs.length c)) : Calls Try.prog 149 #[.slice A xs.length c, .func (.func 156) #[] #[]] w0 fun e w' => ∃ i : Int, e = .returned (.int .i64 i) ∧ decide (0 ≤ i) = (!xs.all (fun n => inB n 1 1000)) ∧ Ext w0 w' := by
 refine enter_i (args := [.slice A xs.length c, .func (.func 156) #[] #[]]) Try.func149 rfl Try.ntmps149 rfl sep0 (fun a w E H => ?_)
 have E : Env 19 a [(0, .slice A xs.length c), (1, .func (.func 156) #[] #[])] := E
 have hnl := hx.nle
 refine wp_seq (wp_region_lit ?_)
 refine wv E rfl (r_assign (ev_c _)) fun a E => ?_
 refine wpList_nil (then_n (wp_seq (wp_seq (wp_region_lit ?_))))
 refine vm E rfl rfl fun a E => ?_
 refine wv E rfl (r_len (E.tmp rfl) el_24_13) (fun a E => ?_)
 refine wv E rfl (r_move (ev_c _)) fun a E => ?_
 refine wpList_nil (then_n (wp_block ?_))
 refine wp_loop_ghost (fun m a w => ∃ (k : Nat), m = xs.length - k ∧ k ≤ xs.length ∧ (xs.take k).all (fun n => inB n 1 1000) = true ∧ Env 19 a [(0, .slice A xs.length c), (1, .func (.func 156) #[] #[]), (7, .int .i64 (((xs.length : Nat) : Int))), (8, .int .i64 (((k : Nat) : Int)))] ∧ Tr.Inv w0 [] w []) _ ⟨0, rfl, Nat.zero_le _, rfl, (Env.pick E (Env.pick E (Env.pick E (Env.pick E E.nil rfl) rfl) rfl) rfl), H⟩ ?_
 rintro _ a w ⟨k, rfl, hk, hall, E, H⟩
 by_cases hlt : k < xs.length
 ·
  skip
  revert E
  revert H
  obtain ⟨e1b, e1o, e1y, rfl, e1x, e1q⟩ := Ro1.elem (f := intE) (s := 1) (fun _ => rfl) hx rfl hlt
  intro H E
  have r2p0 : RoP w0 [] e1b (e1o + k * 1) [.v (.int .i64 (e1y))] := e1q
  obtain ⟨r2k0, r2p1⟩ := RoP.vv r2p0
  clear r2p0
  clear r2p1
  refine wp_seq (wp_region_lit ?_)
  refine wv E rfl (r_bin (E.tmp rfl) (E.tmp rfl) (b_lss (b := true) (by simp; exact hlt))) fun a E => ?_
  refine wpList_nil (then_n (wp_seq ?_))
  refine cond_t E rfl rfl ?_
  refine wp_skip (then_n (wp_seq (wp_block (wp_seq (wp_region_lit ?_)))))
  refine vm E rfl rfl fun a E => va E rfl rfl fun a E => ?_
  refine wpList_nil (then_n (wp_seq (wp_region_lit ?_)))
  refine vm E rfl rfl fun a E => vm E rfl rfl fun a E => vm E rfl rfl fun a E => wv E rfl (r_ia (k := k) (o' := e1o + k * 1) (E.tmp rfl) (E.tmp rfl) rfl el_24_13 (by omega) rfl) fun a E => wv E rfl (r_load (E.tmp rfl) ag_2_13 (r2k0.get H)) fun a E => ?_
  refine w_quietv (v := .bool (!inB e1y 1 1000)) (cs := []) E rfl (E.tmp rfl) (ev_cons (E.tmp rfl) (ev_nil)) ok_156_13 (vd3_q e1y w) H (fun a w E H => ?_)
  refine wpList_nil (then_n ?_)
  rcases bcase (inB e1y 1 1000) with ts3 | ts3
  ·
   refine cond_t E rfl (by rw [ts3]; rfl) ?_
   refine wp_seq (wp_region_lit ?_)
   refine vm E rfl rfl fun a E => va E rfl rfl fun a E => ?_
   refine wpList_nil (then_n (wp_ret (inb_r (then_r (then_r (inb_r (then_r ?_)))))))
   refine post1 E rfl (out_t E rfl) ?_
   have hp : (fun n => inB n 1 1000) e1y = false := by show inB e1y 1 1000 = false; exact ts3
   exact ⟨_, rfl, idx_hit e1x hp, H.to_ext⟩
  refine cond_f E rfl (by rw [ts3]; rfl) ?_
  refine wp_skip (inb_n (then_n (wp_region_lit ?_)))
  refine wv E rfl (r_bin (E.tmp rfl) (ev_c _) (b_add (wrap_succ (by omega)))) fun a E => vm E rfl rfl fun a E => ?_
  refine wpList_nil ?_
  have hp : (fun n => inB n 1 1000) e1y = true := by show inB e1y 1 1000 = true; exact ts3
  exact then_n ⟨_, by omega, k + 1, rfl, by omega, all_succ hall e1x hp, (Env.pick E (Env.pick E (Env.pick E (Env.pick E E.nil rfl) rfl) rfl) rfl), H⟩
 ·
  skip
  refine wp_seq (wp_region_lit ?_)
  refine wv E rfl (r_bin (E.tmp rfl) (E.tmp rfl) (b_lss (b := false) (by simp; omega))) fun a E => ?_
  refine wpList_nil (then_n (wp_seq ?_))
  refine cond_f E rfl rfl ?_
  refine wp_exit (then_e (then_e (inb_ee (then_n (wp_seq (wp_region_lit ?_))))))
  refine wv E rfl (r_assign (ev_c _)) fun a E => ?_
  refine wpList_nil (then_n (wp_ret ?_))
  refine post1 E rfl (out_t E rfl) ?_
  exact ⟨_, rfl, idx_miss hall (by omega), H.to_ext⟩

set_option maxHeartbeats 1000000 in
theorem con_vd3 (xs : List Int) (c : Nat) (A : Option Addr)  (w0 : World)  (hx : Ro1 w0 [] (.sl xs.length (xs.flatMap intE)) (.slice A xs.length c)) : Calls Try.prog 60 #[.slice A xs.length c, .func (.func 156) #[] #[]] w0 fun e w' => e = .returned (.bool (!xs.all (fun n => inB n 1 1000))) ∧ Ext w0 w' := by
 refine enter_i (args := [.slice A xs.length c, .func (.func 156) #[] #[]]) Try.func60 rfl Try.ntmps60 rfl sep0 (fun a w E H => ?_)
 have E : Env 9 a [(0, .slice A xs.length c), (1, .func (.func 156) #[] #[])] := E
 refine wp_seq (wp_region_lit ?_)
 refine wv E rfl (r_assign (ev_c _)) fun a E => ?_
 refine wpList_nil (then_n (wp_seq (wp_region_lit ?_)))
 refine vm E rfl rfl fun a E => vm E rfl rfl fun a E => ?_
 refine w_call E rfl (ev_cons (E.tmp rfl) (ev_cons (E.tmp rfl) (ev_nil))) ok_149_13 (idx_vd3 xs c A  w   (hx.at_ H (F := []) (by simp))) ?_
 rintro _ w ⟨i, rfl, hi, hext⟩
 refine ⟨_, rfl, fun a E => ?_⟩
 have H := Tr.Inv.ext H hext
 clear hext
 refine wv E rfl (r_bin (E.tmp rfl) (ev_c _) (b_geq (b := decide (0 ≤ i)) rfl)) fun a E => va E rfl rfl fun a E => ?_
 refine wpList_nil (then_n (wp_ret ?_))
 refine post1 E rfl (out_t E rfl) ?_
 exact ⟨congrArg (fun z => Ending.returned (Value.bool z)) hi, H.to_ext⟩

set_option maxHeartbeats 1000000 in
theorem idx_va1 (xs : List Int) (c : Nat) (A : Option Addr) (gb : Nat) (ow : Bool) (w0 : World) (hcap : RoC w0 [] gb 0 (.bool ow)) (hx : Ro1 w0 [] (.sl xs.length (xs.flatMap intE)) (.slice A xs.length c)) : Calls Try.prog 149 #[.slice A xs.length c, .func (.func 216) #[] #[.pointer (some ⟨gb, 0, none⟩)]] w0 fun e w' => ∃ i : Int, e = .returned (.int .i64 i) ∧ decide (0 ≤ i) = (!xs.all (fun n => todoOk n ow)) ∧ Ext w0 w' := by
 refine enter_i (args := [.slice A xs.length c, .func (.func 216) #[] #[.pointer (some ⟨gb, 0, none⟩)]]) Try.func149 rfl Try.ntmps149 rfl sep0 (fun a w E H => ?_)
 have E : Env 19 a [(0, .slice A xs.length c), (1, .func (.func 216) #[] #[.pointer (some ⟨gb, 0, none⟩)])] := E
 have hnl := hx.nle
 refine wp_seq (wp_region_lit ?_)
 refine wv E rfl (r_assign (ev_c _)) fun a E => ?_
 refine wpList_nil (then_n (wp_seq (wp_seq (wp_region_lit ?_))))
 refine vm E rfl rfl fun a E => ?_
 refine wv E rfl (r_len (E.tmp rfl) el_24_13) (fun a E => ?_)
 refine wv E rfl (r_move (ev_c _)) fun a E => ?_
 refine wpList_nil (then_n (wp_block ?_))
 refine wp_loop_ghost (fun m a w => ∃ (k : Nat), m = xs.length - k ∧ k ≤ xs.length ∧ (xs.take k).all (fun n => todoOk n ow) = true ∧ Env 19 a [(0, .slice A xs.length c), (1, .func (.func 216) #[] #[.pointer (some ⟨gb, 0, none⟩)]), (7, .int .i64 (((xs.length : Nat) : Int))), (8, .int .i64 (((k : Nat) : Int)))] ∧ Tr.Inv w0 [] w []) _ ⟨0, rfl, Nat.zero_le _, rfl, (Env.pick E (Env.pick E (Env.pick E (Env.pick E E.nil rfl) rfl) rfl) rfl), H⟩ ?_
 rintro _ a w ⟨k, rfl, hk, hall, E, H⟩
 by_cases hlt : k < xs.length
 ·
  skip
  revert E
  revert H
  obtain ⟨e1b, e1o, e1y, rfl, e1x, e1q⟩ := Ro1.elem (f := intE) (s := 1) (fun _ => rfl) hx rfl hlt
  intro H E
  have r2p0 : RoP w0 [] e1b (e1o + k * 1) [.v (.int .i64 (e1y))] := e1q
  obtain ⟨r2k0, r2p1⟩ := RoP.vv r2p0
  clear r2p0
  clear r2p1
  refine wp_seq (wp_region_lit ?_)
  refine wv E rfl (r_bin (E.tmp rfl) (E.tmp rfl) (b_lss (b := true) (by simp; exact hlt))) fun a E => ?_
  refine wpList_nil (then_n (wp_seq ?_))
  refine cond_t E rfl rfl ?_
  refine wp_skip (then_n (wp_seq (wp_block (wp_seq (wp_region_lit ?_)))))
  refine vm E rfl rfl fun a E => va E rfl rfl fun a E => ?_
  refine wpList_nil (then_n (wp_seq (wp_region_lit ?_)))
  refine vm E rfl rfl fun a E => vm E rfl rfl fun a E => vm E rfl rfl fun a E => wv E rfl (r_ia (k := k) (o' := e1o + k * 1) (E.tmp rfl) (E.tmp rfl) rfl el_24_13 (by omega) rfl) fun a E => wv E rfl (r_load (E.tmp rfl) ag_2_13 (r2k0.get H)) fun a E => ?_
  refine w_quietv (v := .bool (!todoOk e1y ow)) (cs := [.pointer (some ⟨gb, 0, none⟩)]) E rfl (E.tmp rfl) (ev_cons (E.tmp rfl) (ev_nil)) ok_216_13 (va1_q e1y gb ow w (hcap.at_ H (F := []) (by simp))) H (fun a w E H => ?_)
  refine wpList_nil (then_n ?_)
  rcases bcase (todoOk e1y ow) with ts3 | ts3
  ·
   refine cond_t E rfl (by rw [ts3]; rfl) ?_
   refine wp_seq (wp_region_lit ?_)
   refine vm E rfl rfl fun a E => va E rfl rfl fun a E => ?_
   refine wpList_nil (then_n (wp_ret (inb_r (then_r (then_r (inb_r (then_r ?_)))))))
   refine post1 E rfl (out_t E rfl) ?_
   have hp : (fun n => todoOk n ow) e1y = false := by show todoOk e1y ow = false; exact ts3
   exact ⟨_, rfl, idx_hit e1x hp, H.to_ext⟩
  refine cond_f E rfl (by rw [ts3]; rfl) ?_
  refine wp_skip (inb_n (then_n (wp_region_lit ?_)))
  refine wv E rfl (r_bin (E.tmp rfl) (ev_c _) (b_add (wrap_succ (by omega)))) fun a E => vm E rfl rfl fun a E => ?_
  refine wpList_nil ?_
  have hp : (fun n => todoOk n ow) e1y = true := by show todoOk e1y ow = true; exact ts3
  exact then_n ⟨_, by omega, k + 1, rfl, by omega, all_succ hall e1x hp, (Env.pick E (Env.pick E (Env.pick E (Env.pick E E.nil rfl) rfl) rfl) rfl), H⟩
 ·
  skip
  refine wp_seq (wp_region_lit ?_)
  refine wv E rfl (r_bin (E.tmp rfl) (E.tmp rfl) (b_lss (b := false) (by simp; omega))) fun a E => ?_
  refine wpList_nil (then_n (wp_seq ?_))
  refine cond_f E rfl rfl ?_
  refine wp_exit (then_e (then_e (inb_ee (then_n (wp_seq (wp_region_lit ?_))))))
  refine wv E rfl (r_assign (ev_c _)) fun a E => ?_
  refine wpList_nil (then_n (wp_ret ?_))
  refine post1 E rfl (out_t E rfl) ?_
  exact ⟨_, rfl, idx_miss hall (by omega), H.to_ext⟩

set_option maxHeartbeats 1000000 in
theorem con_va1 (xs : List Int) (c : Nat) (A : Option Addr) (gb : Nat) (ow : Bool) (w0 : World) (hcap : RoC w0 [] gb 0 (.bool ow)) (hx : Ro1 w0 [] (.sl xs.length (xs.flatMap intE)) (.slice A xs.length c)) : Calls Try.prog 60 #[.slice A xs.length c, .func (.func 216) #[] #[.pointer (some ⟨gb, 0, none⟩)]] w0 fun e w' => e = .returned (.bool (!xs.all (fun n => todoOk n ow))) ∧ Ext w0 w' := by
 refine enter_i (args := [.slice A xs.length c, .func (.func 216) #[] #[.pointer (some ⟨gb, 0, none⟩)]]) Try.func60 rfl Try.ntmps60 rfl sep0 (fun a w E H => ?_)
 have E : Env 9 a [(0, .slice A xs.length c), (1, .func (.func 216) #[] #[.pointer (some ⟨gb, 0, none⟩)])] := E
 refine wp_seq (wp_region_lit ?_)
 refine wv E rfl (r_assign (ev_c _)) fun a E => ?_
 refine wpList_nil (then_n (wp_seq (wp_region_lit ?_)))
 refine vm E rfl rfl fun a E => vm E rfl rfl fun a E => ?_
 refine w_call E rfl (ev_cons (E.tmp rfl) (ev_cons (E.tmp rfl) (ev_nil))) ok_149_13 (idx_va1 xs c A gb ow w  (hcap.at_ H (F := []) (by simp)) (hx.at_ H (F := []) (by simp))) ?_
 rintro _ w ⟨i, rfl, hi, hext⟩
 refine ⟨_, rfl, fun a E => ?_⟩
 have H := Tr.Inv.ext H hext
 clear hext
 refine wv E rfl (r_bin (E.tmp rfl) (ev_c _) (b_geq (b := decide (0 ≤ i)) rfl)) fun a E => va E rfl rfl fun a E => ?_
 refine wpList_nil (then_n (wp_ret ?_))
 refine post1 E rfl (out_t E rfl) ?_
 exact ⟨congrArg (fun z => Ending.returned (Value.bool z)) hi, H.to_ext⟩

set_option maxHeartbeats 1000000 in
theorem idx_vd2 (xs : List GHanded) (c : Nat) (A : Option Addr) (gb mm cc : Nat) (AA : Option Addr) (w0 : World) (hm : mm ≤ 9223372036854775807) (hcap : RoC w0 [] gb 3 (.slice AA mm cc)) (hx : Ro1 w0 [] (.sl xs.length (xs.flatMap GHanded.enc)) (.slice A xs.length c)) : Calls Try.prog 217 #[.slice A xs.length c, .func (.func 155) #[] #[.pointer (some ⟨gb, 0, none⟩)]] w0 fun e w' => ∃ i : Int, e = .returned (.int .i64 i) ∧ decide (0 ≤ i) = (!xs.all (takB mm)) ∧ Ext w0 w' := by
 refine enter_i (args := [.slice A xs.length c, .func (.func 155) #[] #[.pointer (some ⟨gb, 0, none⟩)]]) Try.func217 rfl Try.ntmps217 rfl sep0 (fun a w E H => ?_)
 have E : Env 19 a [(0, .slice A xs.length c), (1, .func (.func 155) #[] #[.pointer (some ⟨gb, 0, none⟩)])] := E
 have hnl := hx.nle
 refine wp_seq (wp_region_lit ?_)
 refine wv E rfl (r_assign (ev_c _)) fun a E => ?_
 refine wpList_nil (then_n (wp_seq (wp_seq (wp_region_lit ?_))))
 refine vm E rfl rfl fun a E => ?_
 refine wv E rfl (r_len (E.tmp rfl) el_28_13) (fun a E => ?_)
 refine wv E rfl (r_move (ev_c _)) fun a E => ?_
 refine wpList_nil (then_n (wp_block ?_))
 refine wp_loop_ghost (fun m a w => ∃ (k : Nat), m = xs.length - k ∧ k ≤ xs.length ∧ (xs.take k).all (takB mm) = true ∧ Env 19 a [(0, .slice A xs.length c), (1, .func (.func 155) #[] #[.pointer (some ⟨gb, 0, none⟩)]), (7, .int .i64 (((xs.length : Nat) : Int))), (8, .int .i64 (((k : Nat) : Int)))] ∧ Tr.Inv w0 [] w []) _ ⟨0, rfl, Nat.zero_le _, rfl, (Env.pick E (Env.pick E (Env.pick E (Env.pick E E.nil rfl) rfl) rfl) rfl), H⟩ ?_
 rintro _ a w ⟨k, rfl, hk, hall, E, H⟩
 by_cases hlt : k < xs.length
 ·
  skip
  revert E
  revert H
  obtain ⟨e1b, e1o, e1y, rfl, e1x, e1q⟩ := Ro1.elem (f := GHanded.enc) GHanded.enc_len hx rfl hlt
  intro H E
  have r2p0 : RoP w0 [] e1b (e1o + k * 2) [.v (.int .i64 (e1y.actor)), .v (.int .i64 (e1y.value))] := e1q
  obtain ⟨r2k0, r2p1⟩ := RoP.vv r2p0
  clear r2p0
  obtain ⟨r2k1, r2p2⟩ := RoP.vv r2p1
  clear r2p1
  clear r2p2
  refine wp_seq (wp_region_lit ?_)
  refine wv E rfl (r_bin (E.tmp rfl) (E.tmp rfl) (b_lss (b := true) (by simp; exact hlt))) fun a E => ?_
  refine wpList_nil (then_n (wp_seq ?_))
  refine cond_t E rfl rfl ?_
  refine wp_skip (then_n (wp_seq (wp_block (wp_seq (wp_region_lit ?_)))))
  refine vm E rfl rfl fun a E => va E rfl rfl fun a E => ?_
  refine wpList_nil (then_n (wp_seq (wp_region_lit ?_)))
  refine vm E rfl rfl fun a E => vm E rfl rfl fun a E => vm E rfl rfl fun a E => wv E rfl (r_ia (k := k) (o' := e1o + k * 2) (E.tmp rfl) (E.tmp rfl) rfl el_28_13 (by omega) rfl) fun a E => wv E rfl (r_loads (us := [.int .i64 (e1y.actor), .int .i64 (e1y.value)]) (E.tmp rfl) ag_36_13 sz_36_13 (ca_cons (r2k0.get H) (ca_cons (r2k1.get H) (ca_nil _ _ _)))) fun a E => ?_
  refine w_quietv (v := .bool (!takB mm e1y)) (cs := [.pointer (some ⟨gb, 0, none⟩)]) E rfl (E.tmp rfl) (ev_cons (E.tmp rfl) (ev_nil)) ok_155_13 (vd2_q e1y gb mm cc AA w hm (hcap.at_ H (F := []) (by simp))) H (fun a w E H => ?_)
  refine wpList_nil (then_n ?_)
  rcases bcase (takB mm e1y) with ts3 | ts3
  ·
   refine cond_t E rfl (by rw [ts3]; rfl) ?_
   refine wp_seq (wp_region_lit ?_)
   refine vm E rfl rfl fun a E => va E rfl rfl fun a E => ?_
   refine wpList_nil (then_n (wp_ret (inb_r (then_r (then_r (inb_r (then_r ?_)))))))
   refine post1 E rfl (out_t E rfl) ?_
   have hp : (takB mm) e1y = false := by show takB mm e1y = false; exact ts3
   exact ⟨_, rfl, idx_hit e1x hp, H.to_ext⟩
  refine cond_f E rfl (by rw [ts3]; rfl) ?_
  refine wp_skip (inb_n (then_n (wp_region_lit ?_)))
  refine wv E rfl (r_bin (E.tmp rfl) (ev_c _) (b_add (wrap_succ (by omega)))) fun a E => vm E rfl rfl fun a E => ?_
  refine wpList_nil ?_
  have hp : (takB mm) e1y = true := by show takB mm e1y = true; exact ts3
  exact then_n ⟨_, by omega, k + 1, rfl, by omega, all_succ hall e1x hp, (Env.pick E (Env.pick E (Env.pick E (Env.pick E E.nil rfl) rfl) rfl) rfl), H⟩
 ·
  skip
  refine wp_seq (wp_region_lit ?_)
  refine wv E rfl (r_bin (E.tmp rfl) (E.tmp rfl) (b_lss (b := false) (by simp; omega))) fun a E => ?_
  refine wpList_nil (then_n (wp_seq ?_))
  refine cond_f E rfl rfl ?_
  refine wp_exit (then_e (then_e (inb_ee (then_n (wp_seq (wp_region_lit ?_))))))
  refine wv E rfl (r_assign (ev_c _)) fun a E => ?_
  refine wpList_nil (then_n (wp_ret ?_))
  refine post1 E rfl (out_t E rfl) ?_
  exact ⟨_, rfl, idx_miss hall (by omega), H.to_ext⟩

set_option maxHeartbeats 1000000 in
theorem con_vd2 (xs : List GHanded) (c : Nat) (A : Option Addr) (gb mm cc : Nat) (AA : Option Addr) (w0 : World) (hm : mm ≤ 9223372036854775807) (hcap : RoC w0 [] gb 3 (.slice AA mm cc)) (hx : Ro1 w0 [] (.sl xs.length (xs.flatMap GHanded.enc)) (.slice A xs.length c)) : Calls Try.prog 154 #[.slice A xs.length c, .func (.func 155) #[] #[.pointer (some ⟨gb, 0, none⟩)]] w0 fun e w' => e = .returned (.bool (!xs.all (takB mm))) ∧ Ext w0 w' := by
 refine enter_i (args := [.slice A xs.length c, .func (.func 155) #[] #[.pointer (some ⟨gb, 0, none⟩)]]) Try.func154 rfl Try.ntmps154 rfl sep0 (fun a w E H => ?_)
 have E : Env 9 a [(0, .slice A xs.length c), (1, .func (.func 155) #[] #[.pointer (some ⟨gb, 0, none⟩)])] := E
 refine wp_seq (wp_region_lit ?_)
 refine wv E rfl (r_assign (ev_c _)) fun a E => ?_
 refine wpList_nil (then_n (wp_seq (wp_region_lit ?_)))
 refine vm E rfl rfl fun a E => vm E rfl rfl fun a E => ?_
 refine w_call E rfl (ev_cons (E.tmp rfl) (ev_cons (E.tmp rfl) (ev_nil))) ok_217_13 (idx_vd2 xs c A gb mm cc AA w hm (hcap.at_ H (F := []) (by simp)) (hx.at_ H (F := []) (by simp))) ?_
 rintro _ w ⟨i, rfl, hi, hext⟩
 refine ⟨_, rfl, fun a E => ?_⟩
 have H := Tr.Inv.ext H hext
 clear hext
 refine wv E rfl (r_bin (E.tmp rfl) (ev_c _) (b_geq (b := decide (0 ≤ i)) rfl)) fun a E => va E rfl rfl fun a E => ?_
 refine wpList_nil (then_n (wp_ret ?_))
 refine post1 E rfl (out_t E rfl) ?_
 exact ⟨congrArg (fun z => Ending.returned (Value.bool z)) hi, H.to_ext⟩
end Go.Proofs.Ythelpioccjjgfaa
