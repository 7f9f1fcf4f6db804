/- Deques. Printed by gx_dq.py. -/
import Derived.Test.YthelpioccjjgfaaProg
import Derived.Test.YthelpioccjjgfaaSc
import Derived.Test.YthelpioccjjgfaaDDq
import Derived.Test.YthelpioccjjgfaaArith
import Derived.IntWalk
import Derived.Test.YthelpioccjjgfaaDq7
import Derived.Test.YthelpioccjjgfaaDq2
set_option linter.unusedSimpArgs false
set_option linter.unusedVariables false
namespace Go.Tr
theorem GHanded.flat : ∀ x : GHanded, ∀ d ∈ x.enc, ∃ v, d = D.v v := by
  intro x d h
  simp only [GHanded.enc, List.mem_cons, List.not_mem_nil, or_false] at h
  rcases h with rfl | rfl <;> exact ⟨_, rfl⟩
end Go.Tr
namespace Go.Proofs.Ythelpioccjjgfaa
open Go Go.RowKit Go.Proofs Go.Tr
theorem zo_30_7 : zeroOf Try.prog 30 = some [.int .i64 (0), .int .i64 (0), .slice none 0 0, .slice none 0 0, .slice none 0 0, .slice none 0 0] := by kernel_rfl
theorem fo_30_0_7 : fldOff Try.prog 30 0 = some 0 := by kernel_rfl
theorem ag_2_7 : aggB Try.prog 2 = some false := by kernel_rfl
theorem fo_30_1_7 : fldOff Try.prog 30 1 = some 1 := by kernel_rfl
theorem fo_30_2_7 : fldOff Try.prog 30 2 = some 2 := by kernel_rfl
theorem ag_24_7 : aggB Try.prog 24 = some false := by kernel_rfl
theorem ok_208_7 : callOk Try.prog 208 = true := by kernel_rfl
theorem fo_30_4_7 : fldOff Try.prog 30 4 = some 4 := by kernel_rfl
theorem ag_28_7 : aggB Try.prog 28 = some false := by kernel_rfl
theorem eo_28_7 : ElemOk Try.prog 28 36 2 := ElemOk.of Try.underlying28 (by kernel_rfl) (by omega)
theorem fo_30_5_7 : fldOff Try.prog 30 5 = some 5 := by kernel_rfl
theorem sz_30_7 : (Try.prog.info? 30).map (·.size) = some 6 := by kernel_rfl
theorem fo_30_3_7 : fldOff Try.prog 30 3 = some 3 := by kernel_rfl
theorem ag_27_7 : aggB Try.prog 27 = some false := by kernel_rfl
theorem el_27_7 : elemOf? Try.prog 27 = some (119, 5) := by kernel_rfl
theorem ag_119_7 : aggB Try.prog 119 = some true := by kernel_rfl
theorem sz_119_7 : (Try.prog.info? 119).map (·.size) = some 5 := by kernel_rfl
theorem zo_119_7 : zeroOf Try.prog 119 = some [.slice none 0 0, .int .i64 (0), .int .i64 (0), .int .i64 (0), .int .i64 (0)] := by kernel_rfl
theorem fo_119_0_7 : fldOff Try.prog 119 0 = some 0 := by kernel_rfl
theorem sz_24_7 : (Try.prog.info? 24).map (·.size) = some 1 := by kernel_rfl
theorem eo_27_7 : ElemOk Try.prog 27 119 5 := ElemOk.of Try.underlying27 (by kernel_rfl) (by omega)
theorem sz_27_7 : (Try.prog.info? 27).map (·.size) = some 1 := by kernel_rfl
theorem ag_30_7 : aggB Try.prog 30 = some true := by kernel_rfl
set_option maxHeartbeats 1000000 in
theorem l23Own_q (x : GDeque) (b o : Nat) (w0 : World) (hp : RoP w0 [] b o x.enc) (hb : x.buffer.length ≤ 1048576) (hr : x.refused.length ≤ 1048576) (hn : x.actors.length ≤ 1000) (hh : x.taken.length ≤ 1048576) (htd : ∀ (k : Nat) (a : GDequeActor), x.actors[k]? = some a → a.todo.length ≤ 1048576) : Calls Try.prog 135 #[.pointer (some ⟨b, o, none⟩)] w0 fun e w' => ∃ AB cB AA cA AT cT AR cR, e = .returned (.agg #[.int .i64 x.top, .int .i64 x.bottom, .slice AB x.buffer.length cB, .slice AA x.actors.length cA, .slice AT x.taken.length cT, .slice AR x.refused.length cR]) ∧ Tr.Inv w0 [] w' [Gr (.slice AB x.buffer.length cB) 2 1 x.buffer.length (x.buffer.flatMap intE), Gr (.slice AA x.actors.length cA) 119 5 x.actors.length (x.actors.flatMap GDequeActor.enc), Gr (.slice AT x.taken.length cT) 36 2 x.taken.length (x.taken.flatMap GHanded.enc), Gr (.slice AR x.refused.length cR) 2 1 x.refused.length (x.refused.flatMap intE)] := by
 refine enter_i (args := [.pointer (some ⟨b, o, none⟩)]) Try.func135 rfl Try.ntmps135 rfl sep0 (fun a w E H => ?_)
 have E : Env 58 a [(0, .pointer (some ⟨b, o, none⟩))] := E
 have r1p0 : RoP w0 [] b o [.v (.int .i64 (x.top)), .v (.int .i64 (x.bottom)), .sl x.buffer.length (x.buffer.flatMap intE), .sl x.actors.length (x.actors.flatMap GDequeActor.enc), .sl x.taken.length (x.taken.flatMap GHanded.enc), .sl x.refused.length (x.refused.flatMap intE)] := hp
 obtain ⟨r1k0, r1p1⟩ := RoP.vv r1p0
 clear r1p0
 obtain ⟨r1k1, r1p2⟩ := RoP.vv r1p1
 clear r1p1
 obtain ⟨r1A2, r1c2, r1k2, r1t2, r1n2, r1p3⟩ := RoP.sl r1p2
 clear r1p2
 obtain ⟨r1A3, r1c3, r1k3, r1t3, r1n3, r1p4⟩ := RoP.sl r1p3
 clear r1p3
 obtain ⟨r1A4, r1c4, r1k4, r1t4, r1n4, r1p5⟩ := RoP.sl r1p4
 clear r1p4
 obtain ⟨r1A5, r1c5, r1k5, r1t5, r1n5, r1p6⟩ := RoP.sl r1p5
 clear r1p5
 clear r1p6
 refine wp_seq (wp_region_lit ?_)
 refine w_alloc E rfl zo_30_7 H (fun a w g2 E H => ?_)
 refine wpList_nil (then_n (wp_seq ?_))
 let fl1 : Flow := ⟨[.c (.pointer (some ⟨b, o, none⟩)), .c (.pointer (some ⟨b, o, none⟩)), .c (.pointer (some ⟨b, o, none⟩)), .c (.int .i64 (x.top)), .c (.pointer (some ⟨b, o, none⟩)), .c (.pointer (some ⟨b, o, none⟩)), .c (.pointer (some ⟨b, o + 1, none⟩)), .c (.int .i64 (x.bottom)), .c (.pointer (some ⟨b, o, none⟩)), .c (.pointer (some ⟨b, o, none⟩)), .c (.pointer (some ⟨b, o + 2, none⟩)), .c (.slice r1A2 x.buffer.length r1c2), { dep := [12], val := fun | [x12] => .slice (sA x12) x.buffer.length (sC x12) | _ => undef, rd := [] }, { dep := [13], val := fun | [x13] => .slice (some ⟨(vb x13), 0, none⟩) 0 0 | _ => undef, rd := [] }, .c (.pointer (some ⟨b, o, none⟩)), .c (.pointer (some ⟨b, o, none⟩)), .c (.pointer (some ⟨b, o + 4, none⟩)), .c (.slice r1A4 x.taken.length r1c4), { dep := [18], val := fun | [x18] => .slice (sA x18) (0 + x.taken.length) (sC x18) | _ => undef, rd := [] }, .c (.pointer (some ⟨b, o, none⟩)), .c (.pointer (some ⟨b, o, none⟩)), .c (.pointer (some ⟨b, o + 5, none⟩)), .c (.slice r1A5 x.refused.length r1c5), { dep := [23], val := fun | [x23] => .slice (sA x23) x.refused.length (sC x23) | _ => undef, rd := [] }, { dep := [12, 18, 23], val := fun | [x12, x18, x23] => .agg #[.int .i64 (x.top), .int .i64 (x.bottom), .slice (sA x12) x.buffer.length (sC x12), .slice none 0 0, .slice (sA x18) (0 + x.taken.length) (sC x18), .slice (sA x23) x.refused.length (sC x23)] | _ => undef, rd := [] }, { dep := [25], val := fun | [x25] => .pointer (some ⟨(vb x25), 0, none⟩) | _ => undef, rd := [] }, .c (undef)], [{ dep := [], res := fun _ => Cel g2 [.int .i64 (0), .int .i64 (0), .slice none 0 0, .slice none 0 0, .slice none 0 0, .slice none 0 0] 30, prod := none, cons := none }, { dep := [12], res := fun | [x12] => Gr (.slice (sA x12) x.buffer.length (sC x12)) 2 1 x.buffer.length (x.buffer.flatMap intE) | _ => Res.emp, prod := some 12, cons := none }, { dep := [13], res := fun | [x13] => Gr (.slice (some ⟨(vb x13), 0, none⟩) 0 0) 36 2 0 ([]) | _ => Res.emp, prod := some 13, cons := some 18 }, { dep := [18], res := fun | [x18] => Gr (.slice (sA x18) (0 + x.taken.length) (sC x18)) 36 2 (0 + x.taken.length) (([]) ++ x.taken.flatMap GHanded.enc) | _ => Res.emp, prod := some 18, cons := none }, { dep := [23], res := fun | [x23] => Gr (.slice (sA x23) x.refused.length (sC x23)) 2 1 x.refused.length (x.refused.flatMap intE) | _ => Res.emp, prod := some 23, cons := none }, { dep := [25], res := fun | [x25] => Cel (vb x25) [.int .i64 (0), .int .i64 (0), .slice none 0 0, .slice none 0 0, .slice none 0 0, .slice none 0 0] 30 | _ => Res.emp, prod := some 25, cons := some 26 }, { dep := [12, 18, 23, 25], res := fun | [x12, x18, x23, x25] => Cel (vb x25) [.int .i64 (x.top), .int .i64 (x.bottom), .slice (sA x12) x.buffer.length (sC x12), .slice none 0 0, .slice (sA x18) (0 + x.taken.length) (sC x18), .slice (sA x23) x.refused.length (sC x23)] 30 | _ => Res.emp, prod := some 26, cons := none }], [[], [0], [0, 1], [0, 1, 2], [], [4], [4, 5], [4, 5, 6], [], [8], [8, 9], [8, 9, 10], [8, 9, 10, 11], [], [], [14], [14, 15], [14, 15, 16], [8, 9, 10, 11, 12, 13, 14, 15, 16, 17], [], [19], [19, 20], [19, 20, 21], [8, 9, 10, 11, 12, 13, 14, 15, 16, 17, 18, 19, 20, 21, 22], [0, 1, 2, 3, 4, 5, 6, 7, 8, 9, 10, 11, 12, 13, 14, 15, 16, 17, 18, 19, 20, 21, 22, 23], [], [0, 1, 2, 3, 4, 5, 6, 7, 8, 9, 10, 11, 12, 13, 14, 15, 16, 17, 18, 19, 20, 21, 22, 23, 24, 25]]⟩
 have E : Env 58 a [(0, .pointer (some ⟨b, o, none⟩)), (2, .pointer (some ⟨g2, 0, none⟩))] := (Env.pick E (Env.pick E E.nil rfl) rfl)
 refine wp_flow (rs := []) rfl fl1 E (by rw [List.append_nil]; exact H) 27 rfl (by kernel_rfl) ?_ ?_
 ·
  refine AllTo.snoc (AllTo.snoc (AllTo.snoc (AllTo.snoc (AllTo.snoc (AllTo.snoc (AllTo.snoc (AllTo.snoc (AllTo.snoc (AllTo.snoc (AllTo.snoc (AllTo.snoc (AllTo.snoc (AllTo.snoc (AllTo.snoc (AllTo.snoc (AllTo.snoc (AllTo.snoc (AllTo.snoc (AllTo.snoc (AllTo.snoc (AllTo.snoc (AllTo.snoc (AllTo.snoc (AllTo.snoc (AllTo.snoc (AllTo.snoc (AllTo.zero _) ?_) ?_) ?_) ?_) ?_) ?_) ?_) ?_) ?_) ?_) ?_) ?_) ?_) ?_) ?_) ?_) ?_) ?_) ?_) ?_) ?_) ?_) ?_) ?_) ?_) ?_) ?_
  ·
   refine ⟨_, _, _, rfl, rfl, rfl, fun ν a w rs E hk ht H => ?_⟩
   exact Gives.val rfl (r_move (E.tmp rfl)) ⟨trivial, rfl, H⟩
  ·
   refine ⟨_, _, _, rfl, rfl, rfl, fun ν a w rs E hk ht H => ?_⟩
   have E := Env.add (v := .pointer (some ⟨b, o, none⟩)) E (ht 0 (by decide) _ _ 6 rfl rfl rfl)
   exact Gives.val rfl (r_nil (E.tmp rfl)) ⟨trivial, rfl, H⟩
  ·
   refine ⟨_, _, _, rfl, rfl, rfl, fun ν a w rs E hk ht H => ?_⟩
   have E := Env.add (v := .pointer (some ⟨b, o, none⟩)) E (ht 1 (by decide) _ _ 7 rfl rfl rfl)
   exact Gives.val rfl (r_fa (o' := o) (E.tmp rfl) fo_30_0_7 rfl) ⟨trivial, rfl, H⟩
  ·
   refine ⟨_, _, _, rfl, rfl, rfl, fun ν a w rs E hk ht H => ?_⟩
   have E := Env.add (v := .pointer (some ⟨b, o, none⟩)) E (ht 2 (by decide) _ _ 8 rfl rfl rfl)
   have H : Tr.Inv w0 [] w ([] ++ ([] ++ rs)) := H
   exact Gives.val rfl (r_load (E.tmp rfl) ag_2_7 (r1k0.get H)) ⟨trivial, rfl, H⟩
  ·
   refine ⟨_, _, _, rfl, rfl, rfl, fun ν a w rs E hk ht H => ?_⟩
   exact Gives.val rfl (r_move (E.tmp rfl)) ⟨trivial, rfl, H⟩
  ·
   refine ⟨_, _, _, rfl, rfl, rfl, fun ν a w rs E hk ht H => ?_⟩
   have E := Env.add (v := .pointer (some ⟨b, o, none⟩)) E (ht 4 (by decide) _ _ 10 rfl rfl rfl)
   exact Gives.val rfl (r_nil (E.tmp rfl)) ⟨trivial, rfl, H⟩
  ·
   refine ⟨_, _, _, rfl, rfl, rfl, fun ν a w rs E hk ht H => ?_⟩
   have E := Env.add (v := .pointer (some ⟨b, o, none⟩)) E (ht 5 (by decide) _ _ 11 rfl rfl rfl)
   exact Gives.val rfl (r_fa (o' := o + 1) (E.tmp rfl) fo_30_1_7 rfl) ⟨trivial, rfl, H⟩
  ·
   refine ⟨_, _, _, rfl, rfl, rfl, fun ν a w rs E hk ht H => ?_⟩
   have E := Env.add (v := .pointer (some ⟨b, o + 1, none⟩)) E (ht 6 (by decide) _ _ 12 rfl rfl rfl)
   have H : Tr.Inv w0 [] w ([] ++ ([] ++ rs)) := H
   exact Gives.val rfl (r_load (E.tmp rfl) ag_2_7 (r1k1.get H)) ⟨trivial, rfl, H⟩
  ·
   refine ⟨_, _, _, rfl, rfl, rfl, fun ν a w rs E hk ht H => ?_⟩
   exact Gives.val rfl (r_move (E.tmp rfl)) ⟨trivial, rfl, H⟩
  ·
   refine ⟨_, _, _, rfl, rfl, rfl, fun ν a w rs E hk ht H => ?_⟩
   have E := Env.add (v := .pointer (some ⟨b, o, none⟩)) E (ht 8 (by decide) _ _ 14 rfl rfl rfl)
   exact Gives.val rfl (r_nil (E.tmp rfl)) ⟨trivial, rfl, H⟩
  ·
   refine ⟨_, _, _, rfl, rfl, rfl, fun ν a w rs E hk ht H => ?_⟩
   have E := Env.add (v := .pointer (some ⟨b, o, none⟩)) E (ht 9 (by decide) _ _ 15 rfl rfl rfl)
   exact Gives.val rfl (r_fa (o' := o + 2) (E.tmp rfl) fo_30_2_7 rfl) ⟨trivial, rfl, H⟩
  ·
   refine ⟨_, _, _, rfl, rfl, rfl, fun ν a w rs E hk ht H => ?_⟩
   have E := Env.add (v := .pointer (some ⟨b, o + 2, none⟩)) E (ht 10 (by decide) _ _ 16 rfl rfl rfl)
   have H : Tr.Inv w0 [] w ([] ++ ([] ++ rs)) := H
   exact Gives.val rfl (r_load (E.tmp rfl) ag_24_7 (r1k2.get H)) ⟨trivial, rfl, H⟩
  ·
   refine ⟨_, _, _, rfl, rfl, rfl, fun ν a w rs E hk ht H => ?_⟩
   have E := Env.add (v := .slice r1A2 x.buffer.length r1c2) E (ht 11 (by decide) _ _ 17 rfl rfl rfl)
   have H : Tr.Inv w0 [] w ([] ++ ([] ++ rs)) := H
   exact Gives.call rfl (r_call (ev_cons (E.tmp rfl) (ev_nil)) ok_208_7) (l00Own_q x.buffer r1c2 r1A2 w (r1t2.at_ H (F := []) (by simp)) (by omega)) fun e w2 ⟨A2, c2, he, hI⟩ => ⟨_, he, trivial, rfl, H.new_mid hI⟩
  ·
   refine ⟨_, _, _, rfl, rfl, rfl, fun ν a w rs E hk ht H => ?_⟩
   have H : Tr.Inv w0 [] w ([] ++ ([] ++ rs)) := H
   exact Gives.val rfl (r_bslice (pv (pvn)) (by kernel_rfl : (Instr.buildSlice 28 0 (List.toArray [])).run Try.prog w = .ok (.slice (some ⟨w.heap.size, 0, none⟩) 0 0) (w.alloc (.cells (List.toArray []) 36)))) ⟨trivial, rfl, (H.alloc [] 36).gr_new 2⟩
  ·
   refine ⟨_, _, _, rfl, rfl, rfl, fun ν a w rs E hk ht H => ?_⟩
   exact Gives.val rfl (r_move (E.tmp rfl)) ⟨trivial, rfl, H⟩
  ·
   refine ⟨_, _, _, rfl, rfl, rfl, fun ν a w rs E hk ht H => ?_⟩
   have E := Env.add (v := .pointer (some ⟨b, o, none⟩)) E (ht 14 (by decide) _ _ 20 rfl rfl rfl)
   exact Gives.val rfl (r_nil (E.tmp rfl)) ⟨trivial, rfl, H⟩
  ·
   refine ⟨_, _, _, rfl, rfl, rfl, fun ν a w rs E hk ht H => ?_⟩
   have E := Env.add (v := .pointer (some ⟨b, o, none⟩)) E (ht 15 (by decide) _ _ 21 rfl rfl rfl)
   exact Gives.val rfl (r_fa (o' := o + 4) (E.tmp rfl) fo_30_4_7 rfl) ⟨trivial, rfl, H⟩
  ·
   refine ⟨_, _, _, rfl, rfl, rfl, fun ν a w rs E hk ht H => ?_⟩
   have E := Env.add (v := .pointer (some ⟨b, o + 4, none⟩)) E (ht 16 (by decide) _ _ 22 rfl rfl rfl)
   have H : Tr.Inv w0 [] w ([] ++ ([] ++ rs)) := H
   exact Gives.val rfl (r_load (E.tmp rfl) ag_28_7 (r1k4.get H)) ⟨trivial, rfl, H⟩
  ·
   refine ⟨_, _, _, rfl, rfl, rfl, fun ν a w rs E hk ht H => ?_⟩
   have E := Env.add (v := .slice (some ⟨(vb (ν 13)), 0, none⟩) 0 0) E (ht 13 (by decide) _ _ 19 rfl rfl rfl)
   have E := Env.add (v := .slice r1A4 x.taken.length r1c4) E (ht 17 (by decide) _ _ 23 rfl rfl rfl)
   have H : Tr.Inv w0 [] w ([] ++ ([Gr (.slice (some ⟨(vb (ν 13)), 0, none⟩) 0 0) 36 2 0 ([])] ++ rs)) := H
   obtain ⟨v2, w2, hrun, ⟨A2, c2, rfl⟩, hI⟩ := app_flow_ro (P := Try.prog) (ty := 28) (c := r1c4) eo_28_7 H r1t4 (by rw [flat_len GHanded.enc 2 GHanded.enc_len]) (flatMap_flat GHanded.flat _) (by have := Ro1.nle r1t4; omega)
   exact Gives.val rfl (r_app (E.tmp rfl) (E.tmp rfl) hrun) ⟨trivial, rfl, hI⟩
  ·
   refine ⟨_, _, _, rfl, rfl, rfl, fun ν a w rs E hk ht H => ?_⟩
   exact Gives.val rfl (r_move (E.tmp rfl)) ⟨trivial, rfl, H⟩
  ·
   refine ⟨_, _, _, rfl, rfl, rfl, fun ν a w rs E hk ht H => ?_⟩
   have E := Env.add (v := .pointer (some ⟨b, o, none⟩)) E (ht 19 (by decide) _ _ 25 rfl rfl rfl)
   exact Gives.val rfl (r_nil (E.tmp rfl)) ⟨trivial, rfl, H⟩
  ·
   refine ⟨_, _, _, rfl, rfl, rfl, fun ν a w rs E hk ht H => ?_⟩
   have E := Env.add (v := .pointer (some ⟨b, o, none⟩)) E (ht 20 (by decide) _ _ 26 rfl rfl rfl)
   exact Gives.val rfl (r_fa (o' := o + 5) (E.tmp rfl) fo_30_5_7 rfl) ⟨trivial, rfl, H⟩
  ·
   refine ⟨_, _, _, rfl, rfl, rfl, fun ν a w rs E hk ht H => ?_⟩
   have E := Env.add (v := .pointer (some ⟨b, o + 5, none⟩)) E (ht 21 (by decide) _ _ 27 rfl rfl rfl)
   have H : Tr.Inv w0 [] w ([] ++ ([] ++ rs)) := H
   exact Gives.val rfl (r_load (E.tmp rfl) ag_24_7 (r1k5.get H)) ⟨trivial, rfl, H⟩
  ·
   refine ⟨_, _, _, rfl, rfl, rfl, fun ν a w rs E hk ht H => ?_⟩
   have E := Env.add (v := .slice r1A5 x.refused.length r1c5) E (ht 22 (by decide) _ _ 28 rfl rfl rfl)
   have H : Tr.Inv w0 [] w ([] ++ ([] ++ rs)) := H
   exact Gives.call rfl (r_call (ev_cons (E.tmp rfl) (ev_nil)) ok_208_7) (l00Own_q x.refused r1c5 r1A5 w (r1t5.at_ H (F := []) (by simp)) (by omega)) fun e w2 ⟨A2, c2, he, hI⟩ => ⟨_, he, trivial, rfl, H.new_mid hI⟩
  ·
   refine ⟨_, _, _, rfl, rfl, rfl, fun ν a w rs E hk ht H => ?_⟩
   have E := Env.add (v := .int .i64 (x.top)) E (ht 3 (by decide) _ _ 9 rfl rfl rfl)
   have E := Env.add (v := .int .i64 (x.bottom)) E (ht 7 (by decide) _ _ 13 rfl rfl rfl)
   have E := Env.add (v := .slice (sA (ν 12)) x.buffer.length (sC (ν 12))) E (ht 12 (by decide) _ _ 18 rfl rfl rfl)
   have E := Env.add (v := .slice (sA (ν 18)) (0 + x.taken.length) (sC (ν 18))) E (ht 18 (by decide) _ _ 24 rfl rfl rfl)
   have E := Env.add (v := .slice (sA (ν 23)) x.refused.length (sC (ν 23))) E (ht 23 (by decide) _ _ 29 rfl rfl rfl)
   exact Gives.val rfl (r_build (pv (pvc (E.tmp rfl) (pvc (E.tmp rfl) (pvc (E.tmp rfl) (pvc (E.tmp rfl) (pvc (E.tmp rfl) (pvn))))))) (by kernel_rfl : (Instr.build 30 (List.toArray [(0, .int .i64 (x.top)), (1, .int .i64 (x.bottom)), (2, .slice (sA (ν 12)) x.buffer.length (sC (ν 12))), (4, .slice (sA (ν 18)) (0 + x.taken.length) (sC (ν 18))), (5, .slice (sA (ν 23)) x.refused.length (sC (ν 23)))])).run Try.prog _ = .ok (.agg #[.int .i64 (x.top), .int .i64 (x.bottom), .slice (sA (ν 12)) x.buffer.length (sC (ν 12)), .slice none 0 0, .slice (sA (ν 18)) (0 + x.taken.length) (sC (ν 18)), .slice (sA (ν 23)) x.refused.length (sC (ν 23))]) _)) ⟨trivial, rfl, H⟩
  ·
   refine ⟨_, _, _, rfl, rfl, rfl, fun ν a w rs E hk ht H => ?_⟩
   have H : Tr.Inv w0 [] w ([] ++ ([] ++ rs)) := H
   exact Gives.val rfl (r_alloc zo_30_7) ⟨trivial, rfl, H.alloc _ _⟩
  ·
   refine ⟨_, _, _, rfl, rfl, rfl, fun ν a w rs E hk ht H => ?_⟩
   have E := Env.add (v := .pointer (some ⟨(vb (ν 25)), 0, none⟩)) E (ht 25 (by decide) _ _ 3 rfl rfl rfl)
   have E := Env.add (v := .agg #[.int .i64 (x.top), .int .i64 (x.bottom), .slice (sA (ν 12)) x.buffer.length (sC (ν 12)), .slice none 0 0, .slice (sA (ν 18)) (0 + x.taken.length) (sC (ν 18)), .slice (sA (ν 23)) x.refused.length (sC (ν 23))]) E (ht 24 (by decide) _ _ 30 rfl rfl rfl)
   have H : Tr.Inv w0 [] w ([] ++ ([Cel (vb (ν 25)) [.int .i64 (0), .int .i64 (0), .slice none 0 0, .slice none 0 0, .slice none 0 0, .slice none 0 0] 30] ++ rs)) := H
   exact Gives.skp rfl (r_stores (us := [.int .i64 (x.top), .int .i64 (x.bottom), .slice (sA (ν 12)) x.buffer.length (sC (ν 12)), .slice none 0 0, .slice (sA (ν 18)) (0 + x.taken.length) (sC (ν 18)), .slice (sA (ν 23)) x.refused.length (sC (ν 23))]) (E.tmp rfl) (E.tmp rfl) rfl sz_30_7 (H.cel 0 rfl) (by simp)) ⟨trivial, rfl, H.put (us := [.int .i64 (x.top), .int .i64 (x.bottom), .slice (sA (ν 12)) x.buffer.length (sC (ν 12)), .slice none 0 0, .slice (sA (ν 18)) (0 + x.taken.length) (sC (ν 18)), .slice (sA (ν 23)) x.refused.length (sC (ν 23))]) 0 rfl rfl rfl⟩
 ·
  refine fun ν a w E hk ht H => ?_
  have E := Env.add E (show a.tmps[3]? = some (.pointer (some ⟨(vb (ν 25)), 0, none⟩)) from ht 25 _ _ 3 rfl rfl rfl)
  have H : Tr.Inv w0 [] w [Cel g2 [.int .i64 (0), .int .i64 (0), .slice none 0 0, .slice none 0 0, .slice none 0 0, .slice none 0 0] 30, Gr (.slice (sA (ν 12)) x.buffer.length (sC (ν 12))) 2 1 x.buffer.length (x.buffer.flatMap intE), Gr (.slice (sA (ν 18)) (0 + x.taken.length) (sC (ν 18))) 36 2 (0 + x.taken.length) (([]) ++ x.taken.flatMap GHanded.enc), Gr (.slice (sA (ν 23)) x.refused.length (sC (ν 23))) 2 1 x.refused.length (x.refused.flatMap intE), Cel (vb (ν 25)) [.int .i64 (x.top), .int .i64 (x.bottom), .slice (sA (ν 12)) x.buffer.length (sC (ν 12)), .slice none 0 0, .slice (sA (ν 18)) (0 + x.taken.length) (sC (ν 18)), .slice (sA (ν 23)) x.refused.length (sC (ν 23))] 30] := H
  have E : Env 58 a [(0, .pointer (some ⟨b, o, none⟩)), (2, .pointer (some ⟨g2, 0, none⟩)), (3, .pointer (some ⟨(vb (ν 25)), 0, none⟩))] := (Env.pick E (Env.pick E (Env.pick E E.nil rfl) rfl) rfl)
  clear hk ht
  generalize (sA (ν 12)) = A5 at E H
  generalize (sC (ν 12)) = c6 at E H
  generalize (vb (ν 13)) = g7 at E H
  generalize (sA (ν 18)) = A8 at E H
  generalize (sC (ν 18)) = c9 at E H
  generalize (sA (ν 23)) = A10 at E H
  generalize (sC (ν 23)) = c11 at E H
  generalize (vb (ν 25)) = g12 at E H
  refine then_n (wp_seq (wp_seq ?_))
  simp only [Nat.zero_add, List.nil_append] at E H
  have H : Tr.Inv w0 [] w [Cel g2 [.int .i64 (0), .int .i64 (0), .slice none 0 0, .slice none 0 0, .slice none 0 0, .slice none 0 0] 30, Gr (.slice A5 x.buffer.length c6) 2 1 x.buffer.length (x.buffer.flatMap intE), Gr (.slice A8 x.taken.length c9) 36 2 x.taken.length (x.taken.flatMap GHanded.enc), Gr (.slice A10 x.refused.length c11) 2 1 x.refused.length (x.refused.flatMap intE), Cel g12 [.int .i64 (x.top), .int .i64 (x.bottom), .slice A5 x.buffer.length c6, .slice none 0 0, .slice A8 x.taken.length c9, .slice A10 x.refused.length c11] 30] := H
  refine wp_region_lit ?_
  refine wv E rfl (r_assign (ev_c _)) fun a E => ?_
  refine wpList_nil (then_n (wp_block ?_))
  have H := H.gr_nil 119 5
  refine wp_loop_ghost (fun m a w => ∃ (k : Nat) (A : Option Addr) (c : Nat), m = x.actors.length - k ∧ k ≤ x.actors.length ∧ Env 58 a [(0, .pointer (some ⟨b, o, none⟩)), (2, .pointer (some ⟨g2, 0, none⟩)), (3, .pointer (some ⟨g12, 0, none⟩)), (4, .int .i64 (((k : Nat) : Int)))] ∧ Tr.Inv w0 [] w [Gr (.slice A k c) 119 5 k ((x.actors.take k).flatMap GDequeActor.enc), Cel g2 [.int .i64 (0), .int .i64 (0), .slice none 0 0, .slice none 0 0, .slice none 0 0, .slice none 0 0] 30, Gr (.slice A5 x.buffer.length c6) 2 1 x.buffer.length (x.buffer.flatMap intE), Gr (.slice A8 x.taken.length c9) 36 2 x.taken.length (x.taken.flatMap GHanded.enc), Gr (.slice A10 x.refused.length c11) 2 1 x.refused.length (x.refused.flatMap intE), Cel g12 [.int .i64 (x.top), .int .i64 (x.bottom), .slice A5 x.buffer.length c6, .slice A k c, .slice A8 x.taken.length c9, .slice A10 x.refused.length c11] 30]) _ ⟨0, none, 0, rfl, Nat.zero_le _, (Env.pick E (Env.pick E (Env.pick E (Env.pick E E.nil rfl) rfl) rfl) rfl), H⟩ ?_
  rintro _ a w ⟨k, A, c, rfl, hk, E, H⟩
  by_cases hlt : k < x.actors.length
  ·
   skip
   revert E
   revert H
   obtain ⟨e13b, e13o, e13y, rfl, e13x, e13q⟩ := Ro1.elem (f := GDequeActor.enc) GDequeActor.enc_len r1t3 rfl hlt
   intro H E
   have r14p0 : RoP w0 [] e13b (e13o + k * 5) [.sl e13y.todo.length (e13y.todo.flatMap intE), .v (.int .i64 (e13y.pc)), .v (.int .i64 (e13y.t)), .v (.int .i64 (e13y.b)), .v (.int .i64 (e13y.x))] := e13q
   obtain ⟨r14A0, r14c0, r14k0, r14t0, r14n0, r14p1⟩ := RoP.sl r14p0
   clear r14p0
   obtain ⟨r14k1, r14p2⟩ := RoP.vv r14p1
   clear r14p1
   obtain ⟨r14k2, r14p3⟩ := RoP.vv r14p2
   clear r14p2
   obtain ⟨r14k3, r14p4⟩ := RoP.vv r14p3
   clear r14p3
   obtain ⟨r14k4, r14p5⟩ := RoP.vv r14p4
   clear r14p4
   clear r14p5
   have htl : e13y.todo.length ≤ 1048576 := htd _ _ e13x
   refine wp_seq (wp_seq (wp_region_lit ?_))
   refine vm E rfl rfl fun a E => vm E rfl rfl fun a E => wv E rfl (r_nil (E.tmp rfl)) fun a E => wv E rfl (r_fa (o' := o + 3) (E.tmp rfl) fo_30_3_7 rfl) fun a E => wv E rfl (r_load (E.tmp rfl) ag_27_7 (r1k3.get H)) fun a E => ?_
   refine wv E rfl (r_len (E.tmp rfl) el_27_7) (fun a E => ?_)
   refine wv E rfl (r_bin (E.tmp rfl) (E.tmp rfl) (b_lss (b := true) (by simp; exact hlt))) fun a E => ?_
   refine wpList_nil (then_n ?_)
   refine cond_t E rfl rfl ?_
   refine wp_skip (then_n (wp_seq (wp_block (wp_seq (wp_region_lit ?_)))))
   refine vm E rfl rfl fun a E => wv E rfl (r_nil (E.tmp rfl)) fun a E => wv E rfl (r_fa (o' := o + 3) (E.tmp rfl) fo_30_3_7 rfl) fun a E => wv E rfl (r_load (E.tmp rfl) ag_27_7 (r1k3.get H)) fun a E => vm E rfl rfl fun a E => ?_
   refine wv E rfl (r_ia (k := k) (o' := e13o + k * 5) (E.tmp rfl) (E.tmp rfl) rfl el_27_7 (by omega) rfl) fun a E => wv E rfl (r_loads (us := [.slice r14A0 e13y.todo.length r14c0, .int .i64 (e13y.pc), .int .i64 (e13y.t), .int .i64 (e13y.b), .int .i64 (e13y.x)]) (E.tmp rfl) ag_119_7 sz_119_7 (ca_cons (r14k0.get H) (ca_cons (r14k1.get H) (ca_cons (r14k2.get H) (ca_cons (r14k3.get H) (ca_cons (r14k4.get H) (ca_nil _ _ _))))))) fun a E => ?_
   refine w_alloc E rfl zo_119_7 H (fun a w g15 E H => ?_)
   refine w_stores (us := [.slice r14A0 e13y.todo.length r14c0, .int .i64 (e13y.pc), .int .i64 (e13y.t), .int .i64 (e13y.b), .int .i64 (e13y.x)]) (cs' := [.slice r14A0 e13y.todo.length r14c0, .int .i64 (e13y.pc), .int .i64 (e13y.t), .int .i64 (e13y.b), .int .i64 (e13y.x)]) (rs' := [Cel _ [.slice r14A0 e13y.todo.length r14c0, .int .i64 (e13y.pc), .int .i64 (e13y.t), .int .i64 (e13y.b), .int .i64 (e13y.x)] _, _, _, _, _, _, _]) E (E.tmp rfl) (E.tmp rfl) rfl sz_119_7 H (i := 0) rfl rfl rfl rfl (fun a w E H => ?_)
   refine wpList_nil (then_n (wp_seq (wp_region_lit ?_)))
   refine wv E rfl (r_fa (o' := 0) (E.tmp rfl) fo_119_0_7 rfl) fun a E => wv E rfl (r_load (E.tmp rfl) ag_24_7 (H.cell 0 rfl rfl)) fun a E => ?_
   refine w_call E rfl (ev_cons (E.tmp rfl) (ev_nil)) ok_208_7 (l00Own_q e13y.todo r14c0 r14A0 w (r14t0.at_ H (F := []) (by simp)) (by omega)) ?_
   rintro _ w ⟨o16A, o16c, rfl, hI⟩
   refine ⟨_, rfl, fun a E => ?_⟩
   have H := H.new hI
   clear hI
   refine wv E rfl (r_fa (o' := 0) (E.tmp rfl) fo_119_0_7 rfl) fun a E => ?_
   refine w_store (cs' := [.slice o16A e13y.todo.length o16c, _, _, _, _]) (rs' := [_, Cel _ [.slice o16A e13y.todo.length o16c, _, _, _, _] _, _, _, _, _, _, _]) E (E.tmp rfl) (E.tmp rfl) rfl rfl sz_24_7 H (i := 1) rfl rfl rfl rfl (fun a w E H => ?_)
   refine wpList_nil (then_n (wp_region_lit ?_))
   refine wv E rfl (r_fa (o' := 3) (E.tmp rfl) fo_30_3_7 rfl) fun a E => wv E rfl (r_load (E.tmp rfl) ag_27_7 (H.cell 7 rfl rfl)) fun a E => wv E rfl (r_loads (us := [.slice o16A e13y.todo.length o16c, .int .i64 (e13y.pc), .int .i64 (e13y.t), .int .i64 (e13y.b), .int .i64 (e13y.x)]) (E.tmp rfl) ag_119_7 sz_119_7 (H.cellsAt 1 rfl)) fun a E => ?_
   refine wv E rfl (r_bslice (pv (pvc (E.tmp rfl) (pvn))) (by kernel_rfl : (Instr.buildSlice 27 1 (List.toArray [(0, .agg #[.slice o16A e13y.todo.length o16c, .int .i64 (e13y.pc), .int .i64 (e13y.t), .int .i64 (e13y.b), .int .i64 (e13y.x)])])).run Try.prog w = .ok (.slice (some ⟨w.heap.size, 0, none⟩) 1 1) (w.alloc (.cells (List.toArray [.slice o16A e13y.todo.length o16c, .int .i64 (e13y.pc), .int .i64 (e13y.t), .int .i64 (e13y.b), .int .i64 (e13y.x)]) 119)))) (fun a E => ?_)
   have H := H.alloc [.slice o16A e13y.todo.length o16c, .int .i64 (e13y.pc), .int .i64 (e13y.t), .int .i64 (e13y.b), .int .i64 (e13y.x)] 119
   obtain ⟨g17, hgg17⟩ : ∃ g, g = w.heap.size := ⟨_, rfl⟩
   rw [← hgg17] at E H
   clear hgg17
   generalize w.alloc _ = w at H ⊢
   have H := H.front 3 rfl
   have H := H.mk_e
   have H := H.mk_v (x := .int .i64 (e13y.x)) rfl
   have H := H.mk_v (x := .int .i64 (e13y.b)) rfl
   have H := H.mk_v (x := .int .i64 (e13y.t)) rfl
   have H := H.mk_v (x := .int .i64 (e13y.pc)) rfl
   have H := H.front 3 rfl
   have H := H.gr_dats (by rw [flat_len intE 1 (fun _ => rfl)])
   have H := H.mk_s
   have H := H.front 1 rfl
   refine w_app E rfl (E.tmp rfl) (E.tmp rfl) eo_27_7 H (H.src (i := 2) rfl rfl rfl) (by omega) (fun a w Aa18 ca18 E H => ?_)
   have H : Tr.Inv w0 [] w [Gr (.slice Aa18 (k + 1) ca18) 119 5 (k + 1) (((x.actors.take k).flatMap GDequeActor.enc) ++ (e13y.enc)), Cel g17 [.slice o16A e13y.todo.length o16c, .int .i64 (e13y.pc), .int .i64 (e13y.t), .int .i64 (e13y.b), .int .i64 (e13y.x)] 119, Cel g15 [.slice o16A e13y.todo.length o16c, .int .i64 (e13y.pc), .int .i64 (e13y.t), .int .i64 (e13y.b), .int .i64 (e13y.x)] 119, Cel g2 [.int .i64 (0), .int .i64 (0), .slice none 0 0, .slice none 0 0, .slice none 0 0, .slice none 0 0] 30, Gr (.slice A5 x.buffer.length c6) 2 1 x.buffer.length (x.buffer.flatMap intE), Gr (.slice A8 x.taken.length c9) 36 2 x.taken.length (x.taken.flatMap GHanded.enc), Gr (.slice A10 x.refused.length c11) 2 1 x.refused.length (x.refused.flatMap intE), Cel g12 [.int .i64 (x.top), .int .i64 (x.bottom), .slice A5 x.buffer.length c6, .slice A k c, .slice A8 x.taken.length c9, .slice A10 x.refused.length c11] 30] := H
   refine wv E rfl (r_fa (o' := 3) (E.tmp rfl) fo_30_3_7 rfl) fun a E => ?_
   refine w_store (cs' := [_, _, _, .slice Aa18 (k + 1) ca18, _, _]) (rs' := [_, _, _, _, _, _, _, Cel _ [_, _, _, .slice Aa18 (k + 1) ca18, _, _] _]) E (E.tmp rfl) (E.tmp rfl) rfl rfl sz_27_7 H (i := 7) rfl rfl rfl rfl (fun a w E H => ?_)
   refine wpList_nil (inb_n (then_n (wp_region_lit ?_)))
   refine vm E rfl rfl fun a E => wv E rfl (r_bin (E.tmp rfl) (ev_c _) (b_add (wrap_succ (by omega)))) fun a E => va E rfl rfl fun a E => ?_
   refine wpList_nil ?_
   have H := H.front 7 rfl
   have H := H.front 7 rfl
   have H := H.front 7 rfl
   have H := H.front 7 rfl
   have H := H.front 7 rfl
   have H := H.front 5 rfl
   have H := H.drop 6 rfl
   have H := H.drop 6 rfl
   rw [show (x.actors.take k).flatMap GDequeActor.enc ++ e13y.enc = (x.actors.take (k + 1)).flatMap GDequeActor.enc by rw [List.take_add_one, e13x, List.flatMap_append]; simp] at H
   exact then_n ⟨_, by omega, k + 1, _, _, rfl, by omega, (Env.pick E (Env.pick E (Env.pick E (Env.pick E E.nil rfl) rfl) rfl) rfl), H⟩
  ·
   skip
   obtain hkn : k = x.actors.length := by omega
   refine wp_seq (wp_seq (wp_region_lit ?_))
   refine vm E rfl rfl fun a E => vm E rfl rfl fun a E => wv E rfl (r_nil (E.tmp rfl)) fun a E => wv E rfl (r_fa (o' := o + 3) (E.tmp rfl) fo_30_3_7 rfl) fun a E => wv E rfl (r_load (E.tmp rfl) ag_27_7 (r1k3.get H)) fun a E => ?_
   refine wv E rfl (r_len (E.tmp rfl) el_27_7) (fun a E => ?_)
   refine wv E rfl (r_bin (E.tmp rfl) (E.tmp rfl) (b_lss (b := false) (by simp; omega))) fun a E => ?_
   refine wpList_nil (then_n ?_)
   refine cond_f E rfl rfl ?_
   refine wp_exit (then_e (then_e (inb_ee (then_n (wp_seq ?_)))))
   revert E
   revert H
   subst hkn
   rw [List.take_length]
   intro H E
   have H : Tr.Inv w0 [] w [Gr (.slice A x.actors.length c) 119 5 x.actors.length (x.actors.flatMap GDequeActor.enc), Cel g2 [.int .i64 (0), .int .i64 (0), .slice none 0 0, .slice none 0 0, .slice none 0 0, .slice none 0 0] 30, Gr (.slice A5 x.buffer.length c6) 2 1 x.buffer.length (x.buffer.flatMap intE), Gr (.slice A8 x.taken.length c9) 36 2 x.taken.length (x.taken.flatMap GHanded.enc), Gr (.slice A10 x.refused.length c11) 2 1 x.refused.length (x.refused.flatMap intE), Cel g12 [.int .i64 (x.top), .int .i64 (x.bottom), .slice A5 x.buffer.length c6, .slice A x.actors.length c, .slice A8 x.taken.length c9, .slice A10 x.refused.length c11] 30] := H
   refine wp_region_lit ?_
   refine wv E rfl (r_loads (us := [.int .i64 (x.top), .int .i64 (x.bottom), .slice A5 x.buffer.length c6, .slice A x.actors.length c, .slice A8 x.taken.length c9, .slice A10 x.refused.length c11]) (E.tmp rfl) ag_30_7 sz_30_7 (H.cellsAt 5 rfl)) fun a E => ?_
   refine w_stores (us := [.int .i64 (x.top), .int .i64 (x.bottom), .slice A5 x.buffer.length c6, .slice A x.actors.length c, .slice A8 x.taken.length c9, .slice A10 x.refused.length c11]) (cs' := [.int .i64 (x.top), .int .i64 (x.bottom), .slice A5 x.buffer.length c6, .slice A x.actors.length c, .slice A8 x.taken.length c9, .slice A10 x.refused.length c11]) (rs' := [_, Cel _ [.int .i64 (x.top), .int .i64 (x.bottom), .slice A5 x.buffer.length c6, .slice A x.actors.length c, .slice A8 x.taken.length c9, .slice A10 x.refused.length c11] _, _, _, _, _]) E (E.tmp rfl) (E.tmp rfl) rfl sz_30_7 H (i := 1) rfl rfl rfl rfl (fun a w E H => ?_)
   refine wpList_nil (then_n (wp_ret ?_))
   refine post1 E rfl (out_c (us := [.int .i64 (x.top), .int .i64 (x.bottom), .slice A5 x.buffer.length c6, .slice A x.actors.length c, .slice A8 x.taken.length c9, .slice A10 x.refused.length c11]) E rfl ag_30_7 sz_30_7 (H.cellsAt 1 rfl)) ?_
   have H := H.front 4 rfl
   have H := H.front 4 rfl
   have H := H.front 2 rfl
   have H := H.front 4 rfl
   have H := H.drop 4 rfl
   have H := H.drop 4 rfl
   exact ⟨_, _, _, _, _, _, _, _, rfl, H⟩
end Go.Proofs.Ythelpioccjjgfaa
