/- Deques. Printed by gx_dq.py. -/
import Derived.Test.YthelpioccjjgfaaProg
import Derived.Test.YthelpioccjjgfaaSc
import Derived.Test.YthelpioccjjgfaaDDq
import Derived.Test.YthelpioccjjgfaaArith
import Derived.IntWalk
import Derived.Test.YthelpioccjjgfaaDq3
set_option linter.unusedSimpArgs false
set_option linter.unusedVariables false
namespace Go.Proofs.Ythelpioccjjgfaa
open Go Go.RowKit Go.Proofs Go.Tr
theorem fo_119_1_4 : fldOff Try.prog 119 1 = some 1 := by kernel_rfl
theorem ag_2_4 : aggB Try.prog 2 = some false := by kernel_rfl
theorem fo_30_0_4 : fldOff Try.prog 30 0 = some 0 := by kernel_rfl
theorem fo_119_2_4 : fldOff Try.prog 119 2 = some 2 := by kernel_rfl
theorem ok_253_4 : callOk Try.prog 253 = true := by kernel_rfl
theorem sz_2_4 : (Try.prog.info? 2).map (·.size) = some 1 := by kernel_rfl
theorem fo_119_4_4 : fldOff Try.prog 119 4 = some 4 := by kernel_rfl
theorem ok_255_4 : callOk Try.prog 255 = true := by kernel_rfl
theorem fo_30_2_4 : fldOff Try.prog 30 2 = some 2 := by kernel_rfl
theorem ag_24_4 : aggB Try.prog 24 = some false := by kernel_rfl
theorem ok_254_4 : callOk Try.prog 254 = true := by kernel_rfl
theorem el_24_4 : elemOf? Try.prog 24 = some (2, 1) := by kernel_rfl
theorem fo_30_1_4 : fldOff Try.prog 30 1 = some 1 := by kernel_rfl
theorem fo_119_3_4 : fldOff Try.prog 119 3 = some 3 := by kernel_rfl
theorem fo_30_4_4 : fldOff Try.prog 30 4 = some 4 := by kernel_rfl
theorem ag_28_4 : aggB Try.prog 28 = some false := by kernel_rfl
theorem el_28_4 : elemOf? Try.prog 28 = some (36, 2) := by kernel_rfl
theorem fo_30_5_4 : fldOff Try.prog 30 5 = some 5 := by kernel_rfl
set_option maxHeartbeats 1000000 in
theorem l23Steal_q (y : GDeque) (dd bb cB cT cR : Nat) (AT AR : Option Addr) (rb cA m k tb to ct : Nat) (n0 : Int) (tl : List Int) (pc t b x : Int) (d1 d2 : List D) (z : GDeque) (v : GDequeActor) (ac : Int) (w0 : World) {F : List Nat} (hS : Sep w0 [Cel dd [.int .i64 (y.top), .int .i64 (y.bottom), .slice (some ⟨bb, 0, none⟩) y.buffer.length cB, .slice (some ⟨rb, 0, none⟩) m cA, .slice AT y.taken.length cT, .slice AR y.refused.length cR] 30, Gr (.slice (some ⟨bb, 0, none⟩) y.buffer.length cB) 2 1 y.buffer.length (y.buffer.flatMap intE), Opn rb cA 119 5 m (d1) [.slice (some ⟨tb, to, none⟩) (tl.length + 1) ct, .int .i64 (pc), .int .i64 (t), .int .i64 (b), .int .i64 (x)] (d2), Dat (.slice (some ⟨tb, to, none⟩) (tl.length + 1) ct) (tl.length + 1) ((n0 :: tl).flatMap intE), Gr (.slice AT y.taken.length cT) 36 2 y.taken.length (y.taken.flatMap GHanded.enc), Gr (.slice AR y.refused.length cR) 2 1 y.refused.length (y.refused.flatMap intE)] F) (hd1 : d1.length = k * 5) (hl : tl.length ≤ 1000) (hb0 : 0 < y.buffer.length) (hb1 : y.buffer.length ≤ 1000) (ht1 : y.taken.length ≤ 100000) (hr1 : y.refused.length ≤ 100000) (hz : (z, v) = stealS y ⟨n0 :: tl, pc, t, b, x⟩ ac) (hpc : pc = 0 ∨ pc = 1 ∨ pc = 2 ∨ pc = 3) : Calls Try.prog 209 #[.pointer (some ⟨dd, 0, none⟩), .pointer (some ⟨rb, k * 5, none⟩), .int .i64 (ac)] w0 fun e w' => ∃ AT' cT' AR' cR' At' ct', e = .returned (.tuple #[]) ∧ Tr.Inv w0 F w' [Cel dd [.int .i64 (z.top), .int .i64 (z.bottom), .slice (some ⟨bb, 0, none⟩) y.buffer.length cB, .slice (some ⟨rb, 0, none⟩) m cA, .slice AT' z.taken.length cT', .slice AR' z.refused.length cR'] 30, Gr (.slice (some ⟨bb, 0, none⟩) y.buffer.length cB) 2 1 y.buffer.length (z.buffer.flatMap intE), Opn rb cA 119 5 m (d1) [.slice At' v.todo.length ct', .int .i64 (v.pc), .int .i64 (v.t), .int .i64 (v.b), .int .i64 (v.x)] (d2), Dat (.slice At' v.todo.length ct') v.todo.length (v.todo.flatMap intE), Gr (.slice AT' z.taken.length cT') 36 2 z.taken.length (z.taken.flatMap GHanded.enc), Gr (.slice AR' z.refused.length cR') 2 1 z.refused.length (z.refused.flatMap intE)] := by
 refine enter_i (args := [.pointer (some ⟨dd, 0, none⟩), .pointer (some ⟨rb, k * 5, none⟩), .int .i64 (ac)]) Try.func209 rfl Try.ntmps209 rfl hS (fun a w E H => ?_)
 have E : Env 93 a [(0, .pointer (some ⟨dd, 0, none⟩)), (1, .pointer (some ⟨rb, k * 5, none⟩)), (2, .int .i64 (ac))] := E
 refine wp_seq (wp_region_lit ?_)
 refine vm E rfl rfl fun a E => wv E rfl (r_nil (E.tmp rfl)) fun a E => wv E rfl (r_fa (o' := k * 5 + 1) (E.tmp rfl) fo_119_1_4 rfl) fun a E => wv E rfl (r_load (E.tmp rfl) ag_2_4 (H.opn_cell 2 rfl hd1 (j := 1) rfl)) fun a E => ?_
 refine wpList_nil (then_n (wp_block (wp_seq (wp_region_lit ?_))))
 refine wv E rfl (r_bin (E.tmp rfl) (ev_c _) (b_eql (b := pc == 0) rfl)) fun a E => va E rfl rfl fun a E => ?_
 refine wpList_nil (then_n ?_)
 rcases bcase (pc == 0) with ts1 | ts1
 ·
  refine cond_f E rfl ts1 ?_
  refine wp_seq (wp_region_lit ?_)
  refine wv E rfl (r_bin (E.tmp rfl) (ev_c _) (b_eql (b := pc == 1) rfl)) fun a E => va E rfl rfl fun a E => ?_
  refine wpList_nil (then_n ?_)
  rcases bcase (pc == 1) with ts2 | ts2
  ·
   refine cond_f E rfl ts2 ?_
   refine wp_seq (wp_region_lit ?_)
   refine wv E rfl (r_bin (E.tmp rfl) (ev_c _) (b_eql (b := pc == 2) rfl)) fun a E => va E rfl rfl fun a E => ?_
   refine wpList_nil (then_n ?_)
   rcases bcase (pc == 2) with ts3 | ts3
   ·
    refine cond_f E rfl ts3 ?_
    refine wp_seq ?_
    have h2 : (pc == 3) = true := by have hts1 := ts1; have hts2 := ts2; have hts3 := ts3; simp at hts1 hts2 hts3 ⊢; omega
    refine wp_region_lit ?_
    refine wv E rfl (r_bin (E.tmp rfl) (ev_c _) (b_eql (b := true) h2)) fun a E => va E rfl rfl fun a E => ?_
    refine wpList_nil (then_n ?_)
    refine cond_t E rfl rfl ?_
    refine wp_seq (wp_seq ?_)
    let fl13 : Flow := ⟨[.c (.pointer (some ⟨dd, 0, none⟩)), .c (.pointer (some ⟨dd, 0, none⟩)), .c (.pointer (some ⟨dd, 0, none⟩)), { dep := [], val := fun _ => .int .i64 (y.top), rd := [0] }, .c (.pointer (some ⟨rb, k * 5, none⟩)), .c (.pointer (some ⟨rb, k * 5, none⟩)), .c (.pointer (some ⟨rb, k * 5 + 2, none⟩)), { dep := [], val := fun _ => .int .i64 (t), rd := [2] }, .c (.bool (y.top == t))], [{ dep := [], res := fun _ => Cel dd [.int .i64 (y.top), .int .i64 (y.bottom), .slice (some ⟨bb, 0, none⟩) y.buffer.length cB, .slice (some ⟨rb, 0, none⟩) m cA, .slice AT y.taken.length cT, .slice AR y.refused.length cR] 30, prod := none, cons := none }, { dep := [], res := fun _ => Gr (.slice (some ⟨bb, 0, none⟩) y.buffer.length cB) 2 1 y.buffer.length (y.buffer.flatMap intE), prod := none, cons := none }, { dep := [], res := fun _ => Opn rb cA 119 5 m (d1) [.slice (some ⟨tb, to, none⟩) (tl.length + 1) ct, .int .i64 (pc), .int .i64 (t), .int .i64 (b), .int .i64 (x)] (d2), prod := none, cons := none }, { dep := [], res := fun _ => Dat (.slice (some ⟨tb, to, none⟩) (tl.length + 1) ct) (tl.length + 1) ((n0 :: tl).flatMap intE), prod := none, cons := none }, { dep := [], res := fun _ => Gr (.slice AT y.taken.length cT) 36 2 y.taken.length (y.taken.flatMap GHanded.enc), prod := none, cons := none }, { dep := [], res := fun _ => Gr (.slice AR y.refused.length cR) 2 1 y.refused.length (y.refused.flatMap intE), prod := none, cons := none }], [[], [0], [0, 1], [0, 1, 2], [], [4], [4, 5], [4, 5, 6], [0, 1, 2, 3, 4, 5, 6, 7]]⟩
    have E : Env 93 a [(0, .pointer (some ⟨dd, 0, none⟩)), (1, .pointer (some ⟨rb, k * 5, none⟩)), (2, .int .i64 (ac)), (6, .pointer (some ⟨rb, k * 5, none⟩)), (7, .pointer (some ⟨rb, k * 5, none⟩)), (8, .pointer (some ⟨rb, k * 5 + 1, none⟩)), (9, .int .i64 (pc)), (10, .bool (pc == 0)), (11, .bool (pc == 0)), (22, .bool (pc == 1)), (23, .bool (pc == 1)), (45, .bool (pc == 2)), (46, .bool (pc == 2)), (65, .bool (true)), (66, .bool (true))] := (Env.pick E (Env.pick E (Env.pick E (Env.pick E (Env.pick E (Env.pick E (Env.pick E (Env.pick E (Env.pick E (Env.pick E (Env.pick E (Env.pick E (Env.pick E (Env.pick E (Env.pick E E.nil rfl) rfl) rfl) rfl) rfl) rfl) rfl) rfl) rfl) rfl) rfl) rfl) rfl) rfl) rfl)
    refine wp_flow (rs := []) rfl fl13 E (by rw [List.append_nil]; exact H) 9 rfl (by kernel_rfl) ?_ ?_
    ·
     refine AllTo.snoc (AllTo.snoc (AllTo.snoc (AllTo.snoc (AllTo.snoc (AllTo.snoc (AllTo.snoc (AllTo.snoc (AllTo.snoc (AllTo.zero _) ?_) ?_) ?_) ?_) ?_) ?_) ?_) ?_) ?_
     ·
      refine ⟨_, _, _, rfl, rfl, rfl, fun ν a w rs E hk ht H => ?_⟩
      exact Gives.val rfl (r_move (E.tmp rfl)) ⟨trivial, rfl, H⟩
     ·
      refine ⟨_, _, _, rfl, rfl, rfl, fun ν a w rs E hk ht H => ?_⟩
      have E := Env.add (v := .pointer (some ⟨dd, 0, none⟩)) E (ht 0 (by decide) _ _ 67 rfl rfl rfl)
      exact Gives.val rfl (r_nil (E.tmp rfl)) ⟨trivial, rfl, H⟩
     ·
      refine ⟨_, _, _, rfl, rfl, rfl, fun ν a w rs E hk ht H => ?_⟩
      have E := Env.add (v := .pointer (some ⟨dd, 0, none⟩)) E (ht 1 (by decide) _ _ 68 rfl rfl rfl)
      exact Gives.val rfl (r_fa (o' := 0) (E.tmp rfl) fo_30_0_4 rfl) ⟨trivial, rfl, H⟩
     ·
      refine ⟨_, _, _, rfl, rfl, rfl, fun ν a w rs E hk ht H => ?_⟩
      have E := Env.add (v := .pointer (some ⟨dd, 0, none⟩)) E (ht 2 (by decide) _ _ 69 rfl rfl rfl)
      have H : Tr.Inv w0 F w ([Cel dd [.int .i64 (y.top), .int .i64 (y.bottom), .slice (some ⟨bb, 0, none⟩) y.buffer.length cB, .slice (some ⟨rb, 0, none⟩) m cA, .slice AT y.taken.length cT, .slice AR y.refused.length cR] 30] ++ ([] ++ rs)) := H
      exact Gives.val rfl (r_load (E.tmp rfl) ag_2_4 (H.cell 0 rfl rfl)) ⟨trivial, rfl, H⟩
     ·
      refine ⟨_, _, _, rfl, rfl, rfl, fun ν a w rs E hk ht H => ?_⟩
      exact Gives.val rfl (r_move (E.tmp rfl)) ⟨trivial, rfl, H⟩
     ·
      refine ⟨_, _, _, rfl, rfl, rfl, fun ν a w rs E hk ht H => ?_⟩
      have E := Env.add (v := .pointer (some ⟨rb, k * 5, none⟩)) E (ht 4 (by decide) _ _ 71 rfl rfl rfl)
      exact Gives.val rfl (r_nil (E.tmp rfl)) ⟨trivial, rfl, H⟩
     ·
      refine ⟨_, _, _, rfl, rfl, rfl, fun ν a w rs E hk ht H => ?_⟩
      have E := Env.add (v := .pointer (some ⟨rb, k * 5, none⟩)) E (ht 5 (by decide) _ _ 72 rfl rfl rfl)
      exact Gives.val rfl (r_fa (o' := k * 5 + 2) (E.tmp rfl) fo_119_2_4 rfl) ⟨trivial, rfl, H⟩
     ·
      refine ⟨_, _, _, rfl, rfl, rfl, fun ν a w rs E hk ht H => ?_⟩
      have E := Env.add (v := .pointer (some ⟨rb, k * 5 + 2, none⟩)) E (ht 6 (by decide) _ _ 73 rfl rfl rfl)
      have H : Tr.Inv w0 F w ([Opn rb cA 119 5 m (d1) [.slice (some ⟨tb, to, none⟩) (tl.length + 1) ct, .int .i64 (pc), .int .i64 (t), .int .i64 (b), .int .i64 (x)] (d2)] ++ ([] ++ rs)) := H
      exact Gives.val rfl (r_load (E.tmp rfl) ag_2_4 (H.opn_cell 0 rfl hd1 (j := 2) rfl)) ⟨trivial, rfl, H⟩
     ·
      refine ⟨_, _, _, rfl, rfl, rfl, fun ν a w rs E hk ht H => ?_⟩
      have E := Env.add (v := .int .i64 (y.top)) E (ht 3 (by decide) _ _ 70 rfl rfl rfl)
      have E := Env.add (v := .int .i64 (t)) E (ht 7 (by decide) _ _ 74 rfl rfl rfl)
      exact Gives.val rfl (r_bin (E.tmp rfl) (E.tmp rfl) (b_eql (b := y.top == t) rfl)) ⟨trivial, rfl, H⟩
    ·
     refine fun ν a w E hk ht H => ?_
     have E := Env.add E (show a.tmps[75]? = some (.bool (y.top == t)) from ht 8 _ _ 75 rfl rfl rfl)
     have H : Tr.Inv w0 F w [Cel dd [.int .i64 (y.top), .int .i64 (y.bottom), .slice (some ⟨bb, 0, none⟩) y.buffer.length cB, .slice (some ⟨rb, 0, none⟩) m cA, .slice AT y.taken.length cT, .slice AR y.refused.length cR] 30, Gr (.slice (some ⟨bb, 0, none⟩) y.buffer.length cB) 2 1 y.buffer.length (y.buffer.flatMap intE), Opn rb cA 119 5 m (d1) [.slice (some ⟨tb, to, none⟩) (tl.length + 1) ct, .int .i64 (pc), .int .i64 (t), .int .i64 (b), .int .i64 (x)] (d2), Dat (.slice (some ⟨tb, to, none⟩) (tl.length + 1) ct) (tl.length + 1) ((n0 :: tl).flatMap intE), Gr (.slice AT y.taken.length cT) 36 2 y.taken.length (y.taken.flatMap GHanded.enc), Gr (.slice AR y.refused.length cR) 2 1 y.refused.length (y.refused.flatMap intE)] := H
     have E : Env 93 a [(0, .pointer (some ⟨dd, 0, none⟩)), (1, .pointer (some ⟨rb, k * 5, none⟩)), (2, .int .i64 (ac)), (6, .pointer (some ⟨rb, k * 5, none⟩)), (7, .pointer (some ⟨rb, k * 5, none⟩)), (8, .pointer (some ⟨rb, k * 5 + 1, none⟩)), (9, .int .i64 (pc)), (10, .bool (pc == 0)), (11, .bool (pc == 0)), (22, .bool (pc == 1)), (23, .bool (pc == 1)), (45, .bool (pc == 2)), (46, .bool (pc == 2)), (65, .bool (true)), (66, .bool (true)), (75, .bool (y.top == t))] := (Env.pick E (Env.pick E (Env.pick E (Env.pick E (Env.pick E (Env.pick E (Env.pick E (Env.pick E (Env.pick E (Env.pick E (Env.pick E (Env.pick E (Env.pick E (Env.pick E (Env.pick E (Env.pick E E.nil rfl) rfl) rfl) rfl) rfl) rfl) rfl) rfl) rfl) rfl) rfl) rfl) rfl) rfl) rfl) rfl)
     clear hk ht
     refine then_n ?_
     rcases bcase (y.top == t) with ts4 | ts4
     ·
      refine cond_f E rfl ts4 ?_
      refine wp_skip (then_n (wp_region_lit ?_))
      refine vm E rfl rfl fun a E => ?_
      have H := H.front 3 rfl
      have H := H.front 3 rfl
      obtain ⟨q5F, q5S, q5I, q5b⟩ := Tr.Inv.frame (pre := [Opn rb cA 119 5 m (d1) [.slice (some ⟨tb, to, none⟩) (tl.length + 1) ct, .int .i64 (pc), .int .i64 (t), .int .i64 (b), .int .i64 (x)] (d2), Dat (.slice (some ⟨tb, to, none⟩) (tl.length + 1) ct) (tl.length + 1) ((n0 :: tl).flatMap intE)]) (rest := [Cel dd [.int .i64 (y.top), .int .i64 (y.bottom), .slice (some ⟨bb, 0, none⟩) y.buffer.length cB, .slice (some ⟨rb, 0, none⟩) m cA, .slice AT y.taken.length cT, .slice AR y.refused.length cR] 30, Gr (.slice (some ⟨bb, 0, none⟩) y.buffer.length cB) 2 1 y.buffer.length (y.buffer.flatMap intE), Gr (.slice AT y.taken.length cT) 36 2 y.taken.length (y.taken.flatMap GHanded.enc), Gr (.slice AR y.refused.length cR) 2 1 y.refused.length (y.refused.flatMap intE)]) H
      refine w_call E rfl (ev_cons (E.tmp rfl) (ev_nil)) ok_253_4 (l23End_q rb cA m k tb to ct n0 tl pc t b x d1 d2 w q5S hd1 hl) ?_
      rintro _ w ⟨q5A, q5c, rfl, hI⟩
      refine ⟨_, rfl, fun a E => ?_⟩
      have H := q5b _ _ hI
      clear hI q5S q5I q5b
      have H : Tr.Inv w0 F w [Opn rb cA 119 5 m (d1) [.slice q5A tl.length q5c, .int .i64 (0), .int .i64 (0), .int .i64 (0), .int .i64 (0)] (d2), Dat (.slice q5A tl.length q5c) tl.length (tl.flatMap intE), Cel dd [.int .i64 (y.top), .int .i64 (y.bottom), .slice (some ⟨bb, 0, none⟩) y.buffer.length cB, .slice (some ⟨rb, 0, none⟩) m cA, .slice AT y.taken.length cT, .slice AR y.refused.length cR] 30, Gr (.slice (some ⟨bb, 0, none⟩) y.buffer.length cB) 2 1 y.buffer.length (y.buffer.flatMap intE), Gr (.slice AT y.taken.length cT) 36 2 y.taken.length (y.taken.flatMap GHanded.enc), Gr (.slice AR y.refused.length cR) 2 1 y.refused.length (y.refused.flatMap intE)] := H
      refine wpList_nil (inb_n ?_)
      refine (post0 E rfl ?_).2
      have H := H.front 5 rfl
      have H := H.front 5 rfl
      have H := H.front 3 rfl
      have H := H.front 3 rfl
      have H := H.front 5 rfl
      have H := H.front 5 rfl
      simp only [stealS, endA, bufAt, Option.getD_some, Int.toNat_natCast, List.headD_cons, List.tail_cons, ts1, ts2, ts3, h2, ts4, B1, B2, B3, B4, B5, B6, B7, B8, B9, B10, B11, B12, B13, B14] at hz
      obtain ⟨rfl, rfl⟩ := Prod.mk.inj hz
      exact ⟨_, _, _, _, _, _, rfl, H⟩
     refine cond_t E rfl ts4 ?_
     refine wp_seq (wp_region_lit ?_)
     refine vm E rfl rfl fun a E => vm E rfl rfl fun a E => wv E rfl (r_nil (E.tmp rfl)) fun a E => wv E rfl (r_fa (o' := k * 5 + 2) (E.tmp rfl) fo_119_2_4 rfl) fun a E => wv E rfl (r_load (E.tmp rfl) ag_2_4 (H.opn_cell 2 rfl hd1 (j := 2) rfl)) fun a E => ?_
     refine wv E rfl (r_bin (E.tmp rfl) (ev_c _) (b_add rfl)) fun a E => wv E rfl (r_nil (E.tmp rfl)) fun a E => wv E rfl (r_fa (o' := 0) (E.tmp rfl) fo_30_0_4 rfl) fun a E => ?_
     refine w_store (cs' := [.int .i64 (IntKind.i64.wrap (t + 1)), _, _, _, _, _]) (rs' := [Cel _ [.int .i64 (IntKind.i64.wrap (t + 1)), _, _, _, _, _] _, _, _, _, _, _]) E (E.tmp rfl) (E.tmp rfl) rfl rfl sz_2_4 H (i := 0) rfl rfl rfl rfl (fun a w E H => ?_)
     refine wpList_nil (then_n (wp_region_lit ?_))
     refine vm E rfl rfl fun a E => vm E rfl rfl fun a E => vm E rfl rfl fun a E => wv E rfl (r_nil (E.tmp rfl)) fun a E => wv E rfl (r_fa (o' := k * 5 + 4) (E.tmp rfl) fo_119_4_4 rfl) fun a E => ?_
     refine wv E rfl (r_load (E.tmp rfl) ag_2_4 (H.opn_cell 2 rfl hd1 (j := 4) rfl)) fun a E => ?_
     have H := H.front 4 rfl
     have H := H.front 1 rfl
     obtain ⟨q6F, q6S, q6I, q6b⟩ := Tr.Inv.frame (pre := [Cel dd [.int .i64 (IntKind.i64.wrap (t + 1)), .int .i64 (y.bottom), .slice (some ⟨bb, 0, none⟩) y.buffer.length cB, .slice (some ⟨rb, 0, none⟩) m cA, .slice AT y.taken.length cT, .slice AR y.refused.length cR] 30, Gr (.slice AT y.taken.length cT) 36 2 y.taken.length (y.taken.flatMap GHanded.enc)]) (rest := [Gr (.slice (some ⟨bb, 0, none⟩) y.buffer.length cB) 2 1 y.buffer.length (y.buffer.flatMap intE), Opn rb cA 119 5 m (d1) [.slice (some ⟨tb, to, none⟩) (tl.length + 1) ct, .int .i64 (pc), .int .i64 (t), .int .i64 (b), .int .i64 (x)] (d2), Dat (.slice (some ⟨tb, to, none⟩) (tl.length + 1) ct) (tl.length + 1) ((n0 :: tl).flatMap intE), Gr (.slice AR y.refused.length cR) 2 1 y.refused.length (y.refused.flatMap intE)]) H
     refine w_call E rfl (ev_cons (E.tmp rfl) (ev_cons (E.tmp rfl) (ev_cons (E.tmp rfl) (ev_nil)))) ok_255_4 (l23Hand_q dd y.taken.length cT AT (.int .i64 (IntKind.i64.wrap (t + 1))) (.int .i64 (y.bottom)) (.slice (some ⟨bb, 0, none⟩) y.buffer.length cB) (.slice (some ⟨rb, 0, none⟩) m cA) (.slice AR y.refused.length cR) (y.taken.flatMap GHanded.enc) ac x w q6S (by omega)) ?_
     rintro _ w ⟨q6A, q6c, rfl, hI⟩
     refine ⟨_, rfl, fun a E => ?_⟩
     have H := q6b _ _ hI
     clear hI q6S q6I q6b
     have e1 : y.taken.flatMap GHanded.enc ++ [D.v (.int .i64 (ac)), D.v (.int .i64 (x))] = (y.taken ++ [GHanded.mk ac x]).flatMap GHanded.enc := by simp [GHanded.enc]
     have e2 : y.taken.length + 1 = (y.taken ++ [GHanded.mk ac x]).length := by simp
     rw [e1, e2] at H
     have H : Tr.Inv w0 F w [Gr (.slice q6A ((y.taken ++ [GHanded.mk ac x]).length) q6c) 36 2 ((y.taken ++ [GHanded.mk ac x]).length) ((y.taken ++ [GHanded.mk ac x]).flatMap GHanded.enc), Cel dd [.int .i64 (IntKind.i64.wrap (t + 1)), .int .i64 (y.bottom), .slice (some ⟨bb, 0, none⟩) y.buffer.length cB, .slice (some ⟨rb, 0, none⟩) m cA, .slice q6A ((y.taken ++ [GHanded.mk ac x]).length) q6c, .slice AR y.refused.length cR] 30, Gr (.slice (some ⟨bb, 0, none⟩) y.buffer.length cB) 2 1 y.buffer.length (y.buffer.flatMap intE), Opn rb cA 119 5 m (d1) [.slice (some ⟨tb, to, none⟩) (tl.length + 1) ct, .int .i64 (pc), .int .i64 (t), .int .i64 (b), .int .i64 (x)] (d2), Dat (.slice (some ⟨tb, to, none⟩) (tl.length + 1) ct) (tl.length + 1) ((n0 :: tl).flatMap intE), Gr (.slice AR y.refused.length cR) 2 1 y.refused.length (y.refused.flatMap intE)] := H
     refine wpList_nil (then_n (wp_region_lit ?_))
     refine vm E rfl rfl fun a E => ?_
     have H := H.front 4 rfl
     have H := H.front 4 rfl
     obtain ⟨q7F, q7S, q7I, q7b⟩ := Tr.Inv.frame (pre := [Opn rb cA 119 5 m (d1) [.slice (some ⟨tb, to, none⟩) (tl.length + 1) ct, .int .i64 (pc), .int .i64 (t), .int .i64 (b), .int .i64 (x)] (d2), Dat (.slice (some ⟨tb, to, none⟩) (tl.length + 1) ct) (tl.length + 1) ((n0 :: tl).flatMap intE)]) (rest := [Gr (.slice q6A ((y.taken ++ [GHanded.mk ac x]).length) q6c) 36 2 ((y.taken ++ [GHanded.mk ac x]).length) ((y.taken ++ [GHanded.mk ac x]).flatMap GHanded.enc), Cel dd [.int .i64 (IntKind.i64.wrap (t + 1)), .int .i64 (y.bottom), .slice (some ⟨bb, 0, none⟩) y.buffer.length cB, .slice (some ⟨rb, 0, none⟩) m cA, .slice q6A ((y.taken ++ [GHanded.mk ac x]).length) q6c, .slice AR y.refused.length cR] 30, Gr (.slice (some ⟨bb, 0, none⟩) y.buffer.length cB) 2 1 y.buffer.length (y.buffer.flatMap intE), Gr (.slice AR y.refused.length cR) 2 1 y.refused.length (y.refused.flatMap intE)]) H
     refine w_call E rfl (ev_cons (E.tmp rfl) (ev_nil)) ok_253_4 (l23End_q rb cA m k tb to ct n0 tl pc t b x d1 d2 w q7S hd1 hl) ?_
     rintro _ w ⟨q7A, q7c, rfl, hI⟩
     refine ⟨_, rfl, fun a E => ?_⟩
     have H := q7b _ _ hI
     clear hI q7S q7I q7b
     have H : Tr.Inv w0 F w [Opn rb cA 119 5 m (d1) [.slice q7A tl.length q7c, .int .i64 (0), .int .i64 (0), .int .i64 (0), .int .i64 (0)] (d2), Dat (.slice q7A tl.length q7c) tl.length (tl.flatMap intE), Gr (.slice q6A ((y.taken ++ [GHanded.mk ac x]).length) q6c) 36 2 ((y.taken ++ [GHanded.mk ac x]).length) ((y.taken ++ [GHanded.mk ac x]).flatMap GHanded.enc), Cel dd [.int .i64 (IntKind.i64.wrap (t + 1)), .int .i64 (y.bottom), .slice (some ⟨bb, 0, none⟩) y.buffer.length cB, .slice (some ⟨rb, 0, none⟩) m cA, .slice q6A ((y.taken ++ [GHanded.mk ac x]).length) q6c, .slice AR y.refused.length cR] 30, Gr (.slice (some ⟨bb, 0, none⟩) y.buffer.length cB) 2 1 y.buffer.length (y.buffer.flatMap intE), Gr (.slice AR y.refused.length cR) 2 1 y.refused.length (y.refused.flatMap intE)] := H
     refine wpList_nil (inb_n ?_)
     refine (post0 E rfl ?_).2
     have H := H.front 5 rfl
     have H := H.front 3 rfl
     have H := H.front 3 rfl
     have H := H.front 3 rfl
     have H := H.front 5 rfl
     have H := H.front 5 rfl
     simp only [stealS, endA, bufAt, Option.getD_some, Int.toNat_natCast, List.headD_cons, List.tail_cons, ts1, ts2, ts3, h2, ts4, B1, B2, B3, B4, B5, B6, B7, B8, B9, B10, B11, B12, B13, B14] at hz
     obtain ⟨rfl, rfl⟩ := Prod.mk.inj hz
     exact ⟨_, _, _, _, _, _, rfl, H⟩
   refine cond_t E rfl ts3 ?_
   refine wp_seq ?_
   obtain ⟨kk, hkk, hkl⟩ := at_nat t hb0 hb1
   have H := H.front 1 rfl
   obtain ⟨old, u8u, hold, H⟩ := H.openL (f := intE) (s := 1) (fun _ => rfl) rfl hkl
   obtain ⟨u8v, rfl, H⟩ := (H.front 1 rfl).dn_v
   obtain ⟨rfl, H⟩ := H.dn_e
   have H : Tr.Inv w0 F w [Opn bb cB 2 1 y.buffer.length ((y.buffer.take kk).flatMap intE) [.int .i64 (old)] ((y.buffer.drop (kk + 1)).flatMap intE), Cel dd [.int .i64 (y.top), .int .i64 (y.bottom), .slice (some ⟨bb, 0, none⟩) y.buffer.length cB, .slice (some ⟨rb, 0, none⟩) m cA, .slice AT y.taken.length cT, .slice AR y.refused.length cR] 30, Opn rb cA 119 5 m (d1) [.slice (some ⟨tb, to, none⟩) (tl.length + 1) ct, .int .i64 (pc), .int .i64 (t), .int .i64 (b), .int .i64 (x)] (d2), Dat (.slice (some ⟨tb, to, none⟩) (tl.length + 1) ct) (tl.length + 1) ((n0 :: tl).flatMap intE), Gr (.slice AT y.taken.length cT) 36 2 y.taken.length (y.taken.flatMap GHanded.enc), Gr (.slice AR y.refused.length cR) 2 1 y.refused.length (y.refused.flatMap intE)] := H
   let fl10 : Flow := ⟨[.c (.pointer (some ⟨rb, k * 5, none⟩)), .c (.pointer (some ⟨dd, 0, none⟩)), .c (.pointer (some ⟨dd, 0, none⟩)), .c (.pointer (some ⟨dd, 2, none⟩)), { dep := [], val := fun _ => .slice (some ⟨bb, 0, none⟩) y.buffer.length cB, rd := [1] }, .c (.pointer (some ⟨dd, 0, none⟩)), .c (.pointer (some ⟨rb, k * 5, none⟩)), .c (.pointer (some ⟨rb, k * 5, none⟩)), .c (.pointer (some ⟨rb, k * 5 + 2, none⟩)), { dep := [], val := fun _ => .int .i64 (t), rd := [2] }, { dep := [], val := fun _ => .int .i64 (((kk : Nat) : Int)), rd := [1] }, .c (.pointer (some ⟨bb, kk * 1, none⟩)), { dep := [], val := fun _ => .int .i64 (old), rd := [0] }, .c (.pointer (some ⟨rb, k * 5, none⟩)), .c (.pointer (some ⟨rb, k * 5 + 4, none⟩)), .c (undef)], [{ dep := [], res := fun _ => Opn bb cB 2 1 y.buffer.length ((y.buffer.take kk).flatMap intE) [.int .i64 (old)] ((y.buffer.drop (kk + 1)).flatMap intE), prod := none, cons := none }, { dep := [], res := fun _ => Cel dd [.int .i64 (y.top), .int .i64 (y.bottom), .slice (some ⟨bb, 0, none⟩) y.buffer.length cB, .slice (some ⟨rb, 0, none⟩) m cA, .slice AT y.taken.length cT, .slice AR y.refused.length cR] 30, prod := none, cons := none }, { dep := [], res := fun _ => Opn rb cA 119 5 m (d1) [.slice (some ⟨tb, to, none⟩) (tl.length + 1) ct, .int .i64 (pc), .int .i64 (t), .int .i64 (b), .int .i64 (x)] (d2), prod := none, cons := some 15 }, { dep := [], res := fun _ => Dat (.slice (some ⟨tb, to, none⟩) (tl.length + 1) ct) (tl.length + 1) ((n0 :: tl).flatMap intE), prod := none, cons := none }, { dep := [], res := fun _ => Gr (.slice AT y.taken.length cT) 36 2 y.taken.length (y.taken.flatMap GHanded.enc), prod := none, cons := none }, { dep := [], res := fun _ => Gr (.slice AR y.refused.length cR) 2 1 y.refused.length (y.refused.flatMap intE), prod := none, cons := none }, { dep := [], res := fun _ => Opn rb cA 119 5 m (d1) [.slice (some ⟨tb, to, none⟩) (tl.length + 1) ct, .int .i64 (pc), .int .i64 (t), .int .i64 (b), .int .i64 (old)] (d2), prod := some 15, cons := none }], [[], [], [1], [1, 2], [1, 2, 3], [], [], [6], [6, 7], [6, 7, 8], [5, 6, 7, 8, 9], [1, 2, 3, 4, 5, 6, 7, 8, 9, 10], [1, 2, 3, 4, 5, 6, 7, 8, 9, 10, 11], [0, 1, 2, 3, 4, 5, 6, 7, 8, 9, 10, 11, 12], [0, 1, 2, 3, 4, 5, 6, 7, 8, 9, 10, 11, 12, 13], [0, 1, 2, 3, 4, 5, 6, 7, 8, 9, 10, 11, 12, 13, 14]]⟩
   have E : Env 93 a [(0, .pointer (some ⟨dd, 0, none⟩)), (1, .pointer (some ⟨rb, k * 5, none⟩)), (2, .int .i64 (ac)), (6, .pointer (some ⟨rb, k * 5, none⟩)), (7, .pointer (some ⟨rb, k * 5, none⟩)), (8, .pointer (some ⟨rb, k * 5 + 1, none⟩)), (9, .int .i64 (pc)), (10, .bool (pc == 0)), (11, .bool (pc == 0)), (22, .bool (pc == 1)), (23, .bool (pc == 1)), (45, .bool (pc == 2)), (46, .bool (pc == 2))] := (Env.pick E (Env.pick E (Env.pick E (Env.pick E (Env.pick E (Env.pick E (Env.pick E (Env.pick E (Env.pick E (Env.pick E (Env.pick E (Env.pick E (Env.pick E E.nil rfl) rfl) rfl) rfl) rfl) rfl) rfl) rfl) rfl) rfl) rfl) rfl) rfl)
   refine wp_flow (rs := []) rfl fl10 E (by rw [List.append_nil]; exact H) 16 rfl (by kernel_rfl) ?_ ?_
   ·
    refine AllTo.snoc (AllTo.snoc (AllTo.snoc (AllTo.snoc (AllTo.snoc (AllTo.snoc (AllTo.snoc (AllTo.snoc (AllTo.snoc (AllTo.snoc (AllTo.snoc (AllTo.snoc (AllTo.snoc (AllTo.snoc (AllTo.snoc (AllTo.snoc (AllTo.zero _) ?_) ?_) ?_) ?_) ?_) ?_) ?_) ?_) ?_) ?_) ?_) ?_) ?_) ?_) ?_) ?_
    ·
     refine ⟨_, _, _, rfl, rfl, rfl, fun ν a w rs E hk ht H => ?_⟩
     exact Gives.val rfl (r_move (E.tmp rfl)) ⟨trivial, rfl, H⟩
    ·
     refine ⟨_, _, _, rfl, rfl, rfl, fun ν a w rs E hk ht H => ?_⟩
     exact Gives.val rfl (r_move (E.tmp rfl)) ⟨trivial, rfl, H⟩
    ·
     refine ⟨_, _, _, rfl, rfl, rfl, fun ν a w rs E hk ht H => ?_⟩
     have E := Env.add (v := .pointer (some ⟨dd, 0, none⟩)) E (ht 1 (by decide) _ _ 48 rfl rfl rfl)
     exact Gives.val rfl (r_nil (E.tmp rfl)) ⟨trivial, rfl, H⟩
    ·
     refine ⟨_, _, _, rfl, rfl, rfl, fun ν a w rs E hk ht H => ?_⟩
     have E := Env.add (v := .pointer (some ⟨dd, 0, none⟩)) E (ht 2 (by decide) _ _ 49 rfl rfl rfl)
     exact Gives.val rfl (r_fa (o' := 2) (E.tmp rfl) fo_30_2_4 rfl) ⟨trivial, rfl, H⟩
    ·
     refine ⟨_, _, _, rfl, rfl, rfl, fun ν a w rs E hk ht H => ?_⟩
     have E := Env.add (v := .pointer (some ⟨dd, 2, none⟩)) E (ht 3 (by decide) _ _ 50 rfl rfl rfl)
     have H : Tr.Inv w0 F w ([Cel dd [.int .i64 (y.top), .int .i64 (y.bottom), .slice (some ⟨bb, 0, none⟩) y.buffer.length cB, .slice (some ⟨rb, 0, none⟩) m cA, .slice AT y.taken.length cT, .slice AR y.refused.length cR] 30] ++ ([] ++ rs)) := H
     exact Gives.val rfl (r_load (E.tmp rfl) ag_24_4 (H.cell 0 rfl rfl)) ⟨trivial, rfl, H⟩
    ·
     refine ⟨_, _, _, rfl, rfl, rfl, fun ν a w rs E hk ht H => ?_⟩
     exact Gives.val rfl (r_move (E.tmp rfl)) ⟨trivial, rfl, H⟩
    ·
     refine ⟨_, _, _, rfl, rfl, rfl, fun ν a w rs E hk ht H => ?_⟩
     exact Gives.val rfl (r_move (E.tmp rfl)) ⟨trivial, rfl, H⟩
    ·
     refine ⟨_, _, _, rfl, rfl, rfl, fun ν a w rs E hk ht H => ?_⟩
     have E := Env.add (v := .pointer (some ⟨rb, k * 5, none⟩)) E (ht 6 (by decide) _ _ 53 rfl rfl rfl)
     exact Gives.val rfl (r_nil (E.tmp rfl)) ⟨trivial, rfl, H⟩
    ·
     refine ⟨_, _, _, rfl, rfl, rfl, fun ν a w rs E hk ht H => ?_⟩
     have E := Env.add (v := .pointer (some ⟨rb, k * 5, none⟩)) E (ht 7 (by decide) _ _ 54 rfl rfl rfl)
     exact Gives.val rfl (r_fa (o' := k * 5 + 2) (E.tmp rfl) fo_119_2_4 rfl) ⟨trivial, rfl, H⟩
    ·
     refine ⟨_, _, _, rfl, rfl, rfl, fun ν a w rs E hk ht H => ?_⟩
     have E := Env.add (v := .pointer (some ⟨rb, k * 5 + 2, none⟩)) E (ht 8 (by decide) _ _ 55 rfl rfl rfl)
     have H : Tr.Inv w0 F w ([Opn rb cA 119 5 m (d1) [.slice (some ⟨tb, to, none⟩) (tl.length + 1) ct, .int .i64 (pc), .int .i64 (t), .int .i64 (b), .int .i64 (x)] (d2)] ++ ([] ++ rs)) := H
     exact Gives.val rfl (r_load (E.tmp rfl) ag_2_4 (H.opn_cell 0 rfl hd1 (j := 2) rfl)) ⟨trivial, rfl, H⟩
    ·
     refine ⟨_, _, _, rfl, rfl, rfl, fun ν a w rs E hk ht H => ?_⟩
     have E := Env.add (v := .pointer (some ⟨dd, 0, none⟩)) E (ht 5 (by decide) _ _ 52 rfl rfl rfl)
     have E := Env.add (v := .int .i64 (t)) E (ht 9 (by decide) _ _ 56 rfl rfl rfl)
     have H : Tr.Inv w0 F w ([Cel dd [.int .i64 (y.top), .int .i64 (y.bottom), .slice (some ⟨bb, 0, none⟩) y.buffer.length cB, .slice (some ⟨rb, 0, none⟩) m cA, .slice AT y.taken.length cT, .slice AR y.refused.length cR] 30] ++ ([] ++ rs)) := H
     exact Gives.call (R := (fun e w' => e = .returned (.int .i64 (((kk : Nat) : Int))) ∧ Ext w w')) rfl (r_call (ev_cons (E.tmp rfl) (ev_cons (E.tmp rfl) (ev_nil))) ok_254_4) ((by rw [← hkk]; exact l23At_q dd y.buffer.length cB _ t w (H.roc 0 rfl rfl) hb0)) fun e w2 ⟨he, hb⟩ => ⟨_, he, trivial, rfl, H.ext hb⟩
    ·
     refine ⟨_, _, _, rfl, rfl, rfl, fun ν a w rs E hk ht H => ?_⟩
     have E := Env.add (v := .slice (some ⟨bb, 0, none⟩) y.buffer.length cB) E (ht 4 (by decide) _ _ 51 rfl rfl rfl)
     have E := Env.add (v := .int .i64 (((kk : Nat) : Int))) E (ht 10 (by decide) _ _ 57 rfl rfl rfl)
     exact Gives.val rfl (r_ia (k := kk) (o' := kk * 1) (E.tmp rfl) (E.tmp rfl) rfl el_24_4 (by omega) (Nat.zero_add _)) ⟨trivial, rfl, H⟩
    ·
     refine ⟨_, _, _, rfl, rfl, rfl, fun ν a w rs E hk ht H => ?_⟩
     have E := Env.add (v := .pointer (some ⟨bb, kk * 1, none⟩)) E (ht 11 (by decide) _ _ 58 rfl rfl rfl)
     have H : Tr.Inv w0 F w ([Opn bb cB 2 1 y.buffer.length ((y.buffer.take kk).flatMap intE) [.int .i64 (old)] ((y.buffer.drop (kk + 1)).flatMap intE)] ++ ([] ++ rs)) := H
     exact Gives.val rfl (r_load (E.tmp rfl) ag_2_4 (H.opn_cell 0 rfl (take_len intE 1 (fun _ => rfl) hkl) (j := 0) rfl)) ⟨trivial, rfl, H⟩
    ·
     refine ⟨_, _, _, rfl, rfl, rfl, fun ν a w rs E hk ht H => ?_⟩
     have E := Env.add (v := .pointer (some ⟨rb, k * 5, none⟩)) E (ht 0 (by decide) _ _ 47 rfl rfl rfl)
     exact Gives.val rfl (r_nil (E.tmp rfl)) ⟨trivial, rfl, H⟩
    ·
     refine ⟨_, _, _, rfl, rfl, rfl, fun ν a w rs E hk ht H => ?_⟩
     have E := Env.add (v := .pointer (some ⟨rb, k * 5, none⟩)) E (ht 13 (by decide) _ _ 60 rfl rfl rfl)
     exact Gives.val rfl (r_fa (o' := k * 5 + 4) (E.tmp rfl) fo_119_4_4 rfl) ⟨trivial, rfl, H⟩
    ·
     refine ⟨_, _, _, rfl, rfl, rfl, fun ν a w rs E hk ht H => ?_⟩
     have E := Env.add (v := .int .i64 (old)) E (ht 12 (by decide) _ _ 59 rfl rfl rfl)
     have E := Env.add (v := .pointer (some ⟨rb, k * 5 + 4, none⟩)) E (ht 14 (by decide) _ _ 61 rfl rfl rfl)
     have H : Tr.Inv w0 F w ([] ++ ([Opn rb cA 119 5 m (d1) [.slice (some ⟨tb, to, none⟩) (tl.length + 1) ct, .int .i64 (pc), .int .i64 (t), .int .i64 (b), .int .i64 (x)] (d2)] ++ rs)) := H
     exact Gives.skp rfl (r_ostore (vs := [.int .i64 (old)]) (j := 4) (E.tmp rfl) (E.tmp rfl) rfl rfl sz_2_4 H (i := 0) rfl hd1 rfl rfl) ⟨trivial, rfl, H.opn_put 0 rfl hd1 rfl rfl⟩
   ·
    refine fun ν a w E hk ht H => ?_
    have H : Tr.Inv w0 F w [Opn bb cB 2 1 y.buffer.length ((y.buffer.take kk).flatMap intE) [.int .i64 (old)] ((y.buffer.drop (kk + 1)).flatMap intE), Cel dd [.int .i64 (y.top), .int .i64 (y.bottom), .slice (some ⟨bb, 0, none⟩) y.buffer.length cB, .slice (some ⟨rb, 0, none⟩) m cA, .slice AT y.taken.length cT, .slice AR y.refused.length cR] 30, Dat (.slice (some ⟨tb, to, none⟩) (tl.length + 1) ct) (tl.length + 1) ((n0 :: tl).flatMap intE), Gr (.slice AT y.taken.length cT) 36 2 y.taken.length (y.taken.flatMap GHanded.enc), Gr (.slice AR y.refused.length cR) 2 1 y.refused.length (y.refused.flatMap intE), Opn rb cA 119 5 m (d1) [.slice (some ⟨tb, to, none⟩) (tl.length + 1) ct, .int .i64 (pc), .int .i64 (t), .int .i64 (b), .int .i64 (old)] (d2)] := H
    have E : Env 93 a [(0, .pointer (some ⟨dd, 0, none⟩)), (1, .pointer (some ⟨rb, k * 5, none⟩)), (2, .int .i64 (ac)), (6, .pointer (some ⟨rb, k * 5, none⟩)), (7, .pointer (some ⟨rb, k * 5, none⟩)), (8, .pointer (some ⟨rb, k * 5 + 1, none⟩)), (9, .int .i64 (pc)), (10, .bool (pc == 0)), (11, .bool (pc == 0)), (22, .bool (pc == 1)), (23, .bool (pc == 1)), (45, .bool (pc == 2)), (46, .bool (pc == 2))] := (Env.pick E (Env.pick E (Env.pick E (Env.pick E (Env.pick E (Env.pick E (Env.pick E (Env.pick E (Env.pick E (Env.pick E (Env.pick E (Env.pick E (Env.pick E E.nil rfl) rfl) rfl) rfl) rfl) rfl) rfl) rfl) rfl) rfl) rfl) rfl) rfl)
    clear hk ht
    refine then_n (wp_region_lit ?_)
    refine vm E rfl rfl fun a E => wv E rfl (r_nil (E.tmp rfl)) fun a E => wv E rfl (r_fa (o' := k * 5 + 1) (E.tmp rfl) fo_119_1_4 rfl) fun a E => ?_
    refine w_ostore (vs := [.int .i64 (3)]) (us' := [_, .int .i64 (3), _, _, _]) (rs' := [_, _, _, _, _, Opn _ _ _ _ _ _ [_, .int .i64 (3), _, _, _] _]) (j := 1) E (E.tmp rfl) (ev_c _) rfl rfl sz_2_4 H (i := 5) rfl hd1 rfl rfl rfl rfl (fun a w E H => ?_)
    refine wpList_nil (inb_n ?_)
    refine (post0 E rfl ?_).2
    have H := (H.flat (us := [.int .i64 (old)]) rfl).front 1 rfl
    have H := Tr.Inv.shutS (f := intE) (y := old) H hold
    have H : Tr.Inv w0 F w [Gr (.slice (some ⟨bb, 0, none⟩) y.buffer.length cB) 2 1 y.buffer.length (y.buffer.flatMap intE), Cel dd [.int .i64 (y.top), .int .i64 (y.bottom), .slice (some ⟨bb, 0, none⟩) y.buffer.length cB, .slice (some ⟨rb, 0, none⟩) m cA, .slice AT y.taken.length cT, .slice AR y.refused.length cR] 30, Dat (.slice (some ⟨tb, to, none⟩) (tl.length + 1) ct) (tl.length + 1) ((n0 :: tl).flatMap intE), Gr (.slice AT y.taken.length cT) 36 2 y.taken.length (y.taken.flatMap GHanded.enc), Gr (.slice AR y.refused.length cR) 2 1 y.refused.length (y.refused.flatMap intE), Opn rb cA 119 5 m (d1) [.slice (some ⟨tb, to, none⟩) (tl.length + 1) ct, .int .i64 (3), .int .i64 (t), .int .i64 (b), .int .i64 (old)] (d2)] := H
    have H := H.front 4 rfl
    have H := H.front 4 rfl
    have H := H.front 4 rfl
    have H := H.front 5 rfl
    have H := H.front 4 rfl
    have H := H.front 5 rfl
    simp only [stealS, endA, bufAt, Option.getD_some, Int.toNat_natCast, List.headD_cons, List.tail_cons, ts1, ts2, ts3, hkk, hold, B1, B2, B3, B4, B5, B6, B7, B8, B9, B10, B11, B12, B13, B14] at hz
    obtain ⟨rfl, rfl⟩ := Prod.mk.inj hz
    exact ⟨_, _, _, _, _, _, rfl, H⟩
  refine cond_t E rfl ts2 ?_
  refine wp_seq (wp_region_lit ?_)
  refine vm E rfl rfl fun a E => vm E rfl rfl fun a E => wv E rfl (r_nil (E.tmp rfl)) fun a E => wv E rfl (r_fa (o' := 1) (E.tmp rfl) fo_30_1_4 rfl) fun a E => wv E rfl (r_load (E.tmp rfl) ag_2_4 (H.cell 0 rfl rfl)) fun a E => ?_
  refine wv E rfl (r_nil (E.tmp rfl)) fun a E => wv E rfl (r_fa (o' := k * 5 + 3) (E.tmp rfl) fo_119_3_4 rfl) fun a E => ?_
  refine w_ostore (vs := [.int .i64 (y.bottom)]) (us' := [_, _, _, .int .i64 (y.bottom), _]) (rs' := [_, _, Opn _ _ _ _ _ _ [_, _, _, .int .i64 (y.bottom), _] _, _, _, _]) (j := 3) E (E.tmp rfl) (E.tmp rfl) rfl rfl sz_2_4 H (i := 2) rfl hd1 rfl rfl rfl rfl (fun a w E H => ?_)
  refine wpList_nil (then_n (wp_seq (wp_region_lit ?_)))
  refine vm E rfl rfl fun a E => wv E rfl (r_nil (E.tmp rfl)) fun a E => wv E rfl (r_fa (o' := k * 5 + 1) (E.tmp rfl) fo_119_1_4 rfl) fun a E => ?_
  refine w_ostore (vs := [.int .i64 (2)]) (us' := [_, .int .i64 (2), _, _, _]) (rs' := [_, _, Opn _ _ _ _ _ _ [_, .int .i64 (2), _, _, _] _, _, _, _]) (j := 1) E (E.tmp rfl) (ev_c _) rfl rfl sz_2_4 H (i := 2) rfl hd1 rfl rfl rfl rfl (fun a w E H => ?_)
  refine wpList_nil (then_n (wp_seq ?_))
  let fl7 : Flow := ⟨[.c (.pointer (some ⟨rb, k * 5, none⟩)), .c (.pointer (some ⟨rb, k * 5, none⟩)), .c (.pointer (some ⟨rb, k * 5 + 2, none⟩)), { dep := [], val := fun _ => .int .i64 (t), rd := [2] }, .c (.pointer (some ⟨rb, k * 5, none⟩)), .c (.pointer (some ⟨rb, k * 5, none⟩)), .c (.pointer (some ⟨rb, k * 5 + 3, none⟩)), { dep := [], val := fun _ => .int .i64 (y.bottom), rd := [2] }, .c (.bool (decide (y.bottom ≤ t)))], [{ dep := [], res := fun _ => Cel dd [.int .i64 (y.top), .int .i64 (y.bottom), .slice (some ⟨bb, 0, none⟩) y.buffer.length cB, .slice (some ⟨rb, 0, none⟩) m cA, .slice AT y.taken.length cT, .slice AR y.refused.length cR] 30, prod := none, cons := none }, { dep := [], res := fun _ => Gr (.slice (some ⟨bb, 0, none⟩) y.buffer.length cB) 2 1 y.buffer.length (y.buffer.flatMap intE), prod := none, cons := none }, { dep := [], res := fun _ => Opn rb cA 119 5 m (d1) [.slice (some ⟨tb, to, none⟩) (tl.length + 1) ct, .int .i64 (2), .int .i64 (t), .int .i64 (y.bottom), .int .i64 (x)] (d2), prod := none, cons := none }, { dep := [], res := fun _ => Dat (.slice (some ⟨tb, to, none⟩) (tl.length + 1) ct) (tl.length + 1) ((n0 :: tl).flatMap intE), prod := none, cons := none }, { dep := [], res := fun _ => Gr (.slice AT y.taken.length cT) 36 2 y.taken.length (y.taken.flatMap GHanded.enc), prod := none, cons := none }, { dep := [], res := fun _ => Gr (.slice AR y.refused.length cR) 2 1 y.refused.length (y.refused.flatMap intE), prod := none, cons := none }], [[], [0], [0, 1], [0, 1, 2], [], [4], [4, 5], [4, 5, 6], [0, 1, 2, 3, 4, 5, 6, 7]]⟩
  have E : Env 93 a [(0, .pointer (some ⟨dd, 0, none⟩)), (1, .pointer (some ⟨rb, k * 5, none⟩)), (2, .int .i64 (ac)), (6, .pointer (some ⟨rb, k * 5, none⟩)), (7, .pointer (some ⟨rb, k * 5, none⟩)), (8, .pointer (some ⟨rb, k * 5 + 1, none⟩)), (9, .int .i64 (pc)), (10, .bool (pc == 0)), (11, .bool (pc == 0)), (22, .bool (pc == 1)), (23, .bool (pc == 1)), (24, .pointer (some ⟨rb, k * 5, none⟩)), (25, .pointer (some ⟨dd, 0, none⟩)), (26, .pointer (some ⟨dd, 0, none⟩)), (27, .pointer (some ⟨dd, 1, none⟩)), (28, .int .i64 (y.bottom)), (29, .pointer (some ⟨rb, k * 5, none⟩)), (30, .pointer (some ⟨rb, k * 5 + 3, none⟩)), (31, .pointer (some ⟨rb, k * 5, none⟩)), (32, .pointer (some ⟨rb, k * 5, none⟩)), (33, .pointer (some ⟨rb, k * 5 + 1, none⟩))] := (Env.pick E (Env.pick E (Env.pick E (Env.pick E (Env.pick E (Env.pick E (Env.pick E (Env.pick E (Env.pick E (Env.pick E (Env.pick E (Env.pick E (Env.pick E (Env.pick E (Env.pick E (Env.pick E (Env.pick E (Env.pick E (Env.pick E (Env.pick E (Env.pick E E.nil rfl) rfl) rfl) rfl) rfl) rfl) rfl) rfl) rfl) rfl) rfl) rfl) rfl) rfl) rfl) rfl) rfl) rfl) rfl) rfl) rfl)
  refine wp_flow (rs := []) rfl fl7 E (by rw [List.append_nil]; exact H) 9 rfl (by kernel_rfl) ?_ ?_
  ·
   refine AllTo.snoc (AllTo.snoc (AllTo.snoc (AllTo.snoc (AllTo.snoc (AllTo.snoc (AllTo.snoc (AllTo.snoc (AllTo.snoc (AllTo.zero _) ?_) ?_) ?_) ?_) ?_) ?_) ?_) ?_) ?_
   ·
    refine ⟨_, _, _, rfl, rfl, rfl, fun ν a w rs E hk ht H => ?_⟩
    exact Gives.val rfl (r_move (E.tmp rfl)) ⟨trivial, rfl, H⟩
   ·
    refine ⟨_, _, _, rfl, rfl, rfl, fun ν a w rs E hk ht H => ?_⟩
    have E := Env.add (v := .pointer (some ⟨rb, k * 5, none⟩)) E (ht 0 (by decide) _ _ 34 rfl rfl rfl)
    exact Gives.val rfl (r_nil (E.tmp rfl)) ⟨trivial, rfl, H⟩
   ·
    refine ⟨_, _, _, rfl, rfl, rfl, fun ν a w rs E hk ht H => ?_⟩
    have E := Env.add (v := .pointer (some ⟨rb, k * 5, none⟩)) E (ht 1 (by decide) _ _ 35 rfl rfl rfl)
    exact Gives.val rfl (r_fa (o' := k * 5 + 2) (E.tmp rfl) fo_119_2_4 rfl) ⟨trivial, rfl, H⟩
   ·
    refine ⟨_, _, _, rfl, rfl, rfl, fun ν a w rs E hk ht H => ?_⟩
    have E := Env.add (v := .pointer (some ⟨rb, k * 5 + 2, none⟩)) E (ht 2 (by decide) _ _ 36 rfl rfl rfl)
    have H : Tr.Inv w0 F w ([Opn rb cA 119 5 m (d1) [.slice (some ⟨tb, to, none⟩) (tl.length + 1) ct, .int .i64 (2), .int .i64 (t), .int .i64 (y.bottom), .int .i64 (x)] (d2)] ++ ([] ++ rs)) := H
    exact Gives.val rfl (r_load (E.tmp rfl) ag_2_4 (H.opn_cell 0 rfl hd1 (j := 2) rfl)) ⟨trivial, rfl, H⟩
   ·
    refine ⟨_, _, _, rfl, rfl, rfl, fun ν a w rs E hk ht H => ?_⟩
    exact Gives.val rfl (r_move (E.tmp rfl)) ⟨trivial, rfl, H⟩
   ·
    refine ⟨_, _, _, rfl, rfl, rfl, fun ν a w rs E hk ht H => ?_⟩
    have E := Env.add (v := .pointer (some ⟨rb, k * 5, none⟩)) E (ht 4 (by decide) _ _ 38 rfl rfl rfl)
    exact Gives.val rfl (r_nil (E.tmp rfl)) ⟨trivial, rfl, H⟩
   ·
    refine ⟨_, _, _, rfl, rfl, rfl, fun ν a w rs E hk ht H => ?_⟩
    have E := Env.add (v := .pointer (some ⟨rb, k * 5, none⟩)) E (ht 5 (by decide) _ _ 39 rfl rfl rfl)
    exact Gives.val rfl (r_fa (o' := k * 5 + 3) (E.tmp rfl) fo_119_3_4 rfl) ⟨trivial, rfl, H⟩
   ·
    refine ⟨_, _, _, rfl, rfl, rfl, fun ν a w rs E hk ht H => ?_⟩
    have E := Env.add (v := .pointer (some ⟨rb, k * 5 + 3, none⟩)) E (ht 6 (by decide) _ _ 40 rfl rfl rfl)
    have H : Tr.Inv w0 F w ([Opn rb cA 119 5 m (d1) [.slice (some ⟨tb, to, none⟩) (tl.length + 1) ct, .int .i64 (2), .int .i64 (t), .int .i64 (y.bottom), .int .i64 (x)] (d2)] ++ ([] ++ rs)) := H
    exact Gives.val rfl (r_load (E.tmp rfl) ag_2_4 (H.opn_cell 0 rfl hd1 (j := 3) rfl)) ⟨trivial, rfl, H⟩
   ·
    refine ⟨_, _, _, rfl, rfl, rfl, fun ν a w rs E hk ht H => ?_⟩
    have E := Env.add (v := .int .i64 (t)) E (ht 3 (by decide) _ _ 37 rfl rfl rfl)
    have E := Env.add (v := .int .i64 (y.bottom)) E (ht 7 (by decide) _ _ 41 rfl rfl rfl)
    exact Gives.val rfl (r_bin (E.tmp rfl) (E.tmp rfl) (b_geq (b := decide (y.bottom ≤ t)) rfl)) ⟨trivial, rfl, H⟩
  ·
   refine fun ν a w E hk ht H => ?_
   have E := Env.add E (show a.tmps[42]? = some (.bool (decide (y.bottom ≤ t))) from ht 8 _ _ 42 rfl rfl rfl)
   have H : Tr.Inv w0 F w [Cel dd [.int .i64 (y.top), .int .i64 (y.bottom), .slice (some ⟨bb, 0, none⟩) y.buffer.length cB, .slice (some ⟨rb, 0, none⟩) m cA, .slice AT y.taken.length cT, .slice AR y.refused.length cR] 30, Gr (.slice (some ⟨bb, 0, none⟩) y.buffer.length cB) 2 1 y.buffer.length (y.buffer.flatMap intE), Opn rb cA 119 5 m (d1) [.slice (some ⟨tb, to, none⟩) (tl.length + 1) ct, .int .i64 (2), .int .i64 (t), .int .i64 (y.bottom), .int .i64 (x)] (d2), Dat (.slice (some ⟨tb, to, none⟩) (tl.length + 1) ct) (tl.length + 1) ((n0 :: tl).flatMap intE), Gr (.slice AT y.taken.length cT) 36 2 y.taken.length (y.taken.flatMap GHanded.enc), Gr (.slice AR y.refused.length cR) 2 1 y.refused.length (y.refused.flatMap intE)] := H
   have E : Env 93 a [(0, .pointer (some ⟨dd, 0, none⟩)), (1, .pointer (some ⟨rb, k * 5, none⟩)), (2, .int .i64 (ac)), (6, .pointer (some ⟨rb, k * 5, none⟩)), (7, .pointer (some ⟨rb, k * 5, none⟩)), (8, .pointer (some ⟨rb, k * 5 + 1, none⟩)), (9, .int .i64 (pc)), (10, .bool (pc == 0)), (11, .bool (pc == 0)), (22, .bool (pc == 1)), (23, .bool (pc == 1)), (24, .pointer (some ⟨rb, k * 5, none⟩)), (25, .pointer (some ⟨dd, 0, none⟩)), (26, .pointer (some ⟨dd, 0, none⟩)), (27, .pointer (some ⟨dd, 1, none⟩)), (28, .int .i64 (y.bottom)), (29, .pointer (some ⟨rb, k * 5, none⟩)), (30, .pointer (some ⟨rb, k * 5 + 3, none⟩)), (31, .pointer (some ⟨rb, k * 5, none⟩)), (32, .pointer (some ⟨rb, k * 5, none⟩)), (33, .pointer (some ⟨rb, k * 5 + 1, none⟩)), (42, .bool (decide (y.bottom ≤ t)))] := (Env.pick E (Env.pick E (Env.pick E (Env.pick E (Env.pick E (Env.pick E (Env.pick E (Env.pick E (Env.pick E (Env.pick E (Env.pick E (Env.pick E (Env.pick E (Env.pick E (Env.pick E (Env.pick E (Env.pick E (Env.pick E (Env.pick E (Env.pick E (Env.pick E (Env.pick E E.nil rfl) rfl) rfl) rfl) rfl) rfl) rfl) rfl) rfl) rfl) rfl) rfl) rfl) rfl) rfl) rfl) rfl) rfl) rfl) rfl) rfl) rfl)
   clear hk ht
   refine then_n ?_
   rcases bcase (decide (y.bottom ≤ t)) with ts9 | ts9
   ·
    refine cond_f E rfl ts9 ?_
    refine wp_skip (inb_n ?_)
    refine (post0 E rfl ?_).2
    have H := H.front 5 rfl
    have H := H.front 5 rfl
    have H := H.front 5 rfl
    have H := H.front 5 rfl
    have H := H.front 5 rfl
    have H := H.front 5 rfl
    simp only [stealS, endA, bufAt, Option.getD_some, Int.toNat_natCast, List.headD_cons, List.tail_cons, ts1, ts2, ts9, B1, B2, B3, B4, B5, B6, B7, B8, B9, B10, B11, B12, B13, B14] at hz
    obtain ⟨rfl, rfl⟩ := Prod.mk.inj hz
    exact ⟨_, _, _, _, _, _, rfl, H⟩
   refine cond_t E rfl ts9 ?_
   refine wp_region_lit ?_
   refine vm E rfl rfl fun a E => ?_
   have H := H.front 3 rfl
   have H := H.front 3 rfl
   obtain ⟨q10F, q10S, q10I, q10b⟩ := Tr.Inv.frame (pre := [Opn rb cA 119 5 m (d1) [.slice (some ⟨tb, to, none⟩) (tl.length + 1) ct, .int .i64 (2), .int .i64 (t), .int .i64 (y.bottom), .int .i64 (x)] (d2), Dat (.slice (some ⟨tb, to, none⟩) (tl.length + 1) ct) (tl.length + 1) ((n0 :: tl).flatMap intE)]) (rest := [Cel dd [.int .i64 (y.top), .int .i64 (y.bottom), .slice (some ⟨bb, 0, none⟩) y.buffer.length cB, .slice (some ⟨rb, 0, none⟩) m cA, .slice AT y.taken.length cT, .slice AR y.refused.length cR] 30, Gr (.slice (some ⟨bb, 0, none⟩) y.buffer.length cB) 2 1 y.buffer.length (y.buffer.flatMap intE), Gr (.slice AT y.taken.length cT) 36 2 y.taken.length (y.taken.flatMap GHanded.enc), Gr (.slice AR y.refused.length cR) 2 1 y.refused.length (y.refused.flatMap intE)]) H
   refine w_call E rfl (ev_cons (E.tmp rfl) (ev_nil)) ok_253_4 (l23End_q rb cA m k tb to ct n0 tl 2 t y.bottom x d1 d2 w q10S hd1 hl) ?_
   rintro _ w ⟨q10A, q10c, rfl, hI⟩
   refine ⟨_, rfl, fun a E => ?_⟩
   have H := q10b _ _ hI
   clear hI q10S q10I q10b
   have H : Tr.Inv w0 F w [Opn rb cA 119 5 m (d1) [.slice q10A tl.length q10c, .int .i64 (0), .int .i64 (0), .int .i64 (0), .int .i64 (0)] (d2), Dat (.slice q10A tl.length q10c) tl.length (tl.flatMap intE), Cel dd [.int .i64 (y.top), .int .i64 (y.bottom), .slice (some ⟨bb, 0, none⟩) y.buffer.length cB, .slice (some ⟨rb, 0, none⟩) m cA, .slice AT y.taken.length cT, .slice AR y.refused.length cR] 30, Gr (.slice (some ⟨bb, 0, none⟩) y.buffer.length cB) 2 1 y.buffer.length (y.buffer.flatMap intE), Gr (.slice AT y.taken.length cT) 36 2 y.taken.length (y.taken.flatMap GHanded.enc), Gr (.slice AR y.refused.length cR) 2 1 y.refused.length (y.refused.flatMap intE)] := H
   refine wpList_nil (inb_n ?_)
   refine (post0 E rfl ?_).2
   have H := H.front 5 rfl
   have H := H.front 5 rfl
   have H := H.front 3 rfl
   have H := H.front 3 rfl
   have H := H.front 5 rfl
   have H := H.front 5 rfl
   simp only [stealS, endA, bufAt, Option.getD_some, Int.toNat_natCast, List.headD_cons, List.tail_cons, ts1, ts2, ts9, B1, B2, B3, B4, B5, B6, B7, B8, B9, B10, B11, B12, B13, B14] at hz
   obtain ⟨rfl, rfl⟩ := Prod.mk.inj hz
   exact ⟨_, _, _, _, _, _, rfl, H⟩
 refine cond_t E rfl ts1 ?_
 refine wp_seq (wp_region_lit ?_)
 refine vm E rfl rfl fun a E => vm E rfl rfl fun a E => wv E rfl (r_nil (E.tmp rfl)) fun a E => wv E rfl (r_fa (o' := 0) (E.tmp rfl) fo_30_0_4 rfl) fun a E => wv E rfl (r_load (E.tmp rfl) ag_2_4 (H.cell 0 rfl rfl)) fun a E => ?_
 refine wv E rfl (r_nil (E.tmp rfl)) fun a E => wv E rfl (r_fa (o' := k * 5 + 2) (E.tmp rfl) fo_119_2_4 rfl) fun a E => ?_
 refine w_ostore (vs := [.int .i64 (y.top)]) (us' := [_, _, .int .i64 (y.top), _, _]) (rs' := [_, _, Opn _ _ _ _ _ _ [_, _, .int .i64 (y.top), _, _] _, _, _, _]) (j := 2) E (E.tmp rfl) (E.tmp rfl) rfl rfl sz_2_4 H (i := 2) rfl hd1 rfl rfl rfl rfl (fun a w E H => ?_)
 refine wpList_nil (then_n (wp_region_lit ?_))
 refine vm E rfl rfl fun a E => wv E rfl (r_nil (E.tmp rfl)) fun a E => wv E rfl (r_fa (o' := k * 5 + 1) (E.tmp rfl) fo_119_1_4 rfl) fun a E => ?_
 refine w_ostore (vs := [.int .i64 (1)]) (us' := [_, .int .i64 (1), _, _, _]) (rs' := [_, _, Opn _ _ _ _ _ _ [_, .int .i64 (1), _, _, _] _, _, _, _]) (j := 1) E (E.tmp rfl) (ev_c _) rfl rfl sz_2_4 H (i := 2) rfl hd1 rfl rfl rfl rfl (fun a w E H => ?_)
 refine wpList_nil (inb_n ?_)
 refine (post0 E rfl ?_).2
 have H := H.front 5 rfl
 have H := H.front 5 rfl
 have H := H.front 5 rfl
 have H := H.front 5 rfl
 have H := H.front 5 rfl
 have H := H.front 5 rfl
 simp only [stealS, endA, bufAt, Option.getD_some, Int.toNat_natCast, List.headD_cons, List.tail_cons, ts1, B1, B2, B3, B4, B5, B6, B7, B8, B9, B10, B11, B12, B13, B14] at hz
 obtain ⟨rfl, rfl⟩ := Prod.mk.inj hz
 exact ⟨_, _, _, _, _, _, rfl, H⟩

set_option maxHeartbeats 1000000 in
theorem l23Full_q (x : GDeque) (b o : Nat) (w0 : World) (hp : RoP w0 [] b o x.enc) : Calls Try.prog 137 #[.pointer (some ⟨b, o, none⟩)] w0 fun e w' => e = .returned (.bool (fullB x)) ∧ Ext w0 w' := by
 refine enter_i (args := [.pointer (some ⟨b, o, none⟩)]) Try.func137 rfl Try.ntmps137 rfl sep0 (fun a w E H => ?_)
 have E : Env 31 a [(0, .pointer (some ⟨b, o, none⟩))] := E
 have r1p0 : RoP w0 [] b o [.v (.int .i64 (x.top)), .v (.int .i64 (x.bottom)), .sl x.buffer.length (x.buffer.flatMap intE), .sl x.actors.length (x.actors.flatMap GDequeActor.enc), .sl x.taken.length (x.taken.flatMap GHanded.enc), .sl x.refused.length (x.refused.flatMap intE)] := hp
 obtain ⟨r1k0, r1p1⟩ := RoP.vv r1p0
 clear r1p0
 obtain ⟨r1k1, r1p2⟩ := RoP.vv r1p1
 clear r1p1
 obtain ⟨r1A2, r1c2, r1k2, r1t2, r1n2, r1p3⟩ := RoP.sl r1p2
 clear r1p2
 obtain ⟨r1A3, r1c3, r1k3, r1t3, r1n3, r1p4⟩ := RoP.sl r1p3
 clear r1p3
 obtain ⟨r1A4, r1c4, r1k4, r1t4, r1n4, r1p5⟩ := RoP.sl r1p4
 clear r1p4
 obtain ⟨r1A5, r1c5, r1k5, r1t5, r1n5, r1p6⟩ := RoP.sl r1p5
 clear r1p5
 clear r1p6
 refine wp_seq (wp_region_lit ?_)
 refine wv E rfl (r_assign (ev_c _)) fun a E => ?_
 refine wpList_nil (then_n (wp_seq (wp_region_lit ?_)))
 refine vm E rfl rfl fun a E => wv E rfl (r_nil (E.tmp rfl)) fun a E => wv E rfl (r_fa (o' := o) (E.tmp rfl) fo_30_0_4 rfl) fun a E => wv E rfl (r_load (E.tmp rfl) ag_2_4 (r1k0.get H)) fun a E => wv E rfl (r_bin (E.tmp rfl) (ev_c _) (b_gtr (b := decide (1000 < x.top)) rfl)) fun a E => ?_
 refine vm E rfl rfl fun a E => ?_
 rcases bcase (decide (1000 < x.top)) with ts2 | ts2
 ·
  refine ung E rfl rfl rfl ts2 ?_
  refine vm E rfl rfl fun a E => ?_
  refine ung E rfl rfl rfl ts2 ?_
  refine wv E rfl (r_nil (E.tmp rfl)) fun a E => ?_
  refine ung E rfl rfl rfl ts2 ?_
  refine wv E rfl (r_fa (o' := o + 1) (E.tmp rfl) fo_30_1_4 rfl) fun a E => ?_
  refine ung E rfl rfl rfl ts2 ?_
  refine wv E rfl (r_load (E.tmp rfl) ag_2_4 (r1k1.get H)) fun a E => ?_
  refine ung E rfl rfl rfl ts2 ?_
  refine wv E rfl (r_bin (E.tmp rfl) (ev_c _) (b_gtr (b := decide (1000 < x.bottom)) rfl)) fun a E => wv E rfl (r_pick_f ((E.tmp rfl).trans (congrArg Value.bool ts2)) (E.tmp rfl)) fun a E => vm E rfl rfl fun a E => ?_
  rcases bcase (decide (1000 < x.bottom)) with ts3 | ts3
  ·
   refine ung E rfl rfl rfl ts3 ?_
   refine vm E rfl rfl fun a E => ?_
   refine ung E rfl rfl rfl ts3 ?_
   refine wv E rfl (r_nil (E.tmp rfl)) fun a E => ?_
   refine ung E rfl rfl rfl ts3 ?_
   refine wv E rfl (r_fa (o' := o + 4) (E.tmp rfl) fo_30_4_4 rfl) fun a E => ?_
   refine ung E rfl rfl rfl ts3 ?_
   refine wv E rfl (r_load (E.tmp rfl) ag_28_4 (r1k4.get H)) fun a E => ?_
   refine ung E rfl rfl rfl ts3 ?_
   refine wv E rfl (r_len (E.tmp rfl) el_28_4) (fun a E => ?_)
   refine ung E rfl rfl rfl ts3 ?_
   refine wv E rfl (r_bin (E.tmp rfl) (ev_c _) (b_gtr (b := decide (1000 < ((x.taken.length : Nat) : Int))) rfl)) fun a E => wv E rfl (r_pick_f ((E.tmp rfl).trans (congrArg Value.bool ts3)) (E.tmp rfl)) fun a E => vm E rfl rfl fun a E => ?_
   rcases bcase (decide (1000 < ((x.taken.length : Nat) : Int))) with ts4 | ts4
   ·
    refine ung E rfl rfl rfl ts4 ?_
    refine vm E rfl rfl fun a E => ?_
    refine ung E rfl rfl rfl ts4 ?_
    refine wv E rfl (r_nil (E.tmp rfl)) fun a E => ?_
    refine ung E rfl rfl rfl ts4 ?_
    refine wv E rfl (r_fa (o' := o + 5) (E.tmp rfl) fo_30_5_4 rfl) fun a E => ?_
    refine ung E rfl rfl rfl ts4 ?_
    refine wv E rfl (r_load (E.tmp rfl) ag_24_4 (r1k5.get H)) fun a E => ?_
    refine ung E rfl rfl rfl ts4 ?_
    refine wv E rfl (r_len (E.tmp rfl) el_24_4) (fun a E => ?_)
    refine ung E rfl rfl rfl ts4 ?_
    refine wv E rfl (r_bin (E.tmp rfl) (ev_c _) (b_gtr (b := decide (1000 < ((x.refused.length : Nat) : Int))) rfl)) fun a E => wv E rfl (r_pick_f ((E.tmp rfl).trans (congrArg Value.bool ts4)) (E.tmp rfl)) fun a E => va E rfl rfl fun a E => ?_
    refine wpList_nil (then_n (wp_ret ?_))
    refine post1 E rfl (out_t E rfl) ?_
    have hE : (decide (1000 < ((x.refused.length : Nat) : Int))) = fullB x := by first | rfl | (simp only [fullB, ts2, ts3, ts4, B1, B2, B3, B4, B5, B6, B7, B8, B9, B10, B11, B12, B13, B14]; done) | (simp only [fullB, ts2, ts3, ts4, B1, B2, B3, B4, B5, B6, B7, B8, B9, B10, B11, B12, B13, B14]; rfl) | (simp [fullB, ts2, ts3, ts4, B1, B2, B3, B4, B5, B6, B7, B8, B9, B10, B11, B12, B13, B14]; done) | ((try simp [fullB, inB] at ts2); (try simp [fullB, inB] at ts3); (try simp [fullB, inB] at ts4); simp [fullB, inB]; omega)
    exact rb hE H
   refine wnh (c := true) E rfl rfl rfl rfl ts4 rfl fun a E => ?_
   refine wnh (c := true) E rfl rfl rfl rfl ts4 rfl fun a E => ?_
   refine wnh (c := true) E rfl rfl rfl rfl ts4 rfl fun a E => ?_
   refine wnh (c := true) E rfl rfl rfl rfl ts4 rfl fun a E => ?_
   refine wnh (c := true) E rfl rfl rfl rfl ts4 rfl fun a E => ?_
   refine wnh (c := true) E rfl rfl rfl rfl ts4 rfl fun a E => ?_
   refine wv E rfl (r_pick_t ((E.tmp rfl).trans (congrArg Value.bool ts4)) (ev_c _)) fun a E => va E rfl rfl fun a E => ?_
   refine wpList_nil (then_n (wp_ret ?_))
   refine post1 E rfl (out_t E rfl) ?_
   have hE : true = fullB x := by first | rfl | (simp only [fullB, ts2, ts3, ts4, B1, B2, B3, B4, B5, B6, B7, B8, B9, B10, B11, B12, B13, B14]; done) | (simp only [fullB, ts2, ts3, ts4, B1, B2, B3, B4, B5, B6, B7, B8, B9, B10, B11, B12, B13, B14]; rfl) | (simp [fullB, ts2, ts3, ts4, B1, B2, B3, B4, B5, B6, B7, B8, B9, B10, B11, B12, B13, B14]; done) | ((try simp [fullB, inB] at ts2); (try simp [fullB, inB] at ts3); (try simp [fullB, inB] at ts4); simp [fullB, inB]; omega)
   exact rb hE H
  refine wnh (c := true) E rfl rfl rfl rfl ts3 rfl fun a E => ?_
  refine wnh (c := true) E rfl rfl rfl rfl ts3 rfl fun a E => ?_
  refine wnh (c := true) E rfl rfl rfl rfl ts3 rfl fun a E => ?_
  refine wnh (c := true) E rfl rfl rfl rfl ts3 rfl fun a E => ?_
  refine wnh (c := true) E rfl rfl rfl rfl ts3 rfl fun a E => ?_
  refine wnh (c := true) E rfl rfl rfl rfl ts3 rfl fun a E => ?_
  refine wv E rfl (r_pick_t ((E.tmp rfl).trans (congrArg Value.bool ts3)) (ev_c _)) fun a E => vm E rfl rfl fun a E => wn E rfl rfl rfl rfl rfl fun a E => wn E rfl rfl rfl rfl rfl fun a E => wn E rfl rfl rfl rfl rfl fun a E => ?_
  refine wn E rfl rfl rfl rfl rfl fun a E => wn E rfl rfl rfl rfl rfl fun a E => wn E rfl rfl rfl rfl rfl fun a E => wv E rfl (r_pick_t (E.tmp rfl) (ev_c _)) fun a E => va E rfl rfl fun a E => ?_
  refine wpList_nil (then_n (wp_ret ?_))
  refine post1 E rfl (out_t E rfl) ?_
  have hE : true = fullB x := by first | rfl | (simp only [fullB, ts2, ts3, B1, B2, B3, B4, B5, B6, B7, B8, B9, B10, B11, B12, B13, B14]; done) | (simp only [fullB, ts2, ts3, B1, B2, B3, B4, B5, B6, B7, B8, B9, B10, B11, B12, B13, B14]; rfl) | (simp [fullB, ts2, ts3, B1, B2, B3, B4, B5, B6, B7, B8, B9, B10, B11, B12, B13, B14]; done) | ((try simp [fullB, inB] at ts2); (try simp [fullB, inB] at ts3); simp [fullB, inB]; omega)
  exact rb hE H
 refine wnh (c := true) E rfl rfl rfl rfl ts2 rfl fun a E => ?_
 refine wnh (c := true) E rfl rfl rfl rfl ts2 rfl fun a E => ?_
 refine wnh (c := true) E rfl rfl rfl rfl ts2 rfl fun a E => ?_
 refine wnh (c := true) E rfl rfl rfl rfl ts2 rfl fun a E => ?_
 refine wnh (c := true) E rfl rfl rfl rfl ts2 rfl fun a E => ?_
 refine wv E rfl (r_pick_t ((E.tmp rfl).trans (congrArg Value.bool ts2)) (ev_c _)) fun a E => vm E rfl rfl fun a E => wn E rfl rfl rfl rfl rfl fun a E => wn E rfl rfl rfl rfl rfl fun a E => wn E rfl rfl rfl rfl rfl fun a E => ?_
 refine wn E rfl rfl rfl rfl rfl fun a E => wn E rfl rfl rfl rfl rfl fun a E => wn E rfl rfl rfl rfl rfl fun a E => wv E rfl (r_pick_t (E.tmp rfl) (ev_c _)) fun a E => vm E rfl rfl fun a E => ?_
 refine wn E rfl rfl rfl rfl rfl fun a E => wn E rfl rfl rfl rfl rfl fun a E => wn E rfl rfl rfl rfl rfl fun a E => wn E rfl rfl rfl rfl rfl fun a E => wn E rfl rfl rfl rfl rfl fun a E => ?_
 refine wn E rfl rfl rfl rfl rfl fun a E => wv E rfl (r_pick_t (E.tmp rfl) (ev_c _)) fun a E => va E rfl rfl fun a E => ?_
 refine wpList_nil (then_n (wp_ret ?_))
 refine post1 E rfl (out_t E rfl) ?_
 have hE : true = fullB x := by first | rfl | (simp only [fullB, ts2, B1, B2, B3, B4, B5, B6, B7, B8, B9, B10, B11, B12, B13, B14]; done) | (simp only [fullB, ts2, B1, B2, B3, B4, B5, B6, B7, B8, B9, B10, B11, B12, B13, B14]; rfl) | (simp [fullB, ts2, B1, B2, B3, B4, B5, B6, B7, B8, B9, B10, B11, B12, B13, B14]; done) | ((try simp [fullB, inB] at ts2); simp [fullB, inB]; omega)
 exact rb hE H
end Go.Proofs.Ythelpioccjjgfaa
