/- Deques. Printed by gx_dq.py. -/
import Derived.Test.YthelpioccjjgfaaProg
import Derived.Test.YthelpioccjjgfaaSc
import Derived.Test.YthelpioccjjgfaaDDq
import Derived.Test.YthelpioccjjgfaaArith
import Derived.IntWalk
import Derived.Test.YthelpioccjjgfaaDq11
set_option linter.unusedSimpArgs false
set_option linter.unusedVariables false
namespace Go.Proofs.Ythelpioccjjgfaa
open Go Go.RowKit Go.Proofs Go.Tr
theorem fo_119_1_11 : fldOff Try.prog 119 1 = some 1 := by kernel_rfl
theorem ag_2_11 : aggB Try.prog 2 = some false := by kernel_rfl
theorem fo_119_3_11 : fldOff Try.prog 119 3 = some 3 := by kernel_rfl
theorem fo_30_1_11 : fldOff Try.prog 30 1 = some 1 := by kernel_rfl
theorem sz_2_11 : (Try.prog.info? 2).map (·.size) = some 1 := by kernel_rfl
theorem ok_218_11 : callOk Try.prog 218 = true := by kernel_rfl
theorem ok_221_11 : callOk Try.prog 221 = true := by kernel_rfl
theorem fo_30_0_11 : fldOff Try.prog 30 0 = some 0 := by kernel_rfl
theorem fo_119_2_11 : fldOff Try.prog 119 2 = some 2 := by kernel_rfl
theorem ok_219_11 : callOk Try.prog 219 = true := by kernel_rfl
theorem fo_119_4_11 : fldOff Try.prog 119 4 = some 4 := by kernel_rfl
theorem ok_220_11 : callOk Try.prog 220 = true := by kernel_rfl
set_option maxHeartbeats 1000000 in
theorem takeI_q (y : GDeque) (dd bb cB cT cR : Nat) (AT AR : Option Addr) (rb cA m k tb to ct : Nat) (n0 : Int) (tl : List Int) (pc t b x : Int) (d1 d2 : List D) (z : GDeque) (v : GDequeActor) (w0 : World) {F : List Nat} (hS : Sep w0 [Cel dd [.int .i64 (y.top), .int .i64 (y.bottom), .slice (some ⟨bb, 0, none⟩) y.buffer.length cB, .slice (some ⟨rb, 0, none⟩) m cA, .slice AT y.taken.length cT, .slice AR y.refused.length cR] 30, Gr (.slice (some ⟨bb, 0, none⟩) y.buffer.length cB) 2 1 y.buffer.length (y.buffer.flatMap intE), Opn rb cA 119 5 m (d1) [.slice (some ⟨tb, to, none⟩) (tl.length + 1) ct, .int .i64 (pc), .int .i64 (t), .int .i64 (b), .int .i64 (x)] (d2), Dat (.slice (some ⟨tb, to, none⟩) (tl.length + 1) ct) (tl.length + 1) ((n0 :: tl).flatMap intE), Gr (.slice AT y.taken.length cT) 36 2 y.taken.length (y.taken.flatMap GHanded.enc), Gr (.slice AR y.refused.length cR) 2 1 y.refused.length (y.refused.flatMap intE)] F) (hd1 : d1.length = k * 5) (hl : tl.length ≤ 1000) (hb0 : 0 < y.buffer.length) (hb1 : y.buffer.length ≤ 1000) (ht1 : y.taken.length ≤ 100000) (hr1 : y.refused.length ≤ 100000) (hz : (z, v) = takeS y ⟨n0 :: tl, pc, t, b, x⟩) (hkm : k < m) (hk0 : ((k : Nat) : Int) = 0) : Calls Try.prog 161 #[.pointer (some ⟨dd, 0, none⟩), .pointer (some ⟨rb, k * 5, none⟩)] w0 fun e w' => ∃ AT' cT' AR' cR' At' ct', e = .returned (.tuple #[]) ∧ Tr.Inv w0 F w' [Cel dd [.int .i64 (z.top), .int .i64 (z.bottom), .slice (some ⟨bb, 0, none⟩) y.buffer.length cB, .slice (some ⟨rb, 0, none⟩) m cA, .slice AT' z.taken.length cT', .slice AR' z.refused.length cR'] 30, Gr (.slice (some ⟨bb, 0, none⟩) y.buffer.length cB) 2 1 y.buffer.length (z.buffer.flatMap intE), Opn rb cA 119 5 m (d1) [.slice At' v.todo.length ct', .int .i64 (v.pc), .int .i64 (v.t), .int .i64 (v.b), .int .i64 (v.x)] (d2), Dat (.slice At' v.todo.length ct') v.todo.length (v.todo.flatMap intE), Gr (.slice AT' z.taken.length cT') 36 2 z.taken.length (z.taken.flatMap GHanded.enc), Gr (.slice AR' z.refused.length cR') 2 1 z.refused.length (z.refused.flatMap intE)] := by
 refine enter_i (args := [.pointer (some ⟨dd, 0, none⟩), .pointer (some ⟨rb, k * 5, none⟩)]) Try.func161 rfl Try.ntmps161 rfl hS (fun a w E H => ?_)
 have E : Env 92 a [(0, .pointer (some ⟨dd, 0, none⟩)), (1, .pointer (some ⟨rb, k * 5, none⟩))] := E
 refine wp_seq (wp_region_lit ?_)
 refine vm E rfl rfl fun a E => wv E rfl (r_nil (E.tmp rfl)) fun a E => wv E rfl (r_fa (o' := k * 5 + 1) (E.tmp rfl) fo_119_1_11 rfl) fun a E => wv E rfl (r_load (E.tmp rfl) ag_2_11 (H.opn_cell 2 rfl hd1 (j := 1) rfl)) fun a E => ?_
 refine wpList_nil (then_n (wp_block (wp_seq (wp_region_lit ?_))))
 refine wv E rfl (r_bin (E.tmp rfl) (ev_c _) (b_eql (b := pc == 0) rfl)) fun a E => va E rfl rfl fun a E => ?_
 refine wpList_nil (then_n ?_)
 rcases bcase (pc == 0) with ts1 | ts1
 ·
  refine cond_f E rfl ts1 ?_
  refine wp_seq (wp_region_lit ?_)
  refine wv E rfl (r_bin (E.tmp rfl) (ev_c _) (b_eql (b := pc == 1) rfl)) fun a E => va E rfl rfl fun a E => ?_
  refine wpList_nil (then_n ?_)
  rcases bcase (pc == 1) with ts2 | ts2
  ·
   refine cond_f E rfl ts2 ?_
   refine wp_seq (wp_region_lit ?_)
   refine wv E rfl (r_bin (E.tmp rfl) (ev_c _) (b_eql (b := pc == 2) rfl)) fun a E => va E rfl rfl fun a E => ?_
   refine wpList_nil (then_n ?_)
   rcases bcase (pc == 2) with ts3 | ts3
   ·
    refine cond_f E rfl ts3 ?_
    refine wp_seq (wp_region_lit ?_)
    refine vm E rfl rfl fun a E => vm E rfl rfl fun a E => wv E rfl (r_nil (E.tmp rfl)) fun a E => wv E rfl (r_fa (o' := k * 5 + 3) (E.tmp rfl) fo_119_3_11 rfl) fun a E => wv E rfl (r_load (E.tmp rfl) ag_2_11 (H.opn_cell 2 rfl hd1 (j := 3) rfl)) fun a E => ?_
    refine wv E rfl (r_bin (E.tmp rfl) (ev_c _) (b_add rfl)) fun a E => wv E rfl (r_nil (E.tmp rfl)) fun a E => wv E rfl (r_fa (o' := 1) (E.tmp rfl) fo_30_1_11 rfl) fun a E => ?_
    refine w_store (cs' := [_, .int .i64 (IntKind.i64.wrap (b + 1)), _, _, _, _]) (rs' := [Cel _ [_, .int .i64 (IntKind.i64.wrap (b + 1)), _, _, _, _] _, _, _, _, _, _]) E (E.tmp rfl) (E.tmp rfl) rfl rfl sz_2_11 H (i := 0) rfl rfl rfl rfl (fun a w E H => ?_)
    refine wpList_nil (then_n (wp_region_lit ?_))
    refine vm E rfl rfl fun a E => ?_
    have H := H.front 3 rfl
    have H := H.front 3 rfl
    obtain ⟨q4F, q4S, q4I, q4b⟩ := Tr.Inv.frame (pre := [Opn rb cA 119 5 m (d1) [.slice (some ⟨tb, to, none⟩) (tl.length + 1) ct, .int .i64 (pc), .int .i64 (t), .int .i64 (b), .int .i64 (x)] (d2), Dat (.slice (some ⟨tb, to, none⟩) (tl.length + 1) ct) (tl.length + 1) ((n0 :: tl).flatMap intE)]) (rest := [Cel dd [.int .i64 (y.top), .int .i64 (IntKind.i64.wrap (b + 1)), .slice (some ⟨bb, 0, none⟩) y.buffer.length cB, .slice (some ⟨rb, 0, none⟩) m cA, .slice AT y.taken.length cT, .slice AR y.refused.length cR] 30, Gr (.slice (some ⟨bb, 0, none⟩) y.buffer.length cB) 2 1 y.buffer.length (y.buffer.flatMap intE), Gr (.slice AT y.taken.length cT) 36 2 y.taken.length (y.taken.flatMap GHanded.enc), Gr (.slice AR y.refused.length cR) 2 1 y.refused.length (y.refused.flatMap intE)]) H
    refine w_call E rfl (ev_cons (E.tmp rfl) (ev_nil)) ok_218_11 (endI_q rb cA m k tb to ct n0 tl pc t b x d1 d2 w q4S hd1 hl) ?_
    rintro _ w ⟨q4A, q4c, rfl, hI⟩
    refine ⟨_, rfl, fun a E => ?_⟩
    have H := q4b _ _ hI
    clear hI q4S q4I q4b
    have H : Tr.Inv w0 F w [Opn rb cA 119 5 m (d1) [.slice q4A tl.length q4c, .int .i64 (0), .int .i64 (0), .int .i64 (0), .int .i64 (0)] (d2), Dat (.slice q4A tl.length q4c) tl.length (tl.flatMap intE), Cel dd [.int .i64 (y.top), .int .i64 (IntKind.i64.wrap (b + 1)), .slice (some ⟨bb, 0, none⟩) y.buffer.length cB, .slice (some ⟨rb, 0, none⟩) m cA, .slice AT y.taken.length cT, .slice AR y.refused.length cR] 30, Gr (.slice (some ⟨bb, 0, none⟩) y.buffer.length cB) 2 1 y.buffer.length (y.buffer.flatMap intE), Gr (.slice AT y.taken.length cT) 36 2 y.taken.length (y.taken.flatMap GHanded.enc), Gr (.slice AR y.refused.length cR) 2 1 y.refused.length (y.refused.flatMap intE)] := H
    refine wpList_nil (inb_n ?_)
    refine (post0 E rfl ?_).2
    have H := H.front 5 rfl
    have H := H.front 5 rfl
    have H := H.front 3 rfl
    have H := H.front 3 rfl
    have H := H.front 5 rfl
    have H := H.front 5 rfl
    simp only [takeS, endA, bufAt, Option.getD_some, Int.toNat_natCast, List.headD_cons, List.tail_cons, ts1, ts2, ts3, B1, B2, B3, B4, B5, B6, B7, B8, B9, B10, B11, B12, B13, B14] at hz
    obtain ⟨rfl, rfl⟩ := Prod.mk.inj hz
    exact ⟨_, _, _, _, _, _, rfl, H⟩
   refine cond_t E rfl ts3 ?_
   refine wp_seq (wp_region_lit ?_)
   refine vm E rfl rfl fun a E => ?_
   rcases bcase (y.top == t) with ts5 | ts5
   ·
    have H := H.front 4 rfl
    have H := H.front 3 rfl
    have H := H.front 2 rfl
    obtain ⟨q6F, q6S, q6I, q6b⟩ := Tr.Inv.frame (pre := [Cel dd [.int .i64 (y.top), .int .i64 (y.bottom), .slice (some ⟨bb, 0, none⟩) y.buffer.length cB, .slice (some ⟨rb, 0, none⟩) m cA, .slice AT y.taken.length cT, .slice AR y.refused.length cR] 30, Opn rb cA 119 5 m (d1) [.slice (some ⟨tb, to, none⟩) (tl.length + 1) ct, .int .i64 (pc), .int .i64 (t), .int .i64 (b), .int .i64 (x)] (d2), Gr (.slice AT y.taken.length cT) 36 2 y.taken.length (y.taken.flatMap GHanded.enc)]) (rest := [Gr (.slice (some ⟨bb, 0, none⟩) y.buffer.length cB) 2 1 y.buffer.length (y.buffer.flatMap intE), Dat (.slice (some ⟨tb, to, none⟩) (tl.length + 1) ct) (tl.length + 1) ((n0 :: tl).flatMap intE), Gr (.slice AR y.refused.length cR) 2 1 y.refused.length (y.refused.flatMap intE)]) H
    refine w_call E rfl (ev_cons (E.tmp rfl) (ev_cons (ev_c _) (ev_nil))) ok_221_11 (by have h := winI_q dd y.taken.length cT AT y.top (.int .i64 (y.bottom)) (.slice (some ⟨bb, 0, none⟩) y.buffer.length cB) (.slice AR y.refused.length cR) (y.taken.flatMap GHanded.enc) rb cA m k ct pc t b x (some ⟨tb, to, none⟩) (tl.length + 1) d1 d2 w q6S (by omega) hkm hd1; rw [hk0] at h; exact h) ?_
    rintro _ w ⟨q6A, q6c, rfl, ⟨hw, hI⟩ | ⟨hw, hI⟩⟩
    ·
     exact absurd (hw.symm.trans ts5) (by decide)
    refine ⟨_, rfl, fun a E => ?_⟩
    have H := q6b _ _ hI
    clear hI hw q6S q6I q6b
    have H : Tr.Inv w0 F w [Cel dd [.int .i64 (y.top), .int .i64 (y.bottom), .slice (some ⟨bb, 0, none⟩) y.buffer.length cB, .slice (some ⟨rb, 0, none⟩) m cA, .slice q6A y.taken.length q6c, .slice AR y.refused.length cR] 30, Opn rb cA 119 5 m (d1) [.slice (some ⟨tb, to, none⟩) (tl.length + 1) ct, .int .i64 (pc), .int .i64 (t), .int .i64 (b), .int .i64 (x)] (d2), Gr (.slice q6A y.taken.length q6c) 36 2 y.taken.length (y.taken.flatMap GHanded.enc), Gr (.slice (some ⟨bb, 0, none⟩) y.buffer.length cB) 2 1 y.buffer.length (y.buffer.flatMap intE), Dat (.slice (some ⟨tb, to, none⟩) (tl.length + 1) ct) (tl.length + 1) ((n0 :: tl).flatMap intE), Gr (.slice AR y.refused.length cR) 2 1 y.refused.length (y.refused.flatMap intE)] := H
    refine wpList_nil (then_n (wp_region_lit ?_))
    refine vm E rfl rfl fun a E => wv E rfl (r_nil (E.tmp rfl)) fun a E => wv E rfl (r_fa (o' := k * 5 + 1) (E.tmp rfl) fo_119_1_11 rfl) fun a E => ?_
    refine w_ostore (vs := [.int .i64 (3)]) (us' := [_, .int .i64 (3), _, _, _]) (rs' := [_, Opn _ _ _ _ _ _ [_, .int .i64 (3), _, _, _] _, _, _, _, _]) (j := 1) E (E.tmp rfl) (ev_c _) rfl rfl sz_2_11 H (i := 1) rfl hd1 rfl rfl rfl rfl (fun a w E H => ?_)
    refine wpList_nil (inb_n ?_)
    refine (post0 E rfl ?_).2
    have H := H.front 5 rfl
    have H := H.front 3 rfl
    have H := H.front 5 rfl
    have H := H.front 4 rfl
    have H := H.front 5 rfl
    have H := H.front 5 rfl
    simp only [takeS, endA, bufAt, Option.getD_some, Int.toNat_natCast, List.headD_cons, List.tail_cons, ts1, ts2, ts3, ts5, B1, B2, B3, B4, B5, B6, B7, B8, B9, B10, B11, B12, B13, B14] at hz
    obtain ⟨rfl, rfl⟩ := Prod.mk.inj hz
    exact ⟨_, _, _, _, _, _, rfl, H⟩
   have H := H.front 4 rfl
   have H := H.front 3 rfl
   have H := H.front 2 rfl
   obtain ⟨q7F, q7S, q7I, q7b⟩ := Tr.Inv.frame (pre := [Cel dd [.int .i64 (y.top), .int .i64 (y.bottom), .slice (some ⟨bb, 0, none⟩) y.buffer.length cB, .slice (some ⟨rb, 0, none⟩) m cA, .slice AT y.taken.length cT, .slice AR y.refused.length cR] 30, Opn rb cA 119 5 m (d1) [.slice (some ⟨tb, to, none⟩) (tl.length + 1) ct, .int .i64 (pc), .int .i64 (t), .int .i64 (b), .int .i64 (x)] (d2), Gr (.slice AT y.taken.length cT) 36 2 y.taken.length (y.taken.flatMap GHanded.enc)]) (rest := [Gr (.slice (some ⟨bb, 0, none⟩) y.buffer.length cB) 2 1 y.buffer.length (y.buffer.flatMap intE), Dat (.slice (some ⟨tb, to, none⟩) (tl.length + 1) ct) (tl.length + 1) ((n0 :: tl).flatMap intE), Gr (.slice AR y.refused.length cR) 2 1 y.refused.length (y.refused.flatMap intE)]) H
   refine w_call E rfl (ev_cons (E.tmp rfl) (ev_cons (ev_c _) (ev_nil))) ok_221_11 (by have h := winI_q dd y.taken.length cT AT y.top (.int .i64 (y.bottom)) (.slice (some ⟨bb, 0, none⟩) y.buffer.length cB) (.slice AR y.refused.length cR) (y.taken.flatMap GHanded.enc) rb cA m k ct pc t b x (some ⟨tb, to, none⟩) (tl.length + 1) d1 d2 w q7S (by omega) hkm hd1; rw [hk0] at h; exact h) ?_
   rintro _ w ⟨q7A, q7c, rfl, ⟨hw, hI⟩ | ⟨hw, hI⟩⟩
   rotate_left
   ·
    exact absurd (hw.symm.trans ts5) (by decide)
   refine ⟨_, rfl, fun a E => ?_⟩
   have H := q7b _ _ hI
   clear hI hw q7S q7I q7b
   have e1 : y.taken.flatMap GHanded.enc ++ [D.v (.int .i64 (0)), D.v (.int .i64 (x))] = (y.taken ++ [GHanded.mk 0 x]).flatMap GHanded.enc := by simp [GHanded.enc]
   have e2 : y.taken.length + 1 = (y.taken ++ [GHanded.mk 0 x]).length := by simp
   rw [e1, e2] at H
   have H : Tr.Inv w0 F w [Cel dd [.int .i64 (IntKind.i64.wrap (t + 1)), .int .i64 (y.bottom), .slice (some ⟨bb, 0, none⟩) y.buffer.length cB, .slice (some ⟨rb, 0, none⟩) m cA, .slice q7A ((y.taken ++ [GHanded.mk 0 x]).length) q7c, .slice AR y.refused.length cR] 30, Opn rb cA 119 5 m (d1) [.slice (some ⟨tb, to, none⟩) (tl.length + 1) ct, .int .i64 (pc), .int .i64 (t), .int .i64 (b), .int .i64 (x)] (d2), Gr (.slice q7A ((y.taken ++ [GHanded.mk 0 x]).length) q7c) 36 2 ((y.taken ++ [GHanded.mk 0 x]).length) ((y.taken ++ [GHanded.mk 0 x]).flatMap GHanded.enc), Gr (.slice (some ⟨bb, 0, none⟩) y.buffer.length cB) 2 1 y.buffer.length (y.buffer.flatMap intE), Dat (.slice (some ⟨tb, to, none⟩) (tl.length + 1) ct) (tl.length + 1) ((n0 :: tl).flatMap intE), Gr (.slice AR y.refused.length cR) 2 1 y.refused.length (y.refused.flatMap intE)] := H
   refine wpList_nil (then_n (wp_region_lit ?_))
   refine vm E rfl rfl fun a E => wv E rfl (r_nil (E.tmp rfl)) fun a E => wv E rfl (r_fa (o' := k * 5 + 1) (E.tmp rfl) fo_119_1_11 rfl) fun a E => ?_
   refine w_ostore (vs := [.int .i64 (3)]) (us' := [_, .int .i64 (3), _, _, _]) (rs' := [_, Opn _ _ _ _ _ _ [_, .int .i64 (3), _, _, _] _, _, _, _, _]) (j := 1) E (E.tmp rfl) (ev_c _) rfl rfl sz_2_11 H (i := 1) rfl hd1 rfl rfl rfl rfl (fun a w E H => ?_)
   refine wpList_nil (inb_n ?_)
   refine (post0 E rfl ?_).2
   have H := H.front 5 rfl
   have H := H.front 3 rfl
   have H := H.front 5 rfl
   have H := H.front 4 rfl
   have H := H.front 5 rfl
   have H := H.front 5 rfl
   simp only [takeS, endA, bufAt, Option.getD_some, Int.toNat_natCast, List.headD_cons, List.tail_cons, ts1, ts2, ts3, ts5, B1, B2, B3, B4, B5, B6, B7, B8, B9, B10, B11, B12, B13, B14] at hz
   obtain ⟨rfl, rfl⟩ := Prod.mk.inj hz
   exact ⟨_, _, _, _, _, _, rfl, H⟩
  refine cond_t E rfl ts2 ?_
  refine wp_seq (wp_region_lit ?_)
  refine vm E rfl rfl fun a E => vm E rfl rfl fun a E => wv E rfl (r_nil (E.tmp rfl)) fun a E => wv E rfl (r_fa (o' := 0) (E.tmp rfl) fo_30_0_11 rfl) fun a E => wv E rfl (r_load (E.tmp rfl) ag_2_11 (H.cell 0 rfl rfl)) fun a E => ?_
  refine wv E rfl (r_nil (E.tmp rfl)) fun a E => wv E rfl (r_fa (o' := k * 5 + 2) (E.tmp rfl) fo_119_2_11 rfl) fun a E => ?_
  refine w_ostore (vs := [.int .i64 (y.top)]) (us' := [_, _, .int .i64 (y.top), _, _]) (rs' := [_, _, Opn _ _ _ _ _ _ [_, _, .int .i64 (y.top), _, _] _, _, _, _]) (j := 2) E (E.tmp rfl) (E.tmp rfl) rfl rfl sz_2_11 H (i := 2) rfl hd1 rfl rfl rfl rfl (fun a w E H => ?_)
  refine wpList_nil (then_n (wp_seq (wp_seq ?_)))
  let fl8 : Flow := ⟨[.c (.pointer (some ⟨rb, k * 5, none⟩)), .c (.pointer (some ⟨rb, k * 5, none⟩)), .c (.pointer (some ⟨rb, k * 5 + 2, none⟩)), { dep := [], val := fun _ => .int .i64 (y.top), rd := [2] }, .c (.pointer (some ⟨rb, k * 5, none⟩)), .c (.pointer (some ⟨rb, k * 5, none⟩)), .c (.pointer (some ⟨rb, k * 5 + 3, none⟩)), { dep := [], val := fun _ => .int .i64 (b), rd := [2] }, .c (.bool (decide (b < y.top)))], [{ dep := [], res := fun _ => Cel dd [.int .i64 (y.top), .int .i64 (y.bottom), .slice (some ⟨bb, 0, none⟩) y.buffer.length cB, .slice (some ⟨rb, 0, none⟩) m cA, .slice AT y.taken.length cT, .slice AR y.refused.length cR] 30, prod := none, cons := none }, { dep := [], res := fun _ => Gr (.slice (some ⟨bb, 0, none⟩) y.buffer.length cB) 2 1 y.buffer.length (y.buffer.flatMap intE), prod := none, cons := none }, { dep := [], res := fun _ => Opn rb cA 119 5 m (d1) [.slice (some ⟨tb, to, none⟩) (tl.length + 1) ct, .int .i64 (pc), .int .i64 (y.top), .int .i64 (b), .int .i64 (x)] (d2), prod := none, cons := none }, { dep := [], res := fun _ => Dat (.slice (some ⟨tb, to, none⟩) (tl.length + 1) ct) (tl.length + 1) ((n0 :: tl).flatMap intE), prod := none, cons := none }, { dep := [], res := fun _ => Gr (.slice AT y.taken.length cT) 36 2 y.taken.length (y.taken.flatMap GHanded.enc), prod := none, cons := none }, { dep := [], res := fun _ => Gr (.slice AR y.refused.length cR) 2 1 y.refused.length (y.refused.flatMap intE), prod := none, cons := none }], [[], [0], [0, 1], [0, 1, 2], [], [4], [4, 5], [4, 5, 6], [0, 1, 2, 3, 4, 5, 6, 7]]⟩
  have E : Env 92 a [(0, .pointer (some ⟨dd, 0, none⟩)), (1, .pointer (some ⟨rb, k * 5, none⟩)), (4, .pointer (some ⟨rb, k * 5, none⟩)), (5, .pointer (some ⟨rb, k * 5, none⟩)), (6, .pointer (some ⟨rb, k * 5 + 1, none⟩)), (7, .int .i64 (pc)), (18, .bool (pc == 0)), (19, .bool (pc == 0)), (37, .bool (pc == 1)), (38, .bool (pc == 1)), (39, .pointer (some ⟨rb, k * 5, none⟩)), (40, .pointer (some ⟨dd, 0, none⟩)), (41, .pointer (some ⟨dd, 0, none⟩)), (42, .pointer (some ⟨dd, 0, none⟩)), (43, .int .i64 (y.top)), (44, .pointer (some ⟨rb, k * 5, none⟩)), (45, .pointer (some ⟨rb, k * 5 + 2, none⟩))] := (Env.pick E (Env.pick E (Env.pick E (Env.pick E (Env.pick E (Env.pick E (Env.pick E (Env.pick E (Env.pick E (Env.pick E (Env.pick E (Env.pick E (Env.pick E (Env.pick E (Env.pick E (Env.pick E (Env.pick E E.nil rfl) rfl) rfl) rfl) rfl) rfl) rfl) rfl) rfl) rfl) rfl) rfl) rfl) rfl) rfl) rfl) rfl)
  refine wp_flow (rs := []) rfl fl8 E (by rw [List.append_nil]; exact H) 9 rfl (by kernel_rfl) ?_ ?_
  ·
   refine AllTo.snoc (AllTo.snoc (AllTo.snoc (AllTo.snoc (AllTo.snoc (AllTo.snoc (AllTo.snoc (AllTo.snoc (AllTo.snoc (AllTo.zero _) ?_) ?_) ?_) ?_) ?_) ?_) ?_) ?_) ?_
   ·
    refine ⟨_, _, _, rfl, rfl, rfl, fun ν a w rs E hk ht H => ?_⟩
    exact Gives.val rfl (r_move (E.tmp rfl)) ⟨trivial, rfl, H⟩
   ·
    refine ⟨_, _, _, rfl, rfl, rfl, fun ν a w rs E hk ht H => ?_⟩
    have E := Env.add (v := .pointer (some ⟨rb, k * 5, none⟩)) E (ht 0 (by decide) _ _ 46 rfl rfl rfl)
    exact Gives.val rfl (r_nil (E.tmp rfl)) ⟨trivial, rfl, H⟩
   ·
    refine ⟨_, _, _, rfl, rfl, rfl, fun ν a w rs E hk ht H => ?_⟩
    have E := Env.add (v := .pointer (some ⟨rb, k * 5, none⟩)) E (ht 1 (by decide) _ _ 47 rfl rfl rfl)
    exact Gives.val rfl (r_fa (o' := k * 5 + 2) (E.tmp rfl) fo_119_2_11 rfl) ⟨trivial, rfl, H⟩
   ·
    refine ⟨_, _, _, rfl, rfl, rfl, fun ν a w rs E hk ht H => ?_⟩
    have E := Env.add (v := .pointer (some ⟨rb, k * 5 + 2, none⟩)) E (ht 2 (by decide) _ _ 48 rfl rfl rfl)
    have H : Tr.Inv w0 F w ([Opn rb cA 119 5 m (d1) [.slice (some ⟨tb, to, none⟩) (tl.length + 1) ct, .int .i64 (pc), .int .i64 (y.top), .int .i64 (b), .int .i64 (x)] (d2)] ++ ([] ++ rs)) := H
    exact Gives.val rfl (r_load (E.tmp rfl) ag_2_11 (H.opn_cell 0 rfl hd1 (j := 2) rfl)) ⟨trivial, rfl, H⟩
   ·
    refine ⟨_, _, _, rfl, rfl, rfl, fun ν a w rs E hk ht H => ?_⟩
    exact Gives.val rfl (r_move (E.tmp rfl)) ⟨trivial, rfl, H⟩
   ·
    refine ⟨_, _, _, rfl, rfl, rfl, fun ν a w rs E hk ht H => ?_⟩
    have E := Env.add (v := .pointer (some ⟨rb, k * 5, none⟩)) E (ht 4 (by decide) _ _ 50 rfl rfl rfl)
    exact Gives.val rfl (r_nil (E.tmp rfl)) ⟨trivial, rfl, H⟩
   ·
    refine ⟨_, _, _, rfl, rfl, rfl, fun ν a w rs E hk ht H => ?_⟩
    have E := Env.add (v := .pointer (some ⟨rb, k * 5, none⟩)) E (ht 5 (by decide) _ _ 51 rfl rfl rfl)
    exact Gives.val rfl (r_fa (o' := k * 5 + 3) (E.tmp rfl) fo_119_3_11 rfl) ⟨trivial, rfl, H⟩
   ·
    refine ⟨_, _, _, rfl, rfl, rfl, fun ν a w rs E hk ht H => ?_⟩
    have E := Env.add (v := .pointer (some ⟨rb, k * 5 + 3, none⟩)) E (ht 6 (by decide) _ _ 52 rfl rfl rfl)
    have H : Tr.Inv w0 F w ([Opn rb cA 119 5 m (d1) [.slice (some ⟨tb, to, none⟩) (tl.length + 1) ct, .int .i64 (pc), .int .i64 (y.top), .int .i64 (b), .int .i64 (x)] (d2)] ++ ([] ++ rs)) := H
    exact Gives.val rfl (r_load (E.tmp rfl) ag_2_11 (H.opn_cell 0 rfl hd1 (j := 3) rfl)) ⟨trivial, rfl, H⟩
   ·
    refine ⟨_, _, _, rfl, rfl, rfl, fun ν a w rs E hk ht H => ?_⟩
    have E := Env.add (v := .int .i64 (y.top)) E (ht 3 (by decide) _ _ 49 rfl rfl rfl)
    have E := Env.add (v := .int .i64 (b)) E (ht 7 (by decide) _ _ 53 rfl rfl rfl)
    exact Gives.val rfl (r_bin (E.tmp rfl) (E.tmp rfl) (b_gtr (b := decide (b < y.top)) rfl)) ⟨trivial, rfl, H⟩
  ·
   refine fun ν a w E hk ht H => ?_
   have E := Env.add E (show a.tmps[54]? = some (.bool (decide (b < y.top))) from ht 8 _ _ 54 rfl rfl rfl)
   have H : Tr.Inv w0 F w [Cel dd [.int .i64 (y.top), .int .i64 (y.bottom), .slice (some ⟨bb, 0, none⟩) y.buffer.length cB, .slice (some ⟨rb, 0, none⟩) m cA, .slice AT y.taken.length cT, .slice AR y.refused.length cR] 30, Gr (.slice (some ⟨bb, 0, none⟩) y.buffer.length cB) 2 1 y.buffer.length (y.buffer.flatMap intE), Opn rb cA 119 5 m (d1) [.slice (some ⟨tb, to, none⟩) (tl.length + 1) ct, .int .i64 (pc), .int .i64 (y.top), .int .i64 (b), .int .i64 (x)] (d2), Dat (.slice (some ⟨tb, to, none⟩) (tl.length + 1) ct) (tl.length + 1) ((n0 :: tl).flatMap intE), Gr (.slice AT y.taken.length cT) 36 2 y.taken.length (y.taken.flatMap GHanded.enc), Gr (.slice AR y.refused.length cR) 2 1 y.refused.length (y.refused.flatMap intE)] := H
   have E : Env 92 a [(0, .pointer (some ⟨dd, 0, none⟩)), (1, .pointer (some ⟨rb, k * 5, none⟩)), (4, .pointer (some ⟨rb, k * 5, none⟩)), (5, .pointer (some ⟨rb, k * 5, none⟩)), (6, .pointer (some ⟨rb, k * 5 + 1, none⟩)), (7, .int .i64 (pc)), (18, .bool (pc == 0)), (19, .bool (pc == 0)), (37, .bool (pc == 1)), (38, .bool (pc == 1)), (39, .pointer (some ⟨rb, k * 5, none⟩)), (40, .pointer (some ⟨dd, 0, none⟩)), (41, .pointer (some ⟨dd, 0, none⟩)), (42, .pointer (some ⟨dd, 0, none⟩)), (43, .int .i64 (y.top)), (44, .pointer (some ⟨rb, k * 5, none⟩)), (45, .pointer (some ⟨rb, k * 5 + 2, none⟩)), (54, .bool (decide (b < y.top)))] := (Env.pick E (Env.pick E (Env.pick E (Env.pick E (Env.pick E (Env.pick E (Env.pick E (Env.pick E (Env.pick E (Env.pick E (Env.pick E (Env.pick E (Env.pick E (Env.pick E (Env.pick E (Env.pick E (Env.pick E (Env.pick E E.nil rfl) rfl) rfl) rfl) rfl) rfl) rfl) rfl) rfl) rfl) rfl) rfl) rfl) rfl) rfl) rfl) rfl) rfl)
   clear hk ht
   refine then_n ?_
   rcases bcase (decide (b < y.top)) with ts8 | ts8
   ·
    refine cond_f E rfl ts8 ?_
    refine wp_skip (then_n (wp_seq ?_))
    obtain ⟨kk, hkk, hkl⟩ := at_nat b hb0 hb1
    have H := H.front 1 rfl
    obtain ⟨old, u9u, hold, H⟩ := H.openL (f := intE) (s := 1) (fun _ => rfl) rfl hkl
    obtain ⟨u9v, rfl, H⟩ := (H.front 1 rfl).dn_v
    obtain ⟨rfl, H⟩ := H.dn_e
    have H : Tr.Inv w0 F w [Opn bb cB 2 1 y.buffer.length ((y.buffer.take kk).flatMap intE) [.int .i64 (old)] ((y.buffer.drop (kk + 1)).flatMap intE), Cel dd [.int .i64 (y.top), .int .i64 (y.bottom), .slice (some ⟨bb, 0, none⟩) y.buffer.length cB, .slice (some ⟨rb, 0, none⟩) m cA, .slice AT y.taken.length cT, .slice AR y.refused.length cR] 30, Opn rb cA 119 5 m (d1) [.slice (some ⟨tb, to, none⟩) (tl.length + 1) ct, .int .i64 (pc), .int .i64 (y.top), .int .i64 (b), .int .i64 (x)] (d2), Dat (.slice (some ⟨tb, to, none⟩) (tl.length + 1) ct) (tl.length + 1) ((n0 :: tl).flatMap intE), Gr (.slice AT y.taken.length cT) 36 2 y.taken.length (y.taken.flatMap GHanded.enc), Gr (.slice AR y.refused.length cR) 2 1 y.refused.length (y.refused.flatMap intE)] := H
    refine wp_region_lit ?_
    refine vm E rfl rfl fun a E => vm E rfl rfl fun a E => vm E rfl rfl fun a E => wv E rfl (r_nil (E.tmp rfl)) fun a E => wv E rfl (r_fa (o' := k * 5 + 3) (E.tmp rfl) fo_119_3_11 rfl) fun a E => ?_
    refine wv E rfl (r_load (E.tmp rfl) ag_2_11 (H.opn_cell 2 rfl hd1 (j := 3) rfl)) fun a E => ?_
    refine w_quiet (v := .pointer (some ⟨bb, kk * 1, none⟩)) E rfl (ev_cons (E.tmp rfl) (ev_cons (E.tmp rfl) (ev_nil))) ok_219_11 (placeI_q dd y.buffer.length cB bb kk b w (H.roc 1 rfl rfl) hkk hkl) H (fun a w E H => ?_)
    refine wv E rfl (r_nil (E.tmp rfl)) fun a E => wv E rfl (r_load (E.tmp rfl) ag_2_11 (H.opn_cell 0 rfl (take_len intE 1 (fun _ => rfl) hkl) (j := 0) rfl)) fun a E => wv E rfl (r_nil (E.tmp rfl)) fun a E => wv E rfl (r_fa (o' := k * 5 + 4) (E.tmp rfl) fo_119_4_11 rfl) fun a E => ?_
    refine w_ostore (vs := [.int .i64 (old)]) (us' := [_, _, _, _, .int .i64 (old)]) (rs' := [_, _, Opn _ _ _ _ _ _ [_, _, _, _, .int .i64 (old)] _, _, _, _]) (j := 4) E (E.tmp rfl) (E.tmp rfl) rfl rfl sz_2_11 H (i := 2) rfl hd1 rfl rfl rfl rfl (fun a w E H => ?_)
    refine wpList_nil (then_n (wp_seq (wp_seq ?_)))
    let fl11 : Flow := ⟨[.c (.pointer (some ⟨rb, k * 5, none⟩)), .c (.pointer (some ⟨rb, k * 5, none⟩)), .c (.pointer (some ⟨rb, k * 5 + 2, none⟩)), { dep := [], val := fun _ => .int .i64 (y.top), rd := [2] }, .c (.pointer (some ⟨rb, k * 5, none⟩)), .c (.pointer (some ⟨rb, k * 5, none⟩)), .c (.pointer (some ⟨rb, k * 5 + 3, none⟩)), { dep := [], val := fun _ => .int .i64 (b), rd := [2] }, .c (.bool (y.top == b))], [{ dep := [], res := fun _ => Opn bb cB 2 1 y.buffer.length ((y.buffer.take kk).flatMap intE) [.int .i64 (old)] ((y.buffer.drop (kk + 1)).flatMap intE), prod := none, cons := none }, { dep := [], res := fun _ => Cel dd [.int .i64 (y.top), .int .i64 (y.bottom), .slice (some ⟨bb, 0, none⟩) y.buffer.length cB, .slice (some ⟨rb, 0, none⟩) m cA, .slice AT y.taken.length cT, .slice AR y.refused.length cR] 30, prod := none, cons := none }, { dep := [], res := fun _ => Opn rb cA 119 5 m (d1) [.slice (some ⟨tb, to, none⟩) (tl.length + 1) ct, .int .i64 (pc), .int .i64 (y.top), .int .i64 (b), .int .i64 (old)] (d2), prod := none, cons := none }, { dep := [], res := fun _ => Dat (.slice (some ⟨tb, to, none⟩) (tl.length + 1) ct) (tl.length + 1) ((n0 :: tl).flatMap intE), prod := none, cons := none }, { dep := [], res := fun _ => Gr (.slice AT y.taken.length cT) 36 2 y.taken.length (y.taken.flatMap GHanded.enc), prod := none, cons := none }, { dep := [], res := fun _ => Gr (.slice AR y.refused.length cR) 2 1 y.refused.length (y.refused.flatMap intE), prod := none, cons := none }], [[], [0], [0, 1], [0, 1, 2], [], [4], [4, 5], [4, 5, 6], [0, 1, 2, 3, 4, 5, 6, 7]]⟩
    have E : Env 92 a [(0, .pointer (some ⟨dd, 0, none⟩)), (1, .pointer (some ⟨rb, k * 5, none⟩)), (4, .pointer (some ⟨rb, k * 5, none⟩)), (5, .pointer (some ⟨rb, k * 5, none⟩)), (6, .pointer (some ⟨rb, k * 5 + 1, none⟩)), (7, .int .i64 (pc)), (18, .bool (pc == 0)), (19, .bool (pc == 0)), (37, .bool (pc == 1)), (38, .bool (pc == 1)), (39, .pointer (some ⟨rb, k * 5, none⟩)), (40, .pointer (some ⟨dd, 0, none⟩)), (41, .pointer (some ⟨dd, 0, none⟩)), (42, .pointer (some ⟨dd, 0, none⟩)), (43, .int .i64 (y.top)), (44, .pointer (some ⟨rb, k * 5, none⟩)), (45, .pointer (some ⟨rb, k * 5 + 2, none⟩)), (54, .bool (decide (b < y.top))), (58, .pointer (some ⟨rb, k * 5, none⟩)), (59, .pointer (some ⟨dd, 0, none⟩)), (60, .pointer (some ⟨rb, k * 5, none⟩)), (61, .pointer (some ⟨rb, k * 5, none⟩)), (62, .pointer (some ⟨rb, k * 5 + 3, none⟩)), (63, .int .i64 (b)), (64, .pointer (some ⟨bb, kk * 1, none⟩)), (65, .pointer (some ⟨bb, kk * 1, none⟩)), (66, .int .i64 (old)), (67, .pointer (some ⟨rb, k * 5, none⟩)), (68, .pointer (some ⟨rb, k * 5 + 4, none⟩))] := (Env.pick E (Env.pick E (Env.pick E (Env.pick E (Env.pick E (Env.pick E (Env.pick E (Env.pick E (Env.pick E (Env.pick E (Env.pick E (Env.pick E (Env.pick E (Env.pick E (Env.pick E (Env.pick E (Env.pick E (Env.pick E (Env.pick E (Env.pick E (Env.pick E (Env.pick E (Env.pick E (Env.pick E (Env.pick E (Env.pick E (Env.pick E (Env.pick E (Env.pick E E.nil rfl) rfl) rfl) rfl) rfl) rfl) rfl) rfl) rfl) rfl) rfl) rfl) rfl) rfl) rfl) rfl) rfl) rfl) rfl) rfl) rfl) rfl) rfl) rfl) rfl) rfl) rfl) rfl) rfl)
    refine wp_flow (rs := []) rfl fl11 E (by rw [List.append_nil]; exact H) 9 rfl (by kernel_rfl) ?_ ?_
    ·
     refine AllTo.snoc (AllTo.snoc (AllTo.snoc (AllTo.snoc (AllTo.snoc (AllTo.snoc (AllTo.snoc (AllTo.snoc (AllTo.snoc (AllTo.zero _) ?_) ?_) ?_) ?_) ?_) ?_) ?_) ?_) ?_
     ·
      refine ⟨_, _, _, rfl, rfl, rfl, fun ν a w rs E hk ht H => ?_⟩
      exact Gives.val rfl (r_move (E.tmp rfl)) ⟨trivial, rfl, H⟩
     ·
      refine ⟨_, _, _, rfl, rfl, rfl, fun ν a w rs E hk ht H => ?_⟩
      have E := Env.add (v := .pointer (some ⟨rb, k * 5, none⟩)) E (ht 0 (by decide) _ _ 69 rfl rfl rfl)
      exact Gives.val rfl (r_nil (E.tmp rfl)) ⟨trivial, rfl, H⟩
     ·
      refine ⟨_, _, _, rfl, rfl, rfl, fun ν a w rs E hk ht H => ?_⟩
      have E := Env.add (v := .pointer (some ⟨rb, k * 5, none⟩)) E (ht 1 (by decide) _ _ 70 rfl rfl rfl)
      exact Gives.val rfl (r_fa (o' := k * 5 + 2) (E.tmp rfl) fo_119_2_11 rfl) ⟨trivial, rfl, H⟩
     ·
      refine ⟨_, _, _, rfl, rfl, rfl, fun ν a w rs E hk ht H => ?_⟩
      have E := Env.add (v := .pointer (some ⟨rb, k * 5 + 2, none⟩)) E (ht 2 (by decide) _ _ 71 rfl rfl rfl)
      have H : Tr.Inv w0 F w ([Opn rb cA 119 5 m (d1) [.slice (some ⟨tb, to, none⟩) (tl.length + 1) ct, .int .i64 (pc), .int .i64 (y.top), .int .i64 (b), .int .i64 (old)] (d2)] ++ ([] ++ rs)) := H
      exact Gives.val rfl (r_load (E.tmp rfl) ag_2_11 (H.opn_cell 0 rfl hd1 (j := 2) rfl)) ⟨trivial, rfl, H⟩
     ·
      refine ⟨_, _, _, rfl, rfl, rfl, fun ν a w rs E hk ht H => ?_⟩
      exact Gives.val rfl (r_move (E.tmp rfl)) ⟨trivial, rfl, H⟩
     ·
      refine ⟨_, _, _, rfl, rfl, rfl, fun ν a w rs E hk ht H => ?_⟩
      have E := Env.add (v := .pointer (some ⟨rb, k * 5, none⟩)) E (ht 4 (by decide) _ _ 73 rfl rfl rfl)
      exact Gives.val rfl (r_nil (E.tmp rfl)) ⟨trivial, rfl, H⟩
     ·
      refine ⟨_, _, _, rfl, rfl, rfl, fun ν a w rs E hk ht H => ?_⟩
      have E := Env.add (v := .pointer (some ⟨rb, k * 5, none⟩)) E (ht 5 (by decide) _ _ 74 rfl rfl rfl)
      exact Gives.val rfl (r_fa (o' := k * 5 + 3) (E.tmp rfl) fo_119_3_11 rfl) ⟨trivial, rfl, H⟩
     ·
      refine ⟨_, _, _, rfl, rfl, rfl, fun ν a w rs E hk ht H => ?_⟩
      have E := Env.add (v := .pointer (some ⟨rb, k * 5 + 3, none⟩)) E (ht 6 (by decide) _ _ 75 rfl rfl rfl)
      have H : Tr.Inv w0 F w ([Opn rb cA 119 5 m (d1) [.slice (some ⟨tb, to, none⟩) (tl.length + 1) ct, .int .i64 (pc), .int .i64 (y.top), .int .i64 (b), .int .i64 (old)] (d2)] ++ ([] ++ rs)) := H
      exact Gives.val rfl (r_load (E.tmp rfl) ag_2_11 (H.opn_cell 0 rfl hd1 (j := 3) rfl)) ⟨trivial, rfl, H⟩
     ·
      refine ⟨_, _, _, rfl, rfl, rfl, fun ν a w rs E hk ht H => ?_⟩
      have E := Env.add (v := .int .i64 (y.top)) E (ht 3 (by decide) _ _ 72 rfl rfl rfl)
      have E := Env.add (v := .int .i64 (b)) E (ht 7 (by decide) _ _ 76 rfl rfl rfl)
      exact Gives.val rfl (r_bin (E.tmp rfl) (E.tmp rfl) (b_eql (b := y.top == b) rfl)) ⟨trivial, rfl, H⟩
    ·
     refine fun ν a w E hk ht H => ?_
     have E := Env.add E (show a.tmps[77]? = some (.bool (y.top == b)) from ht 8 _ _ 77 rfl rfl rfl)
     have H : Tr.Inv w0 F w [Opn bb cB 2 1 y.buffer.length ((y.buffer.take kk).flatMap intE) [.int .i64 (old)] ((y.buffer.drop (kk + 1)).flatMap intE), Cel dd [.int .i64 (y.top), .int .i64 (y.bottom), .slice (some ⟨bb, 0, none⟩) y.buffer.length cB, .slice (some ⟨rb, 0, none⟩) m cA, .slice AT y.taken.length cT, .slice AR y.refused.length cR] 30, Opn rb cA 119 5 m (d1) [.slice (some ⟨tb, to, none⟩) (tl.length + 1) ct, .int .i64 (pc), .int .i64 (y.top), .int .i64 (b), .int .i64 (old)] (d2), Dat (.slice (some ⟨tb, to, none⟩) (tl.length + 1) ct) (tl.length + 1) ((n0 :: tl).flatMap intE), Gr (.slice AT y.taken.length cT) 36 2 y.taken.length (y.taken.flatMap GHanded.enc), Gr (.slice AR y.refused.length cR) 2 1 y.refused.length (y.refused.flatMap intE)] := H
     have E : Env 92 a [(0, .pointer (some ⟨dd, 0, none⟩)), (1, .pointer (some ⟨rb, k * 5, none⟩)), (4, .pointer (some ⟨rb, k * 5, none⟩)), (5, .pointer (some ⟨rb, k * 5, none⟩)), (6, .pointer (some ⟨rb, k * 5 + 1, none⟩)), (7, .int .i64 (pc)), (18, .bool (pc == 0)), (19, .bool (pc == 0)), (37, .bool (pc == 1)), (38, .bool (pc == 1)), (39, .pointer (some ⟨rb, k * 5, none⟩)), (40, .pointer (some ⟨dd, 0, none⟩)), (41, .pointer (some ⟨dd, 0, none⟩)), (42, .pointer (some ⟨dd, 0, none⟩)), (43, .int .i64 (y.top)), (44, .pointer (some ⟨rb, k * 5, none⟩)), (45, .pointer (some ⟨rb, k * 5 + 2, none⟩)), (54, .bool (decide (b < y.top))), (58, .pointer (some ⟨rb, k * 5, none⟩)), (59, .pointer (some ⟨dd, 0, none⟩)), (60, .pointer (some ⟨rb, k * 5, none⟩)), (61, .pointer (some ⟨rb, k * 5, none⟩)), (62, .pointer (some ⟨rb, k * 5 + 3, none⟩)), (63, .int .i64 (b)), (64, .pointer (some ⟨bb, kk * 1, none⟩)), (65, .pointer (some ⟨bb, kk * 1, none⟩)), (66, .int .i64 (old)), (67, .pointer (some ⟨rb, k * 5, none⟩)), (68, .pointer (some ⟨rb, k * 5 + 4, none⟩)), (77, .bool (y.top == b))] := (Env.pick E (Env.pick E (Env.pick E (Env.pick E (Env.pick E (Env.pick E (Env.pick E (Env.pick E (Env.pick E (Env.pick E (Env.pick E (Env.pick E (Env.pick E (Env.pick E (Env.pick E (Env.pick E (Env.pick E (Env.pick E (Env.pick E (Env.pick E (Env.pick E (Env.pick E (Env.pick E (Env.pick E (Env.pick E (Env.pick E (Env.pick E (Env.pick E (Env.pick E (Env.pick E E.nil rfl) rfl) rfl) rfl) rfl) rfl) rfl) rfl) rfl) rfl) rfl) rfl) rfl) rfl) rfl) rfl) rfl) rfl) rfl) rfl) rfl) rfl) rfl) rfl) rfl) rfl) rfl) rfl) rfl) rfl)
     clear hk ht
     refine then_n ?_
     rcases bcase (y.top == b) with ts10 | ts10
     ·
      refine cond_f E rfl ts10 ?_
      refine wp_skip (then_n (wp_seq (wp_region_lit ?_)))
      refine vm E rfl rfl fun a E => ?_
      have H := H.front 4 rfl
      have H := H.front 3 rfl
      have H := H.front 3 rfl
      obtain ⟨q11F, q11S, q11I, q11b⟩ := Tr.Inv.frame (pre := [Cel dd [.int .i64 (y.top), .int .i64 (y.bottom), .slice (some ⟨bb, 0, none⟩) y.buffer.length cB, .slice (some ⟨rb, 0, none⟩) m cA, .slice AT y.taken.length cT, .slice AR y.refused.length cR] 30, Opn rb cA 119 5 m (d1) [.slice (some ⟨tb, to, none⟩) (tl.length + 1) ct, .int .i64 (pc), .int .i64 (y.top), .int .i64 (b), .int .i64 (old)] (d2), Gr (.slice AT y.taken.length cT) 36 2 y.taken.length (y.taken.flatMap GHanded.enc)]) (rest := [Opn bb cB 2 1 y.buffer.length ((y.buffer.take kk).flatMap intE) [.int .i64 (old)] ((y.buffer.drop (kk + 1)).flatMap intE), Dat (.slice (some ⟨tb, to, none⟩) (tl.length + 1) ct) (tl.length + 1) ((n0 :: tl).flatMap intE), Gr (.slice AR y.refused.length cR) 2 1 y.refused.length (y.refused.flatMap intE)]) H
      refine w_call E rfl (ev_cons (E.tmp rfl) (ev_cons (ev_c _) (ev_nil))) ok_220_11 (by have h := handI_q dd y.taken.length cT AT (.int .i64 (y.top)) (.int .i64 (y.bottom)) (.slice (some ⟨bb, 0, none⟩) y.buffer.length cB) (.slice AR y.refused.length cR) (y.taken.flatMap GHanded.enc) rb cA m k ct pc y.top b old (some ⟨tb, to, none⟩) (tl.length + 1) d1 d2 w q11S (by omega) hkm hd1; rw [hk0] at h; exact h) ?_
      rintro _ w ⟨q11A, q11c, rfl, hI⟩
      refine ⟨_, rfl, fun a E => ?_⟩
      have H := q11b _ _ hI
      clear hI q11S q11I q11b
      have e1 : y.taken.flatMap GHanded.enc ++ [D.v (.int .i64 (0)), D.v (.int .i64 (old))] = (y.taken ++ [GHanded.mk 0 old]).flatMap GHanded.enc := by simp [GHanded.enc]
      have e2 : y.taken.length + 1 = (y.taken ++ [GHanded.mk 0 old]).length := by simp
      rw [e1, e2] at H
      have H : Tr.Inv w0 F w [Cel dd [.int .i64 (y.top), .int .i64 (y.bottom), .slice (some ⟨bb, 0, none⟩) y.buffer.length cB, .slice (some ⟨rb, 0, none⟩) m cA, .slice q11A ((y.taken ++ [GHanded.mk 0 old]).length) q11c, .slice AR y.refused.length cR] 30, Opn rb cA 119 5 m (d1) [.slice (some ⟨tb, to, none⟩) (tl.length + 1) ct, .int .i64 (pc), .int .i64 (y.top), .int .i64 (b), .int .i64 (old)] (d2), Gr (.slice q11A ((y.taken ++ [GHanded.mk 0 old]).length) q11c) 36 2 ((y.taken ++ [GHanded.mk 0 old]).length) ((y.taken ++ [GHanded.mk 0 old]).flatMap GHanded.enc), Opn bb cB 2 1 y.buffer.length ((y.buffer.take kk).flatMap intE) [.int .i64 (old)] ((y.buffer.drop (kk + 1)).flatMap intE), Dat (.slice (some ⟨tb, to, none⟩) (tl.length + 1) ct) (tl.length + 1) ((n0 :: tl).flatMap intE), Gr (.slice AR y.refused.length cR) 2 1 y.refused.length (y.refused.flatMap intE)] := H
      refine wpList_nil (then_n (wp_region_lit ?_))
      refine vm E rfl rfl fun a E => ?_
      have H := H.front 4 rfl
      have H := H.front 2 rfl
      obtain ⟨q12F, q12S, q12I, q12b⟩ := Tr.Inv.frame (pre := [Opn rb cA 119 5 m (d1) [.slice (some ⟨tb, to, none⟩) (tl.length + 1) ct, .int .i64 (pc), .int .i64 (y.top), .int .i64 (b), .int .i64 (old)] (d2), Dat (.slice (some ⟨tb, to, none⟩) (tl.length + 1) ct) (tl.length + 1) ((n0 :: tl).flatMap intE)]) (rest := [Cel dd [.int .i64 (y.top), .int .i64 (y.bottom), .slice (some ⟨bb, 0, none⟩) y.buffer.length cB, .slice (some ⟨rb, 0, none⟩) m cA, .slice q11A ((y.taken ++ [GHanded.mk 0 old]).length) q11c, .slice AR y.refused.length cR] 30, Gr (.slice q11A ((y.taken ++ [GHanded.mk 0 old]).length) q11c) 36 2 ((y.taken ++ [GHanded.mk 0 old]).length) ((y.taken ++ [GHanded.mk 0 old]).flatMap GHanded.enc), Opn bb cB 2 1 y.buffer.length ((y.buffer.take kk).flatMap intE) [.int .i64 (old)] ((y.buffer.drop (kk + 1)).flatMap intE), Gr (.slice AR y.refused.length cR) 2 1 y.refused.length (y.refused.flatMap intE)]) H
      refine w_call E rfl (ev_cons (E.tmp rfl) (ev_nil)) ok_218_11 (endI_q rb cA m k tb to ct n0 tl pc y.top b old d1 d2 w q12S hd1 hl) ?_
      rintro _ w ⟨q12A, q12c, rfl, hI⟩
      refine ⟨_, rfl, fun a E => ?_⟩
      have H := q12b _ _ hI
      clear hI q12S q12I q12b
      have H : Tr.Inv w0 F w [Opn rb cA 119 5 m (d1) [.slice q12A tl.length q12c, .int .i64 (0), .int .i64 (0), .int .i64 (0), .int .i64 (0)] (d2), Dat (.slice q12A tl.length q12c) tl.length (tl.flatMap intE), Cel dd [.int .i64 (y.top), .int .i64 (y.bottom), .slice (some ⟨bb, 0, none⟩) y.buffer.length cB, .slice (some ⟨rb, 0, none⟩) m cA, .slice q11A ((y.taken ++ [GHanded.mk 0 old]).length) q11c, .slice AR y.refused.length cR] 30, Gr (.slice q11A ((y.taken ++ [GHanded.mk 0 old]).length) q11c) 36 2 ((y.taken ++ [GHanded.mk 0 old]).length) ((y.taken ++ [GHanded.mk 0 old]).flatMap GHanded.enc), Opn bb cB 2 1 y.buffer.length ((y.buffer.take kk).flatMap intE) [.int .i64 (old)] ((y.buffer.drop (kk + 1)).flatMap intE), Gr (.slice AR y.refused.length cR) 2 1 y.refused.length (y.refused.flatMap intE)] := H
      refine wpList_nil (inb_n ?_)
      refine (post0 E rfl ?_).2
      have hlt : decide (y.top < b) = true := by have h1 := ts10; have h2 := ts8; simp at h1 h2 ⊢; omega
      have H := H.front 4 rfl
      have H := (H.flat (us := [.int .i64 (old)]) rfl).front 1 rfl
      have H := Tr.Inv.shutS (f := intE) (y := old) H hold
      have H : Tr.Inv w0 F w [Gr (.slice (some ⟨bb, 0, none⟩) y.buffer.length cB) 2 1 y.buffer.length (y.buffer.flatMap intE), Opn rb cA 119 5 m (d1) [.slice q12A tl.length q12c, .int .i64 (0), .int .i64 (0), .int .i64 (0), .int .i64 (0)] (d2), Dat (.slice q12A tl.length q12c) tl.length (tl.flatMap intE), Cel dd [.int .i64 (y.top), .int .i64 (y.bottom), .slice (some ⟨bb, 0, none⟩) y.buffer.length cB, .slice (some ⟨rb, 0, none⟩) m cA, .slice q11A ((y.taken ++ [GHanded.mk 0 old]).length) q11c, .slice AR y.refused.length cR] 30, Gr (.slice q11A ((y.taken ++ [GHanded.mk 0 old]).length) q11c) 36 2 ((y.taken ++ [GHanded.mk 0 old]).length) ((y.taken ++ [GHanded.mk 0 old]).flatMap GHanded.enc), Gr (.slice AR y.refused.length cR) 2 1 y.refused.length (y.refused.flatMap intE)] := H
      have H := H.front 5 rfl
      have H := H.front 5 rfl
      have H := H.front 4 rfl
      have H := H.front 4 rfl
      have H := H.front 4 rfl
      have H := H.front 5 rfl
      simp only [takeS, endA, bufAt, Option.getD_some, Int.toNat_natCast, List.headD_cons, List.tail_cons, ts1, ts2, ts8, hkk, hold, ts10, hlt, B1, B2, B3, B4, B5, B6, B7, B8, B9, B10, B11, B12, B13, B14] at hz
      obtain ⟨rfl, rfl⟩ := Prod.mk.inj hz
      exact ⟨_, _, _, _, _, _, rfl, H⟩
     refine cond_t E rfl ts10 ?_
     refine wp_seq (wp_region_lit ?_)
     refine vm E rfl rfl fun a E => wv E rfl (r_nil (E.tmp rfl)) fun a E => wv E rfl (r_fa (o' := k * 5 + 1) (E.tmp rfl) fo_119_1_11 rfl) fun a E => ?_
     refine w_ostore (vs := [.int .i64 (2)]) (us' := [_, .int .i64 (2), _, _, _]) (rs' := [_, _, Opn _ _ _ _ _ _ [_, .int .i64 (2), _, _, _] _, _, _, _]) (j := 1) E (E.tmp rfl) (ev_c _) rfl rfl sz_2_11 H (i := 2) rfl hd1 rfl rfl rfl rfl (fun a w E H => ?_)
     refine wpList_nil (then_n (wp_ret (then_r (inb_r ?_))))
     refine (post0 E rfl ?_).1
     have hlt : decide (y.top < b) = false := by have h1 := ts10; have h2 := ts8; simp at h1 h2 ⊢; omega
     have H := (H.flat (us := [.int .i64 (old)]) rfl).front 1 rfl
     have H := Tr.Inv.shutS (f := intE) (y := old) H hold
     have H : Tr.Inv w0 F w [Gr (.slice (some ⟨bb, 0, none⟩) y.buffer.length cB) 2 1 y.buffer.length (y.buffer.flatMap intE), Cel dd [.int .i64 (y.top), .int .i64 (y.bottom), .slice (some ⟨bb, 0, none⟩) y.buffer.length cB, .slice (some ⟨rb, 0, none⟩) m cA, .slice AT y.taken.length cT, .slice AR y.refused.length cR] 30, Opn rb cA 119 5 m (d1) [.slice (some ⟨tb, to, none⟩) (tl.length + 1) ct, .int .i64 (2), .int .i64 (y.top), .int .i64 (b), .int .i64 (old)] (d2), Dat (.slice (some ⟨tb, to, none⟩) (tl.length + 1) ct) (tl.length + 1) ((n0 :: tl).flatMap intE), Gr (.slice AT y.taken.length cT) 36 2 y.taken.length (y.taken.flatMap GHanded.enc), Gr (.slice AR y.refused.length cR) 2 1 y.refused.length (y.refused.flatMap intE)] := H
     have H := H.front 5 rfl
     have H := H.front 5 rfl
     have H := H.front 5 rfl
     have H := H.front 5 rfl
     have H := H.front 4 rfl
     have H := H.front 5 rfl
     simp only [takeS, endA, bufAt, Option.getD_some, Int.toNat_natCast, List.headD_cons, List.tail_cons, ts1, ts2, ts8, hkk, hold, ts10, hlt, B1, B2, B3, B4, B5, B6, B7, B8, B9, B10, B11, B12, B13, B14] at hz
     obtain ⟨rfl, rfl⟩ := Prod.mk.inj hz
     exact ⟨_, _, _, _, _, _, rfl, H⟩
   refine cond_t E rfl ts8 ?_
   refine wp_seq (wp_region_lit ?_)
   refine vm E rfl rfl fun a E => wv E rfl (r_nil (E.tmp rfl)) fun a E => wv E rfl (r_fa (o' := k * 5 + 1) (E.tmp rfl) fo_119_1_11 rfl) fun a E => ?_
   refine w_ostore (vs := [.int .i64 (3)]) (us' := [_, .int .i64 (3), _, _, _]) (rs' := [_, _, Opn _ _ _ _ _ _ [_, .int .i64 (3), _, _, _] _, _, _, _]) (j := 1) E (E.tmp rfl) (ev_c _) rfl rfl sz_2_11 H (i := 2) rfl hd1 rfl rfl rfl rfl (fun a w E H => ?_)
   refine wpList_nil (then_n (wp_ret (then_r (inb_r ?_))))
   refine (post0 E rfl ?_).1
   have H := H.front 5 rfl
   have H := H.front 5 rfl
   have H := H.front 5 rfl
   have H := H.front 5 rfl
   have H := H.front 5 rfl
   have H := H.front 5 rfl
   simp only [takeS, endA, bufAt, Option.getD_some, Int.toNat_natCast, List.headD_cons, List.tail_cons, ts1, ts2, ts8, B1, B2, B3, B4, B5, B6, B7, B8, B9, B10, B11, B12, B13, B14] at hz
   obtain ⟨rfl, rfl⟩ := Prod.mk.inj hz
   exact ⟨_, _, _, _, _, _, rfl, H⟩
 refine cond_t E rfl ts1 ?_
 refine wp_seq (wp_region_lit ?_)
 refine vm E rfl rfl fun a E => wv E rfl (r_nil (E.tmp rfl)) fun a E => wv E rfl (r_fa (o' := 1) (E.tmp rfl) fo_30_1_11 rfl) fun a E => wv E rfl (r_load (E.tmp rfl) ag_2_11 (H.cell 0 rfl rfl)) fun a E => wv E rfl (r_bin (E.tmp rfl) (ev_c _) (b_sub rfl)) fun a E => ?_
 refine wv E rfl (r_nil (E.tmp rfl)) fun a E => wv E rfl (r_fa (o' := 1) (E.tmp rfl) fo_30_1_11 rfl) fun a E => ?_
 refine w_store (cs' := [_, .int .i64 (IntKind.i64.wrap (y.bottom - 1)), _, _, _, _]) (rs' := [Cel _ [_, .int .i64 (IntKind.i64.wrap (y.bottom - 1)), _, _, _, _] _, _, _, _, _, _]) E (E.tmp rfl) (E.tmp rfl) rfl rfl sz_2_11 H (i := 0) rfl rfl rfl rfl (fun a w E H => ?_)
 refine wpList_nil (then_n (wp_region_lit ?_))
 refine vm E rfl rfl fun a E => vm E rfl rfl fun a E => vm E rfl rfl fun a E => wv E rfl (r_nil (E.tmp rfl)) fun a E => wv E rfl (r_fa (o' := 1) (E.tmp rfl) fo_30_1_11 rfl) fun a E => ?_
 refine wv E rfl (r_load (E.tmp rfl) ag_2_11 (H.cell 0 rfl rfl)) fun a E => wv E rfl (r_nil (E.tmp rfl)) fun a E => wv E rfl (r_fa (o' := k * 5 + 3) (E.tmp rfl) fo_119_3_11 rfl) fun a E => ?_
 refine w_ostore (vs := [.int .i64 (IntKind.i64.wrap (y.bottom - 1))]) (us' := [_, _, _, .int .i64 (IntKind.i64.wrap (y.bottom - 1)), _]) (rs' := [_, _, Opn _ _ _ _ _ _ [_, _, _, .int .i64 (IntKind.i64.wrap (y.bottom - 1)), _] _, _, _, _]) (j := 3) E (E.tmp rfl) (E.tmp rfl) rfl rfl sz_2_11 H (i := 2) rfl hd1 rfl rfl rfl rfl (fun a w E H => ?_)
 refine wv E rfl (r_nil (E.tmp rfl)) fun a E => wv E rfl (r_fa (o' := k * 5 + 1) (E.tmp rfl) fo_119_1_11 rfl) fun a E => ?_
 refine w_ostore (vs := [.int .i64 (1)]) (us' := [_, .int .i64 (1), _, _, _]) (rs' := [_, _, Opn _ _ _ _ _ _ [_, .int .i64 (1), _, _, _] _, _, _, _]) (j := 1) E (E.tmp rfl) (ev_c _) rfl rfl sz_2_11 H (i := 2) rfl hd1 rfl rfl rfl rfl (fun a w E H => ?_)
 refine wpList_nil (inb_n ?_)
 refine (post0 E rfl ?_).2
 have H := H.front 5 rfl
 have H := H.front 5 rfl
 have H := H.front 5 rfl
 have H := H.front 5 rfl
 have H := H.front 5 rfl
 have H := H.front 5 rfl
 simp only [takeS, endA, bufAt, Option.getD_some, Int.toNat_natCast, List.headD_cons, List.tail_cons, ts1, B1, B2, B3, B4, B5, B6, B7, B8, B9, B10, B11, B12, B13, B14] at hz
 obtain ⟨rfl, rfl⟩ := Prod.mk.inj hz
 exact ⟨_, _, _, _, _, _, rfl, H⟩

set_option maxHeartbeats 1000000 in
theorem stealI_q (y : GDeque) (dd bb cB cT cR : Nat) (AT AR : Option Addr) (rb cA m k tb to ct : Nat) (n0 : Int) (tl : List Int) (pc t b x : Int) (d1 d2 : List D) (z : GDeque) (v : GDequeActor) (w0 : World) {F : List Nat} (hS : Sep w0 [Cel dd [.int .i64 (y.top), .int .i64 (y.bottom), .slice (some ⟨bb, 0, none⟩) y.buffer.length cB, .slice (some ⟨rb, 0, none⟩) m cA, .slice AT y.taken.length cT, .slice AR y.refused.length cR] 30, Gr (.slice (some ⟨bb, 0, none⟩) y.buffer.length cB) 2 1 y.buffer.length (y.buffer.flatMap intE), Opn rb cA 119 5 m (d1) [.slice (some ⟨tb, to, none⟩) (tl.length + 1) ct, .int .i64 (pc), .int .i64 (t), .int .i64 (b), .int .i64 (x)] (d2), Dat (.slice (some ⟨tb, to, none⟩) (tl.length + 1) ct) (tl.length + 1) ((n0 :: tl).flatMap intE), Gr (.slice AT y.taken.length cT) 36 2 y.taken.length (y.taken.flatMap GHanded.enc), Gr (.slice AR y.refused.length cR) 2 1 y.refused.length (y.refused.flatMap intE)] F) (hd1 : d1.length = k * 5) (hl : tl.length ≤ 1000) (hb0 : 0 < y.buffer.length) (hb1 : y.buffer.length ≤ 1000) (ht1 : y.taken.length ≤ 100000) (hr1 : y.refused.length ≤ 100000) (hz : (z, v) = stealS y ⟨n0 :: tl, pc, t, b, x⟩ ((k : Nat) : Int)) (hkm : k < m) : Calls Try.prog 162 #[.pointer (some ⟨dd, 0, none⟩), .pointer (some ⟨rb, k * 5, none⟩), .int .i64 (((k : Nat) : Int))] w0 fun e w' => ∃ AT' cT' AR' cR' At' ct', e = .returned (.tuple #[]) ∧ Tr.Inv w0 F w' [Cel dd [.int .i64 (z.top), .int .i64 (z.bottom), .slice (some ⟨bb, 0, none⟩) y.buffer.length cB, .slice (some ⟨rb, 0, none⟩) m cA, .slice AT' z.taken.length cT', .slice AR' z.refused.length cR'] 30, Gr (.slice (some ⟨bb, 0, none⟩) y.buffer.length cB) 2 1 y.buffer.length (z.buffer.flatMap intE), Opn rb cA 119 5 m (d1) [.slice At' v.todo.length ct', .int .i64 (v.pc), .int .i64 (v.t), .int .i64 (v.b), .int .i64 (v.x)] (d2), Dat (.slice At' v.todo.length ct') v.todo.length (v.todo.flatMap intE), Gr (.slice AT' z.taken.length cT') 36 2 z.taken.length (z.taken.flatMap GHanded.enc), Gr (.slice AR' z.refused.length cR') 2 1 z.refused.length (z.refused.flatMap intE)] := by
 refine enter_i (args := [.pointer (some ⟨dd, 0, none⟩), .pointer (some ⟨rb, k * 5, none⟩), .int .i64 (((k : Nat) : Int))]) Try.func162 rfl Try.ntmps162 rfl hS (fun a w E H => ?_)
 have E : Env 66 a [(0, .pointer (some ⟨dd, 0, none⟩)), (1, .pointer (some ⟨rb, k * 5, none⟩)), (2, .int .i64 (((k : Nat) : Int)))] := E
 refine wp_seq (wp_region_lit ?_)
 refine vm E rfl rfl fun a E => wv E rfl (r_nil (E.tmp rfl)) fun a E => wv E rfl (r_fa (o' := k * 5 + 1) (E.tmp rfl) fo_119_1_11 rfl) fun a E => wv E rfl (r_load (E.tmp rfl) ag_2_11 (H.opn_cell 2 rfl hd1 (j := 1) rfl)) fun a E => ?_
 refine wpList_nil (then_n (wp_block (wp_seq (wp_region_lit ?_))))
 refine wv E rfl (r_bin (E.tmp rfl) (ev_c _) (b_eql (b := pc == 0) rfl)) fun a E => va E rfl rfl fun a E => ?_
 refine wpList_nil (then_n ?_)
 rcases bcase (pc == 0) with ts1 | ts1
 ·
  refine cond_f E rfl ts1 ?_
  refine wp_seq (wp_region_lit ?_)
  refine wv E rfl (r_bin (E.tmp rfl) (ev_c _) (b_eql (b := pc == 1) rfl)) fun a E => va E rfl rfl fun a E => ?_
  refine wpList_nil (then_n ?_)
  rcases bcase (pc == 1) with ts2 | ts2
  ·
   refine cond_f E rfl ts2 ?_
   refine wp_seq (wp_region_lit ?_)
   refine wv E rfl (r_bin (E.tmp rfl) (ev_c _) (b_eql (b := pc == 2) rfl)) fun a E => va E rfl rfl fun a E => ?_
   refine wpList_nil (then_n ?_)
   rcases bcase (pc == 2) with ts3 | ts3
   ·
    refine cond_f E rfl ts3 ?_
    refine wp_seq (wp_region_lit ?_)
    refine vm E rfl rfl fun a E => vm E rfl rfl fun a E => ?_
    rcases bcase (y.top == t) with ts4 | ts4
    ·
     have H := H.front 4 rfl
     have H := H.front 3 rfl
     have H := H.front 2 rfl
     obtain ⟨q5F, q5S, q5I, q5b⟩ := Tr.Inv.frame (pre := [Cel dd [.int .i64 (y.top), .int .i64 (y.bottom), .slice (some ⟨bb, 0, none⟩) y.buffer.length cB, .slice (some ⟨rb, 0, none⟩) m cA, .slice AT y.taken.length cT, .slice AR y.refused.length cR] 30, Opn rb cA 119 5 m (d1) [.slice (some ⟨tb, to, none⟩) (tl.length + 1) ct, .int .i64 (pc), .int .i64 (t), .int .i64 (b), .int .i64 (x)] (d2), Gr (.slice AT y.taken.length cT) 36 2 y.taken.length (y.taken.flatMap GHanded.enc)]) (rest := [Gr (.slice (some ⟨bb, 0, none⟩) y.buffer.length cB) 2 1 y.buffer.length (y.buffer.flatMap intE), Dat (.slice (some ⟨tb, to, none⟩) (tl.length + 1) ct) (tl.length + 1) ((n0 :: tl).flatMap intE), Gr (.slice AR y.refused.length cR) 2 1 y.refused.length (y.refused.flatMap intE)]) H
     refine w_call E rfl (ev_cons (E.tmp rfl) (ev_cons (E.tmp rfl) (ev_nil))) ok_221_11 (winI_q dd y.taken.length cT AT y.top (.int .i64 (y.bottom)) (.slice (some ⟨bb, 0, none⟩) y.buffer.length cB) (.slice AR y.refused.length cR) (y.taken.flatMap GHanded.enc) rb cA m k ct pc t b x (some ⟨tb, to, none⟩) (tl.length + 1) d1 d2 w q5S (by omega) hkm hd1) ?_
     rintro _ w ⟨q5A, q5c, rfl, ⟨hw, hI⟩ | ⟨hw, hI⟩⟩
     ·
      exact absurd (hw.symm.trans ts4) (by decide)
     refine ⟨_, rfl, fun a E => ?_⟩
     have H := q5b _ _ hI
     clear hI hw q5S q5I q5b
     have H : Tr.Inv w0 F w [Cel dd [.int .i64 (y.top), .int .i64 (y.bottom), .slice (some ⟨bb, 0, none⟩) y.buffer.length cB, .slice (some ⟨rb, 0, none⟩) m cA, .slice q5A y.taken.length q5c, .slice AR y.refused.length cR] 30, Opn rb cA 119 5 m (d1) [.slice (some ⟨tb, to, none⟩) (tl.length + 1) ct, .int .i64 (pc), .int .i64 (t), .int .i64 (b), .int .i64 (x)] (d2), Gr (.slice q5A y.taken.length q5c) 36 2 y.taken.length (y.taken.flatMap GHanded.enc), Gr (.slice (some ⟨bb, 0, none⟩) y.buffer.length cB) 2 1 y.buffer.length (y.buffer.flatMap intE), Dat (.slice (some ⟨tb, to, none⟩) (tl.length + 1) ct) (tl.length + 1) ((n0 :: tl).flatMap intE), Gr (.slice AR y.refused.length cR) 2 1 y.refused.length (y.refused.flatMap intE)] := H
     refine wpList_nil (then_n (wp_region_lit ?_))
     refine vm E rfl rfl fun a E => ?_
     have H := H.front 4 rfl
     have H := H.front 2 rfl
     obtain ⟨q6F, q6S, q6I, q6b⟩ := Tr.Inv.frame (pre := [Opn rb cA 119 5 m (d1) [.slice (some ⟨tb, to, none⟩) (tl.length + 1) ct, .int .i64 (pc), .int .i64 (t), .int .i64 (b), .int .i64 (x)] (d2), Dat (.slice (some ⟨tb, to, none⟩) (tl.length + 1) ct) (tl.length + 1) ((n0 :: tl).flatMap intE)]) (rest := [Cel dd [.int .i64 (y.top), .int .i64 (y.bottom), .slice (some ⟨bb, 0, none⟩) y.buffer.length cB, .slice (some ⟨rb, 0, none⟩) m cA, .slice q5A y.taken.length q5c, .slice AR y.refused.length cR] 30, Gr (.slice q5A y.taken.length q5c) 36 2 y.taken.length (y.taken.flatMap GHanded.enc), Gr (.slice (some ⟨bb, 0, none⟩) y.buffer.length cB) 2 1 y.buffer.length (y.buffer.flatMap intE), Gr (.slice AR y.refused.length cR) 2 1 y.refused.length (y.refused.flatMap intE)]) H
     refine w_call E rfl (ev_cons (E.tmp rfl) (ev_nil)) ok_218_11 (endI_q rb cA m k tb to ct n0 tl pc t b x d1 d2 w q6S hd1 hl) ?_
     rintro _ w ⟨q6A, q6c, rfl, hI⟩
     refine ⟨_, rfl, fun a E => ?_⟩
     have H := q6b _ _ hI
     clear hI q6S q6I q6b
     have H : Tr.Inv w0 F w [Opn rb cA 119 5 m (d1) [.slice q6A tl.length q6c, .int .i64 (0), .int .i64 (0), .int .i64 (0), .int .i64 (0)] (d2), Dat (.slice q6A tl.length q6c) tl.length (tl.flatMap intE), Cel dd [.int .i64 (y.top), .int .i64 (y.bottom), .slice (some ⟨bb, 0, none⟩) y.buffer.length cB, .slice (some ⟨rb, 0, none⟩) m cA, .slice q5A y.taken.length q5c, .slice AR y.refused.length cR] 30, Gr (.slice q5A y.taken.length q5c) 36 2 y.taken.length (y.taken.flatMap GHanded.enc), Gr (.slice (some ⟨bb, 0, none⟩) y.buffer.length cB) 2 1 y.buffer.length (y.buffer.flatMap intE), Gr (.slice AR y.refused.length cR) 2 1 y.refused.length (y.refused.flatMap intE)] := H
     refine wpList_nil (inb_n ?_)
     refine (post0 E rfl ?_).2
     have H := H.front 5 rfl
     have H := H.front 4 rfl
     have H := H.front 3 rfl
     have H := H.front 3 rfl
     have H := H.front 5 rfl
     have H := H.front 5 rfl
     simp only [stealS, endA, bufAt, Option.getD_some, Int.toNat_natCast, List.headD_cons, List.tail_cons, ts1, ts2, ts3, ts4, B1, B2, B3, B4, B5, B6, B7, B8, B9, B10, B11, B12, B13, B14] at hz
     obtain ⟨rfl, rfl⟩ := Prod.mk.inj hz
     exact ⟨_, _, _, _, _, _, rfl, H⟩
    have H := H.front 4 rfl
    have H := H.front 3 rfl
    have H := H.front 2 rfl
    obtain ⟨q7F, q7S, q7I, q7b⟩ := Tr.Inv.frame (pre := [Cel dd [.int .i64 (y.top), .int .i64 (y.bottom), .slice (some ⟨bb, 0, none⟩) y.buffer.length cB, .slice (some ⟨rb, 0, none⟩) m cA, .slice AT y.taken.length cT, .slice AR y.refused.length cR] 30, Opn rb cA 119 5 m (d1) [.slice (some ⟨tb, to, none⟩) (tl.length + 1) ct, .int .i64 (pc), .int .i64 (t), .int .i64 (b), .int .i64 (x)] (d2), Gr (.slice AT y.taken.length cT) 36 2 y.taken.length (y.taken.flatMap GHanded.enc)]) (rest := [Gr (.slice (some ⟨bb, 0, none⟩) y.buffer.length cB) 2 1 y.buffer.length (y.buffer.flatMap intE), Dat (.slice (some ⟨tb, to, none⟩) (tl.length + 1) ct) (tl.length + 1) ((n0 :: tl).flatMap intE), Gr (.slice AR y.refused.length cR) 2 1 y.refused.length (y.refused.flatMap intE)]) H
    refine w_call E rfl (ev_cons (E.tmp rfl) (ev_cons (E.tmp rfl) (ev_nil))) ok_221_11 (winI_q dd y.taken.length cT AT y.top (.int .i64 (y.bottom)) (.slice (some ⟨bb, 0, none⟩) y.buffer.length cB) (.slice AR y.refused.length cR) (y.taken.flatMap GHanded.enc) rb cA m k ct pc t b x (some ⟨tb, to, none⟩) (tl.length + 1) d1 d2 w q7S (by omega) hkm hd1) ?_
    rintro _ w ⟨q7A, q7c, rfl, ⟨hw, hI⟩ | ⟨hw, hI⟩⟩
    rotate_left
    ·
     exact absurd (hw.symm.trans ts4) (by decide)
    refine ⟨_, rfl, fun a E => ?_⟩
    have H := q7b _ _ hI
    clear hI hw q7S q7I q7b
    have e1 : y.taken.flatMap GHanded.enc ++ [D.v (.int .i64 (((k : Nat) : Int))), D.v (.int .i64 (x))] = (y.taken ++ [GHanded.mk ((k : Nat) : Int) x]).flatMap GHanded.enc := by simp [GHanded.enc]
    have e2 : y.taken.length + 1 = (y.taken ++ [GHanded.mk ((k : Nat) : Int) x]).length := by simp
    rw [e1, e2] at H
    have H : Tr.Inv w0 F w [Cel dd [.int .i64 (IntKind.i64.wrap (t + 1)), .int .i64 (y.bottom), .slice (some ⟨bb, 0, none⟩) y.buffer.length cB, .slice (some ⟨rb, 0, none⟩) m cA, .slice q7A ((y.taken ++ [GHanded.mk ((k : Nat) : Int) x]).length) q7c, .slice AR y.refused.length cR] 30, Opn rb cA 119 5 m (d1) [.slice (some ⟨tb, to, none⟩) (tl.length + 1) ct, .int .i64 (pc), .int .i64 (t), .int .i64 (b), .int .i64 (x)] (d2), Gr (.slice q7A ((y.taken ++ [GHanded.mk ((k : Nat) : Int) x]).length) q7c) 36 2 ((y.taken ++ [GHanded.mk ((k : Nat) : Int) x]).length) ((y.taken ++ [GHanded.mk ((k : Nat) : Int) x]).flatMap GHanded.enc), Gr (.slice (some ⟨bb, 0, none⟩) y.buffer.length cB) 2 1 y.buffer.length (y.buffer.flatMap intE), Dat (.slice (some ⟨tb, to, none⟩) (tl.length + 1) ct) (tl.length + 1) ((n0 :: tl).flatMap intE), Gr (.slice AR y.refused.length cR) 2 1 y.refused.length (y.refused.flatMap intE)] := H
    refine wpList_nil (then_n (wp_region_lit ?_))
    refine vm E rfl rfl fun a E => ?_
    have H := H.front 4 rfl
    have H := H.front 2 rfl
    obtain ⟨q8F, q8S, q8I, q8b⟩ := Tr.Inv.frame (pre := [Opn rb cA 119 5 m (d1) [.slice (some ⟨tb, to, none⟩) (tl.length + 1) ct, .int .i64 (pc), .int .i64 (t), .int .i64 (b), .int .i64 (x)] (d2), Dat (.slice (some ⟨tb, to, none⟩) (tl.length + 1) ct) (tl.length + 1) ((n0 :: tl).flatMap intE)]) (rest := [Cel dd [.int .i64 (IntKind.i64.wrap (t + 1)), .int .i64 (y.bottom), .slice (some ⟨bb, 0, none⟩) y.buffer.length cB, .slice (some ⟨rb, 0, none⟩) m cA, .slice q7A ((y.taken ++ [GHanded.mk ((k : Nat) : Int) x]).length) q7c, .slice AR y.refused.length cR] 30, Gr (.slice q7A ((y.taken ++ [GHanded.mk ((k : Nat) : Int) x]).length) q7c) 36 2 ((y.taken ++ [GHanded.mk ((k : Nat) : Int) x]).length) ((y.taken ++ [GHanded.mk ((k : Nat) : Int) x]).flatMap GHanded.enc), Gr (.slice (some ⟨bb, 0, none⟩) y.buffer.length cB) 2 1 y.buffer.length (y.buffer.flatMap intE), Gr (.slice AR y.refused.length cR) 2 1 y.refused.length (y.refused.flatMap intE)]) H
    refine w_call E rfl (ev_cons (E.tmp rfl) (ev_nil)) ok_218_11 (endI_q rb cA m k tb to ct n0 tl pc t b x d1 d2 w q8S hd1 hl) ?_
    rintro _ w ⟨q8A, q8c, rfl, hI⟩
    refine ⟨_, rfl, fun a E => ?_⟩
    have H := q8b _ _ hI
    clear hI q8S q8I q8b
    have H : Tr.Inv w0 F w [Opn rb cA 119 5 m (d1) [.slice q8A tl.length q8c, .int .i64 (0), .int .i64 (0), .int .i64 (0), .int .i64 (0)] (d2), Dat (.slice q8A tl.length q8c) tl.length (tl.flatMap intE), Cel dd [.int .i64 (IntKind.i64.wrap (t + 1)), .int .i64 (y.bottom), .slice (some ⟨bb, 0, none⟩) y.buffer.length cB, .slice (some ⟨rb, 0, none⟩) m cA, .slice q7A ((y.taken ++ [GHanded.mk ((k : Nat) : Int) x]).length) q7c, .slice AR y.refused.length cR] 30, Gr (.slice q7A ((y.taken ++ [GHanded.mk ((k : Nat) : Int) x]).length) q7c) 36 2 ((y.taken ++ [GHanded.mk ((k : Nat) : Int) x]).length) ((y.taken ++ [GHanded.mk ((k : Nat) : Int) x]).flatMap GHanded.enc), Gr (.slice (some ⟨bb, 0, none⟩) y.buffer.length cB) 2 1 y.buffer.length (y.buffer.flatMap intE), Gr (.slice AR y.refused.length cR) 2 1 y.refused.length (y.refused.flatMap intE)] := H
    refine wpList_nil (inb_n ?_)
    refine (post0 E rfl ?_).2
    have H := H.front 5 rfl
    have H := H.front 4 rfl
    have H := H.front 3 rfl
    have H := H.front 3 rfl
    have H := H.front 5 rfl
    have H := H.front 5 rfl
    simp only [stealS, endA, bufAt, Option.getD_some, Int.toNat_natCast, List.headD_cons, List.tail_cons, ts1, ts2, ts3, ts4, B1, B2, B3, B4, B5, B6, B7, B8, B9, B10, B11, B12, B13, B14] at hz
    obtain ⟨rfl, rfl⟩ := Prod.mk.inj hz
    exact ⟨_, _, _, _, _, _, rfl, H⟩
   refine cond_t E rfl ts3 ?_
   refine wp_seq ?_
   obtain ⟨kk, hkk, hkl⟩ := at_nat t hb0 hb1
   have H := H.front 1 rfl
   obtain ⟨old, u9u, hold, H⟩ := H.openL (f := intE) (s := 1) (fun _ => rfl) rfl hkl
   obtain ⟨u9v, rfl, H⟩ := (H.front 1 rfl).dn_v
   obtain ⟨rfl, H⟩ := H.dn_e
   have H : Tr.Inv w0 F w [Opn bb cB 2 1 y.buffer.length ((y.buffer.take kk).flatMap intE) [.int .i64 (old)] ((y.buffer.drop (kk + 1)).flatMap intE), Cel dd [.int .i64 (y.top), .int .i64 (y.bottom), .slice (some ⟨bb, 0, none⟩) y.buffer.length cB, .slice (some ⟨rb, 0, none⟩) m cA, .slice AT y.taken.length cT, .slice AR y.refused.length cR] 30, Opn rb cA 119 5 m (d1) [.slice (some ⟨tb, to, none⟩) (tl.length + 1) ct, .int .i64 (pc), .int .i64 (t), .int .i64 (b), .int .i64 (x)] (d2), Dat (.slice (some ⟨tb, to, none⟩) (tl.length + 1) ct) (tl.length + 1) ((n0 :: tl).flatMap intE), Gr (.slice AT y.taken.length cT) 36 2 y.taken.length (y.taken.flatMap GHanded.enc), Gr (.slice AR y.refused.length cR) 2 1 y.refused.length (y.refused.flatMap intE)] := H
   refine wp_region_lit ?_
   refine vm E rfl rfl fun a E => vm E rfl rfl fun a E => vm E rfl rfl fun a E => wv E rfl (r_nil (E.tmp rfl)) fun a E => wv E rfl (r_fa (o' := k * 5 + 2) (E.tmp rfl) fo_119_2_11 rfl) fun a E => ?_
   refine wv E rfl (r_load (E.tmp rfl) ag_2_11 (H.opn_cell 2 rfl hd1 (j := 2) rfl)) fun a E => ?_
   refine w_quiet (v := .pointer (some ⟨bb, kk * 1, none⟩)) E rfl (ev_cons (E.tmp rfl) (ev_cons (E.tmp rfl) (ev_nil))) ok_219_11 (placeI_q dd y.buffer.length cB bb kk t w (H.roc 1 rfl rfl) hkk hkl) H (fun a w E H => ?_)
   refine wv E rfl (r_nil (E.tmp rfl)) fun a E => wv E rfl (r_load (E.tmp rfl) ag_2_11 (H.opn_cell 0 rfl (take_len intE 1 (fun _ => rfl) hkl) (j := 0) rfl)) fun a E => wv E rfl (r_nil (E.tmp rfl)) fun a E => wv E rfl (r_fa (o' := k * 5 + 4) (E.tmp rfl) fo_119_4_11 rfl) fun a E => ?_
   refine w_ostore (vs := [.int .i64 (old)]) (us' := [_, _, _, _, .int .i64 (old)]) (rs' := [_, _, Opn _ _ _ _ _ _ [_, _, _, _, .int .i64 (old)] _, _, _, _]) (j := 4) E (E.tmp rfl) (E.tmp rfl) rfl rfl sz_2_11 H (i := 2) rfl hd1 rfl rfl rfl rfl (fun a w E H => ?_)
   refine wpList_nil (then_n (wp_region_lit ?_))
   refine vm E rfl rfl fun a E => wv E rfl (r_nil (E.tmp rfl)) fun a E => wv E rfl (r_fa (o' := k * 5 + 1) (E.tmp rfl) fo_119_1_11 rfl) fun a E => ?_
   refine w_ostore (vs := [.int .i64 (3)]) (us' := [_, .int .i64 (3), _, _, _]) (rs' := [_, _, Opn _ _ _ _ _ _ [_, .int .i64 (3), _, _, _] _, _, _, _]) (j := 1) E (E.tmp rfl) (ev_c _) rfl rfl sz_2_11 H (i := 2) rfl hd1 rfl rfl rfl rfl (fun a w E H => ?_)
   refine wpList_nil (inb_n ?_)
   refine (post0 E rfl ?_).2
   have H := (H.flat (us := [.int .i64 (old)]) rfl).front 1 rfl
   have H := Tr.Inv.shutS (f := intE) (y := old) H hold
   have H : Tr.Inv w0 F w [Gr (.slice (some ⟨bb, 0, none⟩) y.buffer.length cB) 2 1 y.buffer.length (y.buffer.flatMap intE), Cel dd [.int .i64 (y.top), .int .i64 (y.bottom), .slice (some ⟨bb, 0, none⟩) y.buffer.length cB, .slice (some ⟨rb, 0, none⟩) m cA, .slice AT y.taken.length cT, .slice AR y.refused.length cR] 30, Opn rb cA 119 5 m (d1) [.slice (some ⟨tb, to, none⟩) (tl.length + 1) ct, .int .i64 (3), .int .i64 (t), .int .i64 (b), .int .i64 (old)] (d2), Dat (.slice (some ⟨tb, to, none⟩) (tl.length + 1) ct) (tl.length + 1) ((n0 :: tl).flatMap intE), Gr (.slice AT y.taken.length cT) 36 2 y.taken.length (y.taken.flatMap GHanded.enc), Gr (.slice AR y.refused.length cR) 2 1 y.refused.length (y.refused.flatMap intE)] := H
   have H := H.front 5 rfl
   have H := H.front 5 rfl
   have H := H.front 5 rfl
   have H := H.front 5 rfl
   have H := H.front 4 rfl
   have H := H.front 5 rfl
   simp only [stealS, endA, bufAt, Option.getD_some, Int.toNat_natCast, List.headD_cons, List.tail_cons, ts1, ts2, ts3, hkk, hold, B1, B2, B3, B4, B5, B6, B7, B8, B9, B10, B11, B12, B13, B14] at hz
   obtain ⟨rfl, rfl⟩ := Prod.mk.inj hz
   exact ⟨_, _, _, _, _, _, rfl, H⟩
  refine cond_t E rfl ts2 ?_
  refine wp_seq (wp_region_lit ?_)
  refine vm E rfl rfl fun a E => vm E rfl rfl fun a E => wv E rfl (r_nil (E.tmp rfl)) fun a E => wv E rfl (r_fa (o' := 1) (E.tmp rfl) fo_30_1_11 rfl) fun a E => wv E rfl (r_load (E.tmp rfl) ag_2_11 (H.cell 0 rfl rfl)) fun a E => ?_
  refine wv E rfl (r_nil (E.tmp rfl)) fun a E => wv E rfl (r_fa (o' := k * 5 + 3) (E.tmp rfl) fo_119_3_11 rfl) fun a E => ?_
  refine w_ostore (vs := [.int .i64 (y.bottom)]) (us' := [_, _, _, .int .i64 (y.bottom), _]) (rs' := [_, _, Opn _ _ _ _ _ _ [_, _, _, .int .i64 (y.bottom), _] _, _, _, _]) (j := 3) E (E.tmp rfl) (E.tmp rfl) rfl rfl sz_2_11 H (i := 2) rfl hd1 rfl rfl rfl rfl (fun a w E H => ?_)
  refine wpList_nil (then_n (wp_seq (wp_seq ?_)))
  let fl7 : Flow := ⟨[.c (.pointer (some ⟨rb, k * 5, none⟩)), .c (.pointer (some ⟨rb, k * 5, none⟩)), .c (.pointer (some ⟨rb, k * 5 + 2, none⟩)), { dep := [], val := fun _ => .int .i64 (t), rd := [2] }, .c (.pointer (some ⟨rb, k * 5, none⟩)), .c (.pointer (some ⟨rb, k * 5, none⟩)), .c (.pointer (some ⟨rb, k * 5 + 3, none⟩)), { dep := [], val := fun _ => .int .i64 (y.bottom), rd := [2] }, .c (.bool (decide (y.bottom ≤ t)))], [{ dep := [], res := fun _ => Cel dd [.int .i64 (y.top), .int .i64 (y.bottom), .slice (some ⟨bb, 0, none⟩) y.buffer.length cB, .slice (some ⟨rb, 0, none⟩) m cA, .slice AT y.taken.length cT, .slice AR y.refused.length cR] 30, prod := none, cons := none }, { dep := [], res := fun _ => Gr (.slice (some ⟨bb, 0, none⟩) y.buffer.length cB) 2 1 y.buffer.length (y.buffer.flatMap intE), prod := none, cons := none }, { dep := [], res := fun _ => Opn rb cA 119 5 m (d1) [.slice (some ⟨tb, to, none⟩) (tl.length + 1) ct, .int .i64 (pc), .int .i64 (t), .int .i64 (y.bottom), .int .i64 (x)] (d2), prod := none, cons := none }, { dep := [], res := fun _ => Dat (.slice (some ⟨tb, to, none⟩) (tl.length + 1) ct) (tl.length + 1) ((n0 :: tl).flatMap intE), prod := none, cons := none }, { dep := [], res := fun _ => Gr (.slice AT y.taken.length cT) 36 2 y.taken.length (y.taken.flatMap GHanded.enc), prod := none, cons := none }, { dep := [], res := fun _ => Gr (.slice AR y.refused.length cR) 2 1 y.refused.length (y.refused.flatMap intE), prod := none, cons := none }], [[], [0], [0, 1], [0, 1, 2], [], [4], [4, 5], [4, 5, 6], [0, 1, 2, 3, 4, 5, 6, 7]]⟩
  have E : Env 66 a [(0, .pointer (some ⟨dd, 0, none⟩)), (1, .pointer (some ⟨rb, k * 5, none⟩)), (2, .int .i64 (((k : Nat) : Int))), (6, .pointer (some ⟨rb, k * 5, none⟩)), (7, .pointer (some ⟨rb, k * 5, none⟩)), (8, .pointer (some ⟨rb, k * 5 + 1, none⟩)), (9, .int .i64 (pc)), (15, .bool (pc == 0)), (16, .bool (pc == 0)), (27, .bool (pc == 1)), (28, .bool (pc == 1)), (29, .pointer (some ⟨rb, k * 5, none⟩)), (30, .pointer (some ⟨dd, 0, none⟩)), (31, .pointer (some ⟨dd, 0, none⟩)), (32, .pointer (some ⟨dd, 1, none⟩)), (33, .int .i64 (y.bottom)), (34, .pointer (some ⟨rb, k * 5, none⟩)), (35, .pointer (some ⟨rb, k * 5 + 3, none⟩))] := (Env.pick E (Env.pick E (Env.pick E (Env.pick E (Env.pick E (Env.pick E (Env.pick E (Env.pick E (Env.pick E (Env.pick E (Env.pick E (Env.pick E (Env.pick E (Env.pick E (Env.pick E (Env.pick E (Env.pick E (Env.pick E E.nil rfl) rfl) rfl) rfl) rfl) rfl) rfl) rfl) rfl) rfl) rfl) rfl) rfl) rfl) rfl) rfl) rfl) rfl)
  refine wp_flow (rs := []) rfl fl7 E (by rw [List.append_nil]; exact H) 9 rfl (by kernel_rfl) ?_ ?_
  ·
   refine AllTo.snoc (AllTo.snoc (AllTo.snoc (AllTo.snoc (AllTo.snoc (AllTo.snoc (AllTo.snoc (AllTo.snoc (AllTo.snoc (AllTo.zero _) ?_) ?_) ?_) ?_) ?_) ?_) ?_) ?_) ?_
   ·
    refine ⟨_, _, _, rfl, rfl, rfl, fun ν a w rs E hk ht H => ?_⟩
    exact Gives.val rfl (r_move (E.tmp rfl)) ⟨trivial, rfl, H⟩
   ·
    refine ⟨_, _, _, rfl, rfl, rfl, fun ν a w rs E hk ht H => ?_⟩
    have E := Env.add (v := .pointer (some ⟨rb, k * 5, none⟩)) E (ht 0 (by decide) _ _ 36 rfl rfl rfl)
    exact Gives.val rfl (r_nil (E.tmp rfl)) ⟨trivial, rfl, H⟩
   ·
    refine ⟨_, _, _, rfl, rfl, rfl, fun ν a w rs E hk ht H => ?_⟩
    have E := Env.add (v := .pointer (some ⟨rb, k * 5, none⟩)) E (ht 1 (by decide) _ _ 37 rfl rfl rfl)
    exact Gives.val rfl (r_fa (o' := k * 5 + 2) (E.tmp rfl) fo_119_2_11 rfl) ⟨trivial, rfl, H⟩
   ·
    refine ⟨_, _, _, rfl, rfl, rfl, fun ν a w rs E hk ht H => ?_⟩
    have E := Env.add (v := .pointer (some ⟨rb, k * 5 + 2, none⟩)) E (ht 2 (by decide) _ _ 38 rfl rfl rfl)
    have H : Tr.Inv w0 F w ([Opn rb cA 119 5 m (d1) [.slice (some ⟨tb, to, none⟩) (tl.length + 1) ct, .int .i64 (pc), .int .i64 (t), .int .i64 (y.bottom), .int .i64 (x)] (d2)] ++ ([] ++ rs)) := H
    exact Gives.val rfl (r_load (E.tmp rfl) ag_2_11 (H.opn_cell 0 rfl hd1 (j := 2) rfl)) ⟨trivial, rfl, H⟩
   ·
    refine ⟨_, _, _, rfl, rfl, rfl, fun ν a w rs E hk ht H => ?_⟩
    exact Gives.val rfl (r_move (E.tmp rfl)) ⟨trivial, rfl, H⟩
   ·
    refine ⟨_, _, _, rfl, rfl, rfl, fun ν a w rs E hk ht H => ?_⟩
    have E := Env.add (v := .pointer (some ⟨rb, k * 5, none⟩)) E (ht 4 (by decide) _ _ 40 rfl rfl rfl)
    exact Gives.val rfl (r_nil (E.tmp rfl)) ⟨trivial, rfl, H⟩
   ·
    refine ⟨_, _, _, rfl, rfl, rfl, fun ν a w rs E hk ht H => ?_⟩
    have E := Env.add (v := .pointer (some ⟨rb, k * 5, none⟩)) E (ht 5 (by decide) _ _ 41 rfl rfl rfl)
    exact Gives.val rfl (r_fa (o' := k * 5 + 3) (E.tmp rfl) fo_119_3_11 rfl) ⟨trivial, rfl, H⟩
   ·
    refine ⟨_, _, _, rfl, rfl, rfl, fun ν a w rs E hk ht H => ?_⟩
    have E := Env.add (v := .pointer (some ⟨rb, k * 5 + 3, none⟩)) E (ht 6 (by decide) _ _ 42 rfl rfl rfl)
    have H : Tr.Inv w0 F w ([Opn rb cA 119 5 m (d1) [.slice (some ⟨tb, to, none⟩) (tl.length + 1) ct, .int .i64 (pc), .int .i64 (t), .int .i64 (y.bottom), .int .i64 (x)] (d2)] ++ ([] ++ rs)) := H
    exact Gives.val rfl (r_load (E.tmp rfl) ag_2_11 (H.opn_cell 0 rfl hd1 (j := 3) rfl)) ⟨trivial, rfl, H⟩
   ·
    refine ⟨_, _, _, rfl, rfl, rfl, fun ν a w rs E hk ht H => ?_⟩
    have E := Env.add (v := .int .i64 (t)) E (ht 3 (by decide) _ _ 39 rfl rfl rfl)
    have E := Env.add (v := .int .i64 (y.bottom)) E (ht 7 (by decide) _ _ 43 rfl rfl rfl)
    exact Gives.val rfl (r_bin (E.tmp rfl) (E.tmp rfl) (b_geq (b := decide (y.bottom ≤ t)) rfl)) ⟨trivial, rfl, H⟩
  ·
   refine fun ν a w E hk ht H => ?_
   have E := Env.add E (show a.tmps[44]? = some (.bool (decide (y.bottom ≤ t))) from ht 8 _ _ 44 rfl rfl rfl)
   have H : Tr.Inv w0 F w [Cel dd [.int .i64 (y.top), .int .i64 (y.bottom), .slice (some ⟨bb, 0, none⟩) y.buffer.length cB, .slice (some ⟨rb, 0, none⟩) m cA, .slice AT y.taken.length cT, .slice AR y.refused.length cR] 30, Gr (.slice (some ⟨bb, 0, none⟩) y.buffer.length cB) 2 1 y.buffer.length (y.buffer.flatMap intE), Opn rb cA 119 5 m (d1) [.slice (some ⟨tb, to, none⟩) (tl.length + 1) ct, .int .i64 (pc), .int .i64 (t), .int .i64 (y.bottom), .int .i64 (x)] (d2), Dat (.slice (some ⟨tb, to, none⟩) (tl.length + 1) ct) (tl.length + 1) ((n0 :: tl).flatMap intE), Gr (.slice AT y.taken.length cT) 36 2 y.taken.length (y.taken.flatMap GHanded.enc), Gr (.slice AR y.refused.length cR) 2 1 y.refused.length (y.refused.flatMap intE)] := H
   have E : Env 66 a [(0, .pointer (some ⟨dd, 0, none⟩)), (1, .pointer (some ⟨rb, k * 5, none⟩)), (2, .int .i64 (((k : Nat) : Int))), (6, .pointer (some ⟨rb, k * 5, none⟩)), (7, .pointer (some ⟨rb, k * 5, none⟩)), (8, .pointer (some ⟨rb, k * 5 + 1, none⟩)), (9, .int .i64 (pc)), (15, .bool (pc == 0)), (16, .bool (pc == 0)), (27, .bool (pc == 1)), (28, .bool (pc == 1)), (29, .pointer (some ⟨rb, k * 5, none⟩)), (30, .pointer (some ⟨dd, 0, none⟩)), (31, .pointer (some ⟨dd, 0, none⟩)), (32, .pointer (some ⟨dd, 1, none⟩)), (33, .int .i64 (y.bottom)), (34, .pointer (some ⟨rb, k * 5, none⟩)), (35, .pointer (some ⟨rb, k * 5 + 3, none⟩)), (44, .bool (decide (y.bottom ≤ t)))] := (Env.pick E (Env.pick E (Env.pick E (Env.pick E (Env.pick E (Env.pick E (Env.pick E (Env.pick E (Env.pick E (Env.pick E (Env.pick E (Env.pick E (Env.pick E (Env.pick E (Env.pick E (Env.pick E (Env.pick E (Env.pick E (Env.pick E E.nil rfl) rfl) rfl) rfl) rfl) rfl) rfl) rfl) rfl) rfl) rfl) rfl) rfl) rfl) rfl) rfl) rfl) rfl) rfl)
   clear hk ht
   refine then_n ?_
   rcases bcase (decide (y.bottom ≤ t)) with ts10 | ts10
   ·
    refine cond_f E rfl ts10 ?_
    refine wp_skip (then_n (wp_region_lit ?_))
    refine vm E rfl rfl fun a E => wv E rfl (r_nil (E.tmp rfl)) fun a E => wv E rfl (r_fa (o' := k * 5 + 1) (E.tmp rfl) fo_119_1_11 rfl) fun a E => ?_
    refine w_ostore (vs := [.int .i64 (2)]) (us' := [_, .int .i64 (2), _, _, _]) (rs' := [_, _, Opn _ _ _ _ _ _ [_, .int .i64 (2), _, _, _] _, _, _, _]) (j := 1) E (E.tmp rfl) (ev_c _) rfl rfl sz_2_11 H (i := 2) rfl hd1 rfl rfl rfl rfl (fun a w E H => ?_)
    refine wpList_nil (inb_n ?_)
    refine (post0 E rfl ?_).2
    have H := H.front 5 rfl
    have H := H.front 5 rfl
    have H := H.front 5 rfl
    have H := H.front 5 rfl
    have H := H.front 5 rfl
    have H := H.front 5 rfl
    simp only [stealS, endA, bufAt, Option.getD_some, Int.toNat_natCast, List.headD_cons, List.tail_cons, ts1, ts2, ts10, B1, B2, B3, B4, B5, B6, B7, B8, B9, B10, B11, B12, B13, B14] at hz
    obtain ⟨rfl, rfl⟩ := Prod.mk.inj hz
    exact ⟨_, _, _, _, _, _, rfl, H⟩
   refine cond_t E rfl ts10 ?_
   refine wp_seq (wp_region_lit ?_)
   refine vm E rfl rfl fun a E => ?_
   have H := H.front 3 rfl
   have H := H.front 3 rfl
   obtain ⟨q11F, q11S, q11I, q11b⟩ := Tr.Inv.frame (pre := [Opn rb cA 119 5 m (d1) [.slice (some ⟨tb, to, none⟩) (tl.length + 1) ct, .int .i64 (pc), .int .i64 (t), .int .i64 (y.bottom), .int .i64 (x)] (d2), Dat (.slice (some ⟨tb, to, none⟩) (tl.length + 1) ct) (tl.length + 1) ((n0 :: tl).flatMap intE)]) (rest := [Cel dd [.int .i64 (y.top), .int .i64 (y.bottom), .slice (some ⟨bb, 0, none⟩) y.buffer.length cB, .slice (some ⟨rb, 0, none⟩) m cA, .slice AT y.taken.length cT, .slice AR y.refused.length cR] 30, Gr (.slice (some ⟨bb, 0, none⟩) y.buffer.length cB) 2 1 y.buffer.length (y.buffer.flatMap intE), Gr (.slice AT y.taken.length cT) 36 2 y.taken.length (y.taken.flatMap GHanded.enc), Gr (.slice AR y.refused.length cR) 2 1 y.refused.length (y.refused.flatMap intE)]) H
   refine w_call E rfl (ev_cons (E.tmp rfl) (ev_nil)) ok_218_11 (endI_q rb cA m k tb to ct n0 tl pc t y.bottom x d1 d2 w q11S hd1 hl) ?_
   rintro _ w ⟨q11A, q11c, rfl, hI⟩
   refine ⟨_, rfl, fun a E => ?_⟩
   have H := q11b _ _ hI
   clear hI q11S q11I q11b
   have H : Tr.Inv w0 F w [Opn rb cA 119 5 m (d1) [.slice q11A tl.length q11c, .int .i64 (0), .int .i64 (0), .int .i64 (0), .int .i64 (0)] (d2), Dat (.slice q11A tl.length q11c) tl.length (tl.flatMap intE), Cel dd [.int .i64 (y.top), .int .i64 (y.bottom), .slice (some ⟨bb, 0, none⟩) y.buffer.length cB, .slice (some ⟨rb, 0, none⟩) m cA, .slice AT y.taken.length cT, .slice AR y.refused.length cR] 30, Gr (.slice (some ⟨bb, 0, none⟩) y.buffer.length cB) 2 1 y.buffer.length (y.buffer.flatMap intE), Gr (.slice AT y.taken.length cT) 36 2 y.taken.length (y.taken.flatMap GHanded.enc), Gr (.slice AR y.refused.length cR) 2 1 y.refused.length (y.refused.flatMap intE)] := H
   refine wpList_nil (then_n (wp_ret (then_r (inb_r ?_))))
   refine (post0 E rfl ?_).1
   have H := H.front 5 rfl
   have H := H.front 5 rfl
   have H := H.front 3 rfl
   have H := H.front 3 rfl
   have H := H.front 5 rfl
   have H := H.front 5 rfl
   simp only [stealS, endA, bufAt, Option.getD_some, Int.toNat_natCast, List.headD_cons, List.tail_cons, ts1, ts2, ts10, B1, B2, B3, B4, B5, B6, B7, B8, B9, B10, B11, B12, B13, B14] at hz
   obtain ⟨rfl, rfl⟩ := Prod.mk.inj hz
   exact ⟨_, _, _, _, _, _, rfl, H⟩
 refine cond_t E rfl ts1 ?_
 refine wp_region_lit ?_
 refine vm E rfl rfl fun a E => vm E rfl rfl fun a E => vm E rfl rfl fun a E => wv E rfl (r_nil (E.tmp rfl)) fun a E => wv E rfl (r_fa (o' := 0) (E.tmp rfl) fo_30_0_11 rfl) fun a E => ?_
 refine wv E rfl (r_load (E.tmp rfl) ag_2_11 (H.cell 0 rfl rfl)) fun a E => wv E rfl (r_nil (E.tmp rfl)) fun a E => wv E rfl (r_fa (o' := k * 5 + 2) (E.tmp rfl) fo_119_2_11 rfl) fun a E => ?_
 refine w_ostore (vs := [.int .i64 (y.top)]) (us' := [_, _, .int .i64 (y.top), _, _]) (rs' := [_, _, Opn _ _ _ _ _ _ [_, _, .int .i64 (y.top), _, _] _, _, _, _]) (j := 2) E (E.tmp rfl) (E.tmp rfl) rfl rfl sz_2_11 H (i := 2) rfl hd1 rfl rfl rfl rfl (fun a w E H => ?_)
 refine wv E rfl (r_nil (E.tmp rfl)) fun a E => wv E rfl (r_fa (o' := k * 5 + 1) (E.tmp rfl) fo_119_1_11 rfl) fun a E => ?_
 refine w_ostore (vs := [.int .i64 (1)]) (us' := [_, .int .i64 (1), _, _, _]) (rs' := [_, _, Opn _ _ _ _ _ _ [_, .int .i64 (1), _, _, _] _, _, _, _]) (j := 1) E (E.tmp rfl) (ev_c _) rfl rfl sz_2_11 H (i := 2) rfl hd1 rfl rfl rfl rfl (fun a w E H => ?_)
 refine wpList_nil (inb_n ?_)
 refine (post0 E rfl ?_).2
 have H := H.front 5 rfl
 have H := H.front 5 rfl
 have H := H.front 5 rfl
 have H := H.front 5 rfl
 have H := H.front 5 rfl
 have H := H.front 5 rfl
 simp only [stealS, endA, bufAt, Option.getD_some, Int.toNat_natCast, List.headD_cons, List.tail_cons, ts1, B1, B2, B3, B4, B5, B6, B7, B8, B9, B10, B11, B12, B13, B14] at hz
 obtain ⟨rfl, rfl⟩ := Prod.mk.inj hz
 exact ⟨_, _, _, _, _, _, rfl, H⟩
end Go.Proofs.Ythelpioccjjgfaa
