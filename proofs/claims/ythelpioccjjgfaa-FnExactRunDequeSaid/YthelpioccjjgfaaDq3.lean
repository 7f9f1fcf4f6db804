/- Deques. Printed by gx_dq.py. -/
import Derived.Test.YthelpioccjjgfaaProg
import Derived.Test.YthelpioccjjgfaaSc
import Derived.Test.YthelpioccjjgfaaDDq
import Derived.Test.YthelpioccjjgfaaArith
import Derived.IntWalk
import Derived.Test.YthelpioccjjgfaaDq2
set_option linter.unusedSimpArgs false
set_option linter.unusedVariables false
namespace Go.Tr
def endA (a : GDequeActor) : GDequeActor := ⟨a.todo.tail, 0, 0, 0, 0⟩
def pushS (y : GDeque) (a : GDequeActor) : GDeque × GDequeActor :=
  cond (a.pc == 0) (cond (decide (((y.buffer.length : Nat) : Int) ≤ IntKind.i64.wrap (y.bottom - y.top))) ({ y with refused := y.refused ++ [a.todo.headD 0] }, endA a) (y, { a with b := y.bottom, t := y.top, pc := 1 }))
    (cond (a.pc == 1) ({ y with buffer := y.buffer.set (atI a.b y.buffer.length).toNat (a.todo.headD 0) }, { a with pc := 2 }) ({ y with bottom := IntKind.i64.wrap (a.b + 1) }, endA a))
def bufAt (y : GDeque) (i : Int) : Int := (y.buffer[(atI i y.buffer.length).toNat]?).getD 0
def takeS (y : GDeque) (a : GDequeActor) : GDeque × GDequeActor :=
  cond (a.pc == 0) ({ y with bottom := IntKind.i64.wrap (y.bottom - 1) }, { a with b := IntKind.i64.wrap (y.bottom - 1), pc := 1 })
    (cond (a.pc == 1) (cond (decide (a.b < y.top)) (y, { a with t := y.top, pc := 3 })
        (cond (decide (y.top < a.b)) ({ y with taken := y.taken ++ [⟨0, bufAt y a.b⟩] }, endA a) (y, { a with t := y.top, x := bufAt y a.b, pc := 2 })))
      (cond (a.pc == 2) (cond (y.top == a.t) ({ y with top := IntKind.i64.wrap (a.t + 1), taken := y.taken ++ [⟨0, a.x⟩] }, { a with pc := 3 }) (y, { a with pc := 3 }))
        ({ y with bottom := IntKind.i64.wrap (a.b + 1) }, endA a)))
def stealS (y : GDeque) (a : GDequeActor) (k : Int) : GDeque × GDequeActor :=
  cond (a.pc == 0) (y, { a with t := y.top, pc := 1 })
    (cond (a.pc == 1) (cond (decide (y.bottom ≤ a.t)) (y, endA a) (y, { a with b := y.bottom, pc := 2 }))
      (cond (a.pc == 2) (y, { a with x := bufAt y a.t, pc := 3 })
        (cond (y.top == a.t) ({ y with top := IntKind.i64.wrap (a.t + 1), taken := y.taken ++ [⟨k, a.x⟩] }, endA a) (y, endA a))))
def fullB (x : GDeque) : Bool := decide ((1000 : Int) < x.top) || decide ((1000 : Int) < x.bottom) || decide ((1000 : Int) < ((x.taken.length : Nat) : Int)) || decide ((1000 : Int) < ((x.refused.length : Nat) : Int))
theorem at_nat (i : Int) {n : Nat} (h0 : 0 < n) (h1 : n ≤ 1000) : ∃ k : Nat, atI i n = ((k : Nat) : Int) ∧ k < n := by
  have hn : (0 : Int) < (n : Int) := by omega
  have a1 := Int.tmod_lt_of_pos i hn
  have a2 : -(n : Int) < Int.tmod i n := by
    have := Int.lt_tmod_of_pos i hn
    exact this
  unfold atI
  have hw : IntKind.i64.wrap (Int.tmod i ((n : Nat) : Int) + ((n : Nat) : Int)) = Int.tmod i n + n := IntWalk.i64_in _ (by omega)
  rw [hw]
  have b0 := Int.tmod_nonneg (n : Int) (show 0 ≤ Int.tmod i n + n by omega)
  have b1 := Int.tmod_lt_of_pos (Int.tmod i n + n) hn
  exact ⟨(Int.tmod (Int.tmod i n + n) n).toNat, by omega, by omega⟩
end Go.Tr
namespace Go.Proofs.Ythelpioccjjgfaa
open Go Go.RowKit Go.Proofs Go.Tr
theorem fo_119_1_2 : fldOff Try.prog 119 1 = some 1 := by kernel_rfl
theorem ag_2_2 : aggB Try.prog 2 = some false := by kernel_rfl
theorem fo_119_3_2 : fldOff Try.prog 119 3 = some 3 := by kernel_rfl
theorem fo_30_1_2 : fldOff Try.prog 30 1 = some 1 := by kernel_rfl
theorem sz_2_2 : (Try.prog.info? 2).map (·.size) = some 1 := by kernel_rfl
theorem ok_253_2 : callOk Try.prog 253 = true := by kernel_rfl
theorem fo_30_2_2 : fldOff Try.prog 30 2 = some 2 := by kernel_rfl
theorem ag_24_2 : aggB Try.prog 24 = some false := by kernel_rfl
theorem ok_254_2 : callOk Try.prog 254 = true := by kernel_rfl
theorem fo_119_0_2 : fldOff Try.prog 119 0 = some 0 := by kernel_rfl
theorem el_24_2 : elemOf? Try.prog 24 = some (2, 1) := by kernel_rfl
theorem fo_30_0_2 : fldOff Try.prog 30 0 = some 0 := by kernel_rfl
theorem fo_119_2_2 : fldOff Try.prog 119 2 = some 2 := by kernel_rfl
theorem fo_30_5_2 : fldOff Try.prog 30 5 = some 5 := by kernel_rfl
theorem eo_24_2 : ElemOk Try.prog 24 2 1 := ElemOk.of Try.underlying24 (by kernel_rfl) (by omega)
theorem sz_24_2 : (Try.prog.info? 24).map (·.size) = some 1 := by kernel_rfl
set_option maxHeartbeats 1000000 in
theorem l23Push_q (y : GDeque) (dd bb cB cT cR : Nat) (AT AR : Option Addr) (rb cA m k tb to ct : Nat) (n0 : Int) (tl : List Int) (pc t b x : Int) (d1 d2 : List D) (z : GDeque) (v : GDequeActor) (w0 : World) {F : List Nat} (hS : Sep w0 [Cel dd [.int .i64 (y.top), .int .i64 (y.bottom), .slice (some ⟨bb, 0, none⟩) y.buffer.length cB, .slice (some ⟨rb, 0, none⟩) m cA, .slice AT y.taken.length cT, .slice AR y.refused.length cR] 30, Gr (.slice (some ⟨bb, 0, none⟩) y.buffer.length cB) 2 1 y.buffer.length (y.buffer.flatMap intE), Opn rb cA 119 5 m (d1) [.slice (some ⟨tb, to, none⟩) (tl.length + 1) ct, .int .i64 (pc), .int .i64 (t), .int .i64 (b), .int .i64 (x)] (d2), Dat (.slice (some ⟨tb, to, none⟩) (tl.length + 1) ct) (tl.length + 1) ((n0 :: tl).flatMap intE), Gr (.slice AT y.taken.length cT) 36 2 y.taken.length (y.taken.flatMap GHanded.enc), Gr (.slice AR y.refused.length cR) 2 1 y.refused.length (y.refused.flatMap intE)] F) (hd1 : d1.length = k * 5) (hl : tl.length ≤ 1000) (hb0 : 0 < y.buffer.length) (hb1 : y.buffer.length ≤ 1000) (ht1 : y.taken.length ≤ 100000) (hr1 : y.refused.length ≤ 100000) (hz : (z, v) = pushS y ⟨n0 :: tl, pc, t, b, x⟩) (hpc : pc = 0 ∨ pc = 1 ∨ pc = 2) : Calls Try.prog 211 #[.pointer (some ⟨dd, 0, none⟩), .pointer (some ⟨rb, k * 5, none⟩)] w0 fun e w' => ∃ AT' cT' AR' cR' At' ct', e = .returned (.tuple #[]) ∧ Tr.Inv w0 F w' [Cel dd [.int .i64 (z.top), .int .i64 (z.bottom), .slice (some ⟨bb, 0, none⟩) y.buffer.length cB, .slice (some ⟨rb, 0, none⟩) m cA, .slice AT' z.taken.length cT', .slice AR' z.refused.length cR'] 30, Gr (.slice (some ⟨bb, 0, none⟩) y.buffer.length cB) 2 1 y.buffer.length (z.buffer.flatMap intE), Opn rb cA 119 5 m (d1) [.slice At' v.todo.length ct', .int .i64 (v.pc), .int .i64 (v.t), .int .i64 (v.b), .int .i64 (v.x)] (d2), Dat (.slice At' v.todo.length ct') v.todo.length (v.todo.flatMap intE), Gr (.slice AT' z.taken.length cT') 36 2 z.taken.length (z.taken.flatMap GHanded.enc), Gr (.slice AR' z.refused.length cR') 2 1 z.refused.length (z.refused.flatMap intE)] := by
 refine enter_i (args := [.pointer (some ⟨dd, 0, none⟩), .pointer (some ⟨rb, k * 5, none⟩)]) Try.func211 rfl Try.ntmps211 rfl hS (fun a w E H => ?_)
 have E : Env 93 a [(0, .pointer (some ⟨dd, 0, none⟩)), (1, .pointer (some ⟨rb, k * 5, none⟩))] := E
 refine wp_seq (wp_region_lit ?_)
 refine vm E rfl rfl fun a E => wv E rfl (r_nil (E.tmp rfl)) fun a E => wv E rfl (r_fa (o' := k * 5 + 1) (E.tmp rfl) fo_119_1_2 rfl) fun a E => wv E rfl (r_load (E.tmp rfl) ag_2_2 (H.opn_cell 2 rfl hd1 (j := 1) rfl)) fun a E => ?_
 refine wpList_nil (then_n (wp_block (wp_seq (wp_region_lit ?_))))
 refine wv E rfl (r_bin (E.tmp rfl) (ev_c _) (b_eql (b := pc == 0) rfl)) fun a E => va E rfl rfl fun a E => ?_
 refine wpList_nil (then_n ?_)
 rcases bcase (pc == 0) with ts1 | ts1
 ·
  refine cond_f E rfl ts1 ?_
  refine wp_seq (wp_region_lit ?_)
  refine wv E rfl (r_bin (E.tmp rfl) (ev_c _) (b_eql (b := pc == 1) rfl)) fun a E => va E rfl rfl fun a E => ?_
  refine wpList_nil (then_n ?_)
  rcases bcase (pc == 1) with ts2 | ts2
  ·
   refine cond_f E rfl ts2 ?_
   refine wp_seq ?_
   have h2 : (pc == 2) = true := by have h0 := ts1; have h1 := ts2; simp at h0 h1 ⊢; omega
   refine wp_region_lit ?_
   refine wv E rfl (r_bin (E.tmp rfl) (ev_c _) (b_eql (b := true) h2)) fun a E => va E rfl rfl fun a E => ?_
   refine wpList_nil (then_n ?_)
   refine cond_t E rfl rfl ?_
   refine wp_seq (wp_region_lit ?_)
   refine vm E rfl rfl fun a E => vm E rfl rfl fun a E => wv E rfl (r_nil (E.tmp rfl)) fun a E => wv E rfl (r_fa (o' := k * 5 + 3) (E.tmp rfl) fo_119_3_2 rfl) fun a E => wv E rfl (r_load (E.tmp rfl) ag_2_2 (H.opn_cell 2 rfl hd1 (j := 3) rfl)) fun a E => ?_
   refine wv E rfl (r_bin (E.tmp rfl) (ev_c _) (b_add rfl)) fun a E => wv E rfl (r_nil (E.tmp rfl)) fun a E => wv E rfl (r_fa (o' := 1) (E.tmp rfl) fo_30_1_2 rfl) fun a E => ?_
   refine w_store (cs' := [_, .int .i64 (IntKind.i64.wrap (b + 1)), _, _, _, _]) (rs' := [Cel _ [_, .int .i64 (IntKind.i64.wrap (b + 1)), _, _, _, _] _, _, _, _, _, _]) E (E.tmp rfl) (E.tmp rfl) rfl rfl sz_2_2 H (i := 0) rfl rfl rfl rfl (fun a w E H => ?_)
   refine wpList_nil (then_n (wp_region_lit ?_))
   refine vm E rfl rfl fun a E => ?_
   have H := H.front 3 rfl
   have H := H.front 3 rfl
   obtain ⟨q3F, q3S, q3I, q3b⟩ := Tr.Inv.frame (pre := [Opn rb cA 119 5 m (d1) [.slice (some ⟨tb, to, none⟩) (tl.length + 1) ct, .int .i64 (pc), .int .i64 (t), .int .i64 (b), .int .i64 (x)] (d2), Dat (.slice (some ⟨tb, to, none⟩) (tl.length + 1) ct) (tl.length + 1) ((n0 :: tl).flatMap intE)]) (rest := [Cel dd [.int .i64 (y.top), .int .i64 (IntKind.i64.wrap (b + 1)), .slice (some ⟨bb, 0, none⟩) y.buffer.length cB, .slice (some ⟨rb, 0, none⟩) m cA, .slice AT y.taken.length cT, .slice AR y.refused.length cR] 30, Gr (.slice (some ⟨bb, 0, none⟩) y.buffer.length cB) 2 1 y.buffer.length (y.buffer.flatMap intE), Gr (.slice AT y.taken.length cT) 36 2 y.taken.length (y.taken.flatMap GHanded.enc), Gr (.slice AR y.refused.length cR) 2 1 y.refused.length (y.refused.flatMap intE)]) H
   refine w_call E rfl (ev_cons (E.tmp rfl) (ev_nil)) ok_253_2 (l23End_q rb cA m k tb to ct n0 tl pc t b x d1 d2 w q3S hd1 hl) ?_
   rintro _ w ⟨q3A, q3c, rfl, hI⟩
   refine ⟨_, rfl, fun a E => ?_⟩
   have H := q3b _ _ hI
   clear hI q3S q3I q3b
   have H : Tr.Inv w0 F w [Opn rb cA 119 5 m (d1) [.slice q3A tl.length q3c, .int .i64 (0), .int .i64 (0), .int .i64 (0), .int .i64 (0)] (d2), Dat (.slice q3A tl.length q3c) tl.length (tl.flatMap intE), Cel dd [.int .i64 (y.top), .int .i64 (IntKind.i64.wrap (b + 1)), .slice (some ⟨bb, 0, none⟩) y.buffer.length cB, .slice (some ⟨rb, 0, none⟩) m cA, .slice AT y.taken.length cT, .slice AR y.refused.length cR] 30, Gr (.slice (some ⟨bb, 0, none⟩) y.buffer.length cB) 2 1 y.buffer.length (y.buffer.flatMap intE), Gr (.slice AT y.taken.length cT) 36 2 y.taken.length (y.taken.flatMap GHanded.enc), Gr (.slice AR y.refused.length cR) 2 1 y.refused.length (y.refused.flatMap intE)] := H
   refine wpList_nil (inb_n ?_)
   refine (post0 E rfl ?_).2
   have H := H.front 5 rfl
   have H := H.front 5 rfl
   have H := H.front 3 rfl
   have H := H.front 3 rfl
   have H := H.front 5 rfl
   have H := H.front 5 rfl
   simp only [pushS, endA, bufAt, Option.getD_some, Int.toNat_natCast, List.headD_cons, List.tail_cons, ts1, ts2, h2, B1, B2, B3, B4, B5, B6, B7, B8, B9, B10, B11, B12, B13, B14] at hz
   obtain ⟨rfl, rfl⟩ := Prod.mk.inj hz
   exact ⟨_, _, _, _, _, _, rfl, H⟩
  refine cond_t E rfl ts2 ?_
  refine wp_seq ?_
  obtain ⟨kk, hkk, hkl⟩ := at_nat b hb0 hb1
  have H := H.front 1 rfl
  obtain ⟨old, u4u, hold, H⟩ := H.openL (f := intE) (s := 1) (fun _ => rfl) rfl hkl
  obtain ⟨u4v, rfl, H⟩ := (H.front 1 rfl).dn_v
  obtain ⟨rfl, H⟩ := H.dn_e
  have H : Tr.Inv w0 F w [Opn bb cB 2 1 y.buffer.length ((y.buffer.take kk).flatMap intE) [.int .i64 (old)] ((y.buffer.drop (kk + 1)).flatMap intE), Cel dd [.int .i64 (y.top), .int .i64 (y.bottom), .slice (some ⟨bb, 0, none⟩) y.buffer.length cB, .slice (some ⟨rb, 0, none⟩) m cA, .slice AT y.taken.length cT, .slice AR y.refused.length cR] 30, Opn rb cA 119 5 m (d1) [.slice (some ⟨tb, to, none⟩) (tl.length + 1) ct, .int .i64 (pc), .int .i64 (t), .int .i64 (b), .int .i64 (x)] (d2), Dat (.slice (some ⟨tb, to, none⟩) (tl.length + 1) ct) (tl.length + 1) ((n0 :: tl).flatMap intE), Gr (.slice AT y.taken.length cT) 36 2 y.taken.length (y.taken.flatMap GHanded.enc), Gr (.slice AR y.refused.length cR) 2 1 y.refused.length (y.refused.flatMap intE)] := H
  let fl9 : Flow := ⟨[.c (.pointer (some ⟨dd, 0, none⟩)), .c (.pointer (some ⟨dd, 0, none⟩)), .c (.pointer (some ⟨dd, 2, none⟩)), { dep := [], val := fun _ => .slice (some ⟨bb, 0, none⟩) y.buffer.length cB, rd := [1] }, .c (.pointer (some ⟨dd, 0, none⟩)), .c (.pointer (some ⟨rb, k * 5, none⟩)), .c (.pointer (some ⟨rb, k * 5, none⟩)), .c (.pointer (some ⟨rb, k * 5 + 3, none⟩)), { dep := [], val := fun _ => .int .i64 (b), rd := [2] }, { dep := [], val := fun _ => .int .i64 (((kk : Nat) : Int)), rd := [1] }, .c (.pointer (some ⟨rb, k * 5, none⟩)), .c (.pointer (some ⟨rb, k * 5, none⟩)), .c (.pointer (some ⟨rb, k * 5, none⟩)), { dep := [], val := fun _ => .slice (some ⟨tb, to, none⟩) (tl.length + 1) ct, rd := [2] }, .c (.pointer (some ⟨tb, to, none⟩)), { dep := [], val := fun _ => .int .i64 (n0), rd := [3] }, .c (.pointer (some ⟨bb, kk * 1, none⟩)), .c (undef)], [{ dep := [], res := fun _ => Opn bb cB 2 1 y.buffer.length ((y.buffer.take kk).flatMap intE) [.int .i64 (old)] ((y.buffer.drop (kk + 1)).flatMap intE), prod := none, cons := some 17 }, { dep := [], res := fun _ => Cel dd [.int .i64 (y.top), .int .i64 (y.bottom), .slice (some ⟨bb, 0, none⟩) y.buffer.length cB, .slice (some ⟨rb, 0, none⟩) m cA, .slice AT y.taken.length cT, .slice AR y.refused.length cR] 30, prod := none, cons := none }, { dep := [], res := fun _ => Opn rb cA 119 5 m (d1) [.slice (some ⟨tb, to, none⟩) (tl.length + 1) ct, .int .i64 (pc), .int .i64 (t), .int .i64 (b), .int .i64 (x)] (d2), prod := none, cons := none }, { dep := [], res := fun _ => Dat (.slice (some ⟨tb, to, none⟩) (tl.length + 1) ct) (tl.length + 1) ((n0 :: tl).flatMap intE), prod := none, cons := none }, { dep := [], res := fun _ => Gr (.slice AT y.taken.length cT) 36 2 y.taken.length (y.taken.flatMap GHanded.enc), prod := none, cons := none }, { dep := [], res := fun _ => Gr (.slice AR y.refused.length cR) 2 1 y.refused.length (y.refused.flatMap intE), prod := none, cons := none }, { dep := [], res := fun _ => Opn bb cB 2 1 y.buffer.length ((y.buffer.take kk).flatMap intE) [.int .i64 (n0)] ((y.buffer.drop (kk + 1)).flatMap intE), prod := some 17, cons := none }], [[], [0], [0, 1], [0, 1, 2], [], [], [5], [5, 6], [5, 6, 7], [4, 5, 6, 7, 8], [], [10], [10, 11], [10, 11, 12], [10, 11, 12, 13], [10, 11, 12, 13, 14], [0, 1, 2, 3, 4, 5, 6, 7, 8, 9, 10, 11, 12, 13, 14, 15], [0, 1, 2, 3, 4, 5, 6, 7, 8, 9, 10, 11, 12, 13, 14, 15, 16]]⟩
  have E : Env 93 a [(0, .pointer (some ⟨dd, 0, none⟩)), (1, .pointer (some ⟨rb, k * 5, none⟩)), (4, .pointer (some ⟨rb, k * 5, none⟩)), (5, .pointer (some ⟨rb, k * 5, none⟩)), (6, .pointer (some ⟨rb, k * 5 + 1, none⟩)), (7, .int .i64 (pc)), (8, .bool (pc == 0)), (9, .bool (pc == 0)), (59, .bool (pc == 1)), (60, .bool (pc == 1))] := (Env.pick E (Env.pick E (Env.pick E (Env.pick E (Env.pick E (Env.pick E (Env.pick E (Env.pick E (Env.pick E (Env.pick E E.nil rfl) rfl) rfl) rfl) rfl) rfl) rfl) rfl) rfl) rfl)
  refine wp_flow (rs := []) rfl fl9 E (by rw [List.append_nil]; exact H) 18 rfl (by kernel_rfl) ?_ ?_
  ·
   refine AllTo.snoc (AllTo.snoc (AllTo.snoc (AllTo.snoc (AllTo.snoc (AllTo.snoc (AllTo.snoc (AllTo.snoc (AllTo.snoc (AllTo.snoc (AllTo.snoc (AllTo.snoc (AllTo.snoc (AllTo.snoc (AllTo.snoc (AllTo.snoc (AllTo.snoc (AllTo.snoc (AllTo.zero _) ?_) ?_) ?_) ?_) ?_) ?_) ?_) ?_) ?_) ?_) ?_) ?_) ?_) ?_) ?_) ?_) ?_) ?_
   ·
    refine ⟨_, _, _, rfl, rfl, rfl, fun ν a w rs E hk ht H => ?_⟩
    exact Gives.val rfl (r_move (E.tmp rfl)) ⟨trivial, rfl, H⟩
   ·
    refine ⟨_, _, _, rfl, rfl, rfl, fun ν a w rs E hk ht H => ?_⟩
    have E := Env.add (v := .pointer (some ⟨dd, 0, none⟩)) E (ht 0 (by decide) _ _ 61 rfl rfl rfl)
    exact Gives.val rfl (r_nil (E.tmp rfl)) ⟨trivial, rfl, H⟩
   ·
    refine ⟨_, _, _, rfl, rfl, rfl, fun ν a w rs E hk ht H => ?_⟩
    have E := Env.add (v := .pointer (some ⟨dd, 0, none⟩)) E (ht 1 (by decide) _ _ 62 rfl rfl rfl)
    exact Gives.val rfl (r_fa (o' := 2) (E.tmp rfl) fo_30_2_2 rfl) ⟨trivial, rfl, H⟩
   ·
    refine ⟨_, _, _, rfl, rfl, rfl, fun ν a w rs E hk ht H => ?_⟩
    have E := Env.add (v := .pointer (some ⟨dd, 2, none⟩)) E (ht 2 (by decide) _ _ 63 rfl rfl rfl)
    have H : Tr.Inv w0 F w ([Cel dd [.int .i64 (y.top), .int .i64 (y.bottom), .slice (some ⟨bb, 0, none⟩) y.buffer.length cB, .slice (some ⟨rb, 0, none⟩) m cA, .slice AT y.taken.length cT, .slice AR y.refused.length cR] 30] ++ ([] ++ rs)) := H
    exact Gives.val rfl (r_load (E.tmp rfl) ag_24_2 (H.cell 0 rfl rfl)) ⟨trivial, rfl, H⟩
   ·
    refine ⟨_, _, _, rfl, rfl, rfl, fun ν a w rs E hk ht H => ?_⟩
    exact Gives.val rfl (r_move (E.tmp rfl)) ⟨trivial, rfl, H⟩
   ·
    refine ⟨_, _, _, rfl, rfl, rfl, fun ν a w rs E hk ht H => ?_⟩
    exact Gives.val rfl (r_move (E.tmp rfl)) ⟨trivial, rfl, H⟩
   ·
    refine ⟨_, _, _, rfl, rfl, rfl, fun ν a w rs E hk ht H => ?_⟩
    have E := Env.add (v := .pointer (some ⟨rb, k * 5, none⟩)) E (ht 5 (by decide) _ _ 66 rfl rfl rfl)
    exact Gives.val rfl (r_nil (E.tmp rfl)) ⟨trivial, rfl, H⟩
   ·
    refine ⟨_, _, _, rfl, rfl, rfl, fun ν a w rs E hk ht H => ?_⟩
    have E := Env.add (v := .pointer (some ⟨rb, k * 5, none⟩)) E (ht 6 (by decide) _ _ 67 rfl rfl rfl)
    exact Gives.val rfl (r_fa (o' := k * 5 + 3) (E.tmp rfl) fo_119_3_2 rfl) ⟨trivial, rfl, H⟩
   ·
    refine ⟨_, _, _, rfl, rfl, rfl, fun ν a w rs E hk ht H => ?_⟩
    have E := Env.add (v := .pointer (some ⟨rb, k * 5 + 3, none⟩)) E (ht 7 (by decide) _ _ 68 rfl rfl rfl)
    have H : Tr.Inv w0 F w ([Opn rb cA 119 5 m (d1) [.slice (some ⟨tb, to, none⟩) (tl.length + 1) ct, .int .i64 (pc), .int .i64 (t), .int .i64 (b), .int .i64 (x)] (d2)] ++ ([] ++ rs)) := H
    exact Gives.val rfl (r_load (E.tmp rfl) ag_2_2 (H.opn_cell 0 rfl hd1 (j := 3) rfl)) ⟨trivial, rfl, H⟩
   ·
    refine ⟨_, _, _, rfl, rfl, rfl, fun ν a w rs E hk ht H => ?_⟩
    have E := Env.add (v := .pointer (some ⟨dd, 0, none⟩)) E (ht 4 (by decide) _ _ 65 rfl rfl rfl)
    have E := Env.add (v := .int .i64 (b)) E (ht 8 (by decide) _ _ 69 rfl rfl rfl)
    have H : Tr.Inv w0 F w ([Cel dd [.int .i64 (y.top), .int .i64 (y.bottom), .slice (some ⟨bb, 0, none⟩) y.buffer.length cB, .slice (some ⟨rb, 0, none⟩) m cA, .slice AT y.taken.length cT, .slice AR y.refused.length cR] 30] ++ ([] ++ rs)) := H
    exact Gives.call (R := (fun e w' => e = .returned (.int .i64 (((kk : Nat) : Int))) ∧ Ext w w')) rfl (r_call (ev_cons (E.tmp rfl) (ev_cons (E.tmp rfl) (ev_nil))) ok_254_2) ((by rw [← hkk]; exact l23At_q dd y.buffer.length cB _ b w (H.roc 0 rfl rfl) hb0)) fun e w2 ⟨he, hb⟩ => ⟨_, he, trivial, rfl, H.ext hb⟩
   ·
    refine ⟨_, _, _, rfl, rfl, rfl, fun ν a w rs E hk ht H => ?_⟩
    exact Gives.val rfl (r_move (E.tmp rfl)) ⟨trivial, rfl, H⟩
   ·
    refine ⟨_, _, _, rfl, rfl, rfl, fun ν a w rs E hk ht H => ?_⟩
    have E := Env.add (v := .pointer (some ⟨rb, k * 5, none⟩)) E (ht 10 (by decide) _ _ 71 rfl rfl rfl)
    exact Gives.val rfl (r_nil (E.tmp rfl)) ⟨trivial, rfl, H⟩
   ·
    refine ⟨_, _, _, rfl, rfl, rfl, fun ν a w rs E hk ht H => ?_⟩
    have E := Env.add (v := .pointer (some ⟨rb, k * 5, none⟩)) E (ht 11 (by decide) _ _ 72 rfl rfl rfl)
    exact Gives.val rfl (r_fa (o' := k * 5) (E.tmp rfl) fo_119_0_2 rfl) ⟨trivial, rfl, H⟩
   ·
    refine ⟨_, _, _, rfl, rfl, rfl, fun ν a w rs E hk ht H => ?_⟩
    have E := Env.add (v := .pointer (some ⟨rb, k * 5, none⟩)) E (ht 12 (by decide) _ _ 73 rfl rfl rfl)
    have H : Tr.Inv w0 F w ([Opn rb cA 119 5 m (d1) [.slice (some ⟨tb, to, none⟩) (tl.length + 1) ct, .int .i64 (pc), .int .i64 (t), .int .i64 (b), .int .i64 (x)] (d2)] ++ ([] ++ rs)) := H
    exact Gives.val rfl (r_load (E.tmp rfl) ag_24_2 (H.opn_cell 0 rfl hd1 (j := 0) rfl)) ⟨trivial, rfl, H⟩
   ·
    refine ⟨_, _, _, rfl, rfl, rfl, fun ν a w rs E hk ht H => ?_⟩
    have E := Env.add (v := .slice (some ⟨tb, to, none⟩) (tl.length + 1) ct) E (ht 13 (by decide) _ _ 74 rfl rfl rfl)
    exact Gives.val rfl (r_ia (k := 0) (o' := to) (E.tmp rfl) (ev_c _) rfl el_24_2 (by omega) rfl) ⟨trivial, rfl, H⟩
   ·
    refine ⟨_, _, _, rfl, rfl, rfl, fun ν a w rs E hk ht H => ?_⟩
    have E := Env.add (v := .pointer (some ⟨tb, to, none⟩)) E (ht 14 (by decide) _ _ 75 rfl rfl rfl)
    have H : Tr.Inv w0 F w ([Dat (.slice (some ⟨tb, to, none⟩) (tl.length + 1) ct) (tl.length + 1) ((n0 :: tl).flatMap intE)] ++ ([] ++ rs)) := H
    exact Gives.val rfl (r_load (E.tmp rfl) ag_2_2 (H.dat_cell 0 rfl rfl 0 rfl)) ⟨trivial, rfl, H⟩
   ·
    refine ⟨_, _, _, rfl, rfl, rfl, fun ν a w rs E hk ht H => ?_⟩
    have E := Env.add (v := .slice (some ⟨bb, 0, none⟩) y.buffer.length cB) E (ht 3 (by decide) _ _ 64 rfl rfl rfl)
    have E := Env.add (v := .int .i64 (((kk : Nat) : Int))) E (ht 9 (by decide) _ _ 70 rfl rfl rfl)
    exact Gives.val rfl (r_ia (k := kk) (o' := kk * 1) (E.tmp rfl) (E.tmp rfl) rfl el_24_2 (by omega) (Nat.zero_add _)) ⟨trivial, rfl, H⟩
   ·
    refine ⟨_, _, _, rfl, rfl, rfl, fun ν a w rs E hk ht H => ?_⟩
    have E := Env.add (v := .int .i64 (n0)) E (ht 15 (by decide) _ _ 76 rfl rfl rfl)
    have E := Env.add (v := .pointer (some ⟨bb, kk * 1, none⟩)) E (ht 16 (by decide) _ _ 77 rfl rfl rfl)
    have H : Tr.Inv w0 F w ([] ++ ([Opn bb cB 2 1 y.buffer.length ((y.buffer.take kk).flatMap intE) [.int .i64 (old)] ((y.buffer.drop (kk + 1)).flatMap intE)] ++ rs)) := H
    exact Gives.skp rfl (r_ostore (vs := [.int .i64 (n0)]) (j := 0) (E.tmp rfl) (E.tmp rfl) rfl rfl sz_2_2 H (i := 0) rfl (take_len intE 1 (fun _ => rfl) hkl) rfl rfl) ⟨trivial, rfl, H.opn_put 0 rfl (take_len intE 1 (fun _ => rfl) hkl) rfl rfl⟩
  ·
   refine fun ν a w E hk ht H => ?_
   have H : Tr.Inv w0 F w [Cel dd [.int .i64 (y.top), .int .i64 (y.bottom), .slice (some ⟨bb, 0, none⟩) y.buffer.length cB, .slice (some ⟨rb, 0, none⟩) m cA, .slice AT y.taken.length cT, .slice AR y.refused.length cR] 30, Opn rb cA 119 5 m (d1) [.slice (some ⟨tb, to, none⟩) (tl.length + 1) ct, .int .i64 (pc), .int .i64 (t), .int .i64 (b), .int .i64 (x)] (d2), Dat (.slice (some ⟨tb, to, none⟩) (tl.length + 1) ct) (tl.length + 1) ((n0 :: tl).flatMap intE), Gr (.slice AT y.taken.length cT) 36 2 y.taken.length (y.taken.flatMap GHanded.enc), Gr (.slice AR y.refused.length cR) 2 1 y.refused.length (y.refused.flatMap intE), Opn bb cB 2 1 y.buffer.length ((y.buffer.take kk).flatMap intE) [.int .i64 (n0)] ((y.buffer.drop (kk + 1)).flatMap intE)] := H
   have E : Env 93 a [(0, .pointer (some ⟨dd, 0, none⟩)), (1, .pointer (some ⟨rb, k * 5, none⟩)), (4, .pointer (some ⟨rb, k * 5, none⟩)), (5, .pointer (some ⟨rb, k * 5, none⟩)), (6, .pointer (some ⟨rb, k * 5 + 1, none⟩)), (7, .int .i64 (pc)), (8, .bool (pc == 0)), (9, .bool (pc == 0)), (59, .bool (pc == 1)), (60, .bool (pc == 1))] := (Env.pick E (Env.pick E (Env.pick E (Env.pick E (Env.pick E (Env.pick E (Env.pick E (Env.pick E (Env.pick E (Env.pick E E.nil rfl) rfl) rfl) rfl) rfl) rfl) rfl) rfl) rfl) rfl)
   clear hk ht
   refine then_n (wp_region_lit ?_)
   refine vm E rfl rfl fun a E => wv E rfl (r_nil (E.tmp rfl)) fun a E => wv E rfl (r_fa (o' := k * 5 + 1) (E.tmp rfl) fo_119_1_2 rfl) fun a E => ?_
   refine w_ostore (vs := [.int .i64 (2)]) (us' := [_, .int .i64 (2), _, _, _]) (rs' := [_, Opn _ _ _ _ _ _ [_, .int .i64 (2), _, _, _] _, _, _, _, _]) (j := 1) E (E.tmp rfl) (ev_c _) rfl rfl sz_2_2 H (i := 1) rfl hd1 rfl rfl rfl rfl (fun a w E H => ?_)
   refine wpList_nil (inb_n ?_)
   refine (post0 E rfl ?_).2
   have H := H.front 5 rfl
   have H := (H.flat (us := [.int .i64 (n0)]) rfl).front 1 rfl
   have H := Tr.Inv.shutL (f := intE) (y := n0) H hkl
   have H : Tr.Inv w0 F w [Gr (.slice (some ⟨bb, 0, none⟩) y.buffer.length cB) 2 1 y.buffer.length ((y.buffer.set kk n0).flatMap intE), Cel dd [.int .i64 (y.top), .int .i64 (y.bottom), .slice (some ⟨bb, 0, none⟩) y.buffer.length cB, .slice (some ⟨rb, 0, none⟩) m cA, .slice AT y.taken.length cT, .slice AR y.refused.length cR] 30, Opn rb cA 119 5 m (d1) [.slice (some ⟨tb, to, none⟩) (tl.length + 1) ct, .int .i64 (2), .int .i64 (t), .int .i64 (b), .int .i64 (x)] (d2), Dat (.slice (some ⟨tb, to, none⟩) (tl.length + 1) ct) (tl.length + 1) ((n0 :: tl).flatMap intE), Gr (.slice AT y.taken.length cT) 36 2 y.taken.length (y.taken.flatMap GHanded.enc), Gr (.slice AR y.refused.length cR) 2 1 y.refused.length (y.refused.flatMap intE)] := H
   have H := H.front 5 rfl
   have H := H.front 5 rfl
   have H := H.front 5 rfl
   have H := H.front 5 rfl
   have H := H.front 4 rfl
   have H := H.front 5 rfl
   simp only [pushS, endA, bufAt, Option.getD_some, Int.toNat_natCast, List.headD_cons, List.tail_cons, ts1, ts2, hkk, hold, B1, B2, B3, B4, B5, B6, B7, B8, B9, B10, B11, B12, B13, B14] at hz
   obtain ⟨rfl, rfl⟩ := Prod.mk.inj hz
   exact ⟨_, _, _, _, _, _, rfl, H⟩
 refine cond_t E rfl ts1 ?_
 refine wp_seq (wp_region_lit ?_)
 refine vm E rfl rfl fun a E => vm E rfl rfl fun a E => wv E rfl (r_nil (E.tmp rfl)) fun a E => wv E rfl (r_fa (o' := 1) (E.tmp rfl) fo_30_1_2 rfl) fun a E => wv E rfl (r_load (E.tmp rfl) ag_2_2 (H.cell 0 rfl rfl)) fun a E => ?_
 refine wv E rfl (r_nil (E.tmp rfl)) fun a E => wv E rfl (r_fa (o' := k * 5 + 3) (E.tmp rfl) fo_119_3_2 rfl) fun a E => ?_
 refine w_ostore (vs := [.int .i64 (y.bottom)]) (us' := [_, _, _, .int .i64 (y.bottom), _]) (rs' := [_, _, Opn _ _ _ _ _ _ [_, _, _, .int .i64 (y.bottom), _] _, _, _, _]) (j := 3) E (E.tmp rfl) (E.tmp rfl) rfl rfl sz_2_2 H (i := 2) rfl hd1 rfl rfl rfl rfl (fun a w E H => ?_)
 refine wpList_nil (then_n (wp_seq (wp_region_lit ?_)))
 refine vm E rfl rfl fun a E => vm E rfl rfl fun a E => wv E rfl (r_nil (E.tmp rfl)) fun a E => wv E rfl (r_fa (o' := 0) (E.tmp rfl) fo_30_0_2 rfl) fun a E => wv E rfl (r_load (E.tmp rfl) ag_2_2 (H.cell 0 rfl rfl)) fun a E => ?_
 refine wv E rfl (r_nil (E.tmp rfl)) fun a E => wv E rfl (r_fa (o' := k * 5 + 2) (E.tmp rfl) fo_119_2_2 rfl) fun a E => ?_
 refine w_ostore (vs := [.int .i64 (y.top)]) (us' := [_, _, .int .i64 (y.top), _, _]) (rs' := [_, _, Opn _ _ _ _ _ _ [_, _, .int .i64 (y.top), _, _] _, _, _, _]) (j := 2) E (E.tmp rfl) (E.tmp rfl) rfl rfl sz_2_2 H (i := 2) rfl hd1 rfl rfl rfl rfl (fun a w E H => ?_)
 refine wpList_nil (then_n (wp_seq (wp_region_lit ?_)))
 refine vm E rfl rfl fun a E => wv E rfl (r_nil (E.tmp rfl)) fun a E => wv E rfl (r_fa (o' := k * 5 + 1) (E.tmp rfl) fo_119_1_2 rfl) fun a E => ?_
 refine w_ostore (vs := [.int .i64 (1)]) (us' := [_, .int .i64 (1), _, _, _]) (rs' := [_, _, Opn _ _ _ _ _ _ [_, .int .i64 (1), _, _, _] _, _, _, _]) (j := 1) E (E.tmp rfl) (ev_c _) rfl rfl sz_2_2 H (i := 2) rfl hd1 rfl rfl rfl rfl (fun a w E H => ?_)
 refine wpList_nil (then_n (wp_seq ?_))
 let fl5 : Flow := ⟨[.c (.pointer (some ⟨rb, k * 5, none⟩)), .c (.pointer (some ⟨rb, k * 5, none⟩)), .c (.pointer (some ⟨rb, k * 5 + 3, none⟩)), { dep := [], val := fun _ => .int .i64 (y.bottom), rd := [2] }, .c (.pointer (some ⟨rb, k * 5, none⟩)), .c (.pointer (some ⟨rb, k * 5, none⟩)), .c (.pointer (some ⟨rb, k * 5 + 2, none⟩)), { dep := [], val := fun _ => .int .i64 (y.top), rd := [2] }, .c (.int .i64 (IntKind.i64.wrap (y.bottom - y.top))), .c (.pointer (some ⟨dd, 0, none⟩)), .c (.pointer (some ⟨dd, 0, none⟩)), .c (.pointer (some ⟨dd, 2, none⟩)), { dep := [], val := fun _ => .slice (some ⟨bb, 0, none⟩) y.buffer.length cB, rd := [0] }, .c (.int .i64 (((y.buffer.length : Nat) : Int))), .c (.bool (decide (((y.buffer.length : Nat) : Int) ≤ IntKind.i64.wrap (y.bottom - y.top))))], [{ dep := [], res := fun _ => Cel dd [.int .i64 (y.top), .int .i64 (y.bottom), .slice (some ⟨bb, 0, none⟩) y.buffer.length cB, .slice (some ⟨rb, 0, none⟩) m cA, .slice AT y.taken.length cT, .slice AR y.refused.length cR] 30, prod := none, cons := none }, { dep := [], res := fun _ => Gr (.slice (some ⟨bb, 0, none⟩) y.buffer.length cB) 2 1 y.buffer.length (y.buffer.flatMap intE), prod := none, cons := none }, { dep := [], res := fun _ => Opn rb cA 119 5 m (d1) [.slice (some ⟨tb, to, none⟩) (tl.length + 1) ct, .int .i64 (1), .int .i64 (y.top), .int .i64 (y.bottom), .int .i64 (x)] (d2), prod := none, cons := none }, { dep := [], res := fun _ => Dat (.slice (some ⟨tb, to, none⟩) (tl.length + 1) ct) (tl.length + 1) ((n0 :: tl).flatMap intE), prod := none, cons := none }, { dep := [], res := fun _ => Gr (.slice AT y.taken.length cT) 36 2 y.taken.length (y.taken.flatMap GHanded.enc), prod := none, cons := none }, { dep := [], res := fun _ => Gr (.slice AR y.refused.length cR) 2 1 y.refused.length (y.refused.flatMap intE), prod := none, cons := none }], [[], [0], [0, 1], [0, 1, 2], [], [4], [4, 5], [4, 5, 6], [0, 1, 2, 3, 4, 5, 6, 7], [], [9], [9, 10], [9, 10, 11], [9, 10, 11, 12], [0, 1, 2, 3, 4, 5, 6, 7, 8, 9, 10, 11, 12, 13]]⟩
 have E : Env 93 a [(0, .pointer (some ⟨dd, 0, none⟩)), (1, .pointer (some ⟨rb, k * 5, none⟩)), (4, .pointer (some ⟨rb, k * 5, none⟩)), (5, .pointer (some ⟨rb, k * 5, none⟩)), (6, .pointer (some ⟨rb, k * 5 + 1, none⟩)), (7, .int .i64 (pc)), (8, .bool (pc == 0)), (9, .bool (pc == 0)), (10, .pointer (some ⟨rb, k * 5, none⟩)), (11, .pointer (some ⟨dd, 0, none⟩)), (12, .pointer (some ⟨dd, 0, none⟩)), (13, .pointer (some ⟨dd, 1, none⟩)), (14, .int .i64 (y.bottom)), (15, .pointer (some ⟨rb, k * 5, none⟩)), (16, .pointer (some ⟨rb, k * 5 + 3, none⟩)), (17, .pointer (some ⟨rb, k * 5, none⟩)), (18, .pointer (some ⟨dd, 0, none⟩)), (19, .pointer (some ⟨dd, 0, none⟩)), (20, .pointer (some ⟨dd, 0, none⟩)), (21, .int .i64 (y.top)), (22, .pointer (some ⟨rb, k * 5, none⟩)), (23, .pointer (some ⟨rb, k * 5 + 2, none⟩)), (24, .pointer (some ⟨rb, k * 5, none⟩)), (25, .pointer (some ⟨rb, k * 5, none⟩)), (26, .pointer (some ⟨rb, k * 5 + 1, none⟩))] := (Env.pick E (Env.pick E (Env.pick E (Env.pick E (Env.pick E (Env.pick E (Env.pick E (Env.pick E (Env.pick E (Env.pick E (Env.pick E (Env.pick E (Env.pick E (Env.pick E (Env.pick E (Env.pick E (Env.pick E (Env.pick E (Env.pick E (Env.pick E (Env.pick E (Env.pick E (Env.pick E (Env.pick E (Env.pick E E.nil rfl) rfl) rfl) rfl) rfl) rfl) rfl) rfl) rfl) rfl) rfl) rfl) rfl) rfl) rfl) rfl) rfl) rfl) rfl) rfl) rfl) rfl) rfl) rfl) rfl)
 refine wp_flow (rs := []) rfl fl5 E (by rw [List.append_nil]; exact H) 15 rfl (by kernel_rfl) ?_ ?_
 ·
  refine AllTo.snoc (AllTo.snoc (AllTo.snoc (AllTo.snoc (AllTo.snoc (AllTo.snoc (AllTo.snoc (AllTo.snoc (AllTo.snoc (AllTo.snoc (AllTo.snoc (AllTo.snoc (AllTo.snoc (AllTo.snoc (AllTo.snoc (AllTo.zero _) ?_) ?_) ?_) ?_) ?_) ?_) ?_) ?_) ?_) ?_) ?_) ?_) ?_) ?_) ?_
  ·
   refine ⟨_, _, _, rfl, rfl, rfl, fun ν a w rs E hk ht H => ?_⟩
   exact Gives.val rfl (r_move (E.tmp rfl)) ⟨trivial, rfl, H⟩
  ·
   refine ⟨_, _, _, rfl, rfl, rfl, fun ν a w rs E hk ht H => ?_⟩
   have E := Env.add (v := .pointer (some ⟨rb, k * 5, none⟩)) E (ht 0 (by decide) _ _ 27 rfl rfl rfl)
   exact Gives.val rfl (r_nil (E.tmp rfl)) ⟨trivial, rfl, H⟩
  ·
   refine ⟨_, _, _, rfl, rfl, rfl, fun ν a w rs E hk ht H => ?_⟩
   have E := Env.add (v := .pointer (some ⟨rb, k * 5, none⟩)) E (ht 1 (by decide) _ _ 28 rfl rfl rfl)
   exact Gives.val rfl (r_fa (o' := k * 5 + 3) (E.tmp rfl) fo_119_3_2 rfl) ⟨trivial, rfl, H⟩
  ·
   refine ⟨_, _, _, rfl, rfl, rfl, fun ν a w rs E hk ht H => ?_⟩
   have E := Env.add (v := .pointer (some ⟨rb, k * 5 + 3, none⟩)) E (ht 2 (by decide) _ _ 29 rfl rfl rfl)
   have H : Tr.Inv w0 F w ([Opn rb cA 119 5 m (d1) [.slice (some ⟨tb, to, none⟩) (tl.length + 1) ct, .int .i64 (1), .int .i64 (y.top), .int .i64 (y.bottom), .int .i64 (x)] (d2)] ++ ([] ++ rs)) := H
   exact Gives.val rfl (r_load (E.tmp rfl) ag_2_2 (H.opn_cell 0 rfl hd1 (j := 3) rfl)) ⟨trivial, rfl, H⟩
  ·
   refine ⟨_, _, _, rfl, rfl, rfl, fun ν a w rs E hk ht H => ?_⟩
   exact Gives.val rfl (r_move (E.tmp rfl)) ⟨trivial, rfl, H⟩
  ·
   refine ⟨_, _, _, rfl, rfl, rfl, fun ν a w rs E hk ht H => ?_⟩
   have E := Env.add (v := .pointer (some ⟨rb, k * 5, none⟩)) E (ht 4 (by decide) _ _ 31 rfl rfl rfl)
   exact Gives.val rfl (r_nil (E.tmp rfl)) ⟨trivial, rfl, H⟩
  ·
   refine ⟨_, _, _, rfl, rfl, rfl, fun ν a w rs E hk ht H => ?_⟩
   have E := Env.add (v := .pointer (some ⟨rb, k * 5, none⟩)) E (ht 5 (by decide) _ _ 32 rfl rfl rfl)
   exact Gives.val rfl (r_fa (o' := k * 5 + 2) (E.tmp rfl) fo_119_2_2 rfl) ⟨trivial, rfl, H⟩
  ·
   refine ⟨_, _, _, rfl, rfl, rfl, fun ν a w rs E hk ht H => ?_⟩
   have E := Env.add (v := .pointer (some ⟨rb, k * 5 + 2, none⟩)) E (ht 6 (by decide) _ _ 33 rfl rfl rfl)
   have H : Tr.Inv w0 F w ([Opn rb cA 119 5 m (d1) [.slice (some ⟨tb, to, none⟩) (tl.length + 1) ct, .int .i64 (1), .int .i64 (y.top), .int .i64 (y.bottom), .int .i64 (x)] (d2)] ++ ([] ++ rs)) := H
   exact Gives.val rfl (r_load (E.tmp rfl) ag_2_2 (H.opn_cell 0 rfl hd1 (j := 2) rfl)) ⟨trivial, rfl, H⟩
  ·
   refine ⟨_, _, _, rfl, rfl, rfl, fun ν a w rs E hk ht H => ?_⟩
   have E := Env.add (v := .int .i64 (y.bottom)) E (ht 3 (by decide) _ _ 30 rfl rfl rfl)
   have E := Env.add (v := .int .i64 (y.top)) E (ht 7 (by decide) _ _ 34 rfl rfl rfl)
   exact Gives.val rfl (r_bin (E.tmp rfl) (E.tmp rfl) (b_sub rfl)) ⟨trivial, rfl, H⟩
  ·
   refine ⟨_, _, _, rfl, rfl, rfl, fun ν a w rs E hk ht H => ?_⟩
   exact Gives.val rfl (r_move (E.tmp rfl)) ⟨trivial, rfl, H⟩
  ·
   refine ⟨_, _, _, rfl, rfl, rfl, fun ν a w rs E hk ht H => ?_⟩
   have E := Env.add (v := .pointer (some ⟨dd, 0, none⟩)) E (ht 9 (by decide) _ _ 36 rfl rfl rfl)
   exact Gives.val rfl (r_nil (E.tmp rfl)) ⟨trivial, rfl, H⟩
  ·
   refine ⟨_, _, _, rfl, rfl, rfl, fun ν a w rs E hk ht H => ?_⟩
   have E := Env.add (v := .pointer (some ⟨dd, 0, none⟩)) E (ht 10 (by decide) _ _ 37 rfl rfl rfl)
   exact Gives.val rfl (r_fa (o' := 2) (E.tmp rfl) fo_30_2_2 rfl) ⟨trivial, rfl, H⟩
  ·
   refine ⟨_, _, _, rfl, rfl, rfl, fun ν a w rs E hk ht H => ?_⟩
   have E := Env.add (v := .pointer (some ⟨dd, 2, none⟩)) E (ht 11 (by decide) _ _ 38 rfl rfl rfl)
   have H : Tr.Inv w0 F w ([Cel dd [.int .i64 (y.top), .int .i64 (y.bottom), .slice (some ⟨bb, 0, none⟩) y.buffer.length cB, .slice (some ⟨rb, 0, none⟩) m cA, .slice AT y.taken.length cT, .slice AR y.refused.length cR] 30] ++ ([] ++ rs)) := H
   exact Gives.val rfl (r_load (E.tmp rfl) ag_24_2 (H.cell 0 rfl rfl)) ⟨trivial, rfl, H⟩
  ·
   refine ⟨_, _, _, rfl, rfl, rfl, fun ν a w rs E hk ht H => ?_⟩
   have E := Env.add (v := .slice (some ⟨bb, 0, none⟩) y.buffer.length cB) E (ht 12 (by decide) _ _ 39 rfl rfl rfl)
   exact Gives.val rfl (r_len (E.tmp rfl) el_24_2) ⟨trivial, rfl, H⟩
  ·
   refine ⟨_, _, _, rfl, rfl, rfl, fun ν a w rs E hk ht H => ?_⟩
   have E := Env.add (v := .int .i64 (IntKind.i64.wrap (y.bottom - y.top))) E (ht 8 (by decide) _ _ 35 rfl rfl rfl)
   have E := Env.add (v := .int .i64 (((y.buffer.length : Nat) : Int))) E (ht 13 (by decide) _ _ 40 rfl rfl rfl)
   exact Gives.val rfl (r_bin (E.tmp rfl) (E.tmp rfl) (b_geq (b := decide (((y.buffer.length : Nat) : Int) ≤ IntKind.i64.wrap (y.bottom - y.top))) rfl)) ⟨trivial, rfl, H⟩
 ·
  refine fun ν a w E hk ht H => ?_
  have E := Env.add E (show a.tmps[41]? = some (.bool (decide (((y.buffer.length : Nat) : Int) ≤ IntKind.i64.wrap (y.bottom - y.top)))) from ht 14 _ _ 41 rfl rfl rfl)
  have H : Tr.Inv w0 F w [Cel dd [.int .i64 (y.top), .int .i64 (y.bottom), .slice (some ⟨bb, 0, none⟩) y.buffer.length cB, .slice (some ⟨rb, 0, none⟩) m cA, .slice AT y.taken.length cT, .slice AR y.refused.length cR] 30, Gr (.slice (some ⟨bb, 0, none⟩) y.buffer.length cB) 2 1 y.buffer.length (y.buffer.flatMap intE), Opn rb cA 119 5 m (d1) [.slice (some ⟨tb, to, none⟩) (tl.length + 1) ct, .int .i64 (1), .int .i64 (y.top), .int .i64 (y.bottom), .int .i64 (x)] (d2), Dat (.slice (some ⟨tb, to, none⟩) (tl.length + 1) ct) (tl.length + 1) ((n0 :: tl).flatMap intE), Gr (.slice AT y.taken.length cT) 36 2 y.taken.length (y.taken.flatMap GHanded.enc), Gr (.slice AR y.refused.length cR) 2 1 y.refused.length (y.refused.flatMap intE)] := H
  have E : Env 93 a [(0, .pointer (some ⟨dd, 0, none⟩)), (1, .pointer (some ⟨rb, k * 5, none⟩)), (4, .pointer (some ⟨rb, k * 5, none⟩)), (5, .pointer (some ⟨rb, k * 5, none⟩)), (6, .pointer (some ⟨rb, k * 5 + 1, none⟩)), (7, .int .i64 (pc)), (8, .bool (pc == 0)), (9, .bool (pc == 0)), (10, .pointer (some ⟨rb, k * 5, none⟩)), (11, .pointer (some ⟨dd, 0, none⟩)), (12, .pointer (some ⟨dd, 0, none⟩)), (13, .pointer (some ⟨dd, 1, none⟩)), (14, .int .i64 (y.bottom)), (15, .pointer (some ⟨rb, k * 5, none⟩)), (16, .pointer (some ⟨rb, k * 5 + 3, none⟩)), (17, .pointer (some ⟨rb, k * 5, none⟩)), (18, .pointer (some ⟨dd, 0, none⟩)), (19, .pointer (some ⟨dd, 0, none⟩)), (20, .pointer (some ⟨dd, 0, none⟩)), (21, .int .i64 (y.top)), (22, .pointer (some ⟨rb, k * 5, none⟩)), (23, .pointer (some ⟨rb, k * 5 + 2, none⟩)), (24, .pointer (some ⟨rb, k * 5, none⟩)), (25, .pointer (some ⟨rb, k * 5, none⟩)), (26, .pointer (some ⟨rb, k * 5 + 1, none⟩)), (41, .bool (decide (((y.buffer.length : Nat) : Int) ≤ IntKind.i64.wrap (y.bottom - y.top))))] := (Env.pick E (Env.pick E (Env.pick E (Env.pick E (Env.pick E (Env.pick E (Env.pick E (Env.pick E (Env.pick E (Env.pick E (Env.pick E (Env.pick E (Env.pick E (Env.pick E (Env.pick E (Env.pick E (Env.pick E (Env.pick E (Env.pick E (Env.pick E (Env.pick E (Env.pick E (Env.pick E (Env.pick E (Env.pick E (Env.pick E E.nil rfl) rfl) rfl) rfl) rfl) rfl) rfl) rfl) rfl) rfl) rfl) rfl) rfl) rfl) rfl) rfl) rfl) rfl) rfl) rfl) rfl) rfl) rfl) rfl) rfl) rfl)
  clear hk ht
  refine then_n ?_
  rcases bcase (decide (((y.buffer.length : Nat) : Int) ≤ IntKind.i64.wrap (y.bottom - y.top))) with ts5 | ts5
  ·
   refine cond_f E rfl ts5 ?_
   refine wp_skip (inb_n ?_)
   refine (post0 E rfl ?_).2
   have H := H.front 5 rfl
   have H := H.front 5 rfl
   have H := H.front 5 rfl
   have H := H.front 5 rfl
   have H := H.front 5 rfl
   have H := H.front 5 rfl
   simp only [pushS, endA, bufAt, Option.getD_some, Int.toNat_natCast, List.headD_cons, List.tail_cons, ts1, ts5, B1, B2, B3, B4, B5, B6, B7, B8, B9, B10, B11, B12, B13, B14] at hz
   obtain ⟨rfl, rfl⟩ := Prod.mk.inj hz
   exact ⟨_, _, _, _, _, _, rfl, H⟩
  refine cond_t E rfl ts5 ?_
  refine wp_seq ?_
  let fl6 : Flow := ⟨[.c (.pointer (some ⟨dd, 0, none⟩)), .c (.pointer (some ⟨dd, 0, none⟩)), .c (.pointer (some ⟨dd, 0, none⟩)), .c (.pointer (some ⟨dd, 5, none⟩)), { dep := [], val := fun _ => .slice AR y.refused.length cR, rd := [0] }, .c (.pointer (some ⟨rb, k * 5, none⟩)), .c (.pointer (some ⟨rb, k * 5, none⟩)), .c (.pointer (some ⟨rb, k * 5, none⟩)), { dep := [], val := fun _ => .slice (some ⟨tb, to, none⟩) (tl.length + 1) ct, rd := [2] }, .c (.pointer (some ⟨tb, to, none⟩)), { dep := [], val := fun _ => .int .i64 (n0), rd := [3] }, { dep := [11], val := fun | [x11] => .slice (some ⟨(vb x11), 0, none⟩) 1 1 | _ => undef, rd := [] }, { dep := [12], val := fun | [x12] => .slice (sA x12) (y.refused.length + 1) (sC x12) | _ => undef, rd := [6] }, .c (.pointer (some ⟨dd, 0, none⟩)), .c (.pointer (some ⟨dd, 5, none⟩)), .c (undef)], [{ dep := [], res := fun _ => Cel dd [.int .i64 (y.top), .int .i64 (y.bottom), .slice (some ⟨bb, 0, none⟩) y.buffer.length cB, .slice (some ⟨rb, 0, none⟩) m cA, .slice AT y.taken.length cT, .slice AR y.refused.length cR] 30, prod := none, cons := some 15 }, { dep := [], res := fun _ => Gr (.slice (some ⟨bb, 0, none⟩) y.buffer.length cB) 2 1 y.buffer.length (y.buffer.flatMap intE), prod := none, cons := none }, { dep := [], res := fun _ => Opn rb cA 119 5 m (d1) [.slice (some ⟨tb, to, none⟩) (tl.length + 1) ct, .int .i64 (1), .int .i64 (y.top), .int .i64 (y.bottom), .int .i64 (x)] (d2), prod := none, cons := none }, { dep := [], res := fun _ => Dat (.slice (some ⟨tb, to, none⟩) (tl.length + 1) ct) (tl.length + 1) ((n0 :: tl).flatMap intE), prod := none, cons := none }, { dep := [], res := fun _ => Gr (.slice AT y.taken.length cT) 36 2 y.taken.length (y.taken.flatMap GHanded.enc), prod := none, cons := none }, { dep := [], res := fun _ => Gr (.slice AR y.refused.length cR) 2 1 y.refused.length (y.refused.flatMap intE), prod := none, cons := some 12 }, { dep := [11], res := fun | [x11] => Cel (vb x11) [.int .i64 (n0)] 2 | _ => Res.emp, prod := some 11, cons := none }, { dep := [12], res := fun | [x12] => Gr (.slice (sA x12) (y.refused.length + 1) (sC x12)) 2 1 (y.refused.length + 1) ((y.refused.flatMap intE) ++ [.int .i64 (n0)].map D.v) | _ => Res.emp, prod := some 12, cons := none }, { dep := [12], res := fun | [x12] => Cel dd [.int .i64 (y.top), .int .i64 (y.bottom), .slice (some ⟨bb, 0, none⟩) y.buffer.length cB, .slice (some ⟨rb, 0, none⟩) m cA, .slice AT y.taken.length cT, .slice (sA x12) (y.refused.length + 1) (sC x12)] 30 | _ => Res.emp, prod := some 15, cons := none }], [[], [], [1], [1, 2], [1, 2, 3], [], [5], [5, 6], [5, 6, 7], [5, 6, 7, 8], [5, 6, 7, 8, 9], [5, 6, 7, 8, 9, 10], [1, 2, 3, 4, 5, 6, 7, 8, 9, 10, 11], [0, 1, 2, 3, 4, 5, 6, 7, 8, 9, 10, 11, 12], [0, 1, 2, 3, 4, 5, 6, 7, 8, 9, 10, 11, 12, 13], [0, 1, 2, 3, 4, 5, 6, 7, 8, 9, 10, 11, 12, 13, 14]]⟩
  have E : Env 93 a [(0, .pointer (some ⟨dd, 0, none⟩)), (1, .pointer (some ⟨rb, k * 5, none⟩)), (4, .pointer (some ⟨rb, k * 5, none⟩)), (5, .pointer (some ⟨rb, k * 5, none⟩)), (6, .pointer (some ⟨rb, k * 5 + 1, none⟩)), (7, .int .i64 (pc)), (8, .bool (pc == 0)), (9, .bool (pc == 0)), (10, .pointer (some ⟨rb, k * 5, none⟩)), (11, .pointer (some ⟨dd, 0, none⟩)), (12, .pointer (some ⟨dd, 0, none⟩)), (13, .pointer (some ⟨dd, 1, none⟩)), (14, .int .i64 (y.bottom)), (15, .pointer (some ⟨rb, k * 5, none⟩)), (16, .pointer (some ⟨rb, k * 5 + 3, none⟩)), (17, .pointer (some ⟨rb, k * 5, none⟩)), (18, .pointer (some ⟨dd, 0, none⟩)), (19, .pointer (some ⟨dd, 0, none⟩)), (20, .pointer (some ⟨dd, 0, none⟩)), (21, .int .i64 (y.top)), (22, .pointer (some ⟨rb, k * 5, none⟩)), (23, .pointer (some ⟨rb, k * 5 + 2, none⟩)), (24, .pointer (some ⟨rb, k * 5, none⟩)), (25, .pointer (some ⟨rb, k * 5, none⟩)), (26, .pointer (some ⟨rb, k * 5 + 1, none⟩)), (41, .bool (decide (((y.buffer.length : Nat) : Int) ≤ IntKind.i64.wrap (y.bottom - y.top))))] := (Env.pick E (Env.pick E (Env.pick E (Env.pick E (Env.pick E (Env.pick E (Env.pick E (Env.pick E (Env.pick E (Env.pick E (Env.pick E (Env.pick E (Env.pick E (Env.pick E (Env.pick E (Env.pick E (Env.pick E (Env.pick E (Env.pick E (Env.pick E (Env.pick E (Env.pick E (Env.pick E (Env.pick E (Env.pick E (Env.pick E E.nil rfl) rfl) rfl) rfl) rfl) rfl) rfl) rfl) rfl) rfl) rfl) rfl) rfl) rfl) rfl) rfl) rfl) rfl) rfl) rfl) rfl) rfl) rfl) rfl) rfl) rfl)
  refine wp_flow (rs := []) rfl fl6 E (by rw [List.append_nil]; exact H) 16 rfl (by kernel_rfl) ?_ ?_
  ·
   refine AllTo.snoc (AllTo.snoc (AllTo.snoc (AllTo.snoc (AllTo.snoc (AllTo.snoc (AllTo.snoc (AllTo.snoc (AllTo.snoc (AllTo.snoc (AllTo.snoc (AllTo.snoc (AllTo.snoc (AllTo.snoc (AllTo.snoc (AllTo.snoc (AllTo.zero _) ?_) ?_) ?_) ?_) ?_) ?_) ?_) ?_) ?_) ?_) ?_) ?_) ?_) ?_) ?_) ?_
   ·
    refine ⟨_, _, _, rfl, rfl, rfl, fun ν a w rs E hk ht H => ?_⟩
    exact Gives.val rfl (r_move (E.tmp rfl)) ⟨trivial, rfl, H⟩
   ·
    refine ⟨_, _, _, rfl, rfl, rfl, fun ν a w rs E hk ht H => ?_⟩
    exact Gives.val rfl (r_move (E.tmp rfl)) ⟨trivial, rfl, H⟩
   ·
    refine ⟨_, _, _, rfl, rfl, rfl, fun ν a w rs E hk ht H => ?_⟩
    have E := Env.add (v := .pointer (some ⟨dd, 0, none⟩)) E (ht 1 (by decide) _ _ 43 rfl rfl rfl)
    exact Gives.val rfl (r_nil (E.tmp rfl)) ⟨trivial, rfl, H⟩
   ·
    refine ⟨_, _, _, rfl, rfl, rfl, fun ν a w rs E hk ht H => ?_⟩
    have E := Env.add (v := .pointer (some ⟨dd, 0, none⟩)) E (ht 2 (by decide) _ _ 44 rfl rfl rfl)
    exact Gives.val rfl (r_fa (o' := 5) (E.tmp rfl) fo_30_5_2 rfl) ⟨trivial, rfl, H⟩
   ·
    refine ⟨_, _, _, rfl, rfl, rfl, fun ν a w rs E hk ht H => ?_⟩
    have E := Env.add (v := .pointer (some ⟨dd, 5, none⟩)) E (ht 3 (by decide) _ _ 45 rfl rfl rfl)
    have H : Tr.Inv w0 F w ([Cel dd [.int .i64 (y.top), .int .i64 (y.bottom), .slice (some ⟨bb, 0, none⟩) y.buffer.length cB, .slice (some ⟨rb, 0, none⟩) m cA, .slice AT y.taken.length cT, .slice AR y.refused.length cR] 30] ++ ([] ++ rs)) := H
    exact Gives.val rfl (r_load (E.tmp rfl) ag_24_2 (H.cell 0 rfl rfl)) ⟨trivial, rfl, H⟩
   ·
    refine ⟨_, _, _, rfl, rfl, rfl, fun ν a w rs E hk ht H => ?_⟩
    exact Gives.val rfl (r_move (E.tmp rfl)) ⟨trivial, rfl, H⟩
   ·
    refine ⟨_, _, _, rfl, rfl, rfl, fun ν a w rs E hk ht H => ?_⟩
    have E := Env.add (v := .pointer (some ⟨rb, k * 5, none⟩)) E (ht 5 (by decide) _ _ 47 rfl rfl rfl)
    exact Gives.val rfl (r_nil (E.tmp rfl)) ⟨trivial, rfl, H⟩
   ·
    refine ⟨_, _, _, rfl, rfl, rfl, fun ν a w rs E hk ht H => ?_⟩
    have E := Env.add (v := .pointer (some ⟨rb, k * 5, none⟩)) E (ht 6 (by decide) _ _ 48 rfl rfl rfl)
    exact Gives.val rfl (r_fa (o' := k * 5) (E.tmp rfl) fo_119_0_2 rfl) ⟨trivial, rfl, H⟩
   ·
    refine ⟨_, _, _, rfl, rfl, rfl, fun ν a w rs E hk ht H => ?_⟩
    have E := Env.add (v := .pointer (some ⟨rb, k * 5, none⟩)) E (ht 7 (by decide) _ _ 49 rfl rfl rfl)
    have H : Tr.Inv w0 F w ([Opn rb cA 119 5 m (d1) [.slice (some ⟨tb, to, none⟩) (tl.length + 1) ct, .int .i64 (1), .int .i64 (y.top), .int .i64 (y.bottom), .int .i64 (x)] (d2)] ++ ([] ++ rs)) := H
    exact Gives.val rfl (r_load (E.tmp rfl) ag_24_2 (H.opn_cell 0 rfl hd1 (j := 0) rfl)) ⟨trivial, rfl, H⟩
   ·
    refine ⟨_, _, _, rfl, rfl, rfl, fun ν a w rs E hk ht H => ?_⟩
    have E := Env.add (v := .slice (some ⟨tb, to, none⟩) (tl.length + 1) ct) E (ht 8 (by decide) _ _ 50 rfl rfl rfl)
    exact Gives.val rfl (r_ia (k := 0) (o' := to) (E.tmp rfl) (ev_c _) rfl el_24_2 (by omega) rfl) ⟨trivial, rfl, H⟩
   ·
    refine ⟨_, _, _, rfl, rfl, rfl, fun ν a w rs E hk ht H => ?_⟩
    have E := Env.add (v := .pointer (some ⟨tb, to, none⟩)) E (ht 9 (by decide) _ _ 51 rfl rfl rfl)
    have H : Tr.Inv w0 F w ([Dat (.slice (some ⟨tb, to, none⟩) (tl.length + 1) ct) (tl.length + 1) ((n0 :: tl).flatMap intE)] ++ ([] ++ rs)) := H
    exact Gives.val rfl (r_load (E.tmp rfl) ag_2_2 (H.dat_cell 0 rfl rfl 0 rfl)) ⟨trivial, rfl, H⟩
   ·
    refine ⟨_, _, _, rfl, rfl, rfl, fun ν a w rs E hk ht H => ?_⟩
    have E := Env.add (v := .int .i64 (n0)) E (ht 10 (by decide) _ _ 52 rfl rfl rfl)
    have H : Tr.Inv w0 F w ([] ++ ([] ++ rs)) := H
    exact Gives.val rfl (r_bslice (pv (pvc (E.tmp rfl) (pvn))) (by kernel_rfl : (Instr.buildSlice 24 1 (List.toArray [(0, .int .i64 (n0))])).run Try.prog w = .ok (.slice (some ⟨w.heap.size, 0, none⟩) 1 1) (w.alloc (.cells (List.toArray [.int .i64 (n0)]) 2)))) ⟨trivial, rfl, H.alloc _ _⟩
   ·
    refine ⟨_, _, _, rfl, rfl, rfl, fun ν a w rs E hk ht H => ?_⟩
    have E := Env.add (v := .slice AR y.refused.length cR) E (ht 4 (by decide) _ _ 46 rfl rfl rfl)
    have E := Env.add (v := .slice (some ⟨(vb (ν 11)), 0, none⟩) 1 1) E (ht 11 (by decide) _ _ 53 rfl rfl rfl)
    have H : Tr.Inv w0 F w ([Cel (vb (ν 11)) [.int .i64 (n0)] 2] ++ ([Gr (.slice AR y.refused.length cR) 2 1 y.refused.length (y.refused.flatMap intE)] ++ rs)) := H
    obtain ⟨v2, w2, hrun, ⟨A2, c2, rfl⟩, hI⟩ := app_flow (P := Try.prog) (ty := 24) (q := 1) (c := 1) eo_24_2 H rfl rfl (by omega)
    exact Gives.val rfl (r_app (E.tmp rfl) (E.tmp rfl) hrun) ⟨trivial, rfl, hI⟩
   ·
    refine ⟨_, _, _, rfl, rfl, rfl, fun ν a w rs E hk ht H => ?_⟩
    have E := Env.add (v := .pointer (some ⟨dd, 0, none⟩)) E (ht 0 (by decide) _ _ 42 rfl rfl rfl)
    exact Gives.val rfl (r_nil (E.tmp rfl)) ⟨trivial, rfl, H⟩
   ·
    refine ⟨_, _, _, rfl, rfl, rfl, fun ν a w rs E hk ht H => ?_⟩
    have E := Env.add (v := .pointer (some ⟨dd, 0, none⟩)) E (ht 13 (by decide) _ _ 55 rfl rfl rfl)
    exact Gives.val rfl (r_fa (o' := 5) (E.tmp rfl) fo_30_5_2 rfl) ⟨trivial, rfl, H⟩
   ·
    refine ⟨_, _, _, rfl, rfl, rfl, fun ν a w rs E hk ht H => ?_⟩
    have E := Env.add (v := .slice (sA (ν 12)) (y.refused.length + 1) (sC (ν 12))) E (ht 12 (by decide) _ _ 54 rfl rfl rfl)
    have E := Env.add (v := .pointer (some ⟨dd, 5, none⟩)) E (ht 14 (by decide) _ _ 56 rfl rfl rfl)
    have H : Tr.Inv w0 F w ([] ++ ([Cel dd [.int .i64 (y.top), .int .i64 (y.bottom), .slice (some ⟨bb, 0, none⟩) y.buffer.length cB, .slice (some ⟨rb, 0, none⟩) m cA, .slice AT y.taken.length cT, .slice AR y.refused.length cR] 30] ++ rs)) := H
    exact Gives.skp rfl (r_store (E.tmp rfl) (E.tmp rfl) rfl rfl sz_24_2 (H.cel 0 rfl) (by simp)) ⟨trivial, rfl, H.put (us := [.slice (sA (ν 12)) (y.refused.length + 1) (sC (ν 12))]) 0 rfl rfl rfl⟩
  ·
   refine fun ν a w E hk ht H => ?_
   have H : Tr.Inv w0 F w [Gr (.slice (some ⟨bb, 0, none⟩) y.buffer.length cB) 2 1 y.buffer.length (y.buffer.flatMap intE), Opn rb cA 119 5 m (d1) [.slice (some ⟨tb, to, none⟩) (tl.length + 1) ct, .int .i64 (1), .int .i64 (y.top), .int .i64 (y.bottom), .int .i64 (x)] (d2), Dat (.slice (some ⟨tb, to, none⟩) (tl.length + 1) ct) (tl.length + 1) ((n0 :: tl).flatMap intE), Gr (.slice AT y.taken.length cT) 36 2 y.taken.length (y.taken.flatMap GHanded.enc), Cel (vb (ν 11)) [.int .i64 (n0)] 2, Gr (.slice (sA (ν 12)) (y.refused.length + 1) (sC (ν 12))) 2 1 (y.refused.length + 1) ((y.refused.flatMap intE) ++ [.int .i64 (n0)].map D.v), Cel dd [.int .i64 (y.top), .int .i64 (y.bottom), .slice (some ⟨bb, 0, none⟩) y.buffer.length cB, .slice (some ⟨rb, 0, none⟩) m cA, .slice AT y.taken.length cT, .slice (sA (ν 12)) (y.refused.length + 1) (sC (ν 12))] 30] := H
   have E : Env 93 a [(0, .pointer (some ⟨dd, 0, none⟩)), (1, .pointer (some ⟨rb, k * 5, none⟩)), (4, .pointer (some ⟨rb, k * 5, none⟩)), (5, .pointer (some ⟨rb, k * 5, none⟩)), (6, .pointer (some ⟨rb, k * 5 + 1, none⟩)), (7, .int .i64 (pc)), (8, .bool (pc == 0)), (9, .bool (pc == 0)), (10, .pointer (some ⟨rb, k * 5, none⟩)), (11, .pointer (some ⟨dd, 0, none⟩)), (12, .pointer (some ⟨dd, 0, none⟩)), (13, .pointer (some ⟨dd, 1, none⟩)), (14, .int .i64 (y.bottom)), (15, .pointer (some ⟨rb, k * 5, none⟩)), (16, .pointer (some ⟨rb, k * 5 + 3, none⟩)), (17, .pointer (some ⟨rb, k * 5, none⟩)), (18, .pointer (some ⟨dd, 0, none⟩)), (19, .pointer (some ⟨dd, 0, none⟩)), (20, .pointer (some ⟨dd, 0, none⟩)), (21, .int .i64 (y.top)), (22, .pointer (some ⟨rb, k * 5, none⟩)), (23, .pointer (some ⟨rb, k * 5 + 2, none⟩)), (24, .pointer (some ⟨rb, k * 5, none⟩)), (25, .pointer (some ⟨rb, k * 5, none⟩)), (26, .pointer (some ⟨rb, k * 5 + 1, none⟩)), (41, .bool (decide (((y.buffer.length : Nat) : Int) ≤ IntKind.i64.wrap (y.bottom - y.top))))] := (Env.pick E (Env.pick E (Env.pick E (Env.pick E (Env.pick E (Env.pick E (Env.pick E (Env.pick E (Env.pick E (Env.pick E (Env.pick E (Env.pick E (Env.pick E (Env.pick E (Env.pick E (Env.pick E (Env.pick E (Env.pick E (Env.pick E (Env.pick E (Env.pick E (Env.pick E (Env.pick E (Env.pick E (Env.pick E (Env.pick E E.nil rfl) rfl) rfl) rfl) rfl) rfl) rfl) rfl) rfl) rfl) rfl) rfl) rfl) rfl) rfl) rfl) rfl) rfl) rfl) rfl) rfl) rfl) rfl) rfl) rfl) rfl)
   clear hk ht
   generalize (vb (ν 11)) = g6 at E H
   generalize (sA (ν 12)) = A7 at E H
   generalize (sC (ν 12)) = c8 at E H
   refine then_n ?_
   have e1 : y.refused.flatMap intE ++ [Value.int .i64 n0].map D.v = (y.refused ++ [n0]).flatMap intE := by simp [intE]
   have e2 : y.refused.length + 1 = (y.refused ++ [n0]).length := by simp
   rw [e1] at H
   rw [e2] at H
   have H : Tr.Inv w0 F w [Gr (.slice (some ⟨bb, 0, none⟩) y.buffer.length cB) 2 1 y.buffer.length (y.buffer.flatMap intE), Opn rb cA 119 5 m (d1) [.slice (some ⟨tb, to, none⟩) (tl.length + 1) ct, .int .i64 (1), .int .i64 (y.top), .int .i64 (y.bottom), .int .i64 (x)] (d2), Dat (.slice (some ⟨tb, to, none⟩) (tl.length + 1) ct) (tl.length + 1) ((n0 :: tl).flatMap intE), Gr (.slice AT y.taken.length cT) 36 2 y.taken.length (y.taken.flatMap GHanded.enc), Cel g6 [.int .i64 (n0)] 2, Gr (.slice A7 ((y.refused ++ [n0]).length) c8) 2 1 ((y.refused ++ [n0]).length) ((y.refused ++ [n0]).flatMap intE), Cel dd [.int .i64 (y.top), .int .i64 (y.bottom), .slice (some ⟨bb, 0, none⟩) y.buffer.length cB, .slice (some ⟨rb, 0, none⟩) m cA, .slice AT y.taken.length cT, .slice A7 ((y.refused ++ [n0]).length) c8] 30] := H
   refine wp_region_lit ?_
   refine vm E rfl rfl fun a E => ?_
   have H := H.front 2 rfl
   have H := H.front 2 rfl
   obtain ⟨q9F, q9S, q9I, q9b⟩ := Tr.Inv.frame (pre := [Opn rb cA 119 5 m (d1) [.slice (some ⟨tb, to, none⟩) (tl.length + 1) ct, .int .i64 (1), .int .i64 (y.top), .int .i64 (y.bottom), .int .i64 (x)] (d2), Dat (.slice (some ⟨tb, to, none⟩) (tl.length + 1) ct) (tl.length + 1) ((n0 :: tl).flatMap intE)]) (rest := [Gr (.slice (some ⟨bb, 0, none⟩) y.buffer.length cB) 2 1 y.buffer.length (y.buffer.flatMap intE), Gr (.slice AT y.taken.length cT) 36 2 y.taken.length (y.taken.flatMap GHanded.enc), Cel g6 [.int .i64 (n0)] 2, Gr (.slice A7 ((y.refused ++ [n0]).length) c8) 2 1 ((y.refused ++ [n0]).length) ((y.refused ++ [n0]).flatMap intE), Cel dd [.int .i64 (y.top), .int .i64 (y.bottom), .slice (some ⟨bb, 0, none⟩) y.buffer.length cB, .slice (some ⟨rb, 0, none⟩) m cA, .slice AT y.taken.length cT, .slice A7 ((y.refused ++ [n0]).length) c8] 30]) H
   refine w_call E rfl (ev_cons (E.tmp rfl) (ev_nil)) ok_253_2 (l23End_q rb cA m k tb to ct n0 tl 1 y.top y.bottom x d1 d2 w q9S hd1 hl) ?_
   rintro _ w ⟨q9A, q9c, rfl, hI⟩
   refine ⟨_, rfl, fun a E => ?_⟩
   have H := q9b _ _ hI
   clear hI q9S q9I q9b
   have H : Tr.Inv w0 F w [Opn rb cA 119 5 m (d1) [.slice q9A tl.length q9c, .int .i64 (0), .int .i64 (0), .int .i64 (0), .int .i64 (0)] (d2), Dat (.slice q9A tl.length q9c) tl.length (tl.flatMap intE), Gr (.slice (some ⟨bb, 0, none⟩) y.buffer.length cB) 2 1 y.buffer.length (y.buffer.flatMap intE), Gr (.slice AT y.taken.length cT) 36 2 y.taken.length (y.taken.flatMap GHanded.enc), Cel g6 [.int .i64 (n0)] 2, Gr (.slice A7 ((y.refused ++ [n0]).length) c8) 2 1 ((y.refused ++ [n0]).length) ((y.refused ++ [n0]).flatMap intE), Cel dd [.int .i64 (y.top), .int .i64 (y.bottom), .slice (some ⟨bb, 0, none⟩) y.buffer.length cB, .slice (some ⟨rb, 0, none⟩) m cA, .slice AT y.taken.length cT, .slice A7 ((y.refused ++ [n0]).length) c8] 30] := H
   refine wpList_nil (inb_n ?_)
   refine (post0 E rfl ?_).2
   have H := H.front 5 rfl
   have H := H.front 4 rfl
   have H := H.front 3 rfl
   have H := H.front 3 rfl
   have H := H.front 4 rfl
   have H := H.front 6 rfl
   have H := H.drop 6 rfl
   simp only [pushS, endA, bufAt, Option.getD_some, Int.toNat_natCast, List.headD_cons, List.tail_cons, ts1, ts5, B1, B2, B3, B4, B5, B6, B7, B8, B9, B10, B11, B12, B13, B14] at hz
   obtain ⟨rfl, rfl⟩ := Prod.mk.inj hz
   exact ⟨_, _, _, _, _, _, rfl, H⟩
end Go.Proofs.Ythelpioccjjgfaa
