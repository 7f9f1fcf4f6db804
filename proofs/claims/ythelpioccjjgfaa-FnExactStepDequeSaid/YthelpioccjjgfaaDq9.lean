/- Deques. Printed by gx_dq.py. -/
import Derived.Test.YthelpioccjjgfaaProg
import Derived.Test.YthelpioccjjgfaaSc
import Derived.Test.YthelpioccjjgfaaDDq
import Derived.Test.YthelpioccjjgfaaArith
import Derived.IntWalk
import Derived.Test.YthelpioccjjgfaaDq8
import Derived.Test.YthelpioccjjgfaaDq6
import Derived.Test.YthelpioccjjgfaaDq5
set_option linter.unusedSimpArgs false
set_option linter.unusedVariables false
namespace Go.Tr
structure RunOk (x : GDeque) : Prop where
  b0 : 0 < x.buffer.length
  b1 : x.buffer.length ≤ 1000
  h1 : x.taken.length ≤ 1000
  r1 : x.refused.length ≤ 1000
  n1 : x.actors.length ≤ 1000
  n0 : 0 < x.actors.length
  acts : ∀ (k : Nat) (a : GDequeActor), x.actors[k]? = some a → a.todo.length ≤ 1000 ∧ (a.pc = 0 ∨ a.pc = 1 ∨ a.pc = 2 ∨ a.pc = 3) ∧ (k = 0 → a.todo.headD 0 ≠ 0 → a.pc ≠ 3)
theorem headOk_pc {a : GDequeActor} (h : headOk a true = true) : True := trivial
theorem actorB_pc {a : GDequeActor} {ow : Bool} (h : actorB a ow = true) : a.todo.length ≤ 1000 ∧ (a.pc = 0 ∨ a.pc = 1 ∨ a.pc = 2 ∨ a.pc = 3) ∧ (a.todo.headD 0 ≠ 0 → a.pc ≠ 3) := by
  obtain ⟨td, pc, t, b, x⟩ := a
  simp only [actorB, Bool.and_eq_true, Bool.not_eq_true', decide_eq_false_iff_not] at h
  obtain ⟨⟨⟨⟨⟨⟨h1, h2⟩, _⟩, _⟩, _⟩, _⟩, h3⟩ := h
  have h2' := inB_t h2
  refine ⟨by show td.length ≤ 1000; omega, by show pc = 0 ∨ pc = 1 ∨ pc = 2 ∨ pc = 3; have h2' : 0 ≤ pc ∧ pc ≤ 3 := h2'; omega, fun hn hp => ?_⟩
  cases td with
  | nil => simp at hn
  | cons n tl =>
    simp only [List.headD_cons] at hn
    subst hp
    have e1 : ((3 : Int) == 0 || (((n :: tl).length : Nat) : Int) == 0) = false := by simp; omega
    rw [e1, cond_false] at h3
    have e2 : (n != 0) = true := by simpa using hn
    simp only [headOk, List.getElem?_cons_zero, e2, cond_true, Bool.and_eq_true, decide_eq_true_eq] at h3
    omega
theorem runOk_of {x : GDeque} (h : okB x = true) : RunOk x := by
  simp only [okB, Bool.and_eq_true, Bool.not_eq_true', decide_eq_false_iff_not] at h
  obtain ⟨⟨⟨⟨⟨⟨⟨⟨⟨⟨h1, _⟩, _⟩, h2⟩, h3⟩, h4⟩, _⟩, h5⟩, _⟩, _⟩, _⟩ := h
  have h1 := inB_t h1
  have h2 := inB_t h2
  refine ⟨by omega, by omega, by omega, by omega, by omega, by omega, fun k a hk => ?_⟩
  have h6 := allTo_of h5 (List.getElem?_eq_some_iff.1 hk).1
  simp only [actF, hk] at h6
  obtain ⟨e1, e2, e3⟩ := actorB_pc h6
  exact ⟨e1, e2, fun _ => e3⟩
theorem RunOk.stp {x : GDeque} (h : RunOk x) {k : Nat} {n0 : Int} {tl : List Int} {pc t b v : Int} (hk : x.actors[k]? = some ⟨n0 :: tl, pc, t, b, v⟩) :
    tl.length ≤ 1000 ∧ (pc = 0 ∨ pc = 1 ∨ pc = 2 ∨ pc = 3) ∧ (k = 0 → n0 ≠ 0 → pc ≠ 3) ∧ k ≤ 1000 := by
  obtain ⟨h1, h2, h3⟩ := h.acts k _ hk
  have h4 := (List.getElem?_eq_some_iff.1 hk).1
  have := h.n1
  simp only [List.length_cons] at h1
  exact ⟨by omega, h2, h3, by omega⟩
theorem in_idx {a : Int} {n : Nat} (h : inB a 0 (IntKind.i64.wrap (((n : Nat) : Int) - 1)) = true) (hn : n ≤ 1000000) : ∃ k : Nat, a = ((k : Nat) : Int) ∧ k < n := by
  have h1 := inB_t h
  rw [IntWalk.i64_in _ (by omega)] at h1
  exact ⟨a.toNat, by omega, by omega⟩
theorem act_open {a : GDequeActor} (h : a.todo ≠ []) : ∃ n0 tl pc t b v, a = ⟨n0 :: tl, pc, t, b, v⟩ := by
  obtain ⟨td, pc, t, b, v⟩ := a
  cases td with
  | nil => exact absurd rfl h
  | cons n tl => exact ⟨n, tl, pc, t, b, v, rfl⟩
theorem stepS_len (y : GDeque) (k : Nat) (a : GDequeActor) : (stepS y k a).buffer.length = y.buffer.length ∧ (stepS y k a).actors.length = y.actors.length := by
  unfold stepS putS
  simp only [Bool.cond_eq_ite]
  (repeat' split) <;> simp only [stealS, takeS, pushS, Bool.cond_eq_ite] <;> (repeat' split) <;> simp
def stepDequeR (x : GDeque) (i : Int) : GDeque × Int :=
  cond (!okB x) (⟨0, 0, [], [], [], []⟩, 1) (cond (!inB i 0 (IntKind.i64.wrap (((x.actors.length : Nat) : Int) - 1))) (⟨0, 0, [], [], [], []⟩, 2)
    (match x.actors[i.toNat]? with
     | none => (⟨0, 0, [], [], [], []⟩, 5)
     | some a => cond (((a.todo.length : Nat) : Int) == 0) (⟨0, 0, [], [], [], []⟩, 5) (cond (fullB (stepS x i.toNat a)) (⟨0, 0, [], [], [], []⟩, 4) (stepS x i.toNat a, 0))))
end Go.Tr
namespace Go.Proofs.Ythelpioccjjgfaa
open Go Go.RowKit Go.Proofs Go.Tr
theorem zo_30_8 : zeroOf Try.prog 30 = some [.int .i64 (0), .int .i64 (0), .slice none 0 0, .slice none 0 0, .slice none 0 0, .slice none 0 0] := by kernel_rfl
theorem ok_134_8 : callOk Try.prog 134 = true := by kernel_rfl
theorem sz_30_8 : (Try.prog.info? 30).map (·.size) = some 6 := by kernel_rfl
theorem ag_30_8 : aggB Try.prog 30 = some true := by kernel_rfl
theorem fo_30_3_8 : fldOff Try.prog 30 3 = some 3 := by kernel_rfl
theorem ag_27_8 : aggB Try.prog 27 = some false := by kernel_rfl
theorem el_27_8 : elemOf? Try.prog 27 = some (119, 5) := by kernel_rfl
theorem ok_122_8 : callOk Try.prog 122 = true := by kernel_rfl
theorem fo_119_0_8 : fldOff Try.prog 119 0 = some 0 := by kernel_rfl
theorem ag_24_8 : aggB Try.prog 24 = some false := by kernel_rfl
theorem el_24_8 : elemOf? Try.prog 24 = some (2, 1) := by kernel_rfl
theorem ok_135_8 : callOk Try.prog 135 = true := by kernel_rfl
theorem ok_136_8 : callOk Try.prog 136 = true := by kernel_rfl
theorem ok_137_8 : callOk Try.prog 137 = true := by kernel_rfl
set_option maxHeartbeats 1000000 in
theorem stepDequeS_q (a0 : GDeque) (a1 : Int) (abufferA : Option Addr) (abufferc : Nat) (aactorsA : Option Addr) (aactorsc : Nat) (atakenA : Option Addr) (atakenc : Nat) (arefusedA : Option Addr) (arefusedc : Nat) (r0 : GDeque) (r1 : Int) (hR : (r0, r1) = stepDequeR a0 a1) (w0 : World) (abufferH : Ro1 w0 [] (.sl a0.buffer.length (a0.buffer.flatMap intE)) (.slice abufferA a0.buffer.length abufferc)) (aactorsH : Ro1 w0 [] (.sl a0.actors.length (a0.actors.flatMap GDequeActor.enc)) (.slice aactorsA a0.actors.length aactorsc)) (atakenH : Ro1 w0 [] (.sl a0.taken.length (a0.taken.flatMap GHanded.enc)) (.slice atakenA a0.taken.length atakenc)) (arefusedH : Ro1 w0 [] (.sl a0.refused.length (a0.refused.flatMap intE)) (.slice arefusedA a0.refused.length arefusedc)) : Calls Try.prog 48 #[.agg #[.int .i64 (a0.top), .int .i64 (a0.bottom), .slice abufferA a0.buffer.length abufferc, .slice aactorsA a0.actors.length aactorsc, .slice atakenA a0.taken.length atakenc, .slice arefusedA a0.refused.length arefusedc], .int .i64 (a1)] w0 fun e w' => ∃ us, e = .returned (.tuple #[.agg us.toArray, .int .i64 r1]) ∧ Tr.Inv w0 [] w' [DatN us r0.enc] := by
 refine enter_i (args := [.agg #[.int .i64 (a0.top), .int .i64 (a0.bottom), .slice abufferA a0.buffer.length abufferc, .slice aactorsA a0.actors.length aactorsc, .slice atakenA a0.taken.length atakenc, .slice arefusedA a0.refused.length arefusedc], .int .i64 (a1)]) Try.func48 rfl Try.ntmps48 rfl sep0 (fun a w E H => ?_)
 have E : Env 33 a [(0, .agg #[.int .i64 (a0.top), .int .i64 (a0.bottom), .slice abufferA a0.buffer.length abufferc, .slice aactorsA a0.actors.length aactorsc, .slice atakenA a0.taken.length atakenc, .slice arefusedA a0.refused.length arefusedc]), (1, .int .i64 (a1))] := E
 refine wp_seq (wp_region_lit ?_)
 refine w_box (us := [.int .i64 (a0.top), .int .i64 (a0.bottom), .slice abufferA a0.buffer.length abufferc, .slice aactorsA a0.actors.length aactorsc, .slice atakenA a0.taken.length atakenc, .slice arefusedA a0.refused.length arefusedc]) E rfl (E.tmp rfl) rfl H (fun a w g1 E H => ?_)
 refine w_alloc E rfl zo_30_8 H (fun a w g2 E H => ?_)
 refine wv E rfl (r_assign (ev_c _)) fun a E => ?_
 refine wpList_nil (then_n (wp_seq (wp_seq (wp_region_lit ?_))))
 obtain ⟨w3b5, w3t5⟩ := Ro1.now arefusedH H
 obtain ⟨w3b4, w3t4⟩ := Ro1.now atakenH H
 obtain ⟨w3b3, w3t3⟩ := Ro1.now aactorsH H
 obtain ⟨w3b2, w3t2⟩ := Ro1.now abufferH H
 have w3p : RoP w [] g1 0 a0.enc := H.rop 1 rfl (TN.v_mk rfl (TN.v_mk rfl (TN.sl_mk w3t2 (TN.sl_mk w3t3 (TN.sl_mk w3t4 (TN.sl_mk w3t5 TN.done))))))
 refine w_quiet (v := .bool (okB a0)) E rfl (ev_cons (E.tmp rfl) (ev_nil)) ok_134_8 (l23Ok_q a0 g1 0 w w3p) H (fun a w E H => ?_)
 refine wv E rfl (r_not (c := !(okB a0)) (E.tmp rfl) rfl) fun a E => ?_
 refine wpList_nil (then_n ?_)
 rcases bcase (okB a0) with ts4 | ts4
 ·
  refine cond_t E rfl (by rw [ts4]; rfl) ?_
  refine wp_seq (wp_region_lit ?_)
  refine wv E rfl (r_build (pv (pvn)) (by kernel_rfl : (Instr.build 30 (List.toArray [])).run Try.prog _ = .ok (.agg #[.int .i64 (0), .int .i64 (0), .slice none 0 0, .slice none 0 0, .slice none 0 0, .slice none 0 0]) _)) fun a E => ?_
  refine w_stores (us := [.int .i64 (0), .int .i64 (0), .slice none 0 0, .slice none 0 0, .slice none 0 0, .slice none 0 0]) (cs' := [.int .i64 (0), .int .i64 (0), .slice none 0 0, .slice none 0 0, .slice none 0 0, .slice none 0 0]) (rs' := [Cel _ [.int .i64 (0), .int .i64 (0), .slice none 0 0, .slice none 0 0, .slice none 0 0, .slice none 0 0] _, _]) E (E.tmp rfl) (E.tmp rfl) rfl sz_30_8 H (i := 0) rfl rfl rfl rfl (fun a w E H => ?_)
  refine wv E rfl (r_assign (ev_c _)) fun a E => ?_
  refine wpList_nil (then_n (wp_ret (then_r ?_)))
  refine post2 E rfl (out_c (us := [.int .i64 (0), .int .i64 (0), .slice none 0 0, .slice none 0 0, .slice none 0 0, .slice none 0 0]) E rfl ag_30_8 sz_30_8 (H.cellsAt 0 rfl)) (out_t E rfl) ?_
  have H := H.mk_e
  have H := H.gr_nil 0 1
  have H := H.gr_dats rfl
  have H := H.mk_s
  have H := H.gr_nil 0 2
  have H := H.gr_dats rfl
  have H := H.mk_s
  have H := H.gr_nil 0 5
  have H := H.gr_dats rfl
  have H := H.mk_s
  have H := H.gr_nil 0 1
  have H := H.gr_dats rfl
  have H := H.mk_s
  have H := H.mk_v (x := .int .i64 (0)) rfl
  have H := H.mk_v (x := .int .i64 (0)) rfl
  have H := H.drop 1 rfl
  have H := H.drop 1 rfl
  obtain ⟨rfl, rfl⟩ : r0 = (⟨0, 0, [], [], [], []⟩ : GDeque) ∧ r1 = 1 := by
   simp only [stepDequeR, Int.toNat_natCast, ts4, B1, B2, B3, B4, B5, B6, B7, B8, B9, B10, B11, B12, B13, B14] at hR
   exact Prod.mk.inj hR
  exact ⟨_, rfl, H⟩
 refine cond_f E rfl (by rw [ts4]; rfl) ?_
 refine wp_skip (then_n (wp_seq (wp_seq ?_)))
 have hrk := runOk_of ts4
 refine wp_region_lit ?_
 refine vm E rfl rfl fun a E => ?_
 refine wv E rfl (r_fa (o' := 3) (E.tmp rfl) fo_30_3_8 rfl) fun a E => ?_
 refine wv E rfl (r_load (E.tmp rfl) ag_27_8 (H.cell 1 rfl rfl)) fun a E => ?_
 refine wv E rfl (r_len (E.tmp rfl) el_27_8) (fun a E => ?_)
 refine wv E rfl (r_bin (E.tmp rfl) (ev_c _) (b_sub rfl)) fun a E => ?_
 refine w_quiet (v := .bool (inB a1 0 (IntKind.i64.wrap (((a0.actors.length : Nat) : Int) - 1)))) E rfl (ev_cons (E.tmp rfl) (ev_cons (ev_c _) (ev_cons (E.tmp rfl) (ev_nil)))) ok_122_8 (l00In_q a1 0 (IntKind.i64.wrap (((a0.actors.length : Nat) : Int) - 1)) w) H (fun a w E H => ?_)
 refine wv E rfl (r_not (c := !(inB a1 0 (IntKind.i64.wrap (((a0.actors.length : Nat) : Int) - 1)))) (E.tmp rfl) rfl) fun a E => ?_
 refine wpList_nil (then_n ?_)
 rcases bcase (inB a1 0 (IntKind.i64.wrap (((a0.actors.length : Nat) : Int) - 1))) with ts5 | ts5
 ·
  refine cond_t E rfl (by rw [ts5]; rfl) ?_
  refine wp_seq (wp_region_lit ?_)
  refine wv E rfl (r_build (pv (pvn)) (by kernel_rfl : (Instr.build 30 (List.toArray [])).run Try.prog _ = .ok (.agg #[.int .i64 (0), .int .i64 (0), .slice none 0 0, .slice none 0 0, .slice none 0 0, .slice none 0 0]) _)) fun a E => ?_
  refine w_stores (us := [.int .i64 (0), .int .i64 (0), .slice none 0 0, .slice none 0 0, .slice none 0 0, .slice none 0 0]) (cs' := [.int .i64 (0), .int .i64 (0), .slice none 0 0, .slice none 0 0, .slice none 0 0, .slice none 0 0]) (rs' := [Cel _ [.int .i64 (0), .int .i64 (0), .slice none 0 0, .slice none 0 0, .slice none 0 0, .slice none 0 0] _, _]) E (E.tmp rfl) (E.tmp rfl) rfl sz_30_8 H (i := 0) rfl rfl rfl rfl (fun a w E H => ?_)
  refine wv E rfl (r_assign (ev_c _)) fun a E => ?_
  refine wpList_nil (then_n (wp_ret (then_r ?_)))
  refine post2 E rfl (out_c (us := [.int .i64 (0), .int .i64 (0), .slice none 0 0, .slice none 0 0, .slice none 0 0, .slice none 0 0]) E rfl ag_30_8 sz_30_8 (H.cellsAt 0 rfl)) (out_t E rfl) ?_
  have H := H.mk_e
  have H := H.gr_nil 0 1
  have H := H.gr_dats rfl
  have H := H.mk_s
  have H := H.gr_nil 0 2
  have H := H.gr_dats rfl
  have H := H.mk_s
  have H := H.gr_nil 0 5
  have H := H.gr_dats rfl
  have H := H.mk_s
  have H := H.gr_nil 0 1
  have H := H.gr_dats rfl
  have H := H.mk_s
  have H := H.mk_v (x := .int .i64 (0)) rfl
  have H := H.mk_v (x := .int .i64 (0)) rfl
  have H := H.drop 1 rfl
  have H := H.drop 1 rfl
  obtain ⟨rfl, rfl⟩ : r0 = (⟨0, 0, [], [], [], []⟩ : GDeque) ∧ r1 = 2 := by
   simp only [stepDequeR, Int.toNat_natCast, ts4, ts5, B1, B2, B3, B4, B5, B6, B7, B8, B9, B10, B11, B12, B13, B14] at hR
   exact Prod.mk.inj hR
  exact ⟨_, rfl, H⟩
 refine cond_f E rfl (by rw [ts5]; rfl) ?_
 refine wp_skip (then_n (wp_seq (wp_seq ?_)))
 obtain ⟨k, rfl, hkl⟩ : ∃ k : Nat, a1 = ((k : Nat) : Int) ∧ k < a0.actors.length := in_idx ts5 (by have := hrk.n1; omega)
 revert E
 revert H
 obtain ⟨e6b, e6o, e6y, rfl, e6x, e6q⟩ := Ro1.elem (f := GDequeActor.enc) GDequeActor.enc_len aactorsH rfl hkl
 intro H E
 have r7p0 : RoP w0 [] e6b (e6o + k * 5) [.sl e6y.todo.length (e6y.todo.flatMap intE), .v (.int .i64 (e6y.pc)), .v (.int .i64 (e6y.t)), .v (.int .i64 (e6y.b)), .v (.int .i64 (e6y.x))] := e6q
 obtain ⟨r7A0, r7c0, r7k0, r7t0, r7n0, r7p1⟩ := RoP.sl r7p0
 clear r7p0
 obtain ⟨r7k1, r7p2⟩ := RoP.vv r7p1
 clear r7p1
 obtain ⟨r7k2, r7p3⟩ := RoP.vv r7p2
 clear r7p2
 obtain ⟨r7k3, r7p4⟩ := RoP.vv r7p3
 clear r7p3
 obtain ⟨r7k4, r7p5⟩ := RoP.vv r7p4
 clear r7p4
 clear r7p5
 refine wp_region_lit ?_
 refine wv E rfl (r_fa (o' := 3) (E.tmp rfl) fo_30_3_8 rfl) fun a E => ?_
 refine wv E rfl (r_load (E.tmp rfl) ag_27_8 (H.cell 1 rfl rfl)) fun a E => ?_
 refine vm E rfl rfl fun a E => ?_
 refine wv E rfl (r_ia (k := k) (o' := e6o + k * 5) (E.tmp rfl) (E.tmp rfl) rfl el_27_8 (by omega) rfl) fun a E => ?_
 refine wv E rfl (r_fa (o' := e6o + k * 5) (E.tmp rfl) fo_119_0_8 rfl) fun a E => ?_
 refine wv E rfl (r_load (E.tmp rfl) ag_24_8 (r7k0.get H)) fun a E => ?_
 refine wv E rfl (r_len (E.tmp rfl) el_24_8) (fun a E => ?_)
 refine wv E rfl (r_bin (E.tmp rfl) (ev_c _) (b_eql (b := ((e6y.todo.length : Nat) : Int) == 0) rfl)) fun a E => ?_
 refine wpList_nil (then_n ?_)
 rcases bcase (((e6y.todo.length : Nat) : Int) == 0) with ts8 | ts8
 ·
  refine cond_f E rfl ts8 ?_
  refine wp_skip (then_n (wp_seq ?_))
  obtain ⟨n0, tl, pc, tt, tb, tx, hye⟩ := act_open (a := e6y) (by simpa using ts8)
  have hk : a0.actors[k]? = some ⟨n0 :: tl, pc, tt, tb, tx⟩ := by rw [e6x, hye]
  have hrs := hrk.stp hk
  refine wp_region_lit ?_
  obtain ⟨w9b5, w9t5⟩ := Ro1.now arefusedH H
  obtain ⟨w9b4, w9t4⟩ := Ro1.now atakenH H
  obtain ⟨w9b3, w9t3⟩ := Ro1.now aactorsH H
  obtain ⟨w9b2, w9t2⟩ := Ro1.now abufferH H
  have w9p : RoP w [] g1 0 a0.enc := H.rop 1 rfl (TN.v_mk rfl (TN.v_mk rfl (TN.sl_mk w9t2 (TN.sl_mk w9t3 (TN.sl_mk w9t4 (TN.sl_mk w9t5 TN.done))))))
  have hrk := runOk_of ts4
  refine w_call E rfl (ev_cons (E.tmp rfl) (ev_nil)) ok_135_8 (l23Own_q a0 g1 0 w w9p (by have := hrk.b1; omega) (by have := hrk.r1; omega) hrk.n1 (by have := hrk.h1; omega) (fun k a h => by have := (hrk.acts k a h).1; omega)) ?_
  rintro _ w ⟨w10AB, w10cB, w10AA, w10cA, w10AT, w10cT, w10AR, w10cR, rfl, hI⟩
  refine ⟨_, rfl, fun a E => ?_⟩
  have H := H.new hI
  clear hI
  obtain ⟨bb, p11c, p11h⟩ := H.gr_pos 0 rfl hrk.b0
  injection p11h with p11e p11f p11g
  revert E
  revert H
  subst p11e
  subst p11g
  intro H E
  have H : Tr.Inv w0 [] w [Gr (.slice (some ⟨bb, 0, none⟩) a0.buffer.length w10cB) 2 1 a0.buffer.length (a0.buffer.flatMap intE), Gr (.slice w10AA a0.actors.length w10cA) 119 5 a0.actors.length (a0.actors.flatMap GDequeActor.enc), Gr (.slice w10AT a0.taken.length w10cT) 36 2 a0.taken.length (a0.taken.flatMap GHanded.enc), Gr (.slice w10AR a0.refused.length w10cR) 2 1 a0.refused.length (a0.refused.flatMap intE), Cel g2 [.int .i64 (0), .int .i64 (0), .slice none 0 0, .slice none 0 0, .slice none 0 0, .slice none 0 0] 30, Cel g1 [.int .i64 (a0.top), .int .i64 (a0.bottom), .slice abufferA a0.buffer.length abufferc, .slice (some ⟨e6b, e6o, none⟩) a0.actors.length aactorsc, .slice atakenA a0.taken.length atakenc, .slice arefusedA a0.refused.length arefusedc] 30] := H
  obtain ⟨rb, p12c, p12h⟩ := H.gr_pos 1 rfl (Nat.lt_of_le_of_lt (Nat.zero_le _) hkl)
  injection p12h with p12e p12f p12g
  revert E
  revert H
  subst p12e
  subst p12g
  intro H E
  have H : Tr.Inv w0 [] w [Gr (.slice (some ⟨bb, 0, none⟩) a0.buffer.length w10cB) 2 1 a0.buffer.length (a0.buffer.flatMap intE), Gr (.slice (some ⟨rb, 0, none⟩) a0.actors.length w10cA) 119 5 a0.actors.length (a0.actors.flatMap GDequeActor.enc), Gr (.slice w10AT a0.taken.length w10cT) 36 2 a0.taken.length (a0.taken.flatMap GHanded.enc), Gr (.slice w10AR a0.refused.length w10cR) 2 1 a0.refused.length (a0.refused.flatMap intE), Cel g2 [.int .i64 (0), .int .i64 (0), .slice none 0 0, .slice none 0 0, .slice none 0 0, .slice none 0 0] 30, Cel g1 [.int .i64 (a0.top), .int .i64 (a0.bottom), .slice abufferA a0.buffer.length abufferc, .slice (some ⟨e6b, e6o, none⟩) a0.actors.length aactorsc, .slice atakenA a0.taken.length atakenc, .slice arefusedA a0.refused.length arefusedc] 30] := H
  refine w_alloc E rfl zo_30_8 H (fun a w g13 E H => ?_)
  refine w_stores (us := [.int .i64 (a0.top), .int .i64 (a0.bottom), .slice (some ⟨bb, 0, none⟩) a0.buffer.length w10cB, .slice (some ⟨rb, 0, none⟩) a0.actors.length w10cA, .slice w10AT a0.taken.length w10cT, .slice w10AR a0.refused.length w10cR]) (cs' := [.int .i64 (a0.top), .int .i64 (a0.bottom), .slice (some ⟨bb, 0, none⟩) a0.buffer.length w10cB, .slice (some ⟨rb, 0, none⟩) a0.actors.length w10cA, .slice w10AT a0.taken.length w10cT, .slice w10AR a0.refused.length w10cR]) (rs' := [Cel _ [.int .i64 (a0.top), .int .i64 (a0.bottom), .slice (some ⟨bb, 0, none⟩) a0.buffer.length w10cB, .slice (some ⟨rb, 0, none⟩) a0.actors.length w10cA, .slice w10AT a0.taken.length w10cT, .slice w10AR a0.refused.length w10cR] _, _, _, _, _, _, _]) E (E.tmp rfl) (E.tmp rfl) rfl sz_30_8 H (i := 0) rfl rfl rfl rfl (fun a w E H => ?_)
  refine wpList_nil (then_n (wp_seq (wp_region_lit ?_)))
  refine vm E rfl rfl fun a E => ?_
  -- step
  have H := H.front 4 rfl
  have H := H.front 4 rfl
  have H := H.front 4 rfl
  have H := H.front 4 rfl
  have H := H.front 4 rfl
  obtain ⟨q14F, q14S, q14I, q14b⟩ := Tr.Inv.frame (pre := [Cel g13 [.int .i64 (a0.top), .int .i64 (a0.bottom), .slice (some ⟨bb, 0, none⟩) a0.buffer.length w10cB, .slice (some ⟨rb, 0, none⟩) a0.actors.length w10cA, .slice w10AT a0.taken.length w10cT, .slice w10AR a0.refused.length w10cR] 30, Gr (.slice (some ⟨bb, 0, none⟩) a0.buffer.length w10cB) 2 1 a0.buffer.length (a0.buffer.flatMap intE), Gr (.slice (some ⟨rb, 0, none⟩) a0.actors.length w10cA) 119 5 a0.actors.length (a0.actors.flatMap GDequeActor.enc), Gr (.slice w10AT a0.taken.length w10cT) 36 2 a0.taken.length (a0.taken.flatMap GHanded.enc), Gr (.slice w10AR a0.refused.length w10cR) 2 1 a0.refused.length (a0.refused.flatMap intE)]) (rest := [Cel g2 [.int .i64 (0), .int .i64 (0), .slice none 0 0, .slice none 0 0, .slice none 0 0, .slice none 0 0] 30, Cel g1 [.int .i64 (a0.top), .int .i64 (a0.bottom), .slice abufferA a0.buffer.length abufferc, .slice (some ⟨e6b, e6o, none⟩) a0.actors.length aactorsc, .slice atakenA a0.taken.length atakenc, .slice arefusedA a0.refused.length arefusedc] 30]) H
  obtain ⟨z, hzz⟩ : ∃ z, z = stepS a0 k ⟨n0 :: tl, pc, tt, tb, tx⟩ := ⟨_, rfl⟩
  have hz2z : z = stepS a0 k e6y := by rw [hye]; exact hzz
  refine w_call E rfl (ev_cons (E.tmp rfl) (ev_cons (E.tmp rfl) (ev_nil))) ok_136_8 (l23Step_q a0 g13 bb w10cB w10cT w10cR rb w10cA w10AT w10AR k n0 tl pc tt tb tx z w q14S hk hrs.1 hrk.b0 hrk.b1 (by have := hrk.h1; omega) (by have := hrk.r1; omega) hzz hrs.2.1 hrs.2.2.1 hrs.2.2.2) ?_
  rintro _ w ⟨q14AT, q14cT, q14AR, q14cR, rfl, hI⟩
  refine ⟨_, rfl, fun a E => ?_⟩
  have H := q14b _ _ hI
  clear hI q14S q14I q14b
  have H : Tr.Inv w0 [] w [Cel g13 [.int .i64 (z.top), .int .i64 (z.bottom), .slice (some ⟨bb, 0, none⟩) a0.buffer.length w10cB, .slice (some ⟨rb, 0, none⟩) a0.actors.length w10cA, .slice q14AT z.taken.length q14cT, .slice q14AR z.refused.length q14cR] 30, Gr (.slice (some ⟨bb, 0, none⟩) a0.buffer.length w10cB) 2 1 a0.buffer.length (z.buffer.flatMap intE), Gr (.slice (some ⟨rb, 0, none⟩) a0.actors.length w10cA) 119 5 a0.actors.length (z.actors.flatMap GDequeActor.enc), Gr (.slice q14AT z.taken.length q14cT) 36 2 z.taken.length (z.taken.flatMap GHanded.enc), Gr (.slice q14AR z.refused.length q14cR) 2 1 z.refused.length (z.refused.flatMap intE), Cel g2 [.int .i64 (0), .int .i64 (0), .slice none 0 0, .slice none 0 0, .slice none 0 0, .slice none 0 0] 30, Cel g1 [.int .i64 (a0.top), .int .i64 (a0.bottom), .slice abufferA a0.buffer.length abufferc, .slice (some ⟨e6b, e6o, none⟩) a0.actors.length aactorsc, .slice atakenA a0.taken.length atakenc, .slice arefusedA a0.refused.length arefusedc] 30] := H
  have hbl : z.buffer.length = a0.buffer.length := by rw [hzz]; exact (stepS_len _ _ _).1
  have hal : z.actors.length = a0.actors.length := by rw [hzz]; exact (stepS_len _ _ _).2
  have H : Tr.Inv w0 [] w [Cel g13 [.int .i64 (z.top), .int .i64 (z.bottom), .slice (some ⟨bb, 0, none⟩) z.buffer.length w10cB, .slice (some ⟨rb, 0, none⟩) z.actors.length w10cA, .slice q14AT z.taken.length q14cT, .slice q14AR z.refused.length q14cR] 30, Gr (.slice (some ⟨bb, 0, none⟩) z.buffer.length w10cB) 2 1 z.buffer.length (z.buffer.flatMap intE), Gr (.slice (some ⟨rb, 0, none⟩) z.actors.length w10cA) 119 5 z.actors.length (z.actors.flatMap GDequeActor.enc), Gr (.slice q14AT z.taken.length q14cT) 36 2 z.taken.length (z.taken.flatMap GHanded.enc), Gr (.slice q14AR z.refused.length q14cR) 2 1 z.refused.length (z.refused.flatMap intE), Cel g2 [.int .i64 (0), .int .i64 (0), .slice none 0 0, .slice none 0 0, .slice none 0 0, .slice none 0 0] 30, Cel g1 [.int .i64 (a0.top), .int .i64 (a0.bottom), .slice abufferA a0.buffer.length abufferc, .slice (some ⟨e6b, e6o, none⟩) a0.actors.length aactorsc, .slice atakenA a0.taken.length atakenc, .slice arefusedA a0.refused.length arefusedc] 30] := by rw [hbl, hal]; exact H
  refine wpList_nil (then_n (wp_seq (wp_seq (wp_region_lit ?_))))
  obtain ⟨w15b5, w15t5⟩ := H.gr_t 4 rfl (by rw [flat_len intE 1 (fun _ => rfl)])
  obtain ⟨w15b4, w15t4⟩ := H.gr_t 3 rfl (by rw [flat_len GHanded.enc 2 GHanded.enc_len])
  obtain ⟨w15b3, w15t3⟩ := H.gr_t 2 rfl (by rw [flat_len GDequeActor.enc 5 GDequeActor.enc_len])
  obtain ⟨w15b2, w15t2⟩ := H.gr_t 1 rfl (by rw [flat_len intE 1 (fun _ => rfl)])
  have w15p : RoP w [] g13 0 z.enc := H.rop 0 rfl (TN.v_mk rfl (TN.v_mk rfl (TN.sl_mk w15t2 (TN.sl_mk w15t3 (TN.sl_mk w15t4 (TN.sl_mk w15t5 TN.done))))))
  refine w_quiet (v := .bool (fullB z)) E rfl (ev_cons (E.tmp rfl) (ev_nil)) ok_137_8 (l23Full_q z g13 0 w w15p) H (fun a w E H => ?_)
  refine wpList_nil (then_n ?_)
  rcases bcase (fullB z) with ts16 | ts16
  ·
   refine cond_f E rfl ts16 ?_
   refine wp_skip (then_n (wp_seq (wp_region_lit ?_)))
   refine wv E rfl (r_loads (us := [.int .i64 (z.top), .int .i64 (z.bottom), .slice (some ⟨bb, 0, none⟩) z.buffer.length w10cB, .slice (some ⟨rb, 0, none⟩) z.actors.length w10cA, .slice q14AT z.taken.length q14cT, .slice q14AR z.refused.length q14cR]) (E.tmp rfl) ag_30_8 sz_30_8 (H.cellsAt 0 rfl)) fun a E => ?_
   refine w_stores (us := [.int .i64 (z.top), .int .i64 (z.bottom), .slice (some ⟨bb, 0, none⟩) z.buffer.length w10cB, .slice (some ⟨rb, 0, none⟩) z.actors.length w10cA, .slice q14AT z.taken.length q14cT, .slice q14AR z.refused.length q14cR]) (cs' := [.int .i64 (z.top), .int .i64 (z.bottom), .slice (some ⟨bb, 0, none⟩) z.buffer.length w10cB, .slice (some ⟨rb, 0, none⟩) z.actors.length w10cA, .slice q14AT z.taken.length q14cT, .slice q14AR z.refused.length q14cR]) (rs' := [_, _, _, _, _, Cel _ [.int .i64 (z.top), .int .i64 (z.bottom), .slice (some ⟨bb, 0, none⟩) z.buffer.length w10cB, .slice (some ⟨rb, 0, none⟩) z.actors.length w10cA, .slice q14AT z.taken.length q14cT, .slice q14AR z.refused.length q14cR] _, _]) E (E.tmp rfl) (E.tmp rfl) rfl sz_30_8 H (i := 5) rfl rfl rfl rfl (fun a w E H => ?_)
   refine wv E rfl (r_assign (ev_c _)) fun a E => ?_
   refine wpList_nil (then_n (wp_ret ?_))
   refine post2 E rfl (out_c (us := [.int .i64 (z.top), .int .i64 (z.bottom), .slice (some ⟨bb, 0, none⟩) z.buffer.length w10cB, .slice (some ⟨rb, 0, none⟩) z.actors.length w10cA, .slice q14AT z.taken.length q14cT, .slice q14AR z.refused.length q14cR]) E rfl ag_30_8 sz_30_8 (H.cellsAt 5 rfl)) (out_t E rfl) ?_
   have H := H.mk_e
   have H := H.front 5 rfl
   have H := H.gr_dats (by rw [flat_len intE 1 (fun _ => rfl)])
   have H := H.mk_s
   have H := H.front 4 rfl
   have H := H.gr_dats (by rw [flat_len GHanded.enc 2 GHanded.enc_len])
   have H := H.mk_s
   have H := H.front 3 rfl
   have H := H.gr_dats (by rw [flat_len GDequeActor.enc 5 GDequeActor.enc_len])
   have H := H.mk_s
   have H := H.front 2 rfl
   have H := H.gr_dats (by rw [flat_len intE 1 (fun _ => rfl)])
   have H := H.mk_s
   have H := H.mk_v (x := .int .i64 (z.bottom)) rfl
   have H := H.mk_v (x := .int .i64 (z.top)) rfl
   have H := H.drop 1 rfl
   have H := H.drop 1 rfl
   have H := H.drop 1 rfl
   obtain ⟨rfl, rfl⟩ : r0 = z ∧ r1 = 0 := by
    have hgi := (List.getElem?_eq_some_iff.1 hk)
    simp only [stepDequeR, Int.toNat_natCast, e6x, ts4, ts5, ts8, ← hz2z, ts16, B1, B2, B3, B4, B5, B6, B7, B8, B9, B10, B11, B12, B13, B14] at hR
    exact Prod.mk.inj hR
   exact ⟨_, rfl, H⟩
  refine cond_t E rfl ts16 ?_
  refine wp_seq (wp_region_lit ?_)
  refine wv E rfl (r_build (pv (pvn)) (by kernel_rfl : (Instr.build 30 (List.toArray [])).run Try.prog _ = .ok (.agg #[.int .i64 (0), .int .i64 (0), .slice none 0 0, .slice none 0 0, .slice none 0 0, .slice none 0 0]) _)) fun a E => ?_
  refine w_stores (us := [.int .i64 (0), .int .i64 (0), .slice none 0 0, .slice none 0 0, .slice none 0 0, .slice none 0 0]) (cs' := [.int .i64 (0), .int .i64 (0), .slice none 0 0, .slice none 0 0, .slice none 0 0, .slice none 0 0]) (rs' := [_, _, _, _, _, Cel _ [.int .i64 (0), .int .i64 (0), .slice none 0 0, .slice none 0 0, .slice none 0 0, .slice none 0 0] _, _]) E (E.tmp rfl) (E.tmp rfl) rfl sz_30_8 H (i := 5) rfl rfl rfl rfl (fun a w E H => ?_)
  refine wv E rfl (r_assign (ev_c _)) fun a E => ?_
  refine wpList_nil (then_n (wp_ret (then_r ?_)))
  refine post2 E rfl (out_c (us := [.int .i64 (0), .int .i64 (0), .slice none 0 0, .slice none 0 0, .slice none 0 0, .slice none 0 0]) E rfl ag_30_8 sz_30_8 (H.cellsAt 5 rfl)) (out_t E rfl) ?_
  have H := H.mk_e
  have H := H.gr_nil 0 1
  have H := H.gr_dats rfl
  have H := H.mk_s
  have H := H.gr_nil 0 2
  have H := H.gr_dats rfl
  have H := H.mk_s
  have H := H.gr_nil 0 5
  have H := H.gr_dats rfl
  have H := H.mk_s
  have H := H.gr_nil 0 1
  have H := H.gr_dats rfl
  have H := H.mk_s
  have H := H.mk_v (x := .int .i64 (0)) rfl
  have H := H.mk_v (x := .int .i64 (0)) rfl
  have H := H.drop 1 rfl
  have H := H.drop 1 rfl
  have H := H.drop 1 rfl
  have H := H.drop 1 rfl
  have H := H.drop 1 rfl
  have H := H.drop 1 rfl
  have H := H.drop 1 rfl
  obtain ⟨rfl, rfl⟩ : r0 = (⟨0, 0, [], [], [], []⟩ : GDeque) ∧ r1 = 4 := by
   have hgi := (List.getElem?_eq_some_iff.1 hk)
   simp only [stepDequeR, Int.toNat_natCast, e6x, ts4, ts5, ts8, ← hz2z, ts16, B1, B2, B3, B4, B5, B6, B7, B8, B9, B10, B11, B12, B13, B14] at hR
   exact Prod.mk.inj hR
  exact ⟨_, rfl, H⟩
 refine cond_t E rfl ts8 ?_
 refine wp_seq (wp_region_lit ?_)
 refine wv E rfl (r_build (pv (pvn)) (by kernel_rfl : (Instr.build 30 (List.toArray [])).run Try.prog _ = .ok (.agg #[.int .i64 (0), .int .i64 (0), .slice none 0 0, .slice none 0 0, .slice none 0 0, .slice none 0 0]) _)) fun a E => ?_
 refine w_stores (us := [.int .i64 (0), .int .i64 (0), .slice none 0 0, .slice none 0 0, .slice none 0 0, .slice none 0 0]) (cs' := [.int .i64 (0), .int .i64 (0), .slice none 0 0, .slice none 0 0, .slice none 0 0, .slice none 0 0]) (rs' := [Cel _ [.int .i64 (0), .int .i64 (0), .slice none 0 0, .slice none 0 0, .slice none 0 0, .slice none 0 0] _, _]) E (E.tmp rfl) (E.tmp rfl) rfl sz_30_8 H (i := 0) rfl rfl rfl rfl (fun a w E H => ?_)
 refine wv E rfl (r_assign (ev_c _)) fun a E => ?_
 refine wpList_nil (then_n (wp_ret (then_r ?_)))
 refine post2 E rfl (out_c (us := [.int .i64 (0), .int .i64 (0), .slice none 0 0, .slice none 0 0, .slice none 0 0, .slice none 0 0]) E rfl ag_30_8 sz_30_8 (H.cellsAt 0 rfl)) (out_t E rfl) ?_
 have H := H.mk_e
 have H := H.gr_nil 0 1
 have H := H.gr_dats rfl
 have H := H.mk_s
 have H := H.gr_nil 0 2
 have H := H.gr_dats rfl
 have H := H.mk_s
 have H := H.gr_nil 0 5
 have H := H.gr_dats rfl
 have H := H.mk_s
 have H := H.gr_nil 0 1
 have H := H.gr_dats rfl
 have H := H.mk_s
 have H := H.mk_v (x := .int .i64 (0)) rfl
 have H := H.mk_v (x := .int .i64 (0)) rfl
 have H := H.drop 1 rfl
 have H := H.drop 1 rfl
 obtain ⟨rfl, rfl⟩ : r0 = (⟨0, 0, [], [], [], []⟩ : GDeque) ∧ r1 = 5 := by
  simp only [stepDequeR, Int.toNat_natCast, e6x, ts4, ts5, ts8, B1, B2, B3, B4, B5, B6, B7, B8, B9, B10, B11, B12, B13, B14] at hR
  exact Prod.mk.inj hR
 exact ⟨_, rfl, H⟩
end Go.Proofs.Ythelpioccjjgfaa
