/- Deques. Printed by gx_dq.py. -/
import Derived.Test.YthelpioccjjgfaaProg
import Derived.Test.YthelpioccjjgfaaSc
import Derived.Test.YthelpioccjjgfaaDDq
import Derived.Test.YthelpioccjjgfaaArith
import Derived.IntWalk
import Derived.Test.YthelpioccjjgfaaDq17
import Derived.Test.YthelpioccjjgfaaDq16
import Derived.Test.YthelpioccjjgfaaDq13
import Derived.Test.YthelpioccjjgfaaDqP
set_option linter.unusedSimpArgs false
set_option linter.unusedVariables false
namespace Go.Tr
def ThOk (x : GDeque) : Prop := ∀ (k : Nat) (a : GDequeActor), 0 < k → x.actors[k]? = some a → ∀ n ∈ a.todo, n = 0
theorem thOk_of {x : GDeque} (h : okB x = true) : ThOk x := by
  intro k a h0 hk n hn
  have h1 := allTo_of ((okB_iff x).1 h).acts (List.getElem?_eq_some_iff.1 hk).1
  simp only [actF, hk] at h1
  rw [show (((k : Nat) : Int) == 0) = false by simp; omega] at h1
  simp only [actorB, Bool.and_eq_true, List.all_eq_true] at h1
  have h2 := h1.1.2 n hn
  simpa [todoOk] using h2
theorem thOk_step {y : GDeque} {k : Nat} {n0 : Int} {tl : List Int} {pc t b x : Int} (h : ThOk y) (hk : y.actors[k]? = some ⟨n0 :: tl, pc, t, b, x⟩) (hpc : pc = 0 ∨ pc = 1 ∨ pc = 2 ∨ pc = 3) (hp0 : k = 0 → n0 ≠ 0 → pc ≠ 3) : ThOk (stepS y k ⟨n0 :: tl, pc, t, b, x⟩) := by
  intro j a h0 hj n hn
  rw [stepS_acts] at hj
  by_cases hkj : k = j
  · subst hkj
    rw [List.getElem?_set_self (List.getElem?_eq_some_iff.1 hk).1] at hj
    obtain rfl := Option.some.inj hj
    rcases stepA_any (y := y) (tl := tl) (t := t) (b := b) (x := x) hpc hp0 with h1 | ⟨h1, _⟩
    · rw [h1] at hn; exact h k _ h0 hk n (List.mem_cons_of_mem _ hn)
    · rw [h1] at hn; exact h k _ h0 hk n hn
  · rw [List.getElem?_set_ne hkj] at hj
    exact h j a h0 hj n hn
end Go.Tr
namespace Go.Proofs.Ythelpioccjjgfaa
open Go Go.RowKit Go.Proofs Go.Tr
theorem zo_30_17 : zeroOf Try.prog 30 = some [.int .i64 (0), .int .i64 (0), .slice none 0 0, .slice none 0 0, .slice none 0 0, .slice none 0 0] := by kernel_rfl
theorem ag_30_17 : aggB Try.prog 30 = some true := by kernel_rfl
theorem sz_30_17 : (Try.prog.info? 30).map (·.size) = some 6 := by kernel_rfl
theorem ok_65_17 : callOk Try.prog 65 = true := by kernel_rfl
theorem fo_30_3_17 : fldOff Try.prog 30 3 = some 3 := by kernel_rfl
theorem ag_27_17 : aggB Try.prog 27 = some false := by kernel_rfl
theorem el_27_17 : elemOf? Try.prog 27 = some (119, 5) := by kernel_rfl
theorem fo_119_0_17 : fldOff Try.prog 119 0 = some 0 := by kernel_rfl
theorem ag_24_17 : aggB Try.prog 24 = some false := by kernel_rfl
theorem el_24_17 : elemOf? Try.prog 24 = some (2, 1) := by kernel_rfl
theorem ok_67_17 : callOk Try.prog 67 = true := by kernel_rfl
theorem ok_69_17 : callOk Try.prog 69 = true := by kernel_rfl
set_option maxHeartbeats 1000000 in
theorem stepDequeI_q (a0 : GDeque) (a1 : Int) (abufferA : Option Addr) (abufferc : Nat) (aactorsA : Option Addr) (aactorsc : Nat) (atakenA : Option Addr) (atakenc : Nat) (arefusedA : Option Addr) (arefusedc : Nat) (r0 : GDeque) (r1 : Int) (hR : (r0, r1) = stepDequeR a0 a1) (w0 : World) (abufferH : Ro1 w0 [] (.sl a0.buffer.length (a0.buffer.flatMap intE)) (.slice abufferA a0.buffer.length abufferc)) (aactorsH : Ro1 w0 [] (.sl a0.actors.length (a0.actors.flatMap GDequeActor.enc)) (.slice aactorsA a0.actors.length aactorsc)) (atakenH : Ro1 w0 [] (.sl a0.taken.length (a0.taken.flatMap GHanded.enc)) (.slice atakenA a0.taken.length atakenc)) (arefusedH : Ro1 w0 [] (.sl a0.refused.length (a0.refused.flatMap intE)) (.slice arefusedA a0.refused.length arefusedc)) : Calls Try.prog 50 #[.agg #[.int .i64 (a0.top), .int .i64 (a0.bottom), .slice abufferA a0.buffer.length abufferc, .slice aactorsA a0.actors.length aactorsc, .slice atakenA a0.taken.length atakenc, .slice arefusedA a0.refused.length arefusedc], .int .i64 (a1)] w0 fun e w' => ∃ us, e = .returned (.tuple #[.agg us.toArray, .int .i64 r1]) ∧ Tr.Inv w0 [] w' [DatN us r0.enc] := by
 refine enter_i (args := [.agg #[.int .i64 (a0.top), .int .i64 (a0.bottom), .slice abufferA a0.buffer.length abufferc, .slice aactorsA a0.actors.length aactorsc, .slice atakenA a0.taken.length atakenc, .slice arefusedA a0.refused.length arefusedc], .int .i64 (a1)]) Try.func50 rfl Try.ntmps50 rfl sep0 (fun a w E H => ?_)
 have E : Env 44 a [(0, .agg #[.int .i64 (a0.top), .int .i64 (a0.bottom), .slice abufferA a0.buffer.length abufferc, .slice aactorsA a0.actors.length aactorsc, .slice atakenA a0.taken.length atakenc, .slice arefusedA a0.refused.length arefusedc]), (1, .int .i64 (a1))] := E
 refine wp_seq (wp_region_lit ?_)
 refine w_box (us := [.int .i64 (a0.top), .int .i64 (a0.bottom), .slice abufferA a0.buffer.length abufferc, .slice aactorsA a0.actors.length aactorsc, .slice atakenA a0.taken.length atakenc, .slice arefusedA a0.refused.length arefusedc]) E rfl (E.tmp rfl) rfl H (fun a w g1 E H => ?_)
 refine w_alloc E rfl zo_30_17 H (fun a w g2 E H => ?_)
 refine wv E rfl (r_assign (ev_c _)) fun a E => ?_
 refine wpList_nil (then_n (wp_seq (wp_block (wp_seq (wp_region_lit ?_)))))
 refine wv E rfl (r_loads (us := [.int .i64 (a0.top), .int .i64 (a0.bottom), .slice abufferA a0.buffer.length abufferc, .slice aactorsA a0.actors.length aactorsc, .slice atakenA a0.taken.length atakenc, .slice arefusedA a0.refused.length arefusedc]) (E.tmp rfl) ag_30_17 sz_30_17 (H.cellsAt 1 rfl)) fun a E => ?_
 refine w_quiet (v := .bool (okB a0)) E rfl (ev_cons (E.tmp rfl) (ev_nil)) ok_65_17 (validDeque_q a0 abufferA abufferc aactorsA aactorsc atakenA atakenc arefusedA arefusedc w (abufferH.at_ H (F := []) (by simp)) (aactorsH.at_ H (F := []) (by simp)) (atakenH.at_ H (F := []) (by simp)) (arefusedH.at_ H (F := []) (by simp))) H (fun a w E H => ?_)
 refine wv E rfl (r_not (c := !(okB a0)) (E.tmp rfl) rfl) fun a E => ?_
 refine va E rfl rfl fun a E => ?_
 refine wpList_nil (then_n ?_)
 rcases bcase (okB a0) with ts3 | ts3
 ·
  refine cond_t E rfl (by rw [ts3]; rfl) ?_
  refine wp_seq (wp_region_lit ?_)
  refine wv E rfl (r_build (pv (pvn)) (by kernel_rfl : (Instr.build 30 (List.toArray [])).run Try.prog _ = .ok (.agg #[.int .i64 (0), .int .i64 (0), .slice none 0 0, .slice none 0 0, .slice none 0 0, .slice none 0 0]) _)) fun a E => ?_
  refine w_stores (us := [.int .i64 (0), .int .i64 (0), .slice none 0 0, .slice none 0 0, .slice none 0 0, .slice none 0 0]) (cs' := [.int .i64 (0), .int .i64 (0), .slice none 0 0, .slice none 0 0, .slice none 0 0, .slice none 0 0]) (rs' := [Cel _ [.int .i64 (0), .int .i64 (0), .slice none 0 0, .slice none 0 0, .slice none 0 0, .slice none 0 0] _, _]) E (E.tmp rfl) (E.tmp rfl) rfl sz_30_17 H (i := 0) rfl rfl rfl rfl (fun a w E H => ?_)
  refine wv E rfl (r_assign (ev_c _)) fun a E => ?_
  refine wpList_nil (then_n (wp_ret (inb_r (then_r ?_))))
  refine post2 E rfl (out_c (us := [.int .i64 (0), .int .i64 (0), .slice none 0 0, .slice none 0 0, .slice none 0 0, .slice none 0 0]) E rfl ag_30_17 sz_30_17 (H.cellsAt 0 rfl)) (out_t E rfl) ?_
  have H := H.mk_e
  have H := H.gr_nil 0 1
  have H := H.gr_dats rfl
  have H := H.mk_s
  have H := H.gr_nil 0 2
  have H := H.gr_dats rfl
  have H := H.mk_s
  have H := H.gr_nil 0 5
  have H := H.gr_dats rfl
  have H := H.mk_s
  have H := H.gr_nil 0 1
  have H := H.gr_dats rfl
  have H := H.mk_s
  have H := H.mk_v (x := .int .i64 (0)) rfl
  have H := H.mk_v (x := .int .i64 (0)) rfl
  have H := H.drop 1 rfl
  have H := H.drop 1 rfl
  obtain ⟨rfl, rfl⟩ : r0 = (⟨0, 0, [], [], [], []⟩ : GDeque) ∧ r1 = 1 := by
   simp only [stepDequeR, Int.toNat_natCast, ts3, B1, B2, B3, B4, B5, B6, B7, B8, B9, B10, B11, B12, B13, B14] at hR
   exact Prod.mk.inj hR
  exact ⟨_, rfl, H⟩
 refine cond_f E rfl (by rw [ts3]; rfl) ?_
 refine wp_seq ?_
 have hrk := runOk_of ts3
 have htk := thOk_of ts3
 have hwl : IntKind.i64.wrap (((a0.actors.length : Nat) : Int) - 1) = ((a0.actors.length : Nat) : Int) - 1 := IntWalk.i64_in _ (by have := hrk.n1; omega)
 refine reg_mid (fun a w => Env 44 a [(1, .int .i64 (a1)), (2, .pointer (some ⟨g1, 0, none⟩)), (4, .pointer (some ⟨g2, 0, none⟩)), (5, .int .i64 (0)), (13, .bool ((decide (a1 < 0)) || (decide (((a0.actors.length : Nat) : Int) ≤ a1))))] ∧ Tr.Inv w0 [] w [Cel g2 [.int .i64 (0), .int .i64 (0), .slice none 0 0, .slice none 0 0, .slice none 0 0, .slice none 0 0] 30, Cel g1 [.int .i64 (a0.top), .int .i64 (a0.bottom), .slice abufferA a0.buffer.length abufferc, .slice aactorsA a0.actors.length aactorsc, .slice atakenA a0.taken.length atakenc, .slice arefusedA a0.refused.length arefusedc] 30]) ?_ (fun a w hj => ?_)
 ·
  refine wp_region_lit ?_
  refine vm E rfl rfl fun a E => ?_
  refine wv E rfl (r_bin (E.tmp rfl) (ev_c _) (b_lss (b := decide (a1 < 0)) rfl)) fun a E => ?_
  refine vm E rfl rfl fun a E => ?_
  rcases bcase (decide (a1 < 0)) with ts4 | ts4
  ·
   refine ung E rfl rfl rfl ts4 ?_
   refine vm E rfl rfl fun a E => ?_
   refine ung E rfl rfl rfl ts4 ?_
   refine wv E rfl (r_fa (o' := 3) (E.tmp rfl) fo_30_3_17 rfl) fun a E => ?_
   refine ung E rfl rfl rfl ts4 ?_
   refine wv E rfl (r_load (E.tmp rfl) ag_27_17 (H.cell 1 rfl rfl)) fun a E => ?_
   refine ung E rfl rfl rfl ts4 ?_
   refine wv E rfl (r_len (E.tmp rfl) el_27_17) (fun a E => ?_)
   refine ung E rfl rfl rfl ts4 ?_
   refine wv E rfl (r_bin (E.tmp rfl) (E.tmp rfl) (b_geq (b := decide (((a0.actors.length : Nat) : Int) ≤ a1)) rfl)) fun a E => ?_
   refine wv E rfl (r_pick_f ((E.tmp rfl).trans (congrArg Value.bool ts4)) (E.tmp rfl)) fun a E => ?_
   refine va E rfl rfl fun a E => ?_
   refine wpList_nil ?_
   have ej5 : ((decide (a1 < 0)) || (decide (((a0.actors.length : Nat) : Int) ≤ a1))) = (decide (((a0.actors.length : Nat) : Int) ≤ a1)) := by simp only [ts4, B1, B2, B3, B4, B5, B6, B7, B8, B9, B10, B11, B12, B13, B14]
   exact ⟨rfl, by rw [ej5]; exact (Env.pick E (Env.pick E (Env.pick E (Env.pick E (Env.pick E E.nil rfl) rfl) rfl) rfl) rfl), H⟩
  refine wnh (c := true) E rfl rfl rfl rfl ts4 rfl fun a E => ?_
  refine wnh (c := true) E rfl rfl rfl rfl ts4 rfl fun a E => ?_
  refine wnh (c := true) E rfl rfl rfl rfl ts4 rfl fun a E => ?_
  refine wnh (c := true) E rfl rfl rfl rfl ts4 rfl fun a E => ?_
  refine wnh (c := true) E rfl rfl rfl rfl ts4 rfl fun a E => ?_
  refine wv E rfl (r_pick_t ((E.tmp rfl).trans (congrArg Value.bool ts4)) (ev_c _)) fun a E => ?_
  refine va E rfl rfl fun a E => ?_
  refine wpList_nil ?_
  have ej6 : ((decide (a1 < 0)) || (decide (((a0.actors.length : Nat) : Int) ≤ a1))) = true := by simp only [ts4, B1, B2, B3, B4, B5, B6, B7, B8, B9, B10, B11, B12, B13, B14]
  exact ⟨rfl, by rw [ej6]; exact (Env.pick E (Env.pick E (Env.pick E (Env.pick E (Env.pick E E.nil rfl) rfl) rfl) rfl) rfl), H⟩
 obtain ⟨E, H⟩ := hj
 refine then_n ?_
 rcases bcase ((decide (a1 < 0)) || (decide (((a0.actors.length : Nat) : Int) ≤ a1))) with ts7 | ts7
 ·
  obtain ⟨ts8, ts9⟩ := b_of ts7
  refine cond_f E rfl ts7 ?_
  refine wp_seq ?_
  have hin : inB a1 0 (IntKind.i64.wrap (((a0.actors.length : Nat) : Int) - 1)) = true := by
   rw [hwl]
   have hts7 := ts7; have hts8 := ts8; have hts9 := ts9
   simp [inB] at hts7 hts8 hts9 ⊢; omega
  obtain ⟨k, hak, hkl⟩ : ∃ k : Nat, a1 = ((k : Nat) : Int) ∧ k < a0.actors.length := in_idx hin (by have := hrk.n1; omega)
  revert E
  revert H
  subst hak
  intro H E
  revert E
  revert H
  obtain ⟨e10b, e10o, e10y, rfl, e10x, e10q⟩ := Ro1.elem (f := GDequeActor.enc) GDequeActor.enc_len aactorsH rfl hkl
  intro H E
  have r11p0 : RoP w0 [] e10b (e10o + k * 5) [.sl e10y.todo.length (e10y.todo.flatMap intE), .v (.int .i64 (e10y.pc)), .v (.int .i64 (e10y.t)), .v (.int .i64 (e10y.b)), .v (.int .i64 (e10y.x))] := e10q
  obtain ⟨r11A0, r11c0, r11k0, r11t0, r11n0, r11p1⟩ := RoP.sl r11p0
  clear r11p0
  obtain ⟨r11k1, r11p2⟩ := RoP.vv r11p1
  clear r11p1
  obtain ⟨r11k2, r11p3⟩ := RoP.vv r11p2
  clear r11p2
  obtain ⟨r11k3, r11p4⟩ := RoP.vv r11p3
  clear r11p3
  obtain ⟨r11k4, r11p5⟩ := RoP.vv r11p4
  clear r11p4
  clear r11p5
  refine wp_region_lit ?_
  refine wv E rfl (r_fa (o' := 3) (E.tmp rfl) fo_30_3_17 rfl) fun a E => ?_
  refine wv E rfl (r_load (E.tmp rfl) ag_27_17 (H.cell 1 rfl rfl)) fun a E => ?_
  refine vm E rfl rfl fun a E => ?_
  refine wv E rfl (r_ia (k := k) (o' := e10o + k * 5) (E.tmp rfl) (E.tmp rfl) rfl el_27_17 (by omega) rfl) fun a E => ?_
  refine wv E rfl (r_fa (o' := e10o + k * 5) (E.tmp rfl) fo_119_0_17 rfl) fun a E => ?_
  refine wv E rfl (r_load (E.tmp rfl) ag_24_17 (r11k0.get H)) fun a E => ?_
  refine wv E rfl (r_len (E.tmp rfl) el_24_17) (fun a E => ?_)
  refine wv E rfl (r_bin (E.tmp rfl) (ev_c _) (b_eql (b := ((e10y.todo.length : Nat) : Int) == 0) rfl)) fun a E => ?_
  refine va E rfl rfl fun a E => ?_
  refine wpList_nil (then_n ?_)
  rcases bcase (((e10y.todo.length : Nat) : Int) == 0) with ts12 | ts12
  ·
   refine cond_f E rfl ts12 ?_
   refine wp_skip (inb_n (then_n (wp_seq ?_)))
   obtain ⟨n0, tl, pc, tt, tb, tx, hye⟩ := act_open (a := e10y) (by simpa using ts12)
   have hk : a0.actors[k]? = some ⟨n0 :: tl, pc, tt, tb, tx⟩ := by rw [e10x, hye]
   have hrs := hrk.stp hk
   refine wp_region_lit ?_
   refine wv E rfl (r_loads (us := [.int .i64 (a0.top), .int .i64 (a0.bottom), .slice abufferA a0.buffer.length abufferc, .slice (some ⟨e10b, e10o, none⟩) a0.actors.length aactorsc, .slice atakenA a0.taken.length atakenc, .slice arefusedA a0.refused.length arefusedc]) (E.tmp rfl) ag_30_17 sz_30_17 (H.cellsAt 1 rfl)) fun a E => ?_
   refine w_call E rfl (ev_cons (E.tmp rfl) (ev_nil)) ok_67_17 (copyDeque_q a0 abufferA abufferc (some ⟨e10b, e10o, none⟩) aactorsc atakenA atakenc arefusedA arefusedc w (abufferH.at_ H (F := []) (by simp)) (aactorsH.at_ H (F := []) (by simp)) (atakenH.at_ H (F := []) (by simp)) (arefusedH.at_ H (F := []) (by simp)) (by have := hrk.b1; omega) (by have := hrk.r1; omega) hrk.n1 hrk.n0 (by have := hrk.h1; omega) (fun k a h => by have := (hrk.acts k a h).1; omega)) ?_
   rintro _ w ⟨w13AB, w13cB, w13AA, w13cA, w13AT, w13cT, w13AR, w13cR, rfl, hI⟩
   refine ⟨_, rfl, fun a E => ?_⟩
   have H := H.new hI
   clear hI
   obtain ⟨bb, p14c, p14h⟩ := H.gr_pos 0 rfl hrk.b0
   injection p14h with p14e p14f p14g
   revert E
   revert H
   subst p14e
   subst p14g
   intro H E
   have H : Tr.Inv w0 [] w [Gr (.slice (some ⟨bb, 0, none⟩) a0.buffer.length w13cB) 2 1 a0.buffer.length (a0.buffer.flatMap intE), Gr (.slice w13AA a0.actors.length w13cA) 119 5 a0.actors.length (a0.actors.flatMap GDequeActor.enc), Gr (.slice w13AT a0.taken.length w13cT) 36 2 a0.taken.length (a0.taken.flatMap GHanded.enc), Gr (.slice w13AR a0.refused.length w13cR) 2 1 a0.refused.length (a0.refused.flatMap intE), Cel g2 [.int .i64 (0), .int .i64 (0), .slice none 0 0, .slice none 0 0, .slice none 0 0, .slice none 0 0] 30, Cel g1 [.int .i64 (a0.top), .int .i64 (a0.bottom), .slice abufferA a0.buffer.length abufferc, .slice (some ⟨e10b, e10o, none⟩) a0.actors.length aactorsc, .slice atakenA a0.taken.length atakenc, .slice arefusedA a0.refused.length arefusedc] 30] := H
   obtain ⟨rb, p15c, p15h⟩ := H.gr_pos 1 rfl hrk.n0
   injection p15h with p15e p15f p15g
   revert E
   revert H
   subst p15e
   subst p15g
   intro H E
   have H : Tr.Inv w0 [] w [Gr (.slice (some ⟨bb, 0, none⟩) a0.buffer.length w13cB) 2 1 a0.buffer.length (a0.buffer.flatMap intE), Gr (.slice (some ⟨rb, 0, none⟩) a0.actors.length w13cA) 119 5 a0.actors.length (a0.actors.flatMap GDequeActor.enc), Gr (.slice w13AT a0.taken.length w13cT) 36 2 a0.taken.length (a0.taken.flatMap GHanded.enc), Gr (.slice w13AR a0.refused.length w13cR) 2 1 a0.refused.length (a0.refused.flatMap intE), Cel g2 [.int .i64 (0), .int .i64 (0), .slice none 0 0, .slice none 0 0, .slice none 0 0, .slice none 0 0] 30, Cel g1 [.int .i64 (a0.top), .int .i64 (a0.bottom), .slice abufferA a0.buffer.length abufferc, .slice (some ⟨e10b, e10o, none⟩) a0.actors.length aactorsc, .slice atakenA a0.taken.length atakenc, .slice arefusedA a0.refused.length arefusedc] 30] := H
   refine w_alloc E rfl zo_30_17 H (fun a w g16 E H => ?_)
   refine w_stores (us := [.int .i64 (a0.top), .int .i64 (a0.bottom), .slice (some ⟨bb, 0, none⟩) a0.buffer.length w13cB, .slice (some ⟨rb, 0, none⟩) a0.actors.length w13cA, .slice w13AT a0.taken.length w13cT, .slice w13AR a0.refused.length w13cR]) (cs' := [.int .i64 (a0.top), .int .i64 (a0.bottom), .slice (some ⟨bb, 0, none⟩) a0.buffer.length w13cB, .slice (some ⟨rb, 0, none⟩) a0.actors.length w13cA, .slice w13AT a0.taken.length w13cT, .slice w13AR a0.refused.length w13cR]) (rs' := [Cel _ [.int .i64 (a0.top), .int .i64 (a0.bottom), .slice (some ⟨bb, 0, none⟩) a0.buffer.length w13cB, .slice (some ⟨rb, 0, none⟩) a0.actors.length w13cA, .slice w13AT a0.taken.length w13cT, .slice w13AR a0.refused.length w13cR] _, _, _, _, _, _, _]) E (E.tmp rfl) (E.tmp rfl) rfl sz_30_17 H (i := 0) rfl rfl rfl rfl (fun a w E H => ?_)
   refine wpList_nil (then_n (wp_seq (wp_seq (wp_region_lit ?_))))
   refine vm E rfl rfl fun a E => ?_
   have H := H.front 4 rfl
   have H := H.front 4 rfl
   have H := H.front 4 rfl
   have H := H.front 4 rfl
   have H := H.front 4 rfl
   obtain ⟨q17F, q17S, q17I, q17b⟩ := Tr.Inv.frame (pre := [Cel g16 [.int .i64 (a0.top), .int .i64 (a0.bottom), .slice (some ⟨bb, 0, none⟩) a0.buffer.length w13cB, .slice (some ⟨rb, 0, none⟩) a0.actors.length w13cA, .slice w13AT a0.taken.length w13cT, .slice w13AR a0.refused.length w13cR] 30, Gr (.slice (some ⟨bb, 0, none⟩) a0.buffer.length w13cB) 2 1 a0.buffer.length (a0.buffer.flatMap intE), Gr (.slice (some ⟨rb, 0, none⟩) a0.actors.length w13cA) 119 5 a0.actors.length (a0.actors.flatMap GDequeActor.enc), Gr (.slice w13AT a0.taken.length w13cT) 36 2 a0.taken.length (a0.taken.flatMap GHanded.enc), Gr (.slice w13AR a0.refused.length w13cR) 2 1 a0.refused.length (a0.refused.flatMap intE)]) (rest := [Cel g2 [.int .i64 (0), .int .i64 (0), .slice none 0 0, .slice none 0 0, .slice none 0 0, .slice none 0 0] 30, Cel g1 [.int .i64 (a0.top), .int .i64 (a0.bottom), .slice abufferA a0.buffer.length abufferc, .slice (some ⟨e10b, e10o, none⟩) a0.actors.length aactorsc, .slice atakenA a0.taken.length atakenc, .slice arefusedA a0.refused.length arefusedc] 30]) H
   obtain ⟨z, hzz⟩ : ∃ z, z = stepS a0 k ⟨n0 :: tl, pc, tt, tb, tx⟩ := ⟨_, rfl⟩
   have hz2z : z = stepS a0 k e10y := by rw [hye]; exact hzz
   refine w_call E rfl (ev_cons (E.tmp rfl) (ev_cons (E.tmp rfl) (ev_nil))) ok_69_17 (stepI_q a0 g16 bb w13cB w13cT w13cR rb w13cA w13AT w13AR k n0 tl pc tt tb tx z w q17S hk hrs.1 hrk.b0 hrk.b1 (by have := hrk.h1; omega) (by have := hrk.r1; omega) hzz (fun h0 => htk _ _ h0 hk _ (List.mem_cons_self ..)) hrs.2.2.2) ?_
   rintro _ w ⟨q17AT, q17cT, q17AR, q17cR, rfl, hI⟩
   refine ⟨_, rfl, fun a E => ?_⟩
   have H := q17b _ _ hI
   clear hI q17S q17I q17b
   have H : Tr.Inv w0 [] w [Cel g16 [.int .i64 (z.top), .int .i64 (z.bottom), .slice (some ⟨bb, 0, none⟩) a0.buffer.length w13cB, .slice (some ⟨rb, 0, none⟩) a0.actors.length w13cA, .slice q17AT z.taken.length q17cT, .slice q17AR z.refused.length q17cR] 30, Gr (.slice (some ⟨bb, 0, none⟩) a0.buffer.length w13cB) 2 1 a0.buffer.length (z.buffer.flatMap intE), Gr (.slice (some ⟨rb, 0, none⟩) a0.actors.length w13cA) 119 5 a0.actors.length (z.actors.flatMap GDequeActor.enc), Gr (.slice q17AT z.taken.length q17cT) 36 2 z.taken.length (z.taken.flatMap GHanded.enc), Gr (.slice q17AR z.refused.length q17cR) 2 1 z.refused.length (z.refused.flatMap intE), Cel g2 [.int .i64 (0), .int .i64 (0), .slice none 0 0, .slice none 0 0, .slice none 0 0, .slice none 0 0] 30, Cel g1 [.int .i64 (a0.top), .int .i64 (a0.bottom), .slice abufferA a0.buffer.length abufferc, .slice (some ⟨e10b, e10o, none⟩) a0.actors.length aactorsc, .slice atakenA a0.taken.length atakenc, .slice arefusedA a0.refused.length arefusedc] 30] := H
   have hbl : z.buffer.length = a0.buffer.length := by rw [hzz]; exact (stepS_len _ _ _).1
   have hal : z.actors.length = a0.actors.length := by rw [hzz]; exact (stepS_len _ _ _).2
   have H : Tr.Inv w0 [] w [Cel g16 [.int .i64 (z.top), .int .i64 (z.bottom), .slice (some ⟨bb, 0, none⟩) z.buffer.length w13cB, .slice (some ⟨rb, 0, none⟩) z.actors.length w13cA, .slice q17AT z.taken.length q17cT, .slice q17AR z.refused.length q17cR] 30, Gr (.slice (some ⟨bb, 0, none⟩) z.buffer.length w13cB) 2 1 z.buffer.length (z.buffer.flatMap intE), Gr (.slice (some ⟨rb, 0, none⟩) z.actors.length w13cA) 119 5 z.actors.length (z.actors.flatMap GDequeActor.enc), Gr (.slice q17AT z.taken.length q17cT) 36 2 z.taken.length (z.taken.flatMap GHanded.enc), Gr (.slice q17AR z.refused.length q17cR) 2 1 z.refused.length (z.refused.flatMap intE), Cel g2 [.int .i64 (0), .int .i64 (0), .slice none 0 0, .slice none 0 0, .slice none 0 0, .slice none 0 0] 30, Cel g1 [.int .i64 (a0.top), .int .i64 (a0.bottom), .slice abufferA a0.buffer.length abufferc, .slice (some ⟨e10b, e10o, none⟩) a0.actors.length aactorsc, .slice atakenA a0.taken.length atakenc, .slice arefusedA a0.refused.length arefusedc] 30] := by rw [hbl, hal]; exact H
   rcases bcase (fullB z) with ts18 | ts18
   ·
    rw [ts18, cond_false] at E
    have hrz := runOk_step hrk hk hrs.2.1 hrs.2.2.1 (by rw [← hzz]; exact ts18)
    rw [← hzz] at hrz
    refine va E rfl rfl fun a E => ?_
    refine wpList_nil (then_n (wp_seq (wp_region_lit ?_)))
    refine vm E rfl rfl fun a E => ?_
    refine wv E rfl (r_bin (E.tmp rfl) (ev_c _) (b_neq (b := false) rfl)) fun a E => ?_
    refine wpList_nil (then_n ?_)
    refine cond_f E rfl rfl ?_
    refine wp_skip (then_n (wp_seq (wp_region_lit ?_)))
    refine wv E rfl (r_loads (us := [.int .i64 (z.top), .int .i64 (z.bottom), .slice (some ⟨bb, 0, none⟩) z.buffer.length w13cB, .slice (some ⟨rb, 0, none⟩) z.actors.length w13cA, .slice q17AT z.taken.length q17cT, .slice q17AR z.refused.length q17cR]) (E.tmp rfl) ag_30_17 sz_30_17 (H.cellsAt 0 rfl)) fun a E => ?_
    obtain ⟨y19b, y19T⟩ := H.gr_t 1 rfl (by rw [flat_len intE 1 (fun _ => rfl)])
    obtain ⟨y20b, y20T⟩ := H.gr_t 2 rfl (by rw [flat_len GDequeActor.enc 5 GDequeActor.enc_len])
    obtain ⟨y21b, y21T⟩ := H.gr_t 3 rfl (by rw [flat_len GHanded.enc 2 GHanded.enc_len])
    obtain ⟨y22b, y22T⟩ := H.gr_t 4 rfl (by rw [flat_len intE 1 (fun _ => rfl)])
    refine w_call E rfl (ev_cons (E.tmp rfl) (ev_nil)) ok_67_17 (copyDeque_q z (some ⟨bb, 0, none⟩) w13cB (some ⟨rb, 0, none⟩) w13cA q17AT q17cT q17AR q17cR w (Ro1.of y19T) (Ro1.of y20T) (Ro1.of y21T) (Ro1.of y22T) (by have := hrz.b1; omega) (by have := hrz.r1; omega) hrz.n1 hrz.n0 (by have := hrz.h1; omega) (fun k a h => by have := (hrz.acts k a h).1; omega)) ?_
    rintro _ w ⟨w23AB, w23cB, w23AA, w23cA, w23AT, w23cT, w23AR, w23cR, rfl, hI⟩
    refine ⟨_, rfl, fun a E => ?_⟩
    have H := H.new hI
    clear hI
    refine w_stores (us := [.int .i64 (z.top), .int .i64 (z.bottom), .slice w23AB z.buffer.length w23cB, .slice w23AA z.actors.length w23cA, .slice w23AT z.taken.length w23cT, .slice w23AR z.refused.length w23cR]) (cs' := [.int .i64 (z.top), .int .i64 (z.bottom), .slice w23AB z.buffer.length w23cB, .slice w23AA z.actors.length w23cA, .slice w23AT z.taken.length w23cT, .slice w23AR z.refused.length w23cR]) (rs' := [_, _, _, _, _, _, _, _, _, Cel _ [.int .i64 (z.top), .int .i64 (z.bottom), .slice w23AB z.buffer.length w23cB, .slice w23AA z.actors.length w23cA, .slice w23AT z.taken.length w23cT, .slice w23AR z.refused.length w23cR] _, _]) E (E.tmp rfl) (E.tmp rfl) rfl sz_30_17 H (i := 9) rfl rfl rfl rfl (fun a w E H => ?_)
    refine wv E rfl (r_assign (ev_c _)) fun a E => ?_
    refine wpList_nil (then_n (wp_ret ?_))
    refine post2 E rfl (out_c (us := [.int .i64 (z.top), .int .i64 (z.bottom), .slice w23AB z.buffer.length w23cB, .slice w23AA z.actors.length w23cA, .slice w23AT z.taken.length w23cT, .slice w23AR z.refused.length w23cR]) E rfl ag_30_17 sz_30_17 (H.cellsAt 9 rfl)) (out_t E rfl) ?_
    have H := H.mk_e
    have H := H.front 4 rfl
    have H := H.gr_dats (by rw [flat_len intE 1 (fun _ => rfl)])
    have H := H.mk_s
    have H := H.front 3 rfl
    have H := H.gr_dats (by rw [flat_len GHanded.enc 2 GHanded.enc_len])
    have H := H.mk_s
    have H := H.front 2 rfl
    have H := H.gr_dats (by rw [flat_len GDequeActor.enc 5 GDequeActor.enc_len])
    have H := H.mk_s
    have H := H.front 1 rfl
    have H := H.gr_dats (by rw [flat_len intE 1 (fun _ => rfl)])
    have H := H.mk_s
    have H := H.mk_v (x := .int .i64 (z.bottom)) rfl
    have H := H.mk_v (x := .int .i64 (z.top)) rfl
    have H := H.drop 1 rfl
    have H := H.drop 1 rfl
    have H := H.drop 1 rfl
    have H := H.drop 1 rfl
    have H := H.drop 1 rfl
    have H := H.drop 1 rfl
    have H := H.drop 1 rfl
    obtain ⟨rfl, rfl⟩ : r0 = z ∧ r1 = 0 := by
     simp only [stepDequeR, Int.toNat_natCast, e10x, ts3, ts8, ts9, hin, ts12, ← hz2z, ts18, B1, B2, B3, B4, B5, B6, B7, B8, B9, B10, B11, B12, B13, B14] at hR
     exact Prod.mk.inj hR
    exact ⟨_, rfl, H⟩
   rw [ts18, cond_true] at E
   refine va E rfl rfl fun a E => ?_
   refine wpList_nil (then_n (wp_seq (wp_region_lit ?_)))
   refine vm E rfl rfl fun a E => ?_
   refine wv E rfl (r_bin (E.tmp rfl) (ev_c _) (b_neq (b := true) rfl)) fun a E => ?_
   refine wpList_nil (then_n ?_)
   refine cond_t E rfl rfl ?_
   refine wp_seq (wp_region_lit ?_)
   refine wv E rfl (r_build (pv (pvn)) (by kernel_rfl : (Instr.build 30 (List.toArray [])).run Try.prog _ = .ok (.agg #[.int .i64 (0), .int .i64 (0), .slice none 0 0, .slice none 0 0, .slice none 0 0, .slice none 0 0]) _)) fun a E => ?_
   refine vm E rfl rfl fun a E => ?_
   refine w_stores (us := [.int .i64 (0), .int .i64 (0), .slice none 0 0, .slice none 0 0, .slice none 0 0, .slice none 0 0]) (cs' := [.int .i64 (0), .int .i64 (0), .slice none 0 0, .slice none 0 0, .slice none 0 0, .slice none 0 0]) (rs' := [_, _, _, _, _, Cel _ [.int .i64 (0), .int .i64 (0), .slice none 0 0, .slice none 0 0, .slice none 0 0, .slice none 0 0] _, _]) E (E.tmp rfl) (E.tmp rfl) rfl sz_30_17 H (i := 5) rfl rfl rfl rfl (fun a w E H => ?_)
   refine va E rfl rfl fun a E => ?_
   refine wpList_nil (then_n (wp_ret (then_r ?_)))
   refine post2 E rfl (out_c (us := [.int .i64 (0), .int .i64 (0), .slice none 0 0, .slice none 0 0, .slice none 0 0, .slice none 0 0]) E rfl ag_30_17 sz_30_17 (H.cellsAt 5 rfl)) (out_t E rfl) ?_
   have H := H.mk_e
   have H := H.gr_nil 0 1
   have H := H.gr_dats rfl
   have H := H.mk_s
   have H := H.gr_nil 0 2
   have H := H.gr_dats rfl
   have H := H.mk_s
   have H := H.gr_nil 0 5
   have H := H.gr_dats rfl
   have H := H.mk_s
   have H := H.gr_nil 0 1
   have H := H.gr_dats rfl
   have H := H.mk_s
   have H := H.mk_v (x := .int .i64 (0)) rfl
   have H := H.mk_v (x := .int .i64 (0)) rfl
   have H := H.drop 1 rfl
   have H := H.drop 1 rfl
   have H := H.drop 1 rfl
   have H := H.drop 1 rfl
   have H := H.drop 1 rfl
   have H := H.drop 1 rfl
   have H := H.drop 1 rfl
   obtain ⟨rfl, rfl⟩ : r0 = (⟨0, 0, [], [], [], []⟩ : GDeque) ∧ r1 = 4 := by
    simp only [stepDequeR, Int.toNat_natCast, e10x, ts3, ts8, ts9, hin, ts12, ← hz2z, ts18, B1, B2, B3, B4, B5, B6, B7, B8, B9, B10, B11, B12, B13, B14] at hR
    exact Prod.mk.inj hR
   exact ⟨_, rfl, H⟩
  refine cond_t E rfl ts12 ?_
  refine wp_seq (wp_region_lit ?_)
  refine wv E rfl (r_build (pv (pvn)) (by kernel_rfl : (Instr.build 30 (List.toArray [])).run Try.prog _ = .ok (.agg #[.int .i64 (0), .int .i64 (0), .slice none 0 0, .slice none 0 0, .slice none 0 0, .slice none 0 0]) _)) fun a E => ?_
  refine w_stores (us := [.int .i64 (0), .int .i64 (0), .slice none 0 0, .slice none 0 0, .slice none 0 0, .slice none 0 0]) (cs' := [.int .i64 (0), .int .i64 (0), .slice none 0 0, .slice none 0 0, .slice none 0 0, .slice none 0 0]) (rs' := [Cel _ [.int .i64 (0), .int .i64 (0), .slice none 0 0, .slice none 0 0, .slice none 0 0, .slice none 0 0] _, _]) E (E.tmp rfl) (E.tmp rfl) rfl sz_30_17 H (i := 0) rfl rfl rfl rfl (fun a w E H => ?_)
  refine wv E rfl (r_assign (ev_c _)) fun a E => ?_
  refine wpList_nil (then_n (wp_ret (inb_r (then_r ?_))))
  refine post2 E rfl (out_c (us := [.int .i64 (0), .int .i64 (0), .slice none 0 0, .slice none 0 0, .slice none 0 0, .slice none 0 0]) E rfl ag_30_17 sz_30_17 (H.cellsAt 0 rfl)) (out_t E rfl) ?_
  have H := H.mk_e
  have H := H.gr_nil 0 1
  have H := H.gr_dats rfl
  have H := H.mk_s
  have H := H.gr_nil 0 2
  have H := H.gr_dats rfl
  have H := H.mk_s
  have H := H.gr_nil 0 5
  have H := H.gr_dats rfl
  have H := H.mk_s
  have H := H.gr_nil 0 1
  have H := H.gr_dats rfl
  have H := H.mk_s
  have H := H.mk_v (x := .int .i64 (0)) rfl
  have H := H.mk_v (x := .int .i64 (0)) rfl
  have H := H.drop 1 rfl
  have H := H.drop 1 rfl
  obtain ⟨rfl, rfl⟩ : r0 = (⟨0, 0, [], [], [], []⟩ : GDeque) ∧ r1 = 5 := by
   simp only [stepDequeR, Int.toNat_natCast, e10x, ts3, ts8, ts9, hin, ts12, B1, B2, B3, B4, B5, B6, B7, B8, B9, B10, B11, B12, B13, B14] at hR
   exact Prod.mk.inj hR
  exact ⟨_, rfl, H⟩
 refine cond_t E rfl ts7 ?_
 refine wp_seq ?_
 have hin : inB a1 0 (IntKind.i64.wrap (((a0.actors.length : Nat) : Int) - 1)) = false := by
  rw [hwl]
  have hts7 := ts7
  simp [inB] at hts7 ⊢; omega
 refine wp_region_lit ?_
 refine wv E rfl (r_build (pv (pvn)) (by kernel_rfl : (Instr.build 30 (List.toArray [])).run Try.prog _ = .ok (.agg #[.int .i64 (0), .int .i64 (0), .slice none 0 0, .slice none 0 0, .slice none 0 0, .slice none 0 0]) _)) fun a E => ?_
 refine w_stores (us := [.int .i64 (0), .int .i64 (0), .slice none 0 0, .slice none 0 0, .slice none 0 0, .slice none 0 0]) (cs' := [.int .i64 (0), .int .i64 (0), .slice none 0 0, .slice none 0 0, .slice none 0 0, .slice none 0 0]) (rs' := [Cel _ [.int .i64 (0), .int .i64 (0), .slice none 0 0, .slice none 0 0, .slice none 0 0, .slice none 0 0] _, _]) E (E.tmp rfl) (E.tmp rfl) rfl sz_30_17 H (i := 0) rfl rfl rfl rfl (fun a w E H => ?_)
 refine wv E rfl (r_assign (ev_c _)) fun a E => ?_
 refine wpList_nil (then_n (wp_ret (inb_r (then_r ?_))))
 refine post2 E rfl (out_c (us := [.int .i64 (0), .int .i64 (0), .slice none 0 0, .slice none 0 0, .slice none 0 0, .slice none 0 0]) E rfl ag_30_17 sz_30_17 (H.cellsAt 0 rfl)) (out_t E rfl) ?_
 rcases b_ot ts7 with ts24 | ⟨ts24, ts25⟩
 ·
  have H := H.mk_e
  have H := H.gr_nil 0 1
  have H := H.gr_dats rfl
  have H := H.mk_s
  have H := H.gr_nil 0 2
  have H := H.gr_dats rfl
  have H := H.mk_s
  have H := H.gr_nil 0 5
  have H := H.gr_dats rfl
  have H := H.mk_s
  have H := H.gr_nil 0 1
  have H := H.gr_dats rfl
  have H := H.mk_s
  have H := H.mk_v (x := .int .i64 (0)) rfl
  have H := H.mk_v (x := .int .i64 (0)) rfl
  have H := H.drop 1 rfl
  have H := H.drop 1 rfl
  obtain ⟨rfl, rfl⟩ : r0 = (⟨0, 0, [], [], [], []⟩ : GDeque) ∧ r1 = 2 := by
   simp only [stepDequeR, Int.toNat_natCast, ts3, hin, ts24, B1, B2, B3, B4, B5, B6, B7, B8, B9, B10, B11, B12, B13, B14] at hR
   exact Prod.mk.inj hR
  exact ⟨_, rfl, H⟩
 have H := H.mk_e
 have H := H.gr_nil 0 1
 have H := H.gr_dats rfl
 have H := H.mk_s
 have H := H.gr_nil 0 2
 have H := H.gr_dats rfl
 have H := H.mk_s
 have H := H.gr_nil 0 5
 have H := H.gr_dats rfl
 have H := H.mk_s
 have H := H.gr_nil 0 1
 have H := H.gr_dats rfl
 have H := H.mk_s
 have H := H.mk_v (x := .int .i64 (0)) rfl
 have H := H.mk_v (x := .int .i64 (0)) rfl
 have H := H.drop 1 rfl
 have H := H.drop 1 rfl
 obtain ⟨rfl, rfl⟩ : r0 = (⟨0, 0, [], [], [], []⟩ : GDeque) ∧ r1 = 2 := by
  simp only [stepDequeR, Int.toNat_natCast, ts3, hin, ts24, ts25, B1, B2, B3, B4, B5, B6, B7, B8, B9, B10, B11, B12, B13, B14] at hR
  exact Prod.mk.inj hR
 exact ⟨_, rfl, H⟩
end Go.Proofs.Ythelpioccjjgfaa
