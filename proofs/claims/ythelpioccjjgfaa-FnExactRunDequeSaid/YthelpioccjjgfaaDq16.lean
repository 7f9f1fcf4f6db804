/- Deques. Printed by gx_dq.py. -/
import Derived.Test.YthelpioccjjgfaaProg
import Derived.Test.YthelpioccjjgfaaSc
import Derived.Test.YthelpioccjjgfaaDDq
import Derived.Test.YthelpioccjjgfaaArith
import Derived.IntWalk
import Derived.Test.YthelpioccjjgfaaDq15
set_option linter.unusedSimpArgs false
set_option linter.unusedVariables false
namespace Go.Tr
structure OkP (x : GDeque) : Prop where
  h1 : inB ((x.buffer.length : Nat) : Int) 1 8 = true
  h2 : inB x.top 0 1000 = true
  h3 : inB x.bottom (-1) 1000 = true
  h4 : inB ((x.actors.length : Nat) : Int) 1 4 = true
  h5 : decide ((1000 : Int) < ((x.taken.length : Nat) : Int)) = false
  h6 : decide ((1000 : Int) < ((x.refused.length : Nat) : Int)) = false
  h7 : x.buffer.all bufOk = true
  acts : allTo x.actors.length (actF x.actors) = true
  h9 : x.taken.all (takB x.actors.length) = true
  h10 : x.refused.all (fun n => inB n 1 1000) = true
  room : ∀ a, x.actors[0]? = some a → roomB x a = true
theorem okB_iff (x : GDeque) : okB x = true ↔ OkP x := by
  constructor
  · intro h
    simp only [okB, Bool.and_eq_true, Bool.not_eq_true'] at h
    obtain ⟨⟨⟨⟨⟨⟨⟨⟨⟨⟨h1, h2⟩, h3⟩, h4⟩, h5⟩, h6⟩, h7⟩, h8⟩, h9⟩, h10⟩, h11⟩ := h
    exact ⟨h1, h2, h3, h4, h5, h6, h7, h8, h9, h10, fun a ha => by rw [ha] at h11; exact h11⟩
  · intro h
    have h11 : (match x.actors[0]? with | some a => roomB x a | none => true) = true := by
      cases ha : x.actors[0]? with
      | none => rfl
      | some a => exact h.room a ha
    simp only [okB, h.h1, h.h2, h.h3, h.h4, h.h5, h.h6, h.h7, h.acts, h.h9, h.h10, Bool.true_and, Bool.not_false]
    exact h11
theorem okB_bad {x : GDeque} (h : ¬ OkP x) : false = okB x := by
  cases hb : okB x with
  | false => rfl
  | true => exact absurd ((okB_iff x).1 hb) h
theorem okB_good {x : GDeque} (h1 : inB ((x.buffer.length : Nat) : Int) 1 8 = true) (h2 : inB x.top 0 1000 = true) (h3 : inB x.bottom (-1) 1000 = true) (h4 : inB ((x.actors.length : Nat) : Int) 1 4 = true) (h5 : decide ((1000 : Int) < ((x.taken.length : Nat) : Int)) = false) (h6 : decide ((1000 : Int) < ((x.refused.length : Nat) : Int)) = false) (h7 : x.buffer.all bufOk = true)
    (h8 : allTo x.actors.length (actF x.actors) = true) (h9 : x.taken.all (takB x.actors.length) = true) (h11 : ∀ a, x.actors[0]? = some a → roomB x a = true) : okB x = x.refused.all (fun n => inB n 1 1000) := by
  cases hb : x.refused.all (fun n => inB n 1 1000) with
  | true => exact (okB_iff x).2 ⟨h1, h2, h3, h4, h5, h6, h7, h8, h9, hb, h11⟩
  | false => exact (okB_bad fun h => absurd (hb.symm.trans h.h10) (by decide)).symm
theorem roomB_eq (x : GDeque) (a : GDequeActor) : roomB x a = inB (IntKind.i64.wrap (x.bottom - x.top)) (cond (takingB a) (-1) 0) ((x.buffer.length : Nat) : Int) := by
  have : leastB a = cond (takingB a) (-1) 0 := by
    obtain ⟨td, pc, t, b, v⟩ := a
    unfold leastB takingB head0
    cases td with
    | nil => simp
    | cons n tl =>
      have e1 : decide ((0 : Int) < (((n :: tl).length : Nat) : Int)) = true := by rw [decide_eq_true_eq, List.length_cons]; omega
      rw [e1]
      simp only [List.getElem?_cons_zero, Bool.true_and, Bool.and_comm]
      have e2 : decide (0 < pc) = decide (1 ≤ pc) := by rw [decide_eq_decide]; omega
      rw [e2]
  unfold roomB; rw [this]
end Go.Tr
namespace Go.Proofs.Ythelpioccjjgfaa
open Go Go.RowKit Go.Proofs Go.Tr
theorem fo_30_2_15 : fldOff Try.prog 30 2 = some 2 := by kernel_rfl
theorem ag_24_15 : aggB Try.prog 24 = some false := by kernel_rfl
theorem el_24_15 : elemOf? Try.prog 24 = some (2, 1) := by kernel_rfl
theorem ok_60_15 : callOk Try.prog 60 = true := by kernel_rfl
theorem fo_30_3_15 : fldOff Try.prog 30 3 = some 3 := by kernel_rfl
theorem ag_27_15 : aggB Try.prog 27 = some false := by kernel_rfl
theorem el_27_15 : elemOf? Try.prog 27 = some (119, 5) := by kernel_rfl
theorem fo_30_0_15 : fldOff Try.prog 30 0 = some 0 := by kernel_rfl
theorem ag_2_15 : aggB Try.prog 2 = some false := by kernel_rfl
theorem ok_151_15 : callOk Try.prog 151 = true := by kernel_rfl
theorem fo_30_1_15 : fldOff Try.prog 30 1 = some 1 := by kernel_rfl
theorem ag_119_15 : aggB Try.prog 119 = some true := by kernel_rfl
theorem sz_119_15 : (Try.prog.info? 119).map (·.size) = some 5 := by kernel_rfl
theorem zo_119_15 : zeroOf Try.prog 119 = some [.slice none 0 0, .int .i64 (0), .int .i64 (0), .int .i64 (0), .int .i64 (0)] := by kernel_rfl
theorem ok_152_15 : callOk Try.prog 152 = true := by kernel_rfl
theorem ok_153_15 : callOk Try.prog 153 = true := by kernel_rfl
theorem fo_30_4_15 : fldOff Try.prog 30 4 = some 4 := by kernel_rfl
theorem ag_28_15 : aggB Try.prog 28 = some false := by kernel_rfl
theorem el_28_15 : elemOf? Try.prog 28 = some (36, 2) := by kernel_rfl
theorem fo_30_5_15 : fldOff Try.prog 30 5 = some 5 := by kernel_rfl
theorem ok_154_15 : callOk Try.prog 154 = true := by kernel_rfl
set_option maxHeartbeats 4000000 in
theorem validDeque_q (x : GDeque) (abufferA : Option Addr) (abufferc : Nat) (aactorsA : Option Addr) (aactorsc : Nat) (atakenA : Option Addr) (atakenc : Nat) (arefusedA : Option Addr) (arefusedc : Nat) (w0 : World) (abufferH : Ro1 w0 [] (.sl x.buffer.length (x.buffer.flatMap intE)) (.slice abufferA x.buffer.length abufferc)) (aactorsH : Ro1 w0 [] (.sl x.actors.length (x.actors.flatMap GDequeActor.enc)) (.slice aactorsA x.actors.length aactorsc)) (atakenH : Ro1 w0 [] (.sl x.taken.length (x.taken.flatMap GHanded.enc)) (.slice atakenA x.taken.length atakenc)) (arefusedH : Ro1 w0 [] (.sl x.refused.length (x.refused.flatMap intE)) (.slice arefusedA x.refused.length arefusedc)) : Calls Try.prog 65 #[.agg #[.int .i64 (x.top), .int .i64 (x.bottom), .slice abufferA x.buffer.length abufferc, .slice aactorsA x.actors.length aactorsc, .slice atakenA x.taken.length atakenc, .slice arefusedA x.refused.length arefusedc]] w0 fun e w' => e = .returned (.bool (okB x)) ∧ Ext w0 w' := by
 refine enter_i (args := [.agg #[.int .i64 (x.top), .int .i64 (x.bottom), .slice abufferA x.buffer.length abufferc, .slice aactorsA x.actors.length aactorsc, .slice atakenA x.taken.length atakenc, .slice arefusedA x.refused.length arefusedc]]) Try.func65 rfl Try.ntmps65 rfl sep0 (fun a w E H => ?_)
 have E : Env 109 a [(0, .agg #[.int .i64 (x.top), .int .i64 (x.bottom), .slice abufferA x.buffer.length abufferc, .slice aactorsA x.actors.length aactorsc, .slice atakenA x.taken.length atakenc, .slice arefusedA x.refused.length arefusedc])] := E
 have hnlA := aactorsH.nle
 refine wp_seq (wp_region_lit ?_)
 refine w_box (us := [.int .i64 (x.top), .int .i64 (x.bottom), .slice abufferA x.buffer.length abufferc, .slice aactorsA x.actors.length aactorsc, .slice atakenA x.taken.length atakenc, .slice arefusedA x.refused.length arefusedc]) E rfl (E.tmp rfl) rfl H (fun a w g1 E H => ?_)
 refine wv E rfl (r_assign (ev_c _)) fun a E => ?_
 refine wpList_nil (then_n (wp_seq (wp_seq ?_)))
 refine reg_mid (fun a w => Env 109 a [(1, .pointer (some ⟨g1, 0, none⟩)), (2, .bool (false)), (20, .bool ((decide (((x.buffer.length : Nat) : Int) < 1)) || ((decide (8 < ((x.buffer.length : Nat) : Int))) || (!x.buffer.all (bufOk)))))] ∧ Tr.Inv w0 [] w [Cel g1 [.int .i64 (x.top), .int .i64 (x.bottom), .slice abufferA x.buffer.length abufferc, .slice aactorsA x.actors.length aactorsc, .slice atakenA x.taken.length atakenc, .slice arefusedA x.refused.length arefusedc] 30]) ?_ (fun a w hj => ?_)
 ·
  refine wp_region_lit ?_
  refine wv E rfl (r_fa (o' := 2) (E.tmp rfl) fo_30_2_15 rfl) fun a E => wv E rfl (r_load (E.tmp rfl) ag_24_15 (H.cell 0 rfl rfl)) fun a E => ?_
  refine wv E rfl (r_len (E.tmp rfl) el_24_15) (fun a E => ?_)
  refine wv E rfl (r_bin (E.tmp rfl) (ev_c _) (b_lss (b := decide (((x.buffer.length : Nat) : Int) < 1)) rfl)) fun a E => vm E rfl rfl fun a E => ?_
  rcases bcase (decide (((x.buffer.length : Nat) : Int) < 1)) with ts2 | ts2
  ·
   refine ung E rfl rfl rfl ts2 ?_
   refine wv E rfl (r_fa (o' := 2) (E.tmp rfl) fo_30_2_15 rfl) fun a E => ?_
   refine ung E rfl rfl rfl ts2 ?_
   refine wv E rfl (r_load (E.tmp rfl) ag_24_15 (H.cell 0 rfl rfl)) fun a E => ?_
   refine ung E rfl rfl rfl ts2 ?_
   refine wv E rfl (r_len (E.tmp rfl) el_24_15) (fun a E => ?_)
   refine ung E rfl rfl rfl ts2 ?_
   refine wv E rfl (r_bin (E.tmp rfl) (ev_c _) (b_gtr (b := decide (8 < ((x.buffer.length : Nat) : Int))) rfl)) fun a E => wv E rfl (r_pick_f ((E.tmp rfl).trans (congrArg Value.bool ts2)) (E.tmp rfl)) fun a E => vm E rfl rfl fun a E => ?_
   rcases bcase (decide (8 < ((x.buffer.length : Nat) : Int))) with ts3 | ts3
   ·
    refine ung E rfl rfl rfl ts3 ?_
    refine wv E rfl (r_fa (o' := 2) (E.tmp rfl) fo_30_2_15 rfl) fun a E => ?_
    refine ung E rfl rfl rfl ts3 ?_
    refine wv E rfl (r_load (E.tmp rfl) ag_24_15 (H.cell 0 rfl rfl)) fun a E => ?_
    refine ung E rfl rfl rfl ts3 ?_
    refine w_quiet (v := .bool (!x.buffer.all (bufOk))) E rfl (ev_cons (E.tmp rfl) (ev_cons (ev_f _) (ev_nil))) ok_60_15 (con_vd1 x.buffer abufferc abufferA w (abufferH.at_ H (F := []) (by simp))) H (fun a w E H => ?_)
    refine wv E rfl (r_pick_f ((E.tmp rfl).trans (congrArg Value.bool ts3)) (E.tmp rfl)) fun a E => ?_
    refine wpList_nil ?_
    have ej4 : ((decide (((x.buffer.length : Nat) : Int) < 1)) || ((decide (8 < ((x.buffer.length : Nat) : Int))) || (!x.buffer.all (bufOk)))) = (!x.buffer.all (bufOk)) := by simp only [ts2, ts3, B1, B2, B3, B4, B5, B6, B7, B8, B9, B10, B11, B12, B13, B14]
    exact ⟨rfl, by rw [ej4]; exact (Env.pick E (Env.pick E (Env.pick E E.nil rfl) rfl) rfl), H⟩
   refine wnh (c := true) E rfl rfl rfl rfl ts3 rfl fun a E => ?_
   refine wnh (c := true) E rfl rfl rfl rfl ts3 rfl fun a E => ?_
   refine wnh (c := true) E rfl rfl rfl rfl ts3 rfl fun a E => ?_
   refine wv E rfl (r_pick_t ((E.tmp rfl).trans (congrArg Value.bool ts3)) (ev_c _)) fun a E => ?_
   refine wpList_nil ?_
   have ej5 : ((decide (((x.buffer.length : Nat) : Int) < 1)) || ((decide (8 < ((x.buffer.length : Nat) : Int))) || (!x.buffer.all (bufOk)))) = true := by simp only [ts2, ts3, B1, B2, B3, B4, B5, B6, B7, B8, B9, B10, B11, B12, B13, B14]
   exact ⟨rfl, by rw [ej5]; exact (Env.pick E (Env.pick E (Env.pick E E.nil rfl) rfl) rfl), H⟩
  refine wnh (c := true) E rfl rfl rfl rfl ts2 rfl fun a E => ?_
  refine wnh (c := true) E rfl rfl rfl rfl ts2 rfl fun a E => ?_
  refine wnh (c := true) E rfl rfl rfl rfl ts2 rfl fun a E => ?_
  refine wnh (c := true) E rfl rfl rfl rfl ts2 rfl fun a E => ?_
  refine wv E rfl (r_pick_t ((E.tmp rfl).trans (congrArg Value.bool ts2)) (ev_c _)) fun a E => vm E rfl rfl fun a E => wn E rfl rfl rfl rfl rfl fun a E => wn E rfl rfl rfl rfl rfl fun a E => wn E rfl rfl rfl rfl rfl fun a E => ?_
  refine wv E rfl (r_pick_t (E.tmp rfl) (ev_c _)) fun a E => ?_
  refine wpList_nil ?_
  have ej6 : ((decide (((x.buffer.length : Nat) : Int) < 1)) || ((decide (8 < ((x.buffer.length : Nat) : Int))) || (!x.buffer.all (bufOk)))) = true := by simp only [ts2, B1, B2, B3, B4, B5, B6, B7, B8, B9, B10, B11, B12, B13, B14]
  exact ⟨rfl, by rw [ej6]; exact (Env.pick E (Env.pick E (Env.pick E E.nil rfl) rfl) rfl), H⟩
 obtain ⟨E, H⟩ := hj
 refine then_n ?_
 rcases bcase ((decide (((x.buffer.length : Nat) : Int) < 1)) || ((decide (8 < ((x.buffer.length : Nat) : Int))) || (!x.buffer.all (bufOk)))) with ts7 | ts7
 ·
  obtain ⟨ts8, ts9⟩ := b_of ts7
  obtain ⟨ts10, ts11⟩ := b_of ts9
  have ts12 := b_nf ts11
  refine cond_f E rfl ts7 ?_
  refine wp_skip (then_n (wp_seq (wp_seq ?_)))
  refine reg_mid (fun a w => Env 109 a [(1, .pointer (some ⟨g1, 0, none⟩)), (2, .bool (false)), (47, .bool ((decide (((x.actors.length : Nat) : Int) < 1)) || ((decide (4 < ((x.actors.length : Nat) : Int))) || ((!(inB x.top 0 1000)) || ((x.bottom != (-1)) && (!(inB x.bottom 0 1000)))))))] ∧ Tr.Inv w0 [] w [Cel g1 [.int .i64 (x.top), .int .i64 (x.bottom), .slice abufferA x.buffer.length abufferc, .slice aactorsA x.actors.length aactorsc, .slice atakenA x.taken.length atakenc, .slice arefusedA x.refused.length arefusedc] 30]) ?_ (fun a w hj => ?_)
  ·
   refine wp_region_lit ?_
   refine wv E rfl (r_fa (o' := 3) (E.tmp rfl) fo_30_3_15 rfl) fun a E => wv E rfl (r_load (E.tmp rfl) ag_27_15 (H.cell 0 rfl rfl)) fun a E => ?_
   refine wv E rfl (r_len (E.tmp rfl) el_27_15) (fun a E => ?_)
   refine wv E rfl (r_bin (E.tmp rfl) (ev_c _) (b_lss (b := decide (((x.actors.length : Nat) : Int) < 1)) rfl)) fun a E => vm E rfl rfl fun a E => ?_
   rcases bcase (decide (((x.actors.length : Nat) : Int) < 1)) with ts13 | ts13
   ·
    refine ung E rfl rfl rfl ts13 ?_
    refine wv E rfl (r_fa (o' := 3) (E.tmp rfl) fo_30_3_15 rfl) fun a E => ?_
    refine ung E rfl rfl rfl ts13 ?_
    refine wv E rfl (r_load (E.tmp rfl) ag_27_15 (H.cell 0 rfl rfl)) fun a E => ?_
    refine ung E rfl rfl rfl ts13 ?_
    refine wv E rfl (r_len (E.tmp rfl) el_27_15) (fun a E => ?_)
    refine ung E rfl rfl rfl ts13 ?_
    refine wv E rfl (r_bin (E.tmp rfl) (ev_c _) (b_gtr (b := decide (4 < ((x.actors.length : Nat) : Int))) rfl)) fun a E => wv E rfl (r_pick_f ((E.tmp rfl).trans (congrArg Value.bool ts13)) (E.tmp rfl)) fun a E => vm E rfl rfl fun a E => ?_
    rcases bcase (decide (4 < ((x.actors.length : Nat) : Int))) with ts14 | ts14
    ·
     refine ung E rfl rfl rfl ts14 ?_
     refine wv E rfl (r_fa (o' := 0) (E.tmp rfl) fo_30_0_15 rfl) fun a E => ?_
     refine ung E rfl rfl rfl ts14 ?_
     refine wv E rfl (r_load (E.tmp rfl) ag_2_15 (H.cell 0 rfl rfl)) fun a E => ?_
     refine ung E rfl rfl rfl ts14 ?_
     refine w_quiet (v := .bool (inB x.top 0 1000)) E rfl (ev_cons (E.tmp rfl) (ev_nil)) ok_151_15 (isEnd_q x.top w) H (fun a w E H => ?_)
     refine ung E rfl rfl rfl ts14 ?_
     refine wv E rfl (r_not (c := !(inB x.top 0 1000)) (E.tmp rfl) rfl) fun a E => wv E rfl (r_pick_f ((E.tmp rfl).trans (congrArg Value.bool ts14)) (E.tmp rfl)) fun a E => vm E rfl rfl fun a E => ?_
     rcases bcase (inB x.top 0 1000) with ts15 | ts15
     ·
      refine wnh (c := true) E rfl rfl rfl rfl (by rw [ts15]; rfl) rfl fun a E => ?_
      refine wnh (c := true) E rfl rfl rfl rfl (by rw [ts15]; rfl) rfl fun a E => ?_
      refine wnh (c := true) E rfl rfl rfl rfl (by rw [ts15]; rfl) rfl fun a E => ?_
      refine wnh (c := true) E rfl rfl rfl rfl (by rw [ts15]; rfl) rfl fun a E => ?_
      refine wnu E rfl rfl rfl rfl fun a E => wnu E rfl rfl rfl rfl fun a E => wnu E rfl rfl rfl rfl fun a E => wnu E rfl rfl rfl rfl fun a E => ?_
      refine wnh (c := true) E rfl rfl rfl rfl (by rw [ts15]; rfl) rfl fun a E => ?_
      refine wv E rfl (r_pick_t ((E.tmp rfl).trans (congrArg Value.bool (by rw [ts15]; rfl))) (ev_c _)) fun a E => ?_
      refine wpList_nil ?_
      have ej16 : ((decide (((x.actors.length : Nat) : Int) < 1)) || ((decide (4 < ((x.actors.length : Nat) : Int))) || ((!(inB x.top 0 1000)) || ((x.bottom != (-1)) && (!(inB x.bottom 0 1000)))))) = true := by simp only [ts13, ts14, ts15, B1, B2, B3, B4, B5, B6, B7, B8, B9, B10, B11, B12, B13, B14]
      exact ⟨rfl, by rw [ej16]; exact (Env.pick E (Env.pick E (Env.pick E E.nil rfl) rfl) rfl), H⟩
     refine ung E rfl rfl rfl (by rw [ts15]; rfl) ?_
     refine wv E rfl (r_fa (o' := 1) (E.tmp rfl) fo_30_1_15 rfl) fun a E => ?_
     refine ung E rfl rfl rfl (by rw [ts15]; rfl) ?_
     refine wv E rfl (r_load (E.tmp rfl) ag_2_15 (H.cell 0 rfl rfl)) fun a E => ?_
     refine ung E rfl rfl rfl (by rw [ts15]; rfl) ?_
     refine wv E rfl (r_bin (E.tmp rfl) (ev_c _) (b_neq (b := x.bottom != (-1)) rfl)) fun a E => ?_
     refine ung E rfl rfl rfl (by rw [ts15]; rfl) ?_
     refine vm E rfl rfl fun a E => ?_
     rcases bcase (x.bottom != (-1)) with ts17 | ts17
     ·
      refine wnh (c := false) E rfl rfl rfl rfl ts17 rfl fun a E => ?_
      refine wnh (c := false) E rfl rfl rfl rfl ts17 rfl fun a E => ?_
      refine wnh (c := false) E rfl rfl rfl rfl ts17 rfl fun a E => ?_
      refine wnh (c := false) E rfl rfl rfl rfl ts17 rfl fun a E => ?_
      refine ung E rfl rfl rfl (by rw [ts15]; rfl) ?_
      refine wv E rfl (r_pick_f ((E.tmp rfl).trans (congrArg Value.bool ts17)) (ev_c _)) fun a E => wv E rfl (r_pick_f ((E.tmp rfl).trans (congrArg Value.bool (by rw [ts15]; rfl))) (E.tmp rfl)) fun a E => ?_
      refine wpList_nil ?_
      have ej18 : ((decide (((x.actors.length : Nat) : Int) < 1)) || ((decide (4 < ((x.actors.length : Nat) : Int))) || ((!(inB x.top 0 1000)) || ((x.bottom != (-1)) && (!(inB x.bottom 0 1000)))))) = false := by simp only [ts13, ts14, ts15, ts17, B1, B2, B3, B4, B5, B6, B7, B8, B9, B10, B11, B12, B13, B14]
      exact ⟨rfl, by rw [ej18]; exact (Env.pick E (Env.pick E (Env.pick E E.nil rfl) rfl) rfl), H⟩
     refine ung E rfl rfl rfl ts17 ?_
     refine wv E rfl (r_fa (o' := 1) (E.tmp rfl) fo_30_1_15 rfl) fun a E => ?_
     refine ung E rfl rfl rfl ts17 ?_
     refine wv E rfl (r_load (E.tmp rfl) ag_2_15 (H.cell 0 rfl rfl)) fun a E => ?_
     refine ung E rfl rfl rfl ts17 ?_
     refine w_quiet (v := .bool (inB x.bottom 0 1000)) E rfl (ev_cons (E.tmp rfl) (ev_nil)) ok_151_15 (isEnd_q x.bottom w) H (fun a w E H => ?_)
     refine ung E rfl rfl rfl ts17 ?_
     refine wv E rfl (r_not (c := !(inB x.bottom 0 1000)) (E.tmp rfl) rfl) fun a E => ?_
     refine ung E rfl rfl rfl (by rw [ts15]; rfl) ?_
     refine wv E rfl (r_pick_t ((E.tmp rfl).trans (congrArg Value.bool ts17)) (E.tmp rfl)) fun a E => wv E rfl (r_pick_f ((E.tmp rfl).trans (congrArg Value.bool (by rw [ts15]; rfl))) (E.tmp rfl)) fun a E => ?_
     refine wpList_nil ?_
     have ej19 : ((decide (((x.actors.length : Nat) : Int) < 1)) || ((decide (4 < ((x.actors.length : Nat) : Int))) || ((!(inB x.top 0 1000)) || ((x.bottom != (-1)) && (!(inB x.bottom 0 1000)))))) = (!(inB x.bottom 0 1000)) := by simp only [ts13, ts14, ts15, ts17, B1, B2, B3, B4, B5, B6, B7, B8, B9, B10, B11, B12, B13, B14]
     exact ⟨rfl, by rw [ej19]; exact (Env.pick E (Env.pick E (Env.pick E E.nil rfl) rfl) rfl), H⟩
    refine wnh (c := true) E rfl rfl rfl rfl ts14 rfl fun a E => ?_
    refine wnh (c := true) E rfl rfl rfl rfl ts14 rfl fun a E => ?_
    refine wnh (c := true) E rfl rfl rfl rfl ts14 rfl fun a E => ?_
    refine wnh (c := true) E rfl rfl rfl rfl ts14 rfl fun a E => ?_
    refine wv E rfl (r_pick_t ((E.tmp rfl).trans (congrArg Value.bool ts14)) (ev_c _)) fun a E => vm E rfl rfl fun a E => wn E rfl rfl rfl rfl rfl fun a E => wn E rfl rfl rfl rfl rfl fun a E => wn E rfl rfl rfl rfl rfl fun a E => ?_
    refine wn E rfl rfl rfl rfl rfl fun a E => wnu E rfl rfl rfl rfl fun a E => wnu E rfl rfl rfl rfl fun a E => wnu E rfl rfl rfl rfl fun a E => wnu E rfl rfl rfl rfl fun a E => ?_
    refine wn E rfl rfl rfl rfl rfl fun a E => wv E rfl (r_pick_t (E.tmp rfl) (ev_c _)) fun a E => ?_
    refine wpList_nil ?_
    have ej20 : ((decide (((x.actors.length : Nat) : Int) < 1)) || ((decide (4 < ((x.actors.length : Nat) : Int))) || ((!(inB x.top 0 1000)) || ((x.bottom != (-1)) && (!(inB x.bottom 0 1000)))))) = true := by simp only [ts13, ts14, B1, B2, B3, B4, B5, B6, B7, B8, B9, B10, B11, B12, B13, B14]
    exact ⟨rfl, by rw [ej20]; exact (Env.pick E (Env.pick E (Env.pick E E.nil rfl) rfl) rfl), H⟩
   refine wnh (c := true) E rfl rfl rfl rfl ts13 rfl fun a E => ?_
   refine wnh (c := true) E rfl rfl rfl rfl ts13 rfl fun a E => ?_
   refine wnh (c := true) E rfl rfl rfl rfl ts13 rfl fun a E => ?_
   refine wnh (c := true) E rfl rfl rfl rfl ts13 rfl fun a E => ?_
   refine wv E rfl (r_pick_t ((E.tmp rfl).trans (congrArg Value.bool ts13)) (ev_c _)) fun a E => vm E rfl rfl fun a E => wn E rfl rfl rfl rfl rfl fun a E => wn E rfl rfl rfl rfl rfl fun a E => wn E rfl rfl rfl rfl rfl fun a E => ?_
   refine wn E rfl rfl rfl rfl rfl fun a E => wv E rfl (r_pick_t (E.tmp rfl) (ev_c _)) fun a E => vm E rfl rfl fun a E => wn E rfl rfl rfl rfl rfl fun a E => wn E rfl rfl rfl rfl rfl fun a E => ?_
   refine wn E rfl rfl rfl rfl rfl fun a E => wn E rfl rfl rfl rfl rfl fun a E => wnu E rfl rfl rfl rfl fun a E => wnu E rfl rfl rfl rfl fun a E => wnu E rfl rfl rfl rfl fun a E => ?_
   refine wnu E rfl rfl rfl rfl fun a E => wn E rfl rfl rfl rfl rfl fun a E => wv E rfl (r_pick_t (E.tmp rfl) (ev_c _)) fun a E => ?_
   refine wpList_nil ?_
   have ej21 : ((decide (((x.actors.length : Nat) : Int) < 1)) || ((decide (4 < ((x.actors.length : Nat) : Int))) || ((!(inB x.top 0 1000)) || ((x.bottom != (-1)) && (!(inB x.bottom 0 1000)))))) = true := by simp only [ts13, B1, B2, B3, B4, B5, B6, B7, B8, B9, B10, B11, B12, B13, B14]
   exact ⟨rfl, by rw [ej21]; exact (Env.pick E (Env.pick E (Env.pick E E.nil rfl) rfl) rfl), H⟩
  obtain ⟨E, H⟩ := hj
  refine then_n ?_
  rcases bcase ((decide (((x.actors.length : Nat) : Int) < 1)) || ((decide (4 < ((x.actors.length : Nat) : Int))) || ((!(inB x.top 0 1000)) || ((x.bottom != (-1)) && (!(inB x.bottom 0 1000)))))) with ts22 | ts22
  ·
   obtain ⟨ts23, ts24⟩ := b_of ts22
   obtain ⟨ts25, ts26⟩ := b_of ts24
   obtain ⟨ts27, ts28⟩ := b_of ts26
   have ts29 := b_nf ts27
   refine cond_f E rfl ts22 ?_
   refine wp_skip (then_n (wp_seq (wp_seq (wp_region_lit ?_))))
   refine wv E rfl (r_fa (o' := 3) (E.tmp rfl) fo_30_3_15 rfl) fun a E => wv E rfl (r_load (E.tmp rfl) ag_27_15 (H.cell 0 rfl rfl)) fun a E => ?_
   refine wv E rfl (r_len (E.tmp rfl) el_27_15) (fun a E => ?_)
   refine wv E rfl (r_move (ev_c _)) fun a E => ?_
   refine wpList_nil (then_n (wp_block ?_))
   refine wp_loop_ghost (fun m a w => ∃ (k : Nat), m = x.actors.length - k ∧ k ≤ x.actors.length ∧ allTo k (actF x.actors) = true ∧ Env 109 a [(1, .pointer (some ⟨g1, 0, none⟩)), (49, .slice aactorsA x.actors.length aactorsc), (50, .int .i64 (((x.actors.length : Nat) : Int))), (51, .int .i64 (((k : Nat) : Int)))] ∧ Tr.Inv w0 [] w [Cel g1 [.int .i64 (x.top), .int .i64 (x.bottom), .slice abufferA x.buffer.length abufferc, .slice aactorsA x.actors.length aactorsc, .slice atakenA x.taken.length atakenc, .slice arefusedA x.refused.length arefusedc] 30]) _ ⟨0, rfl, Nat.zero_le _, rfl, (Env.pick E (Env.pick E (Env.pick E (Env.pick E E.nil rfl) rfl) rfl) rfl), H⟩ ?_
   rintro _ a w ⟨k, rfl, hk, hallA, E, H⟩
   by_cases hlt : k < x.actors.length
   ·
    skip
    revert E
    revert H
    obtain ⟨e30b, e30o, e30y, rfl, e30x, e30q⟩ := Ro1.elem (f := GDequeActor.enc) GDequeActor.enc_len aactorsH rfl hlt
    intro H E
    have r31p0 : RoP w0 [] e30b (e30o + k * 5) [.sl e30y.todo.length (e30y.todo.flatMap intE), .v (.int .i64 (e30y.pc)), .v (.int .i64 (e30y.t)), .v (.int .i64 (e30y.b)), .v (.int .i64 (e30y.x))] := e30q
    obtain ⟨r31A0, r31c0, r31k0, r31t0, r31n0, r31p1⟩ := RoP.sl r31p0
    clear r31p0
    obtain ⟨r31k1, r31p2⟩ := RoP.vv r31p1
    clear r31p1
    obtain ⟨r31k2, r31p3⟩ := RoP.vv r31p2
    clear r31p2
    obtain ⟨r31k3, r31p4⟩ := RoP.vv r31p3
    clear r31p3
    obtain ⟨r31k4, r31p5⟩ := RoP.vv r31p4
    clear r31p4
    clear r31p5
    refine wp_seq (wp_region_lit ?_)
    refine wv E rfl (r_bin (E.tmp rfl) (E.tmp rfl) (b_lss (b := true) (by simp; exact hlt))) fun a E => ?_
    refine wpList_nil (then_n (wp_seq ?_))
    refine cond_t E rfl rfl ?_
    refine wp_skip (then_n (wp_seq (wp_block (wp_seq (wp_region_lit ?_)))))
    refine vm E rfl rfl fun a E => wv E rfl (r_ia (k := k) (o' := e30o + k * 5) (E.tmp rfl) (E.tmp rfl) rfl el_27_15 (by omega) rfl) fun a E => wv E rfl (r_loads (us := [.slice r31A0 e30y.todo.length r31c0, .int .i64 (e30y.pc), .int .i64 (e30y.t), .int .i64 (e30y.b), .int .i64 (e30y.x)]) (E.tmp rfl) ag_119_15 sz_119_15 (ca_cons (r31k0.get H) (ca_cons (r31k1.get H) (ca_cons (r31k2.get H) (ca_cons (r31k3.get H) (ca_cons (r31k4.get H) (ca_nil _ _ _))))))) fun a E => ?_
    refine w_alloc E rfl zo_119_15 H (fun a w g32 E H => ?_)
    refine va E rfl rfl fun a E => ?_
    refine w_stores (us := [.slice r31A0 e30y.todo.length r31c0, .int .i64 (e30y.pc), .int .i64 (e30y.t), .int .i64 (e30y.b), .int .i64 (e30y.x)]) (cs' := [.slice r31A0 e30y.todo.length r31c0, .int .i64 (e30y.pc), .int .i64 (e30y.t), .int .i64 (e30y.b), .int .i64 (e30y.x)]) (rs' := [Cel _ [.slice r31A0 e30y.todo.length r31c0, .int .i64 (e30y.pc), .int .i64 (e30y.t), .int .i64 (e30y.b), .int .i64 (e30y.x)] _, _]) E (E.tmp rfl) (E.tmp rfl) rfl sz_119_15 H (i := 0) rfl rfl rfl rfl (fun a w E H => ?_)
    refine wpList_nil (then_n (wp_seq (wp_region_lit ?_)))
    refine wv E rfl (r_loads (us := [.slice r31A0 e30y.todo.length r31c0, .int .i64 (e30y.pc), .int .i64 (e30y.t), .int .i64 (e30y.b), .int .i64 (e30y.x)]) (E.tmp rfl) ag_119_15 sz_119_15 (H.cellsAt 0 rfl)) fun a E => vm E rfl rfl fun a E => wv E rfl (r_bin (E.tmp rfl) (ev_c _) (b_eql (b := ((k : Nat) : Int) == 0) rfl)) fun a E => ?_
    refine w_quiet (v := .bool (actorB e30y (((k : Nat) : Int) == 0))) E rfl (ev_cons (E.tmp rfl) (ev_cons (E.tmp rfl) (ev_nil))) ok_152_15 (validActor_q e30y (((k : Nat) : Int) == 0) r31A0 r31c0 w (r31t0.at_ H (F := []) (by simp))) H (fun a w E H => ?_)
    refine wv E rfl (r_not (c := !(actorB e30y (((k : Nat) : Int) == 0))) (E.tmp rfl) rfl) fun a E => ?_
    refine wpList_nil (then_n ?_)
    rcases bcase (actorB e30y (((k : Nat) : Int) == 0)) with ts33 | ts33
    ·
     refine cond_t E rfl (by rw [ts33]; rfl) ?_
     refine wp_seq (wp_region_lit ?_)
     refine wv E rfl (r_assign (ev_c _)) fun a E => ?_
     refine wpList_nil (then_n (wp_ret (inb_r (then_r (then_r (inb_r (then_r ?_)))))))
     refine post1 E rfl (out_t E rfl) ?_
     rcases b_af ts28 with ts34 | ⟨ts34, ts35⟩
     ·
      have hbadA : allTo x.actors.length (actF x.actors) = false := allTo_f hlt (by simp only [actF, e30x, ts33])
      have hE : false = okB x := okB_bad (fun h => absurd (hbadA.symm.trans h.acts) (by decide))
      exact rb hE H
     have ts36 := b_nf ts35
     have hbadA : allTo x.actors.length (actF x.actors) = false := allTo_f hlt (by simp only [actF, e30x, ts33])
     have hE : false = okB x := okB_bad (fun h => absurd (hbadA.symm.trans h.acts) (by decide))
     exact rb hE H
    refine cond_f E rfl (by rw [ts33]; rfl) ?_
    refine wp_skip (inb_n (then_n (wp_region_lit ?_)))
    refine wv E rfl (r_bin (E.tmp rfl) (ev_c _) (b_add (wrap_succ (by omega)))) fun a E => vm E rfl rfl fun a E => ?_
    refine wpList_nil ?_
    have hF : actF x.actors k = true := by simp only [actF, e30x, ts33]
    have H := H.front 1 rfl
    have H := H.drop 1 rfl
    exact then_n ⟨_, by omega, k + 1, rfl, by omega, allTo_succ hallA hF, (Env.pick E (Env.pick E (Env.pick E (Env.pick E E.nil rfl) rfl) rfl) rfl), H⟩
   ·
    skip
    have hkn : k = x.actors.length := by omega
    have hacts : allTo x.actors.length (actF x.actors) = true := by rw [← hkn]; exact hallA
    refine wp_seq (wp_region_lit ?_)
    refine wv E rfl (r_bin (E.tmp rfl) (E.tmp rfl) (b_lss (b := false) (by simp; omega))) fun a E => ?_
    refine wpList_nil (then_n (wp_seq ?_))
    refine cond_f E rfl rfl ?_
    refine wp_exit (then_e (then_e (inb_ee (then_n (wp_seq (wp_region_lit ?_))))))
    refine wv E rfl (r_fa (o' := 1) (E.tmp rfl) fo_30_1_15 rfl) fun a E => wv E rfl (r_load (E.tmp rfl) ag_2_15 (H.cell 0 rfl rfl)) fun a E => wv E rfl (r_fa (o' := 0) (E.tmp rfl) fo_30_0_15 rfl) fun a E => wv E rfl (r_load (E.tmp rfl) ag_2_15 (H.cell 0 rfl rfl)) fun a E => wv E rfl (r_bin (E.tmp rfl) (E.tmp rfl) (b_sub rfl)) fun a E => ?_
    refine va E rfl rfl fun a E => ?_
    refine wpList_nil (then_n (wp_seq (wp_seq ?_)))
    have hpos : 0 < x.actors.length := by have h := ts22; simp at h; first | omega | exact List.length_pos_iff.2 h
    revert E
    revert H
    obtain ⟨e37b, e37o, e37y, rfl, e37x, e37q⟩ := Ro1.elem (f := GDequeActor.enc) GDequeActor.enc_len aactorsH rfl hpos
    intro H E
    have r38p0 : RoP w0 [] e37b e37o [.sl e37y.todo.length (e37y.todo.flatMap intE), .v (.int .i64 (e37y.pc)), .v (.int .i64 (e37y.t)), .v (.int .i64 (e37y.b)), .v (.int .i64 (e37y.x))] := e37q
    obtain ⟨r38A0, r38c0, r38k0, r38t0, r38n0, r38p1⟩ := RoP.sl r38p0
    clear r38p0
    obtain ⟨r38k1, r38p2⟩ := RoP.vv r38p1
    clear r38p1
    obtain ⟨r38k2, r38p3⟩ := RoP.vv r38p2
    clear r38p2
    obtain ⟨r38k3, r38p4⟩ := RoP.vv r38p3
    clear r38p3
    obtain ⟨r38k4, r38p5⟩ := RoP.vv r38p4
    clear r38p4
    clear r38p5
    refine reg_mid (fun a w => Env 109 a [(1, .pointer (some ⟨g1, 0, none⟩)), (87, .bool ((decide (((x.buffer.length : Nat) : Int) < IntKind.i64.wrap (x.bottom - x.top))) || ((decide (IntKind.i64.wrap (x.bottom - x.top) < (-1))) || (((IntKind.i64.wrap (x.bottom - x.top)) == (-1)) && (!(takingB e37y))))))] ∧ Tr.Inv w0 [] w [Cel g1 [.int .i64 (x.top), .int .i64 (x.bottom), .slice abufferA x.buffer.length abufferc, .slice (some ⟨e37b, e37o, none⟩) x.actors.length aactorsc, .slice atakenA x.taken.length atakenc, .slice arefusedA x.refused.length arefusedc] 30]) ?_ (fun a w hj => ?_)
    ·
     refine wp_region_lit ?_
     refine vm E rfl rfl fun a E => wv E rfl (r_fa (o' := 2) (E.tmp rfl) fo_30_2_15 rfl) fun a E => wv E rfl (r_load (E.tmp rfl) ag_24_15 (H.cell 0 rfl rfl)) fun a E => ?_
     refine wv E rfl (r_len (E.tmp rfl) el_24_15) (fun a E => ?_)
     refine wv E rfl (r_bin (E.tmp rfl) (E.tmp rfl) (b_gtr (b := decide (((x.buffer.length : Nat) : Int) < IntKind.i64.wrap (x.bottom - x.top))) rfl)) fun a E => vm E rfl rfl fun a E => ?_
     rcases bcase (decide (((x.buffer.length : Nat) : Int) < IntKind.i64.wrap (x.bottom - x.top))) with ts39 | ts39
     ·
      refine ung E rfl rfl rfl ts39 ?_
      refine vm E rfl rfl fun a E => ?_
      refine ung E rfl rfl rfl ts39 ?_
      refine wv E rfl (r_bin (E.tmp rfl) (ev_c _) (b_lss (b := decide (IntKind.i64.wrap (x.bottom - x.top) < (-1))) rfl)) fun a E => wv E rfl (r_pick_f ((E.tmp rfl).trans (congrArg Value.bool ts39)) (E.tmp rfl)) fun a E => vm E rfl rfl fun a E => ?_
      rcases bcase (decide (IntKind.i64.wrap (x.bottom - x.top) < (-1))) with ts40 | ts40
      ·
       refine ung E rfl rfl rfl ts40 ?_
       refine vm E rfl rfl fun a E => ?_
       refine ung E rfl rfl rfl ts40 ?_
       refine wv E rfl (r_bin (E.tmp rfl) (ev_c _) (b_eql (b := (IntKind.i64.wrap (x.bottom - x.top)) == (-1)) rfl)) fun a E => ?_
       refine ung E rfl rfl rfl ts40 ?_
       refine vm E rfl rfl fun a E => ?_
       rcases bcase ((IntKind.i64.wrap (x.bottom - x.top)) == (-1)) with ts41 | ts41
       ·
        refine wnh (c := false) E rfl rfl rfl rfl ts41 rfl fun a E => ?_
        refine wnh (c := false) E rfl rfl rfl rfl ts41 rfl fun a E => ?_
        refine wnh (c := false) E rfl rfl rfl rfl ts41 rfl fun a E => ?_
        refine wnh (c := false) E rfl rfl rfl rfl ts41 rfl fun a E => ?_
        refine wnh (c := false) E rfl rfl rfl rfl ts41 rfl fun a E => ?_
        refine wnh (c := false) E rfl rfl rfl rfl ts41 rfl fun a E => ?_
        refine ung E rfl rfl rfl ts40 ?_
        refine wv E rfl (r_pick_f ((E.tmp rfl).trans (congrArg Value.bool ts41)) (ev_c _)) fun a E => wv E rfl (r_pick_f ((E.tmp rfl).trans (congrArg Value.bool ts40)) (E.tmp rfl)) fun a E => ?_
        refine wpList_nil ?_
        have ej42 : ((decide (((x.buffer.length : Nat) : Int) < IntKind.i64.wrap (x.bottom - x.top))) || ((decide (IntKind.i64.wrap (x.bottom - x.top) < (-1))) || (((IntKind.i64.wrap (x.bottom - x.top)) == (-1)) && (!(takingB e37y))))) = false := by simp only [ts39, ts40, ts41, B1, B2, B3, B4, B5, B6, B7, B8, B9, B10, B11, B12, B13, B14]
        exact ⟨rfl, by rw [ej42]; exact (Env.pick E (Env.pick E E.nil rfl) rfl), H⟩
       refine ung E rfl rfl rfl ts41 ?_
       refine wv E rfl (r_fa (o' := 3) (E.tmp rfl) fo_30_3_15 rfl) fun a E => ?_
       refine ung E rfl rfl rfl ts41 ?_
       refine wv E rfl (r_load (E.tmp rfl) ag_27_15 (H.cell 0 rfl rfl)) fun a E => ?_
       refine ung E rfl rfl rfl ts41 ?_
       refine wv E rfl (r_ia (k := 0) (o' := e37o) (E.tmp rfl) (ev_c _) rfl el_27_15 (by omega) rfl) fun a E => ?_
       refine ung E rfl rfl rfl ts41 ?_
       refine wv E rfl (r_loads (us := [.slice r38A0 e37y.todo.length r38c0, .int .i64 (e37y.pc), .int .i64 (e37y.t), .int .i64 (e37y.b), .int .i64 (e37y.x)]) (E.tmp rfl) ag_119_15 sz_119_15 (ca_cons (r38k0.get H) (ca_cons (r38k1.get H) (ca_cons (r38k2.get H) (ca_cons (r38k3.get H) (ca_cons (r38k4.get H) (ca_nil _ _ _))))))) fun a E => ?_
       refine ung E rfl rfl rfl ts41 ?_
       refine w_quiet (v := .bool (takingB e37y)) E rfl (ev_cons (E.tmp rfl) (ev_nil)) ok_153_15 (taking_q e37y r38A0 r38c0 w (r38t0.at_ H (F := []) (by simp))) H (fun a w E H => ?_)
       refine ung E rfl rfl rfl ts41 ?_
       refine wv E rfl (r_not (c := !(takingB e37y)) (E.tmp rfl) rfl) fun a E => ?_
       refine ung E rfl rfl rfl ts40 ?_
       refine wv E rfl (r_pick_t ((E.tmp rfl).trans (congrArg Value.bool ts41)) (E.tmp rfl)) fun a E => wv E rfl (r_pick_f ((E.tmp rfl).trans (congrArg Value.bool ts40)) (E.tmp rfl)) fun a E => ?_
       refine wpList_nil ?_
       have ej43 : ((decide (((x.buffer.length : Nat) : Int) < IntKind.i64.wrap (x.bottom - x.top))) || ((decide (IntKind.i64.wrap (x.bottom - x.top) < (-1))) || (((IntKind.i64.wrap (x.bottom - x.top)) == (-1)) && (!(takingB e37y))))) = (!(takingB e37y)) := by simp only [ts39, ts40, ts41, B1, B2, B3, B4, B5, B6, B7, B8, B9, B10, B11, B12, B13, B14]
       exact ⟨rfl, by rw [ej43]; exact (Env.pick E (Env.pick E E.nil rfl) rfl), H⟩
      refine wnh (c := true) E rfl rfl rfl rfl ts40 rfl fun a E => ?_
      refine wnh (c := true) E rfl rfl rfl rfl ts40 rfl fun a E => ?_
      refine wnh (c := true) E rfl rfl rfl rfl ts40 rfl fun a E => ?_
      refine wnu E rfl rfl rfl rfl fun a E => wnu E rfl rfl rfl rfl fun a E => wnu E rfl rfl rfl rfl fun a E => wnu E rfl rfl rfl rfl fun a E => wnu E rfl rfl rfl rfl fun a E => ?_
      refine wnu E rfl rfl rfl rfl fun a E => ?_
      refine wnh (c := true) E rfl rfl rfl rfl ts40 rfl fun a E => ?_
      refine wv E rfl (r_pick_t ((E.tmp rfl).trans (congrArg Value.bool ts40)) (ev_c _)) fun a E => ?_
      refine wpList_nil ?_
      have ej44 : ((decide (((x.buffer.length : Nat) : Int) < IntKind.i64.wrap (x.bottom - x.top))) || ((decide (IntKind.i64.wrap (x.bottom - x.top) < (-1))) || (((IntKind.i64.wrap (x.bottom - x.top)) == (-1)) && (!(takingB e37y))))) = true := by simp only [ts39, ts40, B1, B2, B3, B4, B5, B6, B7, B8, B9, B10, B11, B12, B13, B14]
      exact ⟨rfl, by rw [ej44]; exact (Env.pick E (Env.pick E E.nil rfl) rfl), H⟩
     refine wnh (c := true) E rfl rfl rfl rfl ts39 rfl fun a E => ?_
     refine wnh (c := true) E rfl rfl rfl rfl ts39 rfl fun a E => ?_
     refine wv E rfl (r_pick_t ((E.tmp rfl).trans (congrArg Value.bool ts39)) (ev_c _)) fun a E => vm E rfl rfl fun a E => wn E rfl rfl rfl rfl rfl fun a E => wn E rfl rfl rfl rfl rfl fun a E => wn E rfl rfl rfl rfl rfl fun a E => ?_
     refine wnu E rfl rfl rfl rfl fun a E => wnu E rfl rfl rfl rfl fun a E => wnu E rfl rfl rfl rfl fun a E => wnu E rfl rfl rfl rfl fun a E => wnu E rfl rfl rfl rfl fun a E => ?_
     refine wnu E rfl rfl rfl rfl fun a E => wn E rfl rfl rfl rfl rfl fun a E => wv E rfl (r_pick_t (E.tmp rfl) (ev_c _)) fun a E => ?_
     refine wpList_nil ?_
     have ej45 : ((decide (((x.buffer.length : Nat) : Int) < IntKind.i64.wrap (x.bottom - x.top))) || ((decide (IntKind.i64.wrap (x.bottom - x.top) < (-1))) || (((IntKind.i64.wrap (x.bottom - x.top)) == (-1)) && (!(takingB e37y))))) = true := by simp only [ts39, B1, B2, B3, B4, B5, B6, B7, B8, B9, B10, B11, B12, B13, B14]
     exact ⟨rfl, by rw [ej45]; exact (Env.pick E (Env.pick E E.nil rfl) rfl), H⟩
    obtain ⟨E, H⟩ := hj
    refine then_n ?_
    rcases bcase ((decide (((x.buffer.length : Nat) : Int) < IntKind.i64.wrap (x.bottom - x.top))) || ((decide (IntKind.i64.wrap (x.bottom - x.top) < (-1))) || (((IntKind.i64.wrap (x.bottom - x.top)) == (-1)) && (!(takingB e37y))))) with ts46 | ts46
    ·
     obtain ⟨ts47, ts48⟩ := b_of ts46
     obtain ⟨ts49, ts50⟩ := b_of ts48
     refine cond_f E rfl ts46 ?_
     refine wp_skip (then_n (wp_seq (wp_seq ?_)))
     refine reg_mid (fun a w => Env 109 a [(1, .pointer (some ⟨g1, 0, none⟩)), (97, .bool ((decide (1000 < ((x.taken.length : Nat) : Int))) || (decide (1000 < ((x.refused.length : Nat) : Int)))))] ∧ Tr.Inv w0 [] w [Cel g1 [.int .i64 (x.top), .int .i64 (x.bottom), .slice abufferA x.buffer.length abufferc, .slice (some ⟨e37b, e37o, none⟩) x.actors.length aactorsc, .slice atakenA x.taken.length atakenc, .slice arefusedA x.refused.length arefusedc] 30]) ?_ (fun a w hj => ?_)
     ·
      refine wp_region_lit ?_
      refine wv E rfl (r_fa (o' := 4) (E.tmp rfl) fo_30_4_15 rfl) fun a E => wv E rfl (r_load (E.tmp rfl) ag_28_15 (H.cell 0 rfl rfl)) fun a E => ?_
      refine wv E rfl (r_len (E.tmp rfl) el_28_15) (fun a E => ?_)
      refine wv E rfl (r_bin (E.tmp rfl) (ev_c _) (b_gtr (b := decide (1000 < ((x.taken.length : Nat) : Int))) rfl)) fun a E => vm E rfl rfl fun a E => ?_
      rcases bcase (decide (1000 < ((x.taken.length : Nat) : Int))) with ts51 | ts51
      ·
       refine ung E rfl rfl rfl ts51 ?_
       refine wv E rfl (r_fa (o' := 5) (E.tmp rfl) fo_30_5_15 rfl) fun a E => ?_
       refine ung E rfl rfl rfl ts51 ?_
       refine wv E rfl (r_load (E.tmp rfl) ag_24_15 (H.cell 0 rfl rfl)) fun a E => ?_
       refine ung E rfl rfl rfl ts51 ?_
       refine wv E rfl (r_len (E.tmp rfl) el_24_15) (fun a E => ?_)
       refine ung E rfl rfl rfl ts51 ?_
       refine wv E rfl (r_bin (E.tmp rfl) (ev_c _) (b_gtr (b := decide (1000 < ((x.refused.length : Nat) : Int))) rfl)) fun a E => wv E rfl (r_pick_f ((E.tmp rfl).trans (congrArg Value.bool ts51)) (E.tmp rfl)) fun a E => ?_
       refine wpList_nil ?_
       have ej52 : ((decide (1000 < ((x.taken.length : Nat) : Int))) || (decide (1000 < ((x.refused.length : Nat) : Int)))) = (decide (1000 < ((x.refused.length : Nat) : Int))) := by simp only [ts51, B1, B2, B3, B4, B5, B6, B7, B8, B9, B10, B11, B12, B13, B14]
       exact ⟨rfl, by rw [ej52]; exact (Env.pick E (Env.pick E E.nil rfl) rfl), H⟩
      refine wnh (c := true) E rfl rfl rfl rfl ts51 rfl fun a E => ?_
      refine wnh (c := true) E rfl rfl rfl rfl ts51 rfl fun a E => ?_
      refine wnh (c := true) E rfl rfl rfl rfl ts51 rfl fun a E => ?_
      refine wnh (c := true) E rfl rfl rfl rfl ts51 rfl fun a E => ?_
      refine wv E rfl (r_pick_t ((E.tmp rfl).trans (congrArg Value.bool ts51)) (ev_c _)) fun a E => ?_
      refine wpList_nil ?_
      have ej53 : ((decide (1000 < ((x.taken.length : Nat) : Int))) || (decide (1000 < ((x.refused.length : Nat) : Int)))) = true := by simp only [ts51, B1, B2, B3, B4, B5, B6, B7, B8, B9, B10, B11, B12, B13, B14]
      exact ⟨rfl, by rw [ej53]; exact (Env.pick E (Env.pick E E.nil rfl) rfl), H⟩
     obtain ⟨E, H⟩ := hj
     refine then_n ?_
     rcases bcase ((decide (1000 < ((x.taken.length : Nat) : Int))) || (decide (1000 < ((x.refused.length : Nat) : Int)))) with ts54 | ts54
     ·
      obtain ⟨ts55, ts56⟩ := b_of ts54
      refine cond_f E rfl ts54 ?_
      refine wp_skip (then_n (wp_seq (wp_region_lit ?_)))
      refine wv E rfl (r_fa (o' := 4) (E.tmp rfl) fo_30_4_15 rfl) fun a E => wv E rfl (r_load (E.tmp rfl) ag_28_15 (H.cell 0 rfl rfl)) fun a E => wv E rfl (r_mkf (ev_cons (E.tmp rfl) (ev_nil))) fun a E => ?_
      refine w_quiet (v := .bool (!x.taken.all (takB x.actors.length))) E rfl (ev_cons (E.tmp rfl) (ev_cons (E.tmp rfl) (ev_nil))) ok_154_15 (con_vd2 x.taken atakenc atakenA g1 x.actors.length aactorsc (some ⟨e37b, e37o, none⟩) w aactorsH.nle (H.roc 0 rfl rfl) (atakenH.at_ H (F := []) (by simp))) H (fun a w E H => ?_)
      refine wv E rfl (r_not (c := !(!x.taken.all (takB x.actors.length))) (E.tmp rfl) rfl) fun a E => vm E rfl rfl fun a E => ?_
      rcases bcase (x.taken.all (takB x.actors.length)) with ts57 | ts57
      ·
       refine wnh (c := false) E rfl rfl rfl rfl (by rw [ts57]; rfl) rfl fun a E => ?_
       refine wnh (c := false) E rfl rfl rfl rfl (by rw [ts57]; rfl) rfl fun a E => ?_
       refine wnh (c := false) E rfl rfl rfl rfl (by rw [ts57]; rfl) rfl fun a E => ?_
       refine wnh (c := false) E rfl rfl rfl rfl (by rw [ts57]; rfl) rfl fun a E => ?_
       refine wv E rfl (r_pick_f ((E.tmp rfl).trans (congrArg Value.bool (by rw [ts57]; rfl))) (ev_c _)) fun a E => va E rfl rfl fun a E => ?_
       refine wpList_nil (then_n (wp_ret ?_))
       refine post1 E rfl (out_t E rfl) ?_
       rcases b_af ts28 with ts58 | ⟨ts58, ts59⟩
       ·
        rcases b_af ts50 with ts60 | ⟨ts60, ts61⟩
        ·
         have hE : false = okB x := okB_bad fun h => by
          obtain ⟨h1, h2, h3, h4, h5, h6, h7, h8, h9, h10, h11⟩ := h
          have hts8 := ts8
          have hts10 := ts10
          have hts12 := ts12
          have hts23 := ts23
          have hts25 := ts25
          have hts29 := ts29
          have hhacts := hacts
          have hts47 := ts47
          have hts49 := ts49
          have hts55 := ts55
          have hts56 := ts56
          have hts57 := ts57
          have hts58 := ts58
          have hts60 := ts60
          have h11 := h11 _ e37x
          rw [roomB_eq] at h11
          clear E H
          first | (simp [h7, h8, h9, h10] at hts8 hts10 hts12 hts23 hts25 hts29 hhacts hts47 hts49 hts55 hts56 hts57 hts58 hts60; done) | (simp only [inB, decide_eq_true_eq, decide_eq_false_iff_not, Bool.and_eq_true, Bool.and_eq_false_iff, beq_iff_eq, beq_eq_false_iff_ne, bne_iff_ne, ne_eq, bne_eq_false_iff_eq] at h1 h2 h3 h4 hts8 hts10 hts12 hts23 hts25 hts29 hhacts hts47 hts49 hts55 hts56 hts57 hts58 hts60; omega) | (simp [inB] at h1 h2 h3 h4 hts8 hts10 hts12 hts23 hts25 hts29 hhacts hts47 hts49 hts55 hts56 hts57 hts58 hts60 h11; omega) | (simp_all [inB]; omega) | simp_all [inB]
         exact rb hE H
        have ts62 := b_nf ts61
        have hE : false = okB x := okB_bad fun h => by
         obtain ⟨h1, h2, h3, h4, h5, h6, h7, h8, h9, h10, h11⟩ := h
         have hts8 := ts8
         have hts10 := ts10
         have hts12 := ts12
         have hts23 := ts23
         have hts25 := ts25
         have hts29 := ts29
         have hhacts := hacts
         have hts47 := ts47
         have hts49 := ts49
         have hts55 := ts55
         have hts56 := ts56
         have hts57 := ts57
         have hts58 := ts58
         have hts60 := ts60
         have hts62 := ts62
         have h11 := h11 _ e37x
         rw [roomB_eq] at h11
         clear E H
         first | (simp [h7, h8, h9, h10] at hts8 hts10 hts12 hts23 hts25 hts29 hhacts hts47 hts49 hts55 hts56 hts57 hts58 hts60 hts62; done) | (simp only [inB, decide_eq_true_eq, decide_eq_false_iff_not, Bool.and_eq_true, Bool.and_eq_false_iff, beq_iff_eq, beq_eq_false_iff_ne, bne_iff_ne, ne_eq, bne_eq_false_iff_eq] at h1 h2 h3 h4 hts8 hts10 hts12 hts23 hts25 hts29 hhacts hts47 hts49 hts55 hts56 hts57 hts58 hts60 hts62; omega) | (simp [inB] at h1 h2 h3 h4 hts8 hts10 hts12 hts23 hts25 hts29 hhacts hts47 hts49 hts55 hts56 hts57 hts58 hts60 hts62 h11; omega) | (simp_all [inB]; omega) | simp_all [inB]
        exact rb hE H
       have ts63 := b_nf ts59
       rcases b_af ts50 with ts64 | ⟨ts64, ts65⟩
       ·
        have hE : false = okB x := okB_bad fun h => by
         obtain ⟨h1, h2, h3, h4, h5, h6, h7, h8, h9, h10, h11⟩ := h
         have hts8 := ts8
         have hts10 := ts10
         have hts12 := ts12
         have hts23 := ts23
         have hts25 := ts25
         have hts29 := ts29
         have hhacts := hacts
         have hts47 := ts47
         have hts49 := ts49
         have hts55 := ts55
         have hts56 := ts56
         have hts57 := ts57
         have hts58 := ts58
         have hts63 := ts63
         have hts64 := ts64
         have h11 := h11 _ e37x
         rw [roomB_eq] at h11
         clear E H
         first | (simp [h7, h8, h9, h10] at hts8 hts10 hts12 hts23 hts25 hts29 hhacts hts47 hts49 hts55 hts56 hts57 hts58 hts63 hts64; done) | (simp only [inB, decide_eq_true_eq, decide_eq_false_iff_not, Bool.and_eq_true, Bool.and_eq_false_iff, beq_iff_eq, beq_eq_false_iff_ne, bne_iff_ne, ne_eq, bne_eq_false_iff_eq] at h1 h2 h3 h4 hts8 hts10 hts12 hts23 hts25 hts29 hhacts hts47 hts49 hts55 hts56 hts57 hts58 hts63 hts64; omega) | (simp [inB] at h1 h2 h3 h4 hts8 hts10 hts12 hts23 hts25 hts29 hhacts hts47 hts49 hts55 hts56 hts57 hts58 hts63 hts64 h11; omega) | (simp_all [inB]; omega) | simp_all [inB]
        exact rb hE H
       have ts66 := b_nf ts65
       have hE : false = okB x := okB_bad fun h => by
        obtain ⟨h1, h2, h3, h4, h5, h6, h7, h8, h9, h10, h11⟩ := h
        have hts8 := ts8
        have hts10 := ts10
        have hts12 := ts12
        have hts23 := ts23
        have hts25 := ts25
        have hts29 := ts29
        have hhacts := hacts
        have hts47 := ts47
        have hts49 := ts49
        have hts55 := ts55
        have hts56 := ts56
        have hts57 := ts57
        have hts58 := ts58
        have hts63 := ts63
        have hts64 := ts64
        have hts66 := ts66
        have h11 := h11 _ e37x
        rw [roomB_eq] at h11
        clear E H
        first | (simp [h7, h8, h9, h10] at hts8 hts10 hts12 hts23 hts25 hts29 hhacts hts47 hts49 hts55 hts56 hts57 hts58 hts63 hts64 hts66; done) | (simp only [inB, decide_eq_true_eq, decide_eq_false_iff_not, Bool.and_eq_true, Bool.and_eq_false_iff, beq_iff_eq, beq_eq_false_iff_ne, bne_iff_ne, ne_eq, bne_eq_false_iff_eq] at h1 h2 h3 h4 hts8 hts10 hts12 hts23 hts25 hts29 hhacts hts47 hts49 hts55 hts56 hts57 hts58 hts63 hts64 hts66; omega) | (simp [inB] at h1 h2 h3 h4 hts8 hts10 hts12 hts23 hts25 hts29 hhacts hts47 hts49 hts55 hts56 hts57 hts58 hts63 hts64 hts66 h11; omega) | (simp_all [inB]; omega) | simp_all [inB]
       exact rb hE H
      refine ung E rfl rfl rfl (by rw [ts57]; rfl) ?_
      refine wv E rfl (r_fa (o' := 5) (E.tmp rfl) fo_30_5_15 rfl) fun a E => ?_
      refine ung E rfl rfl rfl (by rw [ts57]; rfl) ?_
      refine wv E rfl (r_load (E.tmp rfl) ag_24_15 (H.cell 0 rfl rfl)) fun a E => ?_
      refine ung E rfl rfl rfl (by rw [ts57]; rfl) ?_
      refine w_quiet (v := .bool (!x.refused.all (fun n => inB n 1 1000))) E rfl (ev_cons (E.tmp rfl) (ev_cons (ev_f _) (ev_nil))) ok_60_15 (con_vd3 x.refused arefusedc arefusedA w (arefusedH.at_ H (F := []) (by simp))) H (fun a w E H => ?_)
      refine ung E rfl rfl rfl (by rw [ts57]; rfl) ?_
      refine wv E rfl (r_not (c := !(!x.refused.all (fun n => inB n 1 1000))) (E.tmp rfl) rfl) fun a E => wv E rfl (r_pick_t ((E.tmp rfl).trans (congrArg Value.bool (by rw [ts57]; rfl))) (E.tmp rfl)) fun a E => va E rfl rfl fun a E => ?_
      refine wpList_nil (then_n (wp_ret ?_))
      refine post1 E rfl (out_t E rfl) ?_
      rcases b_af ts28 with ts67 | ⟨ts67, ts68⟩
      ·
       rcases b_af ts50 with ts69 | ⟨ts69, ts70⟩
       ·
        have hE : (!(!x.refused.all (fun n => inB n 1 1000))) = okB x := by
         rw [Bool.not_not]
         have hts8 := ts8
         have hts10 := ts10
         have hts12 := ts12
         have hts23 := ts23
         have hts25 := ts25
         have hts29 := ts29
         have hhacts := hacts
         have hts47 := ts47
         have hts49 := ts49
         have hts55 := ts55
         have hts56 := ts56
         have hts57 := ts57
         have hts67 := ts67
         have hts69 := ts69
         clear E H
         refine (okB_good (x := x) ?_ ?_ ?_ ?_ ?_ ?_ ?_ hacts ?_ ?_).symm
         all_goals first | assumption | (intro a ha; obtain rfl : e37y = a := Option.some.inj (e37x.symm.trans ha); rw [roomB_eq]; simp [inB] at hts8 hts10 hts12 hts23 hts25 hts29 hts47 hts49 hts55 hts56 hts57 hts67 hts69 ⊢; first | done | (rcases Bool.eq_false_or_eq_true (takingB e37y) with ht | ht <;> simp [ht] at * <;> omega)) | (simp [inB] at hts8 hts10 hts12 hts23 hts25 hts29 hts47 hts49 hts55 hts56 hts57 hts67 hts69 ⊢; first | done | omega | assumption)
        exact rb hE H
       have ts71 := b_nf ts70
       have hE : (!(!x.refused.all (fun n => inB n 1 1000))) = okB x := by
        rw [Bool.not_not]
        have hts8 := ts8
        have hts10 := ts10
        have hts12 := ts12
        have hts23 := ts23
        have hts25 := ts25
        have hts29 := ts29
        have hhacts := hacts
        have hts47 := ts47
        have hts49 := ts49
        have hts55 := ts55
        have hts56 := ts56
        have hts57 := ts57
        have hts67 := ts67
        have hts69 := ts69
        have hts71 := ts71
        clear E H
        refine (okB_good (x := x) ?_ ?_ ?_ ?_ ?_ ?_ ?_ hacts ?_ ?_).symm
        all_goals first | assumption | (intro a ha; obtain rfl : e37y = a := Option.some.inj (e37x.symm.trans ha); rw [roomB_eq]; simp [inB] at hts8 hts10 hts12 hts23 hts25 hts29 hts47 hts49 hts55 hts56 hts57 hts67 hts69 hts71 ⊢; first | done | (rcases Bool.eq_false_or_eq_true (takingB e37y) with ht | ht <;> simp [ht] at * <;> omega)) | (simp [inB] at hts8 hts10 hts12 hts23 hts25 hts29 hts47 hts49 hts55 hts56 hts57 hts67 hts69 hts71 ⊢; first | done | omega | assumption)
       exact rb hE H
      have ts72 := b_nf ts68
      rcases b_af ts50 with ts73 | ⟨ts73, ts74⟩
      ·
       have hE : (!(!x.refused.all (fun n => inB n 1 1000))) = okB x := by
        rw [Bool.not_not]
        have hts8 := ts8
        have hts10 := ts10
        have hts12 := ts12
        have hts23 := ts23
        have hts25 := ts25
        have hts29 := ts29
        have hhacts := hacts
        have hts47 := ts47
        have hts49 := ts49
        have hts55 := ts55
        have hts56 := ts56
        have hts57 := ts57
        have hts67 := ts67
        have hts72 := ts72
        have hts73 := ts73
        clear E H
        refine (okB_good (x := x) ?_ ?_ ?_ ?_ ?_ ?_ ?_ hacts ?_ ?_).symm
        all_goals first | assumption | (intro a ha; obtain rfl : e37y = a := Option.some.inj (e37x.symm.trans ha); rw [roomB_eq]; simp [inB] at hts8 hts10 hts12 hts23 hts25 hts29 hts47 hts49 hts55 hts56 hts57 hts67 hts72 hts73 ⊢; first | done | (rcases Bool.eq_false_or_eq_true (takingB e37y) with ht | ht <;> simp [ht] at * <;> omega)) | (simp [inB] at hts8 hts10 hts12 hts23 hts25 hts29 hts47 hts49 hts55 hts56 hts57 hts67 hts72 hts73 ⊢; first | done | omega | assumption)
       exact rb hE H
      have ts75 := b_nf ts74
      have hE : (!(!x.refused.all (fun n => inB n 1 1000))) = okB x := by
       rw [Bool.not_not]
       have hts8 := ts8
       have hts10 := ts10
       have hts12 := ts12
       have hts23 := ts23
       have hts25 := ts25
       have hts29 := ts29
       have hhacts := hacts
       have hts47 := ts47
       have hts49 := ts49
       have hts55 := ts55
       have hts56 := ts56
       have hts57 := ts57
       have hts67 := ts67
       have hts72 := ts72
       have hts73 := ts73
       have hts75 := ts75
       clear E H
       refine (okB_good (x := x) ?_ ?_ ?_ ?_ ?_ ?_ ?_ hacts ?_ ?_).symm
       all_goals first | assumption | (intro a ha; obtain rfl : e37y = a := Option.some.inj (e37x.symm.trans ha); rw [roomB_eq]; simp [inB] at hts8 hts10 hts12 hts23 hts25 hts29 hts47 hts49 hts55 hts56 hts57 hts67 hts72 hts73 hts75 ⊢; first | done | (rcases Bool.eq_false_or_eq_true (takingB e37y) with ht | ht <;> simp [ht] at * <;> omega)) | (simp [inB] at hts8 hts10 hts12 hts23 hts25 hts29 hts47 hts49 hts55 hts56 hts57 hts67 hts72 hts73 hts75 ⊢; first | done | omega | assumption)
      exact rb hE H
     refine cond_t E rfl ts54 ?_
     refine wp_seq (wp_region_lit ?_)
     refine wv E rfl (r_assign (ev_c _)) fun a E => ?_
     refine wpList_nil (then_n (wp_ret (then_r ?_)))
     refine post1 E rfl (out_t E rfl) ?_
     rcases b_af ts28 with ts76 | ⟨ts76, ts77⟩
     ·
      rcases b_af ts50 with ts78 | ⟨ts78, ts79⟩
      ·
       rcases b_ot ts54 with ts80 | ⟨ts80, ts81⟩
       ·
        have hE : false = okB x := okB_bad fun h => by
         obtain ⟨h1, h2, h3, h4, h5, h6, h7, h8, h9, h10, h11⟩ := h
         have hts8 := ts8
         have hts10 := ts10
         have hts12 := ts12
         have hts23 := ts23
         have hts25 := ts25
         have hts29 := ts29
         have hhacts := hacts
         have hts47 := ts47
         have hts49 := ts49
         have hts76 := ts76
         have hts78 := ts78
         have hts80 := ts80
         have h11 := h11 _ e37x
         rw [roomB_eq] at h11
         clear E H
         first | (simp [h7, h8, h9, h10] at hts8 hts10 hts12 hts23 hts25 hts29 hhacts hts47 hts49 hts76 hts78 hts80; done) | (simp only [inB, decide_eq_true_eq, decide_eq_false_iff_not, Bool.and_eq_true, Bool.and_eq_false_iff, beq_iff_eq, beq_eq_false_iff_ne, bne_iff_ne, ne_eq, bne_eq_false_iff_eq] at h1 h2 h3 h4 hts8 hts10 hts12 hts23 hts25 hts29 hhacts hts47 hts49 hts76 hts78 hts80; omega) | (simp [inB] at h1 h2 h3 h4 hts8 hts10 hts12 hts23 hts25 hts29 hhacts hts47 hts49 hts76 hts78 hts80 h11; omega) | (simp_all [inB]; omega) | simp_all [inB]
        exact rb hE H
       have hE : false = okB x := okB_bad fun h => by
        obtain ⟨h1, h2, h3, h4, h5, h6, h7, h8, h9, h10, h11⟩ := h
        have hts8 := ts8
        have hts10 := ts10
        have hts12 := ts12
        have hts23 := ts23
        have hts25 := ts25
        have hts29 := ts29
        have hhacts := hacts
        have hts47 := ts47
        have hts49 := ts49
        have hts76 := ts76
        have hts78 := ts78
        have hts80 := ts80
        have hts81 := ts81
        have h11 := h11 _ e37x
        rw [roomB_eq] at h11
        clear E H
        first | (simp [h7, h8, h9, h10] at hts8 hts10 hts12 hts23 hts25 hts29 hhacts hts47 hts49 hts76 hts78 hts80 hts81; done) | (simp only [inB, decide_eq_true_eq, decide_eq_false_iff_not, Bool.and_eq_true, Bool.and_eq_false_iff, beq_iff_eq, beq_eq_false_iff_ne, bne_iff_ne, ne_eq, bne_eq_false_iff_eq] at h1 h2 h3 h4 hts8 hts10 hts12 hts23 hts25 hts29 hhacts hts47 hts49 hts76 hts78 hts80 hts81; omega) | (simp [inB] at h1 h2 h3 h4 hts8 hts10 hts12 hts23 hts25 hts29 hhacts hts47 hts49 hts76 hts78 hts80 hts81 h11; omega) | (simp_all [inB]; omega) | simp_all [inB]
       exact rb hE H
      have ts82 := b_nf ts79
      rcases b_ot ts54 with ts83 | ⟨ts83, ts84⟩
      ·
       have hE : false = okB x := okB_bad fun h => by
        obtain ⟨h1, h2, h3, h4, h5, h6, h7, h8, h9, h10, h11⟩ := h
        have hts8 := ts8
        have hts10 := ts10
        have hts12 := ts12
        have hts23 := ts23
        have hts25 := ts25
        have hts29 := ts29
        have hhacts := hacts
        have hts47 := ts47
        have hts49 := ts49
        have hts76 := ts76
        have hts78 := ts78
        have hts82 := ts82
        have hts83 := ts83
        have h11 := h11 _ e37x
        rw [roomB_eq] at h11
        clear E H
        first | (simp [h7, h8, h9, h10] at hts8 hts10 hts12 hts23 hts25 hts29 hhacts hts47 hts49 hts76 hts78 hts82 hts83; done) | (simp only [inB, decide_eq_true_eq, decide_eq_false_iff_not, Bool.and_eq_true, Bool.and_eq_false_iff, beq_iff_eq, beq_eq_false_iff_ne, bne_iff_ne, ne_eq, bne_eq_false_iff_eq] at h1 h2 h3 h4 hts8 hts10 hts12 hts23 hts25 hts29 hhacts hts47 hts49 hts76 hts78 hts82 hts83; omega) | (simp [inB] at h1 h2 h3 h4 hts8 hts10 hts12 hts23 hts25 hts29 hhacts hts47 hts49 hts76 hts78 hts82 hts83 h11; omega) | (simp_all [inB]; omega) | simp_all [inB]
       exact rb hE H
      have hE : false = okB x := okB_bad fun h => by
       obtain ⟨h1, h2, h3, h4, h5, h6, h7, h8, h9, h10, h11⟩ := h
       have hts8 := ts8
       have hts10 := ts10
       have hts12 := ts12
       have hts23 := ts23
       have hts25 := ts25
       have hts29 := ts29
       have hhacts := hacts
       have hts47 := ts47
       have hts49 := ts49
       have hts76 := ts76
       have hts78 := ts78
       have hts82 := ts82
       have hts83 := ts83
       have hts84 := ts84
       have h11 := h11 _ e37x
       rw [roomB_eq] at h11
       clear E H
       first | (simp [h7, h8, h9, h10] at hts8 hts10 hts12 hts23 hts25 hts29 hhacts hts47 hts49 hts76 hts78 hts82 hts83 hts84; done) | (simp only [inB, decide_eq_true_eq, decide_eq_false_iff_not, Bool.and_eq_true, Bool.and_eq_false_iff, beq_iff_eq, beq_eq_false_iff_ne, bne_iff_ne, ne_eq, bne_eq_false_iff_eq] at h1 h2 h3 h4 hts8 hts10 hts12 hts23 hts25 hts29 hhacts hts47 hts49 hts76 hts78 hts82 hts83 hts84; omega) | (simp [inB] at h1 h2 h3 h4 hts8 hts10 hts12 hts23 hts25 hts29 hhacts hts47 hts49 hts76 hts78 hts82 hts83 hts84 h11; omega) | (simp_all [inB]; omega) | simp_all [inB]
      exact rb hE H
     have ts85 := b_nf ts77
     rcases b_af ts50 with ts86 | ⟨ts86, ts87⟩
     ·
      rcases b_ot ts54 with ts88 | ⟨ts88, ts89⟩
      ·
       have hE : false = okB x := okB_bad fun h => by
        obtain ⟨h1, h2, h3, h4, h5, h6, h7, h8, h9, h10, h11⟩ := h
        have hts8 := ts8
        have hts10 := ts10
        have hts12 := ts12
        have hts23 := ts23
        have hts25 := ts25
        have hts29 := ts29
        have hhacts := hacts
        have hts47 := ts47
        have hts49 := ts49
        have hts76 := ts76
        have hts85 := ts85
        have hts86 := ts86
        have hts88 := ts88
        have h11 := h11 _ e37x
        rw [roomB_eq] at h11
        clear E H
        first | (simp [h7, h8, h9, h10] at hts8 hts10 hts12 hts23 hts25 hts29 hhacts hts47 hts49 hts76 hts85 hts86 hts88; done) | (simp only [inB, decide_eq_true_eq, decide_eq_false_iff_not, Bool.and_eq_true, Bool.and_eq_false_iff, beq_iff_eq, beq_eq_false_iff_ne, bne_iff_ne, ne_eq, bne_eq_false_iff_eq] at h1 h2 h3 h4 hts8 hts10 hts12 hts23 hts25 hts29 hhacts hts47 hts49 hts76 hts85 hts86 hts88; omega) | (simp [inB] at h1 h2 h3 h4 hts8 hts10 hts12 hts23 hts25 hts29 hhacts hts47 hts49 hts76 hts85 hts86 hts88 h11; omega) | (simp_all [inB]; omega) | simp_all [inB]
       exact rb hE H
      have hE : false = okB x := okB_bad fun h => by
       obtain ⟨h1, h2, h3, h4, h5, h6, h7, h8, h9, h10, h11⟩ := h
       have hts8 := ts8
       have hts10 := ts10
       have hts12 := ts12
       have hts23 := ts23
       have hts25 := ts25
       have hts29 := ts29
       have hhacts := hacts
       have hts47 := ts47
       have hts49 := ts49
       have hts76 := ts76
       have hts85 := ts85
       have hts86 := ts86
       have hts88 := ts88
       have hts89 := ts89
       have h11 := h11 _ e37x
       rw [roomB_eq] at h11
       clear E H
       first | (simp [h7, h8, h9, h10] at hts8 hts10 hts12 hts23 hts25 hts29 hhacts hts47 hts49 hts76 hts85 hts86 hts88 hts89; done) | (simp only [inB, decide_eq_true_eq, decide_eq_false_iff_not, Bool.and_eq_true, Bool.and_eq_false_iff, beq_iff_eq, beq_eq_false_iff_ne, bne_iff_ne, ne_eq, bne_eq_false_iff_eq] at h1 h2 h3 h4 hts8 hts10 hts12 hts23 hts25 hts29 hhacts hts47 hts49 hts76 hts85 hts86 hts88 hts89; omega) | (simp [inB] at h1 h2 h3 h4 hts8 hts10 hts12 hts23 hts25 hts29 hhacts hts47 hts49 hts76 hts85 hts86 hts88 hts89 h11; omega) | (simp_all [inB]; omega) | simp_all [inB]
      exact rb hE H
     have ts90 := b_nf ts87
     rcases b_ot ts54 with ts91 | ⟨ts91, ts92⟩
     ·
      have hE : false = okB x := okB_bad fun h => by
       obtain ⟨h1, h2, h3, h4, h5, h6, h7, h8, h9, h10, h11⟩ := h
       have hts8 := ts8
       have hts10 := ts10
       have hts12 := ts12
       have hts23 := ts23
       have hts25 := ts25
       have hts29 := ts29
       have hhacts := hacts
       have hts47 := ts47
       have hts49 := ts49
       have hts76 := ts76
       have hts85 := ts85
       have hts86 := ts86
       have hts90 := ts90
       have hts91 := ts91
       have h11 := h11 _ e37x
       rw [roomB_eq] at h11
       clear E H
       first | (simp [h7, h8, h9, h10] at hts8 hts10 hts12 hts23 hts25 hts29 hhacts hts47 hts49 hts76 hts85 hts86 hts90 hts91; done) | (simp only [inB, decide_eq_true_eq, decide_eq_false_iff_not, Bool.and_eq_true, Bool.and_eq_false_iff, beq_iff_eq, beq_eq_false_iff_ne, bne_iff_ne, ne_eq, bne_eq_false_iff_eq] at h1 h2 h3 h4 hts8 hts10 hts12 hts23 hts25 hts29 hhacts hts47 hts49 hts76 hts85 hts86 hts90 hts91; omega) | (simp [inB] at h1 h2 h3 h4 hts8 hts10 hts12 hts23 hts25 hts29 hhacts hts47 hts49 hts76 hts85 hts86 hts90 hts91 h11; omega) | (simp_all [inB]; omega) | simp_all [inB]
      exact rb hE H
     have hE : false = okB x := okB_bad fun h => by
      obtain ⟨h1, h2, h3, h4, h5, h6, h7, h8, h9, h10, h11⟩ := h
      have hts8 := ts8
      have hts10 := ts10
      have hts12 := ts12
      have hts23 := ts23
      have hts25 := ts25
      have hts29 := ts29
      have hhacts := hacts
      have hts47 := ts47
      have hts49 := ts49
      have hts76 := ts76
      have hts85 := ts85
      have hts86 := ts86
      have hts90 := ts90
      have hts91 := ts91
      have hts92 := ts92
      have h11 := h11 _ e37x
      rw [roomB_eq] at h11
      clear E H
      first | (simp [h7, h8, h9, h10] at hts8 hts10 hts12 hts23 hts25 hts29 hhacts hts47 hts49 hts76 hts85 hts86 hts90 hts91 hts92; done) | (simp only [inB, decide_eq_true_eq, decide_eq_false_iff_not, Bool.and_eq_true, Bool.and_eq_false_iff, beq_iff_eq, beq_eq_false_iff_ne, bne_iff_ne, ne_eq, bne_eq_false_iff_eq] at h1 h2 h3 h4 hts8 hts10 hts12 hts23 hts25 hts29 hhacts hts47 hts49 hts76 hts85 hts86 hts90 hts91 hts92; omega) | (simp [inB] at h1 h2 h3 h4 hts8 hts10 hts12 hts23 hts25 hts29 hhacts hts47 hts49 hts76 hts85 hts86 hts90 hts91 hts92 h11; omega) | (simp_all [inB]; omega) | simp_all [inB]
     exact rb hE H
    refine cond_t E rfl ts46 ?_
    refine wp_seq (wp_region_lit ?_)
    refine wv E rfl (r_assign (ev_c _)) fun a E => ?_
    refine wpList_nil (then_n (wp_ret (then_r ?_)))
    refine post1 E rfl (out_t E rfl) ?_
    rcases b_af ts28 with ts93 | ⟨ts93, ts94⟩
    ·
     rcases b_ot ts46 with ts95 | ⟨ts95, ts96⟩
     ·
      have hE : false = okB x := okB_bad fun h => by
       obtain ⟨h1, h2, h3, h4, h5, h6, h7, h8, h9, h10, h11⟩ := h
       have hts8 := ts8
       have hts10 := ts10
       have hts12 := ts12
       have hts23 := ts23
       have hts25 := ts25
       have hts29 := ts29
       have hhacts := hacts
       have hts93 := ts93
       have hts95 := ts95
       clear E H
       have h11 := h11 _ e37x
       rw [roomB_eq] at h11
       have h12 := inB_t h11
       have hc : (-1 : Int) ≤ cond (takingB e37y) (-1) 0 := by cases takingB e37y <;> decide
       try simp only [decide_eq_true_eq, decide_eq_false_iff_not, beq_iff_eq, beq_eq_false_iff_ne, ne_eq] at hts8
       try simp only [decide_eq_true_eq, decide_eq_false_iff_not, beq_iff_eq, beq_eq_false_iff_ne, ne_eq] at hts10
       try simp only [decide_eq_true_eq, decide_eq_false_iff_not, beq_iff_eq, beq_eq_false_iff_ne, ne_eq] at hts12
       try simp only [decide_eq_true_eq, decide_eq_false_iff_not, beq_iff_eq, beq_eq_false_iff_ne, ne_eq] at hts23
       try simp only [decide_eq_true_eq, decide_eq_false_iff_not, beq_iff_eq, beq_eq_false_iff_ne, ne_eq] at hts25
       try simp only [decide_eq_true_eq, decide_eq_false_iff_not, beq_iff_eq, beq_eq_false_iff_ne, ne_eq] at hts29
       try simp only [decide_eq_true_eq, decide_eq_false_iff_not, beq_iff_eq, beq_eq_false_iff_ne, ne_eq] at hhacts
       try simp only [decide_eq_true_eq, decide_eq_false_iff_not, beq_iff_eq, beq_eq_false_iff_ne, ne_eq] at hts93
       try simp only [decide_eq_true_eq, decide_eq_false_iff_not, beq_iff_eq, beq_eq_false_iff_ne, ne_eq] at hts95
       omega
      exact rb hE H
     rcases b_ot ts96 with ts97 | ⟨ts97, ts98⟩
     ·
      have hE : false = okB x := okB_bad fun h => by
       obtain ⟨h1, h2, h3, h4, h5, h6, h7, h8, h9, h10, h11⟩ := h
       have hts8 := ts8
       have hts10 := ts10
       have hts12 := ts12
       have hts23 := ts23
       have hts25 := ts25
       have hts29 := ts29
       have hhacts := hacts
       have hts93 := ts93
       have hts95 := ts95
       have hts97 := ts97
       clear E H
       have h11 := h11 _ e37x
       rw [roomB_eq] at h11
       have h12 := inB_t h11
       have hc : (-1 : Int) ≤ cond (takingB e37y) (-1) 0 := by cases takingB e37y <;> decide
       try simp only [decide_eq_true_eq, decide_eq_false_iff_not, beq_iff_eq, beq_eq_false_iff_ne, ne_eq] at hts8
       try simp only [decide_eq_true_eq, decide_eq_false_iff_not, beq_iff_eq, beq_eq_false_iff_ne, ne_eq] at hts10
       try simp only [decide_eq_true_eq, decide_eq_false_iff_not, beq_iff_eq, beq_eq_false_iff_ne, ne_eq] at hts12
       try simp only [decide_eq_true_eq, decide_eq_false_iff_not, beq_iff_eq, beq_eq_false_iff_ne, ne_eq] at hts23
       try simp only [decide_eq_true_eq, decide_eq_false_iff_not, beq_iff_eq, beq_eq_false_iff_ne, ne_eq] at hts25
       try simp only [decide_eq_true_eq, decide_eq_false_iff_not, beq_iff_eq, beq_eq_false_iff_ne, ne_eq] at hts29
       try simp only [decide_eq_true_eq, decide_eq_false_iff_not, beq_iff_eq, beq_eq_false_iff_ne, ne_eq] at hhacts
       try simp only [decide_eq_true_eq, decide_eq_false_iff_not, beq_iff_eq, beq_eq_false_iff_ne, ne_eq] at hts93
       try simp only [decide_eq_true_eq, decide_eq_false_iff_not, beq_iff_eq, beq_eq_false_iff_ne, ne_eq] at hts95
       try simp only [decide_eq_true_eq, decide_eq_false_iff_not, beq_iff_eq, beq_eq_false_iff_ne, ne_eq] at hts97
       omega
      exact rb hE H
     obtain ⟨ts99, ts100⟩ := b_at ts98
     have ts101 := b_nt ts100
     have hE : false = okB x := okB_bad fun h => by
      obtain ⟨h1, h2, h3, h4, h5, h6, h7, h8, h9, h10, h11⟩ := h
      have hts8 := ts8
      have hts10 := ts10
      have hts12 := ts12
      have hts23 := ts23
      have hts25 := ts25
      have hts29 := ts29
      have hhacts := hacts
      have hts93 := ts93
      have hts95 := ts95
      have hts97 := ts97
      have hts99 := ts99
      have hts101 := ts101
      clear E H
      have h11 := h11 _ e37x
      rw [roomB_eq] at h11
      have h12 := inB_t h11
      have hc : (-1 : Int) ≤ cond (takingB e37y) (-1) 0 := by cases takingB e37y <;> decide
      have hc2 : cond (takingB e37y) (-1 : Int) 0 = 0 := by rw [ts101]; rfl
      try simp only [decide_eq_true_eq, decide_eq_false_iff_not, beq_iff_eq, beq_eq_false_iff_ne, ne_eq] at hts8
      try simp only [decide_eq_true_eq, decide_eq_false_iff_not, beq_iff_eq, beq_eq_false_iff_ne, ne_eq] at hts10
      try simp only [decide_eq_true_eq, decide_eq_false_iff_not, beq_iff_eq, beq_eq_false_iff_ne, ne_eq] at hts12
      try simp only [decide_eq_true_eq, decide_eq_false_iff_not, beq_iff_eq, beq_eq_false_iff_ne, ne_eq] at hts23
      try simp only [decide_eq_true_eq, decide_eq_false_iff_not, beq_iff_eq, beq_eq_false_iff_ne, ne_eq] at hts25
      try simp only [decide_eq_true_eq, decide_eq_false_iff_not, beq_iff_eq, beq_eq_false_iff_ne, ne_eq] at hts29
      try simp only [decide_eq_true_eq, decide_eq_false_iff_not, beq_iff_eq, beq_eq_false_iff_ne, ne_eq] at hhacts
      try simp only [decide_eq_true_eq, decide_eq_false_iff_not, beq_iff_eq, beq_eq_false_iff_ne, ne_eq] at hts93
      try simp only [decide_eq_true_eq, decide_eq_false_iff_not, beq_iff_eq, beq_eq_false_iff_ne, ne_eq] at hts95
      try simp only [decide_eq_true_eq, decide_eq_false_iff_not, beq_iff_eq, beq_eq_false_iff_ne, ne_eq] at hts97
      try simp only [decide_eq_true_eq, decide_eq_false_iff_not, beq_iff_eq, beq_eq_false_iff_ne, ne_eq] at hts99
      try simp only [decide_eq_true_eq, decide_eq_false_iff_not, beq_iff_eq, beq_eq_false_iff_ne, ne_eq] at hts101
      omega
     exact rb hE H
    have ts102 := b_nf ts94
    rcases b_ot ts46 with ts103 | ⟨ts103, ts104⟩
    ·
     have hE : false = okB x := okB_bad fun h => by
      obtain ⟨h1, h2, h3, h4, h5, h6, h7, h8, h9, h10, h11⟩ := h
      have hts8 := ts8
      have hts10 := ts10
      have hts12 := ts12
      have hts23 := ts23
      have hts25 := ts25
      have hts29 := ts29
      have hhacts := hacts
      have hts93 := ts93
      have hts102 := ts102
      have hts103 := ts103
      clear E H
      have h11 := h11 _ e37x
      rw [roomB_eq] at h11
      have h12 := inB_t h11
      have hc : (-1 : Int) ≤ cond (takingB e37y) (-1) 0 := by cases takingB e37y <;> decide
      try simp only [decide_eq_true_eq, decide_eq_false_iff_not, beq_iff_eq, beq_eq_false_iff_ne, ne_eq] at hts8
      try simp only [decide_eq_true_eq, decide_eq_false_iff_not, beq_iff_eq, beq_eq_false_iff_ne, ne_eq] at hts10
      try simp only [decide_eq_true_eq, decide_eq_false_iff_not, beq_iff_eq, beq_eq_false_iff_ne, ne_eq] at hts12
      try simp only [decide_eq_true_eq, decide_eq_false_iff_not, beq_iff_eq, beq_eq_false_iff_ne, ne_eq] at hts23
      try simp only [decide_eq_true_eq, decide_eq_false_iff_not, beq_iff_eq, beq_eq_false_iff_ne, ne_eq] at hts25
      try simp only [decide_eq_true_eq, decide_eq_false_iff_not, beq_iff_eq, beq_eq_false_iff_ne, ne_eq] at hts29
      try simp only [decide_eq_true_eq, decide_eq_false_iff_not, beq_iff_eq, beq_eq_false_iff_ne, ne_eq] at hhacts
      try simp only [decide_eq_true_eq, decide_eq_false_iff_not, beq_iff_eq, beq_eq_false_iff_ne, ne_eq] at hts93
      try simp only [decide_eq_true_eq, decide_eq_false_iff_not, beq_iff_eq, beq_eq_false_iff_ne, ne_eq] at hts102
      try simp only [decide_eq_true_eq, decide_eq_false_iff_not, beq_iff_eq, beq_eq_false_iff_ne, ne_eq] at hts103
      omega
     exact rb hE H
    rcases b_ot ts104 with ts105 | ⟨ts105, ts106⟩
    ·
     have hE : false = okB x := okB_bad fun h => by
      obtain ⟨h1, h2, h3, h4, h5, h6, h7, h8, h9, h10, h11⟩ := h
      have hts8 := ts8
      have hts10 := ts10
      have hts12 := ts12
      have hts23 := ts23
      have hts25 := ts25
      have hts29 := ts29
      have hhacts := hacts
      have hts93 := ts93
      have hts102 := ts102
      have hts103 := ts103
      have hts105 := ts105
      clear E H
      have h11 := h11 _ e37x
      rw [roomB_eq] at h11
      have h12 := inB_t h11
      have hc : (-1 : Int) ≤ cond (takingB e37y) (-1) 0 := by cases takingB e37y <;> decide
      try simp only [decide_eq_true_eq, decide_eq_false_iff_not, beq_iff_eq, beq_eq_false_iff_ne, ne_eq] at hts8
      try simp only [decide_eq_true_eq, decide_eq_false_iff_not, beq_iff_eq, beq_eq_false_iff_ne, ne_eq] at hts10
      try simp only [decide_eq_true_eq, decide_eq_false_iff_not, beq_iff_eq, beq_eq_false_iff_ne, ne_eq] at hts12
      try simp only [decide_eq_true_eq, decide_eq_false_iff_not, beq_iff_eq, beq_eq_false_iff_ne, ne_eq] at hts23
      try simp only [decide_eq_true_eq, decide_eq_false_iff_not, beq_iff_eq, beq_eq_false_iff_ne, ne_eq] at hts25
      try simp only [decide_eq_true_eq, decide_eq_false_iff_not, beq_iff_eq, beq_eq_false_iff_ne, ne_eq] at hts29
      try simp only [decide_eq_true_eq, decide_eq_false_iff_not, beq_iff_eq, beq_eq_false_iff_ne, ne_eq] at hhacts
      try simp only [decide_eq_true_eq, decide_eq_false_iff_not, beq_iff_eq, beq_eq_false_iff_ne, ne_eq] at hts93
      try simp only [decide_eq_true_eq, decide_eq_false_iff_not, beq_iff_eq, beq_eq_false_iff_ne, ne_eq] at hts102
      try simp only [decide_eq_true_eq, decide_eq_false_iff_not, beq_iff_eq, beq_eq_false_iff_ne, ne_eq] at hts103
      try simp only [decide_eq_true_eq, decide_eq_false_iff_not, beq_iff_eq, beq_eq_false_iff_ne, ne_eq] at hts105
      omega
     exact rb hE H
    obtain ⟨ts107, ts108⟩ := b_at ts106
    have ts109 := b_nt ts108
    have hE : false = okB x := okB_bad fun h => by
     obtain ⟨h1, h2, h3, h4, h5, h6, h7, h8, h9, h10, h11⟩ := h
     have hts8 := ts8
     have hts10 := ts10
     have hts12 := ts12
     have hts23 := ts23
     have hts25 := ts25
     have hts29 := ts29
     have hhacts := hacts
     have hts93 := ts93
     have hts102 := ts102
     have hts103 := ts103
     have hts105 := ts105
     have hts107 := ts107
     have hts109 := ts109
     clear E H
     have h11 := h11 _ e37x
     rw [roomB_eq] at h11
     have h12 := inB_t h11
     have hc : (-1 : Int) ≤ cond (takingB e37y) (-1) 0 := by cases takingB e37y <;> decide
     have hc2 : cond (takingB e37y) (-1 : Int) 0 = 0 := by rw [ts109]; rfl
     try simp only [decide_eq_true_eq, decide_eq_false_iff_not, beq_iff_eq, beq_eq_false_iff_ne, ne_eq] at hts8
     try simp only [decide_eq_true_eq, decide_eq_false_iff_not, beq_iff_eq, beq_eq_false_iff_ne, ne_eq] at hts10
     try simp only [decide_eq_true_eq, decide_eq_false_iff_not, beq_iff_eq, beq_eq_false_iff_ne, ne_eq] at hts12
     try simp only [decide_eq_true_eq, decide_eq_false_iff_not, beq_iff_eq, beq_eq_false_iff_ne, ne_eq] at hts23
     try simp only [decide_eq_true_eq, decide_eq_false_iff_not, beq_iff_eq, beq_eq_false_iff_ne, ne_eq] at hts25
     try simp only [decide_eq_true_eq, decide_eq_false_iff_not, beq_iff_eq, beq_eq_false_iff_ne, ne_eq] at hts29
     try simp only [decide_eq_true_eq, decide_eq_false_iff_not, beq_iff_eq, beq_eq_false_iff_ne, ne_eq] at hhacts
     try simp only [decide_eq_true_eq, decide_eq_false_iff_not, beq_iff_eq, beq_eq_false_iff_ne, ne_eq] at hts93
     try simp only [decide_eq_true_eq, decide_eq_false_iff_not, beq_iff_eq, beq_eq_false_iff_ne, ne_eq] at hts102
     try simp only [decide_eq_true_eq, decide_eq_false_iff_not, beq_iff_eq, beq_eq_false_iff_ne, ne_eq] at hts103
     try simp only [decide_eq_true_eq, decide_eq_false_iff_not, beq_iff_eq, beq_eq_false_iff_ne, ne_eq] at hts105
     try simp only [decide_eq_true_eq, decide_eq_false_iff_not, beq_iff_eq, beq_eq_false_iff_ne, ne_eq] at hts107
     try simp only [decide_eq_true_eq, decide_eq_false_iff_not, beq_iff_eq, beq_eq_false_iff_ne, ne_eq] at hts109
     omega
    exact rb hE H
  refine cond_t E rfl ts22 ?_
  refine wp_seq (wp_region_lit ?_)
  refine wv E rfl (r_assign (ev_c _)) fun a E => ?_
  refine wpList_nil (then_n (wp_ret (then_r ?_)))
  refine post1 E rfl (out_t E rfl) ?_
  rcases b_ot ts22 with ts110 | ⟨ts110, ts111⟩
  ·
   have hE : false = okB x := okB_bad fun h => by
    obtain ⟨h1, h2, h3, h4, h5, h6, h7, h8, h9, h10, h11⟩ := h
    have hts8 := ts8
    have hts10 := ts10
    have hts12 := ts12
    have hts110 := ts110
    clear E H
    first | (simp [h7, h8, h9, h10] at hts8 hts10 hts12 hts110; done) | (simp only [inB, decide_eq_true_eq, decide_eq_false_iff_not, Bool.and_eq_true, Bool.and_eq_false_iff, beq_iff_eq, beq_eq_false_iff_ne, bne_iff_ne, ne_eq, bne_eq_false_iff_eq] at h1 h2 h3 h4 hts8 hts10 hts12 hts110; omega) | (simp [inB] at h1 h2 h3 h4 hts8 hts10 hts12 hts110; omega) | (simp_all [inB]; omega) | simp_all [inB]
   exact rb hE H
  rcases b_ot ts111 with ts112 | ⟨ts112, ts113⟩
  ·
   have hE : false = okB x := okB_bad fun h => by
    obtain ⟨h1, h2, h3, h4, h5, h6, h7, h8, h9, h10, h11⟩ := h
    have hts8 := ts8
    have hts10 := ts10
    have hts12 := ts12
    have hts110 := ts110
    have hts112 := ts112
    clear E H
    first | (simp [h7, h8, h9, h10] at hts8 hts10 hts12 hts110 hts112; done) | (simp only [inB, decide_eq_true_eq, decide_eq_false_iff_not, Bool.and_eq_true, Bool.and_eq_false_iff, beq_iff_eq, beq_eq_false_iff_ne, bne_iff_ne, ne_eq, bne_eq_false_iff_eq] at h1 h2 h3 h4 hts8 hts10 hts12 hts110 hts112; omega) | (simp [inB] at h1 h2 h3 h4 hts8 hts10 hts12 hts110 hts112; omega) | (simp_all [inB]; omega) | simp_all [inB]
   exact rb hE H
  rcases b_ot ts113 with ts114 | ⟨ts114, ts115⟩
  ·
   have ts116 := b_nt ts114
   have hE : false = okB x := okB_bad fun h => by
    obtain ⟨h1, h2, h3, h4, h5, h6, h7, h8, h9, h10, h11⟩ := h
    have hts8 := ts8
    have hts10 := ts10
    have hts12 := ts12
    have hts110 := ts110
    have hts112 := ts112
    have hts116 := ts116
    clear E H
    first | (simp [h7, h8, h9, h10] at hts8 hts10 hts12 hts110 hts112 hts116; done) | (simp only [inB, decide_eq_true_eq, decide_eq_false_iff_not, Bool.and_eq_true, Bool.and_eq_false_iff, beq_iff_eq, beq_eq_false_iff_ne, bne_iff_ne, ne_eq, bne_eq_false_iff_eq] at h1 h2 h3 h4 hts8 hts10 hts12 hts110 hts112 hts116; omega) | (simp [inB] at h1 h2 h3 h4 hts8 hts10 hts12 hts110 hts112 hts116; omega) | (simp_all [inB]; omega) | simp_all [inB]
   exact rb hE H
  have ts117 := b_nf ts114
  obtain ⟨ts118, ts119⟩ := b_at ts115
  have ts120 := b_nt ts119
  have hE : false = okB x := okB_bad fun h => by
   obtain ⟨h1, h2, h3, h4, h5, h6, h7, h8, h9, h10, h11⟩ := h
   have hts8 := ts8
   have hts10 := ts10
   have hts12 := ts12
   have hts110 := ts110
   have hts112 := ts112
   have hts117 := ts117
   have hts118 := ts118
   have hts120 := ts120
   clear E H
   first | (simp [h7, h8, h9, h10] at hts8 hts10 hts12 hts110 hts112 hts117 hts118 hts120; done) | (simp only [inB, decide_eq_true_eq, decide_eq_false_iff_not, Bool.and_eq_true, Bool.and_eq_false_iff, beq_iff_eq, beq_eq_false_iff_ne, bne_iff_ne, ne_eq, bne_eq_false_iff_eq] at h1 h2 h3 h4 hts8 hts10 hts12 hts110 hts112 hts117 hts118 hts120; omega) | (simp [inB] at h1 h2 h3 h4 hts8 hts10 hts12 hts110 hts112 hts117 hts118 hts120; omega) | (simp_all [inB]; omega) | simp_all [inB]
  exact rb hE H
 refine cond_t E rfl ts7 ?_
 refine wp_seq (wp_region_lit ?_)
 refine wv E rfl (r_assign (ev_c _)) fun a E => ?_
 refine wpList_nil (then_n (wp_ret (then_r ?_)))
 refine post1 E rfl (out_t E rfl) ?_
 rcases b_ot ts7 with ts121 | ⟨ts121, ts122⟩
 ·
  have hE : false = okB x := okB_bad fun h => by
   obtain ⟨h1, h2, h3, h4, h5, h6, h7, h8, h9, h10, h11⟩ := h
   have hts121 := ts121
   clear E H
   first | (simp [h7, h8, h9, h10] at hts121; done) | (simp only [inB, decide_eq_true_eq, decide_eq_false_iff_not, Bool.and_eq_true, Bool.and_eq_false_iff, beq_iff_eq, beq_eq_false_iff_ne, bne_iff_ne, ne_eq, bne_eq_false_iff_eq] at h1 h2 h3 h4 hts121; omega) | (simp [inB] at h1 h2 h3 h4 hts121; omega) | (simp_all [inB]; omega) | simp_all [inB]
  exact rb hE H
 rcases b_ot ts122 with ts123 | ⟨ts123, ts124⟩
 ·
  have hE : false = okB x := okB_bad fun h => by
   obtain ⟨h1, h2, h3, h4, h5, h6, h7, h8, h9, h10, h11⟩ := h
   have hts121 := ts121
   have hts123 := ts123
   clear E H
   first | (simp [h7, h8, h9, h10] at hts121 hts123; done) | (simp only [inB, decide_eq_true_eq, decide_eq_false_iff_not, Bool.and_eq_true, Bool.and_eq_false_iff, beq_iff_eq, beq_eq_false_iff_ne, bne_iff_ne, ne_eq, bne_eq_false_iff_eq] at h1 h2 h3 h4 hts121 hts123; omega) | (simp [inB] at h1 h2 h3 h4 hts121 hts123; omega) | (simp_all [inB]; omega) | simp_all [inB]
  exact rb hE H
 have ts125 := b_nt ts124
 have hE : false = okB x := okB_bad fun h => by
  obtain ⟨h1, h2, h3, h4, h5, h6, h7, h8, h9, h10, h11⟩ := h
  have hts121 := ts121
  have hts123 := ts123
  have hts125 := ts125
  clear E H
  first | (simp [h7, h8, h9, h10] at hts121 hts123 hts125; done) | (simp only [inB, decide_eq_true_eq, decide_eq_false_iff_not, Bool.and_eq_true, Bool.and_eq_false_iff, beq_iff_eq, beq_eq_false_iff_ne, bne_iff_ne, ne_eq, bne_eq_false_iff_eq] at h1 h2 h3 h4 hts121 hts123 hts125; omega) | (simp [inB] at h1 h2 h3 h4 hts121 hts123 hts125; omega) | (simp_all [inB]; omega) | simp_all [inB]
 exact rb hE H
end Go.Proofs.Ythelpioccjjgfaa
