/- Deques. Printed by gx_dq.py. -/
import Derived.Test.YthelpioccjjgfaaProg
import Derived.Test.YthelpioccjjgfaaSc
import Derived.Test.YthelpioccjjgfaaDDq
import Derived.Test.YthelpioccjjgfaaArith
import Derived.IntWalk
import Derived.Test.YthelpioccjjgfaaDq4
import Derived.Test.YthelpioccjjgfaaDq5
set_option linter.unusedSimpArgs false
set_option linter.unusedVariables false
namespace Go.Tr
def putS (y : GDeque) (k : Nat) (r : GDeque × GDequeActor) : GDeque := { r.1 with actors := y.actors.set k r.2 }
def stepS (y : GDeque) (k : Nat) (a : GDequeActor) : GDeque := putS y k (cond (decide ((0 : Int) < ((k : Nat) : Int))) (stealS y a ((k : Nat) : Int)) (cond (a.todo.headD 0 == 0) (takeS y a) (pushS y a)))
end Go.Tr
namespace Go.Proofs.Ythelpioccjjgfaa
open Go Go.RowKit Go.Proofs Go.Tr
theorem fo_30_3_5 : fldOff Try.prog 30 3 = some 3 := by kernel_rfl
theorem ag_27_5 : aggB Try.prog 27 = some false := by kernel_rfl
theorem el_27_5 : elemOf? Try.prog 27 = some (119, 5) := by kernel_rfl
theorem fo_119_0_5 : fldOff Try.prog 119 0 = some 0 := by kernel_rfl
theorem ag_24_5 : aggB Try.prog 24 = some false := by kernel_rfl
theorem el_24_5 : elemOf? Try.prog 24 = some (2, 1) := by kernel_rfl
theorem ag_2_5 : aggB Try.prog 2 = some false := by kernel_rfl
theorem ok_211_5 : callOk Try.prog 211 = true := by kernel_rfl
theorem ok_210_5 : callOk Try.prog 210 = true := by kernel_rfl
theorem ok_209_5 : callOk Try.prog 209 = true := by kernel_rfl
set_option maxHeartbeats 1000000 in
theorem l23Step_q (y : GDeque) (dd bb cB cT cR rb cA : Nat) (AT AR : Option Addr) (k : Nat) (n0 : Int) (tl : List Int) (pc t b x : Int) (z : GDeque) (w0 : World) {F : List Nat} (hS : Sep w0 [Cel dd [.int .i64 (y.top), .int .i64 (y.bottom), .slice (some ⟨bb, 0, none⟩) y.buffer.length cB, .slice (some ⟨rb, 0, none⟩) y.actors.length cA, .slice AT y.taken.length cT, .slice AR y.refused.length cR] 30, Gr (.slice (some ⟨bb, 0, none⟩) y.buffer.length cB) 2 1 y.buffer.length (y.buffer.flatMap intE), Gr (.slice (some ⟨rb, 0, none⟩) y.actors.length cA) 119 5 y.actors.length (y.actors.flatMap GDequeActor.enc), Gr (.slice AT y.taken.length cT) 36 2 y.taken.length (y.taken.flatMap GHanded.enc), Gr (.slice AR y.refused.length cR) 2 1 y.refused.length (y.refused.flatMap intE)] F) (hk : y.actors[k]? = some ⟨n0 :: tl, pc, t, b, x⟩) (hl : tl.length ≤ 1000) (hb0 : 0 < y.buffer.length) (hb1 : y.buffer.length ≤ 1000) (ht1 : y.taken.length ≤ 100000) (hr1 : y.refused.length ≤ 100000) (hz : z = stepS y k ⟨n0 :: tl, pc, t, b, x⟩) (hpc : pc = 0 ∨ pc = 1 ∨ pc = 2 ∨ pc = 3) (hp0 : k = 0 → n0 ≠ 0 → pc ≠ 3) (hk9 : k ≤ 1000) : Calls Try.prog 136 #[.pointer (some ⟨dd, 0, none⟩), .int .i64 (((k : Nat) : Int))] w0 fun e w' => ∃ AT' cT' AR' cR', e = .returned (.tuple #[]) ∧ Tr.Inv w0 F w' [Cel dd [.int .i64 (z.top), .int .i64 (z.bottom), .slice (some ⟨bb, 0, none⟩) y.buffer.length cB, .slice (some ⟨rb, 0, none⟩) y.actors.length cA, .slice AT' z.taken.length cT', .slice AR' z.refused.length cR'] 30, Gr (.slice (some ⟨bb, 0, none⟩) y.buffer.length cB) 2 1 y.buffer.length (z.buffer.flatMap intE), Gr (.slice (some ⟨rb, 0, none⟩) y.actors.length cA) 119 5 y.actors.length (z.actors.flatMap GDequeActor.enc), Gr (.slice AT' z.taken.length cT') 36 2 z.taken.length (z.taken.flatMap GHanded.enc), Gr (.slice AR' z.refused.length cR') 2 1 z.refused.length (z.refused.flatMap intE)] := by
 refine enter_i (args := [.pointer (some ⟨dd, 0, none⟩), .int .i64 (((k : Nat) : Int))]) Try.func136 rfl Try.ntmps136 rfl hS (fun a w E H => ?_)
 have E : Env 32 a [(0, .pointer (some ⟨dd, 0, none⟩)), (1, .int .i64 (((k : Nat) : Int)))] := E
 have hkl : k < y.actors.length := (List.getElem?_eq_some_iff.1 hk).1
 have H := H.front 2 rfl
 obtain ⟨v1y, v1u, v1x, H⟩ := H.openL (f := GDequeActor.enc) GDequeActor.enc_len rfl hkl
 obtain rfl : v1y = (GDequeActor.mk (n0 :: tl) pc t b x) := Option.some.inj (v1x.symm.trans hk)
 replace H := H.front 1 rfl
 obtain ⟨v1A0, v1c0, v1u0, rfl, v1n0, H⟩ := H.dn_s
 replace H := H.front 1 rfl
 obtain ⟨v1u1, rfl, H⟩ := H.dn_v
 obtain ⟨v1u2, rfl, H⟩ := H.dn_v
 obtain ⟨v1u3, rfl, H⟩ := H.dn_v
 obtain ⟨v1u4, rfl, H⟩ := H.dn_v
 obtain ⟨rfl, H⟩ := H.dn_e
 have H : Tr.Inv w0 F w [Dat (.slice v1A0 (((GDequeActor.mk (n0 :: tl) pc t b x)).todo.length) v1c0) (((GDequeActor.mk (n0 :: tl) pc t b x)).todo.length) (((GDequeActor.mk (n0 :: tl) pc t b x)).todo.flatMap intE), Opn rb cA 119 5 y.actors.length ((y.actors.take k).flatMap GDequeActor.enc) [.slice v1A0 (((GDequeActor.mk (n0 :: tl) pc t b x)).todo.length) v1c0, .int .i64 (((GDequeActor.mk (n0 :: tl) pc t b x)).pc), .int .i64 (((GDequeActor.mk (n0 :: tl) pc t b x)).t), .int .i64 (((GDequeActor.mk (n0 :: tl) pc t b x)).b), .int .i64 (((GDequeActor.mk (n0 :: tl) pc t b x)).x)] ((y.actors.drop (k + 1)).flatMap GDequeActor.enc), Cel dd [.int .i64 (y.top), .int .i64 (y.bottom), .slice (some ⟨bb, 0, none⟩) y.buffer.length cB, .slice (some ⟨rb, 0, none⟩) y.actors.length cA, .slice AT y.taken.length cT, .slice AR y.refused.length cR] 30, Gr (.slice (some ⟨bb, 0, none⟩) y.buffer.length cB) 2 1 y.buffer.length (y.buffer.flatMap intE), Gr (.slice AT y.taken.length cT) 36 2 y.taken.length (y.taken.flatMap GHanded.enc), Gr (.slice AR y.refused.length cR) 2 1 y.refused.length (y.refused.flatMap intE)] := H
 obtain ⟨tb, to, hAtb⟩ := H.dat_pos 0 rfl (Nat.succ_pos _)
 revert E
 revert H
 subst hAtb
 intro H E
 have H : Tr.Inv w0 F w [Dat (.slice (some ⟨tb, to, none⟩) (tl.length + 1) v1c0) (tl.length + 1) ((n0 :: tl).flatMap intE), Opn rb cA 119 5 y.actors.length ((y.actors.take k).flatMap GDequeActor.enc) [.slice (some ⟨tb, to, none⟩) (tl.length + 1) v1c0, .int .i64 (pc), .int .i64 (t), .int .i64 (b), .int .i64 (x)] ((y.actors.drop (k + 1)).flatMap GDequeActor.enc), Cel dd [.int .i64 (y.top), .int .i64 (y.bottom), .slice (some ⟨bb, 0, none⟩) y.buffer.length cB, .slice (some ⟨rb, 0, none⟩) y.actors.length cA, .slice AT y.taken.length cT, .slice AR y.refused.length cR] 30, Gr (.slice (some ⟨bb, 0, none⟩) y.buffer.length cB) 2 1 y.buffer.length (y.buffer.flatMap intE), Gr (.slice AT y.taken.length cT) 36 2 y.taken.length (y.taken.flatMap GHanded.enc), Gr (.slice AR y.refused.length cR) 2 1 y.refused.length (y.refused.flatMap intE)] := H
 refine wp_seq (wp_region_lit ?_)
 refine vm E rfl rfl fun a E => wv E rfl (r_nil (E.tmp rfl)) fun a E => wv E rfl (r_fa (o' := 3) (E.tmp rfl) fo_30_3_5 rfl) fun a E => wv E rfl (r_load (E.tmp rfl) ag_27_5 (H.cell 2 rfl rfl)) fun a E => vm E rfl rfl fun a E => ?_
 refine wv E rfl (r_ia (k := k) (o' := k * 5) (E.tmp rfl) (E.tmp rfl) rfl el_27_5 (by omega) (Nat.zero_add _)) fun a E => va E rfl rfl fun a E => ?_
 refine wpList_nil (then_n (wp_block (wp_seq (wp_region_lit ?_))))
 refine vm E rfl rfl fun a E => wv E rfl (r_bin (E.tmp rfl) (ev_c _) (b_gtr (b := decide (0 < ((k : Nat) : Int))) rfl)) fun a E => va E rfl rfl fun a E => ?_
 refine wpList_nil (then_n ?_)
 rcases bcase (decide (0 < ((k : Nat) : Int))) with ts2 | ts2
 ·
  refine cond_f E rfl ts2 ?_
  refine wp_seq (wp_region_lit ?_)
  refine vm E rfl rfl fun a E => wv E rfl (r_nil (E.tmp rfl)) fun a E => wv E rfl (r_fa (o' := k * 5) (E.tmp rfl) fo_119_0_5 rfl) fun a E => wv E rfl (r_load (E.tmp rfl) ag_24_5 (H.opn_cell 1 rfl (take_len GDequeActor.enc 5 GDequeActor.enc_len hkl) (j := 0) rfl)) fun a E => wv E rfl (r_ia (k := 0) (o' := to) (E.tmp rfl) (ev_c _) rfl el_24_5 (by omega) rfl) fun a E => ?_
  refine wv E rfl (r_load (E.tmp rfl) ag_2_5 (H.dat_cell 0 rfl rfl 0 rfl)) fun a E => wv E rfl (r_bin (E.tmp rfl) (ev_c _) (b_eql (b := n0 == 0) rfl)) fun a E => va E rfl rfl fun a E => ?_
  refine wpList_nil (then_n ?_)
  rcases bcase (n0 == 0) with ts3 | ts3
  ·
   refine cond_f E rfl ts3 ?_
   refine wp_region_lit ?_
   refine vm E rfl rfl fun a E => vm E rfl rfl fun a E => ?_
   have H := H.front 5 rfl
   have H := H.front 5 rfl
   have H := H.front 2 rfl
   have H := H.front 3 rfl
   have H := H.front 5 rfl
   have H := H.front 5 rfl
   obtain ⟨q4F, q4S, q4I, q4b⟩ := Tr.Inv.frame (pre := [Cel dd [.int .i64 (y.top), .int .i64 (y.bottom), .slice (some ⟨bb, 0, none⟩) y.buffer.length cB, .slice (some ⟨rb, 0, none⟩) y.actors.length cA, .slice AT y.taken.length cT, .slice AR y.refused.length cR] 30, Gr (.slice (some ⟨bb, 0, none⟩) y.buffer.length cB) 2 1 y.buffer.length (y.buffer.flatMap intE), Opn rb cA 119 5 y.actors.length ((y.actors.take k).flatMap GDequeActor.enc) [.slice (some ⟨tb, to, none⟩) (tl.length + 1) v1c0, .int .i64 (pc), .int .i64 (t), .int .i64 (b), .int .i64 (x)] ((y.actors.drop (k + 1)).flatMap GDequeActor.enc), Dat (.slice (some ⟨tb, to, none⟩) (tl.length + 1) v1c0) (tl.length + 1) ((n0 :: tl).flatMap intE), Gr (.slice AT y.taken.length cT) 36 2 y.taken.length (y.taken.flatMap GHanded.enc), Gr (.slice AR y.refused.length cR) 2 1 y.refused.length (y.refused.flatMap intE)]) (rest := []) H
   obtain ⟨z1, v, hzv⟩ : ∃ z1 v, (z1, v) = pushS y ⟨n0 :: tl, pc, t, b, x⟩ := ⟨_, _, rfl⟩
   refine w_call E rfl (ev_cons (E.tmp rfl) (ev_cons (E.tmp rfl) (ev_nil))) ok_211_5 (l23Push_q y dd bb cB cT cR AT AR rb cA y.actors.length k tb to v1c0 n0 tl pc t b x ((y.actors.take k).flatMap GDequeActor.enc) ((y.actors.drop (k + 1)).flatMap GDequeActor.enc) z1 v w q4S (take_len GDequeActor.enc 5 GDequeActor.enc_len hkl) hl hb0 hb1 ht1 hr1 hzv (by have h := hp0 (by have h0 := ts2; simp at h0; exact h0) (by have h0 := ts3; simpa using h0); omega)) ?_
   rintro _ w ⟨AT', cT', AR', cR', At', ct', rfl, hI⟩
   refine ⟨_, rfl, fun a E => ?_⟩
   have H := q4b _ _ hI
   clear hI q4S q4I q4b
   have H : Tr.Inv w0 F w [Cel dd [.int .i64 (z1.top), .int .i64 (z1.bottom), .slice (some ⟨bb, 0, none⟩) y.buffer.length cB, .slice (some ⟨rb, 0, none⟩) y.actors.length cA, .slice AT' z1.taken.length cT', .slice AR' z1.refused.length cR'] 30, Gr (.slice (some ⟨bb, 0, none⟩) y.buffer.length cB) 2 1 y.buffer.length (z1.buffer.flatMap intE), Opn rb cA 119 5 y.actors.length ((y.actors.take k).flatMap GDequeActor.enc) [.slice At' v.todo.length ct', .int .i64 (v.pc), .int .i64 (v.t), .int .i64 (v.b), .int .i64 (v.x)] ((y.actors.drop (k + 1)).flatMap GDequeActor.enc), Dat (.slice At' v.todo.length ct') v.todo.length (v.todo.flatMap intE), Gr (.slice AT' z1.taken.length cT') 36 2 z1.taken.length (z1.taken.flatMap GHanded.enc), Gr (.slice AR' z1.refused.length cR') 2 1 z1.refused.length (z1.refused.flatMap intE)] := H
   refine wpList_nil (inb_n ?_)
   refine (post0 E rfl ?_).2
   have H := H.mk_e
   have H := H.mk_v (x := .int .i64 (v.x)) rfl
   have H := H.mk_v (x := .int .i64 (v.b)) rfl
   have H := H.mk_v (x := .int .i64 (v.t)) rfl
   have H := H.mk_v (x := .int .i64 (v.pc)) rfl
   have H := H.front 4 rfl
   have H := H.mk_s
   have H := H.front 3 rfl
   have H := Tr.Inv.shutL (f := GDequeActor.enc) (y := v) H hkl
   have H : Tr.Inv w0 F w [Gr (.slice (some ⟨rb, 0, none⟩) y.actors.length cA) 119 5 y.actors.length ((y.actors.set k v).flatMap GDequeActor.enc), Cel dd [.int .i64 (z1.top), .int .i64 (z1.bottom), .slice (some ⟨bb, 0, none⟩) y.buffer.length cB, .slice (some ⟨rb, 0, none⟩) y.actors.length cA, .slice AT' z1.taken.length cT', .slice AR' z1.refused.length cR'] 30, Gr (.slice (some ⟨bb, 0, none⟩) y.buffer.length cB) 2 1 y.buffer.length (z1.buffer.flatMap intE), Gr (.slice AT' z1.taken.length cT') 36 2 z1.taken.length (z1.taken.flatMap GHanded.enc), Gr (.slice AR' z1.refused.length cR') 2 1 z1.refused.length (z1.refused.flatMap intE)] := H
   simp only [stepS, putS, List.headD_cons, ts2, ts3, ← hzv, B1, B2, B3, B4, B5, B6, B7, B8, B9, B10, B11, B12, B13, B14] at hz
   subst hz
   have H := H.front 4 rfl
   have H := H.front 4 rfl
   have H := H.front 2 rfl
   have H := H.front 4 rfl
   have H := H.front 4 rfl
   exact ⟨_, _, _, _, rfl, H⟩
  refine cond_t E rfl ts3 ?_
  refine wp_region_lit ?_
  refine vm E rfl rfl fun a E => vm E rfl rfl fun a E => ?_
  have H := H.front 5 rfl
  have H := H.front 5 rfl
  have H := H.front 2 rfl
  have H := H.front 3 rfl
  have H := H.front 5 rfl
  have H := H.front 5 rfl
  obtain ⟨q5F, q5S, q5I, q5b⟩ := Tr.Inv.frame (pre := [Cel dd [.int .i64 (y.top), .int .i64 (y.bottom), .slice (some ⟨bb, 0, none⟩) y.buffer.length cB, .slice (some ⟨rb, 0, none⟩) y.actors.length cA, .slice AT y.taken.length cT, .slice AR y.refused.length cR] 30, Gr (.slice (some ⟨bb, 0, none⟩) y.buffer.length cB) 2 1 y.buffer.length (y.buffer.flatMap intE), Opn rb cA 119 5 y.actors.length ((y.actors.take k).flatMap GDequeActor.enc) [.slice (some ⟨tb, to, none⟩) (tl.length + 1) v1c0, .int .i64 (pc), .int .i64 (t), .int .i64 (b), .int .i64 (x)] ((y.actors.drop (k + 1)).flatMap GDequeActor.enc), Dat (.slice (some ⟨tb, to, none⟩) (tl.length + 1) v1c0) (tl.length + 1) ((n0 :: tl).flatMap intE), Gr (.slice AT y.taken.length cT) 36 2 y.taken.length (y.taken.flatMap GHanded.enc), Gr (.slice AR y.refused.length cR) 2 1 y.refused.length (y.refused.flatMap intE)]) (rest := []) H
  obtain ⟨z1, v, hzv⟩ : ∃ z1 v, (z1, v) = takeS y ⟨n0 :: tl, pc, t, b, x⟩ := ⟨_, _, rfl⟩
  refine w_call E rfl (ev_cons (E.tmp rfl) (ev_cons (E.tmp rfl) (ev_nil))) ok_210_5 (l23Take_q y dd bb cB cT cR AT AR rb cA y.actors.length k tb to v1c0 n0 tl pc t b x ((y.actors.take k).flatMap GDequeActor.enc) ((y.actors.drop (k + 1)).flatMap GDequeActor.enc) z1 v w q5S (take_len GDequeActor.enc 5 GDequeActor.enc_len hkl) hl hb0 hb1 ht1 hr1 hzv hpc) ?_
  rintro _ w ⟨AT', cT', AR', cR', At', ct', rfl, hI⟩
  refine ⟨_, rfl, fun a E => ?_⟩
  have H := q5b _ _ hI
  clear hI q5S q5I q5b
  have H : Tr.Inv w0 F w [Cel dd [.int .i64 (z1.top), .int .i64 (z1.bottom), .slice (some ⟨bb, 0, none⟩) y.buffer.length cB, .slice (some ⟨rb, 0, none⟩) y.actors.length cA, .slice AT' z1.taken.length cT', .slice AR' z1.refused.length cR'] 30, Gr (.slice (some ⟨bb, 0, none⟩) y.buffer.length cB) 2 1 y.buffer.length (z1.buffer.flatMap intE), Opn rb cA 119 5 y.actors.length ((y.actors.take k).flatMap GDequeActor.enc) [.slice At' v.todo.length ct', .int .i64 (v.pc), .int .i64 (v.t), .int .i64 (v.b), .int .i64 (v.x)] ((y.actors.drop (k + 1)).flatMap GDequeActor.enc), Dat (.slice At' v.todo.length ct') v.todo.length (v.todo.flatMap intE), Gr (.slice AT' z1.taken.length cT') 36 2 z1.taken.length (z1.taken.flatMap GHanded.enc), Gr (.slice AR' z1.refused.length cR') 2 1 z1.refused.length (z1.refused.flatMap intE)] := H
  refine wpList_nil (inb_n ?_)
  refine (post0 E rfl ?_).2
  have H := H.mk_e
  have H := H.mk_v (x := .int .i64 (v.x)) rfl
  have H := H.mk_v (x := .int .i64 (v.b)) rfl
  have H := H.mk_v (x := .int .i64 (v.t)) rfl
  have H := H.mk_v (x := .int .i64 (v.pc)) rfl
  have H := H.front 4 rfl
  have H := H.mk_s
  have H := H.front 3 rfl
  have H := Tr.Inv.shutL (f := GDequeActor.enc) (y := v) H hkl
  have H : Tr.Inv w0 F w [Gr (.slice (some ⟨rb, 0, none⟩) y.actors.length cA) 119 5 y.actors.length ((y.actors.set k v).flatMap GDequeActor.enc), Cel dd [.int .i64 (z1.top), .int .i64 (z1.bottom), .slice (some ⟨bb, 0, none⟩) y.buffer.length cB, .slice (some ⟨rb, 0, none⟩) y.actors.length cA, .slice AT' z1.taken.length cT', .slice AR' z1.refused.length cR'] 30, Gr (.slice (some ⟨bb, 0, none⟩) y.buffer.length cB) 2 1 y.buffer.length (z1.buffer.flatMap intE), Gr (.slice AT' z1.taken.length cT') 36 2 z1.taken.length (z1.taken.flatMap GHanded.enc), Gr (.slice AR' z1.refused.length cR') 2 1 z1.refused.length (z1.refused.flatMap intE)] := H
  simp only [stepS, putS, List.headD_cons, ts2, ts3, ← hzv, B1, B2, B3, B4, B5, B6, B7, B8, B9, B10, B11, B12, B13, B14] at hz
  subst hz
  have H := H.front 4 rfl
  have H := H.front 4 rfl
  have H := H.front 2 rfl
  have H := H.front 4 rfl
  have H := H.front 4 rfl
  exact ⟨_, _, _, _, rfl, H⟩
 refine cond_t E rfl ts2 ?_
 refine wp_region_lit ?_
 refine vm E rfl rfl fun a E => vm E rfl rfl fun a E => vm E rfl rfl fun a E => ?_
 have H := H.front 5 rfl
 have H := H.front 5 rfl
 have H := H.front 2 rfl
 have H := H.front 3 rfl
 have H := H.front 5 rfl
 have H := H.front 5 rfl
 obtain ⟨q6F, q6S, q6I, q6b⟩ := Tr.Inv.frame (pre := [Cel dd [.int .i64 (y.top), .int .i64 (y.bottom), .slice (some ⟨bb, 0, none⟩) y.buffer.length cB, .slice (some ⟨rb, 0, none⟩) y.actors.length cA, .slice AT y.taken.length cT, .slice AR y.refused.length cR] 30, Gr (.slice (some ⟨bb, 0, none⟩) y.buffer.length cB) 2 1 y.buffer.length (y.buffer.flatMap intE), Opn rb cA 119 5 y.actors.length ((y.actors.take k).flatMap GDequeActor.enc) [.slice (some ⟨tb, to, none⟩) (tl.length + 1) v1c0, .int .i64 (pc), .int .i64 (t), .int .i64 (b), .int .i64 (x)] ((y.actors.drop (k + 1)).flatMap GDequeActor.enc), Dat (.slice (some ⟨tb, to, none⟩) (tl.length + 1) v1c0) (tl.length + 1) ((n0 :: tl).flatMap intE), Gr (.slice AT y.taken.length cT) 36 2 y.taken.length (y.taken.flatMap GHanded.enc), Gr (.slice AR y.refused.length cR) 2 1 y.refused.length (y.refused.flatMap intE)]) (rest := []) H
 obtain ⟨z1, v, hzv⟩ : ∃ z1 v, (z1, v) = stealS y ⟨n0 :: tl, pc, t, b, x⟩ ((k : Nat) : Int) := ⟨_, _, rfl⟩
 refine w_call E rfl (ev_cons (E.tmp rfl) (ev_cons (E.tmp rfl) (ev_cons (E.tmp rfl) (ev_nil)))) ok_209_5 (l23Steal_q y dd bb cB cT cR AT AR rb cA y.actors.length k tb to v1c0 n0 tl pc t b x ((y.actors.take k).flatMap GDequeActor.enc) ((y.actors.drop (k + 1)).flatMap GDequeActor.enc) z1 v ((k : Nat) : Int) w q6S (take_len GDequeActor.enc 5 GDequeActor.enc_len hkl) hl hb0 hb1 ht1 hr1 hzv hpc) ?_
 rintro _ w ⟨AT', cT', AR', cR', At', ct', rfl, hI⟩
 refine ⟨_, rfl, fun a E => ?_⟩
 have H := q6b _ _ hI
 clear hI q6S q6I q6b
 have H : Tr.Inv w0 F w [Cel dd [.int .i64 (z1.top), .int .i64 (z1.bottom), .slice (some ⟨bb, 0, none⟩) y.buffer.length cB, .slice (some ⟨rb, 0, none⟩) y.actors.length cA, .slice AT' z1.taken.length cT', .slice AR' z1.refused.length cR'] 30, Gr (.slice (some ⟨bb, 0, none⟩) y.buffer.length cB) 2 1 y.buffer.length (z1.buffer.flatMap intE), Opn rb cA 119 5 y.actors.length ((y.actors.take k).flatMap GDequeActor.enc) [.slice At' v.todo.length ct', .int .i64 (v.pc), .int .i64 (v.t), .int .i64 (v.b), .int .i64 (v.x)] ((y.actors.drop (k + 1)).flatMap GDequeActor.enc), Dat (.slice At' v.todo.length ct') v.todo.length (v.todo.flatMap intE), Gr (.slice AT' z1.taken.length cT') 36 2 z1.taken.length (z1.taken.flatMap GHanded.enc), Gr (.slice AR' z1.refused.length cR') 2 1 z1.refused.length (z1.refused.flatMap intE)] := H
 refine wpList_nil (inb_n ?_)
 refine (post0 E rfl ?_).2
 have H := H.mk_e
 have H := H.mk_v (x := .int .i64 (v.x)) rfl
 have H := H.mk_v (x := .int .i64 (v.b)) rfl
 have H := H.mk_v (x := .int .i64 (v.t)) rfl
 have H := H.mk_v (x := .int .i64 (v.pc)) rfl
 have H := H.front 4 rfl
 have H := H.mk_s
 have H := H.front 3 rfl
 have H := Tr.Inv.shutL (f := GDequeActor.enc) (y := v) H hkl
 have H : Tr.Inv w0 F w [Gr (.slice (some ⟨rb, 0, none⟩) y.actors.length cA) 119 5 y.actors.length ((y.actors.set k v).flatMap GDequeActor.enc), Cel dd [.int .i64 (z1.top), .int .i64 (z1.bottom), .slice (some ⟨bb, 0, none⟩) y.buffer.length cB, .slice (some ⟨rb, 0, none⟩) y.actors.length cA, .slice AT' z1.taken.length cT', .slice AR' z1.refused.length cR'] 30, Gr (.slice (some ⟨bb, 0, none⟩) y.buffer.length cB) 2 1 y.buffer.length (z1.buffer.flatMap intE), Gr (.slice AT' z1.taken.length cT') 36 2 z1.taken.length (z1.taken.flatMap GHanded.enc), Gr (.slice AR' z1.refused.length cR') 2 1 z1.refused.length (z1.refused.flatMap intE)] := H
 simp only [stepS, putS, List.headD_cons, ts2, ← hzv, B1, B2, B3, B4, B5, B6, B7, B8, B9, B10, B11, B12, B13, B14] at hz
 subst hz
 have H := H.front 4 rfl
 have H := H.front 4 rfl
 have H := H.front 2 rfl
 have H := H.front 4 rfl
 have H := H.front 4 rfl
 exact ⟨_, _, _, _, rfl, H⟩
end Go.Proofs.Ythelpioccjjgfaa
