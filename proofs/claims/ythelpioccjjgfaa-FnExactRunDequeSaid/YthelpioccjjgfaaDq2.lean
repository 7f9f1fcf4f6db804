/- Deques. Printed by gx_dq.py. -/
import Derived.Test.YthelpioccjjgfaaProg
import Derived.Test.YthelpioccjjgfaaSc
import Derived.Test.YthelpioccjjgfaaDDq
import Derived.Test.YthelpioccjjgfaaArith
import Derived.IntWalk
import Derived.Test.YthelpioccjjgfaaDq1
set_option linter.unusedSimpArgs false
set_option linter.unusedVariables false
namespace Go.Proofs.Ythelpioccjjgfaa
open Go Go.RowKit Go.Proofs Go.Tr
theorem fo_30_2_1 : fldOff Try.prog 30 2 = some 2 := by kernel_rfl
theorem ag_24_1 : aggB Try.prog 24 = some false := by kernel_rfl
theorem el_24_1 : elemOf? Try.prog 24 = some (2, 1) := by kernel_rfl
theorem eo_24_1 : ElemOk Try.prog 24 2 1 := ElemOk.of Try.underlying24 (by kernel_rfl) (by omega)
theorem fo_30_4_1 : fldOff Try.prog 30 4 = some 4 := by kernel_rfl
theorem ag_28_1 : aggB Try.prog 28 = some false := by kernel_rfl
theorem eo_28_1 : ElemOk Try.prog 28 36 2 := ElemOk.of Try.underlying28 (by kernel_rfl) (by omega)
theorem sz_28_1 : (Try.prog.info? 28).map (·.size) = some 1 := by kernel_rfl
theorem fo_119_0_1 : fldOff Try.prog 119 0 = some 0 := by kernel_rfl
theorem ok_208_1 : callOk Try.prog 208 = true := by kernel_rfl
theorem sz_119_1 : (Try.prog.info? 119).map (·.size) = some 5 := by kernel_rfl
set_option maxHeartbeats 1000000 in
theorem l23At_q (b n c : Nat) (A : Option Addr) (i : Int) (w0 : World) (hc : RoC w0 [] b 2 (.slice A n c)) (hn : 0 < n) : Calls Try.prog 254 #[.pointer (some ⟨b, 0, none⟩), .int .i64 (i)] w0 fun e w' => e = .returned (.int .i64 (atI i n)) ∧ Ext w0 w' := by
 refine enter_i (args := [.pointer (some ⟨b, 0, none⟩), .int .i64 (i)]) Try.func254 rfl Try.ntmps254 rfl sep0 (fun a w E H => ?_)
 have E : Env 18 a [(0, .pointer (some ⟨b, 0, none⟩)), (1, .int .i64 (i))] := E
 refine wp_seq (wp_region_lit ?_)
 refine wv E rfl (r_assign (ev_c _)) fun a E => ?_
 refine wpList_nil (then_n (wp_seq (wp_region_lit ?_)))
 refine vm E rfl rfl fun a E => wv E rfl (r_nil (E.tmp rfl)) fun a E => wv E rfl (r_fa (o' := 2) (E.tmp rfl) fo_30_2_1 rfl) fun a E => wv E rfl (r_load (E.tmp rfl) ag_24_1 (hc.get H)) fun a E => ?_
 refine wv E rfl (r_len (E.tmp rfl) el_24_1) (fun a E => ?_)
 refine va E rfl rfl fun a E => ?_
 refine wpList_nil (then_n (wp_seq (wp_region_lit ?_)))
 refine vm E rfl rfl fun a E => vm E rfl rfl fun a E => wv E rfl (r_bin (E.tmp rfl) (E.tmp rfl) (b_rem (by omega) rfl)) fun a E => vm E rfl rfl fun a E => wv E rfl (r_bin (E.tmp rfl) (E.tmp rfl) (b_add rfl)) fun a E => ?_
 refine vm E rfl rfl fun a E => wv E rfl (r_bin (E.tmp rfl) (E.tmp rfl) (b_rem (by omega) rfl)) fun a E => va E rfl rfl fun a E => ?_
 refine wpList_nil (then_n (wp_ret ?_))
 refine post1 E rfl (out_t E rfl) ?_
 exact ⟨rfl, H.to_ext⟩

set_option maxHeartbeats 1000000 in
theorem l00Own_q (xs : List Int) (c : Nat) (A : Option Addr) (w0 : World) (hx : Ro1 w0 [] (.sl xs.length (xs.flatMap intE)) (.slice A xs.length c)) (hn : xs.length ≤ 1048576) : Calls Try.prog 208 #[.slice A xs.length c] w0 fun e w' => ∃ A' c', e = .returned (.slice A' xs.length c') ∧ Tr.Inv w0 [] w' [Gr (.slice A' xs.length c') 2 1 xs.length (xs.flatMap intE)] := by
 refine enter_i (args := [.slice A xs.length c]) Try.func208 rfl Try.ntmps208 rfl sep0 (fun a w E H => ?_)
 have E : Env 6 a [(0, .slice A xs.length c)] := E
 refine wp_seq (wp_region_lit ?_)
 refine wv E rfl (r_assign (ev_c _)) fun a E => ?_
 refine wpList_nil (then_n (wp_seq (wp_region_lit ?_)))
 refine wv E rfl (r_bslice (pv (pvn)) (by kernel_rfl : (Instr.buildSlice 24 0 (List.toArray [])).run Try.prog w = .ok (.slice (some ⟨w.heap.size, 0, none⟩) 0 0) (w.alloc (.cells (List.toArray []) 2)))) (fun a E => ?_)
 have H := H.alloc [] 2
 obtain ⟨g1, hgg1⟩ : ∃ g, g = w.heap.size := ⟨_, rfl⟩
 rw [← hgg1] at E H
 clear hgg1
 generalize w.alloc _ = w at H ⊢
 refine vm E rfl rfl fun a E => ?_
 have H := H.gr_new 1
 have hllx2 : (xs.flatMap intE).length = xs.length * 1 := by rw [flat_len intE 1 (fun _ => rfl)]
 obtain ⟨bsx2, hTx2⟩ := Ro1.now hx H
 obtain ⟨usx2, btx2, hsx2, htx2, -⟩ := hTx2.src hllx2
 have H := (H.flat_of htx2 (flatMap_flat intE_flat _)).front 1 rfl
 refine w_app E rfl (E.tmp rfl) (E.tmp rfl) eo_24_1 H hsx2 (by omega) (fun a w Ax2 cx2 E H => ?_)
 simp only [Nat.zero_add, List.nil_append] at E H
 refine va E rfl rfl fun a E => ?_
 refine wpList_nil (then_n (wp_ret ?_))
 refine post1 E rfl (out_t E rfl) ?_
 exact ⟨_, _, rfl, H⟩

set_option maxHeartbeats 1000000 in
theorem l23Hand_q (dd n cT : Nat) (AT : Option Addr) (v0 v1 v2 v3 v5 : Value) (ds : List D) (ac va : Int) (w0 : World) {F : List Nat} (hS : Sep w0 [Cel dd [v0, v1, v2, v3, .slice AT n cT, v5] 30, Gr (.slice AT n cT) 36 2 n (ds)] F) (hn : n ≤ 1048576) : Calls Try.prog 255 #[.pointer (some ⟨dd, 0, none⟩), .int .i64 (ac), .int .i64 (va)] w0 fun e w' => ∃ A' c', e = .returned (.tuple #[]) ∧ Tr.Inv w0 F w' [Gr (.slice A' (n + 1) c') 36 2 (n + 1) (ds ++ [D.v (.int .i64 ac), D.v (.int .i64 va)]), Cel dd [v0, v1, v2, v3, .slice A' (n + 1) c', v5] 30] := by
 refine enter_i (args := [.pointer (some ⟨dd, 0, none⟩), .int .i64 (ac), .int .i64 (va)]) Try.func255 rfl Try.ntmps255 rfl hS (fun a w E H => ?_)
 have E : Env 18 a [(0, .pointer (some ⟨dd, 0, none⟩)), (1, .int .i64 (ac)), (2, .int .i64 (va))] := E
 refine wp_region_lit ?_
 refine vm E rfl rfl fun a E => vm E rfl rfl fun a E => wv E rfl (r_nil (E.tmp rfl)) fun a E => wv E rfl (r_fa (o' := 4) (E.tmp rfl) fo_30_4_1 rfl) fun a E => wv E rfl (r_load (E.tmp rfl) ag_28_1 (H.cell 0 rfl rfl)) fun a E => ?_
 refine vm E rfl rfl fun a E => vm E rfl rfl fun a E => wv E rfl (r_build (pv (pvc (E.tmp rfl) (pvc (E.tmp rfl) (pvn)))) (by kernel_rfl : (Instr.build 36 (List.toArray [(0, .int .i64 (ac)), (1, .int .i64 (va))])).run Try.prog _ = .ok (.agg #[.int .i64 (ac), .int .i64 (va)]) _)) fun a E => ?_
 refine wv E rfl (r_bslice (pv (pvc (E.tmp rfl) (pvn))) (by kernel_rfl : (Instr.buildSlice 28 1 (List.toArray [(0, .agg #[.int .i64 (ac), .int .i64 (va)])])).run Try.prog w = .ok (.slice (some ⟨w.heap.size, 0, none⟩) 1 1) (w.alloc (.cells (List.toArray [.int .i64 (ac), .int .i64 (va)]) 36)))) (fun a E => ?_)
 have H := H.alloc [.int .i64 (ac), .int .i64 (va)] 36
 obtain ⟨g1, hgg1⟩ : ∃ g, g = w.heap.size := ⟨_, rfl⟩
 rw [← hgg1] at E H
 clear hgg1
 generalize w.alloc _ = w at H ⊢
 have H := H.front 2 rfl
 have H := (H.flat (us := [.int .i64 (ac), .int .i64 (va)]) rfl).front 1 rfl
 refine w_app E rfl (E.tmp rfl) (E.tmp rfl) eo_28_1 H (H.src (i := 2) rfl rfl rfl) (by omega) (fun a w Aa2 ca2 E H => ?_)
 refine wv E rfl (r_nil (E.tmp rfl)) fun a E => wv E rfl (r_fa (o' := 4) (E.tmp rfl) fo_30_4_1 rfl) fun a E => ?_
 refine w_store (cs' := [_, _, _, _, .slice Aa2 (n + 1) ca2, _]) (rs' := [_, _, Cel _ [_, _, _, _, .slice Aa2 (n + 1) ca2, _] _]) E (E.tmp rfl) (E.tmp rfl) rfl rfl sz_28_1 H (i := 2) rfl rfl rfl rfl (fun a w E H => ?_)
 refine wpList_nil ?_
 refine (post0 E rfl ?_).2
 have H := H.front 2 rfl
 have H := H.front 1 rfl
 have H := H.drop 2 rfl
 exact ⟨_, _, rfl, H⟩

set_option maxHeartbeats 1000000 in
theorem l23End_q (rb cA m k tb to ct : Nat) (n0 : Int) (tl : List Int) (pc t b x : Int) (d1 d2 : List D) (w0 : World) {F : List Nat} (hS : Sep w0 [Opn rb cA 119 5 m (d1) [.slice (some ⟨tb, to, none⟩) (tl.length + 1) ct, .int .i64 (pc), .int .i64 (t), .int .i64 (b), .int .i64 (x)] (d2), Dat (.slice (some ⟨tb, to, none⟩) (tl.length + 1) ct) (tl.length + 1) ((n0 :: tl).flatMap intE)] F) (hd1 : d1.length = k * 5) (hl : tl.length ≤ 1000) : Calls Try.prog 253 #[.pointer (some ⟨rb, k * 5, none⟩)] w0 fun e w' => ∃ A' c', e = .returned (.tuple #[]) ∧ Tr.Inv w0 F w' [Opn rb cA 119 5 m (d1) [.slice A' tl.length c', .int .i64 (0), .int .i64 (0), .int .i64 (0), .int .i64 (0)] (d2), Dat (.slice A' tl.length c') tl.length (tl.flatMap intE)] := by
 refine enter_i (args := [.pointer (some ⟨rb, k * 5, none⟩)]) Try.func253 rfl Try.ntmps253 rfl hS (fun a w E H => ?_)
 have E : Env 11 a [(0, .pointer (some ⟨rb, k * 5, none⟩))] := E
 refine wp_region_lit ?_
 refine vm E rfl rfl fun a E => vm E rfl rfl fun a E => wv E rfl (r_nil (E.tmp rfl)) fun a E => wv E rfl (r_fa (o' := k * 5) (E.tmp rfl) fo_119_0_1 rfl) fun a E => wv E rfl (r_load (E.tmp rfl) ag_24_1 (H.opn_cell 0 rfl hd1 (j := 0) rfl)) fun a E => ?_
 obtain ⟨s1A, s1r, s1h⟩ := sl1 (P := Try.prog) w (E.tmp rfl : a.eval (.tmp 6) = _) (ev_c (.int .i64 1)) el_24_1
 refine wv E rfl (s1r _ _ _ _ _) fun a E => ?_
 obtain ⟨o2bs, o2T⟩ := ((H.front 1 rfl).dat_rest (s := 1) (d1 := intE n0) (d2 := tl.flatMap intE) rfl (by rw [flat_len intE 1 (fun _ => rfl)]) s1h).dat_t1 0 rfl
 refine w_call E rfl (ev_cons (E.tmp rfl) (ev_nil)) ok_208_1 (l00Own_q tl _ _ w (Ro1.of o2T) (by omega)) ?_
 rintro _ w ⟨o2A, o2c, rfl, hI⟩
 refine ⟨_, rfl, fun a E => ?_⟩
 have H := H.new hI
 clear hI
 refine wv E rfl (r_build (pv (pvc (E.tmp rfl) (pvn))) (by kernel_rfl : (Instr.build 119 (List.toArray [(0, .slice o2A tl.length o2c)])).run Try.prog _ = .ok (.agg #[.slice o2A tl.length o2c, .int .i64 (0), .int .i64 (0), .int .i64 (0), .int .i64 (0)]) _)) fun a E => wv E rfl (r_nil (E.tmp rfl)) fun a E => ?_
 refine w_ostore (vs := [.slice o2A tl.length o2c, .int .i64 (0), .int .i64 (0), .int .i64 (0), .int .i64 (0)]) (us' := [.slice o2A tl.length o2c, .int .i64 (0), .int .i64 (0), .int .i64 (0), .int .i64 (0)]) (rs' := [_, Opn _ _ _ _ _ _ [.slice o2A tl.length o2c, .int .i64 (0), .int .i64 (0), .int .i64 (0), .int .i64 (0)] _, _]) (j := 0) E (E.tmp rfl) (E.tmp rfl) rfl rfl sz_119_1 H (i := 1) rfl hd1 rfl rfl rfl rfl (fun a w E H => ?_)
 refine wpList_nil ?_
 refine (post0 E rfl ?_).2
 have H := H.gr_dats (by rw [flat_len intE 1 (fun _ => rfl)])
 have H := H.front 1 rfl
 have H := H.drop 2 rfl
 exact ⟨_, _, rfl, H⟩
end Go.Proofs.Ythelpioccjjgfaa
