/- Deques. Printed by gx_dq.py. -/
import Derived.Test.YthelpioccjjgfaaProg
import Derived.Test.YthelpioccjjgfaaSc
import Derived.Test.YthelpioccjjgfaaDDq
import Derived.Test.YthelpioccjjgfaaArith
import Derived.IntWalk
import Derived.Test.YthelpioccjjgfaaDq8
set_option linter.unusedSimpArgs false
set_option linter.unusedVariables false
namespace Go.Tr
theorem Ro1.none_ {w0 : World} {F0 : List Nat} {n n' c : Nat} {ds : List D} (h : Ro1 w0 F0 (.sl n ds) (.slice none n' c)) : n' = 0 ∧ ds = [] := by
  obtain ⟨bs, h1, _⟩ := h
  unfold T1 at h1
  obtain ⟨A', c', he, _, _, h1⟩ := h1
  injection he with hA hn _
  rcases h1 with ⟨h0, h2, _⟩ | ⟨_, b, off, us, bs', h2, _⟩
  · exact ⟨hn.trans h0, h2⟩
  · rw [← hA] at h2; cases h2
end Go.Tr
namespace Go.Proofs.Ythelpioccjjgfaa
open Go Go.RowKit Go.Proofs Go.Tr
theorem eo_24_16 : ElemOk Try.prog 24 2 1 := ElemOk.of Try.underlying24 (by kernel_rfl) (by omega)
theorem eo_27_16 : ElemOk Try.prog 27 119 5 := ElemOk.of Try.underlying27 (by kernel_rfl) (by omega)
theorem eo_28_16 : ElemOk Try.prog 28 36 2 := ElemOk.of Try.underlying28 (by kernel_rfl) (by omega)
theorem zo_30_16 : zeroOf Try.prog 30 = some [.int .i64 (0), .int .i64 (0), .slice none 0 0, .slice none 0 0, .slice none 0 0, .slice none 0 0] := by kernel_rfl
theorem fo_30_2_16 : fldOff Try.prog 30 2 = some 2 := by kernel_rfl
theorem ag_24_16 : aggB Try.prog 24 = some false := by kernel_rfl
theorem ok_64_16 : callOk Try.prog 64 = true := by kernel_rfl
theorem fo_30_3_16 : fldOff Try.prog 30 3 = some 3 := by kernel_rfl
theorem ag_27_16 : aggB Try.prog 27 = some false := by kernel_rfl
theorem ok_158_16 : callOk Try.prog 158 = true := by kernel_rfl
theorem fo_30_4_16 : fldOff Try.prog 30 4 = some 4 := by kernel_rfl
theorem ag_28_16 : aggB Try.prog 28 = some false := by kernel_rfl
theorem ok_159_16 : callOk Try.prog 159 = true := by kernel_rfl
theorem fo_30_5_16 : fldOff Try.prog 30 5 = some 5 := by kernel_rfl
theorem sz_24_16 : (Try.prog.info? 24).map (·.size) = some 1 := by kernel_rfl
theorem sz_27_16 : (Try.prog.info? 27).map (·.size) = some 1 := by kernel_rfl
theorem sz_28_16 : (Try.prog.info? 28).map (·.size) = some 1 := by kernel_rfl
theorem el_27_16 : elemOf? Try.prog 27 = some (119, 5) := by kernel_rfl
theorem fo_119_0_16 : fldOff Try.prog 119 0 = some 0 := by kernel_rfl
theorem ag_30_16 : aggB Try.prog 30 = some true := by kernel_rfl
theorem sz_30_16 : (Try.prog.info? 30).map (·.size) = some 6 := by kernel_rfl
set_option maxHeartbeats 1000000 in
theorem clone0_i (c : Nat) (w0 : World)  : Calls Try.prog 64 #[.slice none 0 c] w0 fun e w' => ∃ A' c', e = .returned (.slice A' 0 c') ∧ Tr.Inv w0 [] w' [Gr (.slice A' 0 c') 2 1 0 []] := by
 refine enter_i (args := [.slice none 0 c]) Try.func64 rfl Try.ntmps64 rfl sep0 (fun a w E H => ?_)
 have E : Env 8 a [(0, .slice none 0 c)] := E
 refine wp_seq (wp_region_lit ?_)
 refine wv E rfl (r_assign (ev_c _)) fun a E => ?_
 refine wpList_nil (then_n (wp_seq (wp_seq (wp_region_lit ?_))))
 refine vm E rfl rfl fun a E => wv E rfl (r_nnil (E.tmp rfl) (ev_c _) Try.underlying24) fun a E => ?_
 refine wpList_nil (then_n ?_)
 refine cond_t E rfl rfl ?_
 refine wp_seq (wp_region_lit ?_)
 refine wv E rfl (r_assign (ev_c _)) fun a E => ?_
 refine wpList_nil (then_n (wp_ret (then_r ?_)))
 refine post1 E rfl (out_t E rfl) ?_
 have H := H.gr_nil 2 1
 exact ⟨_, _, rfl, H⟩

set_option maxHeartbeats 1000000 in
theorem clone1_i (n c : Nat) (ad : Addr) (ds : List D) (w0 : World) (hx : Ro1 w0 [] (.sl n ds) (.slice (some ad) n c)) (hl : ds.length = n * 1) (hf : ∀ d ∈ ds, ∃ x, d = .v x) (hn : n ≤ 1048576) : Calls Try.prog 64 #[.slice (some ad) n c] w0 fun e w' => ∃ A' c', e = .returned (.slice A' n c') ∧ Tr.Inv w0 [] w' [Gr (.slice A' n c') 2 1 n ds] := by
 refine enter_i (args := [.slice (some ad) n c]) Try.func64 rfl Try.ntmps64 rfl sep0 (fun a w E H => ?_)
 have E : Env 8 a [(0, .slice (some ad) n c)] := E
 refine wp_seq (wp_region_lit ?_)
 refine wv E rfl (r_assign (ev_c _)) fun a E => ?_
 refine wpList_nil (then_n (wp_seq (wp_seq (wp_region_lit ?_))))
 refine vm E rfl rfl fun a E => wv E rfl (r_snil (E.tmp rfl) (ev_c _) Try.underlying24) fun a E => ?_
 refine wpList_nil (then_n ?_)
 refine cond_f E rfl rfl ?_
 refine wp_skip (then_n (wp_seq (wp_region_lit ?_)))
 refine wv E rfl (r_bslice (pv (pvn)) (by kernel_rfl : (Instr.buildSlice 24 0 (List.toArray [])).run Try.prog w = .ok (.slice (some ⟨w.heap.size, 0, none⟩) 0 0) (w.alloc (.cells (List.toArray []) 2)))) (fun a E => ?_)
 have H := H.alloc [] 2
 obtain ⟨g1, hgg1⟩ : ∃ g, g = w.heap.size := ⟨_, rfl⟩
 rw [← hgg1] at E H
 clear hgg1
 generalize w.alloc _ = w at H ⊢
 refine vm E rfl rfl fun a E => ?_
 have H := H.gr_new 1
 obtain ⟨bsx2, hTx2⟩ := Ro1.now hx H
 obtain ⟨usx2, btx2, hsx2, htx2, -⟩ := hTx2.src hl
 have H := (H.flat_of htx2 hf).front 1 rfl
 refine w_app E rfl (E.tmp rfl) (E.tmp rfl) eo_24_16 H hsx2 (by omega) (fun a w Ax2 cx2 E H => ?_)
 simp only [Nat.zero_add, List.nil_append] at E H
 refine va E rfl rfl fun a E => ?_
 refine wpList_nil (then_n (wp_ret ?_))
 refine post1 E rfl (out_t E rfl) ?_
 exact ⟨_, _, rfl, H⟩

theorem clone_i (n c : Nat) (A : Option Addr) (ds : List D) (w0 : World) (hx : Ro1 w0 [] (.sl n ds) (.slice A n c)) (hl : ds.length = n * 1) (hf : ∀ d ∈ ds, ∃ x, d = .v x) (hn : n ≤ 1048576) : Calls Try.prog 64 #[.slice A n c] w0 fun e w' => ∃ A' c', e = .returned (.slice A' n c') ∧ Tr.Inv w0 [] w' [Gr (.slice A' n c') 2 1 n ds] := by
 cases A with
 | some ad => exact clone1_i n c ad ds w0 hx hl hf hn
 | none =>
  obtain ⟨rfl, rfl⟩ := Ro1.none_ hx
  exact clone0_i c w0

set_option maxHeartbeats 1000000 in
theorem clone0_a (c : Nat) (w0 : World)  : Calls Try.prog 158 #[.slice none 0 c] w0 fun e w' => ∃ A' c', e = .returned (.slice A' 0 c') ∧ Tr.Inv w0 [] w' [Gr (.slice A' 0 c') 119 5 0 []] := by
 refine enter_i (args := [.slice none 0 c]) Try.func158 rfl Try.ntmps158 rfl sep0 (fun a w E H => ?_)
 have E : Env 8 a [(0, .slice none 0 c)] := E
 refine wp_seq (wp_region_lit ?_)
 refine wv E rfl (r_assign (ev_c _)) fun a E => ?_
 refine wpList_nil (then_n (wp_seq (wp_seq (wp_region_lit ?_))))
 refine vm E rfl rfl fun a E => wv E rfl (r_nnil (E.tmp rfl) (ev_c _) Try.underlying27) fun a E => ?_
 refine wpList_nil (then_n ?_)
 refine cond_t E rfl rfl ?_
 refine wp_seq (wp_region_lit ?_)
 refine wv E rfl (r_assign (ev_c _)) fun a E => ?_
 refine wpList_nil (then_n (wp_ret (then_r ?_)))
 refine post1 E rfl (out_t E rfl) ?_
 have H := H.gr_nil 119 5
 exact ⟨_, _, rfl, H⟩

set_option maxHeartbeats 1000000 in
theorem clone1_a (n c : Nat) (ad : Addr) (ds : List D) (w0 : World) (hx : Ro1 w0 [] (.sl n ds) (.slice (some ad) n c)) (hl : ds.length = n * 5) (hf : ∀ d ∈ ds, ∃ x, d = .v x) (hn : n ≤ 1048576) : Calls Try.prog 158 #[.slice (some ad) n c] w0 fun e w' => ∃ A' c', e = .returned (.slice A' n c') ∧ Tr.Inv w0 [] w' [Gr (.slice A' n c') 119 5 n ds] := by
 refine enter_i (args := [.slice (some ad) n c]) Try.func158 rfl Try.ntmps158 rfl sep0 (fun a w E H => ?_)
 have E : Env 8 a [(0, .slice (some ad) n c)] := E
 refine wp_seq (wp_region_lit ?_)
 refine wv E rfl (r_assign (ev_c _)) fun a E => ?_
 refine wpList_nil (then_n (wp_seq (wp_seq (wp_region_lit ?_))))
 refine vm E rfl rfl fun a E => wv E rfl (r_snil (E.tmp rfl) (ev_c _) Try.underlying27) fun a E => ?_
 refine wpList_nil (then_n ?_)
 refine cond_f E rfl rfl ?_
 refine wp_skip (then_n (wp_seq (wp_region_lit ?_)))
 refine wv E rfl (r_bslice (pv (pvn)) (by kernel_rfl : (Instr.buildSlice 27 0 (List.toArray [])).run Try.prog w = .ok (.slice (some ⟨w.heap.size, 0, none⟩) 0 0) (w.alloc (.cells (List.toArray []) 119)))) (fun a E => ?_)
 have H := H.alloc [] 119
 obtain ⟨g1, hgg1⟩ : ∃ g, g = w.heap.size := ⟨_, rfl⟩
 rw [← hgg1] at E H
 clear hgg1
 generalize w.alloc _ = w at H ⊢
 refine vm E rfl rfl fun a E => ?_
 have H := H.gr_new 5
 obtain ⟨bsx2, hTx2⟩ := Ro1.now hx H
 obtain ⟨usx2, btx2, hsx2, htx2, -⟩ := hTx2.src hl
 have H := (H.flat_of htx2 hf).front 1 rfl
 refine w_app E rfl (E.tmp rfl) (E.tmp rfl) eo_27_16 H hsx2 (by omega) (fun a w Ax2 cx2 E H => ?_)
 simp only [Nat.zero_add, List.nil_append] at E H
 refine va E rfl rfl fun a E => ?_
 refine wpList_nil (then_n (wp_ret ?_))
 refine post1 E rfl (out_t E rfl) ?_
 exact ⟨_, _, rfl, H⟩

theorem clone_a (n c : Nat) (A : Option Addr) (ds : List D) (w0 : World) (hx : Ro1 w0 [] (.sl n ds) (.slice A n c)) (hl : ds.length = n * 5) (hf : ∀ d ∈ ds, ∃ x, d = .v x) (hn : n ≤ 1048576) : Calls Try.prog 158 #[.slice A n c] w0 fun e w' => ∃ A' c', e = .returned (.slice A' n c') ∧ Tr.Inv w0 [] w' [Gr (.slice A' n c') 119 5 n ds] := by
 cases A with
 | some ad => exact clone1_a n c ad ds w0 hx hl hf hn
 | none =>
  obtain ⟨rfl, rfl⟩ := Ro1.none_ hx
  exact clone0_a c w0

set_option maxHeartbeats 1000000 in
theorem clone0_h (c : Nat) (w0 : World)  : Calls Try.prog 159 #[.slice none 0 c] w0 fun e w' => ∃ A' c', e = .returned (.slice A' 0 c') ∧ Tr.Inv w0 [] w' [Gr (.slice A' 0 c') 36 2 0 []] := by
 refine enter_i (args := [.slice none 0 c]) Try.func159 rfl Try.ntmps159 rfl sep0 (fun a w E H => ?_)
 have E : Env 8 a [(0, .slice none 0 c)] := E
 refine wp_seq (wp_region_lit ?_)
 refine wv E rfl (r_assign (ev_c _)) fun a E => ?_
 refine wpList_nil (then_n (wp_seq (wp_seq (wp_region_lit ?_))))
 refine vm E rfl rfl fun a E => wv E rfl (r_nnil (E.tmp rfl) (ev_c _) Try.underlying28) fun a E => ?_
 refine wpList_nil (then_n ?_)
 refine cond_t E rfl rfl ?_
 refine wp_seq (wp_region_lit ?_)
 refine wv E rfl (r_assign (ev_c _)) fun a E => ?_
 refine wpList_nil (then_n (wp_ret (then_r ?_)))
 refine post1 E rfl (out_t E rfl) ?_
 have H := H.gr_nil 36 2
 exact ⟨_, _, rfl, H⟩

set_option maxHeartbeats 1000000 in
theorem clone1_h (n c : Nat) (ad : Addr) (ds : List D) (w0 : World) (hx : Ro1 w0 [] (.sl n ds) (.slice (some ad) n c)) (hl : ds.length = n * 2) (hf : ∀ d ∈ ds, ∃ x, d = .v x) (hn : n ≤ 1048576) : Calls Try.prog 159 #[.slice (some ad) n c] w0 fun e w' => ∃ A' c', e = .returned (.slice A' n c') ∧ Tr.Inv w0 [] w' [Gr (.slice A' n c') 36 2 n ds] := by
 refine enter_i (args := [.slice (some ad) n c]) Try.func159 rfl Try.ntmps159 rfl sep0 (fun a w E H => ?_)
 have E : Env 8 a [(0, .slice (some ad) n c)] := E
 refine wp_seq (wp_region_lit ?_)
 refine wv E rfl (r_assign (ev_c _)) fun a E => ?_
 refine wpList_nil (then_n (wp_seq (wp_seq (wp_region_lit ?_))))
 refine vm E rfl rfl fun a E => wv E rfl (r_snil (E.tmp rfl) (ev_c _) Try.underlying28) fun a E => ?_
 refine wpList_nil (then_n ?_)
 refine cond_f E rfl rfl ?_
 refine wp_skip (then_n (wp_seq (wp_region_lit ?_)))
 refine wv E rfl (r_bslice (pv (pvn)) (by kernel_rfl : (Instr.buildSlice 28 0 (List.toArray [])).run Try.prog w = .ok (.slice (some ⟨w.heap.size, 0, none⟩) 0 0) (w.alloc (.cells (List.toArray []) 36)))) (fun a E => ?_)
 have H := H.alloc [] 36
 obtain ⟨g1, hgg1⟩ : ∃ g, g = w.heap.size := ⟨_, rfl⟩
 rw [← hgg1] at E H
 clear hgg1
 generalize w.alloc _ = w at H ⊢
 refine vm E rfl rfl fun a E => ?_
 have H := H.gr_new 2
 obtain ⟨bsx2, hTx2⟩ := Ro1.now hx H
 obtain ⟨usx2, btx2, hsx2, htx2, -⟩ := hTx2.src hl
 have H := (H.flat_of htx2 hf).front 1 rfl
 refine w_app E rfl (E.tmp rfl) (E.tmp rfl) eo_28_16 H hsx2 (by omega) (fun a w Ax2 cx2 E H => ?_)
 simp only [Nat.zero_add, List.nil_append] at E H
 refine va E rfl rfl fun a E => ?_
 refine wpList_nil (then_n (wp_ret ?_))
 refine post1 E rfl (out_t E rfl) ?_
 exact ⟨_, _, rfl, H⟩

theorem clone_h (n c : Nat) (A : Option Addr) (ds : List D) (w0 : World) (hx : Ro1 w0 [] (.sl n ds) (.slice A n c)) (hl : ds.length = n * 2) (hf : ∀ d ∈ ds, ∃ x, d = .v x) (hn : n ≤ 1048576) : Calls Try.prog 159 #[.slice A n c] w0 fun e w' => ∃ A' c', e = .returned (.slice A' n c') ∧ Tr.Inv w0 [] w' [Gr (.slice A' n c') 36 2 n ds] := by
 cases A with
 | some ad => exact clone1_h n c ad ds w0 hx hl hf hn
 | none =>
  obtain ⟨rfl, rfl⟩ := Ro1.none_ hx
  exact clone0_h c w0

set_option maxHeartbeats 1000000 in
theorem copyDeque_q (x : GDeque) (abufferA : Option Addr) (abufferc : Nat) (aactorsA : Option Addr) (aactorsc : Nat) (atakenA : Option Addr) (atakenc : Nat) (arefusedA : Option Addr) (arefusedc : Nat) (w0 : World) (abufferH : Ro1 w0 [] (.sl x.buffer.length (x.buffer.flatMap intE)) (.slice abufferA x.buffer.length abufferc)) (aactorsH : Ro1 w0 [] (.sl x.actors.length (x.actors.flatMap GDequeActor.enc)) (.slice aactorsA x.actors.length aactorsc)) (atakenH : Ro1 w0 [] (.sl x.taken.length (x.taken.flatMap GHanded.enc)) (.slice atakenA x.taken.length atakenc)) (arefusedH : Ro1 w0 [] (.sl x.refused.length (x.refused.flatMap intE)) (.slice arefusedA x.refused.length arefusedc)) (hb : x.buffer.length ≤ 1048576) (hr : x.refused.length ≤ 1048576) (hn : x.actors.length ≤ 1000) (hn0 : 0 < x.actors.length) (hh : x.taken.length ≤ 1048576) (htd : ∀ (k : Nat) (a : GDequeActor), x.actors[k]? = some a → a.todo.length ≤ 1048576) : Calls Try.prog 67 #[.agg #[.int .i64 (x.top), .int .i64 (x.bottom), .slice abufferA x.buffer.length abufferc, .slice aactorsA x.actors.length aactorsc, .slice atakenA x.taken.length atakenc, .slice arefusedA x.refused.length arefusedc]] w0 fun e w' => ∃ AB cB AA cA AT cT AR cR, e = .returned (.agg #[.int .i64 x.top, .int .i64 x.bottom, .slice AB x.buffer.length cB, .slice AA x.actors.length cA, .slice AT x.taken.length cT, .slice AR x.refused.length cR]) ∧ Tr.Inv w0 [] w' [Gr (.slice AB x.buffer.length cB) 2 1 x.buffer.length (x.buffer.flatMap intE), Gr (.slice AA x.actors.length cA) 119 5 x.actors.length (x.actors.flatMap GDequeActor.enc), Gr (.slice AT x.taken.length cT) 36 2 x.taken.length (x.taken.flatMap GHanded.enc), Gr (.slice AR x.refused.length cR) 2 1 x.refused.length (x.refused.flatMap intE)] := by
 refine enter_i (args := [.agg #[.int .i64 (x.top), .int .i64 (x.bottom), .slice abufferA x.buffer.length abufferc, .slice aactorsA x.actors.length aactorsc, .slice atakenA x.taken.length atakenc, .slice arefusedA x.refused.length arefusedc]]) Try.func67 rfl Try.ntmps67 rfl sep0 (fun a w E H => ?_)
 have E : Env 40 a [(0, .agg #[.int .i64 (x.top), .int .i64 (x.bottom), .slice abufferA x.buffer.length abufferc, .slice aactorsA x.actors.length aactorsc, .slice atakenA x.taken.length atakenc, .slice arefusedA x.refused.length arefusedc])] := E
 obtain ⟨us, husl, husr, hus⟩ := aactorsH.raw (s := 5) (by rw [flat_len GDequeActor.enc 5 GDequeActor.enc_len])
 have hul : us.length = x.actors.length * 5 := by rwa [List.length_map] at husl
 refine wp_seq (wp_region_lit ?_)
 refine w_box (us := [.int .i64 (x.top), .int .i64 (x.bottom), .slice abufferA x.buffer.length abufferc, .slice aactorsA x.actors.length aactorsc, .slice atakenA x.taken.length atakenc, .slice arefusedA x.refused.length arefusedc]) E rfl (E.tmp rfl) rfl H (fun a w g1 E H => ?_)
 refine w_alloc E rfl zo_30_16 H (fun a w g2 E H => ?_)
 refine wpList_nil (then_n (wp_seq ?_))
 let fl1 : Flow := ⟨[.c (.pointer (some ⟨g1, 2, none⟩)), { dep := [], val := fun _ => .slice abufferA x.buffer.length abufferc, rd := [1] }, { dep := [2], val := fun | [x2] => .slice (sA x2) x.buffer.length (sC x2) | _ => undef, rd := [] }, .c (.pointer (some ⟨g1, 3, none⟩)), { dep := [], val := fun _ => .slice aactorsA x.actors.length aactorsc, rd := [1] }, { dep := [5], val := fun | [x5] => .slice (sA x5) x.actors.length (sC x5) | _ => undef, rd := [] }, .c (.pointer (some ⟨g1, 4, none⟩)), { dep := [], val := fun _ => .slice atakenA x.taken.length atakenc, rd := [1] }, { dep := [8], val := fun | [x8] => .slice (sA x8) x.taken.length (sC x8) | _ => undef, rd := [] }, .c (.pointer (some ⟨g1, 5, none⟩)), { dep := [], val := fun _ => .slice arefusedA x.refused.length arefusedc, rd := [1] }, { dep := [11], val := fun | [x11] => .slice (sA x11) x.refused.length (sC x11) | _ => undef, rd := [] }, .c (.pointer (some ⟨g1, 2, none⟩)), .c (undef), .c (.pointer (some ⟨g1, 3, none⟩)), .c (undef), .c (.pointer (some ⟨g1, 4, none⟩)), .c (undef), .c (.pointer (some ⟨g1, 5, none⟩)), .c (undef)], [{ dep := [], res := fun _ => Cel g2 [.int .i64 (0), .int .i64 (0), .slice none 0 0, .slice none 0 0, .slice none 0 0, .slice none 0 0] 30, prod := none, cons := none }, { dep := [], res := fun _ => Cel g1 [.int .i64 (x.top), .int .i64 (x.bottom), .slice abufferA x.buffer.length abufferc, .slice aactorsA x.actors.length aactorsc, .slice atakenA x.taken.length atakenc, .slice arefusedA x.refused.length arefusedc] 30, prod := none, cons := some 13 }, { dep := [2], res := fun | [x2] => Gr (.slice (sA x2) x.buffer.length (sC x2)) 2 1 x.buffer.length (x.buffer.flatMap intE) | _ => Res.emp, prod := some 2, cons := none }, { dep := [5], res := fun | [x5] => Gr (.slice (sA x5) x.actors.length (sC x5)) 119 5 x.actors.length (us.map D.v) | _ => Res.emp, prod := some 5, cons := none }, { dep := [8], res := fun | [x8] => Gr (.slice (sA x8) x.taken.length (sC x8)) 36 2 x.taken.length (x.taken.flatMap GHanded.enc) | _ => Res.emp, prod := some 8, cons := none }, { dep := [11], res := fun | [x11] => Gr (.slice (sA x11) x.refused.length (sC x11)) 2 1 x.refused.length (x.refused.flatMap intE) | _ => Res.emp, prod := some 11, cons := none }, { dep := [2], res := fun | [x2] => Cel g1 [.int .i64 (x.top), .int .i64 (x.bottom), .slice (sA x2) x.buffer.length (sC x2), .slice aactorsA x.actors.length aactorsc, .slice atakenA x.taken.length atakenc, .slice arefusedA x.refused.length arefusedc] 30 | _ => Res.emp, prod := some 13, cons := some 15 }, { dep := [2, 5], res := fun | [x2, x5] => Cel g1 [.int .i64 (x.top), .int .i64 (x.bottom), .slice (sA x2) x.buffer.length (sC x2), .slice (sA x5) x.actors.length (sC x5), .slice atakenA x.taken.length atakenc, .slice arefusedA x.refused.length arefusedc] 30 | _ => Res.emp, prod := some 15, cons := some 17 }, { dep := [2, 5, 8], res := fun | [x2, x5, x8] => Cel g1 [.int .i64 (x.top), .int .i64 (x.bottom), .slice (sA x2) x.buffer.length (sC x2), .slice (sA x5) x.actors.length (sC x5), .slice (sA x8) x.taken.length (sC x8), .slice arefusedA x.refused.length arefusedc] 30 | _ => Res.emp, prod := some 17, cons := some 19 }, { dep := [2, 5, 8, 11], res := fun | [x2, x5, x8, x11] => Cel g1 [.int .i64 (x.top), .int .i64 (x.bottom), .slice (sA x2) x.buffer.length (sC x2), .slice (sA x5) x.actors.length (sC x5), .slice (sA x8) x.taken.length (sC x8), .slice (sA x11) x.refused.length (sC x11)] 30 | _ => Res.emp, prod := some 19, cons := none }], [[], [0], [0, 1], [], [3], [0, 1, 2, 3, 4], [], [6], [0, 1, 2, 3, 4, 5, 6, 7], [], [9], [0, 1, 2, 3, 4, 5, 6, 7, 8, 9, 10], [0, 1, 2, 3, 4, 6, 7, 9, 10], [0, 1, 2, 3, 4, 5, 6, 7, 8, 9, 10, 11, 12], [0, 1, 2, 3, 4, 5, 6, 7, 8, 9, 10, 11, 12, 13], [0, 1, 2, 3, 4, 5, 6, 7, 8, 9, 10, 11, 12, 13, 14], [0, 1, 2, 3, 4, 5, 6, 7, 8, 9, 10, 11, 12, 13, 14, 15], [0, 1, 2, 3, 4, 5, 6, 7, 8, 9, 10, 11, 12, 13, 14, 15, 16], [0, 1, 2, 3, 4, 5, 6, 7, 8, 9, 10, 11, 12, 13, 14, 15, 16, 17], [0, 1, 2, 3, 4, 5, 6, 7, 8, 9, 10, 11, 12, 13, 14, 15, 16, 17, 18]]⟩
 have E : Env 40 a [(0, .agg #[.int .i64 (x.top), .int .i64 (x.bottom), .slice abufferA x.buffer.length abufferc, .slice aactorsA x.actors.length aactorsc, .slice atakenA x.taken.length atakenc, .slice arefusedA x.refused.length arefusedc]), (1, .pointer (some ⟨g1, 0, none⟩)), (2, .pointer (some ⟨g2, 0, none⟩))] := (Env.pick E (Env.pick E (Env.pick E E.nil rfl) rfl) rfl)
 refine wp_flow (rs := []) rfl fl1 E (by rw [List.append_nil]; exact H) 20 rfl (by kernel_rfl) ?_ ?_
 ·
  refine AllTo.snoc (AllTo.snoc (AllTo.snoc (AllTo.snoc (AllTo.snoc (AllTo.snoc (AllTo.snoc (AllTo.snoc (AllTo.snoc (AllTo.snoc (AllTo.snoc (AllTo.snoc (AllTo.snoc (AllTo.snoc (AllTo.snoc (AllTo.snoc (AllTo.snoc (AllTo.snoc (AllTo.snoc (AllTo.snoc (AllTo.zero _) ?_) ?_) ?_) ?_) ?_) ?_) ?_) ?_) ?_) ?_) ?_) ?_) ?_) ?_) ?_) ?_) ?_) ?_) ?_) ?_
  ·
   refine ⟨_, _, _, rfl, rfl, rfl, fun ν a w rs E hk ht H => ?_⟩
   exact Gives.val rfl (r_fa (o' := 2) (E.tmp rfl) fo_30_2_16 rfl) ⟨trivial, rfl, H⟩
  ·
   refine ⟨_, _, _, rfl, rfl, rfl, fun ν a w rs E hk ht H => ?_⟩
   have E := Env.add (v := .pointer (some ⟨g1, 2, none⟩)) E (ht 0 (by decide) _ _ 4 rfl rfl rfl)
   have H : Tr.Inv w0 [] w ([Cel g1 [.int .i64 (x.top), .int .i64 (x.bottom), .slice abufferA x.buffer.length abufferc, .slice aactorsA x.actors.length aactorsc, .slice atakenA x.taken.length atakenc, .slice arefusedA x.refused.length arefusedc] 30] ++ ([] ++ rs)) := H
   exact Gives.val rfl (r_load (E.tmp rfl) ag_24_16 (H.cell 0 rfl rfl)) ⟨trivial, rfl, H⟩
  ·
   refine ⟨_, _, _, rfl, rfl, rfl, fun ν a w rs E hk ht H => ?_⟩
   have E := Env.add (v := .slice abufferA x.buffer.length abufferc) E (ht 1 (by decide) _ _ 5 rfl rfl rfl)
   have H : Tr.Inv w0 [] w ([] ++ ([] ++ rs)) := H
   exact Gives.call rfl (r_call (ev_cons (E.tmp rfl) (ev_nil)) ok_64_16) (clone_i x.buffer.length abufferc abufferA (x.buffer.flatMap intE) w (abufferH.at_ H (F := []) (by simp)) (by rw [flat_len intE 1 (fun _ => rfl)]) (flatMap_flat intE_flat _) (by omega)) fun e w2 ⟨A2, c2, he, hI⟩ => ⟨_, he, trivial, rfl, H.new_mid hI⟩
  ·
   refine ⟨_, _, _, rfl, rfl, rfl, fun ν a w rs E hk ht H => ?_⟩
   exact Gives.val rfl (r_fa (o' := 3) (E.tmp rfl) fo_30_3_16 rfl) ⟨trivial, rfl, H⟩
  ·
   refine ⟨_, _, _, rfl, rfl, rfl, fun ν a w rs E hk ht H => ?_⟩
   have E := Env.add (v := .pointer (some ⟨g1, 3, none⟩)) E (ht 3 (by decide) _ _ 7 rfl rfl rfl)
   have H : Tr.Inv w0 [] w ([Cel g1 [.int .i64 (x.top), .int .i64 (x.bottom), .slice abufferA x.buffer.length abufferc, .slice aactorsA x.actors.length aactorsc, .slice atakenA x.taken.length atakenc, .slice arefusedA x.refused.length arefusedc] 30] ++ ([] ++ rs)) := H
   exact Gives.val rfl (r_load (E.tmp rfl) ag_27_16 (H.cell 0 rfl rfl)) ⟨trivial, rfl, H⟩
  ·
   refine ⟨_, _, _, rfl, rfl, rfl, fun ν a w rs E hk ht H => ?_⟩
   have E := Env.add (v := .slice aactorsA x.actors.length aactorsc) E (ht 4 (by decide) _ _ 8 rfl rfl rfl)
   have H : Tr.Inv w0 [] w ([] ++ ([] ++ rs)) := H
   exact Gives.call rfl (r_call (ev_cons (E.tmp rfl) (ev_nil)) ok_158_16) (clone_a x.actors.length aactorsc aactorsA (us.map D.v) w (husr.at_ H (F := []) (by simp)) husl (fun d hd => by obtain ⟨x, _, rfl⟩ := List.mem_map.1 hd; exact ⟨x, rfl⟩) (by omega)) fun e w2 ⟨A2, c2, he, hI⟩ => ⟨_, he, trivial, rfl, H.new_mid hI⟩
  ·
   refine ⟨_, _, _, rfl, rfl, rfl, fun ν a w rs E hk ht H => ?_⟩
   exact Gives.val rfl (r_fa (o' := 4) (E.tmp rfl) fo_30_4_16 rfl) ⟨trivial, rfl, H⟩
  ·
   refine ⟨_, _, _, rfl, rfl, rfl, fun ν a w rs E hk ht H => ?_⟩
   have E := Env.add (v := .pointer (some ⟨g1, 4, none⟩)) E (ht 6 (by decide) _ _ 10 rfl rfl rfl)
   have H : Tr.Inv w0 [] w ([Cel g1 [.int .i64 (x.top), .int .i64 (x.bottom), .slice abufferA x.buffer.length abufferc, .slice aactorsA x.actors.length aactorsc, .slice atakenA x.taken.length atakenc, .slice arefusedA x.refused.length arefusedc] 30] ++ ([] ++ rs)) := H
   exact Gives.val rfl (r_load (E.tmp rfl) ag_28_16 (H.cell 0 rfl rfl)) ⟨trivial, rfl, H⟩
  ·
   refine ⟨_, _, _, rfl, rfl, rfl, fun ν a w rs E hk ht H => ?_⟩
   have E := Env.add (v := .slice atakenA x.taken.length atakenc) E (ht 7 (by decide) _ _ 11 rfl rfl rfl)
   have H : Tr.Inv w0 [] w ([] ++ ([] ++ rs)) := H
   exact Gives.call rfl (r_call (ev_cons (E.tmp rfl) (ev_nil)) ok_159_16) (clone_h x.taken.length atakenc atakenA (x.taken.flatMap GHanded.enc) w (atakenH.at_ H (F := []) (by simp)) (by rw [flat_len GHanded.enc 2 (fun _ => rfl)]) (flatMap_flat GHanded.flat _) (by omega)) fun e w2 ⟨A2, c2, he, hI⟩ => ⟨_, he, trivial, rfl, H.new_mid hI⟩
  ·
   refine ⟨_, _, _, rfl, rfl, rfl, fun ν a w rs E hk ht H => ?_⟩
   exact Gives.val rfl (r_fa (o' := 5) (E.tmp rfl) fo_30_5_16 rfl) ⟨trivial, rfl, H⟩
  ·
   refine ⟨_, _, _, rfl, rfl, rfl, fun ν a w rs E hk ht H => ?_⟩
   have E := Env.add (v := .pointer (some ⟨g1, 5, none⟩)) E (ht 9 (by decide) _ _ 13 rfl rfl rfl)
   have H : Tr.Inv w0 [] w ([Cel g1 [.int .i64 (x.top), .int .i64 (x.bottom), .slice abufferA x.buffer.length abufferc, .slice aactorsA x.actors.length aactorsc, .slice atakenA x.taken.length atakenc, .slice arefusedA x.refused.length arefusedc] 30] ++ ([] ++ rs)) := H
   exact Gives.val rfl (r_load (E.tmp rfl) ag_24_16 (H.cell 0 rfl rfl)) ⟨trivial, rfl, H⟩
  ·
   refine ⟨_, _, _, rfl, rfl, rfl, fun ν a w rs E hk ht H => ?_⟩
   have E := Env.add (v := .slice arefusedA x.refused.length arefusedc) E (ht 10 (by decide) _ _ 14 rfl rfl rfl)
   have H : Tr.Inv w0 [] w ([] ++ ([] ++ rs)) := H
   exact Gives.call rfl (r_call (ev_cons (E.tmp rfl) (ev_nil)) ok_64_16) (clone_i x.refused.length arefusedc arefusedA (x.refused.flatMap intE) w (arefusedH.at_ H (F := []) (by simp)) (by rw [flat_len intE 1 (fun _ => rfl)]) (flatMap_flat intE_flat _) (by omega)) fun e w2 ⟨A2, c2, he, hI⟩ => ⟨_, he, trivial, rfl, H.new_mid hI⟩
  ·
   refine ⟨_, _, _, rfl, rfl, rfl, fun ν a w rs E hk ht H => ?_⟩
   exact Gives.val rfl (r_fa (o' := 2) (E.tmp rfl) fo_30_2_16 rfl) ⟨trivial, rfl, H⟩
  ·
   refine ⟨_, _, _, rfl, rfl, rfl, fun ν a w rs E hk ht H => ?_⟩
   have E := Env.add (v := .slice (sA (ν 2)) x.buffer.length (sC (ν 2))) E (ht 2 (by decide) _ _ 6 rfl rfl rfl)
   have E := Env.add (v := .pointer (some ⟨g1, 2, none⟩)) E (ht 12 (by decide) _ _ 16 rfl rfl rfl)
   have H : Tr.Inv w0 [] w ([] ++ ([Cel g1 [.int .i64 (x.top), .int .i64 (x.bottom), .slice abufferA x.buffer.length abufferc, .slice aactorsA x.actors.length aactorsc, .slice atakenA x.taken.length atakenc, .slice arefusedA x.refused.length arefusedc] 30] ++ rs)) := H
   exact Gives.skp rfl (r_store (E.tmp rfl) (E.tmp rfl) rfl rfl sz_24_16 (H.cel 0 rfl) (by simp)) ⟨trivial, rfl, H.put (us := [.slice (sA (ν 2)) x.buffer.length (sC (ν 2))]) 0 rfl rfl rfl⟩
  ·
   refine ⟨_, _, _, rfl, rfl, rfl, fun ν a w rs E hk ht H => ?_⟩
   exact Gives.val rfl (r_fa (o' := 3) (E.tmp rfl) fo_30_3_16 rfl) ⟨trivial, rfl, H⟩
  ·
   refine ⟨_, _, _, rfl, rfl, rfl, fun ν a w rs E hk ht H => ?_⟩
   have E := Env.add (v := .slice (sA (ν 5)) x.actors.length (sC (ν 5))) E (ht 5 (by decide) _ _ 9 rfl rfl rfl)
   have E := Env.add (v := .pointer (some ⟨g1, 3, none⟩)) E (ht 14 (by decide) _ _ 17 rfl rfl rfl)
   have H : Tr.Inv w0 [] w ([] ++ ([Cel g1 [.int .i64 (x.top), .int .i64 (x.bottom), .slice (sA (ν 2)) x.buffer.length (sC (ν 2)), .slice aactorsA x.actors.length aactorsc, .slice atakenA x.taken.length atakenc, .slice arefusedA x.refused.length arefusedc] 30] ++ rs)) := H
   exact Gives.skp rfl (r_store (E.tmp rfl) (E.tmp rfl) rfl rfl sz_27_16 (H.cel 0 rfl) (by simp)) ⟨trivial, rfl, H.put (us := [.slice (sA (ν 5)) x.actors.length (sC (ν 5))]) 0 rfl rfl rfl⟩
  ·
   refine ⟨_, _, _, rfl, rfl, rfl, fun ν a w rs E hk ht H => ?_⟩
   exact Gives.val rfl (r_fa (o' := 4) (E.tmp rfl) fo_30_4_16 rfl) ⟨trivial, rfl, H⟩
  ·
   refine ⟨_, _, _, rfl, rfl, rfl, fun ν a w rs E hk ht H => ?_⟩
   have E := Env.add (v := .slice (sA (ν 8)) x.taken.length (sC (ν 8))) E (ht 8 (by decide) _ _ 12 rfl rfl rfl)
   have E := Env.add (v := .pointer (some ⟨g1, 4, none⟩)) E (ht 16 (by decide) _ _ 18 rfl rfl rfl)
   have H : Tr.Inv w0 [] w ([] ++ ([Cel g1 [.int .i64 (x.top), .int .i64 (x.bottom), .slice (sA (ν 2)) x.buffer.length (sC (ν 2)), .slice (sA (ν 5)) x.actors.length (sC (ν 5)), .slice atakenA x.taken.length atakenc, .slice arefusedA x.refused.length arefusedc] 30] ++ rs)) := H
   exact Gives.skp rfl (r_store (E.tmp rfl) (E.tmp rfl) rfl rfl sz_28_16 (H.cel 0 rfl) (by simp)) ⟨trivial, rfl, H.put (us := [.slice (sA (ν 8)) x.taken.length (sC (ν 8))]) 0 rfl rfl rfl⟩
  ·
   refine ⟨_, _, _, rfl, rfl, rfl, fun ν a w rs E hk ht H => ?_⟩
   exact Gives.val rfl (r_fa (o' := 5) (E.tmp rfl) fo_30_5_16 rfl) ⟨trivial, rfl, H⟩
  ·
   refine ⟨_, _, _, rfl, rfl, rfl, fun ν a w rs E hk ht H => ?_⟩
   have E := Env.add (v := .slice (sA (ν 11)) x.refused.length (sC (ν 11))) E (ht 11 (by decide) _ _ 15 rfl rfl rfl)
   have E := Env.add (v := .pointer (some ⟨g1, 5, none⟩)) E (ht 18 (by decide) _ _ 19 rfl rfl rfl)
   have H : Tr.Inv w0 [] w ([] ++ ([Cel g1 [.int .i64 (x.top), .int .i64 (x.bottom), .slice (sA (ν 2)) x.buffer.length (sC (ν 2)), .slice (sA (ν 5)) x.actors.length (sC (ν 5)), .slice (sA (ν 8)) x.taken.length (sC (ν 8)), .slice arefusedA x.refused.length arefusedc] 30] ++ rs)) := H
   exact Gives.skp rfl (r_store (E.tmp rfl) (E.tmp rfl) rfl rfl sz_24_16 (H.cel 0 rfl) (by simp)) ⟨trivial, rfl, H.put (us := [.slice (sA (ν 11)) x.refused.length (sC (ν 11))]) 0 rfl rfl rfl⟩
 ·
  refine fun ν a w E hk ht H => ?_
  have H : Tr.Inv w0 [] w [Cel g2 [.int .i64 (0), .int .i64 (0), .slice none 0 0, .slice none 0 0, .slice none 0 0, .slice none 0 0] 30, Gr (.slice (sA (ν 2)) x.buffer.length (sC (ν 2))) 2 1 x.buffer.length (x.buffer.flatMap intE), Gr (.slice (sA (ν 5)) x.actors.length (sC (ν 5))) 119 5 x.actors.length (us.map D.v), Gr (.slice (sA (ν 8)) x.taken.length (sC (ν 8))) 36 2 x.taken.length (x.taken.flatMap GHanded.enc), Gr (.slice (sA (ν 11)) x.refused.length (sC (ν 11))) 2 1 x.refused.length (x.refused.flatMap intE), Cel g1 [.int .i64 (x.top), .int .i64 (x.bottom), .slice (sA (ν 2)) x.buffer.length (sC (ν 2)), .slice (sA (ν 5)) x.actors.length (sC (ν 5)), .slice (sA (ν 8)) x.taken.length (sC (ν 8)), .slice (sA (ν 11)) x.refused.length (sC (ν 11))] 30] := H
  have E : Env 40 a [(0, .agg #[.int .i64 (x.top), .int .i64 (x.bottom), .slice abufferA x.buffer.length abufferc, .slice aactorsA x.actors.length aactorsc, .slice atakenA x.taken.length atakenc, .slice arefusedA x.refused.length arefusedc]), (1, .pointer (some ⟨g1, 0, none⟩)), (2, .pointer (some ⟨g2, 0, none⟩))] := (Env.pick E (Env.pick E (Env.pick E E.nil rfl) rfl) rfl)
  clear hk ht
  generalize (sA (ν 2)) = A7 at E H
  generalize (sC (ν 2)) = c8 at E H
  generalize (sA (ν 5)) = A9 at E H
  generalize (sC (ν 5)) = c10 at E H
  generalize (sA (ν 8)) = A11 at E H
  generalize (sC (ν 8)) = c12 at E H
  generalize (sA (ν 11)) = A13 at E H
  generalize (sC (ν 11)) = c14 at E H
  refine then_n (wp_seq (wp_seq ?_))
  obtain ⟨rb, p15c, p15h⟩ := H.gr_pos 2 rfl hn0
  injection p15h with p15e p15f p15g
  revert E
  revert H
  subst p15e
  subst p15g
  intro H E
  have H : Tr.Inv w0 [] w [Cel g2 [.int .i64 (0), .int .i64 (0), .slice none 0 0, .slice none 0 0, .slice none 0 0, .slice none 0 0] 30, Gr (.slice A7 x.buffer.length c8) 2 1 x.buffer.length (x.buffer.flatMap intE), Gr (.slice (some ⟨rb, 0, none⟩) x.actors.length c10) 119 5 x.actors.length (us.map D.v), Gr (.slice A11 x.taken.length c12) 36 2 x.taken.length (x.taken.flatMap GHanded.enc), Gr (.slice A13 x.refused.length c14) 2 1 x.refused.length (x.refused.flatMap intE), Cel g1 [.int .i64 (x.top), .int .i64 (x.bottom), .slice A7 x.buffer.length c8, .slice (some ⟨rb, 0, none⟩) x.actors.length c10, .slice A11 x.taken.length c12, .slice A13 x.refused.length c14] 30] := H
  refine wp_region_lit ?_
  refine wv E rfl (r_fa (o' := 3) (E.tmp rfl) fo_30_3_16 rfl) fun a E => wv E rfl (r_load (E.tmp rfl) ag_27_16 (H.cell 5 rfl rfl)) fun a E => ?_
  refine wv E rfl (r_len (E.tmp rfl) el_27_16) (fun a E => ?_)
  refine wv E rfl (r_move (ev_c _)) fun a E => ?_
  refine wpList_nil (then_n (wp_block ?_))
  have H := H.front 2 rfl
  refine wp_loop_ghost (fun m a w => ∃ (k : Nat), m = x.actors.length - k ∧ k ≤ x.actors.length ∧ Env 40 a [(1, .pointer (some ⟨g1, 0, none⟩)), (2, .pointer (some ⟨g2, 0, none⟩)), (22, .int .i64 (((x.actors.length : Nat) : Int))), (23, .int .i64 (((k : Nat) : Int)))] ∧ Tr.Inv w0 [] w [Gr (.slice (some ⟨rb, 0, none⟩) x.actors.length c10) 119 5 x.actors.length ((x.actors.take k).flatMap GDequeActor.enc ++ (us.drop (k * 5)).map D.v), Cel g2 [.int .i64 (0), .int .i64 (0), .slice none 0 0, .slice none 0 0, .slice none 0 0, .slice none 0 0] 30, Gr (.slice A7 x.buffer.length c8) 2 1 x.buffer.length (x.buffer.flatMap intE), Gr (.slice A11 x.taken.length c12) 36 2 x.taken.length (x.taken.flatMap GHanded.enc), Gr (.slice A13 x.refused.length c14) 2 1 x.refused.length (x.refused.flatMap intE), Cel g1 [.int .i64 (x.top), .int .i64 (x.bottom), .slice A7 x.buffer.length c8, .slice (some ⟨rb, 0, none⟩) x.actors.length c10, .slice A11 x.taken.length c12, .slice A13 x.refused.length c14] 30]) _ ⟨0, rfl, Nat.zero_le _, (Env.pick E (Env.pick E (Env.pick E (Env.pick E E.nil rfl) rfl) rfl) rfl), H⟩ ?_
  rintro _ a w ⟨k, rfl, hk, E, H⟩
  by_cases hlt : k < x.actors.length
  ·
   skip
   obtain ⟨y, hy⟩ : ∃ y, x.actors[k]? = some y := ⟨_, List.getElem?_eq_getElem hlt⟩
   have htl : y.todo.length ≤ 1048576 := htd _ _ hy
   obtain ⟨cs, hcs, hcd⟩ := RoN.chunk GDequeActor.enc_len hus hy
   obtain ⟨yA, yc, cs1, ec1, hyt, hyn, hcs1⟩ := RoN.sl (show RoN w0 [] (.sl y.todo.length (y.todo.flatMap intE) :: _) cs from hcs)
   obtain ⟨cs2, ec2, hcs2⟩ := RoN.vv hcs1
   obtain ⟨cs3, ec3, hcs3⟩ := RoN.vv hcs2
   obtain ⟨cs4, ec4, hcs4⟩ := RoN.vv hcs3
   obtain ⟨cs5, ec5, hcs5⟩ := RoN.vv hcs4
   have ec6 := RoN.end_ hcs5
   rw [ec6] at ec5
   rw [ec5] at ec4
   rw [ec4] at ec3
   rw [ec3] at ec2
   rw [ec2] at ec1
   rw [ec1] at hcd
   rw [hcd, List.map_append] at H
   have H := H.openR (by omega)
   have H : Tr.Inv w0 [] w [Opn rb c10 119 5 x.actors.length ((x.actors.take k).flatMap GDequeActor.enc) [.slice yA y.todo.length yc, .int .i64 (y.pc), .int .i64 (y.t), .int .i64 (y.b), .int .i64 (y.x)] ((us.drop ((k + 1) * 5)).map D.v), Cel g2 [.int .i64 (0), .int .i64 (0), .slice none 0 0, .slice none 0 0, .slice none 0 0, .slice none 0 0] 30, Gr (.slice A7 x.buffer.length c8) 2 1 x.buffer.length (x.buffer.flatMap intE), Gr (.slice A11 x.taken.length c12) 36 2 x.taken.length (x.taken.flatMap GHanded.enc), Gr (.slice A13 x.refused.length c14) 2 1 x.refused.length (x.refused.flatMap intE), Cel g1 [.int .i64 (x.top), .int .i64 (x.bottom), .slice A7 x.buffer.length c8, .slice (some ⟨rb, 0, none⟩) x.actors.length c10, .slice A11 x.taken.length c12, .slice A13 x.refused.length c14] 30] := H
   refine wp_seq (wp_region_lit ?_)
   refine wv E rfl (r_bin (E.tmp rfl) (E.tmp rfl) (b_lss (b := true) (by simp; exact hlt))) fun a E => ?_
   refine wpList_nil (then_n (wp_seq ?_))
   refine cond_t E rfl rfl ?_
   refine wp_skip (then_n (wp_seq (wp_block (wp_seq (wp_region_lit ?_)))))
   refine vm E rfl rfl fun a E => va E rfl rfl fun a E => ?_
   refine wpList_nil (then_n ?_)
   let fl5 : Flow := ⟨[.c (.pointer (some ⟨g1, 3, none⟩)), { dep := [], val := fun _ => .slice (some ⟨rb, 0, none⟩) x.actors.length c10, rd := [5] }, .c (.int .i64 (((k : Nat) : Int))), .c (.pointer (some ⟨g1, 3, none⟩)), { dep := [], val := fun _ => .slice (some ⟨rb, 0, none⟩) x.actors.length c10, rd := [5] }, .c (.int .i64 (((k : Nat) : Int))), .c (.pointer (some ⟨rb, k * 5, none⟩)), .c (.pointer (some ⟨rb, k * 5, none⟩)), { dep := [], val := fun _ => .slice yA y.todo.length yc, rd := [0] }, { dep := [9], val := fun | [x9] => .slice (sA x9) y.todo.length (sC x9) | _ => undef, rd := [] }, .c (.pointer (some ⟨rb, k * 5, none⟩)), .c (.pointer (some ⟨rb, k * 5, none⟩)), .c (undef)], [{ dep := [], res := fun _ => Opn rb c10 119 5 x.actors.length ((x.actors.take k).flatMap GDequeActor.enc) [.slice yA y.todo.length yc, .int .i64 (y.pc), .int .i64 (y.t), .int .i64 (y.b), .int .i64 (y.x)] ((us.drop ((k + 1) * 5)).map D.v), prod := none, cons := some 12 }, { dep := [], res := fun _ => Cel g2 [.int .i64 (0), .int .i64 (0), .slice none 0 0, .slice none 0 0, .slice none 0 0, .slice none 0 0] 30, prod := none, cons := none }, { dep := [], res := fun _ => Gr (.slice A7 x.buffer.length c8) 2 1 x.buffer.length (x.buffer.flatMap intE), prod := none, cons := none }, { dep := [], res := fun _ => Gr (.slice A11 x.taken.length c12) 36 2 x.taken.length (x.taken.flatMap GHanded.enc), prod := none, cons := none }, { dep := [], res := fun _ => Gr (.slice A13 x.refused.length c14) 2 1 x.refused.length (x.refused.flatMap intE), prod := none, cons := none }, { dep := [], res := fun _ => Cel g1 [.int .i64 (x.top), .int .i64 (x.bottom), .slice A7 x.buffer.length c8, .slice (some ⟨rb, 0, none⟩) x.actors.length c10, .slice A11 x.taken.length c12, .slice A13 x.refused.length c14] 30, prod := none, cons := none }, { dep := [9], res := fun | [x9] => Gr (.slice (sA x9) y.todo.length (sC x9)) 2 1 y.todo.length (y.todo.flatMap intE) | _ => Res.emp, prod := some 9, cons := none }, { dep := [9], res := fun | [x9] => Opn rb c10 119 5 x.actors.length ((x.actors.take k).flatMap GDequeActor.enc) [.slice (sA x9) y.todo.length (sC x9), .int .i64 (y.pc), .int .i64 (y.t), .int .i64 (y.b), .int .i64 (y.x)] ((us.drop ((k + 1) * 5)).map D.v) | _ => Res.emp, prod := some 12, cons := none }], [[], [0], [], [], [3], [], [3, 4, 5], [3, 4, 5, 6], [3, 4, 5, 6, 7], [3, 4, 5, 6, 7, 8], [0, 1, 2, 3, 4, 5, 6, 7, 8, 9], [0, 1, 2, 3, 4, 5, 6, 7, 8, 9, 10], [0, 1, 2, 3, 4, 5, 6, 7, 8, 9, 10, 11]]⟩
   have E : Env 40 a [(1, .pointer (some ⟨g1, 0, none⟩)), (2, .pointer (some ⟨g2, 0, none⟩)), (3, .int .i64 (((k : Nat) : Int))), (22, .int .i64 (((x.actors.length : Nat) : Int))), (23, .int .i64 (((k : Nat) : Int))), (24, .bool (true)), (25, .int .i64 (((k : Nat) : Int)))] := (Env.pick E (Env.pick E (Env.pick E (Env.pick E (Env.pick E (Env.pick E (Env.pick E E.nil rfl) rfl) rfl) rfl) rfl) rfl) rfl)
   refine wp_flow (rs := []) rfl fl5 E (by rw [List.append_nil]; exact H) 13 rfl (by kernel_rfl) ?_ ?_
   ·
    refine AllTo.snoc (AllTo.snoc (AllTo.snoc (AllTo.snoc (AllTo.snoc (AllTo.snoc (AllTo.snoc (AllTo.snoc (AllTo.snoc (AllTo.snoc (AllTo.snoc (AllTo.snoc (AllTo.snoc (AllTo.zero _) ?_) ?_) ?_) ?_) ?_) ?_) ?_) ?_) ?_) ?_) ?_) ?_) ?_
    ·
     refine ⟨_, _, _, rfl, rfl, rfl, fun ν a w rs E hk ht H => ?_⟩
     exact Gives.val rfl (r_fa (o' := 3) (E.tmp rfl) fo_30_3_16 rfl) ⟨trivial, rfl, H⟩
    ·
     refine ⟨_, _, _, rfl, rfl, rfl, fun ν a w rs E hk ht H => ?_⟩
     have E := Env.add (v := .pointer (some ⟨g1, 3, none⟩)) E (ht 0 (by decide) _ _ 26 rfl rfl rfl)
     have H : Tr.Inv w0 [] w ([Cel g1 [.int .i64 (x.top), .int .i64 (x.bottom), .slice A7 x.buffer.length c8, .slice (some ⟨rb, 0, none⟩) x.actors.length c10, .slice A11 x.taken.length c12, .slice A13 x.refused.length c14] 30] ++ ([] ++ rs)) := H
     exact Gives.val rfl (r_load (E.tmp rfl) ag_27_16 (H.cell 0 rfl rfl)) ⟨trivial, rfl, H⟩
    ·
     refine ⟨_, _, _, rfl, rfl, rfl, fun ν a w rs E hk ht H => ?_⟩
     exact Gives.val rfl (r_move (E.tmp rfl)) ⟨trivial, rfl, H⟩
    ·
     refine ⟨_, _, _, rfl, rfl, rfl, fun ν a w rs E hk ht H => ?_⟩
     exact Gives.val rfl (r_fa (o' := 3) (E.tmp rfl) fo_30_3_16 rfl) ⟨trivial, rfl, H⟩
    ·
     refine ⟨_, _, _, rfl, rfl, rfl, fun ν a w rs E hk ht H => ?_⟩
     have E := Env.add (v := .pointer (some ⟨g1, 3, none⟩)) E (ht 3 (by decide) _ _ 29 rfl rfl rfl)
     have H : Tr.Inv w0 [] w ([Cel g1 [.int .i64 (x.top), .int .i64 (x.bottom), .slice A7 x.buffer.length c8, .slice (some ⟨rb, 0, none⟩) x.actors.length c10, .slice A11 x.taken.length c12, .slice A13 x.refused.length c14] 30] ++ ([] ++ rs)) := H
     exact Gives.val rfl (r_load (E.tmp rfl) ag_27_16 (H.cell 0 rfl rfl)) ⟨trivial, rfl, H⟩
    ·
     refine ⟨_, _, _, rfl, rfl, rfl, fun ν a w rs E hk ht H => ?_⟩
     exact Gives.val rfl (r_move (E.tmp rfl)) ⟨trivial, rfl, H⟩
    ·
     refine ⟨_, _, _, rfl, rfl, rfl, fun ν a w rs E hk ht H => ?_⟩
     have E := Env.add (v := .slice (some ⟨rb, 0, none⟩) x.actors.length c10) E (ht 4 (by decide) _ _ 30 rfl rfl rfl)
     have E := Env.add (v := .int .i64 (((k : Nat) : Int))) E (ht 5 (by decide) _ _ 31 rfl rfl rfl)
     exact Gives.val rfl (r_ia (k := k) (o' := k * 5) (E.tmp rfl) (E.tmp rfl) rfl el_27_16 (by omega) (Nat.zero_add _)) ⟨trivial, rfl, H⟩
    ·
     refine ⟨_, _, _, rfl, rfl, rfl, fun ν a w rs E hk ht H => ?_⟩
     have E := Env.add (v := .pointer (some ⟨rb, k * 5, none⟩)) E (ht 6 (by decide) _ _ 32 rfl rfl rfl)
     exact Gives.val rfl (r_fa (o' := k * 5) (E.tmp rfl) fo_119_0_16 rfl) ⟨trivial, rfl, H⟩
    ·
     refine ⟨_, _, _, rfl, rfl, rfl, fun ν a w rs E hk ht H => ?_⟩
     have E := Env.add (v := .pointer (some ⟨rb, k * 5, none⟩)) E (ht 7 (by decide) _ _ 33 rfl rfl rfl)
     have H : Tr.Inv w0 [] w ([Opn rb c10 119 5 x.actors.length ((x.actors.take k).flatMap GDequeActor.enc) [.slice yA y.todo.length yc, .int .i64 (y.pc), .int .i64 (y.t), .int .i64 (y.b), .int .i64 (y.x)] ((us.drop ((k + 1) * 5)).map D.v)] ++ ([] ++ rs)) := H
     exact Gives.val rfl (r_load (E.tmp rfl) ag_24_16 (H.opn_cell 0 rfl (take_len GDequeActor.enc 5 GDequeActor.enc_len hlt) (j := 0) rfl)) ⟨trivial, rfl, H⟩
    ·
     refine ⟨_, _, _, rfl, rfl, rfl, fun ν a w rs E hk ht H => ?_⟩
     have E := Env.add (v := .slice yA y.todo.length yc) E (ht 8 (by decide) _ _ 34 rfl rfl rfl)
     have H : Tr.Inv w0 [] w ([] ++ ([] ++ rs)) := H
     exact Gives.call rfl (r_call (ev_cons (E.tmp rfl) (ev_nil)) ok_64_16) (clone_i y.todo.length yc yA (y.todo.flatMap intE) w (hyt.at_ H (F := []) (by simp)) (by rw [flat_len intE 1 (fun _ => rfl)]) (flatMap_flat intE_flat _) (by omega)) fun e w2 ⟨A2, c2, he, hI⟩ => ⟨_, he, trivial, rfl, H.new_mid hI⟩
    ·
     refine ⟨_, _, _, rfl, rfl, rfl, fun ν a w rs E hk ht H => ?_⟩
     have E := Env.add (v := .slice (some ⟨rb, 0, none⟩) x.actors.length c10) E (ht 1 (by decide) _ _ 27 rfl rfl rfl)
     have E := Env.add (v := .int .i64 (((k : Nat) : Int))) E (ht 2 (by decide) _ _ 28 rfl rfl rfl)
     exact Gives.val rfl (r_ia (k := k) (o' := k * 5) (E.tmp rfl) (E.tmp rfl) rfl el_27_16 (by omega) (Nat.zero_add _)) ⟨trivial, rfl, H⟩
    ·
     refine ⟨_, _, _, rfl, rfl, rfl, fun ν a w rs E hk ht H => ?_⟩
     have E := Env.add (v := .pointer (some ⟨rb, k * 5, none⟩)) E (ht 10 (by decide) _ _ 36 rfl rfl rfl)
     exact Gives.val rfl (r_fa (o' := k * 5) (E.tmp rfl) fo_119_0_16 rfl) ⟨trivial, rfl, H⟩
    ·
     refine ⟨_, _, _, rfl, rfl, rfl, fun ν a w rs E hk ht H => ?_⟩
     have E := Env.add (v := .slice (sA (ν 9)) y.todo.length (sC (ν 9))) E (ht 9 (by decide) _ _ 35 rfl rfl rfl)
     have E := Env.add (v := .pointer (some ⟨rb, k * 5, none⟩)) E (ht 11 (by decide) _ _ 37 rfl rfl rfl)
     have H : Tr.Inv w0 [] w ([] ++ ([Opn rb c10 119 5 x.actors.length ((x.actors.take k).flatMap GDequeActor.enc) [.slice yA y.todo.length yc, .int .i64 (y.pc), .int .i64 (y.t), .int .i64 (y.b), .int .i64 (y.x)] ((us.drop ((k + 1) * 5)).map D.v)] ++ rs)) := H
     exact Gives.skp rfl (r_ostore (vs := [.slice (sA (ν 9)) y.todo.length (sC (ν 9))]) (j := 0) (E.tmp rfl) (E.tmp rfl) rfl rfl sz_24_16 H (i := 0) rfl (take_len GDequeActor.enc 5 GDequeActor.enc_len hlt) rfl rfl) ⟨trivial, rfl, H.opn_put 0 rfl (take_len GDequeActor.enc 5 GDequeActor.enc_len hlt) rfl rfl⟩
   ·
    refine fun ν a w E hk ht H => ?_
    have E := Env.add E (show a.tmps[26]? = some (.pointer (some ⟨g1, 3, none⟩)) from ht 0 _ _ 26 rfl rfl rfl)
    have E := Env.add E (show a.tmps[27]? = some (.slice (some ⟨rb, 0, none⟩) x.actors.length c10) from ht 1 _ _ 27 rfl rfl rfl)
    have E := Env.add E (show a.tmps[28]? = some (.int .i64 (((k : Nat) : Int))) from ht 2 _ _ 28 rfl rfl rfl)
    have E := Env.add E (show a.tmps[29]? = some (.pointer (some ⟨g1, 3, none⟩)) from ht 3 _ _ 29 rfl rfl rfl)
    have E := Env.add E (show a.tmps[30]? = some (.slice (some ⟨rb, 0, none⟩) x.actors.length c10) from ht 4 _ _ 30 rfl rfl rfl)
    have E := Env.add E (show a.tmps[31]? = some (.int .i64 (((k : Nat) : Int))) from ht 5 _ _ 31 rfl rfl rfl)
    have E := Env.add E (show a.tmps[32]? = some (.pointer (some ⟨rb, k * 5, none⟩)) from ht 6 _ _ 32 rfl rfl rfl)
    have E := Env.add E (show a.tmps[33]? = some (.pointer (some ⟨rb, k * 5, none⟩)) from ht 7 _ _ 33 rfl rfl rfl)
    have E := Env.add E (show a.tmps[34]? = some (.slice yA y.todo.length yc) from ht 8 _ _ 34 rfl rfl rfl)
    have E := Env.add E (show a.tmps[35]? = some (.slice (sA (ν 9)) y.todo.length (sC (ν 9))) from ht 9 _ _ 35 rfl rfl rfl)
    have E := Env.add E (show a.tmps[36]? = some (.pointer (some ⟨rb, k * 5, none⟩)) from ht 10 _ _ 36 rfl rfl rfl)
    have E := Env.add E (show a.tmps[37]? = some (.pointer (some ⟨rb, k * 5, none⟩)) from ht 11 _ _ 37 rfl rfl rfl)
    have H : Tr.Inv w0 [] w [Cel g2 [.int .i64 (0), .int .i64 (0), .slice none 0 0, .slice none 0 0, .slice none 0 0, .slice none 0 0] 30, Gr (.slice A7 x.buffer.length c8) 2 1 x.buffer.length (x.buffer.flatMap intE), Gr (.slice A11 x.taken.length c12) 36 2 x.taken.length (x.taken.flatMap GHanded.enc), Gr (.slice A13 x.refused.length c14) 2 1 x.refused.length (x.refused.flatMap intE), Cel g1 [.int .i64 (x.top), .int .i64 (x.bottom), .slice A7 x.buffer.length c8, .slice (some ⟨rb, 0, none⟩) x.actors.length c10, .slice A11 x.taken.length c12, .slice A13 x.refused.length c14] 30, Gr (.slice (sA (ν 9)) y.todo.length (sC (ν 9))) 2 1 y.todo.length (y.todo.flatMap intE), Opn rb c10 119 5 x.actors.length ((x.actors.take k).flatMap GDequeActor.enc) [.slice (sA (ν 9)) y.todo.length (sC (ν 9)), .int .i64 (y.pc), .int .i64 (y.t), .int .i64 (y.b), .int .i64 (y.x)] ((us.drop ((k + 1) * 5)).map D.v)] := H
    have E : Env 40 a [(1, .pointer (some ⟨g1, 0, none⟩)), (2, .pointer (some ⟨g2, 0, none⟩)), (3, .int .i64 (((k : Nat) : Int))), (22, .int .i64 (((x.actors.length : Nat) : Int))), (23, .int .i64 (((k : Nat) : Int))), (24, .bool (true)), (25, .int .i64 (((k : Nat) : Int))), (26, .pointer (some ⟨g1, 3, none⟩)), (27, .slice (some ⟨rb, 0, none⟩) x.actors.length c10), (28, .int .i64 (((k : Nat) : Int))), (29, .pointer (some ⟨g1, 3, none⟩)), (30, .slice (some ⟨rb, 0, none⟩) x.actors.length c10), (31, .int .i64 (((k : Nat) : Int))), (32, .pointer (some ⟨rb, k * 5, none⟩)), (33, .pointer (some ⟨rb, k * 5, none⟩)), (34, .slice yA y.todo.length yc), (35, .slice (sA (ν 9)) y.todo.length (sC (ν 9))), (36, .pointer (some ⟨rb, k * 5, none⟩)), (37, .pointer (some ⟨rb, k * 5, none⟩))] := (Env.pick E (Env.pick E (Env.pick E (Env.pick E (Env.pick E (Env.pick E (Env.pick E (Env.pick E (Env.pick E (Env.pick E (Env.pick E (Env.pick E (Env.pick E (Env.pick E (Env.pick E (Env.pick E (Env.pick E (Env.pick E (Env.pick E E.nil rfl) rfl) rfl) rfl) rfl) rfl) rfl) rfl) rfl) rfl) rfl) rfl) rfl) rfl) rfl) rfl) rfl) rfl) rfl)
    clear hk ht
    generalize (sA (ν 9)) = A17 at E H
    generalize (sC (ν 9)) = c18 at E H
    refine inb_n (then_n (wp_region_lit ?_))
    refine wv E rfl (r_bin (E.tmp rfl) (ev_c _) (b_add (wrap_succ (by omega)))) fun a E => vm E rfl rfl fun a E => ?_
    refine wpList_nil ?_
    have H := H.mk_e
    have H := H.mk_v (x := .int .i64 (y.x)) rfl
    have H := H.mk_v (x := .int .i64 (y.b)) rfl
    have H := H.mk_v (x := .int .i64 (y.t)) rfl
    have H := H.mk_v (x := .int .i64 (y.pc)) rfl
    have H := H.front 6 rfl
    have H := H.gr_dats (by rw [flat_len intE 1 (fun _ => rfl)])
    have H := H.mk_s
    have H := H.front 6 rfl
    have H := Tr.Inv.shut (d := y.enc) H
    rw [← List.append_assoc, show (x.actors.take k).flatMap GDequeActor.enc ++ y.enc = (x.actors.take (k + 1)).flatMap GDequeActor.enc by rw [List.take_add_one, hy, List.flatMap_append]; simp] at H
    have H : Tr.Inv w0 [] w [Gr (.slice (some ⟨rb, 0, none⟩) x.actors.length c10) 119 5 x.actors.length ((x.actors.take (k + 1)).flatMap GDequeActor.enc ++ (us.drop ((k + 1) * 5)).map D.v), Cel g2 [.int .i64 (0), .int .i64 (0), .slice none 0 0, .slice none 0 0, .slice none 0 0, .slice none 0 0] 30, Gr (.slice A7 x.buffer.length c8) 2 1 x.buffer.length (x.buffer.flatMap intE), Gr (.slice A11 x.taken.length c12) 36 2 x.taken.length (x.taken.flatMap GHanded.enc), Gr (.slice A13 x.refused.length c14) 2 1 x.refused.length (x.refused.flatMap intE), Cel g1 [.int .i64 (x.top), .int .i64 (x.bottom), .slice A7 x.buffer.length c8, .slice (some ⟨rb, 0, none⟩) x.actors.length c10, .slice A11 x.taken.length c12, .slice A13 x.refused.length c14] 30] := H
    have H := H.front 5 rfl
    have H := H.front 5 rfl
    have H := H.front 5 rfl
    have H := H.front 5 rfl
    have H := H.front 5 rfl
    have H := H.front 5 rfl
    exact then_n ⟨_, by omega, k + 1, rfl, by omega, (Env.pick E (Env.pick E (Env.pick E (Env.pick E E.nil rfl) rfl) rfl) rfl), H⟩
  ·
   skip
   have hkn : k = x.actors.length := by omega
   rw [hkn, List.take_length, show us.drop (x.actors.length * 5) = [] from List.drop_eq_nil_of_le (by omega), List.map_nil, List.append_nil] at H
   have H : Tr.Inv w0 [] w [Gr (.slice (some ⟨rb, 0, none⟩) x.actors.length c10) 119 5 x.actors.length (x.actors.flatMap GDequeActor.enc), Cel g2 [.int .i64 (0), .int .i64 (0), .slice none 0 0, .slice none 0 0, .slice none 0 0, .slice none 0 0] 30, Gr (.slice A7 x.buffer.length c8) 2 1 x.buffer.length (x.buffer.flatMap intE), Gr (.slice A11 x.taken.length c12) 36 2 x.taken.length (x.taken.flatMap GHanded.enc), Gr (.slice A13 x.refused.length c14) 2 1 x.refused.length (x.refused.flatMap intE), Cel g1 [.int .i64 (x.top), .int .i64 (x.bottom), .slice A7 x.buffer.length c8, .slice (some ⟨rb, 0, none⟩) x.actors.length c10, .slice A11 x.taken.length c12, .slice A13 x.refused.length c14] 30] := H
   refine wp_seq (wp_region_lit ?_)
   refine wv E rfl (r_bin (E.tmp rfl) (E.tmp rfl) (b_lss (b := false) (by simp; omega))) fun a E => ?_
   refine wpList_nil (then_n (wp_seq ?_))
   refine cond_f E rfl rfl ?_
   refine wp_exit (then_e (then_e (inb_ee (then_n (wp_seq (wp_region_lit ?_))))))
   refine wv E rfl (r_loads (us := [.int .i64 (x.top), .int .i64 (x.bottom), .slice A7 x.buffer.length c8, .slice (some ⟨rb, 0, none⟩) x.actors.length c10, .slice A11 x.taken.length c12, .slice A13 x.refused.length c14]) (E.tmp rfl) ag_30_16 sz_30_16 (H.cellsAt 5 rfl)) fun a E => ?_
   refine w_stores (us := [.int .i64 (x.top), .int .i64 (x.bottom), .slice A7 x.buffer.length c8, .slice (some ⟨rb, 0, none⟩) x.actors.length c10, .slice A11 x.taken.length c12, .slice A13 x.refused.length c14]) (cs' := [.int .i64 (x.top), .int .i64 (x.bottom), .slice A7 x.buffer.length c8, .slice (some ⟨rb, 0, none⟩) x.actors.length c10, .slice A11 x.taken.length c12, .slice A13 x.refused.length c14]) (rs' := [_, Cel _ [.int .i64 (x.top), .int .i64 (x.bottom), .slice A7 x.buffer.length c8, .slice (some ⟨rb, 0, none⟩) x.actors.length c10, .slice A11 x.taken.length c12, .slice A13 x.refused.length c14] _, _, _, _, _]) E (E.tmp rfl) (E.tmp rfl) rfl sz_30_16 H (i := 1) rfl rfl rfl rfl (fun a w E H => ?_)
   refine wpList_nil (then_n (wp_ret ?_))
   refine post1 E rfl (out_c (us := [.int .i64 (x.top), .int .i64 (x.bottom), .slice A7 x.buffer.length c8, .slice (some ⟨rb, 0, none⟩) x.actors.length c10, .slice A11 x.taken.length c12, .slice A13 x.refused.length c14]) E rfl ag_30_16 sz_30_16 (H.cellsAt 1 rfl)) ?_
   have H := H.front 4 rfl
   have H := H.front 4 rfl
   have H := H.front 2 rfl
   have H := H.front 4 rfl
   have H := H.drop 4 rfl
   have H := H.drop 4 rfl
   exact ⟨_, _, _, _, _, _, _, _, rfl, H⟩
end Go.Proofs.Ythelpioccjjgfaa
