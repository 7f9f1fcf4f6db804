/- What the laws number and look for again in these types. Printed by gen_mk.py. -/
import Derived.Test.YthelpioccjjgfaaProg
import Derived.Test.YthelpioccjjgfaaMk
import Derived.Test.YthelpioccjjgfaaDDq
import Derived.BigGuardPart
import Derived.Outline
import Derived.Deep.CutBlock
set_option linter.unusedSimpArgs false
set_option linter.unusedVariables false
namespace Go.Tr
open Go Go.RowKit
def GDeque.mked (x : GDeque) (k : Int) : List D := [.v (.int .i64 x.top)] ++ ([.v (.int .i64 x.bottom)] ++ ([.sl x.buffer.length (mkN (x.buffer.flatMap intE) (k))] ++ ([.sl x.actors.length (mkN (x.actors.flatMap GDequeActor.enc) (k + (cN (x.buffer.flatMap intE) : Nat)))] ++ ([.sl x.taken.length (mkN (x.taken.flatMap GHanded.enc) (k + (cN (x.buffer.flatMap intE) : Nat) + (cN (x.actors.flatMap GDequeActor.enc) : Nat)))] ++ ([.sl x.refused.length (mkN (x.refused.flatMap intE) (k + (cN (x.buffer.flatMap intE) : Nat) + (cN (x.actors.flatMap GDequeActor.enc) : Nat) + (cN (x.taken.flatMap GHanded.enc) : Nat)))])))))
def GDeque.cnt (x : GDeque) : Nat := cN (x.buffer.flatMap intE) + cN (x.actors.flatMap GDequeActor.enc) + cN (x.taken.flatMap GHanded.enc) + cN (x.refused.flatMap intE)
theorem GDequeActor.cnE (x : GDequeActor) : cN x.enc ≤ 32 * (1 + x.wt) := by
  have h0 := cN_flat_le (f := intE) (g := (fun _ => 0)) intE_cn x.todo
  have hw : x.wt = wtl (fun _ => 0) x.todo := rfl
  have hc : cN x.enc = cN (x.todo.flatMap intE) + 1 + 1 + 1 + 1 := by show cN [.sl x.todo.length (x.todo.flatMap intE), .v (.int .i64 x.pc), .v (.int .i64 x.t), .v (.int .i64 x.b), .v (.int .i64 x.x)] = _; simp only [cN_cons, cD_v, cD_sl, cN_nil] <;> omega
  omega
theorem GHanded.cnE (x : GHanded) : cN x.enc ≤ 32 * (1 + (fun _ => 0) x) := by
  have hc : cN x.enc = 1 + 1 := by show cN [.v (.int .i64 x.actor), .v (.int .i64 x.value)] = _; simp only [cN_cons, cD_v, cD_sl, cN_nil] <;> omega
  omega
theorem GDeque.cnE (x : GDeque) : cN x.enc ≤ 32 * (1 + x.wt) := by
  have h2 := cN_flat_le (f := intE) (g := (fun _ => 0)) intE_cn x.buffer
  have h3 := cN_flat_le (f := GDequeActor.enc) (g := GDequeActor.wt) GDequeActor.cnE x.actors
  have h4 := cN_flat_le (f := GHanded.enc) (g := (fun _ => 0)) GHanded.cnE x.taken
  have h5 := cN_flat_le (f := intE) (g := (fun _ => 0)) intE_cn x.refused
  have hw : x.wt = wtl (fun _ => 0) x.buffer + wtl GDequeActor.wt x.actors + wtl (fun _ => 0) x.taken + wtl (fun _ => 0) x.refused := rfl
  have hc : cN x.enc = 1 + 1 + cN (x.buffer.flatMap intE) + cN (x.actors.flatMap GDequeActor.enc) + cN (x.taken.flatMap GHanded.enc) + cN (x.refused.flatMap intE) := by show cN [.v (.int .i64 x.top), .v (.int .i64 x.bottom), .sl x.buffer.length (x.buffer.flatMap intE), .sl x.actors.length (x.actors.flatMap GDequeActor.enc), .sl x.taken.length (x.taken.flatMap GHanded.enc), .sl x.refused.length (x.refused.flatMap intE)] = _; simp only [cN_cons, cD_v, cD_sl, cN_nil] <;> omega
  omega
theorem GDeque.cnt_le (x : GDeque) : x.cnt ≤ 32 * x.wt := by
  have h2 := cN_flat_le (f := intE) (g := (fun _ => 0)) intE_cn x.buffer
  have h3 := cN_flat_le (f := GDequeActor.enc) (g := GDequeActor.wt) GDequeActor.cnE x.actors
  have h4 := cN_flat_le (f := GHanded.enc) (g := (fun _ => 0)) GHanded.cnE x.taken
  have h5 := cN_flat_le (f := intE) (g := (fun _ => 0)) intE_cn x.refused
  have hw : x.wt = wtl (fun _ => 0) x.buffer + wtl GDequeActor.wt x.actors + wtl (fun _ => 0) x.taken + wtl (fun _ => 0) x.refused := rfl
  have hc : x.cnt = cN (x.buffer.flatMap intE) + cN (x.actors.flatMap GDequeActor.enc) + cN (x.taken.flatMap GHanded.enc) + cN (x.refused.flatMap intE) := rfl
  omega
end Go.Tr
namespace Go.Proofs.Ythelpioccjjgfaa
open Go Go.RowKit Go.Proofs Go.Tr
set_option maxHeartbeats 4000000 in
theorem markInt64S_any (xs : List Int) (k : Int) {A : Option Addr} {c lo : Nat} {bs} (w : World) (hx : T1 w (.sl xs.length (xs.flatMap intE)) bs (.slice A xs.length c)) (ho : Own lo w bs) (hn' : xs.length ≤ maxLen) (hk0 : 0 ≤ k) (hk1 : k + (cN (xs.flatMap intE) : Nat) ≤ 4611686018427387904) :
    Calls Try.prog 57 #[.slice A xs.length c, .int .i64 k] w fun e w' => ∃ r : Int, e = .returned (.int .i64 r) ∧ Hid (r = k + (cN (xs.flatMap intE) : Nat)) ∧ T1 w' (.sl xs.length (mkN (xs.flatMap intE) k)) bs (.slice A xs.length c) ∧ Onl bs w w' ∧ Own lo w' bs := by
  unfold maxLen at hn'
  obtain ⟨n, hn⟩ : ∃ n, xs.length = n := ⟨_, rfl⟩
  rw [hn] at hx hn' ⊢
  have Hn : Hid (xs.length = n) := hn
  clear hn
  have hkk := Lib.hid hk1
  clear hk1
  go_enter Try.func57, Try.ntmps57
  go_wp2_with fail
  go_loopw [1, 5] (fun l i w' => ∃ (j : Nat) (m : Int), j ≤ n ∧ i = .int .i64 j ∧ l = .int .i64 m ∧ Hid (m = k + (cN ((xs.take j).flatMap intE) : Nat)) ∧ 0 ≤ m ∧ T1 w' (.sl n (mkN ((xs.take j).flatMap intE) k ++ (xs.drop j).flatMap intE)) bs (.slice A n c) ∧ Onl bs w w' ∧ Own lo w' bs) (fun _ i _ => n - (intOf i).toNat)
  case atStart => exact ⟨0, k, Nat.zero_le _, rfl, rfl, Lib.hid (by simp [cN_nil]), hk0, by simpa [mkN_nil] using hx, Onl.refl _ _, ho⟩
  case round =>
    obtain ⟨j, m, hj, rfl, rfl, hm, hm0, ht, hon, hw⟩ := hrel
    by_cases hlt : j < n
    · obtain ⟨x, hxk, hsp, hll, hsn, hdr⟩ := flat_split intE 1 (fun _ => rfl) Hn hlt
      rw [hdr.out, List.flatMap_cons] at ht
      have hml : (mkN ((xs.take j).flatMap intE) k).length = j * 1 := by rw [mkN_len, hll]
      generalize hL : mkN ((xs.take j).flatMap intE) k = L at ht hml
      have HL := Lib.hid hL
      clear hL hll
      have hcx : Hid (cN (intE x) = 1) := by show cN [.v (.int .i64 x)] = _; simp only [cN_cons, cD_v, cD_sl, cN_nil] <;> omega
      have hbd : m + 1 ≤ 4611686018427387904 := by
        have h1 := hm.out; have h2 := hkk.out; have h3 := hcx.out
        have h4 := hsp.out
        have h5 : cN (xs.flatMap intE) = cN ((xs.take j).flatMap intE) + (cN (intE x) + cN ((xs.drop (j + 1)).flatMap intE)) := by rw [h4, cN_append, cN_append]
        omega
      replace ht : T1 wr (.sl n (L ++ (.v (.int .i64 x)) :: (xs.drop (j + 1)).flatMap intE)) bs (.slice A n c) := ht
      generalize hR : (xs.drop (j + 1)).flatMap intE = R at ht
      have HR := Lib.hid hR
      clear hR
      obtain ⟨b, off, rfl, -, hbm, hbl, hblo, hfz⟩ := ht.row hw
      have z0_0 : T1 wr (.sl n (L ++ (.v (.int .i64 x)) :: R)) bs (.slice (some ⟨b, off, none⟩) n c) := by exact ht
      have y0_0 := (z0_0.leaf hw (o := off + j) rfl (by simp only [List.length_append, List.length_cons, List.length_nil, hml] <;> omega)).1
      obtain ⟨t0, u0, v0⟩ := (ht.leaf hw (o := off + j) rfl (by simp only [List.length_append, List.length_cons, List.length_nil, hml] <;> omega)).2 (.int .i64 m) rfl
      replace t0 : T1 (World.setCell wr ⟨b, off + j, none⟩ (.int .i64 m)) (.sl n (L ++ (.v (.int .i64 m)) :: R)) bs (.slice (some ⟨b, off, none⟩) n c) := t0
      clear z0_0
      go_wp2_with fail
      have hmk : mkN (intE x) m = [.v (.int .i64 m)] := by
        show mkN [.v (.int .i64 x)] m = _
        simp only [mkN_cons, mkN_nil, mkD_int, mkD_sl, cD_v, cD_sl]
        all_goals (exact (cons_eq (vI_eq (by omega)) rfl))
      have hfin : mkN ((xs.take (j + 1)).flatMap intE) k ++ (xs.drop (j + 1)).flatMap intE = L ++ (.v (.int .i64 m)) :: R := by
        rw [hsn.out, mkN_append, HL.out, ← hm.out, hmk, List.append_assoc, HR.out]; rfl
      exact ⟨⟨j + 1, m + 1, by omega, by go_num, by first | rfl | go_num, Lib.hid (by rw [hsn.out, cN_append]; have h8 := hcx.out; have h9 := hm.out; omega), by omega, by rw [hfin]; exact t0, (hon).trans u0, v0⟩, by simp [intOf]; omega⟩
    · have : j = n := by omega
      subst this
      go_wp2_with fail
      go_ret
      have hl := Hn.out
      rw [List.take_of_length_le (by omega), List.drop_of_length_le (by omega)] at ht
      have hm' := hm.out
      rw [List.take_of_length_le (by omega)] at hm'
      exact ⟨m, rfl, hm', by simpa using ht, hon, hw⟩

set_option maxHeartbeats 4000000 in
theorem heldInt64S_any (xs : List Int) (k r : Int) (n : Nat) {A : Option Addr} {c : Nat} {bs : List Nat} (w : World) (hx : T1 w (.sl n (mkN (xs.flatMap intE) k)) bs (.slice A n c)) (Hn : Hid (xs.length = n)) (hk0 : 0 ≤ k) (hk1 : r ≤ 4611686018427387904) (Hr : Hid (r = k + (cN (xs.flatMap intE) : Nat))) : Calls Try.prog 144 #[.slice A n c, .int .i64 k] w fun e w' => e = .returned (.int .i64 (r)) ∧ Ext w w' := by
  refine quiet_start fun e => ?_
  have hn := hx.nle
  go_enter Try.func144, Try.ntmps144
  go_wp2_with fail
  repeat (refine wp_region_ext0 _ (by kernel_rfl) (by kernel_rfl) ?_; (repeat (go_big_quiet_step (fail))); refine wpQuiet_nil ?_; intro e; go_wp2_with fail)
  go_loopw [1, 5] (fun l i w' => ∃ (j : Nat) (m : Int), j ≤ n ∧ i = .int .i64 j ∧ l = .int .i64 m ∧ Hid (m = k + (cN ((xs.take j).flatMap intE) : Nat)) ∧ 0 ≤ m ∧ ∃ e : ExtOf w, w' = e.to) (fun _ i _ => n - (intOf i).toNat)
  case atStart => exact ⟨0, k, Nat.zero_le _, rfl, rfl, Lib.hid (by simp [cN_nil]), hk0, _, rfl⟩
  case round =>
    obtain ⟨j, m, hj, rfl, rfl, hm, hm0, e, rfl⟩ := hrel
    by_cases hlt : j < n
    · obtain ⟨x, hxk, hsp, hll, hsn, -⟩ := flat_split intE 1 (fun _ => rfl) Hn hlt
      have hcx : Hid (cN (intE x) = 1) := by show cN [.v (.int .i64 x)] = _; simp only [cN_cons, cD_v, cD_sl, cN_nil] <;> omega
      have hbd : m + 1 ≤ 4611686018427387904 := by
        have h1 := hm.out; have h2 := Hr.out; have h3 := hcx.out
        have h5 : cN (xs.flatMap intE) = cN ((xs.take j).flatMap intE) + (cN (intE x) + cN ((xs.drop (j + 1)).flatMap intE)) := by rw [hsp.out, cN_append, cN_append]
        omega
      have hmk : mkN (intE x) m = [.v (.int .i64 (m))] := by
        show mkN [.v (.int .i64 x)] m = _
        simp only [mkN_cons, mkN_nil, mkD_int, mkD_sl, cD_v, cD_sl]
        all_goals (exact (cons_eq (vI_eq (by omega)) rfl))
      have hxx := hx
      rw [hsp.out, mkN_append, mkN_append, ← hm.out, hmk] at hxx
      have hml : (mkN ((xs.take j).flatMap intE) k).length = j * 1 := by rw [mkN_len, hll]
      generalize hL : mkN ((xs.take j).flatMap intE) k = L at hxx hml
      clear hL hll hmk
      generalize hR : mkN ((xs.drop (j + 1)).flatMap intE) (m + (cN (intE x) : Nat)) = R at hxx
      clear hR
      replace hxx : T1 w (.sl n (L ++ (.v (.int .i64 (m))) :: R)) bs (.slice A n c) := hxx
      obtain ⟨b, off, rfl⟩ := hxx.krow
      have z0 : T1 w (.sl n (L ++ (.v (.int .i64 (m))) :: R)) bs (.slice (some ⟨b, off, none⟩) n c) := by exact hxx
      have y0 := z0.kleaf (o := off + j) rfl (by simp only [List.length_append, List.length_cons, List.length_nil, hml] <;> omega)
      clear hxx z0
      go_wp2_with fail
      repeat (refine wp_region_ext0 _ (by kernel_rfl) (by kernel_rfl) ?_; (repeat (go_big_quiet_step (fail))); refine wpQuiet_nil ?_; intro e; go_wp2_with fail)
      exact ⟨⟨j + 1, m + 1, by omega, by go_num, by first | rfl | go_num, Lib.hid (by rw [hsn.out, cN_append]; have h8 := hcx.out; have h9 := hm.out; omega), by omega, _, rfl⟩, by simp [intOf]; omega⟩
    · have : j = n := by omega
      subst this
      have E : Hid (r = m) := by
        have h1 := hm.out; have h2 := Hr.out; have h3 := Hn.out
        rw [List.take_of_length_le (by omega)] at h1
        show _ = _; omega
      go_wp2_with fail
      repeat (refine wp_region_ext0 _ (by kernel_rfl) (by kernel_rfl) ?_; (repeat (go_big_quiet_step (fail))); refine wpQuiet_nil ?_; intro e; go_wp2_with fail)
      go_ret
      exact ⟨by rw [E.out]; rfl, _, rfl⟩

set_option maxHeartbeats 4000000 in
theorem markDequeActorS_any (xs : List GDequeActor) (k : Int) {A : Option Addr} {c lo : Nat} {bs} (w : World) (hx : T1 w (.sl xs.length (xs.flatMap GDequeActor.enc)) bs (.slice A xs.length c)) (ho : Own lo w bs) (hn' : xs.length ≤ maxLen) (hk0 : 0 ≤ k) (hk1 : k + (cN (xs.flatMap GDequeActor.enc) : Nat) ≤ 4611686018427387904) :
    Calls Try.prog 142 #[.slice A xs.length c, .int .i64 k] w fun e w' => ∃ r : Int, e = .returned (.int .i64 r) ∧ Hid (r = k + (cN (xs.flatMap GDequeActor.enc) : Nat)) ∧ T1 w' (.sl xs.length (mkN (xs.flatMap GDequeActor.enc) k)) bs (.slice A xs.length c) ∧ Onl bs w w' ∧ Own lo w' bs := by
  unfold maxLen at hn'
  obtain ⟨n, hn⟩ : ∃ n, xs.length = n := ⟨_, rfl⟩
  rw [hn] at hx hn' ⊢
  have Hn : Hid (xs.length = n) := hn
  clear hn
  have hkk := Lib.hid hk1
  clear hk1
  go_enter Try.func142, Try.ntmps142
  go_wp2_with fail
  go_loopw [1, 5] (fun l i w' => ∃ (j : Nat) (m : Int), j ≤ n ∧ i = .int .i64 j ∧ l = .int .i64 m ∧ Hid (m = k + (cN ((xs.take j).flatMap GDequeActor.enc) : Nat)) ∧ 0 ≤ m ∧ T1 w' (.sl n (mkN ((xs.take j).flatMap GDequeActor.enc) k ++ (xs.drop j).flatMap GDequeActor.enc)) bs (.slice A n c) ∧ Onl bs w w' ∧ Own lo w' bs) (fun _ i _ => n - (intOf i).toNat)
  case atStart => exact ⟨0, k, Nat.zero_le _, rfl, rfl, Lib.hid (by simp [cN_nil]), hk0, by simpa [mkN_nil] using hx, Onl.refl _ _, ho⟩
  case round =>
    obtain ⟨j, m, hj, rfl, rfl, hm, hm0, ht, hon, hw⟩ := hrel
    by_cases hlt : j < n
    · obtain ⟨x, hxk, hsp, hll, hsn, hdr⟩ := flat_split GDequeActor.enc 5 GDequeActor.enc_len Hn hlt
      rw [hdr.out, List.flatMap_cons] at ht
      have hml : (mkN ((xs.take j).flatMap GDequeActor.enc) k).length = j * 5 := by rw [mkN_len, hll]
      generalize hL : mkN ((xs.take j).flatMap GDequeActor.enc) k = L at ht hml
      have HL := Lib.hid hL
      clear hL hll
      have hcx : Hid (cN (GDequeActor.enc x) = cN (x.todo.flatMap intE) + 1 + 1 + 1 + 1) := by show cN [.sl x.todo.length (x.todo.flatMap intE), .v (.int .i64 x.pc), .v (.int .i64 x.t), .v (.int .i64 x.b), .v (.int .i64 x.x)] = _; simp only [cN_cons, cD_v, cD_sl, cN_nil] <;> omega
      have hbd : m + (cN (x.todo.flatMap intE) : Nat) + 1 + 1 + 1 + 1 ≤ 4611686018427387904 := by
        have h1 := hm.out; have h2 := hkk.out; have h3 := hcx.out
        have h4 := hsp.out
        have h5 : cN (xs.flatMap GDequeActor.enc) = cN ((xs.take j).flatMap GDequeActor.enc) + (cN (GDequeActor.enc x) + cN ((xs.drop (j + 1)).flatMap GDequeActor.enc)) := by rw [h4, cN_append, cN_append]
        omega
      replace ht : T1 wr (.sl n (L ++ (.sl x.todo.length (x.todo.flatMap intE)) :: (.v (.int .i64 x.pc)) :: (.v (.int .i64 x.t)) :: (.v (.int .i64 x.b)) :: (.v (.int .i64 x.x)) :: (xs.drop (j + 1)).flatMap GDequeActor.enc)) bs (.slice A n c) := ht
      generalize hR : (xs.drop (j + 1)).flatMap GDequeActor.enc = R at ht
      have HR := Lib.hid hR
      clear hR
      obtain ⟨b, off, rfl, -, hbm, hbl, hblo, hfz⟩ := ht.row hw
      have z0_0 : T1 wr (.sl n (L ++ (.sl x.todo.length (x.todo.flatMap intE)) :: (.v (.int .i64 x.pc)) :: (.v (.int .i64 x.t)) :: (.v (.int .i64 x.b)) :: (.v (.int .i64 x.x)) :: R)) bs (.slice (some ⟨b, off, none⟩) n c) := by exact ht
      obtain ⟨A0_0, c0_0, b0_0, y0_0, -⟩ := z0_0.sub hw (o := off + j * 5) rfl (by simp only [List.length_append, List.length_cons, List.length_nil, hml] <;> omega)
      have g0 := ht
      obtain ⟨A0, c0, b0, k0, s0, n0, o0, nb0, back0⟩ := g0.sub hw (o := off + j * 5) rfl (by simp only [List.length_append, List.length_cons, List.length_nil, hml] <;> omega)
      obtain ⟨rfl, rfl⟩ : A0_0 = A0 ∧ c0_0 = c0 := by
        have hh := k0
        rw [y0_0] at hh; simpa using hh
      clear k0
      have HB0 := Lib.hid back0
      clear back0 g0
      clear z0_0
      go_wp2_with fail
      refine (markInt64S_any x.todo (m) _ s0 o0 n0 (by omega) (by omega)).mono ?_
      rintro _ W1 ⟨r1, rfl, hr1, q0, f0, -⟩
      obtain ⟨t0, u0, v0⟩ := HB0.out W1 _ f0 q0
      have p1 : 0 ≤ r1 := by have := hr1.out; omega
      have l1 : r1 + 1 + 1 + 1 + 1 ≤ 4611686018427387904 := by have := hr1.out; omega
      replace t0 : T1 W1 (.sl n (L ++ (.sl x.todo.length (mkN (x.todo.flatMap intE) (m))) :: (.v (.int .i64 x.pc)) :: (.v (.int .i64 x.t)) :: (.v (.int .i64 x.b)) :: (.v (.int .i64 x.x)) :: R)) bs (.slice (some ⟨b, off, none⟩) n c) := t0
      have hfz1 : ∀ o, World.frozen? W1 ⟨b, o, none⟩ = false := fun o => (by obtain ⟨_, cur, tt, hrow⟩ := v0.2 b hbm; simp [World.frozen?, hrow])
      have z1_1 : T1 W1 (.sl n ((L ++ [.sl x.todo.length (mkN (x.todo.flatMap intE) (m))]) ++ (.v (.int .i64 x.pc)) :: (.v (.int .i64 x.t)) :: (.v (.int .i64 x.b)) :: (.v (.int .i64 x.x)) :: R)) bs (.slice (some ⟨b, off, none⟩) n c) := by rw [List.append_assoc]; exact t0
      have y1_1 := (z1_1.leaf v0 (o := off + j * 5 + 1) rfl (by simp only [List.length_append, List.length_cons, List.length_nil, hml] <;> omega)).1
      have z1_2 : T1 W1 (.sl n ((L ++ [.sl x.todo.length (mkN (x.todo.flatMap intE) (m)), .v (.int .i64 x.pc)]) ++ (.v (.int .i64 x.t)) :: (.v (.int .i64 x.b)) :: (.v (.int .i64 x.x)) :: R)) bs (.slice (some ⟨b, off, none⟩) n c) := by rw [List.append_assoc]; exact t0
      have y1_2 := (z1_2.leaf v0 (o := off + j * 5 + 2) rfl (by simp only [List.length_append, List.length_cons, List.length_nil, hml] <;> omega)).1
      have z1_3 : T1 W1 (.sl n ((L ++ [.sl x.todo.length (mkN (x.todo.flatMap intE) (m)), .v (.int .i64 x.pc), .v (.int .i64 x.t)]) ++ (.v (.int .i64 x.b)) :: (.v (.int .i64 x.x)) :: R)) bs (.slice (some ⟨b, off, none⟩) n c) := by rw [List.append_assoc]; exact t0
      have y1_3 := (z1_3.leaf v0 (o := off + j * 5 + 3) rfl (by simp only [List.length_append, List.length_cons, List.length_nil, hml] <;> omega)).1
      have z1_4 : T1 W1 (.sl n ((L ++ [.sl x.todo.length (mkN (x.todo.flatMap intE) (m)), .v (.int .i64 x.pc), .v (.int .i64 x.t), .v (.int .i64 x.b)]) ++ (.v (.int .i64 x.x)) :: R)) bs (.slice (some ⟨b, off, none⟩) n c) := by rw [List.append_assoc]; exact t0
      have y1_4 := (z1_4.leaf v0 (o := off + j * 5 + 4) rfl (by simp only [List.length_append, List.length_cons, List.length_nil, hml] <;> omega)).1
      replace t0 : T1 W1 (.sl n ((L ++ [.sl x.todo.length (mkN (x.todo.flatMap intE) (m))]) ++ (.v (.int .i64 x.pc)) :: (.v (.int .i64 x.t)) :: (.v (.int .i64 x.b)) :: (.v (.int .i64 x.x)) :: R)) bs (.slice (some ⟨b, off, none⟩) n c) := by rw [List.append_assoc]; exact t0
      obtain ⟨t1, u1, v1⟩ := (t0.leaf v0 (o := off + j * 5 + 1) rfl (by simp only [List.length_append, List.length_cons, List.length_nil, hml] <;> omega)).2 (.int .i64 (r1)) rfl
      rw [List.append_assoc] at t1
      replace t1 : T1 (World.setCell W1 ⟨b, off + j * 5 + 1, none⟩ (.int .i64 (r1))) (.sl n (L ++ (.sl x.todo.length (mkN (x.todo.flatMap intE) (m))) :: (.v (.int .i64 (r1))) :: (.v (.int .i64 x.t)) :: (.v (.int .i64 x.b)) :: (.v (.int .i64 x.x)) :: R)) bs (.slice (some ⟨b, off, none⟩) n c) := t1
      replace t1 : T1 (World.setCell W1 ⟨b, off + j * 5 + 1, none⟩ (.int .i64 (r1))) (.sl n ((L ++ [.sl x.todo.length (mkN (x.todo.flatMap intE) (m)), .v (.int .i64 (r1))]) ++ (.v (.int .i64 x.t)) :: (.v (.int .i64 x.b)) :: (.v (.int .i64 x.x)) :: R)) bs (.slice (some ⟨b, off, none⟩) n c) := by rw [List.append_assoc]; exact t1
      obtain ⟨t2, u2, v2⟩ := (t1.leaf v1 (o := off + j * 5 + 2) rfl (by simp only [List.length_append, List.length_cons, List.length_nil, hml] <;> omega)).2 (.int .i64 (r1 + 1)) rfl
      rw [List.append_assoc] at t2
      replace t2 : T1 (World.setCell (World.setCell W1 ⟨b, off + j * 5 + 1, none⟩ (.int .i64 (r1))) ⟨b, off + j * 5 + 2, none⟩ (.int .i64 (r1 + 1))) (.sl n (L ++ (.sl x.todo.length (mkN (x.todo.flatMap intE) (m))) :: (.v (.int .i64 (r1))) :: (.v (.int .i64 (r1 + 1))) :: (.v (.int .i64 x.b)) :: (.v (.int .i64 x.x)) :: R)) bs (.slice (some ⟨b, off, none⟩) n c) := t2
      replace t2 : T1 (World.setCell (World.setCell W1 ⟨b, off + j * 5 + 1, none⟩ (.int .i64 (r1))) ⟨b, off + j * 5 + 2, none⟩ (.int .i64 (r1 + 1))) (.sl n ((L ++ [.sl x.todo.length (mkN (x.todo.flatMap intE) (m)), .v (.int .i64 (r1)), .v (.int .i64 (r1 + 1))]) ++ (.v (.int .i64 x.b)) :: (.v (.int .i64 x.x)) :: R)) bs (.slice (some ⟨b, off, none⟩) n c) := by rw [List.append_assoc]; exact t2
      obtain ⟨t3, u3, v3⟩ := (t2.leaf v2 (o := off + j * 5 + 3) rfl (by simp only [List.length_append, List.length_cons, List.length_nil, hml] <;> omega)).2 (.int .i64 (r1 + 1 + 1)) rfl
      rw [List.append_assoc] at t3
      replace t3 : T1 (World.setCell (World.setCell (World.setCell W1 ⟨b, off + j * 5 + 1, none⟩ (.int .i64 (r1))) ⟨b, off + j * 5 + 2, none⟩ (.int .i64 (r1 + 1))) ⟨b, off + j * 5 + 3, none⟩ (.int .i64 (r1 + 1 + 1))) (.sl n (L ++ (.sl x.todo.length (mkN (x.todo.flatMap intE) (m))) :: (.v (.int .i64 (r1))) :: (.v (.int .i64 (r1 + 1))) :: (.v (.int .i64 (r1 + 1 + 1))) :: (.v (.int .i64 x.x)) :: R)) bs (.slice (some ⟨b, off, none⟩) n c) := t3
      replace t3 : T1 (World.setCell (World.setCell (World.setCell W1 ⟨b, off + j * 5 + 1, none⟩ (.int .i64 (r1))) ⟨b, off + j * 5 + 2, none⟩ (.int .i64 (r1 + 1))) ⟨b, off + j * 5 + 3, none⟩ (.int .i64 (r1 + 1 + 1))) (.sl n ((L ++ [.sl x.todo.length (mkN (x.todo.flatMap intE) (m)), .v (.int .i64 (r1)), .v (.int .i64 (r1 + 1)), .v (.int .i64 (r1 + 1 + 1))]) ++ (.v (.int .i64 x.x)) :: R)) bs (.slice (some ⟨b, off, none⟩) n c) := by rw [List.append_assoc]; exact t3
      obtain ⟨t4, u4, v4⟩ := (t3.leaf v3 (o := off + j * 5 + 4) rfl (by simp only [List.length_append, List.length_cons, List.length_nil, hml] <;> omega)).2 (.int .i64 (r1 + 1 + 1 + 1)) rfl
      rw [List.append_assoc] at t4
      replace t4 : T1 (World.setCell (World.setCell (World.setCell (World.setCell W1 ⟨b, off + j * 5 + 1, none⟩ (.int .i64 (r1))) ⟨b, off + j * 5 + 2, none⟩ (.int .i64 (r1 + 1))) ⟨b, off + j * 5 + 3, none⟩ (.int .i64 (r1 + 1 + 1))) ⟨b, off + j * 5 + 4, none⟩ (.int .i64 (r1 + 1 + 1 + 1))) (.sl n (L ++ (.sl x.todo.length (mkN (x.todo.flatMap intE) (m))) :: (.v (.int .i64 (r1))) :: (.v (.int .i64 (r1 + 1))) :: (.v (.int .i64 (r1 + 1 + 1))) :: (.v (.int .i64 (r1 + 1 + 1 + 1))) :: R)) bs (.slice (some ⟨b, off, none⟩) n c) := t4
      clear z1_1 z1_2 z1_3 z1_4
      go_wp2_with fail
      have hmk : mkN (GDequeActor.enc x) m = [.sl x.todo.length (mkN (x.todo.flatMap intE) (m)), .v (.int .i64 (r1)), .v (.int .i64 (r1 + 1)), .v (.int .i64 (r1 + 1 + 1)), .v (.int .i64 (r1 + 1 + 1 + 1))] := by
        show mkN [.sl x.todo.length (x.todo.flatMap intE), .v (.int .i64 x.pc), .v (.int .i64 x.t), .v (.int .i64 x.b), .v (.int .i64 x.x)] m = _
        simp only [mkN_cons, mkN_nil, mkD_int, mkD_sl, cD_v, cD_sl]
        all_goals (have h1 := hr1.out; exact (cons_eq (slK_eq (by omega)) (cons_eq (vI_eq (by omega)) (cons_eq (vI_eq (by omega)) (cons_eq (vI_eq (by omega)) (cons_eq (vI_eq (by omega)) rfl))))))
      have hfin : mkN ((xs.take (j + 1)).flatMap GDequeActor.enc) k ++ (xs.drop (j + 1)).flatMap GDequeActor.enc = L ++ (.sl x.todo.length (mkN (x.todo.flatMap intE) (m))) :: (.v (.int .i64 (r1))) :: (.v (.int .i64 (r1 + 1))) :: (.v (.int .i64 (r1 + 1 + 1))) :: (.v (.int .i64 (r1 + 1 + 1 + 1))) :: R := by
        rw [hsn.out, mkN_append, HL.out, ← hm.out, hmk, List.append_assoc, HR.out]; rfl
      exact ⟨⟨j + 1, r1 + 1 + 1 + 1 + 1, by omega, by go_num, by first | rfl | go_num, Lib.hid (by rw [hsn.out, cN_append]; have h1 := hr1.out; have h8 := hcx.out; have h9 := hm.out; omega), by omega, by rw [hfin]; exact t4, (((((hon).trans u0).trans u1).trans u2).trans u3).trans u4, v4⟩, by simp [intOf]; omega⟩
    · have : j = n := by omega
      subst this
      go_wp2_with fail
      go_ret
      have hl := Hn.out
      rw [List.take_of_length_le (by omega), List.drop_of_length_le (by omega)] at ht
      have hm' := hm.out
      rw [List.take_of_length_le (by omega)] at hm'
      exact ⟨m, rfl, hm', by simpa using ht, hon, hw⟩

set_option maxHeartbeats 4000000 in
theorem heldDequeActorS_any (xs : List GDequeActor) (k r : Int) (n : Nat) {A : Option Addr} {c : Nat} {bs : List Nat} (w : World) (hx : T1 w (.sl n (mkN (xs.flatMap GDequeActor.enc) k)) bs (.slice A n c)) (Hn : Hid (xs.length = n)) (hk0 : 0 ≤ k) (hk1 : r ≤ 4611686018427387904) (Hr : Hid (r = k + (cN (xs.flatMap GDequeActor.enc) : Nat))) : Calls Try.prog 145 #[.slice A n c, .int .i64 k] w fun e w' => e = .returned (.int .i64 (r)) ∧ Ext w w' := by
  refine quiet_start fun e => ?_
  have hn := hx.nle
  go_enter Try.func145, Try.ntmps145
  go_wp2_with fail
  repeat (refine wp_region_ext0 _ (by kernel_rfl) (by kernel_rfl) ?_; (repeat (go_big_quiet_step (fail))); refine wpQuiet_nil ?_; intro e; go_wp2_with fail)
  go_loopw [1, 5] (fun l i w' => ∃ (j : Nat) (m : Int), j ≤ n ∧ i = .int .i64 j ∧ l = .int .i64 m ∧ Hid (m = k + (cN ((xs.take j).flatMap GDequeActor.enc) : Nat)) ∧ 0 ≤ m ∧ ∃ e : ExtOf w, w' = e.to) (fun _ i _ => n - (intOf i).toNat)
  case atStart => exact ⟨0, k, Nat.zero_le _, rfl, rfl, Lib.hid (by simp [cN_nil]), hk0, _, rfl⟩
  case round =>
    obtain ⟨j, m, hj, rfl, rfl, hm, hm0, e, rfl⟩ := hrel
    by_cases hlt : j < n
    · obtain ⟨x, hxk, hsp, hll, hsn, -⟩ := flat_split GDequeActor.enc 5 GDequeActor.enc_len Hn hlt
      have hcx : Hid (cN (GDequeActor.enc x) = cN (x.todo.flatMap intE) + 1 + 1 + 1 + 1) := by show cN [.sl x.todo.length (x.todo.flatMap intE), .v (.int .i64 x.pc), .v (.int .i64 x.t), .v (.int .i64 x.b), .v (.int .i64 x.x)] = _; simp only [cN_cons, cD_v, cD_sl, cN_nil] <;> omega
      have hbd : m + (cN (x.todo.flatMap intE) : Nat) + 1 + 1 + 1 + 1 ≤ 4611686018427387904 := by
        have h1 := hm.out; have h2 := Hr.out; have h3 := hcx.out
        have h5 : cN (xs.flatMap GDequeActor.enc) = cN ((xs.take j).flatMap GDequeActor.enc) + (cN (GDequeActor.enc x) + cN ((xs.drop (j + 1)).flatMap GDequeActor.enc)) := by rw [hsp.out, cN_append, cN_append]
        omega
      obtain ⟨r1, hr1⟩ : ∃ q : Int, q = m + ((cN (x.todo.flatMap intE) : Nat) : Int) := ⟨_, rfl⟩
      have hmk : mkN (GDequeActor.enc x) m = [.sl x.todo.length (mkN (x.todo.flatMap intE) (m)), .v (.int .i64 (r1)), .v (.int .i64 (r1 + 1)), .v (.int .i64 (r1 + 1 + 1)), .v (.int .i64 (r1 + 1 + 1 + 1))] := by
        show mkN [.sl x.todo.length (x.todo.flatMap intE), .v (.int .i64 x.pc), .v (.int .i64 x.t), .v (.int .i64 x.b), .v (.int .i64 x.x)] m = _
        simp only [mkN_cons, mkN_nil, mkD_int, mkD_sl, cD_v, cD_sl]
        all_goals (exact (cons_eq (slK_eq (by omega)) (cons_eq (vI_eq (by omega)) (cons_eq (vI_eq (by omega)) (cons_eq (vI_eq (by omega)) (cons_eq (vI_eq (by omega)) rfl))))))
      have hxx := hx
      rw [hsp.out, mkN_append, mkN_append, ← hm.out, hmk] at hxx
      have hml : (mkN ((xs.take j).flatMap GDequeActor.enc) k).length = j * 5 := by rw [mkN_len, hll]
      generalize hL : mkN ((xs.take j).flatMap GDequeActor.enc) k = L at hxx hml
      clear hL hll hmk
      generalize hR : mkN ((xs.drop (j + 1)).flatMap GDequeActor.enc) (m + (cN (GDequeActor.enc x) : Nat)) = R at hxx
      clear hR
      replace hxx : T1 w (.sl n (L ++ (.sl x.todo.length (mkN (x.todo.flatMap intE) (m))) :: (.v (.int .i64 (r1))) :: (.v (.int .i64 (r1 + 1))) :: (.v (.int .i64 (r1 + 1 + 1))) :: (.v (.int .i64 (r1 + 1 + 1 + 1))) :: R)) bs (.slice A n c) := hxx
      obtain ⟨b, off, rfl⟩ := hxx.krow
      have z0 : T1 w (.sl n (L ++ (.sl x.todo.length (mkN (x.todo.flatMap intE) (m))) :: (.v (.int .i64 (r1))) :: (.v (.int .i64 (r1 + 1))) :: (.v (.int .i64 (r1 + 1 + 1))) :: (.v (.int .i64 (r1 + 1 + 1 + 1))) :: R)) bs (.slice (some ⟨b, off, none⟩) n c) := by exact hxx
      obtain ⟨A0, c0, b0, y0, s0, n0⟩ := z0.ksub (o := off + j * 5) rfl (by simp only [List.length_append, List.length_cons, List.length_nil, hml] <;> omega)
      have z1 : T1 w (.sl n ((L ++ [.sl x.todo.length (mkN (x.todo.flatMap intE) (m))]) ++ (.v (.int .i64 (r1))) :: (.v (.int .i64 (r1 + 1))) :: (.v (.int .i64 (r1 + 1 + 1))) :: (.v (.int .i64 (r1 + 1 + 1 + 1))) :: R)) bs (.slice (some ⟨b, off, none⟩) n c) := by rw [List.append_assoc]; exact hxx
      have y1 := z1.kleaf (o := off + j * 5 + 1) rfl (by simp only [List.length_append, List.length_cons, List.length_nil, hml] <;> omega)
      have z2 : T1 w (.sl n ((L ++ [.sl x.todo.length (mkN (x.todo.flatMap intE) (m)), .v (.int .i64 (r1))]) ++ (.v (.int .i64 (r1 + 1))) :: (.v (.int .i64 (r1 + 1 + 1))) :: (.v (.int .i64 (r1 + 1 + 1 + 1))) :: R)) bs (.slice (some ⟨b, off, none⟩) n c) := by rw [List.append_assoc]; exact hxx
      have y2 := z2.kleaf (o := off + j * 5 + 2) rfl (by simp only [List.length_append, List.length_cons, List.length_nil, hml] <;> omega)
      have z3 : T1 w (.sl n ((L ++ [.sl x.todo.length (mkN (x.todo.flatMap intE) (m)), .v (.int .i64 (r1)), .v (.int .i64 (r1 + 1))]) ++ (.v (.int .i64 (r1 + 1 + 1))) :: (.v (.int .i64 (r1 + 1 + 1 + 1))) :: R)) bs (.slice (some ⟨b, off, none⟩) n c) := by rw [List.append_assoc]; exact hxx
      have y3 := z3.kleaf (o := off + j * 5 + 3) rfl (by simp only [List.length_append, List.length_cons, List.length_nil, hml] <;> omega)
      have z4 : T1 w (.sl n ((L ++ [.sl x.todo.length (mkN (x.todo.flatMap intE) (m)), .v (.int .i64 (r1)), .v (.int .i64 (r1 + 1)), .v (.int .i64 (r1 + 1 + 1))]) ++ (.v (.int .i64 (r1 + 1 + 1 + 1))) :: R)) bs (.slice (some ⟨b, off, none⟩) n c) := by rw [List.append_assoc]; exact hxx
      have y4 := z4.kleaf (o := off + j * 5 + 4) rfl (by simp only [List.length_append, List.length_cons, List.length_nil, hml] <;> omega)
      clear hxx z0 z1 z2 z3 z4
      have p1 : 0 ≤ r1 := by omega
      have l1 : r1 ≤ 4611686018427387904 := by omega
      have ll1 : r1 + 1 + 1 + 1 + 1 ≤ 4611686018427387904 := by omega
      have Hr1 : Hid (r1 = m + ((cN (x.todo.flatMap intE) : Nat) : Int)) := hr1
      have C1 : Hid (QC Try.prog w _ _ _) := fun W hW => heldInt64S_any x.todo (m) r1 x.todo.length W (s0.below hW) Hid_rfl (by omega) l1 Hr1
      clear hr1
      go_wp2_with (first | (go_at_call 144; with_reducible refine (C1.out.at_ _).mono ?_; rintro _ _ ⟨rfl, e, rfl⟩))
      repeat (refine wp_region_ext0 _ (by kernel_rfl) (by kernel_rfl) ?_; (repeat (go_big_quiet_step ((first | with_reducible exact C1.out.at_ _)))); refine wpQuiet_nil ?_; intro e; go_wp2_with (first | (go_at_call 144; with_reducible refine (C1.out.at_ _).mono ?_; rintro _ _ ⟨rfl, e, rfl⟩)))
      exact ⟨⟨j + 1, r1 + 1 + 1 + 1 + 1, by omega, by go_num, by first | rfl | go_num, Lib.hid (by rw [hsn.out, cN_append]; have h1 := Hr1.out; have h8 := hcx.out; have h9 := hm.out; omega), by omega, _, rfl⟩, by simp [intOf]; omega⟩
    · have : j = n := by omega
      subst this
      have E : Hid (r = m) := by
        have h1 := hm.out; have h2 := Hr.out; have h3 := Hn.out
        rw [List.take_of_length_le (by omega)] at h1
        show _ = _; omega
      go_wp2_with fail
      repeat (refine wp_region_ext0 _ (by kernel_rfl) (by kernel_rfl) ?_; (repeat (go_big_quiet_step (fail))); refine wpQuiet_nil ?_; intro e; go_wp2_with fail)
      go_ret
      exact ⟨by rw [E.out]; rfl, _, rfl⟩

set_option maxHeartbeats 4000000 in
theorem markHandedS_any (xs : List GHanded) (k : Int) {A : Option Addr} {c lo : Nat} {bs} (w : World) (hx : T1 w (.sl xs.length (xs.flatMap GHanded.enc)) bs (.slice A xs.length c)) (ho : Own lo w bs) (hn' : xs.length ≤ maxLen) (hk0 : 0 ≤ k) (hk1 : k + (cN (xs.flatMap GHanded.enc) : Nat) ≤ 4611686018427387904) :
    Calls Try.prog 143 #[.slice A xs.length c, .int .i64 k] w fun e w' => ∃ r : Int, e = .returned (.int .i64 r) ∧ Hid (r = k + (cN (xs.flatMap GHanded.enc) : Nat)) ∧ T1 w' (.sl xs.length (mkN (xs.flatMap GHanded.enc) k)) bs (.slice A xs.length c) ∧ Onl bs w w' ∧ Own lo w' bs := by
  unfold maxLen at hn'
  obtain ⟨n, hn⟩ : ∃ n, xs.length = n := ⟨_, rfl⟩
  rw [hn] at hx hn' ⊢
  have Hn : Hid (xs.length = n) := hn
  clear hn
  have hkk := Lib.hid hk1
  clear hk1
  go_enter Try.func143, Try.ntmps143
  go_wp2_with fail
  go_loopw [1, 5] (fun l i w' => ∃ (j : Nat) (m : Int), j ≤ n ∧ i = .int .i64 j ∧ l = .int .i64 m ∧ Hid (m = k + (cN ((xs.take j).flatMap GHanded.enc) : Nat)) ∧ 0 ≤ m ∧ T1 w' (.sl n (mkN ((xs.take j).flatMap GHanded.enc) k ++ (xs.drop j).flatMap GHanded.enc)) bs (.slice A n c) ∧ Onl bs w w' ∧ Own lo w' bs) (fun _ i _ => n - (intOf i).toNat)
  case atStart => exact ⟨0, k, Nat.zero_le _, rfl, rfl, Lib.hid (by simp [cN_nil]), hk0, by simpa [mkN_nil] using hx, Onl.refl _ _, ho⟩
  case round =>
    obtain ⟨j, m, hj, rfl, rfl, hm, hm0, ht, hon, hw⟩ := hrel
    by_cases hlt : j < n
    · obtain ⟨x, hxk, hsp, hll, hsn, hdr⟩ := flat_split GHanded.enc 2 GHanded.enc_len Hn hlt
      rw [hdr.out, List.flatMap_cons] at ht
      have hml : (mkN ((xs.take j).flatMap GHanded.enc) k).length = j * 2 := by rw [mkN_len, hll]
      generalize hL : mkN ((xs.take j).flatMap GHanded.enc) k = L at ht hml
      have HL := Lib.hid hL
      clear hL hll
      have hcx : Hid (cN (GHanded.enc x) = 1 + 1) := by show cN [.v (.int .i64 x.actor), .v (.int .i64 x.value)] = _; simp only [cN_cons, cD_v, cD_sl, cN_nil] <;> omega
      have hbd : m + 1 + 1 ≤ 4611686018427387904 := by
        have h1 := hm.out; have h2 := hkk.out; have h3 := hcx.out
        have h4 := hsp.out
        have h5 : cN (xs.flatMap GHanded.enc) = cN ((xs.take j).flatMap GHanded.enc) + (cN (GHanded.enc x) + cN ((xs.drop (j + 1)).flatMap GHanded.enc)) := by rw [h4, cN_append, cN_append]
        omega
      replace ht : T1 wr (.sl n (L ++ (.v (.int .i64 x.actor)) :: (.v (.int .i64 x.value)) :: (xs.drop (j + 1)).flatMap GHanded.enc)) bs (.slice A n c) := ht
      generalize hR : (xs.drop (j + 1)).flatMap GHanded.enc = R at ht
      have HR := Lib.hid hR
      clear hR
      obtain ⟨b, off, rfl, -, hbm, hbl, hblo, hfz⟩ := ht.row hw
      have z0_0 : T1 wr (.sl n (L ++ (.v (.int .i64 x.actor)) :: (.v (.int .i64 x.value)) :: R)) bs (.slice (some ⟨b, off, none⟩) n c) := by exact ht
      have y0_0 := (z0_0.leaf hw (o := off + j * 2) rfl (by simp only [List.length_append, List.length_cons, List.length_nil, hml] <;> omega)).1
      have z0_1 : T1 wr (.sl n ((L ++ [.v (.int .i64 x.actor)]) ++ (.v (.int .i64 x.value)) :: R)) bs (.slice (some ⟨b, off, none⟩) n c) := by rw [List.append_assoc]; exact ht
      have y0_1 := (z0_1.leaf hw (o := off + j * 2 + 1) rfl (by simp only [List.length_append, List.length_cons, List.length_nil, hml] <;> omega)).1
      obtain ⟨t0, u0, v0⟩ := (ht.leaf hw (o := off + j * 2) rfl (by simp only [List.length_append, List.length_cons, List.length_nil, hml] <;> omega)).2 (.int .i64 m) rfl
      replace t0 : T1 (World.setCell wr ⟨b, off + j * 2, none⟩ (.int .i64 m)) (.sl n (L ++ (.v (.int .i64 m)) :: (.v (.int .i64 x.value)) :: R)) bs (.slice (some ⟨b, off, none⟩) n c) := t0
      replace t0 : T1 (World.setCell wr ⟨b, off + j * 2, none⟩ (.int .i64 m)) (.sl n ((L ++ [.v (.int .i64 m)]) ++ (.v (.int .i64 x.value)) :: R)) bs (.slice (some ⟨b, off, none⟩) n c) := by rw [List.append_assoc]; exact t0
      obtain ⟨t1, u1, v1⟩ := (t0.leaf v0 (o := off + j * 2 + 1) rfl (by simp only [List.length_append, List.length_cons, List.length_nil, hml] <;> omega)).2 (.int .i64 (m + 1)) rfl
      rw [List.append_assoc] at t1
      replace t1 : T1 (World.setCell (World.setCell wr ⟨b, off + j * 2, none⟩ (.int .i64 m)) ⟨b, off + j * 2 + 1, none⟩ (.int .i64 (m + 1))) (.sl n (L ++ (.v (.int .i64 m)) :: (.v (.int .i64 (m + 1))) :: R)) bs (.slice (some ⟨b, off, none⟩) n c) := t1
      clear z0_0 z0_1
      go_wp2_with fail
      have hmk : mkN (GHanded.enc x) m = [.v (.int .i64 m), .v (.int .i64 (m + 1))] := by
        show mkN [.v (.int .i64 x.actor), .v (.int .i64 x.value)] m = _
        simp only [mkN_cons, mkN_nil, mkD_int, mkD_sl, cD_v, cD_sl]
        all_goals (exact (cons_eq (vI_eq (by omega)) (cons_eq (vI_eq (by omega)) rfl)))
      have hfin : mkN ((xs.take (j + 1)).flatMap GHanded.enc) k ++ (xs.drop (j + 1)).flatMap GHanded.enc = L ++ (.v (.int .i64 m)) :: (.v (.int .i64 (m + 1))) :: R := by
        rw [hsn.out, mkN_append, HL.out, ← hm.out, hmk, List.append_assoc, HR.out]; rfl
      exact ⟨⟨j + 1, m + 1 + 1, by omega, by go_num, by first | rfl | go_num, Lib.hid (by rw [hsn.out, cN_append]; have h8 := hcx.out; have h9 := hm.out; omega), by omega, by rw [hfin]; exact t1, ((hon).trans u0).trans u1, v1⟩, by simp [intOf]; omega⟩
    · have : j = n := by omega
      subst this
      go_wp2_with fail
      go_ret
      have hl := Hn.out
      rw [List.take_of_length_le (by omega), List.drop_of_length_le (by omega)] at ht
      have hm' := hm.out
      rw [List.take_of_length_le (by omega)] at hm'
      exact ⟨m, rfl, hm', by simpa using ht, hon, hw⟩

set_option maxHeartbeats 4000000 in
theorem heldHandedS_any (xs : List GHanded) (k r : Int) (n : Nat) {A : Option Addr} {c : Nat} {bs : List Nat} (w : World) (hx : T1 w (.sl n (mkN (xs.flatMap GHanded.enc) k)) bs (.slice A n c)) (Hn : Hid (xs.length = n)) (hk0 : 0 ≤ k) (hk1 : r ≤ 4611686018427387904) (Hr : Hid (r = k + (cN (xs.flatMap GHanded.enc) : Nat))) : Calls Try.prog 146 #[.slice A n c, .int .i64 k] w fun e w' => e = .returned (.int .i64 (r)) ∧ Ext w w' := by
  refine quiet_start fun e => ?_
  have hn := hx.nle
  go_enter Try.func146, Try.ntmps146
  go_wp2_with fail
  repeat (refine wp_region_ext0 _ (by kernel_rfl) (by kernel_rfl) ?_; (repeat (go_big_quiet_step (fail))); refine wpQuiet_nil ?_; intro e; go_wp2_with fail)
  go_loopw [1, 5] (fun l i w' => ∃ (j : Nat) (m : Int), j ≤ n ∧ i = .int .i64 j ∧ l = .int .i64 m ∧ Hid (m = k + (cN ((xs.take j).flatMap GHanded.enc) : Nat)) ∧ 0 ≤ m ∧ ∃ e : ExtOf w, w' = e.to) (fun _ i _ => n - (intOf i).toNat)
  case atStart => exact ⟨0, k, Nat.zero_le _, rfl, rfl, Lib.hid (by simp [cN_nil]), hk0, _, rfl⟩
  case round =>
    obtain ⟨j, m, hj, rfl, rfl, hm, hm0, e, rfl⟩ := hrel
    by_cases hlt : j < n
    · obtain ⟨x, hxk, hsp, hll, hsn, -⟩ := flat_split GHanded.enc 2 GHanded.enc_len Hn hlt
      have hcx : Hid (cN (GHanded.enc x) = 1 + 1) := by show cN [.v (.int .i64 x.actor), .v (.int .i64 x.value)] = _; simp only [cN_cons, cD_v, cD_sl, cN_nil] <;> omega
      have hbd : m + 1 + 1 ≤ 4611686018427387904 := by
        have h1 := hm.out; have h2 := Hr.out; have h3 := hcx.out
        have h5 : cN (xs.flatMap GHanded.enc) = cN ((xs.take j).flatMap GHanded.enc) + (cN (GHanded.enc x) + cN ((xs.drop (j + 1)).flatMap GHanded.enc)) := by rw [hsp.out, cN_append, cN_append]
        omega
      have hmk : mkN (GHanded.enc x) m = [.v (.int .i64 (m)), .v (.int .i64 (m + 1))] := by
        show mkN [.v (.int .i64 x.actor), .v (.int .i64 x.value)] m = _
        simp only [mkN_cons, mkN_nil, mkD_int, mkD_sl, cD_v, cD_sl]
        all_goals (exact (cons_eq (vI_eq (by omega)) (cons_eq (vI_eq (by omega)) rfl)))
      have hxx := hx
      rw [hsp.out, mkN_append, mkN_append, ← hm.out, hmk] at hxx
      have hml : (mkN ((xs.take j).flatMap GHanded.enc) k).length = j * 2 := by rw [mkN_len, hll]
      generalize hL : mkN ((xs.take j).flatMap GHanded.enc) k = L at hxx hml
      clear hL hll hmk
      generalize hR : mkN ((xs.drop (j + 1)).flatMap GHanded.enc) (m + (cN (GHanded.enc x) : Nat)) = R at hxx
      clear hR
      replace hxx : T1 w (.sl n (L ++ (.v (.int .i64 (m))) :: (.v (.int .i64 (m + 1))) :: R)) bs (.slice A n c) := hxx
      obtain ⟨b, off, rfl⟩ := hxx.krow
      have z0 : T1 w (.sl n (L ++ (.v (.int .i64 (m))) :: (.v (.int .i64 (m + 1))) :: R)) bs (.slice (some ⟨b, off, none⟩) n c) := by exact hxx
      have y0 := z0.kleaf (o := off + j * 2) rfl (by simp only [List.length_append, List.length_cons, List.length_nil, hml] <;> omega)
      have z1 : T1 w (.sl n ((L ++ [.v (.int .i64 (m))]) ++ (.v (.int .i64 (m + 1))) :: R)) bs (.slice (some ⟨b, off, none⟩) n c) := by rw [List.append_assoc]; exact hxx
      have y1 := z1.kleaf (o := off + j * 2 + 1) rfl (by simp only [List.length_append, List.length_cons, List.length_nil, hml] <;> omega)
      clear hxx z0 z1
      go_wp2_with fail
      repeat (refine wp_region_ext0 _ (by kernel_rfl) (by kernel_rfl) ?_; (repeat (go_big_quiet_step (fail))); refine wpQuiet_nil ?_; intro e; go_wp2_with fail)
      exact ⟨⟨j + 1, m + 1 + 1, by omega, by go_num, by first | rfl | go_num, Lib.hid (by rw [hsn.out, cN_append]; have h8 := hcx.out; have h9 := hm.out; omega), by omega, _, rfl⟩, by simp [intOf]; omega⟩
    · have : j = n := by omega
      subst this
      have E : Hid (r = m) := by
        have h1 := hm.out; have h2 := Hr.out; have h3 := Hn.out
        rw [List.take_of_length_le (by omega)] at h1
        show _ = _; omega
      go_wp2_with fail
      repeat (refine wp_region_ext0 _ (by kernel_rfl) (by kernel_rfl) ?_; (repeat (go_big_quiet_step (fail))); refine wpQuiet_nil ?_; intro e; go_wp2_with fail)
      go_ret
      exact ⟨by rw [E.out]; rfl, _, rfl⟩

set_option maxHeartbeats 4000000 in
theorem markDeque_any (x : GDeque) (k : Int) {bs us} {lo : Nat} (w : World) (hx : TN w x.enc bs us) (ho : Own lo w bs) (hk0 : 0 ≤ k) (hk1 : k + (x.cnt : Nat) ≤ 4611686018427387904) :
    Calls Try.prog 52 #[.agg us.toArray, .int .i64 k] w fun e w' => ∃ r : Int, e = .returned (.int .i64 r) ∧ Hid (r = k + (x.cnt : Nat)) ∧ TN w' (x.mked k) bs us ∧ Onl bs w w' ∧ Own lo w' bs := by
  have hlt := hx.lt
  obtain ⟨A2, c2, b2, A3, c3, b3, A4, c4, b4, A5, c5, b5, rfl, rfl, t2, l2, m2, t3, l3, m3, t4, l4, m4, t5, l5, m5⟩ := GDeque.us hx
  obtain ⟨h3_, o5, d5⟩ := Own.parts ho
  obtain ⟨h2_, o4, d4⟩ := Own.parts h3_
  obtain ⟨o2, o3, d3⟩ := Own.parts h2_
  have e2_3 : ∀ y ∈ b2, y ∉ b3 := fun y hm => d3 y hm
  have e2_4 : ∀ y ∈ b2, y ∉ b4 := fun y hm => d4 y (List.mem_append_left _ hm)
  have e3_4 : ∀ y ∈ b3, y ∉ b4 := fun y hm => d4 y (List.mem_append_right _ hm)
  have e2_5 : ∀ y ∈ b2, y ∉ b5 := fun y hm => d5 y (List.mem_append_left _ (List.mem_append_left _ hm))
  have e3_5 : ∀ y ∈ b3, y ∉ b5 := fun y hm => d5 y (List.mem_append_left _ (List.mem_append_right _ hm))
  have e4_5 : ∀ y ∈ b4, y ∉ b5 := fun y hm => d5 y (List.mem_append_right _ hm)
  have g2 : w.heap.size ∉ b2 := fun hm => by have := hlt _ (show w.heap.size ∈ b2 ++ b3 ++ b4 ++ b5 by simp [hm]); omega
  have g3 : w.heap.size ∉ b3 := fun hm => by have := hlt _ (show w.heap.size ∈ b2 ++ b3 ++ b4 ++ b5 by simp [hm]); omega
  have g4 : w.heap.size ∉ b4 := fun hm => by have := hlt _ (show w.heap.size ∈ b2 ++ b3 ++ b4 ++ b5 by simp [hm]); omega
  have g5 : w.heap.size ∉ b5 := fun hm => by have := hlt _ (show w.heap.size ∈ b2 ++ b3 ++ b4 ++ b5 by simp [hm]); omega
  have B0 : ∀ S, Below w.heap.size w (w.alloc S) := fun _ => (Below.refl _ _).alloc (Nat.le_refl _) _
  have hcn : x.cnt = cN (x.buffer.flatMap intE) + cN (x.actors.flatMap GDequeActor.enc) + cN (x.taken.flatMap GHanded.enc) + cN (x.refused.flatMap intE) := rfl
  rw [hcn] at hk1
  clear hcn hx
  go_enter Try.func52, Try.ntmps52
  go_wp2_with fail
  refine (markInt64S_any x.buffer k _ (t2.below (B0 _)) (o2.below (B0 _)) (Nat.le_trans l2 m2) (by omega) (by omega)).mono ?_
  rintro _ w1 ⟨r1, rfl, hr1, S0, f1, V0⟩
  have p1 : 0 ≤ r1 := by have := hr1.out; omega
  have b1_ : r1 + (cN (x.actors.flatMap GDequeActor.enc) : Nat) + (cN (x.taken.flatMap GHanded.enc) : Nat) + (cN (x.refused.flatMap intE) : Nat) ≤ 4611686018427387904 := by have := hr1.out; omega
  have u1 := (f1.other w.heap.size (by simp) g2).trans (heap_alloc_new w _)
  have z1 : w.heap.size < w1.heap.size := by have := f1.size; simp at this; omega
  have F1 : Onl (b2 ++ b3 ++ b4 ++ b5) w w1 := Onl.trans (Onl.of_ext (B0 _)) (f1.sub (fun y hy => by first | exact hy | (simp at hy ⊢; grind)))
  have q1_0 := cell_of_row _ _ 0 _ _ _ u1
  have q1_1 := cell_of_row _ _ 1 _ _ _ u1
  have q1_2 := cell_of_row _ _ 2 _ _ _ u1
  have q1_3 := cell_of_row _ _ 3 _ _ _ u1
  have q1_4 := cell_of_row _ _ 4 _ _ _ u1
  have q1_5 := cell_of_row _ _ 5 _ _ _ u1
  simp only [List.getElem?_toArray, List.getElem?_cons_zero, List.getElem?_cons_succ] at q1_0 q1_1 q1_2 q1_3 q1_4 q1_5
  replace t3 := T1.onl (t3.below (B0 _)) f1 (fun y hy hm => e2_3 y hm hy)
  replace o3 := (o3.below (B0 _)).onl f1
  replace t4 := T1.onl (t4.below (B0 _)) f1 (fun y hy hm => e2_4 y hm hy)
  replace o4 := (o4.below (B0 _)).onl f1
  replace t5 := T1.onl (t5.below (B0 _)) f1 (fun y hy hm => e2_5 y hm hy)
  replace o5 := (o5.below (B0 _)).onl f1
  go_wp2_with fail
  refine (markDequeActorS_any x.actors r1 _ t3 o3 (Nat.le_trans l3 m3) (by omega) (by omega)).mono ?_
  rintro _ w2 ⟨r2, rfl, hr2, S1, f2, V1⟩
  have p2 : 0 ≤ r2 := by have := hr2.out; omega
  have b2_ : r2 + (cN (x.taken.flatMap GHanded.enc) : Nat) + (cN (x.refused.flatMap intE) : Nat) ≤ 4611686018427387904 := by have := hr2.out; omega
  have u2 := (f2.other w.heap.size z1 g3).trans u1
  have z2 : w.heap.size < w2.heap.size := by have := f2.size; omega
  have F2 := F1.trans (f2.sub (cs := b2 ++ b3 ++ b4 ++ b5) (fun y hy => by first | exact hy | (simp at hy ⊢; grind)))
  clear q1_0 q1_1 q1_2 q1_3 q1_4 q1_5 u1
  have q2_0 := cell_of_row _ _ 0 _ _ _ u2
  have q2_1 := cell_of_row _ _ 1 _ _ _ u2
  have q2_2 := cell_of_row _ _ 2 _ _ _ u2
  have q2_3 := cell_of_row _ _ 3 _ _ _ u2
  have q2_4 := cell_of_row _ _ 4 _ _ _ u2
  have q2_5 := cell_of_row _ _ 5 _ _ _ u2
  simp only [List.getElem?_toArray, List.getElem?_cons_zero, List.getElem?_cons_succ] at q2_0 q2_1 q2_2 q2_3 q2_4 q2_5
  replace S0 := T1.onl S0 f2 e2_3
  replace t4 := T1.onl t4 f2 (fun y hy hm => e3_4 y hm hy)
  replace o4 := o4.onl f2
  replace t5 := T1.onl t5 f2 (fun y hy hm => e3_5 y hm hy)
  replace o5 := o5.onl f2
  go_wp2_with fail
  refine (markHandedS_any x.taken r2 _ t4 o4 (Nat.le_trans l4 m4) (by omega) (by omega)).mono ?_
  rintro _ w3 ⟨r3, rfl, hr3, S2, f3, V2⟩
  have p3 : 0 ≤ r3 := by have := hr3.out; omega
  have b3_ : r3 + (cN (x.refused.flatMap intE) : Nat) ≤ 4611686018427387904 := by have := hr3.out; omega
  have u3 := (f3.other w.heap.size z2 g4).trans u2
  have z3 : w.heap.size < w3.heap.size := by have := f3.size; omega
  have F3 := F2.trans (f3.sub (cs := b2 ++ b3 ++ b4 ++ b5) (fun y hy => by first | exact hy | (simp at hy ⊢; grind)))
  clear q2_0 q2_1 q2_2 q2_3 q2_4 q2_5 u2
  have q3_0 := cell_of_row _ _ 0 _ _ _ u3
  have q3_1 := cell_of_row _ _ 1 _ _ _ u3
  have q3_2 := cell_of_row _ _ 2 _ _ _ u3
  have q3_3 := cell_of_row _ _ 3 _ _ _ u3
  have q3_4 := cell_of_row _ _ 4 _ _ _ u3
  have q3_5 := cell_of_row _ _ 5 _ _ _ u3
  simp only [List.getElem?_toArray, List.getElem?_cons_zero, List.getElem?_cons_succ] at q3_0 q3_1 q3_2 q3_3 q3_4 q3_5
  replace S0 := T1.onl S0 f3 e2_4
  replace S1 := T1.onl S1 f3 e3_4
  replace t5 := T1.onl t5 f3 (fun y hy hm => e4_5 y hm hy)
  replace o5 := o5.onl f3
  go_wp2_with fail
  refine (markInt64S_any x.refused r3 _ t5 o5 (Nat.le_trans l5 m5) (by omega) (by omega)).mono ?_
  rintro _ w4 ⟨r4, rfl, hr4, S3, f4, V3⟩
  have p4 : 0 ≤ r4 := by have := hr4.out; omega
  have b4_ : r4 + 0 ≤ 4611686018427387904 := by have := hr4.out; omega
  have u4 := (f4.other w.heap.size z3 g5).trans u3
  have z4 : w.heap.size < w4.heap.size := by have := f4.size; omega
  have F4 := F3.trans (f4.sub (cs := b2 ++ b3 ++ b4 ++ b5) (fun y hy => by first | exact hy | (simp at hy ⊢; grind)))
  clear q3_0 q3_1 q3_2 q3_3 q3_4 q3_5 u3
  have q4_0 := cell_of_row _ _ 0 _ _ _ u4
  have q4_1 := cell_of_row _ _ 1 _ _ _ u4
  have q4_2 := cell_of_row _ _ 2 _ _ _ u4
  have q4_3 := cell_of_row _ _ 3 _ _ _ u4
  have q4_4 := cell_of_row _ _ 4 _ _ _ u4
  have q4_5 := cell_of_row _ _ 5 _ _ _ u4
  simp only [List.getElem?_toArray, List.getElem?_cons_zero, List.getElem?_cons_succ] at q4_0 q4_1 q4_2 q4_3 q4_4 q4_5
  replace S0 := T1.onl S0 f4 e2_5
  replace S1 := T1.onl S1 f4 e3_5
  replace S2 := T1.onl S2 f4 e4_5
  go_wp2_with fail
  go_ret
  refine ⟨r4, rfl, ?_, ?_, F4, ho.onl F4⟩
  · show _ = _
    have hcn : x.cnt = cN (x.buffer.flatMap intE) + cN (x.actors.flatMap GDequeActor.enc) + cN (x.taken.flatMap GHanded.enc) + cN (x.refused.flatMap intE) := rfl
    have h1 := hr1.out; have h2 := hr2.out; have h3 := hr3.out; have h4 := hr4.out; omega
  · have h1 := hr1.out; have h2 := hr2.out; have h3 := hr3.out; have h4 := hr4.out; skip
    rw [show r1 = k + (cN (x.buffer.flatMap intE) : Nat) from by omega] at S1
    rw [show r2 = k + (cN (x.buffer.flatMap intE) : Nat) + (cN (x.actors.flatMap GDequeActor.enc) : Nat) from by omega] at S2
    rw [show r3 = k + (cN (x.buffer.flatMap intE) : Nat) + (cN (x.actors.flatMap GDequeActor.enc) : Nat) + (cN (x.taken.flatMap GHanded.enc) : Nat) from by omega] at S3
    have h := (TN.append.2 ⟨_, _, _, _, rfl, rfl, (TN.v_mk (x := .int .i64 x.top) rfl TN.done), (TN.append.2 ⟨_, _, _, _, rfl, rfl, (TN.v_mk (x := .int .i64 x.bottom) rfl TN.done), (TN.append.2 ⟨_, _, _, _, rfl, rfl, (TN.sl_mk S0 TN.done), (TN.append.2 ⟨_, _, _, _, rfl, rfl, (TN.sl_mk S1 TN.done), (TN.append.2 ⟨_, _, _, _, rfl, rfl, (TN.sl_mk S2 TN.done), (TN.sl_mk S3 TN.done)⟩)⟩)⟩)⟩)⟩)
    simp only [List.append_nil, List.nil_append, List.append_assoc, List.cons_append] at h
    unfold GDeque.mked
    simpa only [List.append_nil, List.nil_append, List.append_assoc, List.cons_append] using h

set_option maxHeartbeats 4000000 in
theorem heldDeque_any (x : GDeque) (k r : Int) {bs us} (w : World) (hx : TN w (x.mked k) bs us) (hk0 : 0 ≤ k) (hk1 : r ≤ 4611686018427387904) (Hr : Hid (r = k + (x.cnt : Nat))) : Calls Try.prog 53 #[.agg us.toArray, .int .i64 k] w fun e w' => e = .returned (.int .i64 (r)) ∧ Ext w w' := by
  refine quiet_start fun e => ?_
  unfold GDeque.mked at hx
  obtain ⟨p1, P1, u1, U1, rfl, rfl, x1, hx1⟩ := TN.append.1 hx
  clear hx
  obtain ⟨U_1, rfl, x1_⟩ := TN.v_cons x1
  obtain ⟨rfl, rfl⟩ := TN.end_ x1_
  clear x1_ x1
  obtain ⟨p2, P2, u2, U2, rfl, rfl, x2, hx2⟩ := TN.append.1 hx1
  clear hx1
  obtain ⟨U_2, rfl, x2_⟩ := TN.v_cons x2
  obtain ⟨rfl, rfl⟩ := TN.end_ x2_
  clear x2_ x2
  obtain ⟨p3, P3, u3, U3, rfl, rfl, x3, hx3⟩ := TN.append.1 hx2
  clear hx2
  obtain ⟨A2, c2, b2, r2_, U_3, rfl, rfl, t2, l2, m2, x3_⟩ := TN.sl_cons x3
  obtain ⟨rfl, rfl⟩ := TN.end_ x3_
  clear x3_ x3
  obtain ⟨p4, P4, u4, U4, rfl, rfl, x4, hx4⟩ := TN.append.1 hx3
  clear hx3
  obtain ⟨A3, c3, b3, r3_, U_4, rfl, rfl, t3, l3, m3, x4_⟩ := TN.sl_cons x4
  obtain ⟨rfl, rfl⟩ := TN.end_ x4_
  clear x4_ x4
  obtain ⟨p5, P5, u5, U5, rfl, rfl, x5, hx5⟩ := TN.append.1 hx4
  clear hx4
  obtain ⟨A4, c4, b4, r4_, U_5, rfl, rfl, t4, l4, m4, x5_⟩ := TN.sl_cons x5
  obtain ⟨rfl, rfl⟩ := TN.end_ x5_
  clear x5_ x5
  have x6 := hx5
  clear hx5
  obtain ⟨A5, c5, b5, r5_, U_6, rfl, rfl, t5, l5, m5, x6_⟩ := TN.sl_cons x6
  obtain ⟨rfl, rfl⟩ := TN.end_ x6_
  clear x6_ x6
  obtain ⟨r1, hr1⟩ : ∃ q : Int, q = k + ((cN (x.buffer.flatMap intE) : Nat) : Int) := ⟨_, rfl⟩
  obtain ⟨r2, hr2⟩ : ∃ q : Int, q = r1 + ((cN (x.actors.flatMap GDequeActor.enc) : Nat) : Int) := ⟨_, rfl⟩
  rw [show k + (cN (x.buffer.flatMap intE) : Nat) = r1 from by omega] at t3
  obtain ⟨r3, hr3⟩ : ∃ q : Int, q = r2 + ((cN (x.taken.flatMap GHanded.enc) : Nat) : Int) := ⟨_, rfl⟩
  rw [show k + (cN (x.buffer.flatMap intE) : Nat) + (cN (x.actors.flatMap GDequeActor.enc) : Nat) = r2 from by omega] at t4
  obtain ⟨r4, hr4⟩ : ∃ q : Int, q = r3 + ((cN (x.refused.flatMap intE) : Nat) : Int) := ⟨_, rfl⟩
  rw [show k + (cN (x.buffer.flatMap intE) : Nat) + (cN (x.actors.flatMap GDequeActor.enc) : Nat) + (cN (x.taken.flatMap GHanded.enc) : Nat) = r3 from by omega] at t5
  have hcn : x.cnt = cN (x.buffer.flatMap intE) + cN (x.actors.flatMap GDequeActor.enc) + cN (x.taken.flatMap GHanded.enc) + cN (x.refused.flatMap intE) := rfl
  have hE : r4 = r := by have h1 := Hr.out; omega
  have E := Lib.hid hE
  have p1 : 0 ≤ r1 := by omega
  have q1 : r1 ≤ 4611686018427387904 := by have h1 := Hr.out; omega
  have Hr1 : Hid (r1 = k + ((cN (x.buffer.flatMap intE) : Nat) : Int)) := hr1
  have p2 : 0 ≤ r2 := by omega
  have q2 : r2 ≤ 4611686018427387904 := by have h1 := Hr.out; omega
  have Hr2 : Hid (r2 = r1 + ((cN (x.actors.flatMap GDequeActor.enc) : Nat) : Int)) := hr2
  have p3 : 0 ≤ r3 := by omega
  have q3 : r3 ≤ 4611686018427387904 := by have h1 := Hr.out; omega
  have Hr3 : Hid (r3 = r2 + ((cN (x.taken.flatMap GHanded.enc) : Nat) : Int)) := hr3
  have p4 : 0 ≤ r4 := by omega
  have q4 : r4 ≤ 4611686018427387904 := by have h1 := Hr.out; omega
  have Hr4 : Hid (r4 = r3 + ((cN (x.refused.flatMap intE) : Nat) : Int)) := hr4
  clear hcn hE Hr hr1 hr2 hr3 hr4
  go_enter Try.func53, Try.ntmps53
  go_upto_region 1 with (fail)
  generalize hgg : e.to.heap.size = g
  refine rebase_box e hgg (fun w1 e hx1 hgeg hltg cg => ?_)
  clear hgg
  replace t2 := t2.below hx1
  replace t3 := t3.below hx1
  replace t4 := t4.below hx1
  replace t5 := t5.below hx1
  simp only [List.cons_append, List.nil_append, List.append_nil] at cg
  have y0 := cg.always hltg 0 _ rfl
  have y1 := cg.always hltg 1 _ rfl
  have y2 := cg.always hltg 2 _ rfl
  have y3 := cg.always hltg 3 _ rfl
  have y4 := cg.always hltg 4 _ rfl
  have y5 := cg.always hltg 5 _ rfl
  simp only [Nat.zero_add] at y0 y1 y2 y3 y4 y5
  clear cg
  have C1 : Hid (QC Try.prog w1 _ _ _) := fun W hW => heldInt64S_any x.buffer (k) r1 x.buffer.length W (t2.below hW) Hid_rfl (by omega) q1 Hr1
  have C2 : Hid (QC Try.prog w1 _ _ _) := fun W hW => heldDequeActorS_any x.actors (r1) r2 x.actors.length W (t3.below hW) Hid_rfl (by omega) q2 Hr2
  have C3 : Hid (QC Try.prog w1 _ _ _) := fun W hW => heldHandedS_any x.taken (r2) r3 x.taken.length W (t4.below hW) Hid_rfl (by omega) q3 Hr3
  have C4 : Hid (QC Try.prog w1 _ _ _) := fun W hW => heldInt64S_any x.refused (r3) r4 x.refused.length W (t5.below hW) Hid_rfl (by omega) q4 Hr4
  go_wp2_with (first | (go_at_call 144; with_reducible refine (C1.out.at_ _).mono ?_; rintro _ _ ⟨rfl, e, rfl⟩) | (go_at_call 145; with_reducible refine (C2.out.at_ _).mono ?_; rintro _ _ ⟨rfl, e, rfl⟩) | (go_at_call 146; with_reducible refine (C3.out.at_ _).mono ?_; rintro _ _ ⟨rfl, e, rfl⟩) | (go_at_call 144; with_reducible refine (C4.out.at_ _).mono ?_; rintro _ _ ⟨rfl, e, rfl⟩))
  repeat (refine wp_region_ext0 _ (by kernel_rfl) (by kernel_rfl) ?_; (repeat (go_big_quiet_step ((first | with_reducible exact C1.out.at_ _ | with_reducible exact C2.out.at_ _ | with_reducible exact C3.out.at_ _ | with_reducible exact C4.out.at_ _)))); refine wpQuiet_nil ?_; intro e; go_wp2_with (first | (go_at_call 144; with_reducible refine (C1.out.at_ _).mono ?_; rintro _ _ ⟨rfl, e, rfl⟩) | (go_at_call 145; with_reducible refine (C2.out.at_ _).mono ?_; rintro _ _ ⟨rfl, e, rfl⟩) | (go_at_call 146; with_reducible refine (C3.out.at_ _).mono ?_; rintro _ _ ⟨rfl, e, rfl⟩) | (go_at_call 144; with_reducible refine (C4.out.at_ _).mono ?_; rintro _ _ ⟨rfl, e, rfl⟩)))
  go_ret
  exact ⟨by rw [← E.out]; rfl, ExtOf.old hx1 e⟩

end Go.Proofs.Ythelpioccjjgfaa
