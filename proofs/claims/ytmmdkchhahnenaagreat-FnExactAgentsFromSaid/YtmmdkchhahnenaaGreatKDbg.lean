/- What the laws number and look for again in these types. Printed by gen_mk.py. -/
import Derived.Test.YtmmdkchhahnenaaGreatProg
import Derived.Test.YtmmdkchhahnenaaGreatMk
import Derived.Test.YtmmdkchhahnenaaGreatDDbg
import Derived.BigGuardPart
import Derived.Outline
import Derived.Deep.CutBlock
set_option linter.unusedSimpArgs false
set_option linter.unusedVariables false
namespace Go.Tr
open Go Go.RowKit
def GNet.mked (x : GNet) (k : Int) : List D := [.sl x.agents.length (mkN (x.agents.flatMap GAgent.enc) (k))]
def GNet.cnt (x : GNet) : Nat := cN (x.agents.flatMap GAgent.enc)
def GDebugger.mked (x : GDebugger) (k : Int) : List D := [.sl x.book.length (mkN (x.book.flatMap GNet.enc) (k))] ++ ([.sl x.schedule.length (mkN (x.schedule.flatMap intE) (k + (cN (x.book.flatMap GNet.enc) : Nat)))] ++ ([.v (.int .i64 x.every)] ++ ([.v (.int .i64 x.at_)] ++ (x.net.mked (k + (cN (x.book.flatMap GNet.enc) : Nat) + (cN (x.schedule.flatMap intE) : Nat)) ++ ([.sl x.origins.length (mkN (x.origins.flatMap GOrigin.enc) (k + (cN (x.book.flatMap GNet.enc) : Nat) + (cN (x.schedule.flatMap intE) : Nat) + (x.net.cnt : Nat)))] ++ ([.sl x.breaks.length (mkN (x.breaks.flatMap GBreak.enc) (k + (cN (x.book.flatMap GNet.enc) : Nat) + (cN (x.schedule.flatMap intE) : Nat) + (x.net.cnt : Nat) + (cN (x.origins.flatMap GOrigin.enc) : Nat)))] ++ ([.sl x.points.length (mkN (x.points.flatMap GCheckpoint.enc) (k + (cN (x.book.flatMap GNet.enc) : Nat) + (cN (x.schedule.flatMap intE) : Nat) + (x.net.cnt : Nat) + (cN (x.origins.flatMap GOrigin.enc) : Nat) + (cN (x.breaks.flatMap GBreak.enc) : Nat)))])))))))
def GDebugger.cnt (x : GDebugger) : Nat := cN (x.book.flatMap GNet.enc) + cN (x.schedule.flatMap intE) + x.net.cnt + cN (x.origins.flatMap GOrigin.enc) + cN (x.breaks.flatMap GBreak.enc) + cN (x.points.flatMap GCheckpoint.enc)
theorem GPort.cnE (x : GPort) : cN x.enc ≤ 32 * (1 + (fun _ => 0) x) := by
  have hc : cN x.enc = 1 + 1 := by show cN [.v (.int .i64 x.agent), .v (.int .i64 x.slot)] = _; simp only [cN_cons, cD_v, cD_sl, cN_nil] <;> omega
  omega
theorem GAgent.cnE (x : GAgent) : cN x.enc ≤ 32 * (1 + x.wt) := by
  have h3 := cN_flat_le (f := intE) (g := (fun _ => 0)) intE_cn x.data
  have h4 := cN_flat_le (f := GPort.enc) (g := (fun _ => 0)) GPort.cnE x.ports
  have hw : x.wt = wtl (fun _ => 0) x.data + wtl (fun _ => 0) x.ports := rfl
  have hc : cN x.enc = 1 + 1 + 1 + cN (x.data.flatMap intE) + cN (x.ports.flatMap GPort.enc) := by show cN [.v (.int .i64 x.kind), .v (.int .i64 x.level), .v (.int .i64 x.value), .sl x.data.length (x.data.flatMap intE), .sl x.ports.length (x.ports.flatMap GPort.enc)] = _; simp only [cN_cons, cD_v, cD_sl, cN_nil] <;> omega
  omega
theorem GNet.cnE (x : GNet) : cN x.enc ≤ 32 * (1 + x.wt) := by
  have h0 := cN_flat_le (f := GAgent.enc) (g := GAgent.wt) GAgent.cnE x.agents
  have hw : x.wt = wtl GAgent.wt x.agents := rfl
  have hc : cN x.enc = cN (x.agents.flatMap GAgent.enc) := by show cN [.sl x.agents.length (x.agents.flatMap GAgent.enc)] = _; simp only [cN_cons, cD_v, cD_sl, cN_nil] <;> omega
  omega
theorem GNet.cnt_le (x : GNet) : x.cnt ≤ 32 * x.wt := by
  have h0 := cN_flat_le (f := GAgent.enc) (g := GAgent.wt) GAgent.cnE x.agents
  have hw : x.wt = wtl GAgent.wt x.agents := rfl
  have hc : x.cnt = cN (x.agents.flatMap GAgent.enc) := rfl
  omega
theorem GOrigin.cnE (x : GOrigin) : cN x.enc ≤ 32 * (1 + (fun _ => 0) x) := by
  have hc : cN x.enc = 1 + 1 + 1 := by show cN [.v (.int .i64 x.step), .v (.int .i64 x.def_), .v (.int .i64 x.source)] = _; simp only [cN_cons, cD_v, cD_sl, cN_nil] <;> omega
  omega
theorem GBreak.cnE (x : GBreak) : cN x.enc ≤ 32 * (1 + (fun _ => 0) x) := by
  have hc : cN x.enc = 1 + 1 := by show cN [.v (.int .i64 x.kind), .v (.int .i64 x.value)] = _; simp only [cN_cons, cD_v, cD_sl, cN_nil] <;> omega
  omega
theorem GCheckpoint.cnE (x : GCheckpoint) : cN x.enc ≤ 32 * (1 + x.wt) := by
  have h1 := cN_flat_le (f := GAgent.enc) (g := GAgent.wt) GAgent.cnE x.net.agents
  have h2 := cN_flat_le (f := GOrigin.enc) (g := (fun _ => 0)) GOrigin.cnE x.origins
  have hw : x.wt = x.net.wt + wtl (fun _ => 0) x.origins := rfl
  have n1 : x.net.wt = wtl GAgent.wt x.net.agents := rfl
  have hc : cN x.enc = 1 + cN (x.net.agents.flatMap GAgent.enc) + cN (x.origins.flatMap GOrigin.enc) := by show cN [.v (.int .i64 x.at_), .sl x.net.agents.length (x.net.agents.flatMap GAgent.enc), .sl x.origins.length (x.origins.flatMap GOrigin.enc)] = _; simp only [cN_cons, cD_v, cD_sl, cN_nil] <;> omega
  omega
theorem GDebugger.cnE (x : GDebugger) : cN x.enc ≤ 32 * (1 + x.wt) := by
  have h0 := cN_flat_le (f := GNet.enc) (g := GNet.wt) GNet.cnE x.book
  have h1 := cN_flat_le (f := intE) (g := (fun _ => 0)) intE_cn x.schedule
  have h4 := cN_flat_le (f := GAgent.enc) (g := GAgent.wt) GAgent.cnE x.net.agents
  have h5 := cN_flat_le (f := GOrigin.enc) (g := (fun _ => 0)) GOrigin.cnE x.origins
  have h6 := cN_flat_le (f := GBreak.enc) (g := (fun _ => 0)) GBreak.cnE x.breaks
  have h7 := cN_flat_le (f := GCheckpoint.enc) (g := GCheckpoint.wt) GCheckpoint.cnE x.points
  have hw : x.wt = wtl GNet.wt x.book + wtl (fun _ => 0) x.schedule + x.net.wt + wtl (fun _ => 0) x.origins + wtl (fun _ => 0) x.breaks + wtl GCheckpoint.wt x.points := rfl
  have n4 : x.net.wt = wtl GAgent.wt x.net.agents := rfl
  have hc : cN x.enc = cN (x.book.flatMap GNet.enc) + cN (x.schedule.flatMap intE) + 1 + 1 + cN (x.net.agents.flatMap GAgent.enc) + cN (x.origins.flatMap GOrigin.enc) + cN (x.breaks.flatMap GBreak.enc) + cN (x.points.flatMap GCheckpoint.enc) := by show cN [.sl x.book.length (x.book.flatMap GNet.enc), .sl x.schedule.length (x.schedule.flatMap intE), .v (.int .i64 x.every), .v (.int .i64 x.at_), .sl x.net.agents.length (x.net.agents.flatMap GAgent.enc), .sl x.origins.length (x.origins.flatMap GOrigin.enc), .sl x.breaks.length (x.breaks.flatMap GBreak.enc), .sl x.points.length (x.points.flatMap GCheckpoint.enc)] = _; simp only [cN_cons, cD_v, cD_sl, cN_nil] <;> omega
  omega
theorem GDebugger.cnt_le (x : GDebugger) : x.cnt ≤ 32 * x.wt := by
  have h0 := cN_flat_le (f := GNet.enc) (g := GNet.wt) GNet.cnE x.book
  have h1 := cN_flat_le (f := intE) (g := (fun _ => 0)) intE_cn x.schedule
  have h4 := cN_flat_le (f := GAgent.enc) (g := GAgent.wt) GAgent.cnE x.net.agents
  have h5 := cN_flat_le (f := GOrigin.enc) (g := (fun _ => 0)) GOrigin.cnE x.origins
  have h6 := cN_flat_le (f := GBreak.enc) (g := (fun _ => 0)) GBreak.cnE x.breaks
  have h7 := cN_flat_le (f := GCheckpoint.enc) (g := GCheckpoint.wt) GCheckpoint.cnE x.points
  have hw : x.wt = wtl GNet.wt x.book + wtl (fun _ => 0) x.schedule + x.net.wt + wtl (fun _ => 0) x.origins + wtl (fun _ => 0) x.breaks + wtl GCheckpoint.wt x.points := rfl
  have n4 : x.net.wt = wtl GAgent.wt x.net.agents := rfl
  have hc : x.cnt = cN (x.book.flatMap GNet.enc) + cN (x.schedule.flatMap intE) + x.net.cnt + cN (x.origins.flatMap GOrigin.enc) + cN (x.breaks.flatMap GBreak.enc) + cN (x.points.flatMap GCheckpoint.enc) := rfl
  have c2 := GNet.cnt_le x.net
  omega
end Go.Tr
namespace Go.Proofs.YtmmdkchhahnenaaGreat
open Go Go.RowKit Go.Proofs Go.Tr
set_option maxHeartbeats 4000000 in
theorem markInt64S_any (xs : List Int) (k : Int) {A : Option Addr} {c lo : Nat} {bs} (w : World) (hx : T1 w (.sl xs.length (xs.flatMap intE)) bs (.slice A xs.length c)) (ho : Own lo w bs) (hn' : xs.length ≤ maxLen) (hk0 : 0 ≤ k) (hk1 : k + (cN (xs.flatMap intE) : Nat) ≤ 4611686018427387904) :
    Calls Tryz.prog 27 #[.slice A xs.length c, .int .i64 k] w fun e w' => ∃ r : Int, e = .returned (.int .i64 r) ∧ Hid (r = k + (cN (xs.flatMap intE) : Nat)) ∧ T1 w' (.sl xs.length (mkN (xs.flatMap intE) k)) bs (.slice A xs.length c) ∧ Onl bs w w' ∧ Own lo w' bs := by
  unfold maxLen at hn'
  obtain ⟨n, hn⟩ : ∃ n, xs.length = n := ⟨_, rfl⟩
  rw [hn] at hx hn' ⊢
  have Hn : Hid (xs.length = n) := hn
  clear hn
  have hkk := Lib.hid hk1
  clear hk1
  go_enter Tryz.func27, Tryz.ntmps27
  go_wp2_with fail
  go_loopw [1, 5] (fun l i w' => ∃ (j : Nat) (m : Int), j ≤ n ∧ i = .int .i64 j ∧ l = .int .i64 m ∧ Hid (m = k + (cN ((xs.take j).flatMap intE) : Nat)) ∧ 0 ≤ m ∧ T1 w' (.sl n (mkN ((xs.take j).flatMap intE) k ++ (xs.drop j).flatMap intE)) bs (.slice A n c) ∧ Onl bs w w' ∧ Own lo w' bs) (fun _ i _ => n - (intOf i).toNat)
  case atStart => exact ⟨0, k, Nat.zero_le _, rfl, rfl, Lib.hid (by simp [cN_nil]), hk0, by simpa [mkN_nil] using hx, Onl.refl _ _, ho⟩
  case round =>
    obtain ⟨j, m, hj, rfl, rfl, hm, hm0, ht, hon, hw⟩ := hrel
    by_cases hlt : j < n
    · obtain ⟨x, hxk, hsp, hll, hsn, hdr⟩ := flat_split intE 1 (fun _ => rfl) Hn hlt
      rw [hdr.out, List.flatMap_cons] at ht
      have hml : (mkN ((xs.take j).flatMap intE) k).length = j * 1 := by rw [mkN_len, hll]
      generalize hL : mkN ((xs.take j).flatMap intE) k = L at ht hml
      have HL := Lib.hid hL
      clear hL hll
      have hcx : Hid (cN (intE x) = 1) := by show cN [.v (.int .i64 x)] = _; simp only [cN_cons, cD_v, cD_sl, cN_nil] <;> omega
      have hbd : m + 1 ≤ 4611686018427387904 := by
        have h1 := hm.out; have h2 := hkk.out; have h3 := hcx.out
        have h4 := hsp.out
        have h5 : cN (xs.flatMap intE) = cN ((xs.take j).flatMap intE) + (cN (intE x) + cN ((xs.drop (j + 1)).flatMap intE)) := by rw [h4, cN_append, cN_append]
        omega
      replace ht : T1 wr (.sl n (L ++ (.v (.int .i64 x)) :: (xs.drop (j + 1)).flatMap intE)) bs (.slice A n c) := ht
      generalize hR : (xs.drop (j + 1)).flatMap intE = R at ht
      have HR := Lib.hid hR
      clear hR
      obtain ⟨b, off, rfl, -, hbm, hbl, hblo, hfz⟩ := ht.row hw
      have z0_0 : T1 wr (.sl n (L ++ (.v (.int .i64 x)) :: R)) bs (.slice (some ⟨b, off, none⟩) n c) := by exact ht
      have y0_0 := (z0_0.leaf hw (o := off + j) rfl (by simp only [List.length_append, List.length_cons, List.length_nil, hml] <;> omega)).1
      obtain ⟨t0, u0, v0⟩ := (ht.leaf hw (o := off + j) rfl (by simp only [List.length_append, List.length_cons, List.length_nil, hml] <;> omega)).2 (.int .i64 m) rfl
      replace t0 : T1 (World.setCell wr ⟨b, off + j, none⟩ (.int .i64 m)) (.sl n (L ++ (.v (.int .i64 m)) :: R)) bs (.slice (some ⟨b, off, none⟩) n c) := t0
      clear z0_0
      go_wp2_with fail
      have hmk : mkN (intE x) m = [.v (.int .i64 m)] := by
        show mkN [.v (.int .i64 x)] m = _
        simp only [mkN_cons, mkN_nil, mkD_int, mkD_sl, cD_v, cD_sl]
        all_goals (exact (cons_eq (vI_eq (by omega)) rfl))
      have hfin : mkN ((xs.take (j + 1)).flatMap intE) k ++ (xs.drop (j + 1)).flatMap intE = L ++ (.v (.int .i64 m)) :: R := by
        rw [hsn.out, mkN_append, HL.out, ← hm.out, hmk, List.append_assoc, HR.out]; rfl
      exact ⟨⟨j + 1, m + 1, by omega, by go_num, by first | rfl | go_num, Lib.hid (by rw [hsn.out, cN_append]; have h8 := hcx.out; have h9 := hm.out; omega), by omega, by rw [hfin]; exact t0, (hon).trans u0, v0⟩, by simp [intOf]; omega⟩
    · have : j = n := by omega
      subst this
      go_wp2_with fail
      go_ret
      have hl := Hn.out
      rw [List.take_of_length_le (by omega), List.drop_of_length_le (by omega)] at ht
      have hm' := hm.out
      rw [List.take_of_length_le (by omega)] at hm'
      exact ⟨m, rfl, hm', by simpa using ht, hon, hw⟩

set_option maxHeartbeats 4000000 in
theorem heldInt64S_any (xs : List Int) (k r : Int) (n : Nat) {A : Option Addr} {c : Nat} {bs : List Nat} (w : World) (hx : T1 w (.sl n (mkN (xs.flatMap intE) k)) bs (.slice A n c)) (Hn : Hid (xs.length = n)) (hk0 : 0 ≤ k) (hk1 : r ≤ 4611686018427387904) (Hr : Hid (r = k + (cN (xs.flatMap intE) : Nat))) : Calls Tryz.prog 34 #[.slice A n c, .int .i64 k] w fun e w' => e = .returned (.int .i64 (r)) ∧ Ext w w' := by
  refine quiet_start fun e => ?_
  have hn := hx.nle
  go_enter Tryz.func34, Tryz.ntmps34
  go_wp2_with fail
  repeat (refine wp_region_ext0 _ (by kernel_rfl) (by kernel_rfl) ?_; (repeat (go_big_quiet_step (fail))); refine wpQuiet_nil ?_; intro e; go_wp2_with fail)
  go_loopw [1, 5] (fun l i w' => ∃ (j : Nat) (m : Int), j ≤ n ∧ i = .int .i64 j ∧ l = .int .i64 m ∧ Hid (m = k + (cN ((xs.take j).flatMap intE) : Nat)) ∧ 0 ≤ m ∧ ∃ e : ExtOf w, w' = e.to) (fun _ i _ => n - (intOf i).toNat)
  case atStart => exact ⟨0, k, Nat.zero_le _, rfl, rfl, Lib.hid (by simp [cN_nil]), hk0, _, rfl⟩
  case round =>
    obtain ⟨j, m, hj, rfl, rfl, hm, hm0, e, rfl⟩ := hrel
    by_cases hlt : j < n
    · obtain ⟨x, hxk, hsp, hll, hsn, -⟩ := flat_split intE 1 (fun _ => rfl) Hn hlt
      have hcx : Hid (cN (intE x) = 1) := by show cN [.v (.int .i64 x)] = _; simp only [cN_cons, cD_v, cD_sl, cN_nil] <;> omega
      have hbd : m + 1 ≤ 4611686018427387904 := by
        have h1 := hm.out; have h2 := Hr.out; have h3 := hcx.out
        have h5 : cN (xs.flatMap intE) = cN ((xs.take j).flatMap intE) + (cN (intE x) + cN ((xs.drop (j + 1)).flatMap intE)) := by rw [hsp.out, cN_append, cN_append]
        omega
      have hmk : mkN (intE x) m = [.v (.int .i64 (m))] := by
        show mkN [.v (.int .i64 x)] m = _
        simp only [mkN_cons, mkN_nil, mkD_int, mkD_sl, cD_v, cD_sl]
        all_goals (exact (cons_eq (vI_eq (by omega)) rfl))
      have hxx := hx
      rw [hsp.out, mkN_append, mkN_append, ← hm.out, hmk] at hxx
      have hml : (mkN ((xs.take j).flatMap intE) k).length = j * 1 := by rw [mkN_len, hll]
      generalize hL : mkN ((xs.take j).flatMap intE) k = L at hxx hml
      clear hL hll hmk
      generalize hR : mkN ((xs.drop (j + 1)).flatMap intE) (m + (cN (intE x) : Nat)) = R at hxx
      clear hR
      replace hxx : T1 w (.sl n (L ++ (.v (.int .i64 (m))) :: R)) bs (.slice A n c) := hxx
      obtain ⟨b, off, rfl⟩ := hxx.krow
      have z0 : T1 w (.sl n (L ++ (.v (.int .i64 (m))) :: R)) bs (.slice (some ⟨b, off, none⟩) n c) := by exact hxx
      have y0 := z0.kleaf (o := off + j) rfl (by simp only [List.length_append, List.length_cons, List.length_nil, hml] <;> omega)
      clear hxx z0
      go_wp2_with fail
      repeat (refine wp_region_ext0 _ (by kernel_rfl) (by kernel_rfl) ?_; (repeat (go_big_quiet_step (fail))); refine wpQuiet_nil ?_; intro e; go_wp2_with fail)
      exact ⟨⟨j + 1, m + 1, by omega, by go_num, by first | rfl | go_num, Lib.hid (by rw [hsn.out, cN_append]; have h8 := hcx.out; have h9 := hm.out; omega), by omega, _, rfl⟩, by simp [intOf]; omega⟩
    · have : j = n := by omega
      subst this
      have E : Hid (r = m) := by
        have h1 := hm.out; have h2 := Hr.out; have h3 := Hn.out
        rw [List.take_of_length_le (by omega)] at h1
        show _ = _; omega
      go_wp2_with fail
      repeat (refine wp_region_ext0 _ (by kernel_rfl) (by kernel_rfl) ?_; (repeat (go_big_quiet_step (fail))); refine wpQuiet_nil ?_; intro e; go_wp2_with fail)
      go_ret
      exact ⟨by rw [E.out]; rfl, _, rfl⟩

set_option maxHeartbeats 4000000 in
theorem markPortS_any (xs : List GPort) (k : Int) {A : Option Addr} {c lo : Nat} {bs} (w : World) (hx : T1 w (.sl xs.length (xs.flatMap GPort.enc)) bs (.slice A xs.length c)) (ho : Own lo w bs) (hn' : xs.length ≤ maxLen) (hk0 : 0 ≤ k) (hk1 : k + (cN (xs.flatMap GPort.enc) : Nat) ≤ 4611686018427387904) :
    Calls Tryz.prog 142 #[.slice A xs.length c, .int .i64 k] w fun e w' => ∃ r : Int, e = .returned (.int .i64 r) ∧ Hid (r = k + (cN (xs.flatMap GPort.enc) : Nat)) ∧ T1 w' (.sl xs.length (mkN (xs.flatMap GPort.enc) k)) bs (.slice A xs.length c) ∧ Onl bs w w' ∧ Own lo w' bs := by
  unfold maxLen at hn'
  obtain ⟨n, hn⟩ : ∃ n, xs.length = n := ⟨_, rfl⟩
  rw [hn] at hx hn' ⊢
  have Hn : Hid (xs.length = n) := hn
  clear hn
  have hkk := Lib.hid hk1
  clear hk1
  go_enter Tryz.func142, Tryz.ntmps142
  go_wp2_with fail
  go_loopw [1, 5] (fun l i w' => ∃ (j : Nat) (m : Int), j ≤ n ∧ i = .int .i64 j ∧ l = .int .i64 m ∧ Hid (m = k + (cN ((xs.take j).flatMap GPort.enc) : Nat)) ∧ 0 ≤ m ∧ T1 w' (.sl n (mkN ((xs.take j).flatMap GPort.enc) k ++ (xs.drop j).flatMap GPort.enc)) bs (.slice A n c) ∧ Onl bs w w' ∧ Own lo w' bs) (fun _ i _ => n - (intOf i).toNat)
  case atStart => exact ⟨0, k, Nat.zero_le _, rfl, rfl, Lib.hid (by simp [cN_nil]), hk0, by simpa [mkN_nil] using hx, Onl.refl _ _, ho⟩
  case round =>
    obtain ⟨j, m, hj, rfl, rfl, hm, hm0, ht, hon, hw⟩ := hrel
    by_cases hlt : j < n
    · obtain ⟨x, hxk, hsp, hll, hsn, hdr⟩ := flat_split GPort.enc 2 GPort.enc_len Hn hlt
      rw [hdr.out, List.flatMap_cons] at ht
      have hml : (mkN ((xs.take j).flatMap GPort.enc) k).length = j * 2 := by rw [mkN_len, hll]
      generalize hL : mkN ((xs.take j).flatMap GPort.enc) k = L at ht hml
      have HL := Lib.hid hL
      clear hL hll
      have hcx : Hid (cN (GPort.enc x) = 1 + 1) := by show cN [.v (.int .i64 x.agent), .v (.int .i64 x.slot)] = _; simp only [cN_cons, cD_v, cD_sl, cN_nil] <;> omega
      have hbd : m + 1 + 1 ≤ 4611686018427387904 := by
        have h1 := hm.out; have h2 := hkk.out; have h3 := hcx.out
        have h4 := hsp.out
        have h5 : cN (xs.flatMap GPort.enc) = cN ((xs.take j).flatMap GPort.enc) + (cN (GPort.enc x) + cN ((xs.drop (j + 1)).flatMap GPort.enc)) := by rw [h4, cN_append, cN_append]
        omega
      replace ht : T1 wr (.sl n (L ++ (.v (.int .i64 x.agent)) :: (.v (.int .i64 x.slot)) :: (xs.drop (j + 1)).flatMap GPort.enc)) bs (.slice A n c) := ht
      generalize hR : (xs.drop (j + 1)).flatMap GPort.enc = R at ht
      have HR := Lib.hid hR
      clear hR
      obtain ⟨b, off, rfl, -, hbm, hbl, hblo, hfz⟩ := ht.row hw
      have z0_0 : T1 wr (.sl n (L ++ (.v (.int .i64 x.agent)) :: (.v (.int .i64 x.slot)) :: R)) bs (.slice (some ⟨b, off, none⟩) n c) := by exact ht
      have y0_0 := (z0_0.leaf hw (o := off + j * 2) rfl (by simp only [List.length_append, List.length_cons, List.length_nil, hml] <;> omega)).1
      have z0_1 : T1 wr (.sl n ((L ++ [.v (.int .i64 x.agent)]) ++ (.v (.int .i64 x.slot)) :: R)) bs (.slice (some ⟨b, off, none⟩) n c) := by rw [List.append_assoc]; exact ht
      have y0_1 := (z0_1.leaf hw (o := off + j * 2 + 1) rfl (by simp only [List.length_append, List.length_cons, List.length_nil, hml] <;> omega)).1
      obtain ⟨t0, u0, v0⟩ := (ht.leaf hw (o := off + j * 2) rfl (by simp only [List.length_append, List.length_cons, List.length_nil, hml] <;> omega)).2 (.int .i64 m) rfl
      replace t0 : T1 (World.setCell wr ⟨b, off + j * 2, none⟩ (.int .i64 m)) (.sl n (L ++ (.v (.int .i64 m)) :: (.v (.int .i64 x.slot)) :: R)) bs (.slice (some ⟨b, off, none⟩) n c) := t0
      replace t0 : T1 (World.setCell wr ⟨b, off + j * 2, none⟩ (.int .i64 m)) (.sl n ((L ++ [.v (.int .i64 m)]) ++ (.v (.int .i64 x.slot)) :: R)) bs (.slice (some ⟨b, off, none⟩) n c) := by rw [List.append_assoc]; exact t0
      obtain ⟨t1, u1, v1⟩ := (t0.leaf v0 (o := off + j * 2 + 1) rfl (by simp only [List.length_append, List.length_cons, List.length_nil, hml] <;> omega)).2 (.int .i64 (m + 1)) rfl
      rw [List.append_assoc] at t1
      replace t1 : T1 (World.setCell (World.setCell wr ⟨b, off + j * 2, none⟩ (.int .i64 m)) ⟨b, off + j * 2 + 1, none⟩ (.int .i64 (m + 1))) (.sl n (L ++ (.v (.int .i64 m)) :: (.v (.int .i64 (m + 1))) :: R)) bs (.slice (some ⟨b, off, none⟩) n c) := t1
      clear z0_0 z0_1
      go_wp2_with fail
      have hmk : mkN (GPort.enc x) m = [.v (.int .i64 m), .v (.int .i64 (m + 1))] := by
        show mkN [.v (.int .i64 x.agent), .v (.int .i64 x.slot)] m = _
        simp only [mkN_cons, mkN_nil, mkD_int, mkD_sl, cD_v, cD_sl]
        all_goals (exact (cons_eq (vI_eq (by omega)) (cons_eq (vI_eq (by omega)) rfl)))
      have hfin : mkN ((xs.take (j + 1)).flatMap GPort.enc) k ++ (xs.drop (j + 1)).flatMap GPort.enc = L ++ (.v (.int .i64 m)) :: (.v (.int .i64 (m + 1))) :: R := by
        rw [hsn.out, mkN_append, HL.out, ← hm.out, hmk, List.append_assoc, HR.out]; rfl
      exact ⟨⟨j + 1, m + 1 + 1, by omega, by go_num, by first | rfl | go_num, Lib.hid (by rw [hsn.out, cN_append]; have h8 := hcx.out; have h9 := hm.out; omega), by omega, by rw [hfin]; exact t1, ((hon).trans u0).trans u1, v1⟩, by simp [intOf]; omega⟩
    · have : j = n := by omega
      subst this
      go_wp2_with fail
      go_ret
      have hl := Hn.out
      rw [List.take_of_length_le (by omega), List.drop_of_length_le (by omega)] at ht
      have hm' := hm.out
      rw [List.take_of_length_le (by omega)] at hm'
      exact ⟨m, rfl, hm', by simpa using ht, hon, hw⟩

set_option maxHeartbeats 4000000 in
theorem heldPortS_any (xs : List GPort) (k r : Int) (n : Nat) {A : Option Addr} {c : Nat} {bs : List Nat} (w : World) (hx : T1 w (.sl n (mkN (xs.flatMap GPort.enc) k)) bs (.slice A n c)) (Hn : Hid (xs.length = n)) (hk0 : 0 ≤ k) (hk1 : r ≤ 4611686018427387904) (Hr : Hid (r = k + (cN (xs.flatMap GPort.enc) : Nat))) : Calls Tryz.prog 188 #[.slice A n c, .int .i64 k] w fun e w' => e = .returned (.int .i64 (r)) ∧ Ext w w' := by
  refine quiet_start fun e => ?_
  have hn := hx.nle
  go_enter Tryz.func188, Tryz.ntmps188
  go_wp2_with fail
  repeat (refine wp_region_ext0 _ (by kernel_rfl) (by kernel_rfl) ?_; (repeat (go_big_quiet_step (fail))); refine wpQuiet_nil ?_; intro e; go_wp2_with fail)
  go_loopw [1, 5] (fun l i w' => ∃ (j : Nat) (m : Int), j ≤ n ∧ i = .int .i64 j ∧ l = .int .i64 m ∧ Hid (m = k + (cN ((xs.take j).flatMap GPort.enc) : Nat)) ∧ 0 ≤ m ∧ ∃ e : ExtOf w, w' = e.to) (fun _ i _ => n - (intOf i).toNat)
  case atStart => exact ⟨0, k, Nat.zero_le _, rfl, rfl, Lib.hid (by simp [cN_nil]), hk0, _, rfl⟩
  case round =>
    obtain ⟨j, m, hj, rfl, rfl, hm, hm0, e, rfl⟩ := hrel
    by_cases hlt : j < n
    · obtain ⟨x, hxk, hsp, hll, hsn, -⟩ := flat_split GPort.enc 2 GPort.enc_len Hn hlt
      have hcx : Hid (cN (GPort.enc x) = 1 + 1) := by show cN [.v (.int .i64 x.agent), .v (.int .i64 x.slot)] = _; simp only [cN_cons, cD_v, cD_sl, cN_nil] <;> omega
      have hbd : m + 1 + 1 ≤ 4611686018427387904 := by
        have h1 := hm.out; have h2 := Hr.out; have h3 := hcx.out
        have h5 : cN (xs.flatMap GPort.enc) = cN ((xs.take j).flatMap GPort.enc) + (cN (GPort.enc x) + cN ((xs.drop (j + 1)).flatMap GPort.enc)) := by rw [hsp.out, cN_append, cN_append]
        omega
      have hmk : mkN (GPort.enc x) m = [.v (.int .i64 (m)), .v (.int .i64 (m + 1))] := by
        show mkN [.v (.int .i64 x.agent), .v (.int .i64 x.slot)] m = _
        simp only [mkN_cons, mkN_nil, mkD_int, mkD_sl, cD_v, cD_sl]
        all_goals (exact (cons_eq (vI_eq (by omega)) (cons_eq (vI_eq (by omega)) rfl)))
      have hxx := hx
      rw [hsp.out, mkN_append, mkN_append, ← hm.out, hmk] at hxx
      have hml : (mkN ((xs.take j).flatMap GPort.enc) k).length = j * 2 := by rw [mkN_len, hll]
      generalize hL : mkN ((xs.take j).flatMap GPort.enc) k = L at hxx hml
      clear hL hll hmk
      generalize hR : mkN ((xs.drop (j + 1)).flatMap GPort.enc) (m + (cN (GPort.enc x) : Nat)) = R at hxx
      clear hR
      replace hxx : T1 w (.sl n (L ++ (.v (.int .i64 (m))) :: (.v (.int .i64 (m + 1))) :: R)) bs (.slice A n c) := hxx
      obtain ⟨b, off, rfl⟩ := hxx.krow
      have z0 : T1 w (.sl n (L ++ (.v (.int .i64 (m))) :: (.v (.int .i64 (m + 1))) :: R)) bs (.slice (some ⟨b, off, none⟩) n c) := by exact hxx
      have y0 := z0.kleaf (o := off + j * 2) rfl (by simp only [List.length_append, List.length_cons, List.length_nil, hml] <;> omega)
      have z1 : T1 w (.sl n ((L ++ [.v (.int .i64 (m))]) ++ (.v (.int .i64 (m + 1))) :: R)) bs (.slice (some ⟨b, off, none⟩) n c) := by rw [List.append_assoc]; exact hxx
      have y1 := z1.kleaf (o := off + j * 2 + 1) rfl (by simp only [List.length_append, List.length_cons, List.length_nil, hml] <;> omega)
      clear hxx z0 z1
      go_wp2_with fail
      repeat (refine wp_region_ext0 _ (by kernel_rfl) (by kernel_rfl) ?_; (repeat (go_big_quiet_step (fail))); refine wpQuiet_nil ?_; intro e; go_wp2_with fail)
      exact ⟨⟨j + 1, m + 1 + 1, by omega, by go_num, by first | rfl | go_num, Lib.hid (by rw [hsn.out, cN_append]; have h8 := hcx.out; have h9 := hm.out; omega), by omega, _, rfl⟩, by simp [intOf]; omega⟩
    · have : j = n := by omega
      subst this
      have E : Hid (r = m) := by
        have h1 := hm.out; have h2 := Hr.out; have h3 := Hn.out
        rw [List.take_of_length_le (by omega)] at h1
        show _ = _; omega
      go_wp2_with fail
      repeat (refine wp_region_ext0 _ (by kernel_rfl) (by kernel_rfl) ?_; (repeat (go_big_quiet_step (fail))); refine wpQuiet_nil ?_; intro e; go_wp2_with fail)
      go_ret
      exact ⟨by rw [E.out]; rfl, _, rfl⟩

set_option maxHeartbeats 4000000 in
theorem markAgentS_any (xs : List GAgent) (k : Int) {A : Option Addr} {c lo : Nat} {bs} (w : World) (hx : T1 w (.sl xs.length (xs.flatMap GAgent.enc)) bs (.slice A xs.length c)) (ho : Own lo w bs) (hn' : xs.length ≤ maxLen) (hk0 : 0 ≤ k) (hk1 : k + (cN (xs.flatMap GAgent.enc) : Nat) ≤ 4611686018427387904) :
    Calls Tryz.prog 66 #[.slice A xs.length c, .int .i64 k] w fun e w' => ∃ r : Int, e = .returned (.int .i64 r) ∧ Hid (r = k + (cN (xs.flatMap GAgent.enc) : Nat)) ∧ T1 w' (.sl xs.length (mkN (xs.flatMap GAgent.enc) k)) bs (.slice A xs.length c) ∧ Onl bs w w' ∧ Own lo w' bs := by
  unfold maxLen at hn'
  obtain ⟨n, hn⟩ : ∃ n, xs.length = n := ⟨_, rfl⟩
  rw [hn] at hx hn' ⊢
  have Hn : Hid (xs.length = n) := hn
  clear hn
  have hkk := Lib.hid hk1
  clear hk1
  go_enter Tryz.func66, Tryz.ntmps66
  go_wp2_with fail
  go_loopw [1, 5] (fun l i w' => ∃ (j : Nat) (m : Int), j ≤ n ∧ i = .int .i64 j ∧ l = .int .i64 m ∧ Hid (m = k + (cN ((xs.take j).flatMap GAgent.enc) : Nat)) ∧ 0 ≤ m ∧ T1 w' (.sl n (mkN ((xs.take j).flatMap GAgent.enc) k ++ (xs.drop j).flatMap GAgent.enc)) bs (.slice A n c) ∧ Onl bs w w' ∧ Own lo w' bs) (fun _ i _ => n - (intOf i).toNat)
  case atStart => exact ⟨0, k, Nat.zero_le _, rfl, rfl, Lib.hid (by simp [cN_nil]), hk0, by simpa [mkN_nil] using hx, Onl.refl _ _, ho⟩
  case round =>
    obtain ⟨j, m, hj, rfl, rfl, hm, hm0, ht, hon, hw⟩ := hrel
    by_cases hlt : j < n
    · obtain ⟨x, hxk, hsp, hll, hsn, hdr⟩ := flat_split GAgent.enc 5 GAgent.enc_len Hn hlt
      rw [hdr.out, List.flatMap_cons] at ht
      have hml : (mkN ((xs.take j).flatMap GAgent.enc) k).length = j * 5 := by rw [mkN_len, hll]
      generalize hL : mkN ((xs.take j).flatMap GAgent.enc) k = L at ht hml
      have HL := Lib.hid hL
      clear hL hll
      have hcx : Hid (cN (GAgent.enc x) = 1 + 1 + 1 + cN (x.data.flatMap intE) + cN (x.ports.flatMap GPort.enc)) := by show cN [.v (.int .i64 x.kind), .v (.int .i64 x.level), .v (.int .i64 x.value), .sl x.data.length (x.data.flatMap intE), .sl x.ports.length (x.ports.flatMap GPort.enc)] = _; simp only [cN_cons, cD_v, cD_sl, cN_nil] <;> omega
      have hbd : m + 1 + 1 + 1 + (cN (x.data.flatMap intE) : Nat) + (cN (x.ports.flatMap GPort.enc) : Nat) ≤ 4611686018427387904 := by
        have h1 := hm.out; have h2 := hkk.out; have h3 := hcx.out
        have h4 := hsp.out
        have h5 : cN (xs.flatMap GAgent.enc) = cN ((xs.take j).flatMap GAgent.enc) + (cN (GAgent.enc x) + cN ((xs.drop (j + 1)).flatMap GAgent.enc)) := by rw [h4, cN_append, cN_append]
        omega
      replace ht : T1 wr (.sl n (L ++ (.v (.int .i64 x.kind)) :: (.v (.int .i64 x.level)) :: (.v (.int .i64 x.value)) :: (.sl x.data.length (x.data.flatMap intE)) :: (.sl x.ports.length (x.ports.flatMap GPort.enc)) :: (xs.drop (j + 1)).flatMap GAgent.enc)) bs (.slice A n c) := ht
      generalize hR : (xs.drop (j + 1)).flatMap GAgent.enc = R at ht
      have HR := Lib.hid hR
      clear hR
      obtain ⟨b, off, rfl, -, hbm, hbl, hblo, hfz⟩ := ht.row hw
      have z0_0 : T1 wr (.sl n (L ++ (.v (.int .i64 x.kind)) :: (.v (.int .i64 x.level)) :: (.v (.int .i64 x.value)) :: (.sl x.data.length (x.data.flatMap intE)) :: (.sl x.ports.length (x.ports.flatMap GPort.enc)) :: R)) bs (.slice (some ⟨b, off, none⟩) n c) := by exact ht
      have y0_0 := (z0_0.leaf hw (o := off + j * 5) rfl (by simp only [List.length_append, List.length_cons, List.length_nil, hml] <;> omega)).1
      have z0_1 : T1 wr (.sl n ((L ++ [.v (.int .i64 x.kind)]) ++ (.v (.int .i64 x.level)) :: (.v (.int .i64 x.value)) :: (.sl x.data.length (x.data.flatMap intE)) :: (.sl x.ports.length (x.ports.flatMap GPort.enc)) :: R)) bs (.slice (some ⟨b, off, none⟩) n c) := by rw [List.append_assoc]; exact ht
      have y0_1 := (z0_1.leaf hw (o := off + j * 5 + 1) rfl (by simp only [List.length_append, List.length_cons, List.length_nil, hml] <;> omega)).1
      have z0_2 : T1 wr (.sl n ((L ++ [.v (.int .i64 x.kind), .v (.int .i64 x.level)]) ++ (.v (.int .i64 x.value)) :: (.sl x.data.length (x.data.flatMap intE)) :: (.sl x.ports.length (x.ports.flatMap GPort.enc)) :: R)) bs (.slice (some ⟨b, off, none⟩) n c) := by rw [List.append_assoc]; exact ht
      have y0_2 := (z0_2.leaf hw (o := off + j * 5 + 2) rfl (by simp only [List.length_append, List.length_cons, List.length_nil, hml] <;> omega)).1
      have z0_3 : T1 wr (.sl n ((L ++ [.v (.int .i64 x.kind), .v (.int .i64 x.level), .v (.int .i64 x.value)]) ++ (.sl x.data.length (x.data.flatMap intE)) :: (.sl x.ports.length (x.ports.flatMap GPort.enc)) :: R)) bs (.slice (some ⟨b, off, none⟩) n c) := by rw [List.append_assoc]; exact ht
      obtain ⟨A0_3, c0_3, b0_3, y0_3, -⟩ := z0_3.sub hw (o := off + j * 5 + 3) rfl (by simp only [List.length_append, List.length_cons, List.length_nil, hml] <;> omega)
      obtain ⟨t0, u0, v0⟩ := (ht.leaf hw (o := off + j * 5) rfl (by simp only [List.length_append, List.length_cons, List.length_nil, hml] <;> omega)).2 (.int .i64 m) rfl
      replace t0 : T1 (World.setCell wr ⟨b, off + j * 5, none⟩ (.int .i64 m)) (.sl n (L ++ (.v (.int .i64 m)) :: (.v (.int .i64 x.level)) :: (.v (.int .i64 x.value)) :: (.sl x.data.length (x.data.flatMap intE)) :: (.sl x.ports.length (x.ports.flatMap GPort.enc)) :: R)) bs (.slice (some ⟨b, off, none⟩) n c) := t0
      replace t0 : T1 (World.setCell wr ⟨b, off + j * 5, none⟩ (.int .i64 m)) (.sl n ((L ++ [.v (.int .i64 m)]) ++ (.v (.int .i64 x.level)) :: (.v (.int .i64 x.value)) :: (.sl x.data.length (x.data.flatMap intE)) :: (.sl x.ports.length (x.ports.flatMap GPort.enc)) :: R)) bs (.slice (some ⟨b, off, none⟩) n c) := by rw [List.append_assoc]; exact t0
      obtain ⟨t1, u1, v1⟩ := (t0.leaf v0 (o := off + j * 5 + 1) rfl (by simp only [List.length_append, List.length_cons, List.length_nil, hml] <;> omega)).2 (.int .i64 (m + 1)) rfl
      rw [List.append_assoc] at t1
      replace t1 : T1 (World.setCell (World.setCell wr ⟨b, off + j * 5, none⟩ (.int .i64 m)) ⟨b, off + j * 5 + 1, none⟩ (.int .i64 (m + 1))) (.sl n (L ++ (.v (.int .i64 m)) :: (.v (.int .i64 (m + 1))) :: (.v (.int .i64 x.value)) :: (.sl x.data.length (x.data.flatMap intE)) :: (.sl x.ports.length (x.ports.flatMap GPort.enc)) :: R)) bs (.slice (some ⟨b, off, none⟩) n c) := t1
      replace t1 : T1 (World.setCell (World.setCell wr ⟨b, off + j * 5, none⟩ (.int .i64 m)) ⟨b, off + j * 5 + 1, none⟩ (.int .i64 (m + 1))) (.sl n ((L ++ [.v (.int .i64 m), .v (.int .i64 (m + 1))]) ++ (.v (.int .i64 x.value)) :: (.sl x.data.length (x.data.flatMap intE)) :: (.sl x.ports.length (x.ports.flatMap GPort.enc)) :: R)) bs (.slice (some ⟨b, off, none⟩) n c) := by rw [List.append_assoc]; exact t1
      obtain ⟨t2, u2, v2⟩ := (t1.leaf v1 (o := off + j * 5 + 2) rfl (by simp only [List.length_append, List.length_cons, List.length_nil, hml] <;> omega)).2 (.int .i64 (m + 1 + 1)) rfl
      rw [List.append_assoc] at t2
      replace t2 : T1 (World.setCell (World.setCell (World.setCell wr ⟨b, off + j * 5, none⟩ (.int .i64 m)) ⟨b, off + j * 5 + 1, none⟩ (.int .i64 (m + 1))) ⟨b, off + j * 5 + 2, none⟩ (.int .i64 (m + 1 + 1))) (.sl n (L ++ (.v (.int .i64 m)) :: (.v (.int .i64 (m + 1))) :: (.v (.int .i64 (m + 1 + 1))) :: (.sl x.data.length (x.data.flatMap intE)) :: (.sl x.ports.length (x.ports.flatMap GPort.enc)) :: R)) bs (.slice (some ⟨b, off, none⟩) n c) := t2
      have g3 : T1 (World.setCell (World.setCell (World.setCell wr ⟨b, off + j * 5, none⟩ (.int .i64 m)) ⟨b, off + j * 5 + 1, none⟩ (.int .i64 (m + 1))) ⟨b, off + j * 5 + 2, none⟩ (.int .i64 (m + 1 + 1))) (.sl n ((L ++ [.v (.int .i64 m), .v (.int .i64 (m + 1)), .v (.int .i64 (m + 1 + 1))]) ++ (.sl x.data.length (x.data.flatMap intE)) :: (.sl x.ports.length (x.ports.flatMap GPort.enc)) :: R)) bs (.slice (some ⟨b, off, none⟩) n c) := by rw [List.append_assoc]; exact t2
      obtain ⟨A3, c3, b3, k3, s3, n3, o3, nb3, back3⟩ := g3.sub v2 (o := off + j * 5 + 3) rfl (by simp only [List.length_append, List.length_cons, List.length_nil, hml] <;> omega)
      obtain ⟨rfl, rfl⟩ : A0_3 = A3 ∧ c0_3 = c3 := by
        have hh := k3
        rw [cell_setCell_off _ _ _ _ _ (by omega)] at hh; rw [cell_setCell_off _ _ _ _ _ (by omega)] at hh; rw [cell_setCell_off _ _ _ _ _ (by omega)] at hh; rw [y0_3] at hh; simpa using hh
      clear k3
      have HB3 := Lib.hid back3
      clear back3 g3
      clear z0_0 z0_1 z0_2 z0_3
      go_wp2_with fail
      refine (markInt64S_any x.data (m + 1 + 1 + 1) _ s3 o3 n3 (by omega) (by omega)).mono ?_
      rintro _ W1 ⟨r1, rfl, hr1, q3, f3, -⟩
      obtain ⟨t3, u3, v3⟩ := HB3.out W1 _ f3 q3
      have p1 : 0 ≤ r1 := by have := hr1.out; omega
      have l1 : r1 + (cN (x.ports.flatMap GPort.enc) : Nat) ≤ 4611686018427387904 := by have := hr1.out; omega
      rw [List.append_assoc] at t3
      replace t3 : T1 W1 (.sl n (L ++ (.v (.int .i64 m)) :: (.v (.int .i64 (m + 1))) :: (.v (.int .i64 (m + 1 + 1))) :: (.sl x.data.length (mkN (x.data.flatMap intE) (m + 1 + 1 + 1))) :: (.sl x.ports.length (x.ports.flatMap GPort.enc)) :: R)) bs (.slice (some ⟨b, off, none⟩) n c) := t3
      have hfz1 : ∀ o, World.frozen? W1 ⟨b, o, none⟩ = false := fun o => (by obtain ⟨_, cur, tt, hrow⟩ := v3.2 b hbm; simp [World.frozen?, hrow])
      have z1_4 : T1 W1 (.sl n ((L ++ [.v (.int .i64 m), .v (.int .i64 (m + 1)), .v (.int .i64 (m + 1 + 1)), .sl x.data.length (mkN (x.data.flatMap intE) (m + 1 + 1 + 1))]) ++ (.sl x.ports.length (x.ports.flatMap GPort.enc)) :: R)) bs (.slice (some ⟨b, off, none⟩) n c) := by rw [List.append_assoc]; exact t3
      obtain ⟨A1_4, c1_4, b1_4, y1_4, -⟩ := z1_4.sub v3 (o := off + j * 5 + 4) rfl (by simp only [List.length_append, List.length_cons, List.length_nil, hml] <;> omega)
      have g4 : T1 W1 (.sl n ((L ++ [.v (.int .i64 m), .v (.int .i64 (m + 1)), .v (.int .i64 (m + 1 + 1)), .sl x.data.length (mkN (x.data.flatMap intE) (m + 1 + 1 + 1))]) ++ (.sl x.ports.length (x.ports.flatMap GPort.enc)) :: R)) bs (.slice (some ⟨b, off, none⟩) n c) := by rw [List.append_assoc]; exact t3
      obtain ⟨A4, c4, b4, k4, s4, n4, o4, nb4, back4⟩ := g4.sub v3 (o := off + j * 5 + 4) rfl (by simp only [List.length_append, List.length_cons, List.length_nil, hml] <;> omega)
      obtain ⟨rfl, rfl⟩ : A1_4 = A4 ∧ c1_4 = c4 := by
        have hh := k4
        rw [y1_4] at hh; simpa using hh
      clear k4
      have HB4 := Lib.hid back4
      clear back4 g4
      clear z1_4
      go_wp2_with fail
      refine (markPortS_any x.ports (r1) _ s4 o4 n4 (by omega) (by omega)).mono ?_
      rintro _ W2 ⟨r2, rfl, hr2, q4, f4, -⟩
      obtain ⟨t4, u4, v4⟩ := HB4.out W2 _ f4 q4
      have p2 : 0 ≤ r2 := by have := hr2.out; omega
      have l2 : r2 + 0 ≤ 4611686018427387904 := by have := hr2.out; omega
      rw [List.append_assoc] at t4
      replace t4 : T1 W2 (.sl n (L ++ (.v (.int .i64 m)) :: (.v (.int .i64 (m + 1))) :: (.v (.int .i64 (m + 1 + 1))) :: (.sl x.data.length (mkN (x.data.flatMap intE) (m + 1 + 1 + 1))) :: (.sl x.ports.length (mkN (x.ports.flatMap GPort.enc) (r1))) :: R)) bs (.slice (some ⟨b, off, none⟩) n c) := t4
      go_wp2_with fail
      have hmk : mkN (GAgent.enc x) m = [.v (.int .i64 m), .v (.int .i64 (m + 1)), .v (.int .i64 (m + 1 + 1)), .sl x.data.length (mkN (x.data.flatMap intE) (m + 1 + 1 + 1)), .sl x.ports.length (mkN (x.ports.flatMap GPort.enc) (r1))] := by
        show mkN [.v (.int .i64 x.kind), .v (.int .i64 x.level), .v (.int .i64 x.value), .sl x.data.length (x.data.flatMap intE), .sl x.ports.length (x.ports.flatMap GPort.enc)] m = _
        simp only [mkN_cons, mkN_nil, mkD_int, mkD_sl, cD_v, cD_sl]
        all_goals (have h1 := hr1.out; have h2 := hr2.out; exact (cons_eq (vI_eq (by omega)) (cons_eq (vI_eq (by omega)) (cons_eq (vI_eq (by omega)) (cons_eq (slK_eq (by omega)) (cons_eq (slK_eq (by omega)) rfl))))))
      have hfin : mkN ((xs.take (j + 1)).flatMap GAgent.enc) k ++ (xs.drop (j + 1)).flatMap GAgent.enc = L ++ (.v (.int .i64 m)) :: (.v (.int .i64 (m + 1))) :: (.v (.int .i64 (m + 1 + 1))) :: (.sl x.data.length (mkN (x.data.flatMap intE) (m + 1 + 1 + 1))) :: (.sl x.ports.length (mkN (x.ports.flatMap GPort.enc) (r1))) :: R := by
        rw [hsn.out, mkN_append, HL.out, ← hm.out, hmk, List.append_assoc, HR.out]; rfl
      exact ⟨⟨j + 1, r2, by omega, by go_num, by first | rfl | go_num, Lib.hid (by rw [hsn.out, cN_append]; have h1 := hr1.out; have h2 := hr2.out; have h8 := hcx.out; have h9 := hm.out; omega), by omega, by rw [hfin]; exact t4, (((((hon).trans u0).trans u1).trans u2).trans u3).trans u4, v4⟩, by simp [intOf]; omega⟩
    · have : j = n := by omega
      subst this
      go_wp2_with fail
      go_ret
      have hl := Hn.out
      rw [List.take_of_length_le (by omega), List.drop_of_length_le (by omega)] at ht
      have hm' := hm.out
      rw [List.take_of_length_le (by omega)] at hm'
      exact ⟨m, rfl, hm', by simpa using ht, hon, hw⟩

set_option maxHeartbeats 4000000 in
theorem heldAgentS_any (xs : List GAgent) (k r : Int) (n : Nat) {A : Option Addr} {c : Nat} {bs : List Nat} (w : World) (hx : T1 w (.sl n (mkN (xs.flatMap GAgent.enc) k)) bs (.slice A n c)) (Hn : Hid (xs.length = n)) (hk0 : 0 ≤ k) (hk1 : r ≤ 4611686018427387904) (Hr : Hid (r = k + (cN (xs.flatMap GAgent.enc) : Nat))) : Calls Tryz.prog 143 #[.slice A n c, .int .i64 k] w fun e w' => e = .returned (.int .i64 (r)) ∧ Ext w w' := by
  refine quiet_start fun e => ?_
  have hn := hx.nle
  go_enter Tryz.func143, Tryz.ntmps143
  go_wp2_with fail
  repeat (refine wp_region_ext0 _ (by kernel_rfl) (by kernel_rfl) ?_; (repeat (go_big_quiet_step (fail))); refine wpQuiet_nil ?_; intro e; go_wp2_with fail)
  go_loopw [1, 5] (fun l i w' => ∃ (j : Nat) (m : Int), j ≤ n ∧ i = .int .i64 j ∧ l = .int .i64 m ∧ Hid (m = k + (cN ((xs.take j).flatMap GAgent.enc) : Nat)) ∧ 0 ≤ m ∧ ∃ e : ExtOf w, w' = e.to) (fun _ i _ => n - (intOf i).toNat)
  case atStart => exact ⟨0, k, Nat.zero_le _, rfl, rfl, Lib.hid (by simp [cN_nil]), hk0, _, rfl⟩
  case round =>
    obtain ⟨j, m, hj, rfl, rfl, hm, hm0, e, rfl⟩ := hrel
    by_cases hlt : j < n
    · obtain ⟨x, hxk, hsp, hll, hsn, -⟩ := flat_split GAgent.enc 5 GAgent.enc_len Hn hlt
      have hcx : Hid (cN (GAgent.enc x) = 1 + 1 + 1 + cN (x.data.flatMap intE) + cN (x.ports.flatMap GPort.enc)) := by show cN [.v (.int .i64 x.kind), .v (.int .i64 x.level), .v (.int .i64 x.value), .sl x.data.length (x.data.flatMap intE), .sl x.ports.length (x.ports.flatMap GPort.enc)] = _; simp only [cN_cons, cD_v, cD_sl, cN_nil] <;> omega
      have hbd : m + 1 + 1 + 1 + (cN (x.data.flatMap intE) : Nat) + (cN (x.ports.flatMap GPort.enc) : Nat) ≤ 4611686018427387904 := by
        have h1 := hm.out; have h2 := Hr.out; have h3 := hcx.out
        have h5 : cN (xs.flatMap GAgent.enc) = cN ((xs.take j).flatMap GAgent.enc) + (cN (GAgent.enc x) + cN ((xs.drop (j + 1)).flatMap GAgent.enc)) := by rw [hsp.out, cN_append, cN_append]
        omega
      obtain ⟨r1, hr1⟩ : ∃ q : Int, q = m + 1 + 1 + 1 + ((cN (x.data.flatMap intE) : Nat) : Int) := ⟨_, rfl⟩
      obtain ⟨r2, hr2⟩ : ∃ q : Int, q = r1 + ((cN (x.ports.flatMap GPort.enc) : Nat) : Int) := ⟨_, rfl⟩
      have hmk : mkN (GAgent.enc x) m = [.v (.int .i64 (m)), .v (.int .i64 (m + 1)), .v (.int .i64 (m + 1 + 1)), .sl x.data.length (mkN (x.data.flatMap intE) (m + 1 + 1 + 1)), .sl x.ports.length (mkN (x.ports.flatMap GPort.enc) (r1))] := by
        show mkN [.v (.int .i64 x.kind), .v (.int .i64 x.level), .v (.int .i64 x.value), .sl x.data.length (x.data.flatMap intE), .sl x.ports.length (x.ports.flatMap GPort.enc)] m = _
        simp only [mkN_cons, mkN_nil, mkD_int, mkD_sl, cD_v, cD_sl]
        all_goals (exact (cons_eq (vI_eq (by omega)) (cons_eq (vI_eq (by omega)) (cons_eq (vI_eq (by omega)) (cons_eq (slK_eq (by omega)) (cons_eq (slK_eq (by omega)) rfl))))))
      have hxx := hx
      rw [hsp.out, mkN_append, mkN_append, ← hm.out, hmk] at hxx
      have hml : (mkN ((xs.take j).flatMap GAgent.enc) k).length = j * 5 := by rw [mkN_len, hll]
      generalize hL : mkN ((xs.take j).flatMap GAgent.enc) k = L at hxx hml
      clear hL hll hmk
      generalize hR : mkN ((xs.drop (j + 1)).flatMap GAgent.enc) (m + (cN (GAgent.enc x) : Nat)) = R at hxx
      clear hR
      replace hxx : T1 w (.sl n (L ++ (.v (.int .i64 (m))) :: (.v (.int .i64 (m + 1))) :: (.v (.int .i64 (m + 1 + 1))) :: (.sl x.data.length (mkN (x.data.flatMap intE) (m + 1 + 1 + 1))) :: (.sl x.ports.length (mkN (x.ports.flatMap GPort.enc) (r1))) :: R)) bs (.slice A n c) := hxx
      obtain ⟨b, off, rfl⟩ := hxx.krow
      have z0 : T1 w (.sl n (L ++ (.v (.int .i64 (m))) :: (.v (.int .i64 (m + 1))) :: (.v (.int .i64 (m + 1 + 1))) :: (.sl x.data.length (mkN (x.data.flatMap intE) (m + 1 + 1 + 1))) :: (.sl x.ports.length (mkN (x.ports.flatMap GPort.enc) (r1))) :: R)) bs (.slice (some ⟨b, off, none⟩) n c) := by exact hxx
      have y0 := z0.kleaf (o := off + j * 5) rfl (by simp only [List.length_append, List.length_cons, List.length_nil, hml] <;> omega)
      have z1 : T1 w (.sl n ((L ++ [.v (.int .i64 (m))]) ++ (.v (.int .i64 (m + 1))) :: (.v (.int .i64 (m + 1 + 1))) :: (.sl x.data.length (mkN (x.data.flatMap intE) (m + 1 + 1 + 1))) :: (.sl x.ports.length (mkN (x.ports.flatMap GPort.enc) (r1))) :: R)) bs (.slice (some ⟨b, off, none⟩) n c) := by rw [List.append_assoc]; exact hxx
      have y1 := z1.kleaf (o := off + j * 5 + 1) rfl (by simp only [List.length_append, List.length_cons, List.length_nil, hml] <;> omega)
      have z2 : T1 w (.sl n ((L ++ [.v (.int .i64 (m)), .v (.int .i64 (m + 1))]) ++ (.v (.int .i64 (m + 1 + 1))) :: (.sl x.data.length (mkN (x.data.flatMap intE) (m + 1 + 1 + 1))) :: (.sl x.ports.length (mkN (x.ports.flatMap GPort.enc) (r1))) :: R)) bs (.slice (some ⟨b, off, none⟩) n c) := by rw [List.append_assoc]; exact hxx
      have y2 := z2.kleaf (o := off + j * 5 + 2) rfl (by simp only [List.length_append, List.length_cons, List.length_nil, hml] <;> omega)
      have z3 : T1 w (.sl n ((L ++ [.v (.int .i64 (m)), .v (.int .i64 (m + 1)), .v (.int .i64 (m + 1 + 1))]) ++ (.sl x.data.length (mkN (x.data.flatMap intE) (m + 1 + 1 + 1))) :: (.sl x.ports.length (mkN (x.ports.flatMap GPort.enc) (r1))) :: R)) bs (.slice (some ⟨b, off, none⟩) n c) := by rw [List.append_assoc]; exact hxx
      obtain ⟨A3, c3, b3, y3, s3, n3⟩ := z3.ksub (o := off + j * 5 + 3) rfl (by simp only [List.length_append, List.length_cons, List.length_nil, hml] <;> omega)
      have z4 : T1 w (.sl n ((L ++ [.v (.int .i64 (m)), .v (.int .i64 (m + 1)), .v (.int .i64 (m + 1 + 1)), .sl x.data.length (mkN (x.data.flatMap intE) (m + 1 + 1 + 1))]) ++ (.sl x.ports.length (mkN (x.ports.flatMap GPort.enc) (r1))) :: R)) bs (.slice (some ⟨b, off, none⟩) n c) := by rw [List.append_assoc]; exact hxx
      obtain ⟨A4, c4, b4, y4, s4, n4⟩ := z4.ksub (o := off + j * 5 + 4) rfl (by simp only [List.length_append, List.length_cons, List.length_nil, hml] <;> omega)
      clear hxx z0 z1 z2 z3 z4
      have p1 : 0 ≤ r1 := by omega
      have l1 : r1 ≤ 4611686018427387904 := by omega
      have ll1 : r1 + (cN (x.ports.flatMap GPort.enc) : Nat) ≤ 4611686018427387904 := by omega
      have Hr1 : Hid (r1 = m + 1 + 1 + 1 + ((cN (x.data.flatMap intE) : Nat) : Int)) := hr1
      have C1 : Hid (QC Tryz.prog w _ _ _) := fun W hW => heldInt64S_any x.data (m + 1 + 1 + 1) r1 x.data.length W (s3.below hW) Hid_rfl (by omega) l1 Hr1
      have p2 : 0 ≤ r2 := by omega
      have l2 : r2 ≤ 4611686018427387904 := by omega
      have Hr2 : Hid (r2 = r1 + ((cN (x.ports.flatMap GPort.enc) : Nat) : Int)) := hr2
      have C2 : Hid (QC Tryz.prog w _ _ _) := fun W hW => heldPortS_any x.ports (r1) r2 x.ports.length W (s4.below hW) Hid_rfl (by omega) l2 Hr2
      clear hr1 hr2
      go_wp2_with (first | (go_at_call 34; with_reducible refine (C1.out.at_ _).mono ?_; rintro _ _ ⟨rfl, e, rfl⟩) | (go_at_call 188; with_reducible refine (C2.out.at_ _).mono ?_; rintro _ _ ⟨rfl, e, rfl⟩))
      repeat (refine wp_region_ext0 _ (by kernel_rfl) (by kernel_rfl) ?_; (repeat (go_big_quiet_step ((first | with_reducible exact C1.out.at_ _ | with_reducible exact C2.out.at_ _)))); refine wpQuiet_nil ?_; intro e; go_wp2_with (first | (go_at_call 34; with_reducible refine (C1.out.at_ _).mono ?_; rintro _ _ ⟨rfl, e, rfl⟩) | (go_at_call 188; with_reducible refine (C2.out.at_ _).mono ?_; rintro _ _ ⟨rfl, e, rfl⟩)))
      exact ⟨⟨j + 1, r2, by omega, by go_num, by first | rfl | go_num, Lib.hid (by rw [hsn.out, cN_append]; have h1 := Hr1.out; have h2 := Hr2.out; have h8 := hcx.out; have h9 := hm.out; omega), by omega, _, rfl⟩, by simp [intOf]; omega⟩
    · have : j = n := by omega
      subst this
      have E : Hid (r = m) := by
        have h1 := hm.out; have h2 := Hr.out; have h3 := Hn.out
        rw [List.take_of_length_le (by omega)] at h1
        show _ = _; omega
      go_wp2_with fail
      repeat (refine wp_region_ext0 _ (by kernel_rfl) (by kernel_rfl) ?_; (repeat (go_big_quiet_step (fail))); refine wpQuiet_nil ?_; intro e; go_wp2_with fail)
      go_ret
      exact ⟨by rw [E.out]; rfl, _, rfl⟩

set_option maxHeartbeats 4000000 in
theorem markNet_any (x : GNet) (k : Int) {bs us} {lo : Nat} (w : World) (hx : TN w x.enc bs us) (ho : Own lo w bs) (hk0 : 0 ≤ k) (hk1 : k + (x.cnt : Nat) ≤ 4611686018427387904) :
    Calls Tryz.prog 26 #[.agg us.toArray, .int .i64 k] w fun e w' => ∃ r : Int, e = .returned (.int .i64 r) ∧ Hid (r = k + (x.cnt : Nat)) ∧ TN w' (x.mked k) bs us ∧ Onl bs w w' ∧ Own lo w' bs := by
  have hlt := hx.lt
  obtain ⟨A0, c0, b0, rfl, rfl, t0, l0, m0⟩ := GNet.us hx
  have o0 := ho
  have g0 : w.heap.size ∉ bs := fun hm => by have := hlt _ (show w.heap.size ∈ bs by simp [hm]); omega
  have B0 : ∀ S, Below w.heap.size w (w.alloc S) := fun _ => (Below.refl _ _).alloc (Nat.le_refl _) _
  have hcn : x.cnt = cN (x.agents.flatMap GAgent.enc) := rfl
  rw [hcn] at hk1
  clear hcn hx
  go_enter Tryz.func26, Tryz.ntmps26
  go_wp2_with fail
  refine (markAgentS_any x.agents k _ (t0.below (B0 _)) (o0.below (B0 _)) (Nat.le_trans l0 m0) (by omega) (by omega)).mono ?_
  rintro _ w1 ⟨r1, rfl, hr1, S0, f1, V0⟩
  have p1 : 0 ≤ r1 := by have := hr1.out; omega
  have b1_ : r1 + 0 ≤ 4611686018427387904 := by have := hr1.out; omega
  have u1 := (f1.other w.heap.size (by simp) g0).trans (heap_alloc_new w _)
  have z1 : w.heap.size < w1.heap.size := by have := f1.size; simp at this; omega
  have F1 : Onl (bs) w w1 := Onl.trans (Onl.of_ext (B0 _)) (f1.sub (fun y hy => by first | exact hy | (simp at hy ⊢; grind)))
  have q1_0 := cell_of_row _ _ 0 _ _ _ u1
  simp only [List.getElem?_toArray, List.getElem?_cons_zero, List.getElem?_cons_succ] at q1_0
  go_wp2_with fail
  go_ret
  refine ⟨r1, rfl, ?_, ?_, F1, ho.onl F1⟩
  · show _ = _
    have hcn : x.cnt = cN (x.agents.flatMap GAgent.enc) := rfl
    have h1 := hr1.out; omega
  · have h1 := hr1.out; skip
    have h := (TN.sl_mk S0 TN.done)
    simp only [List.append_nil, List.nil_append, List.append_assoc, List.cons_append] at h
    unfold GNet.mked
    simpa only [List.append_nil, List.nil_append, List.append_assoc, List.cons_append] using h

set_option maxHeartbeats 4000000 in
theorem heldNet_any (x : GNet) (k r : Int) {bs us} (w : World) (hx : TN w (x.mked k) bs us) (hk0 : 0 ≤ k) (hk1 : r ≤ 4611686018427387904) (Hr : Hid (r = k + (x.cnt : Nat))) : Calls Tryz.prog 71 #[.agg us.toArray, .int .i64 k] w fun e w' => e = .returned (.int .i64 (r)) ∧ Ext w w' := by
  refine quiet_start fun e => ?_
  unfold GNet.mked at hx
  have x1 := hx
  clear hx
  obtain ⟨A0, c0, b0, r0_, U_1, rfl, rfl, t0, l0, m0, x1_⟩ := TN.sl_cons x1
  obtain ⟨rfl, rfl⟩ := TN.end_ x1_
  clear x1_ x1
  obtain ⟨r1, hr1⟩ : ∃ q : Int, q = k + ((cN (x.agents.flatMap GAgent.enc) : Nat) : Int) := ⟨_, rfl⟩
  have hcn : x.cnt = cN (x.agents.flatMap GAgent.enc) := rfl
  have hE : r1 = r := by have h1 := Hr.out; omega
  have E := Lib.hid hE
  have p1 : 0 ≤ r1 := by omega
  have q1 : r1 ≤ 4611686018427387904 := by have h1 := Hr.out; omega
  have Hr1 : Hid (r1 = k + ((cN (x.agents.flatMap GAgent.enc) : Nat) : Int)) := hr1
  clear hcn hE Hr hr1
  go_enter Tryz.func71, Tryz.ntmps71
  go_upto_region 1 with (fail)
  generalize hgg : e.to.heap.size = g
  refine rebase_box e hgg (fun w1 e hx1 hgeg hltg cg => ?_)
  clear hgg
  replace t0 := t0.below hx1
  simp only [List.cons_append, List.nil_append, List.append_nil] at cg
  have y0 := cg.always hltg 0 _ rfl
  simp only [Nat.zero_add] at y0
  clear cg
  have C1 : Hid (QC Tryz.prog w1 _ _ _) := fun W hW => heldAgentS_any x.agents (k) r1 x.agents.length W (t0.below hW) Hid_rfl (by omega) q1 Hr1
  go_wp2_with (first | (go_at_call 143; with_reducible refine (C1.out.at_ _).mono ?_; rintro _ _ ⟨rfl, e, rfl⟩))
  repeat (refine wp_region_ext0 _ (by kernel_rfl) (by kernel_rfl) ?_; (repeat (go_big_quiet_step ((first | with_reducible exact C1.out.at_ _)))); refine wpQuiet_nil ?_; intro e; go_wp2_with (first | (go_at_call 143; with_reducible refine (C1.out.at_ _).mono ?_; rintro _ _ ⟨rfl, e, rfl⟩)))
  go_ret
  exact ⟨by rw [← E.out]; rfl, ExtOf.old hx1 e⟩

set_option maxHeartbeats 4000000 in
theorem markNetS_any (xs : List GNet) (k : Int) {A : Option Addr} {c lo : Nat} {bs} (w : World) (hx : T1 w (.sl xs.length (xs.flatMap GNet.enc)) bs (.slice A xs.length c)) (ho : Own lo w bs) (hn' : xs.length ≤ maxLen) (hk0 : 0 ≤ k) (hk1 : k + (cN (xs.flatMap GNet.enc) : Nat) ≤ 4611686018427387904) :
    Calls Tryz.prog 25 #[.slice A xs.length c, .int .i64 k] w fun e w' => ∃ r : Int, e = .returned (.int .i64 r) ∧ Hid (r = k + (cN (xs.flatMap GNet.enc) : Nat)) ∧ T1 w' (.sl xs.length (mkN (xs.flatMap GNet.enc) k)) bs (.slice A xs.length c) ∧ Onl bs w w' ∧ Own lo w' bs := by
  unfold maxLen at hn'
  obtain ⟨n, hn⟩ : ∃ n, xs.length = n := ⟨_, rfl⟩
  rw [hn] at hx hn' ⊢
  have Hn : Hid (xs.length = n) := hn
  clear hn
  have hkk := Lib.hid hk1
  clear hk1
  go_enter Tryz.func25, Tryz.ntmps25
  go_wp2_with fail
  go_loopw [1, 5] (fun l i w' => ∃ (j : Nat) (m : Int), j ≤ n ∧ i = .int .i64 j ∧ l = .int .i64 m ∧ Hid (m = k + (cN ((xs.take j).flatMap GNet.enc) : Nat)) ∧ 0 ≤ m ∧ T1 w' (.sl n (mkN ((xs.take j).flatMap GNet.enc) k ++ (xs.drop j).flatMap GNet.enc)) bs (.slice A n c) ∧ Onl bs w w' ∧ Own lo w' bs) (fun _ i _ => n - (intOf i).toNat)
  case atStart => exact ⟨0, k, Nat.zero_le _, rfl, rfl, Lib.hid (by simp [cN_nil]), hk0, by simpa [mkN_nil] using hx, Onl.refl _ _, ho⟩
  case round =>
    obtain ⟨j, m, hj, rfl, rfl, hm, hm0, ht, hon, hw⟩ := hrel
    by_cases hlt : j < n
    · obtain ⟨x, hxk, hsp, hll, hsn, hdr⟩ := flat_split GNet.enc 1 GNet.enc_len Hn hlt
      rw [hdr.out, List.flatMap_cons] at ht
      have hml : (mkN ((xs.take j).flatMap GNet.enc) k).length = j * 1 := by rw [mkN_len, hll]
      generalize hL : mkN ((xs.take j).flatMap GNet.enc) k = L at ht hml
      have HL := Lib.hid hL
      clear hL hll
      have hcx : Hid (cN (GNet.enc x) = cN (x.agents.flatMap GAgent.enc)) := by show cN [.sl x.agents.length (x.agents.flatMap GAgent.enc)] = _; simp only [cN_cons, cD_v, cD_sl, cN_nil] <;> omega
      have hbd : m + (cN (x.agents.flatMap GAgent.enc) : Nat) ≤ 4611686018427387904 := by
        have h1 := hm.out; have h2 := hkk.out; have h3 := hcx.out
        have h4 := hsp.out
        have h5 : cN (xs.flatMap GNet.enc) = cN ((xs.take j).flatMap GNet.enc) + (cN (GNet.enc x) + cN ((xs.drop (j + 1)).flatMap GNet.enc)) := by rw [h4, cN_append, cN_append]
        omega
      replace ht : T1 wr (.sl n (L ++ (.sl x.agents.length (x.agents.flatMap GAgent.enc)) :: (xs.drop (j + 1)).flatMap GNet.enc)) bs (.slice A n c) := ht
      generalize hR : (xs.drop (j + 1)).flatMap GNet.enc = R at ht
      have HR := Lib.hid hR
      clear hR
      obtain ⟨b, off, rfl, -, hbm, hbl, hblo, hfz⟩ := ht.row hw
      have z0_0 : T1 wr (.sl n (L ++ (.sl x.agents.length (x.agents.flatMap GAgent.enc)) :: R)) bs (.slice (some ⟨b, off, none⟩) n c) := by exact ht
      obtain ⟨A0_0, c0_0, b0_0, y0_0, -⟩ := z0_0.sub hw (o := off + j) rfl (by simp only [List.length_append, List.length_cons, List.length_nil, hml] <;> omega)
      have g0 := ht
      obtain ⟨A0, c0, b0, k0, s0, n0, o0, nb0, back0⟩ := g0.sub hw (o := off + j) rfl (by simp only [List.length_append, List.length_cons, List.length_nil, hml] <;> omega)
      obtain ⟨rfl, rfl⟩ : A0_0 = A0 ∧ c0_0 = c0 := by
        have hh := k0
        rw [y0_0] at hh; simpa using hh
      clear k0
      have HB0 := Lib.hid back0
      clear back0 g0
      clear z0_0
      go_wp2_with fail
      refine (markAgentS_any x.agents (m) _ s0 o0 n0 (by omega) (by omega)).mono ?_
      rintro _ W1 ⟨r1, rfl, hr1, q0, f0, -⟩
      obtain ⟨t0, u0, v0⟩ := HB0.out W1 _ f0 q0
      have p1 : 0 ≤ r1 := by have := hr1.out; omega
      have l1 : r1 + 0 ≤ 4611686018427387904 := by have := hr1.out; omega
      replace t0 : T1 W1 (.sl n (L ++ (.sl x.agents.length (mkN (x.agents.flatMap GAgent.enc) (m))) :: R)) bs (.slice (some ⟨b, off, none⟩) n c) := t0
      go_wp2_with fail
      have hmk : mkN (GNet.enc x) m = [.sl x.agents.length (mkN (x.agents.flatMap GAgent.enc) (m))] := by
        show mkN [.sl x.agents.length (x.agents.flatMap GAgent.enc)] m = _
        simp only [mkN_cons, mkN_nil, mkD_int, mkD_sl, cD_v, cD_sl]
        all_goals (have h1 := hr1.out; exact (cons_eq (slK_eq (by omega)) rfl))
      have hfin : mkN ((xs.take (j + 1)).flatMap GNet.enc) k ++ (xs.drop (j + 1)).flatMap GNet.enc = L ++ (.sl x.agents.length (mkN (x.agents.flatMap GAgent.enc) (m))) :: R := by
        rw [hsn.out, mkN_append, HL.out, ← hm.out, hmk, List.append_assoc, HR.out]; rfl
      exact ⟨⟨j + 1, r1, by omega, by go_num, by first | rfl | go_num, Lib.hid (by rw [hsn.out, cN_append]; have h1 := hr1.out; have h8 := hcx.out; have h9 := hm.out; omega), by omega, by rw [hfin]; exact t0, (hon).trans u0, v0⟩, by simp [intOf]; omega⟩
    · have : j = n := by omega
      subst this
      go_wp2_with fail
      go_ret
      have hl := Hn.out
      rw [List.take_of_length_le (by omega), List.drop_of_length_le (by omega)] at ht
      have hm' := hm.out
      rw [List.take_of_length_le (by omega)] at hm'
      exact ⟨m, rfl, hm', by simpa using ht, hon, hw⟩

set_option maxHeartbeats 4000000 in
theorem heldNetS_any (xs : List GNet) (k r : Int) (n : Nat) {A : Option Addr} {c : Nat} {bs : List Nat} (w : World) (hx : T1 w (.sl n (mkN (xs.flatMap GNet.enc) k)) bs (.slice A n c)) (Hn : Hid (xs.length = n)) (hk0 : 0 ≤ k) (hk1 : r ≤ 4611686018427387904) (Hr : Hid (r = k + (cN (xs.flatMap GNet.enc) : Nat))) : Calls Tryz.prog 70 #[.slice A n c, .int .i64 k] w fun e w' => e = .returned (.int .i64 (r)) ∧ Ext w w' := by
  refine quiet_start fun e => ?_
  have hn := hx.nle
  go_enter Tryz.func70, Tryz.ntmps70
  go_wp2_with fail
  repeat (refine wp_region_ext0 _ (by kernel_rfl) (by kernel_rfl) ?_; (repeat (go_big_quiet_step (fail))); refine wpQuiet_nil ?_; intro e; go_wp2_with fail)
  go_loopw [1, 5] (fun l i w' => ∃ (j : Nat) (m : Int), j ≤ n ∧ i = .int .i64 j ∧ l = .int .i64 m ∧ Hid (m = k + (cN ((xs.take j).flatMap GNet.enc) : Nat)) ∧ 0 ≤ m ∧ ∃ e : ExtOf w, w' = e.to) (fun _ i _ => n - (intOf i).toNat)
  case atStart => exact ⟨0, k, Nat.zero_le _, rfl, rfl, Lib.hid (by simp [cN_nil]), hk0, _, rfl⟩
  case round =>
    obtain ⟨j, m, hj, rfl, rfl, hm, hm0, e, rfl⟩ := hrel
    by_cases hlt : j < n
    · obtain ⟨x, hxk, hsp, hll, hsn, -⟩ := flat_split GNet.enc 1 GNet.enc_len Hn hlt
      have hcx : Hid (cN (GNet.enc x) = cN (x.agents.flatMap GAgent.enc)) := by show cN [.sl x.agents.length (x.agents.flatMap GAgent.enc)] = _; simp only [cN_cons, cD_v, cD_sl, cN_nil] <;> omega
      have hbd : m + (cN (x.agents.flatMap GAgent.enc) : Nat) ≤ 4611686018427387904 := by
        have h1 := hm.out; have h2 := Hr.out; have h3 := hcx.out
        have h5 : cN (xs.flatMap GNet.enc) = cN ((xs.take j).flatMap GNet.enc) + (cN (GNet.enc x) + cN ((xs.drop (j + 1)).flatMap GNet.enc)) := by rw [hsp.out, cN_append, cN_append]
        omega
      obtain ⟨r1, hr1⟩ : ∃ q : Int, q = m + ((cN (x.agents.flatMap GAgent.enc) : Nat) : Int) := ⟨_, rfl⟩
      have hmk : mkN (GNet.enc x) m = [.sl x.agents.length (mkN (x.agents.flatMap GAgent.enc) (m))] := by
        show mkN [.sl x.agents.length (x.agents.flatMap GAgent.enc)] m = _
        simp only [mkN_cons, mkN_nil, mkD_int, mkD_sl, cD_v, cD_sl]
        all_goals (exact (cons_eq (slK_eq (by omega)) rfl))
      have hxx := hx
      rw [hsp.out, mkN_append, mkN_append, ← hm.out, hmk] at hxx
      have hml : (mkN ((xs.take j).flatMap GNet.enc) k).length = j * 1 := by rw [mkN_len, hll]
      generalize hL : mkN ((xs.take j).flatMap GNet.enc) k = L at hxx hml
      clear hL hll hmk
      generalize hR : mkN ((xs.drop (j + 1)).flatMap GNet.enc) (m + (cN (GNet.enc x) : Nat)) = R at hxx
      clear hR
      replace hxx : T1 w (.sl n (L ++ (.sl x.agents.length (mkN (x.agents.flatMap GAgent.enc) (m))) :: R)) bs (.slice A n c) := hxx
      obtain ⟨b, off, rfl⟩ := hxx.krow
      have z0 : T1 w (.sl n (L ++ (.sl x.agents.length (mkN (x.agents.flatMap GAgent.enc) (m))) :: R)) bs (.slice (some ⟨b, off, none⟩) n c) := by exact hxx
      obtain ⟨A0, c0, b0, y0, s0, n0⟩ := z0.ksub (o := off + j) rfl (by simp only [List.length_append, List.length_cons, List.length_nil, hml] <;> omega)
      clear hxx z0
      have p1 : 0 ≤ r1 := by omega
      have l1 : r1 ≤ 4611686018427387904 := by omega
      have Hr1 : Hid (r1 = m + ((cN (x.agents.flatMap GAgent.enc) : Nat) : Int)) := hr1
      have C1 : Hid (QC Tryz.prog w _ _ _) := fun W hW => heldAgentS_any x.agents (m) r1 x.agents.length W (s0.below hW) Hid_rfl (by omega) l1 Hr1
      clear hr1
      go_wp2_with (first | (go_at_call 143; with_reducible refine (C1.out.at_ _).mono ?_; rintro _ _ ⟨rfl, e, rfl⟩))
      repeat (refine wp_region_ext0 _ (by kernel_rfl) (by kernel_rfl) ?_; (repeat (go_big_quiet_step ((first | with_reducible exact C1.out.at_ _)))); refine wpQuiet_nil ?_; intro e; go_wp2_with (first | (go_at_call 143; with_reducible refine (C1.out.at_ _).mono ?_; rintro _ _ ⟨rfl, e, rfl⟩)))
      exact ⟨⟨j + 1, r1, by omega, by go_num, by first | rfl | go_num, Lib.hid (by rw [hsn.out, cN_append]; have h1 := Hr1.out; have h8 := hcx.out; have h9 := hm.out; omega), by omega, _, rfl⟩, by simp [intOf]; omega⟩
    · have : j = n := by omega
      subst this
      have E : Hid (r = m) := by
        have h1 := hm.out; have h2 := Hr.out; have h3 := Hn.out
        rw [List.take_of_length_le (by omega)] at h1
        show _ = _; omega
      go_wp2_with fail
      repeat (refine wp_region_ext0 _ (by kernel_rfl) (by kernel_rfl) ?_; (repeat (go_big_quiet_step (fail))); refine wpQuiet_nil ?_; intro e; go_wp2_with fail)
      go_ret
      exact ⟨by rw [E.out]; rfl, _, rfl⟩

set_option maxHeartbeats 4000000 in
theorem markOriginS_any (xs : List GOrigin) (k : Int) {A : Option Addr} {c lo : Nat} {bs} (w : World) (hx : T1 w (.sl xs.length (xs.flatMap GOrigin.enc)) bs (.slice A xs.length c)) (ho : Own lo w bs) (hn' : xs.length ≤ maxLen) (hk0 : 0 ≤ k) (hk1 : k + (cN (xs.flatMap GOrigin.enc) : Nat) ≤ 4611686018427387904) :
    Calls Tryz.prog 67 #[.slice A xs.length c, .int .i64 k] w fun e w' => ∃ r : Int, e = .returned (.int .i64 r) ∧ Hid (r = k + (cN (xs.flatMap GOrigin.enc) : Nat)) ∧ T1 w' (.sl xs.length (mkN (xs.flatMap GOrigin.enc) k)) bs (.slice A xs.length c) ∧ Onl bs w w' ∧ Own lo w' bs := by
  unfold maxLen at hn'
  obtain ⟨n, hn⟩ : ∃ n, xs.length = n := ⟨_, rfl⟩
  rw [hn] at hx hn' ⊢
  have Hn : Hid (xs.length = n) := hn
  clear hn
  have hkk := Lib.hid hk1
  clear hk1
  go_enter Tryz.func67, Tryz.ntmps67
  go_wp2_with fail
  go_loopw [1, 5] (fun l i w' => ∃ (j : Nat) (m : Int), j ≤ n ∧ i = .int .i64 j ∧ l = .int .i64 m ∧ Hid (m = k + (cN ((xs.take j).flatMap GOrigin.enc) : Nat)) ∧ 0 ≤ m ∧ T1 w' (.sl n (mkN ((xs.take j).flatMap GOrigin.enc) k ++ (xs.drop j).flatMap GOrigin.enc)) bs (.slice A n c) ∧ Onl bs w w' ∧ Own lo w' bs) (fun _ i _ => n - (intOf i).toNat)
  case atStart => exact ⟨0, k, Nat.zero_le _, rfl, rfl, Lib.hid (by simp [cN_nil]), hk0, by simpa [mkN_nil] using hx, Onl.refl _ _, ho⟩
  case round =>
    obtain ⟨j, m, hj, rfl, rfl, hm, hm0, ht, hon, hw⟩ := hrel
    by_cases hlt : j < n
    · obtain ⟨x, hxk, hsp, hll, hsn, hdr⟩ := flat_split GOrigin.enc 3 GOrigin.enc_len Hn hlt
      rw [hdr.out, List.flatMap_cons] at ht
      have hml : (mkN ((xs.take j).flatMap GOrigin.enc) k).length = j * 3 := by rw [mkN_len, hll]
      generalize hL : mkN ((xs.take j).flatMap GOrigin.enc) k = L at ht hml
      have HL := Lib.hid hL
      clear hL hll
      have hcx : Hid (cN (GOrigin.enc x) = 1 + 1 + 1) := by show cN [.v (.int .i64 x.step), .v (.int .i64 x.def_), .v (.int .i64 x.source)] = _; simp only [cN_cons, cD_v, cD_sl, cN_nil] <;> omega
      have hbd : m + 1 + 1 + 1 ≤ 4611686018427387904 := by
        have h1 := hm.out; have h2 := hkk.out; have h3 := hcx.out
        have h4 := hsp.out
        have h5 : cN (xs.flatMap GOrigin.enc) = cN ((xs.take j).flatMap GOrigin.enc) + (cN (GOrigin.enc x) + cN ((xs.drop (j + 1)).flatMap GOrigin.enc)) := by rw [h4, cN_append, cN_append]
        omega
      replace ht : T1 wr (.sl n (L ++ (.v (.int .i64 x.step)) :: (.v (.int .i64 x.def_)) :: (.v (.int .i64 x.source)) :: (xs.drop (j + 1)).flatMap GOrigin.enc)) bs (.slice A n c) := ht
      generalize hR : (xs.drop (j + 1)).flatMap GOrigin.enc = R at ht
      have HR := Lib.hid hR
      clear hR
      obtain ⟨b, off, rfl, -, hbm, hbl, hblo, hfz⟩ := ht.row hw
      have z0_0 : T1 wr (.sl n (L ++ (.v (.int .i64 x.step)) :: (.v (.int .i64 x.def_)) :: (.v (.int .i64 x.source)) :: R)) bs (.slice (some ⟨b, off, none⟩) n c) := by exact ht
      have y0_0 := (z0_0.leaf hw (o := off + j * 3) rfl (by simp only [List.length_append, List.length_cons, List.length_nil, hml] <;> omega)).1
      have z0_1 : T1 wr (.sl n ((L ++ [.v (.int .i64 x.step)]) ++ (.v (.int .i64 x.def_)) :: (.v (.int .i64 x.source)) :: R)) bs (.slice (some ⟨b, off, none⟩) n c) := by rw [List.append_assoc]; exact ht
      have y0_1 := (z0_1.leaf hw (o := off + j * 3 + 1) rfl (by simp only [List.length_append, List.length_cons, List.length_nil, hml] <;> omega)).1
      have z0_2 : T1 wr (.sl n ((L ++ [.v (.int .i64 x.step), .v (.int .i64 x.def_)]) ++ (.v (.int .i64 x.source)) :: R)) bs (.slice (some ⟨b, off, none⟩) n c) := by rw [List.append_assoc]; exact ht
      have y0_2 := (z0_2.leaf hw (o := off + j * 3 + 2) rfl (by simp only [List.length_append, List.length_cons, List.length_nil, hml] <;> omega)).1
      obtain ⟨t0, u0, v0⟩ := (ht.leaf hw (o := off + j * 3) rfl (by simp only [List.length_append, List.length_cons, List.length_nil, hml] <;> omega)).2 (.int .i64 m) rfl
      replace t0 : T1 (World.setCell wr ⟨b, off + j * 3, none⟩ (.int .i64 m)) (.sl n (L ++ (.v (.int .i64 m)) :: (.v (.int .i64 x.def_)) :: (.v (.int .i64 x.source)) :: R)) bs (.slice (some ⟨b, off, none⟩) n c) := t0
      replace t0 : T1 (World.setCell wr ⟨b, off + j * 3, none⟩ (.int .i64 m)) (.sl n ((L ++ [.v (.int .i64 m)]) ++ (.v (.int .i64 x.def_)) :: (.v (.int .i64 x.source)) :: R)) bs (.slice (some ⟨b, off, none⟩) n c) := by rw [List.append_assoc]; exact t0
      obtain ⟨t1, u1, v1⟩ := (t0.leaf v0 (o := off + j * 3 + 1) rfl (by simp only [List.length_append, List.length_cons, List.length_nil, hml] <;> omega)).2 (.int .i64 (m + 1)) rfl
      rw [List.append_assoc] at t1
      replace t1 : T1 (World.setCell (World.setCell wr ⟨b, off + j * 3, none⟩ (.int .i64 m)) ⟨b, off + j * 3 + 1, none⟩ (.int .i64 (m + 1))) (.sl n (L ++ (.v (.int .i64 m)) :: (.v (.int .i64 (m + 1))) :: (.v (.int .i64 x.source)) :: R)) bs (.slice (some ⟨b, off, none⟩) n c) := t1
      replace t1 : T1 (World.setCell (World.setCell wr ⟨b, off + j * 3, none⟩ (.int .i64 m)) ⟨b, off + j * 3 + 1, none⟩ (.int .i64 (m + 1))) (.sl n ((L ++ [.v (.int .i64 m), .v (.int .i64 (m + 1))]) ++ (.v (.int .i64 x.source)) :: R)) bs (.slice (some ⟨b, off, none⟩) n c) := by rw [List.append_assoc]; exact t1
      obtain ⟨t2, u2, v2⟩ := (t1.leaf v1 (o := off + j * 3 + 2) rfl (by simp only [List.length_append, List.length_cons, List.length_nil, hml] <;> omega)).2 (.int .i64 (m + 1 + 1)) rfl
      rw [List.append_assoc] at t2
      replace t2 : T1 (World.setCell (World.setCell (World.setCell wr ⟨b, off + j * 3, none⟩ (.int .i64 m)) ⟨b, off + j * 3 + 1, none⟩ (.int .i64 (m + 1))) ⟨b, off + j * 3 + 2, none⟩ (.int .i64 (m + 1 + 1))) (.sl n (L ++ (.v (.int .i64 m)) :: (.v (.int .i64 (m + 1))) :: (.v (.int .i64 (m + 1 + 1))) :: R)) bs (.slice (some ⟨b, off, none⟩) n c) := t2
      clear z0_0 z0_1 z0_2
      go_wp2_with fail
      have hmk : mkN (GOrigin.enc x) m = [.v (.int .i64 m), .v (.int .i64 (m + 1)), .v (.int .i64 (m + 1 + 1))] := by
        show mkN [.v (.int .i64 x.step), .v (.int .i64 x.def_), .v (.int .i64 x.source)] m = _
        simp only [mkN_cons, mkN_nil, mkD_int, mkD_sl, cD_v, cD_sl]
        all_goals (exact (cons_eq (vI_eq (by omega)) (cons_eq (vI_eq (by omega)) (cons_eq (vI_eq (by omega)) rfl))))
      have hfin : mkN ((xs.take (j + 1)).flatMap GOrigin.enc) k ++ (xs.drop (j + 1)).flatMap GOrigin.enc = L ++ (.v (.int .i64 m)) :: (.v (.int .i64 (m + 1))) :: (.v (.int .i64 (m + 1 + 1))) :: R := by
        rw [hsn.out, mkN_append, HL.out, ← hm.out, hmk, List.append_assoc, HR.out]; rfl
      exact ⟨⟨j + 1, m + 1 + 1 + 1, by omega, by go_num, by first | rfl | go_num, Lib.hid (by rw [hsn.out, cN_append]; have h8 := hcx.out; have h9 := hm.out; omega), by omega, by rw [hfin]; exact t2, (((hon).trans u0).trans u1).trans u2, v2⟩, by simp [intOf]; omega⟩
    · have : j = n := by omega
      subst this
      go_wp2_with fail
      go_ret
      have hl := Hn.out
      rw [List.take_of_length_le (by omega), List.drop_of_length_le (by omega)] at ht
      have hm' := hm.out
      rw [List.take_of_length_le (by omega)] at hm'
      exact ⟨m, rfl, hm', by simpa using ht, hon, hw⟩

set_option maxHeartbeats 4000000 in
theorem heldOriginS_any (xs : List GOrigin) (k r : Int) (n : Nat) {A : Option Addr} {c : Nat} {bs : List Nat} (w : World) (hx : T1 w (.sl n (mkN (xs.flatMap GOrigin.enc) k)) bs (.slice A n c)) (Hn : Hid (xs.length = n)) (hk0 : 0 ≤ k) (hk1 : r ≤ 4611686018427387904) (Hr : Hid (r = k + (cN (xs.flatMap GOrigin.enc) : Nat))) : Calls Tryz.prog 72 #[.slice A n c, .int .i64 k] w fun e w' => e = .returned (.int .i64 (r)) ∧ Ext w w' := by
  refine quiet_start fun e => ?_
  have hn := hx.nle
  go_enter Tryz.func72, Tryz.ntmps72
  go_wp2_with fail
  repeat (refine wp_region_ext0 _ (by kernel_rfl) (by kernel_rfl) ?_; (repeat (go_big_quiet_step (fail))); refine wpQuiet_nil ?_; intro e; go_wp2_with fail)
  go_loopw [1, 5] (fun l i w' => ∃ (j : Nat) (m : Int), j ≤ n ∧ i = .int .i64 j ∧ l = .int .i64 m ∧ Hid (m = k + (cN ((xs.take j).flatMap GOrigin.enc) : Nat)) ∧ 0 ≤ m ∧ ∃ e : ExtOf w, w' = e.to) (fun _ i _ => n - (intOf i).toNat)
  case atStart => exact ⟨0, k, Nat.zero_le _, rfl, rfl, Lib.hid (by simp [cN_nil]), hk0, _, rfl⟩
  case round =>
    obtain ⟨j, m, hj, rfl, rfl, hm, hm0, e, rfl⟩ := hrel
    by_cases hlt : j < n
    · obtain ⟨x, hxk, hsp, hll, hsn, -⟩ := flat_split GOrigin.enc 3 GOrigin.enc_len Hn hlt
      have hcx : Hid (cN (GOrigin.enc x) = 1 + 1 + 1) := by show cN [.v (.int .i64 x.step), .v (.int .i64 x.def_), .v (.int .i64 x.source)] = _; simp only [cN_cons, cD_v, cD_sl, cN_nil] <;> omega
      have hbd : m + 1 + 1 + 1 ≤ 4611686018427387904 := by
        have h1 := hm.out; have h2 := Hr.out; have h3 := hcx.out
        have h5 : cN (xs.flatMap GOrigin.enc) = cN ((xs.take j).flatMap GOrigin.enc) + (cN (GOrigin.enc x) + cN ((xs.drop (j + 1)).flatMap GOrigin.enc)) := by rw [hsp.out, cN_append, cN_append]
        omega
      have hmk : mkN (GOrigin.enc x) m = [.v (.int .i64 (m)), .v (.int .i64 (m + 1)), .v (.int .i64 (m + 1 + 1))] := by
        show mkN [.v (.int .i64 x.step), .v (.int .i64 x.def_), .v (.int .i64 x.source)] m = _
        simp only [mkN_cons, mkN_nil, mkD_int, mkD_sl, cD_v, cD_sl]
        all_goals (exact (cons_eq (vI_eq (by omega)) (cons_eq (vI_eq (by omega)) (cons_eq (vI_eq (by omega)) rfl))))
      have hxx := hx
      rw [hsp.out, mkN_append, mkN_append, ← hm.out, hmk] at hxx
      have hml : (mkN ((xs.take j).flatMap GOrigin.enc) k).length = j * 3 := by rw [mkN_len, hll]
      generalize hL : mkN ((xs.take j).flatMap GOrigin.enc) k = L at hxx hml
      clear hL hll hmk
      generalize hR : mkN ((xs.drop (j + 1)).flatMap GOrigin.enc) (m + (cN (GOrigin.enc x) : Nat)) = R at hxx
      clear hR
      replace hxx : T1 w (.sl n (L ++ (.v (.int .i64 (m))) :: (.v (.int .i64 (m + 1))) :: (.v (.int .i64 (m + 1 + 1))) :: R)) bs (.slice A n c) := hxx
      obtain ⟨b, off, rfl⟩ := hxx.krow
      have z0 : T1 w (.sl n (L ++ (.v (.int .i64 (m))) :: (.v (.int .i64 (m + 1))) :: (.v (.int .i64 (m + 1 + 1))) :: R)) bs (.slice (some ⟨b, off, none⟩) n c) := by exact hxx
      have y0 := z0.kleaf (o := off + j * 3) rfl (by simp only [List.length_append, List.length_cons, List.length_nil, hml] <;> omega)
      have z1 : T1 w (.sl n ((L ++ [.v (.int .i64 (m))]) ++ (.v (.int .i64 (m + 1))) :: (.v (.int .i64 (m + 1 + 1))) :: R)) bs (.slice (some ⟨b, off, none⟩) n c) := by rw [List.append_assoc]; exact hxx
      have y1 := z1.kleaf (o := off + j * 3 + 1) rfl (by simp only [List.length_append, List.length_cons, List.length_nil, hml] <;> omega)
      have z2 : T1 w (.sl n ((L ++ [.v (.int .i64 (m)), .v (.int .i64 (m + 1))]) ++ (.v (.int .i64 (m + 1 + 1))) :: R)) bs (.slice (some ⟨b, off, none⟩) n c) := by rw [List.append_assoc]; exact hxx
      have y2 := z2.kleaf (o := off + j * 3 + 2) rfl (by simp only [List.length_append, List.length_cons, List.length_nil, hml] <;> omega)
      clear hxx z0 z1 z2
      go_wp2_with fail
      repeat (refine wp_region_ext0 _ (by kernel_rfl) (by kernel_rfl) ?_; (repeat (go_big_quiet_step (fail))); refine wpQuiet_nil ?_; intro e; go_wp2_with fail)
      exact ⟨⟨j + 1, m + 1 + 1 + 1, by omega, by go_num, by first | rfl | go_num, Lib.hid (by rw [hsn.out, cN_append]; have h8 := hcx.out; have h9 := hm.out; omega), by omega, _, rfl⟩, by simp [intOf]; omega⟩
    · have : j = n := by omega
      subst this
      have E : Hid (r = m) := by
        have h1 := hm.out; have h2 := Hr.out; have h3 := Hn.out
        rw [List.take_of_length_le (by omega)] at h1
        show _ = _; omega
      go_wp2_with fail
      repeat (refine wp_region_ext0 _ (by kernel_rfl) (by kernel_rfl) ?_; (repeat (go_big_quiet_step (fail))); refine wpQuiet_nil ?_; intro e; go_wp2_with fail)
      go_ret
      exact ⟨by rw [E.out]; rfl, _, rfl⟩

set_option maxHeartbeats 4000000 in
theorem markBreakS_any (xs : List GBreak) (k : Int) {A : Option Addr} {c lo : Nat} {bs} (w : World) (hx : T1 w (.sl xs.length (xs.flatMap GBreak.enc)) bs (.slice A xs.length c)) (ho : Own lo w bs) (hn' : xs.length ≤ maxLen) (hk0 : 0 ≤ k) (hk1 : k + (cN (xs.flatMap GBreak.enc) : Nat) ≤ 4611686018427387904) :
    Calls Tryz.prog 68 #[.slice A xs.length c, .int .i64 k] w fun e w' => ∃ r : Int, e = .returned (.int .i64 r) ∧ Hid (r = k + (cN (xs.flatMap GBreak.enc) : Nat)) ∧ T1 w' (.sl xs.length (mkN (xs.flatMap GBreak.enc) k)) bs (.slice A xs.length c) ∧ Onl bs w w' ∧ Own lo w' bs := by
  unfold maxLen at hn'
  obtain ⟨n, hn⟩ : ∃ n, xs.length = n := ⟨_, rfl⟩
  rw [hn] at hx hn' ⊢
  have Hn : Hid (xs.length = n) := hn
  clear hn
  have hkk := Lib.hid hk1
  clear hk1
  go_enter Tryz.func68, Tryz.ntmps68
  go_wp2_with fail
  go_loopw [1, 5] (fun l i w' => ∃ (j : Nat) (m : Int), j ≤ n ∧ i = .int .i64 j ∧ l = .int .i64 m ∧ Hid (m = k + (cN ((xs.take j).flatMap GBreak.enc) : Nat)) ∧ 0 ≤ m ∧ T1 w' (.sl n (mkN ((xs.take j).flatMap GBreak.enc) k ++ (xs.drop j).flatMap GBreak.enc)) bs (.slice A n c) ∧ Onl bs w w' ∧ Own lo w' bs) (fun _ i _ => n - (intOf i).toNat)
  case atStart => exact ⟨0, k, Nat.zero_le _, rfl, rfl, Lib.hid (by simp [cN_nil]), hk0, by simpa [mkN_nil] using hx, Onl.refl _ _, ho⟩
  case round =>
    obtain ⟨j, m, hj, rfl, rfl, hm, hm0, ht, hon, hw⟩ := hrel
    by_cases hlt : j < n
    · obtain ⟨x, hxk, hsp, hll, hsn, hdr⟩ := flat_split GBreak.enc 2 GBreak.enc_len Hn hlt
      rw [hdr.out, List.flatMap_cons] at ht
      have hml : (mkN ((xs.take j).flatMap GBreak.enc) k).length = j * 2 := by rw [mkN_len, hll]
      generalize hL : mkN ((xs.take j).flatMap GBreak.enc) k = L at ht hml
      have HL := Lib.hid hL
      clear hL hll
      have hcx : Hid (cN (GBreak.enc x) = 1 + 1) := by show cN [.v (.int .i64 x.kind), .v (.int .i64 x.value)] = _; simp only [cN_cons, cD_v, cD_sl, cN_nil] <;> omega
      have hbd : m + 1 + 1 ≤ 4611686018427387904 := by
        have h1 := hm.out; have h2 := hkk.out; have h3 := hcx.out
        have h4 := hsp.out
        have h5 : cN (xs.flatMap GBreak.enc) = cN ((xs.take j).flatMap GBreak.enc) + (cN (GBreak.enc x) + cN ((xs.drop (j + 1)).flatMap GBreak.enc)) := by rw [h4, cN_append, cN_append]
        omega
      replace ht : T1 wr (.sl n (L ++ (.v (.int .i64 x.kind)) :: (.v (.int .i64 x.value)) :: (xs.drop (j + 1)).flatMap GBreak.enc)) bs (.slice A n c) := ht
      generalize hR : (xs.drop (j + 1)).flatMap GBreak.enc = R at ht
      have HR := Lib.hid hR
      clear hR
      obtain ⟨b, off, rfl, -, hbm, hbl, hblo, hfz⟩ := ht.row hw
      have z0_0 : T1 wr (.sl n (L ++ (.v (.int .i64 x.kind)) :: (.v (.int .i64 x.value)) :: R)) bs (.slice (some ⟨b, off, none⟩) n c) := by exact ht
      have y0_0 := (z0_0.leaf hw (o := off + j * 2) rfl (by simp only [List.length_append, List.length_cons, List.length_nil, hml] <;> omega)).1
      have z0_1 : T1 wr (.sl n ((L ++ [.v (.int .i64 x.kind)]) ++ (.v (.int .i64 x.value)) :: R)) bs (.slice (some ⟨b, off, none⟩) n c) := by rw [List.append_assoc]; exact ht
      have y0_1 := (z0_1.leaf hw (o := off + j * 2 + 1) rfl (by simp only [List.length_append, List.length_cons, List.length_nil, hml] <;> omega)).1
      obtain ⟨t0, u0, v0⟩ := (ht.leaf hw (o := off + j * 2) rfl (by simp only [List.length_append, List.length_cons, List.length_nil, hml] <;> omega)).2 (.int .i64 m) rfl
      replace t0 : T1 (World.setCell wr ⟨b, off + j * 2, none⟩ (.int .i64 m)) (.sl n (L ++ (.v (.int .i64 m)) :: (.v (.int .i64 x.value)) :: R)) bs (.slice (some ⟨b, off, none⟩) n c) := t0
      replace t0 : T1 (World.setCell wr ⟨b, off + j * 2, none⟩ (.int .i64 m)) (.sl n ((L ++ [.v (.int .i64 m)]) ++ (.v (.int .i64 x.value)) :: R)) bs (.slice (some ⟨b, off, none⟩) n c) := by rw [List.append_assoc]; exact t0
      obtain ⟨t1, u1, v1⟩ := (t0.leaf v0 (o := off + j * 2 + 1) rfl (by simp only [List.length_append, List.length_cons, List.length_nil, hml] <;> omega)).2 (.int .i64 (m + 1)) rfl
      rw [List.append_assoc] at t1
      replace t1 : T1 (World.setCell (World.setCell wr ⟨b, off + j * 2, none⟩ (.int .i64 m)) ⟨b, off + j * 2 + 1, none⟩ (.int .i64 (m + 1))) (.sl n (L ++ (.v (.int .i64 m)) :: (.v (.int .i64 (m + 1))) :: R)) bs (.slice (some ⟨b, off, none⟩) n c) := t1
      clear z0_0 z0_1
      go_wp2_with fail
      have hmk : mkN (GBreak.enc x) m = [.v (.int .i64 m), .v (.int .i64 (m + 1))] := by
        show mkN [.v (.int .i64 x.kind), .v (.int .i64 x.value)] m = _
        simp only [mkN_cons, mkN_nil, mkD_int, mkD_sl, cD_v, cD_sl]
        all_goals (exact (cons_eq (vI_eq (by omega)) (cons_eq (vI_eq (by omega)) rfl)))
      have hfin : mkN ((xs.take (j + 1)).flatMap GBreak.enc) k ++ (xs.drop (j + 1)).flatMap GBreak.enc = L ++ (.v (.int .i64 m)) :: (.v (.int .i64 (m + 1))) :: R := by
        rw [hsn.out, mkN_append, HL.out, ← hm.out, hmk, List.append_assoc, HR.out]; rfl
      exact ⟨⟨j + 1, m + 1 + 1, by omega, by go_num, by first | rfl | go_num, Lib.hid (by rw [hsn.out, cN_append]; have h8 := hcx.out; have h9 := hm.out; omega), by omega, by rw [hfin]; exact t1, ((hon).trans u0).trans u1, v1⟩, by simp [intOf]; omega⟩
    · have : j = n := by omega
      subst this
      go_wp2_with fail
      go_ret
      have hl := Hn.out
      rw [List.take_of_length_le (by omega), List.drop_of_length_le (by omega)] at ht
      have hm' := hm.out
      rw [List.take_of_length_le (by omega)] at hm'
      exact ⟨m, rfl, hm', by simpa using ht, hon, hw⟩

set_option maxHeartbeats 4000000 in
theorem heldBreakS_any (xs : List GBreak) (k r : Int) (n : Nat) {A : Option Addr} {c : Nat} {bs : List Nat} (w : World) (hx : T1 w (.sl n (mkN (xs.flatMap GBreak.enc) k)) bs (.slice A n c)) (Hn : Hid (xs.length = n)) (hk0 : 0 ≤ k) (hk1 : r ≤ 4611686018427387904) (Hr : Hid (r = k + (cN (xs.flatMap GBreak.enc) : Nat))) : Calls Tryz.prog 73 #[.slice A n c, .int .i64 k] w fun e w' => e = .returned (.int .i64 (r)) ∧ Ext w w' := by
  refine quiet_start fun e => ?_
  have hn := hx.nle
  go_enter Tryz.func73, Tryz.ntmps73
  go_wp2_with fail
  repeat (refine wp_region_ext0 _ (by kernel_rfl) (by kernel_rfl) ?_; (repeat (go_big_quiet_step (fail))); refine wpQuiet_nil ?_; intro e; go_wp2_with fail)
  go_loopw [1, 5] (fun l i w' => ∃ (j : Nat) (m : Int), j ≤ n ∧ i = .int .i64 j ∧ l = .int .i64 m ∧ Hid (m = k + (cN ((xs.take j).flatMap GBreak.enc) : Nat)) ∧ 0 ≤ m ∧ ∃ e : ExtOf w, w' = e.to) (fun _ i _ => n - (intOf i).toNat)
  case atStart => exact ⟨0, k, Nat.zero_le _, rfl, rfl, Lib.hid (by simp [cN_nil]), hk0, _, rfl⟩
  case round =>
    obtain ⟨j, m, hj, rfl, rfl, hm, hm0, e, rfl⟩ := hrel
    by_cases hlt : j < n
    · obtain ⟨x, hxk, hsp, hll, hsn, -⟩ := flat_split GBreak.enc 2 GBreak.enc_len Hn hlt
      have hcx : Hid (cN (GBreak.enc x) = 1 + 1) := by show cN [.v (.int .i64 x.kind), .v (.int .i64 x.value)] = _; simp only [cN_cons, cD_v, cD_sl, cN_nil] <;> omega
      have hbd : m + 1 + 1 ≤ 4611686018427387904 := by
        have h1 := hm.out; have h2 := Hr.out; have h3 := hcx.out
        have h5 : cN (xs.flatMap GBreak.enc) = cN ((xs.take j).flatMap GBreak.enc) + (cN (GBreak.enc x) + cN ((xs.drop (j + 1)).flatMap GBreak.enc)) := by rw [hsp.out, cN_append, cN_append]
        omega
      have hmk : mkN (GBreak.enc x) m = [.v (.int .i64 (m)), .v (.int .i64 (m + 1))] := by
        show mkN [.v (.int .i64 x.kind), .v (.int .i64 x.value)] m = _
        simp only [mkN_cons, mkN_nil, mkD_int, mkD_sl, cD_v, cD_sl]
        all_goals (exact (cons_eq (vI_eq (by omega)) (cons_eq (vI_eq (by omega)) rfl)))
      have hxx := hx
      rw [hsp.out, mkN_append, mkN_append, ← hm.out, hmk] at hxx
      have hml : (mkN ((xs.take j).flatMap GBreak.enc) k).length = j * 2 := by rw [mkN_len, hll]
      generalize hL : mkN ((xs.take j).flatMap GBreak.enc) k = L at hxx hml
      clear hL hll hmk
      generalize hR : mkN ((xs.drop (j + 1)).flatMap GBreak.enc) (m + (cN (GBreak.enc x) : Nat)) = R at hxx
      clear hR
      replace hxx : T1 w (.sl n (L ++ (.v (.int .i64 (m))) :: (.v (.int .i64 (m + 1))) :: R)) bs (.slice A n c) := hxx
      obtain ⟨b, off, rfl⟩ := hxx.krow
      have z0 : T1 w (.sl n (L ++ (.v (.int .i64 (m))) :: (.v (.int .i64 (m + 1))) :: R)) bs (.slice (some ⟨b, off, none⟩) n c) := by exact hxx
      have y0 := z0.kleaf (o := off + j * 2) rfl (by simp only [List.length_append, List.length_cons, List.length_nil, hml] <;> omega)
      have z1 : T1 w (.sl n ((L ++ [.v (.int .i64 (m))]) ++ (.v (.int .i64 (m + 1))) :: R)) bs (.slice (some ⟨b, off, none⟩) n c) := by rw [List.append_assoc]; exact hxx
      have y1 := z1.kleaf (o := off + j * 2 + 1) rfl (by simp only [List.length_append, List.length_cons, List.length_nil, hml] <;> omega)
      clear hxx z0 z1
      go_wp2_with fail
      repeat (refine wp_region_ext0 _ (by kernel_rfl) (by kernel_rfl) ?_; (repeat (go_big_quiet_step (fail))); refine wpQuiet_nil ?_; intro e; go_wp2_with fail)
      exact ⟨⟨j + 1, m + 1 + 1, by omega, by go_num, by first | rfl | go_num, Lib.hid (by rw [hsn.out, cN_append]; have h8 := hcx.out; have h9 := hm.out; omega), by omega, _, rfl⟩, by simp [intOf]; omega⟩
    · have : j = n := by omega
      subst this
      have E : Hid (r = m) := by
        have h1 := hm.out; have h2 := Hr.out; have h3 := Hn.out
        rw [List.take_of_length_le (by omega)] at h1
        show _ = _; omega
      go_wp2_with fail
      repeat (refine wp_region_ext0 _ (by kernel_rfl) (by kernel_rfl) ?_; (repeat (go_big_quiet_step (fail))); refine wpQuiet_nil ?_; intro e; go_wp2_with fail)
      go_ret
      exact ⟨by rw [E.out]; rfl, _, rfl⟩

set_option maxHeartbeats 4000000 in
theorem markCheckpointS_any (xs : List GCheckpoint) (k : Int) {A : Option Addr} {c lo : Nat} {bs} (w : World) (hx : T1 w (.sl xs.length (xs.flatMap GCheckpoint.enc)) bs (.slice A xs.length c)) (ho : Own lo w bs) (hn' : xs.length ≤ maxLen) (hk0 : 0 ≤ k) (hk1 : k + (cN (xs.flatMap GCheckpoint.enc) : Nat) ≤ 4611686018427387904) :
    Calls Tryz.prog 69 #[.slice A xs.length c, .int .i64 k] w fun e w' => ∃ r : Int, e = .returned (.int .i64 r) ∧ Hid (r = k + (cN (xs.flatMap GCheckpoint.enc) : Nat)) ∧ T1 w' (.sl xs.length (mkN (xs.flatMap GCheckpoint.enc) k)) bs (.slice A xs.length c) ∧ Onl bs w w' ∧ Own lo w' bs := by
  unfold maxLen at hn'
  obtain ⟨n, hn⟩ : ∃ n, xs.length = n := ⟨_, rfl⟩
  rw [hn] at hx hn' ⊢
  have Hn : Hid (xs.length = n) := hn
  clear hn
  have hkk := Lib.hid hk1
  clear hk1
  go_enter Tryz.func69, Tryz.ntmps69
  go_wp2_with fail
  go_loopw [1, 5] (fun l i w' => ∃ (j : Nat) (m : Int), j ≤ n ∧ i = .int .i64 j ∧ l = .int .i64 m ∧ Hid (m = k + (cN ((xs.take j).flatMap GCheckpoint.enc) : Nat)) ∧ 0 ≤ m ∧ T1 w' (.sl n (mkN ((xs.take j).flatMap GCheckpoint.enc) k ++ (xs.drop j).flatMap GCheckpoint.enc)) bs (.slice A n c) ∧ Onl bs w w' ∧ Own lo w' bs) (fun _ i _ => n - (intOf i).toNat)
  case atStart => exact ⟨0, k, Nat.zero_le _, rfl, rfl, Lib.hid (by simp [cN_nil]), hk0, by simpa [mkN_nil] using hx, Onl.refl _ _, ho⟩
  case round =>
    obtain ⟨j, m, hj, rfl, rfl, hm, hm0, ht, hon, hw⟩ := hrel
    by_cases hlt : j < n
    · obtain ⟨x, hxk, hsp, hll, hsn, hdr⟩ := flat_split GCheckpoint.enc 3 GCheckpoint.enc_len Hn hlt
      rw [hdr.out, List.flatMap_cons] at ht
      have hml : (mkN ((xs.take j).flatMap GCheckpoint.enc) k).length = j * 3 := by rw [mkN_len, hll]
      generalize hL : mkN ((xs.take j).flatMap GCheckpoint.enc) k = L at ht hml
      have HL := Lib.hid hL
      clear hL hll
      have hcx : Hid (cN (GCheckpoint.enc x) = 1 + cN (x.net.agents.flatMap GAgent.enc) + cN (x.origins.flatMap GOrigin.enc)) := by show cN [.v (.int .i64 x.at_), .sl x.net.agents.length (x.net.agents.flatMap GAgent.enc), .sl x.origins.length (x.origins.flatMap GOrigin.enc)] = _; simp only [cN_cons, cD_v, cD_sl, cN_nil] <;> omega
      have hbd : m + 1 + (cN (x.net.agents.flatMap GAgent.enc) : Nat) + (cN (x.origins.flatMap GOrigin.enc) : Nat) ≤ 4611686018427387904 := by
        have h1 := hm.out; have h2 := hkk.out; have h3 := hcx.out
        have h4 := hsp.out
        have h5 : cN (xs.flatMap GCheckpoint.enc) = cN ((xs.take j).flatMap GCheckpoint.enc) + (cN (GCheckpoint.enc x) + cN ((xs.drop (j + 1)).flatMap GCheckpoint.enc)) := by rw [h4, cN_append, cN_append]
        omega
      replace ht : T1 wr (.sl n (L ++ (.v (.int .i64 x.at_)) :: (.sl x.net.agents.length (x.net.agents.flatMap GAgent.enc)) :: (.sl x.origins.length (x.origins.flatMap GOrigin.enc)) :: (xs.drop (j + 1)).flatMap GCheckpoint.enc)) bs (.slice A n c) := ht
      generalize hR : (xs.drop (j + 1)).flatMap GCheckpoint.enc = R at ht
      have HR := Lib.hid hR
      clear hR
      obtain ⟨b, off, rfl, -, hbm, hbl, hblo, hfz⟩ := ht.row hw
      have z0_0 : T1 wr (.sl n (L ++ (.v (.int .i64 x.at_)) :: (.sl x.net.agents.length (x.net.agents.flatMap GAgent.enc)) :: (.sl x.origins.length (x.origins.flatMap GOrigin.enc)) :: R)) bs (.slice (some ⟨b, off, none⟩) n c) := by exact ht
      have y0_0 := (z0_0.leaf hw (o := off + j * 3) rfl (by simp only [List.length_append, List.length_cons, List.length_nil, hml] <;> omega)).1
      have z0_1 : T1 wr (.sl n ((L ++ [.v (.int .i64 x.at_)]) ++ (.sl x.net.agents.length (x.net.agents.flatMap GAgent.enc)) :: (.sl x.origins.length (x.origins.flatMap GOrigin.enc)) :: R)) bs (.slice (some ⟨b, off, none⟩) n c) := by rw [List.append_assoc]; exact ht
      obtain ⟨A0_1, c0_1, b0_1, y0_1, -⟩ := z0_1.sub hw (o := off + j * 3 + 1) rfl (by simp only [List.length_append, List.length_cons, List.length_nil, hml] <;> omega)
      obtain ⟨t0, u0, v0⟩ := (ht.leaf hw (o := off + j * 3) rfl (by simp only [List.length_append, List.length_cons, List.length_nil, hml] <;> omega)).2 (.int .i64 m) rfl
      replace t0 : T1 (World.setCell wr ⟨b, off + j * 3, none⟩ (.int .i64 m)) (.sl n (L ++ (.v (.int .i64 m)) :: (.sl x.net.agents.length (x.net.agents.flatMap GAgent.enc)) :: (.sl x.origins.length (x.origins.flatMap GOrigin.enc)) :: R)) bs (.slice (some ⟨b, off, none⟩) n c) := t0
      have g1 : T1 (World.setCell wr ⟨b, off + j * 3, none⟩ (.int .i64 m)) (.sl n ((L ++ [.v (.int .i64 m)]) ++ (.sl x.net.agents.length (x.net.agents.flatMap GAgent.enc)) :: (.sl x.origins.length (x.origins.flatMap GOrigin.enc)) :: R)) bs (.slice (some ⟨b, off, none⟩) n c) := by rw [List.append_assoc]; exact t0
      obtain ⟨A1, c1, b1, k1, s1, n1, o1, nb1, back1⟩ := g1.sub v0 (o := off + j * 3 + 1) rfl (by simp only [List.length_append, List.length_cons, List.length_nil, hml] <;> omega)
      obtain ⟨rfl, rfl⟩ : A0_1 = A1 ∧ c0_1 = c1 := by
        have hh := k1
        rw [cell_setCell_off _ _ _ _ _ (by omega)] at hh; rw [y0_1] at hh; simpa using hh
      clear k1
      have HB1 := Lib.hid back1
      clear back1 g1
      clear z0_0 z0_1
      go_wp2_with fail
      refine (markAgentS_any x.net.agents (m + 1) _ s1 o1 n1 (by omega) (by omega)).mono ?_
      rintro _ W1 ⟨r1, rfl, hr1, q1, f1, -⟩
      obtain ⟨t1, u1, v1⟩ := HB1.out W1 _ f1 q1
      have p1 : 0 ≤ r1 := by have := hr1.out; omega
      have l1 : r1 + (cN (x.origins.flatMap GOrigin.enc) : Nat) ≤ 4611686018427387904 := by have := hr1.out; omega
      rw [List.append_assoc] at t1
      replace t1 : T1 W1 (.sl n (L ++ (.v (.int .i64 m)) :: (.sl x.net.agents.length (mkN (x.net.agents.flatMap GAgent.enc) (m + 1))) :: (.sl x.origins.length (x.origins.flatMap GOrigin.enc)) :: R)) bs (.slice (some ⟨b, off, none⟩) n c) := t1
      have hfz1 : ∀ o, World.frozen? W1 ⟨b, o, none⟩ = false := fun o => (by obtain ⟨_, cur, tt, hrow⟩ := v1.2 b hbm; simp [World.frozen?, hrow])
      have z1_2 : T1 W1 (.sl n ((L ++ [.v (.int .i64 m), .sl x.net.agents.length (mkN (x.net.agents.flatMap GAgent.enc) (m + 1))]) ++ (.sl x.origins.length (x.origins.flatMap GOrigin.enc)) :: R)) bs (.slice (some ⟨b, off, none⟩) n c) := by rw [List.append_assoc]; exact t1
      obtain ⟨A1_2, c1_2, b1_2, y1_2, -⟩ := z1_2.sub v1 (o := off + j * 3 + 2) rfl (by simp only [List.length_append, List.length_cons, List.length_nil, hml] <;> omega)
      have g2 : T1 W1 (.sl n ((L ++ [.v (.int .i64 m), .sl x.net.agents.length (mkN (x.net.agents.flatMap GAgent.enc) (m + 1))]) ++ (.sl x.origins.length (x.origins.flatMap GOrigin.enc)) :: R)) bs (.slice (some ⟨b, off, none⟩) n c) := by rw [List.append_assoc]; exact t1
      obtain ⟨A2, c2, b2, k2, s2, n2, o2, nb2, back2⟩ := g2.sub v1 (o := off + j * 3 + 2) rfl (by simp only [List.length_append, List.length_cons, List.length_nil, hml] <;> omega)
      obtain ⟨rfl, rfl⟩ : A1_2 = A2 ∧ c1_2 = c2 := by
        have hh := k2
        rw [y1_2] at hh; simpa using hh
      clear k2
      have HB2 := Lib.hid back2
      clear back2 g2
      clear z1_2
      go_wp2_with fail
      refine (markOriginS_any x.origins (r1) _ s2 o2 n2 (by omega) (by omega)).mono ?_
      rintro _ W2 ⟨r2, rfl, hr2, q2, f2, -⟩
      obtain ⟨t2, u2, v2⟩ := HB2.out W2 _ f2 q2
      have p2 : 0 ≤ r2 := by have := hr2.out; omega
      have l2 : r2 + 0 ≤ 4611686018427387904 := by have := hr2.out; omega
      rw [List.append_assoc] at t2
      replace t2 : T1 W2 (.sl n (L ++ (.v (.int .i64 m)) :: (.sl x.net.agents.length (mkN (x.net.agents.flatMap GAgent.enc) (m + 1))) :: (.sl x.origins.length (mkN (x.origins.flatMap GOrigin.enc) (r1))) :: R)) bs (.slice (some ⟨b, off, none⟩) n c) := t2
      go_wp2_with fail
      have hmk : mkN (GCheckpoint.enc x) m = [.v (.int .i64 m), .sl x.net.agents.length (mkN (x.net.agents.flatMap GAgent.enc) (m + 1)), .sl x.origins.length (mkN (x.origins.flatMap GOrigin.enc) (r1))] := by
        show mkN [.v (.int .i64 x.at_), .sl x.net.agents.length (x.net.agents.flatMap GAgent.enc), .sl x.origins.length (x.origins.flatMap GOrigin.enc)] m = _
        simp only [mkN_cons, mkN_nil, mkD_int, mkD_sl, cD_v, cD_sl]
        all_goals (have h1 := hr1.out; have h2 := hr2.out; exact (cons_eq (vI_eq (by omega)) (cons_eq (slK_eq (by omega)) (cons_eq (slK_eq (by omega)) rfl))))
      have hfin : mkN ((xs.take (j + 1)).flatMap GCheckpoint.enc) k ++ (xs.drop (j + 1)).flatMap GCheckpoint.enc = L ++ (.v (.int .i64 m)) :: (.sl x.net.agents.length (mkN (x.net.agents.flatMap GAgent.enc) (m + 1))) :: (.sl x.origins.length (mkN (x.origins.flatMap GOrigin.enc) (r1))) :: R := by
        rw [hsn.out, mkN_append, HL.out, ← hm.out, hmk, List.append_assoc, HR.out]; rfl
      exact ⟨⟨j + 1, r2, by omega, by go_num, by first | rfl | go_num, Lib.hid (by rw [hsn.out, cN_append]; have h1 := hr1.out; have h2 := hr2.out; have h8 := hcx.out; have h9 := hm.out; omega), by omega, by rw [hfin]; exact t2, (((hon).trans u0).trans u1).trans u2, v2⟩, by simp [intOf]; omega⟩
    · have : j = n := by omega
      subst this
      go_wp2_with fail
      go_ret
      have hl := Hn.out
      rw [List.take_of_length_le (by omega), List.drop_of_length_le (by omega)] at ht
      have hm' := hm.out
      rw [List.take_of_length_le (by omega)] at hm'
      exact ⟨m, rfl, hm', by simpa using ht, hon, hw⟩

set_option maxHeartbeats 4000000 in
theorem heldCheckpointS_any (xs : List GCheckpoint) (k r : Int) (n : Nat) {A : Option Addr} {c : Nat} {bs : List Nat} (w : World) (hx : T1 w (.sl n (mkN (xs.flatMap GCheckpoint.enc) k)) bs (.slice A n c)) (Hn : Hid (xs.length = n)) (hk0 : 0 ≤ k) (hk1 : r ≤ 4611686018427387904) (Hr : Hid (r = k + (cN (xs.flatMap GCheckpoint.enc) : Nat))) : Calls Tryz.prog 74 #[.slice A n c, .int .i64 k] w fun e w' => e = .returned (.int .i64 (r)) ∧ Ext w w' := by
  refine quiet_start fun e => ?_
  have hn := hx.nle
  go_enter Tryz.func74, Tryz.ntmps74
  go_wp2_with fail
  repeat (refine wp_region_ext0 _ (by kernel_rfl) (by kernel_rfl) ?_; (repeat (go_big_quiet_step (fail))); refine wpQuiet_nil ?_; intro e; go_wp2_with fail)
  go_loopw [1, 5] (fun l i w' => ∃ (j : Nat) (m : Int), j ≤ n ∧ i = .int .i64 j ∧ l = .int .i64 m ∧ Hid (m = k + (cN ((xs.take j).flatMap GCheckpoint.enc) : Nat)) ∧ 0 ≤ m ∧ ∃ e : ExtOf w, w' = e.to) (fun _ i _ => n - (intOf i).toNat)
  case atStart => exact ⟨0, k, Nat.zero_le _, rfl, rfl, Lib.hid (by simp [cN_nil]), hk0, _, rfl⟩
  case round =>
    obtain ⟨j, m, hj, rfl, rfl, hm, hm0, e, rfl⟩ := hrel
    by_cases hlt : j < n
    · obtain ⟨x, hxk, hsp, hll, hsn, -⟩ := flat_split GCheckpoint.enc 3 GCheckpoint.enc_len Hn hlt
      have hcx : Hid (cN (GCheckpoint.enc x) = 1 + cN (x.net.agents.flatMap GAgent.enc) + cN (x.origins.flatMap GOrigin.enc)) := by show cN [.v (.int .i64 x.at_), .sl x.net.agents.length (x.net.agents.flatMap GAgent.enc), .sl x.origins.length (x.origins.flatMap GOrigin.enc)] = _; simp only [cN_cons, cD_v, cD_sl, cN_nil] <;> omega
      have hbd : m + 1 + (cN (x.net.agents.flatMap GAgent.enc) : Nat) + (cN (x.origins.flatMap GOrigin.enc) : Nat) ≤ 4611686018427387904 := by
        have h1 := hm.out; have h2 := Hr.out; have h3 := hcx.out
        have h5 : cN (xs.flatMap GCheckpoint.enc) = cN ((xs.take j).flatMap GCheckpoint.enc) + (cN (GCheckpoint.enc x) + cN ((xs.drop (j + 1)).flatMap GCheckpoint.enc)) := by rw [hsp.out, cN_append, cN_append]
        omega
      obtain ⟨r1, hr1⟩ : ∃ q : Int, q = m + 1 + ((cN (x.net.agents.flatMap GAgent.enc) : Nat) : Int) := ⟨_, rfl⟩
      obtain ⟨r2, hr2⟩ : ∃ q : Int, q = r1 + ((cN (x.origins.flatMap GOrigin.enc) : Nat) : Int) := ⟨_, rfl⟩
      have hmk : mkN (GCheckpoint.enc x) m = [.v (.int .i64 (m)), .sl x.net.agents.length (mkN (x.net.agents.flatMap GAgent.enc) (m + 1)), .sl x.origins.length (mkN (x.origins.flatMap GOrigin.enc) (r1))] := by
        show mkN [.v (.int .i64 x.at_), .sl x.net.agents.length (x.net.agents.flatMap GAgent.enc), .sl x.origins.length (x.origins.flatMap GOrigin.enc)] m = _
        simp only [mkN_cons, mkN_nil, mkD_int, mkD_sl, cD_v, cD_sl]
        all_goals (exact (cons_eq (vI_eq (by omega)) (cons_eq (slK_eq (by omega)) (cons_eq (slK_eq (by omega)) rfl))))
      have hxx := hx
      rw [hsp.out, mkN_append, mkN_append, ← hm.out, hmk] at hxx
      have hml : (mkN ((xs.take j).flatMap GCheckpoint.enc) k).length = j * 3 := by rw [mkN_len, hll]
      generalize hL : mkN ((xs.take j).flatMap GCheckpoint.enc) k = L at hxx hml
      clear hL hll hmk
      generalize hR : mkN ((xs.drop (j + 1)).flatMap GCheckpoint.enc) (m + (cN (GCheckpoint.enc x) : Nat)) = R at hxx
      clear hR
      replace hxx : T1 w (.sl n (L ++ (.v (.int .i64 (m))) :: (.sl x.net.agents.length (mkN (x.net.agents.flatMap GAgent.enc) (m + 1))) :: (.sl x.origins.length (mkN (x.origins.flatMap GOrigin.enc) (r1))) :: R)) bs (.slice A n c) := hxx
      obtain ⟨b, off, rfl⟩ := hxx.krow
      have z0 : T1 w (.sl n (L ++ (.v (.int .i64 (m))) :: (.sl x.net.agents.length (mkN (x.net.agents.flatMap GAgent.enc) (m + 1))) :: (.sl x.origins.length (mkN (x.origins.flatMap GOrigin.enc) (r1))) :: R)) bs (.slice (some ⟨b, off, none⟩) n c) := by exact hxx
      have y0 := z0.kleaf (o := off + j * 3) rfl (by simp only [List.length_append, List.length_cons, List.length_nil, hml] <;> omega)
      have z1 : T1 w (.sl n ((L ++ [.v (.int .i64 (m))]) ++ (.sl x.net.agents.length (mkN (x.net.agents.flatMap GAgent.enc) (m + 1))) :: (.sl x.origins.length (mkN (x.origins.flatMap GOrigin.enc) (r1))) :: R)) bs (.slice (some ⟨b, off, none⟩) n c) := by rw [List.append_assoc]; exact hxx
      obtain ⟨A1, c1, b1, y1, s1, n1⟩ := z1.ksub (o := off + j * 3 + 1) rfl (by simp only [List.length_append, List.length_cons, List.length_nil, hml] <;> omega)
      have z2 : T1 w (.sl n ((L ++ [.v (.int .i64 (m)), .sl x.net.agents.length (mkN (x.net.agents.flatMap GAgent.enc) (m + 1))]) ++ (.sl x.origins.length (mkN (x.origins.flatMap GOrigin.enc) (r1))) :: R)) bs (.slice (some ⟨b, off, none⟩) n c) := by rw [List.append_assoc]; exact hxx
      obtain ⟨A2, c2, b2, y2, s2, n2⟩ := z2.ksub (o := off + j * 3 + 2) rfl (by simp only [List.length_append, List.length_cons, List.length_nil, hml] <;> omega)
      clear hxx z0 z1 z2
      have p1 : 0 ≤ r1 := by omega
      have l1 : r1 ≤ 4611686018427387904 := by omega
      have ll1 : r1 + (cN (x.origins.flatMap GOrigin.enc) : Nat) ≤ 4611686018427387904 := by omega
      have Hr1 : Hid (r1 = m + 1 + ((cN (x.net.agents.flatMap GAgent.enc) : Nat) : Int)) := hr1
      have C1 : Hid (QC Tryz.prog w _ _ _) := fun W hW => heldAgentS_any x.net.agents (m + 1) r1 x.net.agents.length W (s1.below hW) Hid_rfl (by omega) l1 Hr1
      have p2 : 0 ≤ r2 := by omega
      have l2 : r2 ≤ 4611686018427387904 := by omega
      have Hr2 : Hid (r2 = r1 + ((cN (x.origins.flatMap GOrigin.enc) : Nat) : Int)) := hr2
      have C2 : Hid (QC Tryz.prog w _ _ _) := fun W hW => heldOriginS_any x.origins (r1) r2 x.origins.length W (s2.below hW) Hid_rfl (by omega) l2 Hr2
      clear hr1 hr2
      go_wp2_with (first | (go_at_call 143; with_reducible refine (C1.out.at_ _).mono ?_; rintro _ _ ⟨rfl, e, rfl⟩) | (go_at_call 72; with_reducible refine (C2.out.at_ _).mono ?_; rintro _ _ ⟨rfl, e, rfl⟩))
      repeat (refine wp_region_ext0 _ (by kernel_rfl) (by kernel_rfl) ?_; (repeat (go_big_quiet_step ((first | with_reducible exact C1.out.at_ _ | with_reducible exact C2.out.at_ _)))); refine wpQuiet_nil ?_; intro e; go_wp2_with (first | (go_at_call 143; with_reducible refine (C1.out.at_ _).mono ?_; rintro _ _ ⟨rfl, e, rfl⟩) | (go_at_call 72; with_reducible refine (C2.out.at_ _).mono ?_; rintro _ _ ⟨rfl, e, rfl⟩)))
      exact ⟨⟨j + 1, r2, by omega, by go_num, by first | rfl | go_num, Lib.hid (by rw [hsn.out, cN_append]; have h1 := Hr1.out; have h2 := Hr2.out; have h8 := hcx.out; have h9 := hm.out; omega), by omega, _, rfl⟩, by simp [intOf]; omega⟩
    · have : j = n := by omega
      subst this
      have E : Hid (r = m) := by
        have h1 := hm.out; have h2 := Hr.out; have h3 := Hn.out
        rw [List.take_of_length_le (by omega)] at h1
        show _ = _; omega
      go_wp2_with fail
      repeat (refine wp_region_ext0 _ (by kernel_rfl) (by kernel_rfl) ?_; (repeat (go_big_quiet_step (fail))); refine wpQuiet_nil ?_; intro e; go_wp2_with fail)
      go_ret
      exact ⟨by rw [E.out]; rfl, _, rfl⟩

set_option maxHeartbeats 4000000 in
theorem markDebugger_any (x : GDebugger) (k : Int) {bs us} {lo : Nat} (w : World) (hx : TN w x.enc bs us) (ho : Own lo w bs) (hk0 : 0 ≤ k) (hk1 : k + (x.cnt : Nat) ≤ 4611686018427387904) :
    Calls Tryz.prog 28 #[.agg us.toArray, .int .i64 k] w fun e w' => ∃ r : Int, e = .returned (.int .i64 r) ∧ Hid (r = k + (x.cnt : Nat)) ∧ TN w' (x.mked k) bs us ∧ Onl bs w w' ∧ Own lo w' bs := by
  have hlt := hx.lt
  obtain ⟨A0, c0, b0, A1, c1, b1, A4, c4, b4, A5, c5, b5, A6, c6, b6, A7, c7, b7, rfl, rfl, t0, l0, m0, t1, l1, m1, t4, l4, m4, t5, l5, m5, t6, l6, m6, t7, l7, m7⟩ := GDebugger.us hx
  obtain ⟨h5_, o7, d7⟩ := Own.parts ho
  obtain ⟨h4_, o6, d6⟩ := Own.parts h5_
  obtain ⟨h3_, o5, d5⟩ := Own.parts h4_
  obtain ⟨h2_, o4, d4⟩ := Own.parts h3_
  obtain ⟨o0, o1, d1⟩ := Own.parts h2_
  have e0_1 : ∀ y ∈ b0, y ∉ b1 := fun y hm => d1 y hm
  have e0_4 : ∀ y ∈ b0, y ∉ b4 := fun y hm => d4 y (List.mem_append_left _ hm)
  have e1_4 : ∀ y ∈ b1, y ∉ b4 := fun y hm => d4 y (List.mem_append_right _ hm)
  have e0_5 : ∀ y ∈ b0, y ∉ b5 := fun y hm => d5 y (List.mem_append_left _ (List.mem_append_left _ hm))
  have e1_5 : ∀ y ∈ b1, y ∉ b5 := fun y hm => d5 y (List.mem_append_left _ (List.mem_append_right _ hm))
  have e4_5 : ∀ y ∈ b4, y ∉ b5 := fun y hm => d5 y (List.mem_append_right _ hm)
  have e0_6 : ∀ y ∈ b0, y ∉ b6 := fun y hm => d6 y (List.mem_append_left _ (List.mem_append_left _ (List.mem_append_left _ hm)))
  have e1_6 : ∀ y ∈ b1, y ∉ b6 := fun y hm => d6 y (List.mem_append_left _ (List.mem_append_left _ (List.mem_append_right _ hm)))
  have e4_6 : ∀ y ∈ b4, y ∉ b6 := fun y hm => d6 y (List.mem_append_left _ (List.mem_append_right _ hm))
  have e5_6 : ∀ y ∈ b5, y ∉ b6 := fun y hm => d6 y (List.mem_append_right _ hm)
  have e0_7 : ∀ y ∈ b0, y ∉ b7 := fun y hm => d7 y (List.mem_append_left _ (List.mem_append_left _ (List.mem_append_left _ (List.mem_append_left _ hm))))
  have e1_7 : ∀ y ∈ b1, y ∉ b7 := fun y hm => d7 y (List.mem_append_left _ (List.mem_append_left _ (List.mem_append_left _ (List.mem_append_right _ hm))))
  have e4_7 : ∀ y ∈ b4, y ∉ b7 := fun y hm => d7 y (List.mem_append_left _ (List.mem_append_left _ (List.mem_append_right _ hm)))
  have e5_7 : ∀ y ∈ b5, y ∉ b7 := fun y hm => d7 y (List.mem_append_left _ (List.mem_append_right _ hm))
  have e6_7 : ∀ y ∈ b6, y ∉ b7 := fun y hm => d7 y (List.mem_append_right _ hm)
  have g0 : w.heap.size ∉ b0 := fun hm => by have := hlt _ (show w.heap.size ∈ b0 ++ b1 ++ b4 ++ b5 ++ b6 ++ b7 by simp [hm]); omega
  have g1 : w.heap.size ∉ b1 := fun hm => by have := hlt _ (show w.heap.size ∈ b0 ++ b1 ++ b4 ++ b5 ++ b6 ++ b7 by simp [hm]); omega
  have g4 : w.heap.size ∉ b4 := fun hm => by have := hlt _ (show w.heap.size ∈ b0 ++ b1 ++ b4 ++ b5 ++ b6 ++ b7 by simp [hm]); omega
  have g5 : w.heap.size ∉ b5 := fun hm => by have := hlt _ (show w.heap.size ∈ b0 ++ b1 ++ b4 ++ b5 ++ b6 ++ b7 by simp [hm]); omega
  have g6 : w.heap.size ∉ b6 := fun hm => by have := hlt _ (show w.heap.size ∈ b0 ++ b1 ++ b4 ++ b5 ++ b6 ++ b7 by simp [hm]); omega
  have g7 : w.heap.size ∉ b7 := fun hm => by have := hlt _ (show w.heap.size ∈ b0 ++ b1 ++ b4 ++ b5 ++ b6 ++ b7 by simp [hm]); omega
  have B0 : ∀ S, Below w.heap.size w (w.alloc S) := fun _ => (Below.refl _ _).alloc (Nat.le_refl _) _
  have hcn : x.cnt = cN (x.book.flatMap GNet.enc) + cN (x.schedule.flatMap intE) + x.net.cnt + cN (x.origins.flatMap GOrigin.enc) + cN (x.breaks.flatMap GBreak.enc) + cN (x.points.flatMap GCheckpoint.enc) := rfl
  rw [hcn] at hk1
  clear hcn hx
  go_enter Tryz.func28, Tryz.ntmps28
  go_wp2_with fail
  refine (markNetS_any x.book k _ (t0.below (B0 _)) (o0.below (B0 _)) (Nat.le_trans l0 m0) (by omega) (by omega)).mono ?_
  rintro _ w1 ⟨r1, rfl, hr1, S0, f1, V0⟩
  have p1 : 0 ≤ r1 := by have := hr1.out; omega
  have b1_ : r1 + (cN (x.schedule.flatMap intE) : Nat) + (x.net.cnt : Nat) + (cN (x.origins.flatMap GOrigin.enc) : Nat) + (cN (x.breaks.flatMap GBreak.enc) : Nat) + (cN (x.points.flatMap GCheckpoint.enc) : Nat) ≤ 4611686018427387904 := by have := hr1.out; omega
  have u1 := (f1.other w.heap.size (by simp) g0).trans (heap_alloc_new w _)
  have z1 : w.heap.size < w1.heap.size := by have := f1.size; simp at this; omega
  have F1 : Onl (b0 ++ b1 ++ b4 ++ b5 ++ b6 ++ b7) w w1 := Onl.trans (Onl.of_ext (B0 _)) (f1.sub (fun y hy => by first | exact hy | (simp at hy ⊢; grind)))
  have q1_0 := cell_of_row _ _ 0 _ _ _ u1
  have q1_1 := cell_of_row _ _ 1 _ _ _ u1
  have q1_2 := cell_of_row _ _ 2 _ _ _ u1
  have q1_3 := cell_of_row _ _ 3 _ _ _ u1
  have q1_4 := cell_of_row _ _ 4 _ _ _ u1
  have q1_5 := cell_of_row _ _ 5 _ _ _ u1
  have q1_6 := cell_of_row _ _ 6 _ _ _ u1
  have q1_7 := cell_of_row _ _ 7 _ _ _ u1
  simp only [List.getElem?_toArray, List.getElem?_cons_zero, List.getElem?_cons_succ] at q1_0 q1_1 q1_2 q1_3 q1_4 q1_5 q1_6 q1_7
  replace t1 := T1.onl (t1.below (B0 _)) f1 (fun y hy hm => e0_1 y hm hy)
  replace o1 := (o1.below (B0 _)).onl f1
  replace t4 := T1.onl (t4.below (B0 _)) f1 (fun y hy hm => e0_4 y hm hy)
  replace o4 := (o4.below (B0 _)).onl f1
  replace t5 := T1.onl (t5.below (B0 _)) f1 (fun y hy hm => e0_5 y hm hy)
  replace o5 := (o5.below (B0 _)).onl f1
  replace t6 := T1.onl (t6.below (B0 _)) f1 (fun y hy hm => e0_6 y hm hy)
  replace o6 := (o6.below (B0 _)).onl f1
  replace t7 := T1.onl (t7.below (B0 _)) f1 (fun y hy hm => e0_7 y hm hy)
  replace o7 := (o7.below (B0 _)).onl f1
  go_wp2_with fail
  refine (markInt64S_any x.schedule r1 _ t1 o1 (Nat.le_trans l1 m1) (by omega) (by omega)).mono ?_
  rintro _ w2 ⟨r2, rfl, hr2, S1, f2, V1⟩
  have p2 : 0 ≤ r2 := by have := hr2.out; omega
  have b2_ : r2 + (x.net.cnt : Nat) + (cN (x.origins.flatMap GOrigin.enc) : Nat) + (cN (x.breaks.flatMap GBreak.enc) : Nat) + (cN (x.points.flatMap GCheckpoint.enc) : Nat) ≤ 4611686018427387904 := by have := hr2.out; omega
  have u2 := (f2.other w.heap.size z1 g1).trans u1
  have z2 : w.heap.size < w2.heap.size := by have := f2.size; omega
  have F2 := F1.trans (f2.sub (cs := b0 ++ b1 ++ b4 ++ b5 ++ b6 ++ b7) (fun y hy => by first | exact hy | (simp at hy ⊢; grind)))
  clear q1_0 q1_1 q1_2 q1_3 q1_4 q1_5 q1_6 q1_7 u1
  have q2_0 := cell_of_row _ _ 0 _ _ _ u2
  have q2_1 := cell_of_row _ _ 1 _ _ _ u2
  have q2_2 := cell_of_row _ _ 2 _ _ _ u2
  have q2_3 := cell_of_row _ _ 3 _ _ _ u2
  have q2_4 := cell_of_row _ _ 4 _ _ _ u2
  have q2_5 := cell_of_row _ _ 5 _ _ _ u2
  have q2_6 := cell_of_row _ _ 6 _ _ _ u2
  have q2_7 := cell_of_row _ _ 7 _ _ _ u2
  simp only [List.getElem?_toArray, List.getElem?_cons_zero, List.getElem?_cons_succ] at q2_0 q2_1 q2_2 q2_3 q2_4 q2_5 q2_6 q2_7
  replace S0 := T1.onl S0 f2 e0_1
  replace t4 := T1.onl t4 f2 (fun y hy hm => e1_4 y hm hy)
  replace o4 := o4.onl f2
  replace t5 := T1.onl t5 f2 (fun y hy hm => e1_5 y hm hy)
  replace o5 := o5.onl f2
  replace t6 := T1.onl t6 f2 (fun y hy hm => e1_6 y hm hy)
  replace o6 := o6.onl f2
  replace t7 := T1.onl t7 f2 (fun y hy hm => e1_7 y hm hy)
  replace o7 := o7.onl f2
  go_wp2_with fail
  refine (markNet_any x.net r2 (bs := b4) _ (GNet.mk_ (x := x.net) t4) o4 (by omega) (by omega)).mono ?_
  rintro _ w3 ⟨r3, rfl, hr3, S2, f3, V2⟩
  have p3 : 0 ≤ r3 := by have := hr3.out; omega
  have b3_ : r3 + (cN (x.origins.flatMap GOrigin.enc) : Nat) + (cN (x.breaks.flatMap GBreak.enc) : Nat) + (cN (x.points.flatMap GCheckpoint.enc) : Nat) ≤ 4611686018427387904 := by have := hr3.out; omega
  have u3 := (f3.other w.heap.size z2 g4).trans u2
  have z3 : w.heap.size < w3.heap.size := by have := f3.size; omega
  have F3 := F2.trans (f3.sub (cs := b0 ++ b1 ++ b4 ++ b5 ++ b6 ++ b7) (fun y hy => by first | exact hy | (simp at hy ⊢; grind)))
  clear q2_0 q2_1 q2_2 q2_3 q2_4 q2_5 q2_6 q2_7 u2
  have q3_0 := cell_of_row _ _ 0 _ _ _ u3
  have q3_1 := cell_of_row _ _ 1 _ _ _ u3
  have q3_2 := cell_of_row _ _ 2 _ _ _ u3
  have q3_3 := cell_of_row _ _ 3 _ _ _ u3
  have q3_4 := cell_of_row _ _ 4 _ _ _ u3
  have q3_5 := cell_of_row _ _ 5 _ _ _ u3
  have q3_6 := cell_of_row _ _ 6 _ _ _ u3
  have q3_7 := cell_of_row _ _ 7 _ _ _ u3
  simp only [List.getElem?_toArray, List.getElem?_cons_zero, List.getElem?_cons_succ] at q3_0 q3_1 q3_2 q3_3 q3_4 q3_5 q3_6 q3_7
  replace S0 := T1.onl S0 f3 e0_4
  replace S1 := T1.onl S1 f3 e1_4
  replace t5 := T1.onl t5 f3 (fun y hy hm => e4_5 y hm hy)
  replace o5 := o5.onl f3
  replace t6 := T1.onl t6 f3 (fun y hy hm => e4_6 y hm hy)
  replace o6 := o6.onl f3
  replace t7 := T1.onl t7 f3 (fun y hy hm => e4_7 y hm hy)
  replace o7 := o7.onl f3
  go_wp2_with fail
  refine (markOriginS_any x.origins r3 _ t5 o5 (Nat.le_trans l5 m5) (by omega) (by omega)).mono ?_
  rintro _ w4 ⟨r4, rfl, hr4, S3, f4, V3⟩
  have p4 : 0 ≤ r4 := by have := hr4.out; omega
  have b4_ : r4 + (cN (x.breaks.flatMap GBreak.enc) : Nat) + (cN (x.points.flatMap GCheckpoint.enc) : Nat) ≤ 4611686018427387904 := by have := hr4.out; omega
  have u4 := (f4.other w.heap.size z3 g5).trans u3
  have z4 : w.heap.size < w4.heap.size := by have := f4.size; omega
  have F4 := F3.trans (f4.sub (cs := b0 ++ b1 ++ b4 ++ b5 ++ b6 ++ b7) (fun y hy => by first | exact hy | (simp at hy ⊢; grind)))
  clear q3_0 q3_1 q3_2 q3_3 q3_4 q3_5 q3_6 q3_7 u3
  have q4_0 := cell_of_row _ _ 0 _ _ _ u4
  have q4_1 := cell_of_row _ _ 1 _ _ _ u4
  have q4_2 := cell_of_row _ _ 2 _ _ _ u4
  have q4_3 := cell_of_row _ _ 3 _ _ _ u4
  have q4_4 := cell_of_row _ _ 4 _ _ _ u4
  have q4_5 := cell_of_row _ _ 5 _ _ _ u4
  have q4_6 := cell_of_row _ _ 6 _ _ _ u4
  have q4_7 := cell_of_row _ _ 7 _ _ _ u4
  simp only [List.getElem?_toArray, List.getElem?_cons_zero, List.getElem?_cons_succ] at q4_0 q4_1 q4_2 q4_3 q4_4 q4_5 q4_6 q4_7
  replace S0 := T1.onl S0 f4 e0_5
  replace S1 := T1.onl S1 f4 e1_5
  replace S2 := TN.onl S2 f4 e4_5
  replace t6 := T1.onl t6 f4 (fun y hy hm => e5_6 y hm hy)
  replace o6 := o6.onl f4
  replace t7 := T1.onl t7 f4 (fun y hy hm => e5_7 y hm hy)
  replace o7 := o7.onl f4
  go_wp2_with fail
  refine (markBreakS_any x.breaks r4 _ t6 o6 (Nat.le_trans l6 m6) (by omega) (by omega)).mono ?_
  rintro _ w5 ⟨r5, rfl, hr5, S4, f5, V4⟩
  have p5 : 0 ≤ r5 := by have := hr5.out; omega
  have b5_ : r5 + (cN (x.points.flatMap GCheckpoint.enc) : Nat) ≤ 4611686018427387904 := by have := hr5.out; omega
  have u5 := (f5.other w.heap.size z4 g6).trans u4
  have z5 : w.heap.size < w5.heap.size := by have := f5.size; omega
  have F5 := F4.trans (f5.sub (cs := b0 ++ b1 ++ b4 ++ b5 ++ b6 ++ b7) (fun y hy => by first | exact hy | (simp at hy ⊢; grind)))
  clear q4_0 q4_1 q4_2 q4_3 q4_4 q4_5 q4_6 q4_7 u4
  have q5_0 := cell_of_row _ _ 0 _ _ _ u5
  have q5_1 := cell_of_row _ _ 1 _ _ _ u5
  have q5_2 := cell_of_row _ _ 2 _ _ _ u5
  have q5_3 := cell_of_row _ _ 3 _ _ _ u5
  have q5_4 := cell_of_row _ _ 4 _ _ _ u5
  have q5_5 := cell_of_row _ _ 5 _ _ _ u5
  have q5_6 := cell_of_row _ _ 6 _ _ _ u5
  have q5_7 := cell_of_row _ _ 7 _ _ _ u5
  simp only [List.getElem?_toArray, List.getElem?_cons_zero, List.getElem?_cons_succ] at q5_0 q5_1 q5_2 q5_3 q5_4 q5_5 q5_6 q5_7
  replace S0 := T1.onl S0 f5 e0_6
  replace S1 := T1.onl S1 f5 e1_6
  replace S2 := TN.onl S2 f5 e4_6
  replace S3 := T1.onl S3 f5 e5_6
  replace t7 := T1.onl t7 f5 (fun y hy hm => e6_7 y hm hy)
  replace o7 := o7.onl f5
  go_wp2_with fail
  refine (markCheckpointS_any x.points r5 _ t7 o7 (Nat.le_trans l7 m7) (by omega) (by omega)).mono ?_
  rintro _ w6 ⟨r6, rfl, hr6, S5, f6, V5⟩
  have p6 : 0 ≤ r6 := by have := hr6.out; omega
  have b6_ : r6 + 0 ≤ 4611686018427387904 := by have := hr6.out; omega
  have u6 := (f6.other w.heap.size z5 g7).trans u5
  have z6 : w.heap.size < w6.heap.size := by have := f6.size; omega
  have F6 := F5.trans (f6.sub (cs := b0 ++ b1 ++ b4 ++ b5 ++ b6 ++ b7) (fun y hy => by first | exact hy | (simp at hy ⊢; grind)))
  clear q5_0 q5_1 q5_2 q5_3 q5_4 q5_5 q5_6 q5_7 u5
  have q6_0 := cell_of_row _ _ 0 _ _ _ u6
  have q6_1 := cell_of_row _ _ 1 _ _ _ u6
  have q6_2 := cell_of_row _ _ 2 _ _ _ u6
  have q6_3 := cell_of_row _ _ 3 _ _ _ u6
  have q6_4 := cell_of_row _ _ 4 _ _ _ u6
  have q6_5 := cell_of_row _ _ 5 _ _ _ u6
  have q6_6 := cell_of_row _ _ 6 _ _ _ u6
  have q6_7 := cell_of_row _ _ 7 _ _ _ u6
  simp only [List.getElem?_toArray, List.getElem?_cons_zero, List.getElem?_cons_succ] at q6_0 q6_1 q6_2 q6_3 q6_4 q6_5 q6_6 q6_7
  replace S0 := T1.onl S0 f6 e0_7
  replace S1 := T1.onl S1 f6 e1_7
  replace S2 := TN.onl S2 f6 e4_7
  replace S3 := T1.onl S3 f6 e5_7
  replace S4 := T1.onl S4 f6 e6_7
  go_wp2_with fail
  go_ret
  refine ⟨r6, rfl, ?_, ?_, F6, ho.onl F6⟩
  · show _ = _
    have hcn : x.cnt = cN (x.book.flatMap GNet.enc) + cN (x.schedule.flatMap intE) + x.net.cnt + cN (x.origins.flatMap GOrigin.enc) + cN (x.breaks.flatMap GBreak.enc) + cN (x.points.flatMap GCheckpoint.enc) := rfl
    have h1 := hr1.out; have h2 := hr2.out; have h3 := hr3.out; have h4 := hr4.out; have h5 := hr5.out; have h6 := hr6.out; omega
  · have h1 := hr1.out; have h2 := hr2.out; have h3 := hr3.out; have h4 := hr4.out; have h5 := hr5.out; have h6 := hr6.out; skip
    rw [show r1 = k + (cN (x.book.flatMap GNet.enc) : Nat) from by omega] at S1
    rw [show r2 = k + (cN (x.book.flatMap GNet.enc) : Nat) + (cN (x.schedule.flatMap intE) : Nat) from by omega] at S2
    rw [show r3 = k + (cN (x.book.flatMap GNet.enc) : Nat) + (cN (x.schedule.flatMap intE) : Nat) + (x.net.cnt : Nat) from by omega] at S3
    rw [show r4 = k + (cN (x.book.flatMap GNet.enc) : Nat) + (cN (x.schedule.flatMap intE) : Nat) + (x.net.cnt : Nat) + (cN (x.origins.flatMap GOrigin.enc) : Nat) from by omega] at S4
    rw [show r5 = k + (cN (x.book.flatMap GNet.enc) : Nat) + (cN (x.schedule.flatMap intE) : Nat) + (x.net.cnt : Nat) + (cN (x.origins.flatMap GOrigin.enc) : Nat) + (cN (x.breaks.flatMap GBreak.enc) : Nat) from by omega] at S5
    have h := (TN.append.2 ⟨_, _, _, _, rfl, rfl, (TN.sl_mk S0 TN.done), (TN.append.2 ⟨_, _, _, _, rfl, rfl, (TN.sl_mk S1 TN.done), (TN.append.2 ⟨_, _, _, _, rfl, rfl, (TN.v_mk (x := .int .i64 x.every) rfl TN.done), (TN.append.2 ⟨_, _, _, _, rfl, rfl, (TN.v_mk (x := .int .i64 x.at_) rfl TN.done), (TN.append.2 ⟨_, _, _, _, rfl, rfl, S2, (TN.append.2 ⟨_, _, _, _, rfl, rfl, (TN.sl_mk S3 TN.done), (TN.append.2 ⟨_, _, _, _, rfl, rfl, (TN.sl_mk S4 TN.done), (TN.sl_mk S5 TN.done)⟩)⟩)⟩)⟩)⟩)⟩)⟩)
    simp only [List.append_nil, List.nil_append, List.append_assoc, List.cons_append] at h
    unfold GDebugger.mked
    simpa only [List.append_nil, List.nil_append, List.append_assoc, List.cons_append] using h

set_option maxHeartbeats 4000000 in
theorem heldDebugger_any (x : GDebugger) (k r : Int) {bs us} (w : World) (hx : TN w (x.mked k) bs us) (hk0 : 0 ≤ k) (hk1 : r ≤ 4611686018427387904) (Hr : Hid (r = k + (x.cnt : Nat))) : Calls Tryz.prog 29 #[.agg us.toArray, .int .i64 k] w fun e w' => e = .returned (.int .i64 (r)) ∧ Ext w w' := by
  refine quiet_start fun e => ?_
  unfold GDebugger.mked at hx
  obtain ⟨p1, P1, u1, U1, rfl, rfl, x1, hx1⟩ := TN.append.1 hx
  clear hx
  obtain ⟨A0, c0, b0, r0_, U_1, rfl, rfl, t0, l0, m0, x1_⟩ := TN.sl_cons x1
  obtain ⟨rfl, rfl⟩ := TN.end_ x1_
  clear x1_ x1
  obtain ⟨p2, P2, u2, U2, rfl, rfl, x2, hx2⟩ := TN.append.1 hx1
  clear hx1
  obtain ⟨A1, c1, b1, r1_, U_2, rfl, rfl, t1, l1, m1, x2_⟩ := TN.sl_cons x2
  obtain ⟨rfl, rfl⟩ := TN.end_ x2_
  clear x2_ x2
  obtain ⟨p3, P3, u3, U3, rfl, rfl, x3, hx3⟩ := TN.append.1 hx2
  clear hx2
  obtain ⟨U_3, rfl, x3_⟩ := TN.v_cons x3
  obtain ⟨rfl, rfl⟩ := TN.end_ x3_
  clear x3_ x3
  obtain ⟨p4, P4, u4, U4, rfl, rfl, x4, hx4⟩ := TN.append.1 hx3
  clear hx3
  obtain ⟨U_4, rfl, x4_⟩ := TN.v_cons x4
  obtain ⟨rfl, rfl⟩ := TN.end_ x4_
  clear x4_ x4
  obtain ⟨p5, P5, u5, U5, rfl, rfl, x5, hx5⟩ := TN.append.1 hx4
  clear hx4
  obtain ⟨p6, P6, u6, U6, rfl, rfl, x6, hx6⟩ := TN.append.1 hx5
  clear hx5
  obtain ⟨A5, c5, b5, r5_, U_6, rfl, rfl, t5, l5, m5, x6_⟩ := TN.sl_cons x6
  obtain ⟨rfl, rfl⟩ := TN.end_ x6_
  clear x6_ x6
  obtain ⟨p7, P7, u7, U7, rfl, rfl, x7, hx7⟩ := TN.append.1 hx6
  clear hx6
  obtain ⟨A6, c6, b6, r6_, U_7, rfl, rfl, t6, l6, m6, x7_⟩ := TN.sl_cons x7
  obtain ⟨rfl, rfl⟩ := TN.end_ x7_
  clear x7_ x7
  have x8 := hx7
  clear hx7
  obtain ⟨A7, c7, b7, r7_, U_8, rfl, rfl, t7, l7, m7, x8_⟩ := TN.sl_cons x8
  obtain ⟨rfl, rfl⟩ := TN.end_ x8_
  clear x8_ x8
  have y5 := x5
  unfold GNet.mked at y5
  have z5 := y5
  clear y5
  obtain ⟨A4, c4, _, _, _, rfl, _, _, _, _, z5_⟩ := TN.sl_cons z5
  obtain ⟨rfl, _⟩ := TN.end_ z5_
  clear z5_ z5
  obtain ⟨r1, hr1⟩ : ∃ q : Int, q = k + ((cN (x.book.flatMap GNet.enc) : Nat) : Int) := ⟨_, rfl⟩
  obtain ⟨r2, hr2⟩ : ∃ q : Int, q = r1 + ((cN (x.schedule.flatMap intE) : Nat) : Int) := ⟨_, rfl⟩
  rw [show k + (cN (x.book.flatMap GNet.enc) : Nat) = r1 from by omega] at t1
  obtain ⟨r3, hr3⟩ : ∃ q : Int, q = r2 + ((x.net.cnt : Nat) : Int) := ⟨_, rfl⟩
  rw [show k + (cN (x.book.flatMap GNet.enc) : Nat) + (cN (x.schedule.flatMap intE) : Nat) = r2 from by omega] at x5
  obtain ⟨r4, hr4⟩ : ∃ q : Int, q = r3 + ((cN (x.origins.flatMap GOrigin.enc) : Nat) : Int) := ⟨_, rfl⟩
  rw [show k + (cN (x.book.flatMap GNet.enc) : Nat) + (cN (x.schedule.flatMap intE) : Nat) + (x.net.cnt : Nat) = r3 from by omega] at t5
  obtain ⟨r5, hr5⟩ : ∃ q : Int, q = r4 + ((cN (x.breaks.flatMap GBreak.enc) : Nat) : Int) := ⟨_, rfl⟩
  rw [show k + (cN (x.book.flatMap GNet.enc) : Nat) + (cN (x.schedule.flatMap intE) : Nat) + (x.net.cnt : Nat) + (cN (x.origins.flatMap GOrigin.enc) : Nat) = r4 from by omega] at t6
  obtain ⟨r6, hr6⟩ : ∃ q : Int, q = r5 + ((cN (x.points.flatMap GCheckpoint.enc) : Nat) : Int) := ⟨_, rfl⟩
  rw [show k + (cN (x.book.flatMap GNet.enc) : Nat) + (cN (x.schedule.flatMap intE) : Nat) + (x.net.cnt : Nat) + (cN (x.origins.flatMap GOrigin.enc) : Nat) + (cN (x.breaks.flatMap GBreak.enc) : Nat) = r5 from by omega] at t7
  have hcn : x.cnt = cN (x.book.flatMap GNet.enc) + cN (x.schedule.flatMap intE) + x.net.cnt + cN (x.origins.flatMap GOrigin.enc) + cN (x.breaks.flatMap GBreak.enc) + cN (x.points.flatMap GCheckpoint.enc) := rfl
  have hE : r6 = r := by have h1 := Hr.out; omega
  have E := Lib.hid hE
  have p1 : 0 ≤ r1 := by omega
  have q1 : r1 ≤ 4611686018427387904 := by have h1 := Hr.out; omega
  have Hr1 : Hid (r1 = k + ((cN (x.book.flatMap GNet.enc) : Nat) : Int)) := hr1
  have p2 : 0 ≤ r2 := by omega
  have q2 : r2 ≤ 4611686018427387904 := by have h1 := Hr.out; omega
  have Hr2 : Hid (r2 = r1 + ((cN (x.schedule.flatMap intE) : Nat) : Int)) := hr2
  have p3 : 0 ≤ r3 := by omega
  have q3 : r3 ≤ 4611686018427387904 := by have h1 := Hr.out; omega
  have Hr3 : Hid (r3 = r2 + ((x.net.cnt : Nat) : Int)) := hr3
  have p4 : 0 ≤ r4 := by omega
  have q4 : r4 ≤ 4611686018427387904 := by have h1 := Hr.out; omega
  have Hr4 : Hid (r4 = r3 + ((cN (x.origins.flatMap GOrigin.enc) : Nat) : Int)) := hr4
  have p5 : 0 ≤ r5 := by omega
  have q5 : r5 ≤ 4611686018427387904 := by have h1 := Hr.out; omega
  have Hr5 : Hid (r5 = r4 + ((cN (x.breaks.flatMap GBreak.enc) : Nat) : Int)) := hr5
  have p6 : 0 ≤ r6 := by omega
  have q6 : r6 ≤ 4611686018427387904 := by have h1 := Hr.out; omega
  have Hr6 : Hid (r6 = r5 + ((cN (x.points.flatMap GCheckpoint.enc) : Nat) : Int)) := hr6
  clear hcn hE Hr hr1 hr2 hr3 hr4 hr5 hr6
  go_enter Tryz.func29, Tryz.ntmps29
  go_upto_region 1 with (fail)
  generalize hgg : e.to.heap.size = g
  refine rebase_box e hgg (fun w1 e hx1 hgeg hltg cg => ?_)
  clear hgg
  replace t0 := t0.below hx1
  replace t1 := t1.below hx1
  replace x5 := x5.below hx1
  replace t5 := t5.below hx1
  replace t6 := t6.below hx1
  replace t7 := t7.below hx1
  simp only [List.cons_append, List.nil_append, List.append_nil] at cg
  have y0 := cg.always hltg 0 _ rfl
  have y1 := cg.always hltg 1 _ rfl
  have y2 := cg.always hltg 2 _ rfl
  have y3 := cg.always hltg 3 _ rfl
  have y4 := cg.always hltg 4 _ rfl
  have y5 := cg.always hltg 5 _ rfl
  have y6 := cg.always hltg 6 _ rfl
  have y7 := cg.always hltg 7 _ rfl
  simp only [Nat.zero_add] at y0 y1 y2 y3 y4 y5 y6 y7
  clear cg
  have C1 : Hid (QC Tryz.prog w1 _ _ _) := fun W hW => heldNetS_any x.book (k) r1 x.book.length W (t0.below hW) Hid_rfl (by omega) q1 Hr1
  have C2 : Hid (QC Tryz.prog w1 _ _ _) := fun W hW => heldInt64S_any x.schedule (r1) r2 x.schedule.length W (t1.below hW) Hid_rfl (by omega) q2 Hr2
  have C3 : Hid (QC Tryz.prog w1 _ _ _) := fun W hW => heldNet_any x.net (r2) r3 W (TN.below x5 hW) (by omega) q3 Hr3
  have C4 : Hid (QC Tryz.prog w1 _ _ _) := fun W hW => heldOriginS_any x.origins (r3) r4 x.origins.length W (t5.below hW) Hid_rfl (by omega) q4 Hr4
  have C5 : Hid (QC Tryz.prog w1 _ _ _) := fun W hW => heldBreakS_any x.breaks (r4) r5 x.breaks.length W (t6.below hW) Hid_rfl (by omega) q5 Hr5
  have C6 : Hid (QC Tryz.prog w1 _ _ _) := fun W hW => heldCheckpointS_any x.points (r5) r6 x.points.length W (t7.below hW) Hid_rfl (by omega) q6 Hr6
  go_wp2_with (first | (go_at_call 70; with_reducible refine (C1.out.at_ _).mono ?_; rintro _ _ ⟨rfl, e, rfl⟩) | (go_at_call 34; with_reducible refine (C2.out.at_ _).mono ?_; rintro _ _ ⟨rfl, e, rfl⟩) | (go_at_call 71; with_reducible refine (C3.out.at_ _).mono ?_; rintro _ _ ⟨rfl, e, rfl⟩) | (go_at_call 72; with_reducible refine (C4.out.at_ _).mono ?_; rintro _ _ ⟨rfl, e, rfl⟩) | (go_at_call 73; with_reducible refine (C5.out.at_ _).mono ?_; rintro _ _ ⟨rfl, e, rfl⟩) | (go_at_call 74; with_reducible refine (C6.out.at_ _).mono ?_; rintro _ _ ⟨rfl, e, rfl⟩))
  repeat (refine wp_region_ext0 _ (by kernel_rfl) (by kernel_rfl) ?_; (repeat (go_big_quiet_step ((first | with_reducible exact C1.out.at_ _ | with_reducible exact C2.out.at_ _ | with_reducible exact C3.out.at_ _ | with_reducible exact C4.out.at_ _ | with_reducible exact C5.out.at_ _ | with_reducible exact C6.out.at_ _)))); refine wpQuiet_nil ?_; intro e; go_wp2_with (first | (go_at_call 70; with_reducible refine (C1.out.at_ _).mono ?_; rintro _ _ ⟨rfl, e, rfl⟩) | (go_at_call 34; with_reducible refine (C2.out.at_ _).mono ?_; rintro _ _ ⟨rfl, e, rfl⟩) | (go_at_call 71; with_reducible refine (C3.out.at_ _).mono ?_; rintro _ _ ⟨rfl, e, rfl⟩) | (go_at_call 72; with_reducible refine (C4.out.at_ _).mono ?_; rintro _ _ ⟨rfl, e, rfl⟩) | (go_at_call 73; with_reducible refine (C5.out.at_ _).mono ?_; rintro _ _ ⟨rfl, e, rfl⟩) | (go_at_call 74; with_reducible refine (C6.out.at_ _).mono ?_; rintro _ _ ⟨rfl, e, rfl⟩)))
  go_ret
  exact ⟨by rw [← E.out]; rfl, ExtOf.old hx1 e⟩

end Go.Proofs.YtmmdkchhahnenaaGreat
