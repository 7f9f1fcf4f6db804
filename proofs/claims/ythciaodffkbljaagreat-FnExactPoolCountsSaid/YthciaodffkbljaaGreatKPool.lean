/- What the laws number and look for again in these types. Printed by gen_mk.py. -/
import Derived.Test.YthciaodffkbljaaGreatProg
import Derived.Test.YthciaodffkbljaaGreatMk
import Derived.Test.YthciaodffkbljaaGreatDPool
import Derived.BigGuardPart
import Derived.Outline
import Derived.Deep.CutBlock
set_option linter.unusedSimpArgs false
set_option linter.unusedVariables false
namespace Go.Tr
open Go Go.RowKit
def GMemory.mked (x : GMemory) (k : Int) : List D := [.sl x.cells.length (mkN (x.cells.flatMap GCell.enc) (k))] ++ ([.v (.int .i64 x.free)] ++ ([.v (.int .i64 x.root.tag)] ++ ([.v (.int .i64 x.root.at_)] ++ ([.sl x.redexes.length (mkN (x.redexes.flatMap GPair.enc) (k + (cN (x.cells.flatMap GCell.enc) : Nat)))]))))
def GMemory.cnt (x : GMemory) : Nat := cN (x.cells.flatMap GCell.enc) + cN (x.redexes.flatMap GPair.enc)
def GPool.mked (x : GPool) (k : Int) : List D := x.memory.mked (k) ++ ([.sl x.workers.length (mkN (x.workers.flatMap GWorker.enc) (k + (x.memory.cnt : Nat)))] ++ ([.v (.int .i64 x.active)]))
def GPool.cnt (x : GPool) : Nat := x.memory.cnt + cN (x.workers.flatMap GWorker.enc)
theorem GWord.cnE (x : GWord) : cN x.enc ≤ 32 * (1 + (fun _ => 0) x) := by
  have hc : cN x.enc = 1 + 1 := by show cN [.v (.int .i64 x.tag), .v (.int .i64 x.at_)] = _; simp only [cN_cons, cD_v, cD_sl, cN_nil] <;> omega
  omega
theorem GCell.cnE (x : GCell) : cN x.enc ≤ 32 * (1 + x.wt) := by
  have h3 := cN_flat_le (f := intE) (g := (fun _ => 0)) intE_cn x.data
  have h4 := cN_flat_le (f := GWord.enc) (g := (fun _ => 0)) GWord.cnE x.words
  have hw : x.wt = wtl (fun _ => 0) x.data + wtl (fun _ => 0) x.words := rfl
  have hc : cN x.enc = 1 + 1 + 1 + cN (x.data.flatMap intE) + cN (x.words.flatMap GWord.enc) := by show cN [.v (.int .i64 x.kind), .v (.int .i64 x.level), .v (.int .i64 x.value), .sl x.data.length (x.data.flatMap intE), .sl x.words.length (x.words.flatMap GWord.enc)] = _; simp only [cN_cons, cD_v, cD_sl, cN_nil] <;> omega
  omega
theorem GPair.cnE (x : GPair) : cN x.enc ≤ 32 * (1 + (fun _ => 0) x) := by
  have hc : cN x.enc = 1 + 1 := by show cN [.v (.int .i64 x.a), .v (.int .i64 x.b)] = _; simp only [cN_cons, cD_v, cD_sl, cN_nil] <;> omega
  omega
theorem GMemory.cnE (x : GMemory) : cN x.enc ≤ 32 * (1 + x.wt) := by
  have h0 := cN_flat_le (f := GCell.enc) (g := GCell.wt) GCell.cnE x.cells
  have h4 := cN_flat_le (f := GPair.enc) (g := (fun _ => 0)) GPair.cnE x.redexes
  have hw : x.wt = wtl GCell.wt x.cells + wtl (fun _ => 0) x.redexes := rfl
  have hc : cN x.enc = cN (x.cells.flatMap GCell.enc) + 1 + 1 + 1 + cN (x.redexes.flatMap GPair.enc) := by show cN [.sl x.cells.length (x.cells.flatMap GCell.enc), .v (.int .i64 x.free), .v (.int .i64 x.root.tag), .v (.int .i64 x.root.at_), .sl x.redexes.length (x.redexes.flatMap GPair.enc)] = _; simp only [cN_cons, cD_v, cD_sl, cN_nil] <;> omega
  omega
theorem GMemory.cnt_le (x : GMemory) : x.cnt ≤ 32 * x.wt := by
  have h0 := cN_flat_le (f := GCell.enc) (g := GCell.wt) GCell.cnE x.cells
  have h4 := cN_flat_le (f := GPair.enc) (g := (fun _ => 0)) GPair.cnE x.redexes
  have hw : x.wt = wtl GCell.wt x.cells + wtl (fun _ => 0) x.redexes := rfl
  have hc : x.cnt = cN (x.cells.flatMap GCell.enc) + cN (x.redexes.flatMap GPair.enc) := rfl
  omega
theorem GLink.cnE (x : GLink) : cN x.enc ≤ 32 * (1 + (fun _ => 0) x) := by
  have hc : cN x.enc = 1 + 1 + 1 + 1 := by show cN [.v (.int .i64 x.a.tag), .v (.int .i64 x.a.at_), .v (.int .i64 x.b.tag), .v (.int .i64 x.b.at_)] = _; simp only [cN_cons, cD_v, cD_sl, cN_nil] <;> omega
  omega
theorem GWorker.cnE (x : GWorker) : cN x.enc ≤ 32 * (1 + x.wt) := by
  have h2 := cN_flat_le (f := GPair.enc) (g := (fun _ => 0)) GPair.cnE x.redexes
  have h3 := cN_flat_le (f := GLink.enc) (g := (fun _ => 0)) GLink.cnE x.links
  have h4 := cN_flat_le (f := intE) (g := (fun _ => 0)) intE_cn x.counts
  have hw : x.wt = wtl (fun _ => 0) x.redexes + wtl (fun _ => 0) x.links + wtl (fun _ => 0) x.counts := rfl
  have hc : cN x.enc = 1 + 1 + cN (x.redexes.flatMap GPair.enc) + cN (x.links.flatMap GLink.enc) + cN (x.counts.flatMap intE) := by show cN [.v (.int .i64 x.phase), .v (.int .i64 x.victim), .sl x.redexes.length (x.redexes.flatMap GPair.enc), .sl x.links.length (x.links.flatMap GLink.enc), .sl x.counts.length (x.counts.flatMap intE)] = _; simp only [cN_cons, cD_v, cD_sl, cN_nil] <;> omega
  omega
theorem GPool.cnE (x : GPool) : cN x.enc ≤ 32 * (1 + x.wt) := by
  have h0 := cN_flat_le (f := GCell.enc) (g := GCell.wt) GCell.cnE x.memory.cells
  have h4 := cN_flat_le (f := GPair.enc) (g := (fun _ => 0)) GPair.cnE x.memory.redexes
  have h5 := cN_flat_le (f := GWorker.enc) (g := GWorker.wt) GWorker.cnE x.workers
  have hw : x.wt = x.memory.wt + wtl GWorker.wt x.workers := rfl
  have n0 : x.memory.wt = wtl GCell.wt x.memory.cells + wtl (fun _ => 0) x.memory.redexes := rfl
  have hc : cN x.enc = cN (x.memory.cells.flatMap GCell.enc) + 1 + 1 + 1 + cN (x.memory.redexes.flatMap GPair.enc) + cN (x.workers.flatMap GWorker.enc) + 1 := by show cN [.sl x.memory.cells.length (x.memory.cells.flatMap GCell.enc), .v (.int .i64 x.memory.free), .v (.int .i64 x.memory.root.tag), .v (.int .i64 x.memory.root.at_), .sl x.memory.redexes.length (x.memory.redexes.flatMap GPair.enc), .sl x.workers.length (x.workers.flatMap GWorker.enc), .v (.int .i64 x.active)] = _; simp only [cN_cons, cD_v, cD_sl, cN_nil] <;> omega
  omega
theorem GPool.cnt_le (x : GPool) : x.cnt ≤ 32 * x.wt := by
  have h0 := cN_flat_le (f := GCell.enc) (g := GCell.wt) GCell.cnE x.memory.cells
  have h4 := cN_flat_le (f := GPair.enc) (g := (fun _ => 0)) GPair.cnE x.memory.redexes
  have h5 := cN_flat_le (f := GWorker.enc) (g := GWorker.wt) GWorker.cnE x.workers
  have hw : x.wt = x.memory.wt + wtl GWorker.wt x.workers := rfl
  have n0 : x.memory.wt = wtl GCell.wt x.memory.cells + wtl (fun _ => 0) x.memory.redexes := rfl
  have hc : x.cnt = x.memory.cnt + cN (x.workers.flatMap GWorker.enc) := rfl
  have c0 := GMemory.cnt_le x.memory
  omega
end Go.Tr
namespace Go.Proofs.YthciaodffkbljaaGreat
open Go Go.RowKit Go.Proofs Go.Tr
set_option maxHeartbeats 4000000 in
theorem markInt64S_any (xs : List Int) (k : Int) {A : Option Addr} {c lo : Nat} {bs} (w : World) (hx : T1 w (.sl xs.length (xs.flatMap intE)) bs (.slice A xs.length c)) (ho : Own lo w bs) (hn' : xs.length ≤ maxLen) (hk0 : 0 ≤ k) (hk1 : k + (cN (xs.flatMap intE) : Nat) ≤ 4611686018427387904) :
    Calls Tryz.prog 27 #[.slice A xs.length c, .int .i64 k] w fun e w' => ∃ r : Int, e = .returned (.int .i64 r) ∧ Hid (r = k + (cN (xs.flatMap intE) : Nat)) ∧ T1 w' (.sl xs.length (mkN (xs.flatMap intE) k)) bs (.slice A xs.length c) ∧ Onl bs w w' ∧ Own lo w' bs := by
  unfold maxLen at hn'
  obtain ⟨n, hn⟩ : ∃ n, xs.length = n := ⟨_, rfl⟩
  rw [hn] at hx hn' ⊢
  have Hn : Hid (xs.length = n) := hn
  clear hn
  have hkk := Lib.hid hk1
  clear hk1
  go_enter Tryz.func27, Tryz.ntmps27
  go_wp2_with fail
  go_loopw [1, 5] (fun l i w' => ∃ (j : Nat) (m : Int), j ≤ n ∧ i = .int .i64 j ∧ l = .int .i64 m ∧ Hid (m = k + (cN ((xs.take j).flatMap intE) : Nat)) ∧ 0 ≤ m ∧ T1 w' (.sl n (mkN ((xs.take j).flatMap intE) k ++ (xs.drop j).flatMap intE)) bs (.slice A n c) ∧ Onl bs w w' ∧ Own lo w' bs) (fun _ i _ => n - (intOf i).toNat)
  case atStart => exact ⟨0, k, Nat.zero_le _, rfl, rfl, Lib.hid (by simp [cN_nil]), hk0, by simpa [mkN_nil] using hx, Onl.refl _ _, ho⟩
  case round =>
    obtain ⟨j, m, hj, rfl, rfl, hm, hm0, ht, hon, hw⟩ := hrel
    by_cases hlt : j < n
    · obtain ⟨x, hxk, hsp, hll, hsn, hdr⟩ := flat_split intE 1 (fun _ => rfl) Hn hlt
      rw [hdr.out, List.flatMap_cons] at ht
      have hml : (mkN ((xs.take j).flatMap intE) k).length = j * 1 := by rw [mkN_len, hll]
      generalize hL : mkN ((xs.take j).flatMap intE) k = L at ht hml
      have HL := Lib.hid hL
      clear hL hll
      have hcx : Hid (cN (intE x) = 1) := by show cN [.v (.int .i64 x)] = _; simp only [cN_cons, cD_v, cD_sl, cN_nil] <;> omega
      have hbd : m + 1 ≤ 4611686018427387904 := by
        have h1 := hm.out; have h2 := hkk.out; have h3 := hcx.out
        have h4 := hsp.out
        have h5 : cN (xs.flatMap intE) = cN ((xs.take j).flatMap intE) + (cN (intE x) + cN ((xs.drop (j + 1)).flatMap intE)) := by rw [h4, cN_append, cN_append]
        omega
      replace ht : T1 wr (.sl n (L ++ (.v (.int .i64 x)) :: (xs.drop (j + 1)).flatMap intE)) bs (.slice A n c) := ht
      generalize hR : (xs.drop (j + 1)).flatMap intE = R at ht
      have HR := Lib.hid hR
      clear hR
      obtain ⟨b, off, rfl, -, hbm, hbl, hblo, hfz⟩ := ht.row hw
      have z0_0 : T1 wr (.sl n (L ++ (.v (.int .i64 x)) :: R)) bs (.slice (some ⟨b, off, none⟩) n c) := by exact ht
      have y0_0 := (z0_0.leaf hw (o := off + j) rfl (by simp only [List.length_append, List.length_cons, List.length_nil, hml] <;> omega)).1
      obtain ⟨t0, u0, v0⟩ := (ht.leaf hw (o := off + j) rfl (by simp only [List.length_append, List.length_cons, List.length_nil, hml] <;> omega)).2 (.int .i64 m) rfl
      replace t0 : T1 (World.setCell wr ⟨b, off + j, none⟩ (.int .i64 m)) (.sl n (L ++ (.v (.int .i64 m)) :: R)) bs (.slice (some ⟨b, off, none⟩) n c) := t0
      clear z0_0
      go_wp2_with fail
      have hmk : mkN (intE x) m = [.v (.int .i64 m)] := by
        show mkN [.v (.int .i64 x)] m = _
        simp only [mkN_cons, mkN_nil, mkD_int, mkD_sl, cD_v, cD_sl]
        all_goals (exact (cons_eq (vI_eq (by omega)) rfl))
      have hfin : mkN ((xs.take (j + 1)).flatMap intE) k ++ (xs.drop (j + 1)).flatMap intE = L ++ (.v (.int .i64 m)) :: R := by
        rw [hsn.out, mkN_append, HL.out, ← hm.out, hmk, List.append_assoc, HR.out]; rfl
      exact ⟨⟨j + 1, m + 1, by omega, by go_num, by first | rfl | go_num, Lib.hid (by rw [hsn.out, cN_append]; have h8 := hcx.out; have h9 := hm.out; omega), by omega, by rw [hfin]; exact t0, (hon).trans u0, v0⟩, by simp [intOf]; omega⟩
    · have : j = n := by omega
      subst this
      go_wp2_with fail
      go_ret
      have hl := Hn.out
      rw [List.take_of_length_le (by omega), List.drop_of_length_le (by omega)] at ht
      have hm' := hm.out
      rw [List.take_of_length_le (by omega)] at hm'
      exact ⟨m, rfl, hm', by simpa using ht, hon, hw⟩

set_option maxHeartbeats 4000000 in
theorem heldInt64S_any (xs : List Int) (k r : Int) (n : Nat) {A : Option Addr} {c : Nat} {bs : List Nat} (w : World) (hx : T1 w (.sl n (mkN (xs.flatMap intE) k)) bs (.slice A n c)) (Hn : Hid (xs.length = n)) (hk0 : 0 ≤ k) (hk1 : r ≤ 4611686018427387904) (Hr : Hid (r = k + (cN (xs.flatMap intE) : Nat))) : Calls Tryz.prog 33 #[.slice A n c, .int .i64 k] w fun e w' => e = .returned (.int .i64 (r)) ∧ Ext w w' := by
  refine quiet_start fun e => ?_
  have hn := hx.nle
  go_enter Tryz.func33, Tryz.ntmps33
  go_wp2_with fail
  repeat (refine wp_region_ext0 _ (by kernel_rfl) (by kernel_rfl) ?_; (repeat (go_big_quiet_step (fail))); refine wpQuiet_nil ?_; intro e; go_wp2_with fail)
  go_loopw [1, 5] (fun l i w' => ∃ (j : Nat) (m : Int), j ≤ n ∧ i = .int .i64 j ∧ l = .int .i64 m ∧ Hid (m = k + (cN ((xs.take j).flatMap intE) : Nat)) ∧ 0 ≤ m ∧ ∃ e : ExtOf w, w' = e.to) (fun _ i _ => n - (intOf i).toNat)
  case atStart => exact ⟨0, k, Nat.zero_le _, rfl, rfl, Lib.hid (by simp [cN_nil]), hk0, _, rfl⟩
  case round =>
    obtain ⟨j, m, hj, rfl, rfl, hm, hm0, e, rfl⟩ := hrel
    by_cases hlt : j < n
    · obtain ⟨x, hxk, hsp, hll, hsn, -⟩ := flat_split intE 1 (fun _ => rfl) Hn hlt
      have hcx : Hid (cN (intE x) = 1) := by show cN [.v (.int .i64 x)] = _; simp only [cN_cons, cD_v, cD_sl, cN_nil] <;> omega
      have hbd : m + 1 ≤ 4611686018427387904 := by
        have h1 := hm.out; have h2 := Hr.out; have h3 := hcx.out
        have h5 : cN (xs.flatMap intE) = cN ((xs.take j).flatMap intE) + (cN (intE x) + cN ((xs.drop (j + 1)).flatMap intE)) := by rw [hsp.out, cN_append, cN_append]
        omega
      have hmk : mkN (intE x) m = [.v (.int .i64 (m))] := by
        show mkN [.v (.int .i64 x)] m = _
        simp only [mkN_cons, mkN_nil, mkD_int, mkD_sl, cD_v, cD_sl]
        all_goals (exact (cons_eq (vI_eq (by omega)) rfl))
      have hxx := hx
      rw [hsp.out, mkN_append, mkN_append, ← hm.out, hmk] at hxx
      have hml : (mkN ((xs.take j).flatMap intE) k).length = j * 1 := by rw [mkN_len, hll]
      generalize hL : mkN ((xs.take j).flatMap intE) k = L at hxx hml
      clear hL hll hmk
      generalize hR : mkN ((xs.drop (j + 1)).flatMap intE) (m + (cN (intE x) : Nat)) = R at hxx
      clear hR
      replace hxx : T1 w (.sl n (L ++ (.v (.int .i64 (m))) :: R)) bs (.slice A n c) := hxx
      obtain ⟨b, off, rfl⟩ := hxx.krow
      have z0 : T1 w (.sl n (L ++ (.v (.int .i64 (m))) :: R)) bs (.slice (some ⟨b, off, none⟩) n c) := by exact hxx
      have y0 := z0.kleaf (o := off + j) rfl (by simp only [List.length_append, List.length_cons, List.length_nil, hml] <;> omega)
      clear hxx z0
      go_wp2_with fail
      repeat (refine wp_region_ext0 _ (by kernel_rfl) (by kernel_rfl) ?_; (repeat (go_big_quiet_step (fail))); refine wpQuiet_nil ?_; intro e; go_wp2_with fail)
      exact ⟨⟨j + 1, m + 1, by omega, by go_num, by first | rfl | go_num, Lib.hid (by rw [hsn.out, cN_append]; have h8 := hcx.out; have h9 := hm.out; omega), by omega, _, rfl⟩, by simp [intOf]; omega⟩
    · have : j = n := by omega
      subst this
      have E : Hid (r = m) := by
        have h1 := hm.out; have h2 := Hr.out; have h3 := Hn.out
        rw [List.take_of_length_le (by omega)] at h1
        show _ = _; omega
      go_wp2_with fail
      repeat (refine wp_region_ext0 _ (by kernel_rfl) (by kernel_rfl) ?_; (repeat (go_big_quiet_step (fail))); refine wpQuiet_nil ?_; intro e; go_wp2_with fail)
      go_ret
      exact ⟨by rw [E.out]; rfl, _, rfl⟩

set_option maxHeartbeats 4000000 in
theorem markWordS_any (xs : List GWord) (k : Int) {A : Option Addr} {c lo : Nat} {bs} (w : World) (hx : T1 w (.sl xs.length (xs.flatMap GWord.enc)) bs (.slice A xs.length c)) (ho : Own lo w bs) (hn' : xs.length ≤ maxLen) (hk0 : 0 ≤ k) (hk1 : k + (cN (xs.flatMap GWord.enc) : Nat) ≤ 4611686018427387904) :
    Calls Tryz.prog 175 #[.slice A xs.length c, .int .i64 k] w fun e w' => ∃ r : Int, e = .returned (.int .i64 r) ∧ Hid (r = k + (cN (xs.flatMap GWord.enc) : Nat)) ∧ T1 w' (.sl xs.length (mkN (xs.flatMap GWord.enc) k)) bs (.slice A xs.length c) ∧ Onl bs w w' ∧ Own lo w' bs := by
  unfold maxLen at hn'
  obtain ⟨n, hn⟩ : ∃ n, xs.length = n := ⟨_, rfl⟩
  rw [hn] at hx hn' ⊢
  have Hn : Hid (xs.length = n) := hn
  clear hn
  have hkk := Lib.hid hk1
  clear hk1
  go_enter Tryz.func175, Tryz.ntmps175
  go_wp2_with fail
  go_loopw [1, 5] (fun l i w' => ∃ (j : Nat) (m : Int), j ≤ n ∧ i = .int .i64 j ∧ l = .int .i64 m ∧ Hid (m = k + (cN ((xs.take j).flatMap GWord.enc) : Nat)) ∧ 0 ≤ m ∧ T1 w' (.sl n (mkN ((xs.take j).flatMap GWord.enc) k ++ (xs.drop j).flatMap GWord.enc)) bs (.slice A n c) ∧ Onl bs w w' ∧ Own lo w' bs) (fun _ i _ => n - (intOf i).toNat)
  case atStart => exact ⟨0, k, Nat.zero_le _, rfl, rfl, Lib.hid (by simp [cN_nil]), hk0, by simpa [mkN_nil] using hx, Onl.refl _ _, ho⟩
  case round =>
    obtain ⟨j, m, hj, rfl, rfl, hm, hm0, ht, hon, hw⟩ := hrel
    by_cases hlt : j < n
    · obtain ⟨x, hxk, hsp, hll, hsn, hdr⟩ := flat_split GWord.enc 2 GWord.enc_len Hn hlt
      rw [hdr.out, List.flatMap_cons] at ht
      have hml : (mkN ((xs.take j).flatMap GWord.enc) k).length = j * 2 := by rw [mkN_len, hll]
      generalize hL : mkN ((xs.take j).flatMap GWord.enc) k = L at ht hml
      have HL := Lib.hid hL
      clear hL hll
      have hcx : Hid (cN (GWord.enc x) = 1 + 1) := by show cN [.v (.int .i64 x.tag), .v (.int .i64 x.at_)] = _; simp only [cN_cons, cD_v, cD_sl, cN_nil] <;> omega
      have hbd : m + 1 + 1 ≤ 4611686018427387904 := by
        have h1 := hm.out; have h2 := hkk.out; have h3 := hcx.out
        have h4 := hsp.out
        have h5 : cN (xs.flatMap GWord.enc) = cN ((xs.take j).flatMap GWord.enc) + (cN (GWord.enc x) + cN ((xs.drop (j + 1)).flatMap GWord.enc)) := by rw [h4, cN_append, cN_append]
        omega
      replace ht : T1 wr (.sl n (L ++ (.v (.int .i64 x.tag)) :: (.v (.int .i64 x.at_)) :: (xs.drop (j + 1)).flatMap GWord.enc)) bs (.slice A n c) := ht
      generalize hR : (xs.drop (j + 1)).flatMap GWord.enc = R at ht
      have HR := Lib.hid hR
      clear hR
      obtain ⟨b, off, rfl, -, hbm, hbl, hblo, hfz⟩ := ht.row hw
      have z0_0 : T1 wr (.sl n (L ++ (.v (.int .i64 x.tag)) :: (.v (.int .i64 x.at_)) :: R)) bs (.slice (some ⟨b, off, none⟩) n c) := by exact ht
      have y0_0 := (z0_0.leaf hw (o := off + j * 2) rfl (by simp only [List.length_append, List.length_cons, List.length_nil, hml] <;> omega)).1
      have z0_1 : T1 wr (.sl n ((L ++ [.v (.int .i64 x.tag)]) ++ (.v (.int .i64 x.at_)) :: R)) bs (.slice (some ⟨b, off, none⟩) n c) := by rw [List.append_assoc]; exact ht
      have y0_1 := (z0_1.leaf hw (o := off + j * 2 + 1) rfl (by simp only [List.length_append, List.length_cons, List.length_nil, hml] <;> omega)).1
      obtain ⟨t0, u0, v0⟩ := (ht.leaf hw (o := off + j * 2) rfl (by simp only [List.length_append, List.length_cons, List.length_nil, hml] <;> omega)).2 (.int .i64 m) rfl
      replace t0 : T1 (World.setCell wr ⟨b, off + j * 2, none⟩ (.int .i64 m)) (.sl n (L ++ (.v (.int .i64 m)) :: (.v (.int .i64 x.at_)) :: R)) bs (.slice (some ⟨b, off, none⟩) n c) := t0
      replace t0 : T1 (World.setCell wr ⟨b, off + j * 2, none⟩ (.int .i64 m)) (.sl n ((L ++ [.v (.int .i64 m)]) ++ (.v (.int .i64 x.at_)) :: R)) bs (.slice (some ⟨b, off, none⟩) n c) := by rw [List.append_assoc]; exact t0
      obtain ⟨t1, u1, v1⟩ := (t0.leaf v0 (o := off + j * 2 + 1) rfl (by simp only [List.length_append, List.length_cons, List.length_nil, hml] <;> omega)).2 (.int .i64 (m + 1)) rfl
      rw [List.append_assoc] at t1
      replace t1 : T1 (World.setCell (World.setCell wr ⟨b, off + j * 2, none⟩ (.int .i64 m)) ⟨b, off + j * 2 + 1, none⟩ (.int .i64 (m + 1))) (.sl n (L ++ (.v (.int .i64 m)) :: (.v (.int .i64 (m + 1))) :: R)) bs (.slice (some ⟨b, off, none⟩) n c) := t1
      clear z0_0 z0_1
      go_wp2_with fail
      have hmk : mkN (GWord.enc x) m = [.v (.int .i64 m), .v (.int .i64 (m + 1))] := by
        show mkN [.v (.int .i64 x.tag), .v (.int .i64 x.at_)] m = _
        simp only [mkN_cons, mkN_nil, mkD_int, mkD_sl, cD_v, cD_sl]
        all_goals (exact (cons_eq (vI_eq (by omega)) (cons_eq (vI_eq (by omega)) rfl)))
      have hfin : mkN ((xs.take (j + 1)).flatMap GWord.enc) k ++ (xs.drop (j + 1)).flatMap GWord.enc = L ++ (.v (.int .i64 m)) :: (.v (.int .i64 (m + 1))) :: R := by
        rw [hsn.out, mkN_append, HL.out, ← hm.out, hmk, List.append_assoc, HR.out]; rfl
      exact ⟨⟨j + 1, m + 1 + 1, by omega, by go_num, by first | rfl | go_num, Lib.hid (by rw [hsn.out, cN_append]; have h8 := hcx.out; have h9 := hm.out; omega), by omega, by rw [hfin]; exact t1, ((hon).trans u0).trans u1, v1⟩, by simp [intOf]; omega⟩
    · have : j = n := by omega
      subst this
      go_wp2_with fail
      go_ret
      have hl := Hn.out
      rw [List.take_of_length_le (by omega), List.drop_of_length_le (by omega)] at ht
      have hm' := hm.out
      rw [List.take_of_length_le (by omega)] at hm'
      exact ⟨m, rfl, hm', by simpa using ht, hon, hw⟩

set_option maxHeartbeats 4000000 in
theorem markCellS_any (xs : List GCell) (k : Int) {A : Option Addr} {c lo : Nat} {bs} (w : World) (hx : T1 w (.sl xs.length (xs.flatMap GCell.enc)) bs (.slice A xs.length c)) (ho : Own lo w bs) (hn' : xs.length ≤ maxLen) (hk0 : 0 ≤ k) (hk1 : k + (cN (xs.flatMap GCell.enc) : Nat) ≤ 4611686018427387904) :
    Calls Tryz.prog 138 #[.slice A xs.length c, .int .i64 k] w fun e w' => ∃ r : Int, e = .returned (.int .i64 r) ∧ Hid (r = k + (cN (xs.flatMap GCell.enc) : Nat)) ∧ T1 w' (.sl xs.length (mkN (xs.flatMap GCell.enc) k)) bs (.slice A xs.length c) ∧ Onl bs w w' ∧ Own lo w' bs := by
  unfold maxLen at hn'
  obtain ⟨n, hn⟩ : ∃ n, xs.length = n := ⟨_, rfl⟩
  rw [hn] at hx hn' ⊢
  have Hn : Hid (xs.length = n) := hn
  clear hn
  have hkk := Lib.hid hk1
  clear hk1
  go_enter Tryz.func138, Tryz.ntmps138
  go_wp2_with fail
  go_loopw [1, 5] (fun l i w' => ∃ (j : Nat) (m : Int), j ≤ n ∧ i = .int .i64 j ∧ l = .int .i64 m ∧ Hid (m = k + (cN ((xs.take j).flatMap GCell.enc) : Nat)) ∧ 0 ≤ m ∧ T1 w' (.sl n (mkN ((xs.take j).flatMap GCell.enc) k ++ (xs.drop j).flatMap GCell.enc)) bs (.slice A n c) ∧ Onl bs w w' ∧ Own lo w' bs) (fun _ i _ => n - (intOf i).toNat)
  case atStart => exact ⟨0, k, Nat.zero_le _, rfl, rfl, Lib.hid (by simp [cN_nil]), hk0, by simpa [mkN_nil] using hx, Onl.refl _ _, ho⟩
  case round =>
    obtain ⟨j, m, hj, rfl, rfl, hm, hm0, ht, hon, hw⟩ := hrel
    by_cases hlt : j < n
    · obtain ⟨x, hxk, hsp, hll, hsn, hdr⟩ := flat_split GCell.enc 5 GCell.enc_len Hn hlt
      rw [hdr.out, List.flatMap_cons] at ht
      have hml : (mkN ((xs.take j).flatMap GCell.enc) k).length = j * 5 := by rw [mkN_len, hll]
      generalize hL : mkN ((xs.take j).flatMap GCell.enc) k = L at ht hml
      have HL := Lib.hid hL
      clear hL hll
      have hcx : Hid (cN (GCell.enc x) = 1 + 1 + 1 + cN (x.data.flatMap intE) + cN (x.words.flatMap GWord.enc)) := by show cN [.v (.int .i64 x.kind), .v (.int .i64 x.level), .v (.int .i64 x.value), .sl x.data.length (x.data.flatMap intE), .sl x.words.length (x.words.flatMap GWord.enc)] = _; simp only [cN_cons, cD_v, cD_sl, cN_nil] <;> omega
      have hbd : m + 1 + 1 + 1 + (cN (x.data.flatMap intE) : Nat) + (cN (x.words.flatMap GWord.enc) : Nat) ≤ 4611686018427387904 := by
        have h1 := hm.out; have h2 := hkk.out; have h3 := hcx.out
        have h4 := hsp.out
        have h5 : cN (xs.flatMap GCell.enc) = cN ((xs.take j).flatMap GCell.enc) + (cN (GCell.enc x) + cN ((xs.drop (j + 1)).flatMap GCell.enc)) := by rw [h4, cN_append, cN_append]
        omega
      replace ht : T1 wr (.sl n (L ++ (.v (.int .i64 x.kind)) :: (.v (.int .i64 x.level)) :: (.v (.int .i64 x.value)) :: (.sl x.data.length (x.data.flatMap intE)) :: (.sl x.words.length (x.words.flatMap GWord.enc)) :: (xs.drop (j + 1)).flatMap GCell.enc)) bs (.slice A n c) := ht
      generalize hR : (xs.drop (j + 1)).flatMap GCell.enc = R at ht
      have HR := Lib.hid hR
      clear hR
      obtain ⟨b, off, rfl, -, hbm, hbl, hblo, hfz⟩ := ht.row hw
      have z0_0 : T1 wr (.sl n (L ++ (.v (.int .i64 x.kind)) :: (.v (.int .i64 x.level)) :: (.v (.int .i64 x.value)) :: (.sl x.data.length (x.data.flatMap intE)) :: (.sl x.words.length (x.words.flatMap GWord.enc)) :: R)) bs (.slice (some ⟨b, off, none⟩) n c) := by exact ht
      have y0_0 := (z0_0.leaf hw (o := off + j * 5) rfl (by simp only [List.length_append, List.length_cons, List.length_nil, hml] <;> omega)).1
      have z0_1 : T1 wr (.sl n ((L ++ [.v (.int .i64 x.kind)]) ++ (.v (.int .i64 x.level)) :: (.v (.int .i64 x.value)) :: (.sl x.data.length (x.data.flatMap intE)) :: (.sl x.words.length (x.words.flatMap GWord.enc)) :: R)) bs (.slice (some ⟨b, off, none⟩) n c) := by rw [List.append_assoc]; exact ht
      have y0_1 := (z0_1.leaf hw (o := off + j * 5 + 1) rfl (by simp only [List.length_append, List.length_cons, List.length_nil, hml] <;> omega)).1
      have z0_2 : T1 wr (.sl n ((L ++ [.v (.int .i64 x.kind), .v (.int .i64 x.level)]) ++ (.v (.int .i64 x.value)) :: (.sl x.data.length (x.data.flatMap intE)) :: (.sl x.words.length (x.words.flatMap GWord.enc)) :: R)) bs (.slice (some ⟨b, off, none⟩) n c) := by rw [List.append_assoc]; exact ht
      have y0_2 := (z0_2.leaf hw (o := off + j * 5 + 2) rfl (by simp only [List.length_append, List.length_cons, List.length_nil, hml] <;> omega)).1
      have z0_3 : T1 wr (.sl n ((L ++ [.v (.int .i64 x.kind), .v (.int .i64 x.level), .v (.int .i64 x.value)]) ++ (.sl x.data.length (x.data.flatMap intE)) :: (.sl x.words.length (x.words.flatMap GWord.enc)) :: R)) bs (.slice (some ⟨b, off, none⟩) n c) := by rw [List.append_assoc]; exact ht
      obtain ⟨A0_3, c0_3, b0_3, y0_3, -⟩ := z0_3.sub hw (o := off + j * 5 + 3) rfl (by simp only [List.length_append, List.length_cons, List.length_nil, hml] <;> omega)
      obtain ⟨t0, u0, v0⟩ := (ht.leaf hw (o := off + j * 5) rfl (by simp only [List.length_append, List.length_cons, List.length_nil, hml] <;> omega)).2 (.int .i64 m) rfl
      replace t0 : T1 (World.setCell wr ⟨b, off + j * 5, none⟩ (.int .i64 m)) (.sl n (L ++ (.v (.int .i64 m)) :: (.v (.int .i64 x.level)) :: (.v (.int .i64 x.value)) :: (.sl x.data.length (x.data.flatMap intE)) :: (.sl x.words.length (x.words.flatMap GWord.enc)) :: R)) bs (.slice (some ⟨b, off, none⟩) n c) := t0
      replace t0 : T1 (World.setCell wr ⟨b, off + j * 5, none⟩ (.int .i64 m)) (.sl n ((L ++ [.v (.int .i64 m)]) ++ (.v (.int .i64 x.level)) :: (.v (.int .i64 x.value)) :: (.sl x.data.length (x.data.flatMap intE)) :: (.sl x.words.length (x.words.flatMap GWord.enc)) :: R)) bs (.slice (some ⟨b, off, none⟩) n c) := by rw [List.append_assoc]; exact t0
      obtain ⟨t1, u1, v1⟩ := (t0.leaf v0 (o := off + j * 5 + 1) rfl (by simp only [List.length_append, List.length_cons, List.length_nil, hml] <;> omega)).2 (.int .i64 (m + 1)) rfl
      rw [List.append_assoc] at t1
      replace t1 : T1 (World.setCell (World.setCell wr ⟨b, off + j * 5, none⟩ (.int .i64 m)) ⟨b, off + j * 5 + 1, none⟩ (.int .i64 (m + 1))) (.sl n (L ++ (.v (.int .i64 m)) :: (.v (.int .i64 (m + 1))) :: (.v (.int .i64 x.value)) :: (.sl x.data.length (x.data.flatMap intE)) :: (.sl x.words.length (x.words.flatMap GWord.enc)) :: R)) bs (.slice (some ⟨b, off, none⟩) n c) := t1
      replace t1 : T1 (World.setCell (World.setCell wr ⟨b, off + j * 5, none⟩ (.int .i64 m)) ⟨b, off + j * 5 + 1, none⟩ (.int .i64 (m + 1))) (.sl n ((L ++ [.v (.int .i64 m), .v (.int .i64 (m + 1))]) ++ (.v (.int .i64 x.value)) :: (.sl x.data.length (x.data.flatMap intE)) :: (.sl x.words.length (x.words.flatMap GWord.enc)) :: R)) bs (.slice (some ⟨b, off, none⟩) n c) := by rw [List.append_assoc]; exact t1
      obtain ⟨t2, u2, v2⟩ := (t1.leaf v1 (o := off + j * 5 + 2) rfl (by simp only [List.length_append, List.length_cons, List.length_nil, hml] <;> omega)).2 (.int .i64 (m + 1 + 1)) rfl
      rw [List.append_assoc] at t2
      replace t2 : T1 (World.setCell (World.setCell (World.setCell wr ⟨b, off + j * 5, none⟩ (.int .i64 m)) ⟨b, off + j * 5 + 1, none⟩ (.int .i64 (m + 1))) ⟨b, off + j * 5 + 2, none⟩ (.int .i64 (m + 1 + 1))) (.sl n (L ++ (.v (.int .i64 m)) :: (.v (.int .i64 (m + 1))) :: (.v (.int .i64 (m + 1 + 1))) :: (.sl x.data.length (x.data.flatMap intE)) :: (.sl x.words.length (x.words.flatMap GWord.enc)) :: R)) bs (.slice (some ⟨b, off, none⟩) n c) := t2
      have g3 : T1 (World.setCell (World.setCell (World.setCell wr ⟨b, off + j * 5, none⟩ (.int .i64 m)) ⟨b, off + j * 5 + 1, none⟩ (.int .i64 (m + 1))) ⟨b, off + j * 5 + 2, none⟩ (.int .i64 (m + 1 + 1))) (.sl n ((L ++ [.v (.int .i64 m), .v (.int .i64 (m + 1)), .v (.int .i64 (m + 1 + 1))]) ++ (.sl x.data.length (x.data.flatMap intE)) :: (.sl x.words.length (x.words.flatMap GWord.enc)) :: R)) bs (.slice (some ⟨b, off, none⟩) n c) := by rw [List.append_assoc]; exact t2
      obtain ⟨A3, c3, b3, k3, s3, n3, o3, nb3, back3⟩ := g3.sub v2 (o := off + j * 5 + 3) rfl (by simp only [List.length_append, List.length_cons, List.length_nil, hml] <;> omega)
      obtain ⟨rfl, rfl⟩ : A0_3 = A3 ∧ c0_3 = c3 := by
        have hh := k3
        rw [cell_setCell_off _ _ _ _ _ (by omega)] at hh; rw [cell_setCell_off _ _ _ _ _ (by omega)] at hh; rw [cell_setCell_off _ _ _ _ _ (by omega)] at hh; rw [y0_3] at hh; simpa using hh
      clear k3
      have HB3 := Lib.hid back3
      clear back3 g3
      clear z0_0 z0_1 z0_2 z0_3
      go_wp2_with fail
      refine (markInt64S_any x.data (m + 1 + 1 + 1) _ s3 o3 n3 (by omega) (by omega)).mono ?_
      rintro _ W1 ⟨r1, rfl, hr1, q3, f3, -⟩
      obtain ⟨t3, u3, v3⟩ := HB3.out W1 _ f3 q3
      have p1 : 0 ≤ r1 := by have := hr1.out; omega
      have l1 : r1 + (cN (x.words.flatMap GWord.enc) : Nat) ≤ 4611686018427387904 := by have := hr1.out; omega
      rw [List.append_assoc] at t3
      replace t3 : T1 W1 (.sl n (L ++ (.v (.int .i64 m)) :: (.v (.int .i64 (m + 1))) :: (.v (.int .i64 (m + 1 + 1))) :: (.sl x.data.length (mkN (x.data.flatMap intE) (m + 1 + 1 + 1))) :: (.sl x.words.length (x.words.flatMap GWord.enc)) :: R)) bs (.slice (some ⟨b, off, none⟩) n c) := t3
      have hfz1 : ∀ o, World.frozen? W1 ⟨b, o, none⟩ = false := fun o => (by obtain ⟨_, cur, tt, hrow⟩ := v3.2 b hbm; simp [World.frozen?, hrow])
      have z1_4 : T1 W1 (.sl n ((L ++ [.v (.int .i64 m), .v (.int .i64 (m + 1)), .v (.int .i64 (m + 1 + 1)), .sl x.data.length (mkN (x.data.flatMap intE) (m + 1 + 1 + 1))]) ++ (.sl x.words.length (x.words.flatMap GWord.enc)) :: R)) bs (.slice (some ⟨b, off, none⟩) n c) := by rw [List.append_assoc]; exact t3
      obtain ⟨A1_4, c1_4, b1_4, y1_4, -⟩ := z1_4.sub v3 (o := off + j * 5 + 4) rfl (by simp only [List.length_append, List.length_cons, List.length_nil, hml] <;> omega)
      have g4 : T1 W1 (.sl n ((L ++ [.v (.int .i64 m), .v (.int .i64 (m + 1)), .v (.int .i64 (m + 1 + 1)), .sl x.data.length (mkN (x.data.flatMap intE) (m + 1 + 1 + 1))]) ++ (.sl x.words.length (x.words.flatMap GWord.enc)) :: R)) bs (.slice (some ⟨b, off, none⟩) n c) := by rw [List.append_assoc]; exact t3
      obtain ⟨A4, c4, b4, k4, s4, n4, o4, nb4, back4⟩ := g4.sub v3 (o := off + j * 5 + 4) rfl (by simp only [List.length_append, List.length_cons, List.length_nil, hml] <;> omega)
      obtain ⟨rfl, rfl⟩ : A1_4 = A4 ∧ c1_4 = c4 := by
        have hh := k4
        rw [y1_4] at hh; simpa using hh
      clear k4
      have HB4 := Lib.hid back4
      clear back4 g4
      clear z1_4
      go_wp2_with fail
      refine (markWordS_any x.words (r1) _ s4 o4 n4 (by omega) (by omega)).mono ?_
      rintro _ W2 ⟨r2, rfl, hr2, q4, f4, -⟩
      obtain ⟨t4, u4, v4⟩ := HB4.out W2 _ f4 q4
      have p2 : 0 ≤ r2 := by have := hr2.out; omega
      have l2 : r2 + 0 ≤ 4611686018427387904 := by have := hr2.out; omega
      rw [List.append_assoc] at t4
      replace t4 : T1 W2 (.sl n (L ++ (.v (.int .i64 m)) :: (.v (.int .i64 (m + 1))) :: (.v (.int .i64 (m + 1 + 1))) :: (.sl x.data.length (mkN (x.data.flatMap intE) (m + 1 + 1 + 1))) :: (.sl x.words.length (mkN (x.words.flatMap GWord.enc) (r1))) :: R)) bs (.slice (some ⟨b, off, none⟩) n c) := t4
      go_wp2_with fail
      have hmk : mkN (GCell.enc x) m = [.v (.int .i64 m), .v (.int .i64 (m + 1)), .v (.int .i64 (m + 1 + 1)), .sl x.data.length (mkN (x.data.flatMap intE) (m + 1 + 1 + 1)), .sl x.words.length (mkN (x.words.flatMap GWord.enc) (r1))] := by
        show mkN [.v (.int .i64 x.kind), .v (.int .i64 x.level), .v (.int .i64 x.value), .sl x.data.length (x.data.flatMap intE), .sl x.words.length (x.words.flatMap GWord.enc)] m = _
        simp only [mkN_cons, mkN_nil, mkD_int, mkD_sl, cD_v, cD_sl]
        all_goals (have h1 := hr1.out; have h2 := hr2.out; exact (cons_eq (vI_eq (by omega)) (cons_eq (vI_eq (by omega)) (cons_eq (vI_eq (by omega)) (cons_eq (slK_eq (by omega)) (cons_eq (slK_eq (by omega)) rfl))))))
      have hfin : mkN ((xs.take (j + 1)).flatMap GCell.enc) k ++ (xs.drop (j + 1)).flatMap GCell.enc = L ++ (.v (.int .i64 m)) :: (.v (.int .i64 (m + 1))) :: (.v (.int .i64 (m + 1 + 1))) :: (.sl x.data.length (mkN (x.data.flatMap intE) (m + 1 + 1 + 1))) :: (.sl x.words.length (mkN (x.words.flatMap GWord.enc) (r1))) :: R := by
        rw [hsn.out, mkN_append, HL.out, ← hm.out, hmk, List.append_assoc, HR.out]; rfl
      exact ⟨⟨j + 1, r2, by omega, by go_num, by first | rfl | go_num, Lib.hid (by rw [hsn.out, cN_append]; have h1 := hr1.out; have h2 := hr2.out; have h8 := hcx.out; have h9 := hm.out; omega), by omega, by rw [hfin]; exact t4, (((((hon).trans u0).trans u1).trans u2).trans u3).trans u4, v4⟩, by simp [intOf]; omega⟩
    · have : j = n := by omega
      subst this
      go_wp2_with fail
      go_ret
      have hl := Hn.out
      rw [List.take_of_length_le (by omega), List.drop_of_length_le (by omega)] at ht
      have hm' := hm.out
      rw [List.take_of_length_le (by omega)] at hm'
      exact ⟨m, rfl, hm', by simpa using ht, hon, hw⟩

set_option maxHeartbeats 4000000 in
theorem markPairS_any (xs : List GPair) (k : Int) {A : Option Addr} {c lo : Nat} {bs} (w : World) (hx : T1 w (.sl xs.length (xs.flatMap GPair.enc)) bs (.slice A xs.length c)) (ho : Own lo w bs) (hn' : xs.length ≤ maxLen) (hk0 : 0 ≤ k) (hk1 : k + (cN (xs.flatMap GPair.enc) : Nat) ≤ 4611686018427387904) :
    Calls Tryz.prog 139 #[.slice A xs.length c, .int .i64 k] w fun e w' => ∃ r : Int, e = .returned (.int .i64 r) ∧ Hid (r = k + (cN (xs.flatMap GPair.enc) : Nat)) ∧ T1 w' (.sl xs.length (mkN (xs.flatMap GPair.enc) k)) bs (.slice A xs.length c) ∧ Onl bs w w' ∧ Own lo w' bs := by
  unfold maxLen at hn'
  obtain ⟨n, hn⟩ : ∃ n, xs.length = n := ⟨_, rfl⟩
  rw [hn] at hx hn' ⊢
  have Hn : Hid (xs.length = n) := hn
  clear hn
  have hkk := Lib.hid hk1
  clear hk1
  go_enter Tryz.func139, Tryz.ntmps139
  go_wp2_with fail
  go_loopw [1, 5] (fun l i w' => ∃ (j : Nat) (m : Int), j ≤ n ∧ i = .int .i64 j ∧ l = .int .i64 m ∧ Hid (m = k + (cN ((xs.take j).flatMap GPair.enc) : Nat)) ∧ 0 ≤ m ∧ T1 w' (.sl n (mkN ((xs.take j).flatMap GPair.enc) k ++ (xs.drop j).flatMap GPair.enc)) bs (.slice A n c) ∧ Onl bs w w' ∧ Own lo w' bs) (fun _ i _ => n - (intOf i).toNat)
  case atStart => exact ⟨0, k, Nat.zero_le _, rfl, rfl, Lib.hid (by simp [cN_nil]), hk0, by simpa [mkN_nil] using hx, Onl.refl _ _, ho⟩
  case round =>
    obtain ⟨j, m, hj, rfl, rfl, hm, hm0, ht, hon, hw⟩ := hrel
    by_cases hlt : j < n
    · obtain ⟨x, hxk, hsp, hll, hsn, hdr⟩ := flat_split GPair.enc 2 GPair.enc_len Hn hlt
      rw [hdr.out, List.flatMap_cons] at ht
      have hml : (mkN ((xs.take j).flatMap GPair.enc) k).length = j * 2 := by rw [mkN_len, hll]
      generalize hL : mkN ((xs.take j).flatMap GPair.enc) k = L at ht hml
      have HL := Lib.hid hL
      clear hL hll
      have hcx : Hid (cN (GPair.enc x) = 1 + 1) := by show cN [.v (.int .i64 x.a), .v (.int .i64 x.b)] = _; simp only [cN_cons, cD_v, cD_sl, cN_nil] <;> omega
      have hbd : m + 1 + 1 ≤ 4611686018427387904 := by
        have h1 := hm.out; have h2 := hkk.out; have h3 := hcx.out
        have h4 := hsp.out
        have h5 : cN (xs.flatMap GPair.enc) = cN ((xs.take j).flatMap GPair.enc) + (cN (GPair.enc x) + cN ((xs.drop (j + 1)).flatMap GPair.enc)) := by rw [h4, cN_append, cN_append]
        omega
      replace ht : T1 wr (.sl n (L ++ (.v (.int .i64 x.a)) :: (.v (.int .i64 x.b)) :: (xs.drop (j + 1)).flatMap GPair.enc)) bs (.slice A n c) := ht
      generalize hR : (xs.drop (j + 1)).flatMap GPair.enc = R at ht
      have HR := Lib.hid hR
      clear hR
      obtain ⟨b, off, rfl, -, hbm, hbl, hblo, hfz⟩ := ht.row hw
      have z0_0 : T1 wr (.sl n (L ++ (.v (.int .i64 x.a)) :: (.v (.int .i64 x.b)) :: R)) bs (.slice (some ⟨b, off, none⟩) n c) := by exact ht
      have y0_0 := (z0_0.leaf hw (o := off + j * 2) rfl (by simp only [List.length_append, List.length_cons, List.length_nil, hml] <;> omega)).1
      have z0_1 : T1 wr (.sl n ((L ++ [.v (.int .i64 x.a)]) ++ (.v (.int .i64 x.b)) :: R)) bs (.slice (some ⟨b, off, none⟩) n c) := by rw [List.append_assoc]; exact ht
      have y0_1 := (z0_1.leaf hw (o := off + j * 2 + 1) rfl (by simp only [List.length_append, List.length_cons, List.length_nil, hml] <;> omega)).1
      obtain ⟨t0, u0, v0⟩ := (ht.leaf hw (o := off + j * 2) rfl (by simp only [List.length_append, List.length_cons, List.length_nil, hml] <;> omega)).2 (.int .i64 m) rfl
      replace t0 : T1 (World.setCell wr ⟨b, off + j * 2, none⟩ (.int .i64 m)) (.sl n (L ++ (.v (.int .i64 m)) :: (.v (.int .i64 x.b)) :: R)) bs (.slice (some ⟨b, off, none⟩) n c) := t0
      replace t0 : T1 (World.setCell wr ⟨b, off + j * 2, none⟩ (.int .i64 m)) (.sl n ((L ++ [.v (.int .i64 m)]) ++ (.v (.int .i64 x.b)) :: R)) bs (.slice (some ⟨b, off, none⟩) n c) := by rw [List.append_assoc]; exact t0
      obtain ⟨t1, u1, v1⟩ := (t0.leaf v0 (o := off + j * 2 + 1) rfl (by simp only [List.length_append, List.length_cons, List.length_nil, hml] <;> omega)).2 (.int .i64 (m + 1)) rfl
      rw [List.append_assoc] at t1
      replace t1 : T1 (World.setCell (World.setCell wr ⟨b, off + j * 2, none⟩ (.int .i64 m)) ⟨b, off + j * 2 + 1, none⟩ (.int .i64 (m + 1))) (.sl n (L ++ (.v (.int .i64 m)) :: (.v (.int .i64 (m + 1))) :: R)) bs (.slice (some ⟨b, off, none⟩) n c) := t1
      clear z0_0 z0_1
      go_wp2_with fail
      have hmk : mkN (GPair.enc x) m = [.v (.int .i64 m), .v (.int .i64 (m + 1))] := by
        show mkN [.v (.int .i64 x.a), .v (.int .i64 x.b)] m = _
        simp only [mkN_cons, mkN_nil, mkD_int, mkD_sl, cD_v, cD_sl]
        all_goals (exact (cons_eq (vI_eq (by omega)) (cons_eq (vI_eq (by omega)) rfl)))
      have hfin : mkN ((xs.take (j + 1)).flatMap GPair.enc) k ++ (xs.drop (j + 1)).flatMap GPair.enc = L ++ (.v (.int .i64 m)) :: (.v (.int .i64 (m + 1))) :: R := by
        rw [hsn.out, mkN_append, HL.out, ← hm.out, hmk, List.append_assoc, HR.out]; rfl
      exact ⟨⟨j + 1, m + 1 + 1, by omega, by go_num, by first | rfl | go_num, Lib.hid (by rw [hsn.out, cN_append]; have h8 := hcx.out; have h9 := hm.out; omega), by omega, by rw [hfin]; exact t1, ((hon).trans u0).trans u1, v1⟩, by simp [intOf]; omega⟩
    · have : j = n := by omega
      subst this
      go_wp2_with fail
      go_ret
      have hl := Hn.out
      rw [List.take_of_length_le (by omega), List.drop_of_length_le (by omega)] at ht
      have hm' := hm.out
      rw [List.take_of_length_le (by omega)] at hm'
      exact ⟨m, rfl, hm', by simpa using ht, hon, hw⟩

set_option maxHeartbeats 4000000 in
theorem markMemory_any (x : GMemory) (k : Int) {bs us} {lo : Nat} (w : World) (hx : TN w x.enc bs us) (ho : Own lo w bs) (hk0 : 0 ≤ k) (hk1 : k + (x.cnt : Nat) ≤ 4611686018427387904) :
    Calls Tryz.prog 78 #[.agg us.toArray, .int .i64 k] w fun e w' => ∃ r : Int, e = .returned (.int .i64 r) ∧ Hid (r = k + (x.cnt : Nat)) ∧ TN w' (x.mked k) bs us ∧ Onl bs w w' ∧ Own lo w' bs := by
  have hlt := hx.lt
  obtain ⟨A0, c0, b0, A4, c4, b4, rfl, rfl, t0, l0, m0, t4, l4, m4⟩ := GMemory.us hx
  obtain ⟨o0, o4, d4⟩ := Own.parts ho
  have e0_4 : ∀ y ∈ b0, y ∉ b4 := fun y hm => d4 y hm
  have g0 : w.heap.size ∉ b0 := fun hm => by have := hlt _ (show w.heap.size ∈ b0 ++ b4 by simp [hm]); omega
  have g4 : w.heap.size ∉ b4 := fun hm => by have := hlt _ (show w.heap.size ∈ b0 ++ b4 by simp [hm]); omega
  have B0 : ∀ S, Below w.heap.size w (w.alloc S) := fun _ => (Below.refl _ _).alloc (Nat.le_refl _) _
  have hcn : x.cnt = cN (x.cells.flatMap GCell.enc) + cN (x.redexes.flatMap GPair.enc) := rfl
  rw [hcn] at hk1
  clear hcn hx
  go_enter Tryz.func78, Tryz.ntmps78
  go_wp2_with fail
  refine (markCellS_any x.cells k _ (t0.below (B0 _)) (o0.below (B0 _)) (Nat.le_trans l0 m0) (by omega) (by omega)).mono ?_
  rintro _ w1 ⟨r1, rfl, hr1, S0, f1, V0⟩
  have p1 : 0 ≤ r1 := by have := hr1.out; omega
  have b1_ : r1 + (cN (x.redexes.flatMap GPair.enc) : Nat) ≤ 4611686018427387904 := by have := hr1.out; omega
  have u1 := (f1.other w.heap.size (by simp) g0).trans (heap_alloc_new w _)
  have z1 : w.heap.size < w1.heap.size := by have := f1.size; simp at this; omega
  have F1 : Onl (b0 ++ b4) w w1 := Onl.trans (Onl.of_ext (B0 _)) (f1.sub (fun y hy => by first | exact hy | (simp at hy ⊢; grind)))
  have q1_0 := cell_of_row _ _ 0 _ _ _ u1
  have q1_1 := cell_of_row _ _ 1 _ _ _ u1
  have q1_2 := cell_of_row _ _ 2 _ _ _ u1
  have q1_3 := cell_of_row _ _ 3 _ _ _ u1
  have q1_4 := cell_of_row _ _ 4 _ _ _ u1
  simp only [List.getElem?_toArray, List.getElem?_cons_zero, List.getElem?_cons_succ] at q1_0 q1_1 q1_2 q1_3 q1_4
  replace t4 := T1.onl (t4.below (B0 _)) f1 (fun y hy hm => e0_4 y hm hy)
  replace o4 := (o4.below (B0 _)).onl f1
  go_wp2_with fail
  refine (markPairS_any x.redexes r1 _ t4 o4 (Nat.le_trans l4 m4) (by omega) (by omega)).mono ?_
  rintro _ w2 ⟨r2, rfl, hr2, S1, f2, V1⟩
  have p2 : 0 ≤ r2 := by have := hr2.out; omega
  have b2_ : r2 + 0 ≤ 4611686018427387904 := by have := hr2.out; omega
  have u2 := (f2.other w.heap.size z1 g4).trans u1
  have z2 : w.heap.size < w2.heap.size := by have := f2.size; omega
  have F2 := F1.trans (f2.sub (cs := b0 ++ b4) (fun y hy => by first | exact hy | (simp at hy ⊢; grind)))
  clear q1_0 q1_1 q1_2 q1_3 q1_4 u1
  have q2_0 := cell_of_row _ _ 0 _ _ _ u2
  have q2_1 := cell_of_row _ _ 1 _ _ _ u2
  have q2_2 := cell_of_row _ _ 2 _ _ _ u2
  have q2_3 := cell_of_row _ _ 3 _ _ _ u2
  have q2_4 := cell_of_row _ _ 4 _ _ _ u2
  simp only [List.getElem?_toArray, List.getElem?_cons_zero, List.getElem?_cons_succ] at q2_0 q2_1 q2_2 q2_3 q2_4
  replace S0 := T1.onl S0 f2 e0_4
  go_wp2_with fail
  go_ret
  refine ⟨r2, rfl, ?_, ?_, F2, ho.onl F2⟩
  · show _ = _
    have hcn : x.cnt = cN (x.cells.flatMap GCell.enc) + cN (x.redexes.flatMap GPair.enc) := rfl
    have h1 := hr1.out; have h2 := hr2.out; omega
  · have h1 := hr1.out; have h2 := hr2.out; skip
    rw [show r1 = k + (cN (x.cells.flatMap GCell.enc) : Nat) from by omega] at S1
    have h := (TN.append.2 ⟨_, _, _, _, rfl, rfl, (TN.sl_mk S0 TN.done), (TN.append.2 ⟨_, _, _, _, rfl, rfl, (TN.v_mk (x := .int .i64 x.free) rfl TN.done), (TN.append.2 ⟨_, _, _, _, rfl, rfl, (TN.v_mk (x := .int .i64 x.root.tag) rfl TN.done), (TN.append.2 ⟨_, _, _, _, rfl, rfl, (TN.v_mk (x := .int .i64 x.root.at_) rfl TN.done), (TN.sl_mk S1 TN.done)⟩)⟩)⟩)⟩)
    simp only [List.append_nil, List.nil_append, List.append_assoc, List.cons_append] at h
    unfold GMemory.mked
    simpa only [List.append_nil, List.nil_append, List.append_assoc, List.cons_append] using h

set_option maxHeartbeats 4000000 in
theorem markLinkS_any (xs : List GLink) (k : Int) {A : Option Addr} {c lo : Nat} {bs} (w : World) (hx : T1 w (.sl xs.length (xs.flatMap GLink.enc)) bs (.slice A xs.length c)) (ho : Own lo w bs) (hn' : xs.length ≤ maxLen) (hk0 : 0 ≤ k) (hk1 : k + (cN (xs.flatMap GLink.enc) : Nat) ≤ 4611686018427387904) :
    Calls Tryz.prog 140 #[.slice A xs.length c, .int .i64 k] w fun e w' => ∃ r : Int, e = .returned (.int .i64 r) ∧ Hid (r = k + (cN (xs.flatMap GLink.enc) : Nat)) ∧ T1 w' (.sl xs.length (mkN (xs.flatMap GLink.enc) k)) bs (.slice A xs.length c) ∧ Onl bs w w' ∧ Own lo w' bs := by
  unfold maxLen at hn'
  obtain ⟨n, hn⟩ : ∃ n, xs.length = n := ⟨_, rfl⟩
  rw [hn] at hx hn' ⊢
  have Hn : Hid (xs.length = n) := hn
  clear hn
  have hkk := Lib.hid hk1
  clear hk1
  go_enter Tryz.func140, Tryz.ntmps140
  go_wp2_with fail
  go_loopw [1, 5] (fun l i w' => ∃ (j : Nat) (m : Int), j ≤ n ∧ i = .int .i64 j ∧ l = .int .i64 m ∧ Hid (m = k + (cN ((xs.take j).flatMap GLink.enc) : Nat)) ∧ 0 ≤ m ∧ T1 w' (.sl n (mkN ((xs.take j).flatMap GLink.enc) k ++ (xs.drop j).flatMap GLink.enc)) bs (.slice A n c) ∧ Onl bs w w' ∧ Own lo w' bs) (fun _ i _ => n - (intOf i).toNat)
  case atStart => exact ⟨0, k, Nat.zero_le _, rfl, rfl, Lib.hid (by simp [cN_nil]), hk0, by simpa [mkN_nil] using hx, Onl.refl _ _, ho⟩
  case round =>
    obtain ⟨j, m, hj, rfl, rfl, hm, hm0, ht, hon, hw⟩ := hrel
    by_cases hlt : j < n
    · obtain ⟨x, hxk, hsp, hll, hsn, hdr⟩ := flat_split GLink.enc 4 GLink.enc_len Hn hlt
      rw [hdr.out, List.flatMap_cons] at ht
      have hml : (mkN ((xs.take j).flatMap GLink.enc) k).length = j * 4 := by rw [mkN_len, hll]
      generalize hL : mkN ((xs.take j).flatMap GLink.enc) k = L at ht hml
      have HL := Lib.hid hL
      clear hL hll
      have hcx : Hid (cN (GLink.enc x) = 1 + 1 + 1 + 1) := by show cN [.v (.int .i64 x.a.tag), .v (.int .i64 x.a.at_), .v (.int .i64 x.b.tag), .v (.int .i64 x.b.at_)] = _; simp only [cN_cons, cD_v, cD_sl, cN_nil] <;> omega
      have hbd : m + 1 + 1 + 1 + 1 ≤ 4611686018427387904 := by
        have h1 := hm.out; have h2 := hkk.out; have h3 := hcx.out
        have h4 := hsp.out
        have h5 : cN (xs.flatMap GLink.enc) = cN ((xs.take j).flatMap GLink.enc) + (cN (GLink.enc x) + cN ((xs.drop (j + 1)).flatMap GLink.enc)) := by rw [h4, cN_append, cN_append]
        omega
      replace ht : T1 wr (.sl n (L ++ (.v (.int .i64 x.a.tag)) :: (.v (.int .i64 x.a.at_)) :: (.v (.int .i64 x.b.tag)) :: (.v (.int .i64 x.b.at_)) :: (xs.drop (j + 1)).flatMap GLink.enc)) bs (.slice A n c) := ht
      generalize hR : (xs.drop (j + 1)).flatMap GLink.enc = R at ht
      have HR := Lib.hid hR
      clear hR
      obtain ⟨b, off, rfl, -, hbm, hbl, hblo, hfz⟩ := ht.row hw
      have z0_0 : T1 wr (.sl n (L ++ (.v (.int .i64 x.a.tag)) :: (.v (.int .i64 x.a.at_)) :: (.v (.int .i64 x.b.tag)) :: (.v (.int .i64 x.b.at_)) :: R)) bs (.slice (some ⟨b, off, none⟩) n c) := by exact ht
      have y0_0 := (z0_0.leaf hw (o := off + j * 4) rfl (by simp only [List.length_append, List.length_cons, List.length_nil, hml] <;> omega)).1
      have z0_1 : T1 wr (.sl n ((L ++ [.v (.int .i64 x.a.tag)]) ++ (.v (.int .i64 x.a.at_)) :: (.v (.int .i64 x.b.tag)) :: (.v (.int .i64 x.b.at_)) :: R)) bs (.slice (some ⟨b, off, none⟩) n c) := by rw [List.append_assoc]; exact ht
      have y0_1 := (z0_1.leaf hw (o := off + j * 4 + 1) rfl (by simp only [List.length_append, List.length_cons, List.length_nil, hml] <;> omega)).1
      have z0_2 : T1 wr (.sl n ((L ++ [.v (.int .i64 x.a.tag), .v (.int .i64 x.a.at_)]) ++ (.v (.int .i64 x.b.tag)) :: (.v (.int .i64 x.b.at_)) :: R)) bs (.slice (some ⟨b, off, none⟩) n c) := by rw [List.append_assoc]; exact ht
      have y0_2 := (z0_2.leaf hw (o := off + j * 4 + 2) rfl (by simp only [List.length_append, List.length_cons, List.length_nil, hml] <;> omega)).1
      have z0_3 : T1 wr (.sl n ((L ++ [.v (.int .i64 x.a.tag), .v (.int .i64 x.a.at_), .v (.int .i64 x.b.tag)]) ++ (.v (.int .i64 x.b.at_)) :: R)) bs (.slice (some ⟨b, off, none⟩) n c) := by rw [List.append_assoc]; exact ht
      have y0_3 := (z0_3.leaf hw (o := off + j * 4 + 3) rfl (by simp only [List.length_append, List.length_cons, List.length_nil, hml] <;> omega)).1
      obtain ⟨t0, u0, v0⟩ := (ht.leaf hw (o := off + j * 4) rfl (by simp only [List.length_append, List.length_cons, List.length_nil, hml] <;> omega)).2 (.int .i64 m) rfl
      replace t0 : T1 (World.setCell wr ⟨b, off + j * 4, none⟩ (.int .i64 m)) (.sl n (L ++ (.v (.int .i64 m)) :: (.v (.int .i64 x.a.at_)) :: (.v (.int .i64 x.b.tag)) :: (.v (.int .i64 x.b.at_)) :: R)) bs (.slice (some ⟨b, off, none⟩) n c) := t0
      replace t0 : T1 (World.setCell wr ⟨b, off + j * 4, none⟩ (.int .i64 m)) (.sl n ((L ++ [.v (.int .i64 m)]) ++ (.v (.int .i64 x.a.at_)) :: (.v (.int .i64 x.b.tag)) :: (.v (.int .i64 x.b.at_)) :: R)) bs (.slice (some ⟨b, off, none⟩) n c) := by rw [List.append_assoc]; exact t0
      obtain ⟨t1, u1, v1⟩ := (t0.leaf v0 (o := off + j * 4 + 1) rfl (by simp only [List.length_append, List.length_cons, List.length_nil, hml] <;> omega)).2 (.int .i64 (m + 1)) rfl
      rw [List.append_assoc] at t1
      replace t1 : T1 (World.setCell (World.setCell wr ⟨b, off + j * 4, none⟩ (.int .i64 m)) ⟨b, off + j * 4 + 1, none⟩ (.int .i64 (m + 1))) (.sl n (L ++ (.v (.int .i64 m)) :: (.v (.int .i64 (m + 1))) :: (.v (.int .i64 x.b.tag)) :: (.v (.int .i64 x.b.at_)) :: R)) bs (.slice (some ⟨b, off, none⟩) n c) := t1
      replace t1 : T1 (World.setCell (World.setCell wr ⟨b, off + j * 4, none⟩ (.int .i64 m)) ⟨b, off + j * 4 + 1, none⟩ (.int .i64 (m + 1))) (.sl n ((L ++ [.v (.int .i64 m), .v (.int .i64 (m + 1))]) ++ (.v (.int .i64 x.b.tag)) :: (.v (.int .i64 x.b.at_)) :: R)) bs (.slice (some ⟨b, off, none⟩) n c) := by rw [List.append_assoc]; exact t1
      obtain ⟨t2, u2, v2⟩ := (t1.leaf v1 (o := off + j * 4 + 2) rfl (by simp only [List.length_append, List.length_cons, List.length_nil, hml] <;> omega)).2 (.int .i64 (m + 1 + 1)) rfl
      rw [List.append_assoc] at t2
      replace t2 : T1 (World.setCell (World.setCell (World.setCell wr ⟨b, off + j * 4, none⟩ (.int .i64 m)) ⟨b, off + j * 4 + 1, none⟩ (.int .i64 (m + 1))) ⟨b, off + j * 4 + 2, none⟩ (.int .i64 (m + 1 + 1))) (.sl n (L ++ (.v (.int .i64 m)) :: (.v (.int .i64 (m + 1))) :: (.v (.int .i64 (m + 1 + 1))) :: (.v (.int .i64 x.b.at_)) :: R)) bs (.slice (some ⟨b, off, none⟩) n c) := t2
      replace t2 : T1 (World.setCell (World.setCell (World.setCell wr ⟨b, off + j * 4, none⟩ (.int .i64 m)) ⟨b, off + j * 4 + 1, none⟩ (.int .i64 (m + 1))) ⟨b, off + j * 4 + 2, none⟩ (.int .i64 (m + 1 + 1))) (.sl n ((L ++ [.v (.int .i64 m), .v (.int .i64 (m + 1)), .v (.int .i64 (m + 1 + 1))]) ++ (.v (.int .i64 x.b.at_)) :: R)) bs (.slice (some ⟨b, off, none⟩) n c) := by rw [List.append_assoc]; exact t2
      obtain ⟨t3, u3, v3⟩ := (t2.leaf v2 (o := off + j * 4 + 3) rfl (by simp only [List.length_append, List.length_cons, List.length_nil, hml] <;> omega)).2 (.int .i64 (m + 1 + 1 + 1)) rfl
      rw [List.append_assoc] at t3
      replace t3 : T1 (World.setCell (World.setCell (World.setCell (World.setCell wr ⟨b, off + j * 4, none⟩ (.int .i64 m)) ⟨b, off + j * 4 + 1, none⟩ (.int .i64 (m + 1))) ⟨b, off + j * 4 + 2, none⟩ (.int .i64 (m + 1 + 1))) ⟨b, off + j * 4 + 3, none⟩ (.int .i64 (m + 1 + 1 + 1))) (.sl n (L ++ (.v (.int .i64 m)) :: (.v (.int .i64 (m + 1))) :: (.v (.int .i64 (m + 1 + 1))) :: (.v (.int .i64 (m + 1 + 1 + 1))) :: R)) bs (.slice (some ⟨b, off, none⟩) n c) := t3
      clear z0_0 z0_1 z0_2 z0_3
      go_wp2_with fail
      have hmk : mkN (GLink.enc x) m = [.v (.int .i64 m), .v (.int .i64 (m + 1)), .v (.int .i64 (m + 1 + 1)), .v (.int .i64 (m + 1 + 1 + 1))] := by
        show mkN [.v (.int .i64 x.a.tag), .v (.int .i64 x.a.at_), .v (.int .i64 x.b.tag), .v (.int .i64 x.b.at_)] m = _
        simp only [mkN_cons, mkN_nil, mkD_int, mkD_sl, cD_v, cD_sl]
        all_goals (exact (cons_eq (vI_eq (by omega)) (cons_eq (vI_eq (by omega)) (cons_eq (vI_eq (by omega)) (cons_eq (vI_eq (by omega)) rfl)))))
      have hfin : mkN ((xs.take (j + 1)).flatMap GLink.enc) k ++ (xs.drop (j + 1)).flatMap GLink.enc = L ++ (.v (.int .i64 m)) :: (.v (.int .i64 (m + 1))) :: (.v (.int .i64 (m + 1 + 1))) :: (.v (.int .i64 (m + 1 + 1 + 1))) :: R := by
        rw [hsn.out, mkN_append, HL.out, ← hm.out, hmk, List.append_assoc, HR.out]; rfl
      exact ⟨⟨j + 1, m + 1 + 1 + 1 + 1, by omega, by go_num, by first | rfl | go_num, Lib.hid (by rw [hsn.out, cN_append]; have h8 := hcx.out; have h9 := hm.out; omega), by omega, by rw [hfin]; exact t3, ((((hon).trans u0).trans u1).trans u2).trans u3, v3⟩, by simp [intOf]; omega⟩
    · have : j = n := by omega
      subst this
      go_wp2_with fail
      go_ret
      have hl := Hn.out
      rw [List.take_of_length_le (by omega), List.drop_of_length_le (by omega)] at ht
      have hm' := hm.out
      rw [List.take_of_length_le (by omega)] at hm'
      exact ⟨m, rfl, hm', by simpa using ht, hon, hw⟩

set_option maxHeartbeats 4000000 in
theorem markWorkerS_any (xs : List GWorker) (k : Int) {A : Option Addr} {c lo : Nat} {bs} (w : World) (hx : T1 w (.sl xs.length (xs.flatMap GWorker.enc)) bs (.slice A xs.length c)) (ho : Own lo w bs) (hn' : xs.length ≤ maxLen) (hk0 : 0 ≤ k) (hk1 : k + (cN (xs.flatMap GWorker.enc) : Nat) ≤ 4611686018427387904) :
    Calls Tryz.prog 79 #[.slice A xs.length c, .int .i64 k] w fun e w' => ∃ r : Int, e = .returned (.int .i64 r) ∧ Hid (r = k + (cN (xs.flatMap GWorker.enc) : Nat)) ∧ T1 w' (.sl xs.length (mkN (xs.flatMap GWorker.enc) k)) bs (.slice A xs.length c) ∧ Onl bs w w' ∧ Own lo w' bs := by
  unfold maxLen at hn'
  obtain ⟨n, hn⟩ : ∃ n, xs.length = n := ⟨_, rfl⟩
  rw [hn] at hx hn' ⊢
  have Hn : Hid (xs.length = n) := hn
  clear hn
  have hkk := Lib.hid hk1
  clear hk1
  go_enter Tryz.func79, Tryz.ntmps79
  go_wp2_with fail
  go_loopw [1, 5] (fun l i w' => ∃ (j : Nat) (m : Int), j ≤ n ∧ i = .int .i64 j ∧ l = .int .i64 m ∧ Hid (m = k + (cN ((xs.take j).flatMap GWorker.enc) : Nat)) ∧ 0 ≤ m ∧ T1 w' (.sl n (mkN ((xs.take j).flatMap GWorker.enc) k ++ (xs.drop j).flatMap GWorker.enc)) bs (.slice A n c) ∧ Onl bs w w' ∧ Own lo w' bs) (fun _ i _ => n - (intOf i).toNat)
  case atStart => exact ⟨0, k, Nat.zero_le _, rfl, rfl, Lib.hid (by simp [cN_nil]), hk0, by simpa [mkN_nil] using hx, Onl.refl _ _, ho⟩
  case round =>
    obtain ⟨j, m, hj, rfl, rfl, hm, hm0, ht, hon, hw⟩ := hrel
    by_cases hlt : j < n
    · obtain ⟨x, hxk, hsp, hll, hsn, hdr⟩ := flat_split GWorker.enc 5 GWorker.enc_len Hn hlt
      rw [hdr.out, List.flatMap_cons] at ht
      have hml : (mkN ((xs.take j).flatMap GWorker.enc) k).length = j * 5 := by rw [mkN_len, hll]
      generalize hL : mkN ((xs.take j).flatMap GWorker.enc) k = L at ht hml
      have HL := Lib.hid hL
      clear hL hll
      have hcx : Hid (cN (GWorker.enc x) = 1 + 1 + cN (x.redexes.flatMap GPair.enc) + cN (x.links.flatMap GLink.enc) + cN (x.counts.flatMap intE)) := by show cN [.v (.int .i64 x.phase), .v (.int .i64 x.victim), .sl x.redexes.length (x.redexes.flatMap GPair.enc), .sl x.links.length (x.links.flatMap GLink.enc), .sl x.counts.length (x.counts.flatMap intE)] = _; simp only [cN_cons, cD_v, cD_sl, cN_nil] <;> omega
      have hbd : m + 1 + 1 + (cN (x.redexes.flatMap GPair.enc) : Nat) + (cN (x.links.flatMap GLink.enc) : Nat) + (cN (x.counts.flatMap intE) : Nat) ≤ 4611686018427387904 := by
        have h1 := hm.out; have h2 := hkk.out; have h3 := hcx.out
        have h4 := hsp.out
        have h5 : cN (xs.flatMap GWorker.enc) = cN ((xs.take j).flatMap GWorker.enc) + (cN (GWorker.enc x) + cN ((xs.drop (j + 1)).flatMap GWorker.enc)) := by rw [h4, cN_append, cN_append]
        omega
      replace ht : T1 wr (.sl n (L ++ (.v (.int .i64 x.phase)) :: (.v (.int .i64 x.victim)) :: (.sl x.redexes.length (x.redexes.flatMap GPair.enc)) :: (.sl x.links.length (x.links.flatMap GLink.enc)) :: (.sl x.counts.length (x.counts.flatMap intE)) :: (xs.drop (j + 1)).flatMap GWorker.enc)) bs (.slice A n c) := ht
      generalize hR : (xs.drop (j + 1)).flatMap GWorker.enc = R at ht
      have HR := Lib.hid hR
      clear hR
      obtain ⟨b, off, rfl, -, hbm, hbl, hblo, hfz⟩ := ht.row hw
      have z0_0 : T1 wr (.sl n (L ++ (.v (.int .i64 x.phase)) :: (.v (.int .i64 x.victim)) :: (.sl x.redexes.length (x.redexes.flatMap GPair.enc)) :: (.sl x.links.length (x.links.flatMap GLink.enc)) :: (.sl x.counts.length (x.counts.flatMap intE)) :: R)) bs (.slice (some ⟨b, off, none⟩) n c) := by exact ht
      have y0_0 := (z0_0.leaf hw (o := off + j * 5) rfl (by simp only [List.length_append, List.length_cons, List.length_nil, hml] <;> omega)).1
      have z0_1 : T1 wr (.sl n ((L ++ [.v (.int .i64 x.phase)]) ++ (.v (.int .i64 x.victim)) :: (.sl x.redexes.length (x.redexes.flatMap GPair.enc)) :: (.sl x.links.length (x.links.flatMap GLink.enc)) :: (.sl x.counts.length (x.counts.flatMap intE)) :: R)) bs (.slice (some ⟨b, off, none⟩) n c) := by rw [List.append_assoc]; exact ht
      have y0_1 := (z0_1.leaf hw (o := off + j * 5 + 1) rfl (by simp only [List.length_append, List.length_cons, List.length_nil, hml] <;> omega)).1
      have z0_2 : T1 wr (.sl n ((L ++ [.v (.int .i64 x.phase), .v (.int .i64 x.victim)]) ++ (.sl x.redexes.length (x.redexes.flatMap GPair.enc)) :: (.sl x.links.length (x.links.flatMap GLink.enc)) :: (.sl x.counts.length (x.counts.flatMap intE)) :: R)) bs (.slice (some ⟨b, off, none⟩) n c) := by rw [List.append_assoc]; exact ht
      obtain ⟨A0_2, c0_2, b0_2, y0_2, -⟩ := z0_2.sub hw (o := off + j * 5 + 2) rfl (by simp only [List.length_append, List.length_cons, List.length_nil, hml] <;> omega)
      obtain ⟨t0, u0, v0⟩ := (ht.leaf hw (o := off + j * 5) rfl (by simp only [List.length_append, List.length_cons, List.length_nil, hml] <;> omega)).2 (.int .i64 m) rfl
      replace t0 : T1 (World.setCell wr ⟨b, off + j * 5, none⟩ (.int .i64 m)) (.sl n (L ++ (.v (.int .i64 m)) :: (.v (.int .i64 x.victim)) :: (.sl x.redexes.length (x.redexes.flatMap GPair.enc)) :: (.sl x.links.length (x.links.flatMap GLink.enc)) :: (.sl x.counts.length (x.counts.flatMap intE)) :: R)) bs (.slice (some ⟨b, off, none⟩) n c) := t0
      replace t0 : T1 (World.setCell wr ⟨b, off + j * 5, none⟩ (.int .i64 m)) (.sl n ((L ++ [.v (.int .i64 m)]) ++ (.v (.int .i64 x.victim)) :: (.sl x.redexes.length (x.redexes.flatMap GPair.enc)) :: (.sl x.links.length (x.links.flatMap GLink.enc)) :: (.sl x.counts.length (x.counts.flatMap intE)) :: R)) bs (.slice (some ⟨b, off, none⟩) n c) := by rw [List.append_assoc]; exact t0
      obtain ⟨t1, u1, v1⟩ := (t0.leaf v0 (o := off + j * 5 + 1) rfl (by simp only [List.length_append, List.length_cons, List.length_nil, hml] <;> omega)).2 (.int .i64 (m + 1)) rfl
      rw [List.append_assoc] at t1
      replace t1 : T1 (World.setCell (World.setCell wr ⟨b, off + j * 5, none⟩ (.int .i64 m)) ⟨b, off + j * 5 + 1, none⟩ (.int .i64 (m + 1))) (.sl n (L ++ (.v (.int .i64 m)) :: (.v (.int .i64 (m + 1))) :: (.sl x.redexes.length (x.redexes.flatMap GPair.enc)) :: (.sl x.links.length (x.links.flatMap GLink.enc)) :: (.sl x.counts.length (x.counts.flatMap intE)) :: R)) bs (.slice (some ⟨b, off, none⟩) n c) := t1
      have g2 : T1 (World.setCell (World.setCell wr ⟨b, off + j * 5, none⟩ (.int .i64 m)) ⟨b, off + j * 5 + 1, none⟩ (.int .i64 (m + 1))) (.sl n ((L ++ [.v (.int .i64 m), .v (.int .i64 (m + 1))]) ++ (.sl x.redexes.length (x.redexes.flatMap GPair.enc)) :: (.sl x.links.length (x.links.flatMap GLink.enc)) :: (.sl x.counts.length (x.counts.flatMap intE)) :: R)) bs (.slice (some ⟨b, off, none⟩) n c) := by rw [List.append_assoc]; exact t1
      obtain ⟨A2, c2, b2, k2, s2, n2, o2, nb2, back2⟩ := g2.sub v1 (o := off + j * 5 + 2) rfl (by simp only [List.length_append, List.length_cons, List.length_nil, hml] <;> omega)
      obtain ⟨rfl, rfl⟩ : A0_2 = A2 ∧ c0_2 = c2 := by
        have hh := k2
        rw [cell_setCell_off _ _ _ _ _ (by omega)] at hh; rw [cell_setCell_off _ _ _ _ _ (by omega)] at hh; rw [y0_2] at hh; simpa using hh
      clear k2
      have HB2 := Lib.hid back2
      clear back2 g2
      clear z0_0 z0_1 z0_2
      go_wp2_with fail
      refine (markPairS_any x.redexes (m + 1 + 1) _ s2 o2 n2 (by omega) (by omega)).mono ?_
      rintro _ W1 ⟨r1, rfl, hr1, q2, f2, -⟩
      obtain ⟨t2, u2, v2⟩ := HB2.out W1 _ f2 q2
      have p1 : 0 ≤ r1 := by have := hr1.out; omega
      have l1 : r1 + (cN (x.links.flatMap GLink.enc) : Nat) + (cN (x.counts.flatMap intE) : Nat) ≤ 4611686018427387904 := by have := hr1.out; omega
      rw [List.append_assoc] at t2
      replace t2 : T1 W1 (.sl n (L ++ (.v (.int .i64 m)) :: (.v (.int .i64 (m + 1))) :: (.sl x.redexes.length (mkN (x.redexes.flatMap GPair.enc) (m + 1 + 1))) :: (.sl x.links.length (x.links.flatMap GLink.enc)) :: (.sl x.counts.length (x.counts.flatMap intE)) :: R)) bs (.slice (some ⟨b, off, none⟩) n c) := t2
      have hfz1 : ∀ o, World.frozen? W1 ⟨b, o, none⟩ = false := fun o => (by obtain ⟨_, cur, tt, hrow⟩ := v2.2 b hbm; simp [World.frozen?, hrow])
      have z1_3 : T1 W1 (.sl n ((L ++ [.v (.int .i64 m), .v (.int .i64 (m + 1)), .sl x.redexes.length (mkN (x.redexes.flatMap GPair.enc) (m + 1 + 1))]) ++ (.sl x.links.length (x.links.flatMap GLink.enc)) :: (.sl x.counts.length (x.counts.flatMap intE)) :: R)) bs (.slice (some ⟨b, off, none⟩) n c) := by rw [List.append_assoc]; exact t2
      obtain ⟨A1_3, c1_3, b1_3, y1_3, -⟩ := z1_3.sub v2 (o := off + j * 5 + 3) rfl (by simp only [List.length_append, List.length_cons, List.length_nil, hml] <;> omega)
      have g3 : T1 W1 (.sl n ((L ++ [.v (.int .i64 m), .v (.int .i64 (m + 1)), .sl x.redexes.length (mkN (x.redexes.flatMap GPair.enc) (m + 1 + 1))]) ++ (.sl x.links.length (x.links.flatMap GLink.enc)) :: (.sl x.counts.length (x.counts.flatMap intE)) :: R)) bs (.slice (some ⟨b, off, none⟩) n c) := by rw [List.append_assoc]; exact t2
      obtain ⟨A3, c3, b3, k3, s3, n3, o3, nb3, back3⟩ := g3.sub v2 (o := off + j * 5 + 3) rfl (by simp only [List.length_append, List.length_cons, List.length_nil, hml] <;> omega)
      obtain ⟨rfl, rfl⟩ : A1_3 = A3 ∧ c1_3 = c3 := by
        have hh := k3
        rw [y1_3] at hh; simpa using hh
      clear k3
      have HB3 := Lib.hid back3
      clear back3 g3
      clear z1_3
      go_wp2_with fail
      refine (markLinkS_any x.links (r1) _ s3 o3 n3 (by omega) (by omega)).mono ?_
      rintro _ W2 ⟨r2, rfl, hr2, q3, f3, -⟩
      obtain ⟨t3, u3, v3⟩ := HB3.out W2 _ f3 q3
      have p2 : 0 ≤ r2 := by have := hr2.out; omega
      have l2 : r2 + (cN (x.counts.flatMap intE) : Nat) ≤ 4611686018427387904 := by have := hr2.out; omega
      rw [List.append_assoc] at t3
      replace t3 : T1 W2 (.sl n (L ++ (.v (.int .i64 m)) :: (.v (.int .i64 (m + 1))) :: (.sl x.redexes.length (mkN (x.redexes.flatMap GPair.enc) (m + 1 + 1))) :: (.sl x.links.length (mkN (x.links.flatMap GLink.enc) (r1))) :: (.sl x.counts.length (x.counts.flatMap intE)) :: R)) bs (.slice (some ⟨b, off, none⟩) n c) := t3
      have hfz2 : ∀ o, World.frozen? W2 ⟨b, o, none⟩ = false := fun o => (by obtain ⟨_, cur, tt, hrow⟩ := v3.2 b hbm; simp [World.frozen?, hrow])
      have z2_4 : T1 W2 (.sl n ((L ++ [.v (.int .i64 m), .v (.int .i64 (m + 1)), .sl x.redexes.length (mkN (x.redexes.flatMap GPair.enc) (m + 1 + 1)), .sl x.links.length (mkN (x.links.flatMap GLink.enc) (r1))]) ++ (.sl x.counts.length (x.counts.flatMap intE)) :: R)) bs (.slice (some ⟨b, off, none⟩) n c) := by rw [List.append_assoc]; exact t3
      obtain ⟨A2_4, c2_4, b2_4, y2_4, -⟩ := z2_4.sub v3 (o := off + j * 5 + 4) rfl (by simp only [List.length_append, List.length_cons, List.length_nil, hml] <;> omega)
      have g4 : T1 W2 (.sl n ((L ++ [.v (.int .i64 m), .v (.int .i64 (m + 1)), .sl x.redexes.length (mkN (x.redexes.flatMap GPair.enc) (m + 1 + 1)), .sl x.links.length (mkN (x.links.flatMap GLink.enc) (r1))]) ++ (.sl x.counts.length (x.counts.flatMap intE)) :: R)) bs (.slice (some ⟨b, off, none⟩) n c) := by rw [List.append_assoc]; exact t3
      obtain ⟨A4, c4, b4, k4, s4, n4, o4, nb4, back4⟩ := g4.sub v3 (o := off + j * 5 + 4) rfl (by simp only [List.length_append, List.length_cons, List.length_nil, hml] <;> omega)
      obtain ⟨rfl, rfl⟩ : A2_4 = A4 ∧ c2_4 = c4 := by
        have hh := k4
        rw [y2_4] at hh; simpa using hh
      clear k4
      have HB4 := Lib.hid back4
      clear back4 g4
      clear z2_4
      go_wp2_with fail
      refine (markInt64S_any x.counts (r2) _ s4 o4 n4 (by omega) (by omega)).mono ?_
      rintro _ W3 ⟨r3, rfl, hr3, q4, f4, -⟩
      obtain ⟨t4, u4, v4⟩ := HB4.out W3 _ f4 q4
      have p3 : 0 ≤ r3 := by have := hr3.out; omega
      have l3 : r3 + 0 ≤ 4611686018427387904 := by have := hr3.out; omega
      rw [List.append_assoc] at t4
      replace t4 : T1 W3 (.sl n (L ++ (.v (.int .i64 m)) :: (.v (.int .i64 (m + 1))) :: (.sl x.redexes.length (mkN (x.redexes.flatMap GPair.enc) (m + 1 + 1))) :: (.sl x.links.length (mkN (x.links.flatMap GLink.enc) (r1))) :: (.sl x.counts.length (mkN (x.counts.flatMap intE) (r2))) :: R)) bs (.slice (some ⟨b, off, none⟩) n c) := t4
      go_wp2_with fail
      have hmk : mkN (GWorker.enc x) m = [.v (.int .i64 m), .v (.int .i64 (m + 1)), .sl x.redexes.length (mkN (x.redexes.flatMap GPair.enc) (m + 1 + 1)), .sl x.links.length (mkN (x.links.flatMap GLink.enc) (r1)), .sl x.counts.length (mkN (x.counts.flatMap intE) (r2))] := by
        show mkN [.v (.int .i64 x.phase), .v (.int .i64 x.victim), .sl x.redexes.length (x.redexes.flatMap GPair.enc), .sl x.links.length (x.links.flatMap GLink.enc), .sl x.counts.length (x.counts.flatMap intE)] m = _
        simp only [mkN_cons, mkN_nil, mkD_int, mkD_sl, cD_v, cD_sl]
        all_goals (have h1 := hr1.out; have h2 := hr2.out; have h3 := hr3.out; exact (cons_eq (vI_eq (by omega)) (cons_eq (vI_eq (by omega)) (cons_eq (slK_eq (by omega)) (cons_eq (slK_eq (by omega)) (cons_eq (slK_eq (by omega)) rfl))))))
      have hfin : mkN ((xs.take (j + 1)).flatMap GWorker.enc) k ++ (xs.drop (j + 1)).flatMap GWorker.enc = L ++ (.v (.int .i64 m)) :: (.v (.int .i64 (m + 1))) :: (.sl x.redexes.length (mkN (x.redexes.flatMap GPair.enc) (m + 1 + 1))) :: (.sl x.links.length (mkN (x.links.flatMap GLink.enc) (r1))) :: (.sl x.counts.length (mkN (x.counts.flatMap intE) (r2))) :: R := by
        rw [hsn.out, mkN_append, HL.out, ← hm.out, hmk, List.append_assoc, HR.out]; rfl
      exact ⟨⟨j + 1, r3, by omega, by go_num, by first | rfl | go_num, Lib.hid (by rw [hsn.out, cN_append]; have h1 := hr1.out; have h2 := hr2.out; have h3 := hr3.out; have h8 := hcx.out; have h9 := hm.out; omega), by omega, by rw [hfin]; exact t4, (((((hon).trans u0).trans u1).trans u2).trans u3).trans u4, v4⟩, by simp [intOf]; omega⟩
    · have : j = n := by omega
      subst this
      go_wp2_with fail
      go_ret
      have hl := Hn.out
      rw [List.take_of_length_le (by omega), List.drop_of_length_le (by omega)] at ht
      have hm' := hm.out
      rw [List.take_of_length_le (by omega)] at hm'
      exact ⟨m, rfl, hm', by simpa using ht, hon, hw⟩

set_option maxHeartbeats 4000000 in
theorem markPool_any (x : GPool) (k : Int) {bs us} {lo : Nat} (w : World) (hx : TN w x.enc bs us) (ho : Own lo w bs) (hk0 : 0 ≤ k) (hk1 : k + (x.cnt : Nat) ≤ 4611686018427387904) :
    Calls Tryz.prog 32 #[.agg us.toArray, .int .i64 k] w fun e w' => ∃ r : Int, e = .returned (.int .i64 r) ∧ Hid (r = k + (x.cnt : Nat)) ∧ TN w' (x.mked k) bs us ∧ Onl bs w w' ∧ Own lo w' bs := by
  have hlt := hx.lt
  obtain ⟨A0, c0, b0, A4, c4, b4, A5, c5, b5, rfl, rfl, t0, l0, m0, t4, l4, m4, t5, l5, m5⟩ := GPool.us hx
  obtain ⟨h2_, o5, d5⟩ := Own.parts ho
  obtain ⟨o0, o4, d4⟩ := Own.parts h2_
  have e0_4 : ∀ y ∈ b0, y ∉ b4 := fun y hm => d4 y hm
  have e0_5 : ∀ y ∈ b0, y ∉ b5 := fun y hm => d5 y (List.mem_append_left _ hm)
  have e4_5 : ∀ y ∈ b4, y ∉ b5 := fun y hm => d5 y (List.mem_append_right _ hm)
  have g0 : w.heap.size ∉ b0 := fun hm => by have := hlt _ (show w.heap.size ∈ b0 ++ b4 ++ b5 by simp [hm]); omega
  have g4 : w.heap.size ∉ b4 := fun hm => by have := hlt _ (show w.heap.size ∈ b0 ++ b4 ++ b5 by simp [hm]); omega
  have g5 : w.heap.size ∉ b5 := fun hm => by have := hlt _ (show w.heap.size ∈ b0 ++ b4 ++ b5 by simp [hm]); omega
  have B0 : ∀ S, Below w.heap.size w (w.alloc S) := fun _ => (Below.refl _ _).alloc (Nat.le_refl _) _
  have hcn : x.cnt = x.memory.cnt + cN (x.workers.flatMap GWorker.enc) := rfl
  rw [hcn] at hk1
  clear hcn hx
  go_enter Tryz.func32, Tryz.ntmps32
  go_wp2_with fail
  refine (markMemory_any x.memory k (bs := b0 ++ b4) _ (GMemory.mk_ (x := x.memory) (t0.below (B0 _)) (t4.below (B0 _))) (Own.join (o0.below (B0 _)) (o4.below (B0 _)) (fun y hy hm => e0_4 y hy hm)) (by omega) (by omega)).mono ?_
  rintro _ w1 ⟨r1, rfl, hr1, S0, f1, V0⟩
  have p1 : 0 ≤ r1 := by have := hr1.out; omega
  have b1_ : r1 + (cN (x.workers.flatMap GWorker.enc) : Nat) ≤ 4611686018427387904 := by have := hr1.out; omega
  have u1 := (f1.other w.heap.size (by simp) (fun hm => by simp only [List.mem_append] at hm; rcases hm with hm | hm <;> first | exact g0 hm | exact g4 hm)).trans (heap_alloc_new w _)
  have z1 : w.heap.size < w1.heap.size := by have := f1.size; simp at this; omega
  have F1 : Onl (b0 ++ b4 ++ b5) w w1 := Onl.trans (Onl.of_ext (B0 _)) (f1.sub (fun y hy => by first | exact hy | (simp at hy ⊢; grind)))
  have q1_0 := cell_of_row _ _ 0 _ _ _ u1
  have q1_1 := cell_of_row _ _ 1 _ _ _ u1
  have q1_2 := cell_of_row _ _ 2 _ _ _ u1
  have q1_3 := cell_of_row _ _ 3 _ _ _ u1
  have q1_4 := cell_of_row _ _ 4 _ _ _ u1
  have q1_5 := cell_of_row _ _ 5 _ _ _ u1
  have q1_6 := cell_of_row _ _ 6 _ _ _ u1
  simp only [List.getElem?_toArray, List.getElem?_cons_zero, List.getElem?_cons_succ] at q1_0 q1_1 q1_2 q1_3 q1_4 q1_5 q1_6
  replace t5 := T1.onl (t5.below (B0 _)) f1 (fun y hy hm => by
      simp only [List.mem_append, or_assoc] at hm
      rcases hm with hm | hm
      · exact (fun y hy hm => e0_5 y hm hy) y hy hm
      · exact (fun y hy hm => e4_5 y hm hy) y hy hm)
  replace o5 := (o5.below (B0 _)).onl f1
  go_wp2_with fail
  refine (markWorkerS_any x.workers r1 _ t5 o5 (Nat.le_trans l5 m5) (by omega) (by omega)).mono ?_
  rintro _ w2 ⟨r2, rfl, hr2, S1, f2, V1⟩
  have p2 : 0 ≤ r2 := by have := hr2.out; omega
  have b2_ : r2 + 0 ≤ 4611686018427387904 := by have := hr2.out; omega
  have u2 := (f2.other w.heap.size z1 g5).trans u1
  have z2 : w.heap.size < w2.heap.size := by have := f2.size; omega
  have F2 := F1.trans (f2.sub (cs := b0 ++ b4 ++ b5) (fun y hy => by first | exact hy | (simp at hy ⊢; grind)))
  clear q1_0 q1_1 q1_2 q1_3 q1_4 q1_5 q1_6 u1
  have q2_0 := cell_of_row _ _ 0 _ _ _ u2
  have q2_1 := cell_of_row _ _ 1 _ _ _ u2
  have q2_2 := cell_of_row _ _ 2 _ _ _ u2
  have q2_3 := cell_of_row _ _ 3 _ _ _ u2
  have q2_4 := cell_of_row _ _ 4 _ _ _ u2
  have q2_5 := cell_of_row _ _ 5 _ _ _ u2
  have q2_6 := cell_of_row _ _ 6 _ _ _ u2
  simp only [List.getElem?_toArray, List.getElem?_cons_zero, List.getElem?_cons_succ] at q2_0 q2_1 q2_2 q2_3 q2_4 q2_5 q2_6
  replace S0 := TN.onl S0 f2 (fun y hy => by
      simp only [List.mem_append, or_assoc] at hy
      rcases hy with hy | hy
      · exact e0_5 y hy
      · exact e4_5 y hy)
  go_wp2_with fail
  go_ret
  refine ⟨r2, rfl, ?_, ?_, F2, ho.onl F2⟩
  · show _ = _
    have hcn : x.cnt = x.memory.cnt + cN (x.workers.flatMap GWorker.enc) := rfl
    have h1 := hr1.out; have h2 := hr2.out; omega
  · have h1 := hr1.out; have h2 := hr2.out; skip
    rw [show r1 = k + (x.memory.cnt : Nat) from by omega] at S1
    have h := (TN.append.2 ⟨_, _, _, _, rfl, rfl, S0, (TN.append.2 ⟨_, _, _, _, rfl, rfl, (TN.sl_mk S1 TN.done), (TN.v_mk (x := .int .i64 x.active) rfl TN.done)⟩)⟩)
    simp only [List.append_nil, List.nil_append, List.append_assoc, List.cons_append] at h
    unfold GPool.mked
    simpa only [List.append_nil, List.nil_append, List.append_assoc, List.cons_append] using h

end Go.Proofs.YthciaodffkbljaaGreat
