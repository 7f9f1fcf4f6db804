/- The source of drawn numbers: what each of its functions answers lies within its bounds, and nothing but the source's own block has changed. -/
import Derived.Test.YtdifbcbickdbbaaProg
import Derived.Test.YtdifbcbickdbbaaData
namespace Go.Proofs.Ytdifbcbickdbbaa
open Go Go.RowKit Go.Proofs Go.Tr


structure Src (w : World) (g : Nat) (A : Option Addr) (n c k : Nat) : Prop where
  cells : ∃ seed, w.heap[g]? = some (.cells #[.slice A n c, .int .i64 k, .int .u64 seed] 199 (0, 0))
  bytes : ∀ j, j < n → ∃ b off v, A = some ⟨b, off, none⟩ ∧ b ≠ g ∧ b < w.heap.size ∧ w.cell? ⟨b, off + j, none⟩ = some (.int .u8 v) ∧ 0 ≤ v ∧ v ≤ 255
theorem Src.lt {w g A n c k} (h : Src w g A n c k) : g < w.heap.size := by
  obtain ⟨s, h⟩ := h.cells
  exact (Array.getElem?_eq_some_iff.1 h).1
theorem Src.keep {w w' g A n c k} (h : Src w g A n c k) (hb : Below w.heap.size w w') : Src w' g A n c k := by
  refine ⟨?_, fun j hj => ?_⟩
  · obtain ⟨s, hs⟩ := h.cells
    exact ⟨s, (hb.block g h.lt).trans hs⟩
  · obtain ⟨b, off, v, h1, h2, h3, h4, h5⟩ := h.bytes j hj
    exact ⟨b, off, v, h1, h2, Nat.lt_of_lt_of_le h3 hb.size, (hb.cell (p := ⟨b, off + j, none⟩) h3).trans h4, h5⟩
theorem Src.set2 {w g A n c k} (h : Src w g A n c k) (q q2 : Nat) (s : Int) : Src ((((w.drewN q).setCell ⟨g, 1, none⟩ (.int .i64 (k + 1))).setCell ⟨g, 2, none⟩ (.int .u64 s)).drewN q2) g A n c (k + 1) := by
  obtain ⟨s0, hs⟩ := h.cells
  have hlt := h.lt
  have hs' := Array.getElem?_eq_some_iff.1 hs
  refine ⟨⟨s, ?_⟩, fun j hj => ?_⟩
  · simp [World.setCell, World.drewN, Array.getElem?_modify, hs]
  · obtain ⟨b, off, v, h1, h2, h3, h4, h5⟩ := h.bytes j hj
    refine ⟨b, off, v, h1, h2, by simpa [World.setCell, World.drewN] using h3, ?_, h5⟩
    have hb : But g w ((((w.drewN q).setCell ⟨g, 1, none⟩ (.int .i64 (k + 1))).setCell ⟨g, 2, none⟩ (.int .u64 s)).drewN q2) := ((((But.refl g w).drewN q).setCell 1 _).setCell 2 _).drewN q2
    exact (World.cell?_of_block (a := ⟨b, off + j, none⟩) (hb.block b h3 h2)).trans h4

theorem u64_range (y : Int) : 0 ≤ IntKind.u64.wrap y ∧ IntKind.u64.wrap y < 18446744073709551616 := by
  have : IntKind.u64.wrap y = y % 18446744073709551616 := by simp [IntKind.wrap, IntKind.signed, IntKind.bits]
  rw [this]; omega
theorem shr_byte (y : Int) : 0 ≤ wrap64 (bits .and .u64 (IntKind.u64.wrap y / 1099511627776) 255) ∧ wrap64 (bits .and .u64 (IntKind.u64.wrap y / 1099511627776) 255) ≤ 255 := by
  have h := u64_range y
  generalize IntKind.u64.wrap y = z at *
  rw [u64_and _ _ (by omega) (by omega) (by omega) (by omega)]
  have h2 : (z / 1099511627776).toNat &&& (255 : Int).toNat ≤ 255 := Nat.and_le_right
  generalize (z / 1099511627776).toNat &&& (255 : Int).toNat = q at *
  unfold wrap64
  omega

set_option maxHeartbeats 400000 in
theorem next_any (g : Nat) (A : Option Addr) (n c k : Nat) (w : World) (hn : n ≤ 100000000) (hk : k ≤ 100000000) (h : Src w g A n c k) :
    Calls Try.prog 168 #[.pointer (some ⟨g, 0, none⟩)] w fun e w' => ∃ r, e = .returned (.int .i64 r) ∧ 0 ≤ r ∧ r ≤ 255 ∧ Src w' g A n c (k + 1) ∧ But g w w' := by
  obtain ⟨seed, hs⟩ := h.cells
  have h0 : w.cell? ⟨g, 0, none⟩ = some (.slice A n c) := by rw [cell_of_row w g 0 _ _ _ hs]; rfl
  have h1 : w.cell? ⟨g, 1, none⟩ = some (.int .i64 k) := by rw [cell_of_row w g 1 _ _ _ hs]; rfl
  have h2 : w.cell? ⟨g, 2, none⟩ = some (.int .u64 seed) := by rw [cell_of_row w g 2 _ _ _ hs]; rfl
  have hf : ∀ o, w.frozen? ⟨g, o, none⟩ = false := fun o => by simp [World.frozen?, hs]
  clear hs
  by_cases hlt : k < n
  · obtain ⟨b, off, v, rfl, hbg, hb, hv, hv0, hv1⟩ := h.bytes k hlt
    have hd : decide ((k : Int) < n) = true := by simpa using hlt
    have hS := fun q q2 s => h.set2 q q2 s
    have HS := Lib.hid hS
    clear hS h
    go_enter Try.func168, Try.ntmps168
    go_wp2
    go_quiet (fail)
    go_wp2
    go_quiet (fail)
    go_wp2
    go_quiet (fail)
    go_wp2
    all_goals go_ret
    · exact ⟨_, rfl, hv0, hv1, HS.out _ _ _, ((((But.refl g w).drewN _).setCell 1 _).setCell 2 _).drewN _⟩
  · have hd : decide ((k : Int) < n) = false := by simpa using hlt
    have hS := fun q q2 s => h.set2 q q2 s
    have HS := Lib.hid hS
    clear hS h
    go_enter Try.func168, Try.ntmps168
    go_wp2
    go_quiet (fail)
    go_wp2
    go_quiet (fail)
    go_wp2
    all_goals go_ret
    · exact ⟨_, rfl, (shr_byte _).1, (shr_byte _).2, HS.out _ _ _, ((((But.refl g w).drewN _).setCell 1 _).setCell 2 _).drewN _⟩

abbrev Bytes (w : World) (A : Option Addr) (n : Nat) : Prop := Hid (∀ j, j < n → ∃ b off v, A = some ⟨b, off, none⟩ ∧ b < w.heap.size ∧ w.cell? ⟨b, off + j, none⟩ = some (.int .u8 v) ∧ 0 ≤ v ∧ v ≤ 255)
theorem Bytes.below {w w' A n} (h : Bytes w A n) (hb : Below w.heap.size w w') : Bytes w' A n := by
  intro j hj
  obtain ⟨b, off, v, h1, h2, h3, h4⟩ := h.out j hj
  exact ⟨b, off, v, h1, Nat.lt_of_lt_of_le h2 hb.size, (hb.cell (p := ⟨b, off + j, none⟩) h2).trans h3, h4⟩

/-- What a drawing function leaves: a number with P, and the source a little further on. -/
def Drew (g : Nat) (A : Option Addr) (n c k j : Nat) (w : World) (P : Value → Prop) (e : Ending) (w' : World) : Prop :=
  ∃ v k', e = .returned v ∧ P v ∧ k ≤ k' ∧ k' ≤ k + j ∧ Src w' g A n c k' ∧ But g w w'
def IntIn (lo hi : Int) (v : Value) : Prop := ∃ r, v = .int .i64 r ∧ lo ≤ r ∧ r ≤ hi

theorem emod_in (x m : Int) (h : 1 < m) : 0 ≤ x % m ∧ x % m ≤ max 0 (m - 1) := by
  have h1 := Int.emod_nonneg x (show m ≠ 0 by omega)
  have h2 := Int.emod_lt_of_pos x (show 0 < m by omega)
  omega
set_option maxHeartbeats 400000 in
theorem pick_any (g : Nat) (A : Option Addr) (n c k : Nat) (m : Int) (w : World) (hn : n ≤ 100000000) (hk : k + 2 ≤ 100000000) (h : Src w g A n c k) :
    Calls Try.prog 72 #[.pointer (some ⟨g, 0, none⟩), .int .i64 m] w (Drew g A n c k 2 w (IntIn 0 (max 0 (m - 1)))) := by
  by_cases h1 : m ≤ 1
  · go_enter Try.func72, Try.ntmps72
    go_wp2_with fail
    go_ret
    exact ⟨_, k, rfl, ⟨0, rfl, by omega, by omega⟩, by omega, by omega, h, But.refl _ _⟩
  by_cases h2 : m ≤ 200
  · go_enter Try.func72, Try.ntmps72
    go_wp2_with fail
    refine (next_any g A n c k _ hn (by omega) h).mono ?_
    rintro e w1 ⟨r, rfl, hr0, hr1, hs1, hb1⟩
    go_wp2_with fail
    go_ret
    exact ⟨_, k + 1, rfl, ⟨_, rfl, (emod_in _ _ (by omega)).1, (emod_in _ _ (by omega)).2⟩, by omega, by omega, hs1, hb1⟩
  · go_enter Try.func72, Try.ntmps72
    go_wp2_with fail
    refine (next_any g A n c k _ hn (by omega) h).mono ?_
    rintro e w1 ⟨r, rfl, hr0, hr1, hs1, hb1⟩
    go_wp2_with fail
    refine (next_any g A n c (k + 1) _ hn (by omega) hs1).mono ?_
    rintro e w2 ⟨r2, rfl, hr2, hr3, hs2, hb2⟩
    go_wp2_with fail
    go_ret
    exact ⟨_, k + 2, rfl, ⟨_, rfl, (emod_in _ _ (by omega)).1, (emod_in _ _ (by omega)).2⟩, by omega, by omega, hs2, hb1.trans hb2⟩

set_option maxHeartbeats 400000 in
theorem one_any (g : Nat) (A : Option Addr) (n c k : Nat) (m : Int) (w : World) (hn : n ≤ 100000000) (hk : k + 2 ≤ 100000000) (h : Src w g A n c k) :
    Calls Try.prog 127 #[.pointer (some ⟨g, 0, none⟩), .int .i64 m] w (Drew g A n c k 2 w (fun v => ∃ b, v = .bool b)) := by
  go_enter Try.func127, Try.ntmps127
  go_wp2_with fail
  refine (pick_any g A n c k m _ hn hk h).mono ?_
  rintro e w1 ⟨v, k1, rfl, ⟨r, rfl, hr0, hr1⟩, hk1, hk2, hs1, hb1⟩
  go_wp2_with fail
  go_ret
  exact ⟨_, k1, rfl, ⟨_, rfl⟩, hk1, hk2, hs1, hb1⟩

set_option maxHeartbeats 400000 in
theorem among_any (g : Nat) (A : Option Addr) (n c k : Nat) (L : Option Addr) (m lc : Nat) (xs : List Int) (bs : List Nat) (Q : Int → Prop) (w : World) (hn : n ≤ 100000000) (hk : k + 2 ≤ 100000000) (h : Src w g A n c k)
    (hx : T1 w (.sl m (xs.flatMap intE)) bs (.slice L m lc)) (hm : Hid (xs.length = m)) (hm0 : 0 < m) (hm1 : m ≤ 1000) (hg : g ∉ bs) (hQ : Hid (∀ x ∈ xs, Q x)) :
    Calls Try.prog 161 #[.pointer (some ⟨g, 0, none⟩), .slice L m lc] w (Drew g A n c k 2 w (fun v => ∃ x, v = .int .i64 x ∧ Q x)) := by
  go_enter Try.func161, Try.ntmps161
  go_wp2_with fail
  refine (pick_any g A n c k m _ hn hk h).mono ?_
  rintro e w1 ⟨v, k1, rfl, ⟨r, rfl, hr0, hr1⟩, hk1, hk2, hs1, hb1⟩
  obtain ⟨j, rfl⟩ := Int.eq_ofNat_of_zero_le hr0
  have hj : j < m := by omega
  have hx1 : T1 w1 (.sl m (xs.flatMap intE)) bs (.slice L m lc) := hx.keep ⟨hb1.size, fun b hb => hb1.block b (hx.lt b hb) (fun e => hg (e ▸ hb))⟩
  obtain ⟨b, off, x, rfl, _, hb, hxj, hc⟩ := intE_at hx1 hm.out hj
  have hqx : Hid (Q x) := hQ.out x (List.mem_of_getElem? hxj.out)
  clear hr1
  go_wp2_with fail
  go_ret
  exact ⟨_, k1, rfl, ⟨_, rfl, hqx.out⟩, hk1, hk2, hs1, hb1⟩

theorem Drew.of_alloc {g A n c k j} {w : World} {o : Obj} {P e w'} (h : Drew g A n c k j (w.alloc o) P e w') : Drew g A n c k j w P e w' := by
  obtain ⟨v, k', he, hp, h1, h2, h3, h4⟩ := h
  exact ⟨v, k', he, hp, h1, h2, h3, (But.of_below ((Below.refl _ _).alloc (Nat.le_refl _) _)).trans h4⟩
/-- .. of numbers that are written out in the call. -/
theorem among_lit (g : Nat) (A : Option Addr) (n c k : Nat) (xs : List Int) (m : Nat) (t : TypeId) (Q : Int → Prop) (w : World) (hn : n ≤ 100000000) (hk : k + 2 ≤ 100000000) (h : Src w g A n c k)
    (hm : xs.length = m) (hm0 : 0 < m) (hm1 : m ≤ 1000) (hQ : ∀ x ∈ xs, Q x) :
    Calls Try.prog 161 #[.pointer (some ⟨g, 0, none⟩), .slice (some ⟨w.heap.size, 0, none⟩) m m] (w.alloc (.cells (xs.map (Value.int .i64)).toArray t)) (Drew g A n c k 2 w (fun v => ∃ x, v = .int .i64 x ∧ Q x)) := by
  have ht := T1.lit w t (xs.map (Value.int .i64)) m hm0 (by unfold maxLen; omega) (by simp [Value.oneCell'])
  have he : (xs.map (Value.int .i64)).map D.v = xs.flatMap intE := by
    clear hQ hm ht
    induction xs with
    | nil => rfl
    | cons x xs ih => simp only [List.map_cons, List.flatMap_cons, ih]; rfl
  rw [he] at ht
  exact (among_any g A n c k _ m m xs _ Q _ hn hk (h.keep ((Below.refl _ _).alloc (Nat.le_refl _) _)) ht hm hm0 hm1 (by have := h.lt; simp; omega) hQ).mono fun _ _ h => h.of_alloc

theorem bytes_ne {w : World} {A : Option Addr} {n c : Nat} {bs : List Nat} {xs : List Int} (h : T1 w (.sl n (xs.flatMap fun x => [D.v (.int .u8 x)])) bs (.slice A n c)) (hm : Hid (xs.length = n)) (hr : Hid (∀ x ∈ xs, 0 ≤ x ∧ x ≤ 255)) :
    ∀ j, j < n → ∃ b off v, A = some ⟨b, off, none⟩ ∧ b < w.heap.size ∧ w.cell? ⟨b, off + j, none⟩ = some (.int .u8 v) ∧ 0 ≤ v ∧ v ≤ 255 := by
  intro j hj
  obtain ⟨_, b, off, b1, b2, b3, us, hA, rfl, hb, hc, ht⟩ := T1.at_ (s := 1) (fun _ => rfl) h hm.out hj
  obtain ⟨c1, c2, u, us', rfl, _, h1, h2⟩ := TN.cons.1 ht
  obtain ⟨rfl, _, _⟩ := T1.v.1 h1
  have := hc 0 _ rfl
  have hin : xs[j]'(by rw [hm.out]; exact hj) ∈ xs := List.getElem_mem _
  exact ⟨b, off, _, hA, hb, by simpa using this, hr.out _ hin⟩

set_option maxHeartbeats 400000 in
theorem l00From_any (A : Option Addr) (n c : Nat) (w : World) (h : ∀ j, j < n → ∃ b off v, A = some ⟨b, off, none⟩ ∧ b < w.heap.size ∧ w.cell? ⟨b, off + j, none⟩ = some (.int .u8 v) ∧ 0 ≤ v ∧ v ≤ 255) :
    Calls Try.prog 71 #[.slice A n c] w fun e w' => ∃ g, e = .returned (.pointer (some ⟨g, 0, none⟩)) ∧ w.heap.size ≤ g ∧ Src w' g A n c 0 ∧ Below w.heap.size w w' := by
  have H := Lib.hid h
  clear h
  go_enter Try.func71, Try.ntmps71
  go_wp2
  go_ret
  refine ⟨w.heap.size, rfl, Nat.le_refl _, ⟨⟨0, heap_alloc_new w _⟩, fun j hj => ?_⟩, (Below.refl _ _).alloc (Nat.le_refl _) _⟩
  obtain ⟨b, off, v, h1, h2, h3, h4⟩ := H.out j hj
  exact ⟨b, off, v, h1, by omega, by simp; omega, (World.cell?_alloc_lt w _ ⟨b, off + j, none⟩ h2).trans h3, h4⟩
theorem Drew.mono {g A n c k j w P Q e w'} (h : Drew g A n c k j w P e w') (hPQ : ∀ v, P v → Q v) : Drew g A n c k j w Q e w' := by
  obtain ⟨v, k', he, hp, r⟩ := h
  exact ⟨v, k', he, hPQ v hp, r⟩

set_option maxHeartbeats 400000 in
theorem a2Long_yes (A B : Option Addr) (n m c d : Nat) (w : World) (h : 3000 < n ∨ 3000 < m) : Calls Try.prog 23 #[.slice A n c, .slice B m d] w fun e w' => e = .returned (.bool true) ∧ w = w' := by
  by_cases h1 : 3000 < n
  · go_enter Try.func23, Try.ntmps23
    go_wp2
    go_ret
    simp
  · have h2 : 3000 < m := by omega
    have h3 : decide ((3000 : Int) < n) = false := by simp; omega
    have h4 : decide ((3000 : Int) < m) = true := by simp; omega
    go_enter Try.func23, Try.ntmps23
    go_wp2
    go_ret
    simp
set_option maxHeartbeats 400000 in
theorem a2Long_no (A B : Option Addr) (n m c d : Nat) (w : World) (h1 : n ≤ 3000) (h2 : m ≤ 3000) : Calls Try.prog 23 #[.slice A n c, .slice B m d] w fun e w' => e = .returned (.bool false) ∧ w = w' := by
  have h3 : decide ((3000 : Int) < n) = false := by simp; omega
  have h4 : decide ((3000 : Int) < m) = false := by simp; omega
  go_enter Try.func23, Try.ntmps23
  go_wp2
  go_ret
  simp
set_option maxHeartbeats 400000 in
theorem f6big_yes (A : Option Addr) (n c : Nat) (w : World) (h : 4096 < n) : Calls Try.prog 12 #[.slice A n c] w fun e w' => e = .returned (.bool true) ∧ w = w' := by
  have h2 : decide ((4096 : Int) < n) = true := by simp; omega
  go_enter Try.func12, Try.ntmps12
  go_wp2
  go_ret
  simp
set_option maxHeartbeats 400000 in
theorem f6big_no (A : Option Addr) (n c : Nat) (w : World) (h : n ≤ 4096) : Calls Try.prog 12 #[.slice A n c] w fun e w' => e = .returned (.bool false) ∧ w = w' := by
  have h2 : decide ((4096 : Int) < n) = false := by simp; omega
  go_enter Try.func12, Try.ntmps12
  go_wp2
  go_ret
  simp
end Go.Proofs.Ytdifbcbickdbbaa
