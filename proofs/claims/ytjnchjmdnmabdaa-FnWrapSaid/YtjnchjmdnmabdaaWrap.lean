/- What the functions of integers and operators return. -/
import Derived.Test.YtjnchjmdnmabdaaSrc
import Derived.Test.YtjnchjmdnmabdaaArith
namespace Go.Proofs.Ytjnchjmdnmabdaa
open Go Go.RowKit Go.Proofs Go.Tr

set_option maxHeartbeats 400000 in
theorem l01Int_any (g : Nat) (A : Option Addr) (n c k : Nat) (w : World) (hn : n ≤ 100000000) (hk : k + 4 ≤ 100000000) (h : Src w g A n c k) :
    Calls Try.prog 33 #[.pointer (some ⟨g, 0, none⟩)] w (Drew g A n c k 4 w (fun v => ∃ x, v = .int .i64 x ∧ I64 x)) := by
  go_enter Try.func33, Try.ntmps33
  go_wp2_with fail
  refine (one_any g A n c k _ _ hn (by omega) h).mono ?_
  rintro e w1 ⟨v, k1, rfl, ⟨b, rfl⟩, hk1, hk2, hs1, hb1⟩
  cases b
  · go_wp2_with fail
    refine (pick_any g A n c k1 _ _ hn (by omega) hs1).mono ?_
    rintro e w2 ⟨v, k2, rfl, ⟨r, rfl, hr0, hr1⟩, hk3, hk4, hs2, hb2⟩
    have hr2 : r ≤ 11 := by omega
    clear hr1
    go_wp2_with fail
    go_ret
    exact ⟨_, k2, rfl, ⟨_, rfl, by unfold I64; omega⟩, by omega, by omega, hs2, hb1.trans hb2⟩
  · go_wp2_with fail
    refine (among_lit g A n c k1 [-2147483648, 2147483647, -1, 65536, -2147483647] 5 _ I64 w1 hn (by omega) hs1 rfl (by omega) (by omega) (by simp [I64])).mono ?_
    rintro e w2 ⟨v, k2, rfl, ⟨r, rfl, hr0⟩, hk3, hk4, hs2, hb2⟩
    go_wp2_with fail
    go_ret
    exact ⟨_, k2, rfl, ⟨_, rfl, hr0⟩, by omega, by omega, hs2, hb1.trans hb2⟩
set_option maxHeartbeats 400000 in
theorem l01Raw_any (g : Nat) (A : Option Addr) (n c k : Nat) (w : World) (hn : n ≤ 100000000) (hk : k + 6 ≤ 100000000) (h : Src w g A n c k) :
    Calls Try.prog 25 #[.pointer (some ⟨g, 0, none⟩)] w (Drew g A n c k 6 w (fun v => ∃ x, v = .int .i64 x ∧ I64 x)) := by
  go_enter Try.func25, Try.ntmps25
  go_wp2_with fail
  refine (one_any g A n c k _ _ hn (by omega) h).mono ?_
  rintro e w1 ⟨v, k1, rfl, ⟨b, rfl⟩, hk1, hk2, hs1, hb1⟩
  cases b
  · go_wp2_with fail
    refine (l01Int_any g A n c k1 _ hn (by omega) hs1).mono ?_
    rintro e w2 ⟨v, k2, rfl, ⟨r, rfl, hr0⟩, hk3, hk4, hs2, hb2⟩
    go_wp2_with fail
    go_ret
    exact ⟨_, k2, rfl, ⟨_, rfl, hr0⟩, by omega, by omega, hs2, hb1.trans hb2⟩
  · go_wp2_with fail
    refine (among_lit g A n c k1 [-9223372036854775808, 9223372036854775807, 2147483648, -2147483649, 4294967296, -4294967296, 4294967295, 0] 8 _ I64 w1 hn (by omega) hs1 rfl (by omega) (by omega) (by simp [I64])).mono ?_
    rintro e w2 ⟨v, k2, rfl, ⟨r, rfl, hr0⟩, hk3, hk4, hs2, hb2⟩
    go_wp2_with fail
    go_ret
    exact ⟨_, k2, rfl, ⟨_, rfl, hr0⟩, by omega, by omega, hs2, hb1.trans hb2⟩
set_option maxHeartbeats 400000 in
theorem drawOperate_any (A : Option Addr) (n c : Nat) (w : World) (hn : n ≤ 100000) (h : Hid (∀ j, j < n → ∃ b off v, A = some ⟨b, off, none⟩ ∧ b < w.heap.size ∧ w.cell? ⟨b, off + j, none⟩ = some (.int .u8 v) ∧ 0 ≤ v ∧ v ≤ 255)) :
    Calls Try.prog 11 #[.slice A n c] w fun e w' => ∃ o x y, e = .returned (.tuple #[.int .i64 o, .int .i64 x, .int .i64 y]) ∧ 0 ≤ o ∧ o ≤ 7 ∧ I64 x ∧ I64 y ∧ Below w.heap.size w w' := by
  go_enter Try.func11, Try.ntmps11
  go_wp2_with fail
  refine (l00From_any A n c _ h.out).mono ?_
  rintro e w0 ⟨g, rfl, hg, hs0, hb0⟩
  go_wp2_with fail
  refine (pick_any g A n c 0 _ _ (by omega) (by omega) hs0).mono ?_
  rintro e w1 ⟨v, k1, rfl, ⟨o, rfl, ho0, ho1⟩, hk1, hk2, hs1, hb1⟩
  have ho2 : o ≤ 7 := by omega
  clear ho1
  go_wp2_with fail
  refine (l01Raw_any g A n c k1 _ (by omega) (by omega) hs1).mono ?_
  rintro e w2 ⟨v, k2, rfl, ⟨x, rfl, hx⟩, hk3, hk4, hs2, hb2⟩
  go_wp2_with fail
  refine (l01Raw_any g A n c k2 _ (by omega) (by omega) hs2).mono ?_
  rintro e w3 ⟨v, k3, rfl, ⟨y, rfl, hy⟩, hk5, hk6, hs3, hb3⟩
  go_wp2_with fail
  go_ret3
  exact ⟨o, x, y, rfl, ho0, ho2, hx, hy, hb0.trans ((hb1.trans (hb2.trans hb3)).below hb0.size hg)⟩

set_option maxHeartbeats 400000 in
theorem implWrap32_any (x : Int) (w : World) : Calls Try.prog 14 #[.int .i64 x] w fun e w' => e = .returned (.int .i64 (w32 x)) ∧ w = w' := by
  have h := w32_in x
  have hw := wrap_i32 x
  go_enter Try.func14, Try.ntmps14
  go_wp2
  go_ret
  simp
set_option maxHeartbeats 400000 in
theorem specWrap32_any (x : Int) (w : World) : Calls Try.prog 12 #[.int .i64 x] w fun e w' => e = .returned (.int .i64 (w32 x)) ∧ w = w' := by
  have h := w32_in x
  have hw : wrap64 (wrap32 (IntKind.u64.wrap x % 4294967296)) = w32 x := by
    have : IntKind.u64.wrap x = x % 18446744073709551616 := by simp [IntKind.wrap, IntKind.signed, IntKind.bits]
    rw [this]; unfold wrap64 wrap32 w32; omega
  have Hw := Lib.hid hw
  clear hw h
  go_enter Try.func12, Try.ntmps12
  go_wp2
  go_ret
  simp [Hw.out]

set_option maxHeartbeats 400000 in
theorem truth_any (b : Bool) (w : World) : Calls Try.prog 26 #[.bool b] w fun e w' => e = .returned (.int .i64 (b2i b)) ∧ w = w' := by
  cases b
  all_goals
    go_enter Try.func26, Try.ntmps26
    go_wp2
    go_ret
    simp [b2i]

set_option maxHeartbeats 1000000 in
theorem operate_any (o a b : Int) (w : World) : Calls Try.prog 13 #[.int .i64 o, .int .i64 a, .int .i64 b] w fun e w' => e = .returned (.int .i64 (opv o a b)) ∧ w = w' := by
  have ha := w32_in a
  have hb := w32_in b
  unfold opv
  generalize hx : w32 a = x at *
  generalize hy : w32 b = y at *
  have Hx := Lib.hid hx
  have Hy := Lib.hid hy
  clear hx hy
  obtain ⟨ha0, ha1⟩ := ha
  obtain ⟨hb0, hb1⟩ := hb
  have hm := mul_in ha0 ha1 hb0 hb1
  have hd := tdiv_in (y := y) ha0 ha1
  by_cases h1 : o = 1
  · subst h1
    go_enter Try.func13, Try.ntmps13
    go_wp2_with fail
    refine (implWrap32_any _ _).mono ?_
    rintro e w1 ⟨rfl, rfl⟩
    rw [Hx.out]
    go_wp2_with fail
    refine (implWrap32_any _ _).mono ?_
    rintro e w1 ⟨rfl, rfl⟩
    rw [Hy.out]
    go_wp2_with fail
    refine (implWrap32_any _ _).mono ?_
    rintro e w1 ⟨rfl, rfl⟩
    go_wp2_with fail
    go_ret
    simp
  by_cases h2 : o = 2
  · subst h2
    go_enter Try.func13, Try.ntmps13
    go_wp2_with fail
    refine (implWrap32_any _ _).mono ?_
    rintro e w1 ⟨rfl, rfl⟩
    rw [Hx.out]
    go_wp2_with fail
    refine (implWrap32_any _ _).mono ?_
    rintro e w1 ⟨rfl, rfl⟩
    rw [Hy.out]
    go_wp2_with fail
    refine (implWrap32_any _ _).mono ?_
    rintro e w1 ⟨rfl, rfl⟩
    go_wp2_with fail
    go_ret
    simp
  by_cases h3 : o = 3
  · subst h3
    go_enter Try.func13, Try.ntmps13
    go_wp2_with fail
    refine (implWrap32_any _ _).mono ?_
    rintro e w1 ⟨rfl, rfl⟩
    rw [Hx.out]
    go_wp2_with fail
    refine (implWrap32_any _ _).mono ?_
    rintro e w1 ⟨rfl, rfl⟩
    rw [Hy.out]
    go_wp2_with fail
    refine (implWrap32_any _ _).mono ?_
    rintro e w1 ⟨rfl, rfl⟩
    go_wp2_with fail
    go_ret
    simp
  by_cases h4 : o = 4
  · subst h4
    by_cases hz : y = 0
    · subst hz
      go_enter Try.func13, Try.ntmps13
      go_wp2_with fail
      refine (implWrap32_any _ _).mono ?_
      rintro e w1 ⟨rfl, rfl⟩
      rw [Hx.out]
      go_wp2_with fail
      refine (implWrap32_any _ _).mono ?_
      rintro e w1 ⟨rfl, rfl⟩
      rw [Hy.out]
      go_wp2_with fail
      go_ret
      simp
    · have hz' : (y == 0) = false := by simpa using hz
      go_enter Try.func13, Try.ntmps13
      go_wp2_with fail
      refine (implWrap32_any _ _).mono ?_
      rintro e w1 ⟨rfl, rfl⟩
      rw [Hx.out]
      go_wp2_with fail
      refine (implWrap32_any _ _).mono ?_
      rintro e w1 ⟨rfl, rfl⟩
      rw [Hy.out]
      go_wp2_with fail
      refine (implWrap32_any _ _).mono ?_
      rintro e w1 ⟨rfl, rfl⟩
      go_wp2_with fail
      go_ret
      simp
  by_cases h5 : o = 5
  · subst h5
    go_enter Try.func13, Try.ntmps13
    go_wp2_with fail
    refine (implWrap32_any _ _).mono ?_
    rintro e w1 ⟨rfl, rfl⟩
    rw [Hx.out]
    go_wp2_with fail
    refine (implWrap32_any _ _).mono ?_
    rintro e w1 ⟨rfl, rfl⟩
    rw [Hy.out]
    go_wp2_with fail
    refine (truth_any _ _).mono ?_
    rintro e w1 ⟨rfl, rfl⟩
    go_wp2_with fail
    go_ret
    simp
  by_cases h6 : o = 6
  · subst h6
    go_enter Try.func13, Try.ntmps13
    go_wp2_with fail
    refine (implWrap32_any _ _).mono ?_
    rintro e w1 ⟨rfl, rfl⟩
    rw [Hx.out]
    go_wp2_with fail
    refine (implWrap32_any _ _).mono ?_
    rintro e w1 ⟨rfl, rfl⟩
    rw [Hy.out]
    go_wp2_with fail
    refine (truth_any _ _).mono ?_
    rintro e w1 ⟨rfl, rfl⟩
    go_wp2_with fail
    go_ret
    simp
  have e1 : (o == 1) = false := by simpa using h1
  have e2 : (o == 2) = false := by simpa using h2
  have e3 : (o == 3) = false := by simpa using h3
  have e4 : (o == 4) = false := by simpa using h4
  have e5 : (o == 5) = false := by simpa using h5
  have e6 : (o == 6) = false := by simpa using h6
  go_enter Try.func13, Try.ntmps13
  go_wp2_with fail
  refine (implWrap32_any _ _).mono ?_
  rintro e w1 ⟨rfl, rfl⟩
  rw [Hx.out]
  go_wp2_with fail
  refine (implWrap32_any _ _).mono ?_
  rintro e w1 ⟨rfl, rfl⟩
  rw [Hy.out]
  go_wp2_with fail
  go_ret
  simp

set_option maxHeartbeats 400000 in
theorem l00In_any (n lo hi : Int) (w : World) : Calls Try.prog 29 #[.int .i64 n, .int .i64 lo, .int .i64 hi] w fun e w' => e = .returned (.bool (inB n lo hi)) ∧ w = w' := by
  by_cases h1 : lo ≤ n
  · have e1 : inB n lo hi = decide (n ≤ hi) := by simp [inB, h1]
    have E1 := Lib.hid e1
    clear e1
    go_enter Try.func29, Try.ntmps29
    go_wp2
    go_ret
    simp [E1.out]
  · have e1 : inB n lo hi = false := by simp [inB, h1]
    have E1 := Lib.hid e1
    clear e1
    have h2 : decide (lo ≤ n) = false := by simpa using h1
    go_enter Try.func29, Try.ntmps29
    go_wp2
    go_ret
    simp [E1.out]
set_option maxHeartbeats 400000 in
theorem isOperator_any (n : Int) (w : World) : Calls Try.prog 27 #[.int .i64 n] w fun e w' => e = .returned (.bool (inB n 1 6)) ∧ w = w' := by
  by_cases h1 : 1 ≤ n
  · have e1 : inB n 1 6 = decide (n ≤ 6) := by simp [inB, h1]
    have E1 := Lib.hid e1
    clear e1
    go_enter Try.func27, Try.ntmps27
    go_wp2
    go_ret
    simp [E1.out]
  · have e1 : inB n 1 6 = false := by simp [inB, h1]
    have E1 := Lib.hid e1
    clear e1
    have h2 : decide (1 ≤ n) = false := by simpa using h1
    go_enter Try.func27, Try.ntmps27
    go_wp2
    go_ret
    simp [E1.out]

set_option maxHeartbeats 400000 in
theorem implOpText_any (o : Int) (w : World) : Calls Try.prog 16 #[.int .i64 o] w fun e w' => e = .returned (.string ⟨(opText o).toArray⟩) ∧ w = w' := by
  by_cases h : inB o 1 6 = true
  · obtain ⟨h0, h1⟩ := inB_t h
    have hc : o = 1 ∨ o = 2 ∨ o = 3 ∨ o = 4 ∨ o = 5 ∨ o = 6 := by omega
    rcases hc with rfl | rfl | rfl | rfl | rfl | rfl
    all_goals
      go_enter Try.func16, Try.ntmps16
      go_wp2_with fail
      refine (isOperator_any _ _).mono ?_
      rintro e w1 ⟨rfl, rfl⟩
      go_wp2_with fail
      go_ret
      exact ⟨rfl, rfl⟩
  · replace h : inB o 1 6 = false := by simpa using h
    have h2 := inB_f h
    have ht : opText o = [] := by
      unfold opText
      rw [if_neg (by omega), if_neg (by omega), if_neg (by omega), if_neg (by omega), if_neg (by omega), if_neg (by omega)]
    have HT := Lib.hid ht
    clear ht h2
    go_enter Try.func16, Try.ntmps16
    go_wp2_with fail
    refine (isOperator_any _ _).mono ?_
    rintro e w1 ⟨rfl, rfl⟩
    go_wp2_with fail
    go_ret
    rw [HT.out]
    exact ⟨rfl, rfl⟩

set_option maxHeartbeats 400000 in
theorem l01Operators_any (w : World) : Calls Try.prog 28 #[] w fun e w' => e = .returned (.slice (some ⟨w.heap.size, 0, none⟩) 6 6) ∧ Below w.heap.size w w' ∧
    (∀ j : Nat, j < 6 → w'.cell? ⟨w.heap.size, j, none⟩ = some (.string ⟨(opText (j + 1)).toArray⟩)) := by
  go_enter Try.func28, Try.ntmps28
  go_wp2
  go_ret
  refine ⟨rfl, (Below.refl _ _).alloc (Nat.le_refl _) _, fun j hj => ?_⟩
  rw [cell_of_row _ _ j _ _ (0, 0) (heap_alloc_new w _)]
  have hc : j = 0 ∨ j = 1 ∨ j = 2 ∨ j = 3 ∨ j = 4 ∨ j = 5 := by omega
  rcases hc with rfl | rfl | rfl | rfl | rfl | rfl <;> rfl
set_option maxHeartbeats 400000 in
theorem specOpText_any (o : Int) (w : World) : Calls Try.prog 18 #[.int .i64 o] w fun e w' => e = .returned (.string ⟨(opText o).toArray⟩) ∧ Below w.heap.size w w' := by
  by_cases h : inB o 1 6 = true
  · obtain ⟨h0, h1⟩ := inB_t h
    obtain ⟨j, rfl⟩ : ∃ j : Nat, o = (j : Int) + 1 := ⟨(o - 1).toNat, by omega⟩
    have hj : j < 6 := by omega
    go_enter Try.func18, Try.ntmps18
    go_wp2_with fail
    refine (l00In_any _ _ _ _).mono ?_
    rintro e w1 ⟨rfl, rfl⟩
    go_wp2_with fail
    refine (l01Operators_any _).mono ?_
    rintro e w1 ⟨rfl, hb1, hc⟩
    have hcj := hc j hj
    clear hc
    go_wp2_with fail
    go_ret
    exact ⟨rfl, hb1⟩
  · replace h : inB o 1 6 = false := by simpa using h
    have h2 := inB_f h
    have ht : opText o = [] := by
      unfold opText
      rw [if_neg (by omega), if_neg (by omega), if_neg (by omega), if_neg (by omega), if_neg (by omega), if_neg (by omega)]
    have HT := Lib.hid ht
    clear ht h2
    go_enter Try.func18, Try.ntmps18
    go_wp2_with fail
    refine (l00In_any _ _ _ _).mono ?_
    rintro e w1 ⟨rfl, rfl⟩
    go_wp2_with fail
    go_ret
    rw [HT.out]
    exact ⟨rfl, Below.refl _ _⟩

set_option maxHeartbeats 400000 in
theorem implOperatorOf_any (t : List UInt8) (w : World) : Calls Try.prog 15 #[.string ⟨t.toArray⟩] w fun e w' => e = .returned (.int .i64 (opOf t)) ∧ w = w' := by
  go_enter Try.func15, Try.ntmps15
  go_wp2_with fail
  go_loop [3] (fun i => ∃ k : Nat, k ≤ 6 ∧ i = .int .i64 (k + 1) ∧ Hid (∀ j : Nat, j < k → opIs t (j + 1) = false)) (fun i => 7 - (intOf i).toNat)
  case atStart => exact ⟨0, by omega, rfl, fun j hj => by omega⟩
  case round =>
    obtain ⟨k, hk, rfl, hb⟩ := hrel
    by_cases hlt : k < 6
    · cases hd : opIs t (k + 1)
      · go_wp2_with fail
        refine (implOpText_any _ _).mono ?_
        rintro e w1 ⟨rfl, rfl⟩
        have hd' : (opText (k + 1) == t) = false := hd
        go_wp2_with fail
        exact ⟨⟨k + 1, by omega, by go_num, snoc_no hb hd⟩, by simp [intOf]; omega⟩
      · go_wp2_with fail
        refine (implOpText_any _ _).mono ?_
        rintro e w1 ⟨rfl, rfl⟩
        have hd' : (opText (k + 1) == t) = true := hd
        go_wp2_with fail
        go_ret
        exact ⟨by rw [opOf_at hlt hd hb.out]; rfl, rfl⟩
    · have : k = 6 := by omega
      subst this
      go_wp2_with fail
      go_ret
      exact ⟨by rw [opOf_no hb.out]; rfl, rfl⟩
set_option maxHeartbeats 400000 in
theorem specOperatorOf_any (t : List UInt8) (w : World) : Calls Try.prog 17 #[.string ⟨t.toArray⟩] w fun e w' => e = .returned (.int .i64 (opOf t)) ∧ Below w.heap.size w w' := by
  go_enter Try.func17, Try.ntmps17
  go_wp2_with fail
  go_loopw [3] (fun i w' => ∃ k : Nat, k ≤ 6 ∧ i = .int .i64 k ∧ Hid (∀ j : Nat, j < k → opIs t (j + 1) = false) ∧ Below w.heap.size w w') (fun i _ => 6 - (intOf i).toNat)
  case atStart => exact ⟨0, by omega, rfl, (fun j hj => by omega), Below.refl _ _⟩
  case round =>
    obtain ⟨k, hk, rfl, hb, hB⟩ := hrel
    by_cases hlt : k < 6
    · cases hd : opIs t (k + 1)
      · go_wp2_with fail
        refine (l01Operators_any _).mono ?_
        rintro e w1 ⟨rfl, hb1, _⟩
        have hB1 := hB.trans (hb1.mono hB.size)
        clear hb1
        go_wp2_with fail
        refine (l01Operators_any _).mono ?_
        rintro e w2 ⟨rfl, hb2, hc⟩
        have hB2 := hB1.trans (hb2.mono hB1.size)
        have hcj := hc k hlt
        clear hc hb2
        have hd' : (opText (k + 1) == t) = false := hd
        go_wp2_with fail
        exact ⟨⟨k + 1, by omega, by go_num, snoc_no hb hd, hB2⟩, by simp [intOf]; omega⟩
      · go_wp2_with fail
        refine (l01Operators_any _).mono ?_
        rintro e w1 ⟨rfl, hb1, _⟩
        have hB1 := hB.trans (hb1.mono hB.size)
        clear hb1
        go_wp2_with fail
        refine (l01Operators_any _).mono ?_
        rintro e w2 ⟨rfl, hb2, hc⟩
        have hB2 := hB1.trans (hb2.mono hB1.size)
        have hcj := hc k hlt
        clear hc hb2
        have hd' : (opText (k + 1) == t) = true := hd
        go_wp2_with fail
        go_ret
        exact ⟨by rw [opOf_at hlt hd hb.out]; rfl, hB2⟩
    · have : k = 6 := by omega
      subst this
      go_wp2_with fail
      refine (l01Operators_any _).mono ?_
      rintro e w1 ⟨rfl, hb1, _⟩
      go_wp2_with fail
      go_ret
      exact ⟨by rw [opOf_no hb.out]; rfl, hB.trans (hb1.mono hB.size)⟩

end Go.Proofs.Ytjnchjmdnmabdaa
