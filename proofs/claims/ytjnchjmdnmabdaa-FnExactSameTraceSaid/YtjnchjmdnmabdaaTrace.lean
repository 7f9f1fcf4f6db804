/- What the functions of events return: two lists of events are compared, and a list is copied. -/
import Derived.Test.YtjnchjmdnmabdaaProg
import Derived.Test.YtjnchjmdnmabdaaLib
namespace Go.Proofs.Ytjnchjmdnmabdaa
open Go Go.RowKit Go.Proofs Go.Tr

structure Ev where
  a : Int
  b : Int
  cl : Int
  fi : Int
  co : Int
deriving DecidableEq, Inhabited

def Ev.cells (e : Ev) : List Value := [.int .i64 e.a, .int .i64 e.b, .int .i64 e.cl, .int .i64 e.fi, .int .i64 e.co]
def Ev.enc (e : Ev) : List D := e.cells.map D.v
theorem Ev.enc_len (e : Ev) : e.enc.length = 5 := rfl
theorem Ev.us {w : World} {e : Ev} {bs us} (h : TN w e.enc bs us) : bs = [] ∧ us = [.int .i64 e.a, .int .i64 e.b, .int .i64 e.cl, .int .i64 e.fi, .int .i64 e.co] := TN.of_scalars h
theorem Ev.at_ {w : World} {xs : List Ev} {bs : List Nat} {A : Option Addr} {n c : Nat} (h : T1 w (.sl n (xs.flatMap Ev.enc)) bs (.slice A n c)) (hm : xs.length = n) {k : Nat} (hk : k < n) :
    ∃ b off e, A = some ⟨b, off, none⟩ ∧ b < w.heap.size ∧ Hid (xs[k]? = some e) ∧ w.cell? ⟨b, off + k * 5, none⟩ = some (.int .i64 e.a) ∧ w.cell? ⟨b, off + k * 5 + 1, none⟩ = some (.int .i64 e.b)
     ∧ w.cell? ⟨b, off + k * 5 + 2, none⟩ = some (.int .i64 e.cl) ∧ w.cell? ⟨b, off + k * 5 + 3, none⟩ = some (.int .i64 e.fi) ∧ w.cell? ⟨b, off + k * 5 + 4, none⟩ = some (.int .i64 e.co) := by
  obtain ⟨_, b, off, b1, b2, b3, us, hA, _, hb, hc, ht⟩ := T1.at_ Ev.enc_len h hm hk
  obtain ⟨_, rfl⟩ := Ev.us ht
  exact ⟨b, off, xs[k], hA, hb, List.getElem?_eq_getElem (hm ▸ hk), hc 0 _ rfl, hc 1 _ rfl, hc 2 _ rfl, hc 3 _ rfl, hc 4 _ rfl⟩
theorem Ev.of_row {w : World} {g t n : Nat} {xs : List Ev} (h : RowAt w g t n 5 (xs.flatMap Ev.cells)) (hn : Hid (xs.length = n)) (hm : n ≤ maxLen) : ∃ bs, T1 w (.sl n (xs.flatMap Ev.enc)) bs (.slice (some ⟨g, 0, none⟩) n n) := by
  rcases Nat.eq_zero_or_pos n with rfl | h0
  · have : xs = [] := List.eq_nil_of_length_eq_zero hn.out
    subst this
    exact ⟨_, T1.empty _⟩
  · exact ⟨_, T1.of_row h h0 hm (TN.flats Ev.cells (fun _ => rfl) xs)⟩

def evEq (x y : Ev) : Bool := decide (x = y)
theorem evEq_t {x y : Ev} (h : evEq x y = true) : x = y := by simpa [evEq] using h
theorem evEq_f {x y : Ev} (h : evEq x y = false) : x ≠ y := by simpa [evEq] using h
theorem ev_beq (x y : Ev) : (x.a == y.a && x.b == y.b && x.cl == y.cl && x.fi == y.fi && x.co == y.co) = evEq x y := by
  unfold evEq; cases x; cases y; rw [Bool.eq_iff_iff]; simp [Ev.mk.injEq, and_assoc]

theorem evP : Try.prog.stoodInHeld 37 = false := by kernel_rfl
theorem evG : Try.prog.eqGuardType Try.prog.depth 37 = false := by kernel_rfl
theorem evF : (Try.prog.fieldsOf 37).toList.map (fun f => (f.name, f.type, f.offset)) = [("A", 2, 0), ("B", 2, 1), ("Class", 2, 2), ("First", 2, 3), ("Count", 2, 4)] := by kernel_rfl
theorem evU : Try.prog.underlying 37 = some (.struct (Try.prog.fieldsOf 37)) := by kernel_rfl
theorem evI : (Try.prog.info? 37).map (fun i => (i.zero, i.size, i.bytes)) = some (some (.agg #[.int .i64 0, .int .i64 0, .int .i64 0, .int .i64 0, .int .i64 0]), 5, 40) := by kernel_rfl

theorem evNeq (w : World) (x y : Ev) : (binOp .neq 37 (.agg #[.int .i64 x.a, .int .i64 x.b, .int .i64 x.cl, .int .i64 x.fi, .int .i64 x.co]) (.agg #[.int .i64 y.a, .int .i64 y.b, .int .i64 y.cl, .int .i64 y.fi, .int .i64 y.co])).run Try.prog w
   = .ok (.bool (!evEq x y)) w := by
  have h := run_eqFields_ints w 9998 _ _ evU evP evF (fun t ht => by simp only [List.map_cons, List.map_nil, List.mem_cons, List.not_mem_nil, or_false, or_self] at ht; subst ht; exact Try.underlying2) [x.a, x.b, x.cl, x.fi, x.co] [y.a, y.b, y.cl, y.fi, y.co] rfl rfl
  simp only [List.map_cons, List.map_nil] at h
  rw [run_neq_struct, h, ← ev_beq]
  simp [eqInts, Result.andThen, Bool.and_assoc]

set_option maxHeartbeats 400000 in
theorem szEventS_any (A : Option Addr) (n c : Nat) (left : Int) (w : World) (h1 : -1 ≤ left) (h2 : left ≤ 1048576) (hn : n ≤ maxLen) :
    Calls Try.prog 5 #[.slice A n c, .int .i64 left] w fun e w' => e = .returned (.int .i64 (if left - n < 0 then -1 else left - n)) ∧ w = w' := by
  unfold maxLen at hn
  by_cases h : left - n < 0
  · go_enter Try.func5, Try.ntmps5
    go_wp2
    go_ret
    simp
  · go_enter Try.func5, Try.ntmps5
    go_wp2
    go_ret
    simp

set_option maxHeartbeats 400000 in
theorem l39Same_any (A B : Option Addr) (n m c d: Nat) (xs ys : List Ev) (b1 b2) (w : World) (hx : T1 w (.sl n (xs.flatMap Ev.enc)) b1 (.slice A n c)) (hy : T1 w (.sl m (ys.flatMap Ev.enc)) b2 (.slice B m d)) (hn : Hid (xs.length = n)) (hm : Hid (ys.length = m)) (hn' : n ≤ maxLen) (hm' : m ≤ maxLen):
    Calls Try.prog 19 #[.slice A n c, .slice B m d] w
     fun e w' => e = .returned (.bool (decide (xs = ys))) ∧ Below w.heap.size w w' := by
    unfold maxLen at hn' hm'
    have evNeq := evNeq
    have evG := evG
    by_cases hnm : n = m
    · subst hnm
      go_enter Try.func19, Try.ntmps19
      go_wp2
      go_loopw [5] (fun i w' => ∃ k : Nat, k ≤ n ∧ i = .int .i64 k ∧ Hid (xs.take k = ys.take k) ∧ Below w.heap.size w w') (fun i _ => n - (intOf i).toNat)
      case atStart => exact ⟨0, Nat.zero_le _, rfl, rfl, Below.refl _ _⟩
      case round =>
        obtain ⟨k, hk, rfl, ht, hb⟩ := hrel
        by_cases hlt : k < n
        · obtain ⟨ba, oa, x, rfl, hba, hxk, x0, x1, x2, x3, x4⟩ := Ev.at_ (hx.below hb) hn.out hlt
          obtain ⟨bb, ob, y, rfl, hbb, hyk, y0, y1, y2, y3, y4⟩ := Ev.at_ (hy.below hb) hm.out hlt
          by_cases hd : evEq x y = true
          · go_wp2
            go_quiet (fail)
            go_wp2
            exact ⟨⟨k+1, by omega, by go_num, take_eq_snoc ht hxk hyk (evEq_t hd), hb.drewN _⟩, by simp [intOf]; omega⟩
          · replace hd : evEq x y = false := by simpa using hd
            go_wp2
            go_quiet (fail)
            go_wp2
            go_ret
            exact ⟨by simp [ne_at hxk hyk (evEq_f hd)], hb.drewN _⟩
        · have : k = n := by omega
          subst this
          go_wp2
          go_ret
          exact ⟨by simp [take_eq_all ht hn hm], hb⟩
    · have := ne_len hn hm hnm
      go_enter Try.func19, Try.ntmps19
      go_wp2
      go_ret
      exact ⟨by simp [this], Below.refl _ _⟩

set_option maxHeartbeats 400000 in
theorem equalEv_any (A B : Option Addr) (n m c d: Nat) (xs ys : List Ev) (b1 b2) (w : World) (hx : T1 w (.sl n (xs.flatMap Ev.enc)) b1 (.slice A n c)) (hy : T1 w (.sl m (ys.flatMap Ev.enc)) b2 (.slice B m d)) (hn : Hid (xs.length = n)) (hm : Hid (ys.length = m)) (hn' : n ≤ maxLen) (hm' : m ≤ maxLen):
    Calls Try.prog 21 #[.slice A n c, .slice B m d] w
     fun e w' => e = .returned (.bool (decide (xs = ys))) ∧ Below w.heap.size w w' := by
    unfold maxLen at hn' hm'
    have evNeq := evNeq
    have evG := evG
    by_cases hnm : n = m
    · subst hnm
      go_enter Try.func21, Try.ntmps21
      go_wp2
      go_loopw [5, 13] (fun _ i w' => ∃ k : Nat, k ≤ n ∧ i = .int .i64 k ∧ Hid (xs.take k = ys.take k) ∧ Below w.heap.size w w') (fun _ i _ => n - (intOf i).toNat)
      case atStart => exact ⟨0, Nat.zero_le _, rfl, rfl, Below.refl _ _⟩
      case round =>
        obtain ⟨k, hk, rfl, ht, hb⟩ := hrel
        by_cases hlt : k < n
        · obtain ⟨ba, oa, x, rfl, hba, hxk, x0, x1, x2, x3, x4⟩ := Ev.at_ (hx.below hb) hn.out hlt
          obtain ⟨bb, ob, y, rfl, hbb, hyk, y0, y1, y2, y3, y4⟩ := Ev.at_ (hy.below hb) hm.out hlt
          by_cases hd : evEq x y = true
          · go_wp2
            go_quiet (fail)
            go_wp2
            exact ⟨⟨k+1, by omega, by go_num, take_eq_snoc ht hxk hyk (evEq_t hd), hb.drewN _⟩, by simp [intOf]; omega⟩
          · replace hd : evEq x y = false := by simpa using hd
            go_wp2
            go_quiet (fail)
            go_wp2
            go_ret
            exact ⟨by simp [ne_at hxk hyk (evEq_f hd)], hb.drewN _⟩
        · have : k = n := by omega
          subst this
          go_wp2
          go_ret
          exact ⟨by simp [take_eq_all ht hn hm], hb⟩
    · have := ne_len hn hm hnm
      go_enter Try.func21, Try.ntmps21
      go_wp2
      go_ret
      exact ⟨by simp [this], Below.refl _ _⟩

set_option maxHeartbeats 400000 in
theorem eqEvent_any (x y : Ev) (w : World) :
    Calls Try.prog 22 #[.agg #[.int .i64 x.a, .int .i64 x.b, .int .i64 x.cl, .int .i64 x.fi, .int .i64 x.co], .agg #[.int .i64 y.a, .int .i64 y.b, .int .i64 y.cl, .int .i64 y.fi, .int .i64 y.co]] w
     fun e w' => e = .returned (.bool (evEq x y)) ∧ Below w.heap.size w w' := by
    rw [← ev_beq]
    go_enter Try.func22, Try.ntmps22
    go_wp2
    all_goals go_ret
    all_goals refine ⟨?_, ((Below.refl _ _).alloc (Nat.le_refl _) _).alloc (by simp) _⟩
    all_goals simp_all
set_option maxHeartbeats 400000 in
theorem eqEventS_any (A B : Option Addr) (n m c d: Nat) (xs ys : List Ev) (b1 b2) (w : World) (hx : T1 w (.sl n (xs.flatMap Ev.enc)) b1 (.slice A n c)) (hy : T1 w (.sl m (ys.flatMap Ev.enc)) b2 (.slice B m d)) (hn : Hid (xs.length = n)) (hm : Hid (ys.length = m)) (hn' : n ≤ maxLen) (hm' : m ≤ maxLen):
    Calls Try.prog 9 #[.slice A n c, .slice B m d] w
     fun e w' => e = .returned (.bool (decide (xs = ys))) ∧ Below w.heap.size w w' := by
    unfold maxLen at hn' hm'
    by_cases hnm : n = m
    · subst hnm
      go_enter Try.func9, Try.ntmps9
      go_wp2
      go_loopw [5] (fun i w' => ∃ k : Nat, k ≤ n ∧ i = .int .i64 k ∧ Hid (xs.take k = ys.take k) ∧ Below w.heap.size w w') (fun i _ => n - (intOf i).toNat)
      case atStart => exact ⟨0, Nat.zero_le _, rfl, rfl, Below.refl _ _⟩
      case round =>
        obtain ⟨k, hk, rfl, ht, hb⟩ := hrel
        by_cases hlt : k < n
        · obtain ⟨ba, oa, x, rfl, hba, hxk, x0, x1, x2, x3, x4⟩ := Ev.at_ (hx.below hb) hn.out hlt
          obtain ⟨bb, ob, y, rfl, hbb, hyk, y0, y1, y2, y3, y4⟩ := Ev.at_ (hy.below hb) hm.out hlt
          by_cases hd : evEq x y = true
          · go_wp2
            have hext := ExtOf.cell (w := wr)
            refine wp_region_ext_lit (by kernel_rfl) (by kernel_rfl) ?_
            repeat (go_big_quiet_step (exact Calls.quiet_ext (eqEvent_any _ _ _)))
            refine wpQuiet_nil ?_
            rintro _ ⟨e, rfl⟩
            have hbe := hb.trans (e.h.mono hb.size)
            clear hext
            go_wp2
            exact ⟨⟨k+1, by omega, by go_num, take_eq_snoc ht hxk hyk (evEq_t hd), hbe⟩, by simp [intOf]; omega⟩
          · replace hd : evEq x y = false := by simpa using hd
            go_wp2
            have hext := ExtOf.cell (w := wr)
            refine wp_region_ext_lit (by kernel_rfl) (by kernel_rfl) ?_
            repeat (go_big_quiet_step (exact Calls.quiet_ext (eqEvent_any _ _ _)))
            refine wpQuiet_nil ?_
            rintro _ ⟨e, rfl⟩
            have hbe := hb.trans (e.h.mono hb.size)
            clear hext
            go_wp2
            go_ret
            exact ⟨by simp [ne_at hxk hyk (evEq_f hd)], hbe⟩
        · have : k = n := by omega
          subst this
          go_wp2
          go_ret
          exact ⟨by simp [take_eq_all ht hn hm], hb⟩
    · have := ne_len hn hm hnm
      go_enter Try.func9, Try.ntmps9
      go_wp2
      go_ret
      exact ⟨by simp [this], Below.refl _ _⟩
set_option maxHeartbeats 400000 in
theorem toEvent_any (x : Ev) (w : World) :
    Calls Try.prog 20 #[.agg #[.int .i64 x.a, .int .i64 x.b, .int .i64 x.cl, .int .i64 x.fi, .int .i64 x.co]] w
     fun e w' => e = .returned (.agg #[.int .i64 x.a, .int .i64 x.b, .int .i64 x.cl, .int .i64 x.fi, .int .i64 x.co]) ∧ Below w.heap.size w w' := by
    go_enter Try.func20, Try.ntmps20
    go_wp2
    refine bodyPost_ret (v := .agg #[.int .i64 x.a, .int .i64 x.b, .int .i64 x.cl, .int .i64 x.fi, .int .i64 x.co]) (by simp [results, Try.results20, go_sem]) rfl ⟨rfl, ?_⟩
    exact (((Below.refl _ _).alloc (Nat.le_refl _) _).alloc (by simp) _).alloc (by simp; omega) _
set_option maxHeartbeats 400000 in
theorem toEventS_any (A : Option Addr) (n c: Nat) (xs : List Ev) (b1) (w : World) (hx : T1 w (.sl n (xs.flatMap Ev.enc)) b1 (.slice A n c)) (hn : Hid (xs.length = n)) (hn' : n ≤ 1048576) :
    Calls Try.prog 7 #[.slice A n c] w
     fun e w' => e = .returned (.slice (some ⟨w.heap.size, 0, none⟩) n n) ∧ Below w.heap.size w w' ∧ RowAt w' w.heap.size 37 n 5 (xs.flatMap Ev.cells) := by
  obtain ⟨i0, hi0, hz0, hz1, hz2⟩ := info_parts evI
  have hmk := fun W : World => run_make (P := Try.prog) W 25 37 i0 _ Try.underlying25 hi0 hz0 .i64 .i64 n n (by omega) (by omega) (by rw [hz2]; omega) (by omega)
  simp only [hz1] at hmk
  have hsz : (Try.prog.info? 37).map (·.size) = some 5 := by rw [hi0]; simp [hz1]
  go_enter Try.func7, Try.ntmps7
  go_wp2
  go_loopw [4] (fun i w' => ∃ k : Nat, k ≤ n ∧ i = .int .i64 k ∧ Below w.heap.size w w' ∧ RowAt w' w.heap.size 37 n 5 ((xs.take k).flatMap Ev.cells)) (fun i _ => n - (intOf i).toNat)
  case atStart => exact ⟨0, by omega, rfl, (Below.refl _ _).alloc (Nat.le_refl _) _, by simpa using RowAt.new _ _ 37 n 5 (size_madeCells _ _)⟩
  case round =>
        obtain ⟨k, hk, rfl, hb, hrow⟩ := hrel
        by_cases hlt : k < n
        · obtain ⟨ba, oa, x, rfl, hba, hxk, x0, x1, x2, x3, x4⟩ := Ev.at_ (hx.below hb) hn.out hlt
          have hvl := flat_take_len Ev.cells 5 (fun _ => rfl) hn hk
          go_wp2_with (first
            | (go_at_call 20; refine (toEvent_any _ _).mono ?_; rintro e w1 ⟨rfl, hb1⟩)
            | (refine wpList_store_next rfl 37 (.tmp 21) (.tmp 20) rfl w.heap.size 37 n 5 k ((xs.take k).flatMap Ev.cells) _ rfl rfl (hrow.below hb1) hvl.out hlt hsz rfl rfl ?_
               intro w2 hr2 hb2 hs2 ho2))
          go_roundw
          case rel => exact ⟨k+1, by omega, by go_num, (hb.trans (hb1.mono hb.size)).trans hb2, by rw [flat_snoc Ev.cells hxk]; exact hr2⟩
          case measure => simp [intOf]; omega
        · have : k = n := by omega
          subst this
          go_wp2
          go_ret
          exact ⟨rfl, hb, by rw [List.take_of_length_le (by rw [hn.out]; exact Nat.le_refl _)] at hrow; exact hrow⟩
set_option maxHeartbeats 400000 in
theorem specSameTrace_any (A B : Option Addr) (n m c d: Nat) (xs ys : List Ev) (b1 b2) (w : World) (hx : T1 w (.sl n (xs.flatMap Ev.enc)) b1 (.slice A n c)) (hy : T1 w (.sl m (ys.flatMap Ev.enc)) b2 (.slice B m d)) (hn : Hid (xs.length = n)) (hm : Hid (ys.length = m)) (hn' : n ≤ maxLen) (hm' : m ≤ maxLen):
    Calls Try.prog 6 #[.slice A n c, .slice B m d] w
     fun e w' => e = .returned (.bool (decide (xs = ys))) ∧ Below w.heap.size w w' := by
  go_enter Try.func6, Try.ntmps6
  go_wp2_with (go_at_call 19; refine (l39Same_any A B n m c d xs ys b1 b2 _ hx hy hn hm hn' hm').mono ?_; rintro e w1 ⟨rfl, hb1⟩)
  go_ret
  exact ⟨rfl, hb1⟩
set_option maxHeartbeats 400000 in
theorem implSameTrace_any (A B : Option Addr) (n m c d: Nat) (xs ys : List Ev) (b1 b2) (w : World) (hx : T1 w (.sl n (xs.flatMap Ev.enc)) b1 (.slice A n c)) (hy : T1 w (.sl m (ys.flatMap Ev.enc)) b2 (.slice B m d)) (hn : Hid (xs.length = n)) (hm : Hid (ys.length = m)) (hn' : n ≤ maxLen) (hm' : m ≤ maxLen):
    Calls Try.prog 8 #[.slice A n c, .slice B m d] w
     fun e w' => e = .returned (.bool (decide (xs = ys))) ∧ Below w.heap.size w w' := by
  go_enter Try.func8, Try.ntmps8
  go_wp2_with (go_at_call 21; refine (equalEv_any A B n m c d xs ys b1 b2 _ hx hy hn hm hn' hm').mono ?_; rintro e w1 ⟨rfl, hb1⟩)
  go_ret
  exact ⟨rfl, hb1⟩

theorem szEventS_neg (A : Option Addr) (n c : Nat) (left : Int) (w : World) (h1 : -1 ≤ left) (h2 : left ≤ 1048576) (hn : n ≤ maxLen) (h : left - n < 0) :
    Calls Try.prog 5 #[.slice A n c, .int .i64 left] w fun e w' => e = .returned (.int .i64 (-1)) ∧ w = w' := by
  have := szEventS_any A n c left w h1 h2 hn
  rwa [if_pos h] at this
theorem szEventS_pos (A : Option Addr) (n c : Nat) (left : Int) (w : World) (h1 : -1 ≤ left) (h2 : left ≤ 1048576) (hn : n ≤ maxLen) (h : ¬ left - n < 0) :
    Calls Try.prog 5 #[.slice A n c, .int .i64 left] w fun e w' => e = .returned (.int .i64 (left - n)) ∧ w = w' := by
  have := szEventS_any A n c left w h1 h2 hn
  rwa [if_neg h] at this

/-- A copy of the events, and what it reads as. -/
theorem toEventS_t1 (A : Option Addr) (n c: Nat) (xs : List Ev) (b1) (w : World) (hx : T1 w (.sl n (xs.flatMap Ev.enc)) b1 (.slice A n c)) (hn : Hid (xs.length = n)) (hn' : n ≤ 1048576) :
    Calls Try.prog 7 #[.slice A n c] w
     fun e w' => ∃ g bs, e = .returned (.slice (some ⟨g, 0, none⟩) n n) ∧ Below w.heap.size w w' ∧ T1 w' (.sl n (xs.flatMap Ev.enc)) bs (.slice (some ⟨g, 0, none⟩) n n) :=
  (toEventS_any A n c xs b1 w hx hn hn').mono fun e w' ⟨he, hb, hr⟩ => by
    obtain ⟨bs, ht⟩ := Ev.of_row hr hn (by unfold maxLen; omega)
    exact ⟨_, bs, he, hb, ht⟩

set_option maxHeartbeats 1000000 in
theorem law_walk (A B : Option Addr) (n m c d: Nat) (xs ys : List Ev) (b1 b2) (w : World) (hx : T1 w (.sl n (xs.flatMap Ev.enc)) b1 (.slice A n c)) (hy : T1 w (.sl m (ys.flatMap Ev.enc)) b2 (.slice B m d)) (hn : Hid (xs.length = n)) (hm : Hid (ys.length = m)) (hn' : n ≤ maxLen) (hm' : m ≤ maxLen) :
    Calls Try.prog 3 #[.slice A n c, .slice B m d] w fun e w' => e = .returned (.bool true) ∧ Below w.heap.size w w' := by
  by_cases h1 : (1048576 : Int) - n < 0
  · go_enter Try.func3, Try.ntmps3
    go_wp2_with (go_at_call 5; refine (szEventS_neg _ _ _ _ _ (by omega) (by omega) hn' h1).mono ?_; rintro e w1 ⟨rfl, rfl⟩)
    go_ret
    exact ⟨rfl, Below.refl _ _⟩
  by_cases h2 : (1048576 : Int) - n - m < 0
  · go_enter Try.func3, Try.ntmps3
    go_wp2_with fail
    refine (szEventS_pos _ _ _ _ _ (by omega) (by omega) hn' (by omega)).mono ?_
    rintro e w1 ⟨rfl, rfl⟩
    go_wp2_with fail
    refine (szEventS_neg _ _ _ _ _ (by omega) (by omega) hm' h2).mono ?_
    rintro e w1 ⟨rfl, rfl⟩
    go_wp2_with fail
    go_ret
    exact ⟨rfl, Below.refl _ _⟩
  have hn1 : n ≤ 1048576 := by omega
  have hm1 : m ≤ 1048576 := by omega
  have hn2 : n ≤ maxLen := by unfold maxLen; omega
  have hm2 : m ≤ maxLen := by unfold maxLen; omega
  go_enter Try.func3, Try.ntmps3
  go_wp2_with fail
  refine (szEventS_pos _ _ _ _ _ (by omega) (by omega) hn' (by omega)).mono ?_
  rintro e w1 ⟨rfl, rfl⟩
  go_wp2_with fail
  refine (szEventS_pos _ _ _ _ _ (by omega) (by omega) hm' (by omega)).mono ?_
  rintro e w1 ⟨rfl, rfl⟩
  go_wp2_with fail
  refine (toEventS_t1 _ _ _ xs b1 _ hx hn hn1).mono ?_
  rintro e w1 ⟨g1, c1, rfl, hb1, t1⟩
  go_wp2_with fail
  refine (toEventS_t1 _ _ _ ys b2 _ (hy.below hb1) hm hm1).mono ?_
  rintro e w2 ⟨g2, c2, rfl, hb2, t2⟩
  go_wp2_with fail
  refine (specSameTrace_any _ _ _ _ _ _ xs ys _ _ _ (t1.below hb2) t2 hn hm hn2 hm2).mono ?_
  rintro e w3 ⟨rfl, hb3⟩
  have b3 : Below w.heap.size w w3 := (hb1.trans (hb2.mono hb1.size)).trans (hb3.mono (Nat.le_trans hb1.size hb2.size))
  clear hb1 hb2 hb3 t1 t2
  go_wp2_with fail
  refine (toEventS_t1 _ _ _ xs b1 _ (hx.below b3) hn hn1).mono ?_
  rintro e w4 ⟨g1, c1, rfl, hb4, t1⟩
  have b4 := b3.trans (hb4.mono b3.size)
  go_wp2_with fail
  refine (toEventS_t1 _ _ _ ys b2 _ (hy.below b4) hm hm1).mono ?_
  rintro e w5 ⟨g2, c2, rfl, hb5, t2⟩
  have b5 := b4.trans (hb5.mono b4.size)
  replace t1 := t1.below hb5
  go_wp2_with fail
  refine (implSameTrace_any _ _ _ _ _ _ xs ys _ _ _ t1 t2 hn hm hn2 hm2).mono ?_
  rintro e w6 ⟨rfl, hb6⟩
  have b6 := b5.trans (hb6.mono b5.size)
  replace t1 := t1.below hb6
  replace t2 := t2.below hb6
  clear hb4 hb5 hb6
  go_wp2_with fail
  refine (toEventS_t1 _ _ _ xs b1 _ (hx.below b6) hn hn1).mono ?_
  rintro e w7 ⟨g3, c3, rfl, hb7, t3⟩
  have b7 := b6.trans (hb7.mono b6.size)
  replace t1 := t1.below hb7
  replace t2 := t2.below hb7
  go_wp2_with fail
  refine (eqEventS_any _ _ _ _ _ _ xs xs _ _ _ t1 t3 hn hn hn2 hn2).mono ?_
  rintro e w8 ⟨rfl, hb8⟩
  have b8 := b7.trans (hb8.mono b7.size)
  replace t2 := t2.below hb8
  go_wp2_with fail
  refine (toEventS_t1 _ _ _ ys b2 _ (hy.below b8) hm hm1).mono ?_
  rintro e w9 ⟨g4, c4, rfl, hb9, t4⟩
  have b9 := b8.trans (hb9.mono b8.size)
  replace t2 := t2.below hb9
  go_wp2_with fail
  refine (eqEventS_any _ _ _ _ _ _ ys ys _ _ _ t2 t4 hm hm hm2 hm2).mono ?_
  rintro e w10 ⟨rfl, hb10⟩
  have b10 := b9.trans (hb10.mono b9.size)
  go_wp2_with fail
  go_ret
  exact ⟨rfl, b10⟩
end Go.Proofs.Ytjnchjmdnmabdaa
