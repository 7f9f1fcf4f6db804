/- The table of the classes of pairs. -/
import Derived.Test.YtdifbcbickdbbaaSrc
import Derived.Test.YtdifbcbickdbbaaAgents
namespace Go.Proofs.Ytdifbcbickdbbaa
open Go Go.RowKit Go.Proofs Go.Tr

theorem results_tmp4 {fn : Func} {t u v x : Tmp} (h : fn.results = #[.tmp t, .tmp u, .tmp v, .tmp x]) (tmps : Array Value) (P : Program) (w : World) :
    (results fn tmps).run P w = .ok (.tuple #[tmps.getD t undef, tmps.getD u undef, tmps.getD v undef, tmps.getD x undef]) w := by
  simp [results, h]
/-- A drawn number of which nothing is asked. -/
abbrev AnInt (v : Value) : Prop := ∃ x, v = .int .i64 x

set_option maxHeartbeats 400000 in
theorem l10DrawKind_any (g : Nat) (A : Option Addr) (n c k : Nat) (w : World) (hn : n ≤ 100000000) (hk : k + 4 ≤ 100000000) (h : Src w g A n c k) :
    Calls Try.prog 160 #[.pointer (some ⟨g, 0, none⟩)] w (Drew g A n c k 4 w AnInt) := by
  go_enter Try.func160, Try.ntmps160
  go_wp2_with fail
  refine (one_any g A n c k _ _ hn (by omega) h).mono ?_
  rintro e w1 ⟨v, k1, rfl, ⟨b, rfl⟩, hk1, hk2, hs1, hb1⟩
  cases b
  · go_wp2_with fail
    refine (pick_any g A n c k1 _ _ hn (by omega) hs1).mono ?_
    rintro e w2 ⟨v, k2, rfl, ⟨r, rfl, hr0, hr1⟩, hk3, hk4, hs2, hb2⟩
    have hr2 : r ≤ 11 := by omega
    clear hr1
    go_wp2_with fail
    go_ret
    exact ⟨_, k2, rfl, ⟨_, rfl⟩, by omega, by omega, hs2, hb1.trans hb2⟩
  · go_wp2_with fail
    refine (among_lit g A n c k1 [-1, 0, 13, -9223372036854775808, 9223372036854775807] 5 _ (fun _ => True) w1 hn (by omega) hs1 rfl (by omega) (by omega) (by simp)).mono ?_
    rintro e w2 ⟨v, k2, rfl, ⟨r, rfl, hr0⟩, hk3, hk4, hs2, hb2⟩
    go_wp2_with fail
    go_ret
    exact ⟨_, k2, rfl, ⟨_, rfl⟩, by omega, by omega, hs2, hb1.trans hb2⟩

set_option maxHeartbeats 400000 in
theorem l10DrawLevel_any (g : Nat) (A : Option Addr) (n c k : Nat) (x : Int) (w : World) (hn : n ≤ 100000000) (hk : k + 6 ≤ 100000000) (h : Src w g A n c k) :
    Calls Try.prog 162 #[.pointer (some ⟨g, 0, none⟩), .int .i64 x] w (Drew g A n c k 6 w AnInt) := by
  go_enter Try.func162, Try.ntmps162
  go_wp2_with fail
  refine (one_any g A n c k _ _ hn (by omega) h).mono ?_
  rintro e w1 ⟨v, k1, rfl, ⟨b, rfl⟩, hk1, hk2, hs1, hb1⟩
  cases b
  · cases hl : hasLevB x
    · go_wp2_with (first | (go_at_call 241; refine (specHasLevel_any _ _).mono ?_; rintro e w1 ⟨rfl, rfl⟩))
      go_ret
      exact ⟨_, k1, rfl, ⟨_, rfl⟩, by omega, by omega, hs1, hb1⟩
    · go_wp2_with (first | (go_at_call 241; refine (specHasLevel_any _ _).mono ?_; rintro e w1 ⟨rfl, rfl⟩))
      refine (one_any g A n c k1 _ _ hn (by omega) hs1).mono ?_
      rintro e w2 ⟨v, k2, rfl, ⟨b, rfl⟩, hk3, hk4, hs2, hb2⟩
      cases b
      all_goals
        go_wp2_with fail
        refine (pick_any g A n c k2 _ _ hn (by omega) hs2).mono ?_
        rintro e w3 ⟨v, k3, rfl, ⟨r, rfl, hr0, hr1⟩, hk5, hk6, hs3, hb3⟩
        go_wp2_with fail
        go_ret
        exact ⟨_, k3, rfl, ⟨_, rfl⟩, by omega, by omega, hs3, hb1.trans (hb2.trans hb3)⟩
  · go_wp2_with fail
    refine (among_lit g A n c k1 [-1, 9, 8, 1, -9223372036854775808, 9223372036854775807] 6 _ (fun _ => True) w1 hn (by omega) hs1 rfl (by omega) (by omega) (by simp)).mono ?_
    rintro e w2 ⟨v, k2, rfl, ⟨r, rfl, hr0⟩, hk3, hk4, hs2, hb2⟩
    go_wp2_with fail
    go_ret
    exact ⟨_, k2, rfl, ⟨_, rfl⟩, by omega, by omega, hs2, hb1.trans hb2⟩

/-- What a function leaves that draws two kinds and two levels. -/
abbrev Four (w : World) (e : Ending) (w' : World) : Prop := ∃ a x b y, e = .returned (.tuple #[.int .i64 a, .int .i64 x, .int .i64 b, .int .i64 y]) ∧ Below w.heap.size w w'

set_option maxHeartbeats 1000000 in
theorem l10DrawPair_any (A : Option Addr) (n c : Nat) (w : World) (hn : n ≤ 100000) (h : Bytes w A n) :
    Calls Try.prog 64 #[.slice A n c] w (Four w) := by
  go_enter Try.func64, Try.ntmps64
  go_wp2_with fail
  refine (l00From_any A n c _ h.out).mono ?_
  rintro e w0 ⟨g, rfl, hg, hs0, hb0⟩
  go_wp2_with fail
  refine (l10DrawKind_any g A n c 0 _ (by omega) (by omega) hs0).mono ?_
  rintro e w1 ⟨v, k1, rfl, ⟨a, rfl⟩, hk1, hk2, hs1, hb1⟩
  go_wp2_with fail
  refine (l10DrawKind_any g A n c k1 _ (by omega) (by omega) hs1).mono ?_
  rintro e w2 ⟨v, k2, rfl, ⟨b, rfl⟩, hk3, hk4, hs2, hb2⟩
  go_wp2_with fail
  refine (one_any g A n c k2 _ _ (by omega) (by omega) hs2).mono ?_
  rintro e w3 ⟨v, k3, rfl, ⟨t, rfl⟩, hk5, hk6, hs3, hb3⟩
  cases t
  · go_wp2_with fail
    refine (l10DrawLevel_any g A n c k3 _ _ (by omega) (by omega) hs3).mono ?_
    rintro e w4 ⟨v, k4, rfl, ⟨x, rfl⟩, hk7, hk8, hs4, hb4⟩
    go_wp2_with fail
    refine (l10DrawLevel_any g A n c k4 _ _ (by omega) (by omega) hs4).mono ?_
    rintro e w5 ⟨v, k5, rfl, ⟨y, rfl⟩, hk9, hk10, hs5, hb5⟩
    go_wp2_with fail
    ((try simp only [Exit.inBlock, Exit.then]); refine bodyPost_ret (results_tmp4 rfl _ _ _) rfl ?_)
    exact ⟨a, x, b, y, rfl, hb0.trans ((hb1.trans (hb2.trans (hb3.trans (hb4.trans hb5)))).below hb0.size hg)⟩
  · go_wp2_with fail
    refine (among_lit g A n c k3 [4, 2, 6, 12, 9] 5 _ (fun _ => True) w3 (by omega) (by omega) hs3 rfl (by omega) (by omega) (by simp)).mono ?_
    rintro e w3' ⟨v, k3', rfl, ⟨a', rfl, _⟩, hk7', hk8', hs3', hb3'⟩
    go_wp2_with fail
    refine (l10DrawLevel_any g A n c k3' _ _ (by omega) (by omega) hs3').mono ?_
    rintro e w4 ⟨v, k4, rfl, ⟨x, rfl⟩, hk7, hk8, hs4, hb4⟩
    go_wp2_with fail
    refine (l10DrawLevel_any g A n c k4 _ _ (by omega) (by omega) hs4).mono ?_
    rintro e w5 ⟨v, k5, rfl, ⟨y, rfl⟩, hk9, hk10, hs5, hb5⟩
    go_wp2_with fail
    ((try simp only [Exit.inBlock, Exit.then]); refine bodyPost_ret (results_tmp4 rfl _ _ _) rfl ?_)
    exact ⟨a', x, b, y, rfl, hb0.trans ((hb1.trans (hb2.trans (hb3.trans (hb3'.trans (hb4.trans hb5))))).below hb0.size hg)⟩

set_option maxHeartbeats 400000 in
theorem drawPairClass_any (A : Option Addr) (n c : Nat) (w : World) (hn : n ≤ 100000) (h : Bytes w A n) :
    Calls Try.prog 13 #[.slice A n c] w (Four w) := by
  go_enter Try.func13, Try.ntmps13
  go_wp2_with fail
  refine (l10DrawPair_any A n c _ hn h).mono ?_
  rintro e w1 ⟨a, x, b, y, rfl, hb1⟩
  go_wp2_with fail
  ((try simp only [Exit.inBlock, Exit.then]); refine bodyPost_ret (results_tmp4 rfl _ _ _) rfl ?_)
  exact ⟨a, x, b, y, rfl, hb1⟩
end Go.Proofs.Ytdifbcbickdbbaa
