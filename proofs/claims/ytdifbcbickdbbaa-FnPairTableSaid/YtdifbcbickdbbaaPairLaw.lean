/- The law of the table of pairs, walked. -/
import Derived.Test.YtdifbcbickdbbaaPairDraw
namespace Go.Proofs.Ytdifbcbickdbbaa
open Go Go.RowKit Go.Proofs Go.Tr

def CaseOf (c f g : Int) : Prop :=
  (c = 0 ∧ f = 0 ∧ g = 0) ∨ (c = 8 ∧ f = 0 ∧ g = 0) ∨
  ((c == 0) = false ∧ (c == 8) = false ∧ (f == 0) = false ∧ (g == 0) = false ∧
    ((c != 2) = false ∨ (c != 2) = true ∧ (c != 4) = false ∨ (c != 2) = true ∧ (c != 4) = true ∧ (f != 0) = true ∧ (f + g != 3) = false ∧ 0 ≤ f ∧ f ≤ 2 ∧ 0 ≤ g ∧ g ≤ 2))
theorem caseOf (ka la kb lb : Int) : ∃ c f g, pairClass ka la kb lb = c ∧ pairFirst ka la kb lb = f ∧ pairFirst kb lb ka la = g ∧ pairClass kb lb ka la = c ∧ CaseOf c f g := by
  refine ⟨_, _, _, rfl, rfl, rfl, pairClass_sym _ _ _ _, ?_⟩
  have h := pair_cases ka la kb lb
  generalize pairClass ka la kb lb = c at *
  generalize pairFirst ka la kb lb = f at *
  generalize pairFirst kb lb ka la = g at *
  simp only at h
  rcases h with h | h | h | h | h
  · exact .inl h
  · exact .inr (.inl h)
  all_goals
    refine .inr (.inr ⟨by simp; omega, by simp; omega, by simp; omega, by simp; omega, ?_⟩)
  · exact .inl (by simp; omega)
  · exact .inr (.inl ⟨by simp; omega, by simp; omega⟩)
  · exact .inr (.inr ⟨by simp; omega, by simp; omega, by simp; omega, by simp; omega, by omega, by omega, by omega, by omega⟩)

set_option maxHeartbeats 2000000 in
theorem pairTable_walk (A : Option Addr) (n c : Nat) (w : World) (hA : Bytes w A n) :
    Calls Try.prog 3 #[.slice A n c] w fun e w' => e = .returned (.bool true) ∧ Below w.heap.size w w' := by
  by_cases h0 : 4096 < n
  · go_enter Try.func3, Try.ntmps3
    go_wp2_with fail
    refine (f6big_yes _ _ _ _ h0).mono ?_
    rintro e w1 ⟨rfl, rfl⟩
    go_wp2_with fail
    go_ret
    exact ⟨rfl, Below.refl _ _⟩
  have hn : n ≤ 4096 := by omega
  go_enter Try.func3, Try.ntmps3
  go_wp2_with fail
  refine (f6big_no _ _ _ _ hn).mono ?_
  rintro e w1 ⟨rfl, rfl⟩
  go_wp2_with fail
  refine (drawPairClass_any A n c _ (by omega) hA).mono ?_
  rintro e w1 ⟨a, x, b, y, rfl, hb1⟩
  clear hA h0
  obtain ⟨cl, f, g, h1, h2, h3, h4, h5⟩ := caseOf a x b y
  have H1 := Lib.hid h1
  have H2 := Lib.hid h2
  have H3 := Lib.hid h3
  have H4 := Lib.hid h4
  clear h1 h2 h3 h4
  go_wp2_with fail
  refine (implPairClass_any _ _ _ _ _).mono ?_
  rintro e w2 ⟨rfl, rfl⟩
  rw [H1.out]
  go_wp2_with fail
  refine (implFirst_any _ _ _ _ _).mono ?_
  rintro e w2 ⟨rfl, rfl⟩
  rw [H2.out]
  go_wp2_with fail
  refine (specPairClass_any _ _ _ _ _).mono ?_
  rintro e w2 ⟨rfl, rfl⟩
  rw [H1.out]
  go_wp2_with fail
  refine (specFirst_any _ _ _ _ _).mono ?_
  rintro e w2 ⟨rfl, rfl⟩
  rw [H2.out]
  go_wp2_with fail
  refine (implPairClass_any _ _ _ _ _).mono ?_
  rintro e w2 ⟨rfl, rfl⟩
  rw [H4.out]
  go_wp2_with fail
  refine (implFirst_any _ _ _ _ _).mono ?_
  rintro e w2 ⟨rfl, rfl⟩
  rw [H3.out]
  clear H1 H2 H3 H4
  rcases h5 with ⟨rfl, rfl, rfl⟩ | ⟨rfl, rfl, rfl⟩ | ⟨g1, g2, g3, g4, h | ⟨h, h'⟩ | ⟨h, h', h'', h3, h4, h5, h6, h7⟩⟩
  all_goals
    go_wp2_with fail
    go_loopw [10] (fun i w' => ∃ k : Nat, k ≤ 9 ∧ i = .int .i64 k ∧ Below w.heap.size w w') (fun i _ => 9 - (intOf i).toNat)
    case atStart => exact ⟨0, by omega, rfl, hb1⟩
    case round =>
      obtain ⟨k, hk, rfl, hb⟩ := hrel
      by_cases hlt : k < 9
      · have hd : decide ((k : Int) ≤ 8) = true := by simp; omega
        go_wp2_with fail
        go_loopw [11] (fun i w' => ∃ j : Nat, j ≤ 9 ∧ i = .int .i64 j ∧ Below w.heap.size w w') (fun i _ => 9 - (intOf i).toNat)
        case atStart => exact ⟨0, by omega, rfl, hb⟩
        case round =>
          obtain ⟨j, hj, rfl, hb⟩ := hrel
          by_cases hlt2 : j < 9
          · have ec := Lib.hid (fan_class (i := k) (k := j) (by omega) (by omega) (by omega) (by omega))
            have ed := Lib.hid (fan_dup (i := k) (k := j) (by omega) (by omega) (by omega) (by omega))
            by_cases e : k = j
            · subst e
              go_wp2_with fail
              refine (implPairClass_any _ _ _ _ _).mono ?_
              rintro e w2 ⟨rfl, rfl⟩
              rw [ec.out]
              simp only [if_true]
              go_wp2_with fail
              refine (implDuplicates_any _ _ _ _).mono ?_
              rintro e w2 ⟨rfl, rfl⟩
              rw [ed.out]
              go_wp2_with fail
              go_roundw
              case rel => exact ⟨k+1, by omega, by go_num, hb⟩
              case measure => simp [intOf]; omega
            · have e1 : ((k : Int) == j) = false := by simp; omega
              have e2 : ((k : Int) != j) = true := by simp; omega
              go_wp2_with fail
              refine (implPairClass_any _ _ _ _ _).mono ?_
              rintro e w2 ⟨rfl, rfl⟩
              rw [ec.out]
              rw [if_neg (by omega)]
              go_wp2_with fail
              refine (implDuplicates_any _ _ _ _).mono ?_
              rintro e w2 ⟨rfl, rfl⟩
              rw [ed.out]
              go_wp2_with fail
              go_roundw
              case rel => exact ⟨j+1, by omega, by go_num, hb⟩
              case measure => simp [intOf]; omega
          · obtain rfl : j = 9 := by omega
            go_wp2_with fail
            exact ⟨⟨k+1, by omega, by go_num, hb⟩, by simp [intOf]; omega⟩
      · obtain rfl : k = 9 := by omega
        go_wp2_with fail
        go_ret
        exact ⟨rfl, hb⟩
end Go.Proofs.Ytdifbcbickdbbaa
