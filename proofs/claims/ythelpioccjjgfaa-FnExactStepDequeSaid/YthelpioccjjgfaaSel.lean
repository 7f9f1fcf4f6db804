/- Selections of numbers; rows of one call's own as results. No program in it. -/
import Derived.Test.YthelpioccjjgfaaApp
import Derived.Test.YthelpioccjjgfaaMk
set_option linter.unusedSimpArgs false
set_option linter.unusedVariables false
namespace Go.Tr
open Go Go.RowKit

def selTo (n : Nat) (p : Nat → Bool) : List Int := ((List.range n).filter p).map (fun (k : Nat) => (k : Int))
theorem selTo_0 (p : Nat → Bool) : selTo 0 p = [] := rfl
theorem selTo_t {n : Nat} {p : Nat → Bool} (h : p n = true) : selTo (n + 1) p = selTo n p ++ [(n : Int)] := by
  unfold selTo; rw [List.range_succ, List.filter_append]; simp [h]
theorem selTo_f {n : Nat} {p : Nat → Bool} (h : p n = false) : selTo (n + 1) p = selTo n p := by
  unfold selTo; rw [List.range_succ, List.filter_append]; simp [h]
theorem selTo_len (n : Nat) (p : Nat → Bool) : (selTo n p).length ≤ n := by
  unfold selTo
  have := List.length_filter_le p (List.range n)
  simpa using this
theorem selTo_congr {n : Nat} {p q : Nat → Bool} (h : ∀ k, k < n → p k = q k) : selTo n p = selTo n q := by
  unfold selTo
  rw [List.filter_congr (q := q) (fun k hk => h k (by simpa using hk))]
def intV (l : List Int) : List Value := l.map (Value.int .i64)
theorem intV_app (a b : List Int) : intV (a ++ b) = intV a ++ intV b := by simp [intV]
theorem intV_TN (w : World) : ∀ l : List Int, TN w (l.flatMap intE) [] (intV l)
  | [] => TN.done
  | x :: l => TN.v_mk rfl (intV_TN w l)
theorem TN.nobs {w : World} : ∀ {ds : List D} {us vs : List Value} {bs : List Nat}, TN w ds [] us → TN w ds bs vs → bs = []
  | [], us, vs, bs, _, h => (TN.nil.1 h).2
  | d :: ds, us, vs, bs, h1, h2 => by
    obtain ⟨b1, b2, u, us', rfl, hb, t1, t2⟩ := TN.cons.1 h1
    obtain ⟨c1, c2, v, vs', rfl, rfl, s1, s2⟩ := TN.cons.1 h2
    have hb1 : b1 = [] := by simp at hb; exact hb.1
    have hb2 : b2 = [] := by simp at hb; exact hb.2
    subst hb1 hb2
    have h3 := TN.nobs t2 s2
    have h4 : c1 = [] := by
      cases d with
      | v x => exact (T1.v.1 s1).2.1
      | sl n es =>
        unfold T1 at t1 s1
        obtain ⟨_, _, _, _, _, ht⟩ := t1
        obtain ⟨_, _, _, _, _, hs⟩ := s1
        rcases ht with ⟨h0, _, _⟩ | ⟨_, _, _, _, _, _, hc, _⟩
        · rcases hs with ⟨_, _, h⟩ | ⟨h, _⟩
          · exact h
          · omega
        · cases hc
    rw [h3, h4]; rfl
/-- A row of the call's own is data of its own. -/
theorem ownsRow_res {w : World} {base : Nat} {e : TypeId} {s : Nat} {v : Value} {n : Nat} {xs : List Value} (h : w.ownsRow base e s v n xs) {ds : List D} (ht : TN w ds [] xs) (hl : Hid (xs.length = n * s)) :
    ∃ A c bs', v = .slice A n c ∧ T1 w (.sl n ds) bs' (.slice A n c) ∧ Own base w bs' := by
  rcases h.2 with ⟨rfl, rfl⟩ | ⟨g, cap, cur, rfl, hb, hgg, hnc, hcm, hcs, htk⟩
  · have h0 : xs = [] := List.eq_nil_of_length_eq_zero (by simpa using h.1)
    subst h0
    have hd : ds = [] := List.eq_nil_of_length_eq_zero (by simpa using ht.length.symm)
    subst hd
    exact ⟨none, 0, [], rfl, T1.empty none, Own.nil _ _⟩
  · rcases Nat.eq_zero_or_pos n with rfl | hn
    · have h0 : xs = [] := List.eq_nil_of_length_eq_zero (by simpa using h.1)
      subst h0
      have hd : ds = [] := List.eq_nil_of_length_eq_zero (by simpa using ht.length.symm)
      subst hd
      refine ⟨some ⟨g, 0, none⟩, cap, [], rfl, ?_, Own.nil _ _⟩
      unfold T1
      exact ⟨_, _, rfl, hnc, hcm, .inl ⟨rfl, rfl, rfl⟩⟩
    · refine ⟨some ⟨g, 0, none⟩, cap, [g], rfl, ?_, ⟨by simp, by simp only [List.mem_singleton, forall_eq]; exact ⟨hb, cur, e, hgg⟩⟩⟩
      unfold T1
      refine ⟨_, _, rfl, hnc, hcm, .inr ⟨hn, g, 0, xs, [], rfl, rfl, (Array.getElem?_eq_some_iff.1 hgg).1, fun j u hu => ?_, ht⟩⟩
      rw [Nat.zero_add, cell_of_row w g j cur e (0, 0) hgg]
      rw [← htk, List.getElem?_take] at hu
      split at hu
      · simpa using hu
      · cases hu
theorem ownsRow_resB {w : World} {base : Nat} {e : TypeId} {s : Nat} {v : Value} {n : Nat} {xs : List Value} (h : w.ownsRow base e s v n xs) {ds : List D} (ht : TN w ds [] xs) (hl : Hid (xs.length = n * s)) :
    ∃ A c bs', v = .slice A n c ∧ T1 w (.sl n ds) bs' (.slice A n c) ∧ Own base w bs' ∧ ∀ b ∈ bs', v.ownBlock = some b := by
  rcases h.2 with ⟨rfl, rfl⟩ | ⟨g, cap, cur, rfl, hb, hgg, hnc, hcm, hcs, htk⟩
  · obtain ⟨A, c, bs', h1, h2, h3⟩ := ownsRow_res h ht hl
    injection h1 with hA _ hc
    subst hA hc
    refine ⟨none, 0, [], rfl, ?_, Own.nil _ _, by simp⟩
    have h0 : xs = [] := List.eq_nil_of_length_eq_zero (by simpa using h.1)
    subst h0
    have hd : ds = [] := List.eq_nil_of_length_eq_zero (by simpa using ht.length.symm)
    subst hd
    exact T1.empty none
  · obtain ⟨A, c, bs', h1, h2, h3⟩ := ownsRow_res h ht hl
    injection h1 with hA _ hc
    subst hA hc
    refine ⟨_, _, bs', rfl, h2, h3, fun b hb => ?_⟩
    rcases Nat.eq_zero_or_pos n with rfl | hn
    · have h4 := h2
      unfold T1 at h4
      obtain ⟨A', c', he, _, _, h5⟩ := h4
      rcases h5 with ⟨_, _, rfl⟩ | ⟨h6, _⟩
      · cases hb
      · omega
    · have h4 := h2
      unfold T1 at h4
      obtain ⟨A', c', he, _, _, h5⟩ := h4
      rcases h5 with ⟨h6, _, _⟩ | ⟨_, b', off, us, bs2, hA', rfl, _, _, ht2⟩
      · omega
      · injection he with he
        rw [← he] at hA'
        injection hA' with hA'
        injection hA' with hb' _
        have hl2 := ht2.length
        have hbs2 : bs2 = [] := by
          have : us = xs ∨ True := .inr trivial
          exact (TN.nobs ht ht2)
        subst hbs2
        simp at hb
        subst hb
        simp [Value.ownBlock, hb']
theorem ownsRow_ints {w : World} {base : Nat} {e : TypeId} {v : Value} {l : List Int} (h : w.ownsRow base e 1 v l.length (intV l)) :
    ∃ A c bs', v = .slice A l.length c ∧ T1 w (.sl l.length (l.flatMap intE)) bs' (.slice A l.length c) ∧ Own base w bs' :=
  ownsRow_res h (intV_TN w l) (by show _ = _; simp [intV])
end Go.Tr
