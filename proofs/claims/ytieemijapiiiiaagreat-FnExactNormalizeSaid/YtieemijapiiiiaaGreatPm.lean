/- Core terms: StepCore of both sides. -/
import Derived.Test.YtieemijapiiiiaaGreatPl
import Derived.Test.YtieemijapiiiiaaGreatPe
import Derived.Test.YtieemijapiiiiaaGreatDCr
set_option linter.unusedSimpArgs false
set_option linter.unusedVariables false
namespace Go.Tr
open Go Go.RowKit
/-- Cells whose slices are rows of the call's own, in order. -/
def agM : List SV → List Tok → List D → Prop
  | [], ts, ds => ts = [] ∧ ds = []
  | .int k i :: l, ts, ds => ∃ ds', ds = .v (.int k i) :: ds' ∧ agM l ts ds'
  | .raw (.slice none 0 0) :: l, ts, ds => ∃ ds', ds = .sl 0 [] :: ds' ∧ agM l ts ds'
  | .sl g :: l, .row h _ _ u xs _ :: ts, ds => g = h ∧ ∃ ds', ds = .sl (List.length (α := El u) xs) (List.flatMap (enc u) xs) :: ds' ∧ agM l ts ds'
  | _, _, _ => False
theorem agM_ok {cx : Cx} {β : Nat → Value} {w : World} {lo : Nat} : ∀ {l : List SV} {ts : List Tok} {ds : List D} {us : List Value} {G : List Nat}, agM l ts ds → Dens cx β l us → Sep w (ts.map (Tok.res cx β)) G → (∀ b ∈ G, lo ≤ b) → ∃ bs, TN w ds bs us ∧ Own lo w bs ∧ ∀ b ∈ bs, b ∈ G := by
  intro l
  induction l with
  | nil =>
    intro ts ds us G h hd hs hG
    unfold agM at h
    obtain ⟨rfl, rfl⟩ := h
    unfold Dens at hd
    subst hd
    exact ⟨[], TN.done, Own.nil _ _, by simp⟩
  | cons s l ih =>
    intro ts ds us G h hd hs hG
    unfold Dens at hd
    obtain ⟨v, vs, rfl, h1, h2⟩ := hd
    unfold agM at h
    split at h
    · rename_i heq; cases heq
    · rename_i heq
      injection heq with e1 e2
      subst e1 e2
      obtain ⟨ds', rfl, h⟩ := h
      obtain ⟨bs, k1, k2, k3⟩ := ih h h2 hs hG
      rw [den_int h1]
      exact ⟨bs, TN.v_mk rfl k1, k2, k3⟩
    · rename_i heq
      injection heq with e1 e2
      subst e1 e2
      obtain ⟨ds', rfl, h⟩ := h
      obtain ⟨bs, k1, k2, k3⟩ := ih h h2 hs hG
      unfold Den at h1
      obtain ⟨rfl, _⟩ := h1
      refine ⟨[] ++ bs, TN.sl_mk (T1.empty none) k1, by simpa using k2, by simpa using k3⟩
    · rename_i g l' hh t s' u xs us' ts' heq
      injection heq with e1 e2
      subst e1 e2
      obtain ⟨rfl, ds', rfl, h⟩ := h
      obtain ⟨F, G', rfl, ⟨hsz, bs0, raw, rfl, hg, _⟩, q2, q3⟩ := hs
      obtain ⟨bs, k1, k2, k3⟩ := ih h h2 q2 fun b hb => hG b (List.mem_append_right _ hb)
      obtain ⟨A, c, q, j1, j2, j4, j5⟩ := hg.resF (by subst hsz; exact encs_lenW xs)
      unfold Den at h1
      obtain ⟨rfl, _⟩ := h1
      refine ⟨q ++ bs, (by rw [j1]; exact TN.sl_mk j2 k1), ⟨List.nodup_append.2 ⟨j4.1, k2.1, fun x hx y hy e => q3 x (j5 x hx) (e ▸ k3 y hy)⟩, fun b hb => ?_⟩, fun b hb => ?_⟩
      · rcases List.mem_append.1 hb with hb | hb
        · exact ⟨hG b (List.mem_append_left _ (j5 b hb)), (j4.2 b hb).2⟩
        · exact k2.2 b hb
      · rcases List.mem_append.1 hb with hb | hb
        · exact List.mem_append_left _ (j5 b hb)
        · exact List.mem_append_right _ (k3 b hb)
    · exact h.elim
theorem sizL_set : ∀ (l : List Cor) (i : Nat) (t : Cor) (a : Nat), i < l.length → sizL (l.set i t) a + sizT (elt (dflt uCor) l ((i : Nat) : Int)) = sizL l a + sizT t
  | [], i, t, a, h => by simp at h
  | s :: l, 0, t, a, h => by
    show sizL (t :: l) a + sizT s = sizL (s :: l) a + sizT t
    rw [sizL, sizL]
    have e : ∀ (l : List Cor) (p q : Nat), sizL l (p + q) = sizL l p + q := fun l => by
      induction l with
      | nil => intro p q; simp [sizL]
      | cons x l ih => intro p q; rw [sizL, sizL, show p + q + sizT x = p + sizT x + q by omega, ih]
    rw [e l a (sizT t), e l a (sizT s)]; omega
  | s :: l, i + 1, t, a, h => by
    have h' : i < l.length := by simpa using h
    show sizL (s :: l.set i t) a + sizT (elt (dflt uCor) (s :: l) ((i + 1 : Nat) : Int)) = sizL (s :: l) a + sizT t
    have := sizL_set l i t (a + sizT s) h'
    rw [eltN h'] at this
    rw [sizL, sizL, eltN h]
    exact this
theorem siz_set {c : Cor} {i : Nat} (t : Cor) (h : i < c.kids.length) : sizT (mkC (cKd c) (cVl c) (cDt c) (c.kids.set i t)) + sizT (kidN c ((i : Nat) : Int)) = sizT c + sizT t := by
  rw [sizT_node, sizT_kids c]
  exact sizL_set c.kids i t 1 h
theorem cho_siz : ∀ (l : List Cor) (f : Cor) (a : Nat), sizT (l.foldl appC f) + a ≤ sizT f + sizL l a + l.length
  | [], f, a => by simp [sizL]
  | t :: l, f, a => by
    have h := cho_siz l (appC f t) (a + sizT t)
    have e : sizT (appC f t) = 1 + sizT f + sizT t := by unfold appC; rw [sizT_node]; simp [sizL]
    rw [sizL, List.length_cons]
    show sizT (l.foldl appC (appC f t)) + a ≤ _
    omega
theorem stOk_defs {b : Bok} {c : Cor} (h : stOk b c = true) : ∀ d ∈ b, okC d = true := by
  unfold stOk okB at h
  simp only [Bool.and_eq_true, List.all_eq_true] at h
  exact fun d hd => (h.1.2 d hd).1
theorem con_siz {b : Bok} (hb : ∀ d ∈ b, okC d = true) {c : Cor} (hc : okC c = true) (hn : nmT (b.length : Nat) c = true) (hk : (kindF c != 0) = true) : sizT (conC b (kindF c) c) ≤ sizT c + 1000000 := by
  have hg := (okC_iff.1 hc).1
  have h0 : kindF c ≠ 0 := by simpa using hk
  rcases kind_all c with k | k | k | k | k
  · exact absurd k h0
  · obtain ⟨a5, b4⟩ := kind1 k
    have hl := ar5 hg a5
    have m0 : kidN c 0 ∈ c.kids := kidM (c := c) (i := 0) (by omega)
    have m1 : kidN c 1 ∈ c.kids := kidM (c := c) (i := 1) (by omega)
    have o0 := okC_kid hc m0
    have o1 := okC_kid hc m1
    have hl4 := ar4 (okC_iff.1 o0).1 b4
    have m2 : kidN (kidN c 0) 0 ∈ (kidN c 0).kids := kidM (c := kidN c 0) (i := 0) (by omega)
    have o2 := okC_kid o0 m2
    rw [k]
    have := inst_siz o2 o1
    show sizT (inst (kidN (kidN c 0) 0) (kidN c 1)) ≤ _
    exact Nat.le_trans this (by omega)
  · rw [k]
    show sizT (numC _) ≤ _
    unfold numC; rw [sizT_node]; show 1 ≤ _; omega
  · rw [k]
    rcases kind3 k with ⟨a9, b8, hv⟩ | ⟨a10, b2⟩
    · have hl := ar9 hg a9
      have m0 : kidN c 0 ∈ c.kids := kidM (c := c) (i := 0) (by omega)
      have s0 := sizT_kid m0
      have s1 := sizT_kids (kidN c 0)
      have s2 := sizT_len (kidN c 0)
      have hsc := (okC_iff.1 hc).2.2
      rw [show conC b 3 c = choC (elt (0 : Int) (cDt c) (cVl (kidN c 0))) (kidN c 0).kids by unfold conC; rw [a9]; rfl]
      have := cho_siz (kidN c 0).kids (refC (elt (0 : Int) (cDt c) (cVl (kidN c 0)))) 1
      have e : sizT (refC (elt (0 : Int) (cDt c) (cVl (kidN c 0)))) = 1 := by unfold refC; rw [sizT_node]; rfl
      unfold choC
      omega
    · have a9 : (cKd c == 9) = false := by rw [eq_of_beq a10]; rfl
      rw [show conC b 3 c = refC (elt (0 : Int) (cDt c) (bif cVl (kidN c 0) == 0 then 1 else 0)) by unfold conC swiC; rw [a9]; rfl]
      unfold refC; rw [sizT_node]; show 1 ≤ _; omega
  · rw [k]
    obtain ⟨i, hi, hil, hi11⟩ := at_ok hg k
    have mi := kidM hil
    have hv := ar11 (good_kid hg mi) hi11
    have hvn := nm_ref (nm_kid hn mi) hi11
    obtain ⟨m, hm⟩ : ∃ m : Nat, cVl (kidN c ((i : Nat) : Int)) = (m : Nat) := ⟨(cVl (kidN c ((i : Nat) : Int))).toNat, by omega⟩
    have hmem : elt (dflt uCor) b ((m : Nat) : Int) ∈ b := eltM (by omega)
    have hs := (okC_iff.1 (hb _ hmem)).2.2
    rw [show conC b 4 c = mkC (cKd c) (cVl c) (cDt c) (c.kids.set i (elt (dflt uCor) b ((m : Nat) : Int))) by unfold conC expC; rw [hi, hm]; rfl]
    have := siz_set (elt (dflt uCor) b ((m : Nat) : Int)) hil
    omega
theorem step_siz0 {b : Bok} (hb : ∀ d ∈ b, okC d = true) : ∀ (c : Cor), okC c = true → nmT (b.length : Nat) c = true → ∀ {t : Cor} {k : Int}, stepT b c = some (t, k) → sizT t ≤ sizT c + 1000000 := by
  refine Tree.ind (fun c ih => ?_)
  intro hc hn t k h
  cases hk : (kindF c != 0) with
  | true =>
    rw [stepT_red hk] at h
    injection h with h
    injection h with h _
    rw [← h]
    exact con_siz hb hc hn hk
  | false =>
    by_cases hall : ∀ s ∈ c.kids, stepT b s = none
    · rw [stepT_kids hk, stepL_none hall] at h; cases h
    · obtain ⟨j, hj, hbef, t', k', hjs⟩ := first_some hall
      rw [stepT_kids hk, stepL_some hj hbef hjs] at h
      injection h with h
      injection h with h _
      have h3 : sizT t' ≤ sizT (kidN c ((j : Nat) : Int)) + 1000000 := ih _ (kidM hj) (okC_kid hc (kidM hj)) (nm_kid hn (kidM hj)) hjs
      have h2 := siz_set t' hj
      rw [← h]
      show sizT (mkC (cKd c) (cVl c) (cDt c) (c.kids.set j t')) ≤ _
      omega
theorem step_siz {b : Bok} (hb : ∀ d ∈ b, okC d = true) (c : Cor) (hc : okC c = true) (hp : Prt (b.length : Nat) c 0) {t : Cor} {k : Int} (h : stepT b c = some (t, k)) : sizT t ≤ 1000400 := by
  have h1 := step_siz0 hb c hc hp.nm h
  have h2 := (okC_iff.1 hc).2.2
  omega
abbrev zRaw : List SV := [.int .i64 0, .int .i64 0, .raw (.slice none 0 0), .raw (.slice none 0 0)]
end Go.Tr
namespace Go.Proofs.YtieemijapiiiiaaGreat
open Go Go.RowKit Go.Proofs Go.Tr
end Go.Proofs.YtieemijapiiiiaaGreat
