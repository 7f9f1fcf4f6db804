/- Core terms: drawn terms. -/
import Derived.Test.YtieemijapiiiiaaOk
import Derived.Test.YtieemijapiiiiaaWc
set_option linter.unusedSimpArgs false
set_option linter.unusedVariables false
namespace Go.Tr
def kbN : Nat → Nat
  | 0 => 20
  | n + 1 => 3 * kbN n + 40
def sbN : Nat → Nat
  | 0 => 1
  | n + 1 => 3 * sbN n + 4
theorem kb_ge : ∀ n, 20 ≤ kbN n
  | 0 => Nat.le_refl _
  | n + 1 => by have := kb_ge n; show 20 ≤ 3 * kbN n + 40; omega
theorem sb_ge : ∀ n, 1 ≤ sbN n
  | 0 => Nat.le_refl _
  | n + 1 => by show 1 ≤ 3 * sbN n + 4; omega
mutual
/-- Nodes and numbers of a term. -/
def wT : Cor → Nat
  | .node x l => wL l (1 + x.2.2.length)
def wL : List Cor → Nat → Nat
  | [], a => a
  | t :: l, a => wL l (a + wT t)
end
theorem wL_ge : ∀ (l : List Cor) (a : Nat), a ≤ wL l a
  | [], a => by unfold wL; omega
  | t :: l, a => by
    unfold wL
    have := wL_ge l (a + wT t)
    omega
theorem wT_1 (t : Cor) : 1 ≤ wT t := by
  cases t with
  | node x l => unfold wT; have := wL_ge l (1 + x.2.2.length); omega
theorem wL_mem {l : List Cor} {a : Nat} {k : Cor} (h : k ∈ l) : wT k + a ≤ wL l a := by
  induction l generalizing a with
  | nil => simp at h
  | cons t l ih =>
    unfold wL
    rcases List.mem_cons.1 h with rfl | h
    · have := wL_ge l (a + wT k); omega
    · have := ih h (a := a + wT t); omega
theorem wL_len : ∀ (l : List Cor) (a : Nat), a + l.length ≤ wL l a
  | [], a => by unfold wL; simp
  | t :: l, a => by
    unfold wL
    have h := wL_len l (a + wT t)
    have := wT_1 t
    simp only [List.length_cons]
    omega
theorem wT_len (c : Cor) : 1 + (cDt c).length + c.kids.length ≤ wT c := by
  cases c with
  | node x l => show 1 + x.2.2.length + l.length ≤ wT (.node x l); unfold wT; exact wL_len l _
theorem wT_kid {c k : Cor} (h : k ∈ c.kids) : wT k + 1 ≤ wT c := by
  cases c with
  | node x l => rw [show wT (.node x l) = wL l (1 + x.2.2.length) from by rw [wT]]; have := wL_mem (a := 1 + x.2.2.length) (show k ∈ l from h); omega
/-- Some terms drawn one after the other. -/
def itC (C : DS → Cor) (D : DS → DS) : Nat → DS → List Cor
  | 0, _ => []
  | m + 1, d => C d :: itC C D m (D d)
def itD (D : DS → DS) : Nat → DS → DS
  | 0, d => d
  | m + 1, d => itD D m (D d)
def pkD (code : List Int) (n : Int) : Nat → DS → DS
  | 0, d => d
  | m + 1, d => pkD code n m (pk code d n).2
theorem pkD_k (code : List Int) (n : Int) : ∀ (m : Nat) (d : DS), (pkD code n m d).k ≤ d.k + 2 * m
  | 0, d => by show d.k ≤ d.k + 2 * 0; omega
  | m + 1, d => by
    have h1 := pk_k code d n
    have h2 := pkD_k code n m (pk code d n).2
    show (pkD code n m (pk code d n).2).k ≤ _
    omega
theorem it_b (C : DS → Cor) (D : DS → DS) (B s k : Nat) (h : ∀ d : DS, d.k + k ≤ B → wT (C d) ≤ s ∧ (D d).k ≤ d.k + k) : ∀ (m : Nat) (d : DS) (a : Nat), d.k + m * k ≤ B → wL (itC C D m d) a ≤ a + m * s ∧ (itD D m d).k ≤ d.k + m * k
  | 0, d, a, _ => by unfold itC itD wL; omega
  | m + 1, d, a, hk => by
    rw [Nat.succ_mul] at hk
    obtain ⟨h1, h2⟩ := h d (by omega)
    obtain ⟨h3, h4⟩ := it_b C D B s k h m (D d) (a + wT (C d)) (by omega)
    unfold itC itD wL
    rw [Nat.succ_mul, Nat.succ_mul]
    omega
theorem intLt4 {x : Int} (h1 : 0 ≤ x) (h2 : x < 4) : ∃ m : Nat, m ≤ 3 ∧ x = (m : Nat) := ⟨x.toNat, by omega, by omega⟩
end Go.Tr
namespace Go.Proofs.Ytieemijapiiiiaa
open Go Go.RowKit Go.Proofs Go.Tr
theorem okDrawC : callOk Try.prog 34 = true := by kernel_rfl
/-- A term may be drawn. -/
def DrawP (code : List Int) (n : Nat) : Prop := ∀ (free : Int) (d : DS), 1 ≤ free → free + (n : Nat) ≤ 1000 → d.k + kbN n ≤ 99990000 → ∃ (c : Cor) (d' : DS), wT c ≤ sbN n ∧ d'.k ≤ d.k + kbN n ∧ FCallG Try.prog 34 [.ptr 10000 0, .int .i64 free, .int .i64 (n : Nat)] (tSrc code d) (.agg (cSV c)) (tSrc code d')
theorem srcEq (code : List Int) (d : DS) : svEqL [.rsl uByte code, .int .i64 (d.k : Nat), .int .u64 d.s] [.rsl uByte code, .int .i64 (d.k : Nat), .int .u64 d.s] := ⟨rfl, ⟨rfl, rfl⟩, ⟨rfl, rfl⟩, trivial⟩
theorem cc0R (k v : Int) : FCallG Try.prog 38 [.int .i64 k, .int .i64 v, .raw (.slice none 0 0)] [] (.agg [.int .i64 k, .int .i64 v, .raw (.slice none 0 0), .raw (.slice none 0 0)]) [] := by
  refine FCallG.intro (nt := 11) ti_ok mixed okCC Try.func38 rfl rfl rfl rfl rfl rfl ?_
  refine fin [] (And.intro ?_ trivial)
  exact rfl
theorem ccR (k v : Int) (l : List Cor) : FCallG Try.prog 38 [.int .i64 k, .int .i64 v, .rsl uCor l] [] (.agg [.int .i64 k, .int .i64 v, .raw (.slice none 0 0), .rsl uCor l]) [] := by
  refine FCallG.intro (nt := 11) ti_ok mixed okCC Try.func38 rfl rfl rfl rfl rfl rfl ?_
  refine fin [] (And.intro ?_ trivial)
  exact rfl
theorem drawP_all (code : List Int) (m : Nat) (ih : DrawP code m) (free : Int) (hf : 1 ≤ free) (hf2 : free + (m : Nat) ≤ 1000) : ∃ (C : DS → Cor) (D : DS → DS), ∀ d : DS, d.k + kbN m ≤ 99990000 → wT (C d) ≤ sbN m ∧ (D d).k ≤ d.k + kbN m ∧ FCallG Try.prog 34 [.ptr 10000 0, .int .i64 free, .int .i64 (m : Nat)] (tSrc code d) (.agg (cSV (C d))) (tSrc code (D d)) := by
  have h : ∀ d : DS, ∃ (c : Cor) (d' : DS), d.k + kbN m ≤ 99990000 → wT c ≤ sbN m ∧ d'.k ≤ d.k + kbN m ∧ FCallG Try.prog 34 [.ptr 10000 0, .int .i64 free, .int .i64 (m : Nat)] (tSrc code d) (.agg (cSV c)) (tSrc code d') := fun d => by
    by_cases h : d.k + kbN m ≤ 99990000
    · obtain ⟨c, d', h1, h2, h3⟩ := ih free d hf hf2 h
      exact ⟨c, d', fun _ => ⟨h1, h2, h3⟩⟩
    · exact ⟨mkC 0 0 [] [], d, fun h' => absurd h' h⟩
  obtain ⟨C, h⟩ := Classical.axiomOfChoice h
  obtain ⟨D, h⟩ := Classical.axiomOfChoice h
  exact ⟨C, D, h⟩
section
variable (code : List Int) (d : DS)
set_option maxRecDepth 100000 in
theorem leaf0V (hb : Bytes code) (hk : d.k + 20 ≤ 99999000) (free : Int) (hf : 1 ≤ free) (h3 : ((pk code d 3).1 == 0) = false) : ∃ (c : Cor) (d' : DS), wT c ≤ 1 ∧ d'.k ≤ d.k + 20 ∧ FCallG Try.prog 34 [.ptr 10000 0, .int .i64 free, .int .i64 (0 : Nat)] (tSrc code d) (.agg (cSV c)) (tSrc code d') := by
  have k1 := pk_k code d 3
  have k3 := pk_k code (pk code d 3).2 free
  refine ⟨mkC 1 (pk code (pk code d 3).2 free).1 [] [], (pk code (pk code d 3).2 free).2, by simp [wT, wL], by omega, ?_⟩
  refine FCallG.intro (nt := 173) ti_ok mixed okDrawC Try.func34 rfl rfl rfl rfl rfl rfl ?_
  refine Or.inr (And.intro (fun q => by cases q) (fun _ => Exists.intro (.bool false) ?_))
  refine And.intro (fun _ => ?_) (fun q => by cases q)
  refine Or.inr (And.intro (fun _ => Exists.intro _ (Exists.intro _ (And.intro (oneW code d hb (by omega) 3) ?_))) (fun q => ?_))
  rotate_left
  · have q' : decide (0 < free) = false := q
    rw [decide_eq_true (by omega)] at q'; cases q'
  refine And.intro (fun _ => ?_) (fun q => ?_)
  rotate_left
  · have q' : (bif decide (0 < free) then !((pk code d 3).1 == 0) else false) = false := q
    rw [h3, decide_eq_true (by omega)] at q'; cases q'
  refine Or.inr (Or.inl (Exists.intro _ (Exists.intro _ (And.intro (pickW code (pk code d 3).2 hb (by omega) free) ?_))))
  refine Or.inr (Or.inr (Exists.intro _ (Exists.intro _ (And.intro (cvG _) ?_))))
  refine fin [] (And.intro rfl ?_)
  exact ⟨trivial, srcEq _ _, trivial⟩
set_option maxRecDepth 100000 in
theorem leaf0R (hb : Bytes code) (hk : d.k + 20 ≤ 99999000) (free : Int) (hf : 1 ≤ free) (h3 : ((pk code d 3).1 == 0) = true) (h4 : ((pk code (pk code d 3).2 4).1 == 0) = true) : ∃ (c : Cor) (d' : DS), wT c ≤ 1 ∧ d'.k ≤ d.k + 20 ∧ FCallG Try.prog 34 [.ptr 10000 0, .int .i64 free, .int .i64 (0 : Nat)] (tSrc code d) (.agg (cSV c)) (tSrc code d') := by
  have k1 := pk_k code d 3
  have k2 := pk_k code (pk code d 3).2 4
  have k3 := pk_k code (pk code (pk code d 3).2 4).2 4
  refine ⟨mkC 11 (pk code (pk code (pk code d 3).2 4).2 4).1 [] [], (pk code (pk code (pk code d 3).2 4).2 4).2, by simp [wT, wL], by omega, ?_⟩
  refine FCallG.intro (nt := 173) ti_ok mixed okDrawC Try.func34 rfl rfl rfl rfl rfl rfl ?_
  refine Or.inr (And.intro (fun q => by cases q) (fun _ => Exists.intro (.bool false) ?_))
  refine And.intro (fun _ => ?_) (fun q => by cases q)
  refine Or.inr (And.intro (fun _ => Exists.intro _ (Exists.intro _ (And.intro (oneW code d hb (by omega) 3) ?_))) (fun q => ?_))
  rotate_left
  · have q' : decide (0 < free) = false := q
    rw [decide_eq_true (by omega)] at q'; cases q'
  refine And.intro (fun q => ?_) (fun _ => ?_)
  · have q' : (bif decide (0 < free) then !((pk code d 3).1 == 0) else false) = true := q
    rw [h3, decide_eq_true (by omega)] at q'; cases q'
  refine Or.inr (Or.inl (Exists.intro _ (Exists.intro _ (And.intro (oneW code (pk code d 3).2 hb (by omega) 4) ?_))))
  refine And.intro (fun _ => ?_) (fun q => by rw [h4] at q; cases q)
  refine Or.inr (Or.inl (Exists.intro _ (Exists.intro _ (And.intro (pickW code (pk code (pk code d 3).2 4).2 hb (by omega) 4) ?_))))
  refine Or.inr (Or.inr (Exists.intro _ (Exists.intro _ (And.intro (crG _) ?_))))
  refine fin [] (And.intro rfl ?_)
  exact ⟨trivial, srcEq _ _, trivial⟩
set_option maxRecDepth 100000 in
theorem leaf0N (hb : Bytes code) (hk : d.k + 20 ≤ 99999000) (free : Int) (hf : 1 ≤ free) (h3 : ((pk code d 3).1 == 0) = true) (h4 : ((pk code (pk code d 3).2 4).1 == 0) = false) : ∃ (c : Cor) (d' : DS), wT c ≤ 1 ∧ d'.k ≤ d.k + 20 ∧ FCallG Try.prog 34 [.ptr 10000 0, .int .i64 free, .int .i64 (0 : Nat)] (tSrc code d) (.agg (cSV c)) (tSrc code d') := by
  have k1 := pk_k code d 3
  have k2 := pk_k code (pk code d 3).2 4
  obtain ⟨x, dx, _, _, k3, hx⟩ := int1W code (pk code (pk code d 3).2 4).2 hb (by omega)
  refine ⟨mkC 2 x [] [], dx, by simp [wT, wL], by omega, ?_⟩
  refine FCallG.intro (nt := 173) ti_ok mixed okDrawC Try.func34 rfl rfl rfl rfl rfl rfl ?_
  refine Or.inr (And.intro (fun q => by cases q) (fun _ => Exists.intro (.bool false) ?_))
  refine And.intro (fun _ => ?_) (fun q => by cases q)
  refine Or.inr (And.intro (fun _ => Exists.intro _ (Exists.intro _ (And.intro (oneW code d hb (by omega) 3) ?_))) (fun q => ?_))
  rotate_left
  · have q' : decide (0 < free) = false := q
    rw [decide_eq_true (by omega)] at q'; cases q'
  refine And.intro (fun q => ?_) (fun _ => ?_)
  · have q' : (bif decide (0 < free) then !((pk code d 3).1 == 0) else false) = true := q
    rw [h3, decide_eq_true (by omega)] at q'; cases q'
  refine Or.inr (Or.inl (Exists.intro _ (Exists.intro _ (And.intro (oneW code (pk code d 3).2 hb (by omega) 4) ?_))))
  refine And.intro (fun q => by rw [h4] at q; cases q) (fun _ => ?_)
  refine Or.inr (Or.inl (Exists.intro _ (Exists.intro _ (And.intro hx ?_))))
  refine Or.inr (Or.inr (Exists.intro _ (Exists.intro _ (And.intro (cnG _) ?_))))
  refine fin [] (And.intro rfl ?_)
  exact ⟨trivial, srcEq _ _, trivial⟩
set_option maxRecDepth 100000 in
theorem leaf1V (hb : Bytes code) (hk : d.k + 20 ≤ 99999000) (m : Nat) (free : Int) (hf : 1 ≤ free) (h6 : ((pk code d 6).1 == 0) = true) (h3 : ((pk code (pk code d 6).2 3).1 == 0) = false) : ∃ (c : Cor) (d' : DS), wT c ≤ 1 ∧ d'.k ≤ d.k + 20 ∧ FCallG Try.prog 34 [.ptr 10000 0, .int .i64 free, .int .i64 (m + 1 : Nat)] (tSrc code d) (.agg (cSV c)) (tSrc code d') := by
  have k0 := pk_k code d 6
  have k1 := pk_k code (pk code d 6).2 3
  have k3 := pk_k code (pk code (pk code d 6).2 3).2 free
  refine ⟨mkC 1 (pk code (pk code (pk code d 6).2 3).2 free).1 [] [], (pk code (pk code (pk code d 6).2 3).2 free).2, by simp [wT, wL], by omega, ?_⟩
  refine FCallG.intro (nt := 173) ti_ok mixed okDrawC Try.func34 rfl rfl rfl rfl rfl rfl ?_
  refine Or.inr (And.intro (fun _ => Exists.intro _ (Exists.intro _ (And.intro (oneW code d hb (by omega) 6) ?_))) (fun q => ?_))
  rotate_left
  · have q' : (!decide (((m + 1 : Nat) : Int) ≤ 0)) = false := q
    rw [decide_eq_false (by omega)] at q'; cases q'
  refine And.intro (fun _ => ?_) (fun q => ?_)
  rotate_left
  · have q' : (bif decide (((m + 1 : Nat) : Int) ≤ 0) then true else ((pk code d 6).1 == 0)) = false := q
    rw [h6, decide_eq_false (by omega)] at q'; cases q'
  refine Or.inr (And.intro (fun _ => Exists.intro _ (Exists.intro _ (And.intro (oneW code (pk code d 6).2 hb (by omega) 3) ?_))) (fun q => ?_))
  rotate_left
  · have q' : decide (0 < free) = false := q
    rw [decide_eq_true (by omega)] at q'; cases q'
  refine And.intro (fun _ => ?_) (fun q => ?_)
  rotate_left
  · have q' : (bif decide (0 < free) then !((pk code (pk code d 6).2 3).1 == 0) else false) = false := q
    rw [h3, decide_eq_true (by omega)] at q'; cases q'
  refine Or.inr (Or.inl (Exists.intro _ (Exists.intro _ (And.intro (pickW code (pk code (pk code d 6).2 3).2 hb (by omega) free) ?_))))
  refine Or.inr (Or.inr (Exists.intro _ (Exists.intro _ (And.intro (cvG _) ?_))))
  refine fin [] (And.intro rfl ?_)
  exact ⟨trivial, srcEq _ _, trivial⟩
set_option maxRecDepth 100000 in
theorem leaf1R (hb : Bytes code) (hk : d.k + 20 ≤ 99999000) (m : Nat) (free : Int) (hf : 1 ≤ free) (h6 : ((pk code d 6).1 == 0) = true) (h3 : ((pk code (pk code d 6).2 3).1 == 0) = true) (h4 : ((pk code (pk code (pk code d 6).2 3).2 4).1 == 0) = true) : ∃ (c : Cor) (d' : DS), wT c ≤ 1 ∧ d'.k ≤ d.k + 20 ∧ FCallG Try.prog 34 [.ptr 10000 0, .int .i64 free, .int .i64 (m + 1 : Nat)] (tSrc code d) (.agg (cSV c)) (tSrc code d') := by
  have k0 := pk_k code d 6
  have k1 := pk_k code (pk code d 6).2 3
  have k2 := pk_k code (pk code (pk code d 6).2 3).2 4
  have k3 := pk_k code (pk code (pk code (pk code d 6).2 3).2 4).2 4
  refine ⟨mkC 11 (pk code (pk code (pk code (pk code d 6).2 3).2 4).2 4).1 [] [], (pk code (pk code (pk code (pk code d 6).2 3).2 4).2 4).2, by simp [wT, wL], by omega, ?_⟩
  refine FCallG.intro (nt := 173) ti_ok mixed okDrawC Try.func34 rfl rfl rfl rfl rfl rfl ?_
  refine Or.inr (And.intro (fun _ => Exists.intro _ (Exists.intro _ (And.intro (oneW code d hb (by omega) 6) ?_))) (fun q => ?_))
  rotate_left
  · have q' : (!decide (((m + 1 : Nat) : Int) ≤ 0)) = false := q
    rw [decide_eq_false (by omega)] at q'; cases q'
  refine And.intro (fun _ => ?_) (fun q => ?_)
  rotate_left
  · have q' : (bif decide (((m + 1 : Nat) : Int) ≤ 0) then true else ((pk code d 6).1 == 0)) = false := q
    rw [h6, decide_eq_false (by omega)] at q'; cases q'
  refine Or.inr (And.intro (fun _ => Exists.intro _ (Exists.intro _ (And.intro (oneW code (pk code d 6).2 hb (by omega) 3) ?_))) (fun q => ?_))
  rotate_left
  · have q' : decide (0 < free) = false := q
    rw [decide_eq_true (by omega)] at q'; cases q'
  refine And.intro (fun q => ?_) (fun _ => ?_)
  · have q' : (bif decide (0 < free) then !((pk code (pk code d 6).2 3).1 == 0) else false) = true := q
    rw [h3, decide_eq_true (by omega)] at q'; cases q'
  refine Or.inr (Or.inl (Exists.intro _ (Exists.intro _ (And.intro (oneW code (pk code (pk code d 6).2 3).2 hb (by omega) 4) ?_))))
  refine And.intro (fun _ => ?_) (fun q => by rw [h4] at q; cases q)
  refine Or.inr (Or.inl (Exists.intro _ (Exists.intro _ (And.intro (pickW code (pk code (pk code (pk code d 6).2 3).2 4).2 hb (by omega) 4) ?_))))
  refine Or.inr (Or.inr (Exists.intro _ (Exists.intro _ (And.intro (crG _) ?_))))
  refine fin [] (And.intro rfl ?_)
  exact ⟨trivial, srcEq _ _, trivial⟩
set_option maxRecDepth 100000 in
theorem leaf1N (hb : Bytes code) (hk : d.k + 20 ≤ 99999000) (m : Nat) (free : Int) (hf : 1 ≤ free) (h6 : ((pk code d 6).1 == 0) = true) (h3 : ((pk code (pk code d 6).2 3).1 == 0) = true) (h4 : ((pk code (pk code (pk code d 6).2 3).2 4).1 == 0) = false) : ∃ (c : Cor) (d' : DS), wT c ≤ 1 ∧ d'.k ≤ d.k + 20 ∧ FCallG Try.prog 34 [.ptr 10000 0, .int .i64 free, .int .i64 (m + 1 : Nat)] (tSrc code d) (.agg (cSV c)) (tSrc code d') := by
  have k0 := pk_k code d 6
  have k1 := pk_k code (pk code d 6).2 3
  have k2 := pk_k code (pk code (pk code d 6).2 3).2 4
  obtain ⟨x, dx, _, _, k3, hx⟩ := int1W code (pk code (pk code (pk code d 6).2 3).2 4).2 hb (by omega)
  refine ⟨mkC 2 x [] [], dx, by simp [wT, wL], by omega, ?_⟩
  refine FCallG.intro (nt := 173) ti_ok mixed okDrawC Try.func34 rfl rfl rfl rfl rfl rfl ?_
  refine Or.inr (And.intro (fun _ => Exists.intro _ (Exists.intro _ (And.intro (oneW code d hb (by omega) 6) ?_))) (fun q => ?_))
  rotate_left
  · have q' : (!decide (((m + 1 : Nat) : Int) ≤ 0)) = false := q
    rw [decide_eq_false (by omega)] at q'; cases q'
  refine And.intro (fun _ => ?_) (fun q => ?_)
  rotate_left
  · have q' : (bif decide (((m + 1 : Nat) : Int) ≤ 0) then true else ((pk code d 6).1 == 0)) = false := q
    rw [h6, decide_eq_false (by omega)] at q'; cases q'
  refine Or.inr (And.intro (fun _ => Exists.intro _ (Exists.intro _ (And.intro (oneW code (pk code d 6).2 hb (by omega) 3) ?_))) (fun q => ?_))
  rotate_left
  · have q' : decide (0 < free) = false := q
    rw [decide_eq_true (by omega)] at q'; cases q'
  refine And.intro (fun q => ?_) (fun _ => ?_)
  · have q' : (bif decide (0 < free) then !((pk code (pk code d 6).2 3).1 == 0) else false) = true := q
    rw [h3, decide_eq_true (by omega)] at q'; cases q'
  refine Or.inr (Or.inl (Exists.intro _ (Exists.intro _ (And.intro (oneW code (pk code (pk code d 6).2 3).2 hb (by omega) 4) ?_))))
  refine And.intro (fun q => by rw [h4] at q; cases q) (fun _ => ?_)
  refine Or.inr (Or.inl (Exists.intro _ (Exists.intro _ (And.intro hx ?_))))
  refine Or.inr (Or.inr (Exists.intro _ (Exists.intro _ (And.intro (cnG _) ?_))))
  refine fin [] (And.intro rfl ?_)
  exact ⟨trivial, srcEq _ _, trivial⟩
set_option maxHeartbeats 1000000 in
set_option maxRecDepth 100000 in
theorem deep0 (hb : Bytes code) (m : Nat) (ih : DrawP code m) (hk : d.k + kbN (m + 1) ≤ 99990000) (free : Int) (hf : 1 ≤ free) (hf2 : free + (m + 1 : Nat) ≤ 1000) (h6 : ((pk code d 6).1 == 0) = false) (hp : (pk code (pk code d 6).2 10).1 = 0) : ∃ (c : Cor) (d' : DS), wT c ≤ sbN (m + 1) ∧ d'.k ≤ d.k + kbN (m + 1) ∧ FCallG Try.prog 34 [.ptr 10000 0, .int .i64 free, .int .i64 (m + 1 : Nat)] (tSrc code d) (.agg (cSV c)) (tSrc code d') := by
  have k0 := pk_k code d 6
  have k1 := pk_k code (pk code d 6).2 10
  have ek : kbN (m + 1) = 3 * kbN m + 40 := rfl
  have es : sbN (m + 1) = 3 * sbN m + 4 := rfl
  have e1 := kb_ge m
  have e2 := sb_ge m
  have w1 : IntKind.i64.wrap (((m + 1 : Nat) : Int) - 1) = ((m : Nat) : Int) := by rw [wrapI (by omega)]; omega
  obtain ⟨c1, d1, s1, k2, h1⟩ := ih (free + 1) (pk code (pk code d 6).2 10).2 (by omega) (by omega) (by omega)
  refine ⟨mkC 4 0 [] [c1], d1, by simp [wT, wL]; omega, by omega, ?_⟩
  refine FCallG.intro (nt := 173) ti_ok mixed okDrawC Try.func34 rfl rfl rfl rfl rfl rfl ?_
  refine Or.inr (And.intro (fun _ => Exists.intro _ (Exists.intro _ (And.intro (oneW code d hb (by omega) 6) ?_))) (fun q => ?_))
  rotate_left
  · have q' : (!decide (((m + 1 : Nat) : Int) ≤ 0)) = false := q
    rw [decide_eq_false (by omega)] at q'; cases q'
  refine And.intro (fun q => ?_) (fun _ => ?_)
  · have q' : (bif decide (((m + 1 : Nat) : Int) ≤ 0) then true else ((pk code d 6).1 == 0)) = true := q
    rw [h6, decide_eq_false (by omega)] at q'; cases q'
  refine Or.inr (Or.inl (Exists.intro _ (Exists.intro _ (And.intro (pickW code (pk code d 6).2 hb (by omega) 10) ?_))))
  rw [hp]
  refine And.intro (fun _ => ?_) (fun q => by cases q)
  refine And.intro (fun _ => ?_) (fun q => by cases q)
  refine Or.inr (Or.inr (Exists.intro _ (Exists.intro _ (And.intro (by show FCallG _ _ [_, .int .i64 (IntKind.i64.wrap (free + 1)), .int .i64 (IntKind.i64.wrap (((m + 1 : Nat) : Int) - 1))] _ _ _; rw [wrapI (by omega), w1]; exact h1) ?_))))
  refine Or.inr (Or.inr (Exists.intro _ (Exists.intro _ (And.intro (clG _) ?_))))
  refine fin [] (And.intro rfl ?_)
  exact ⟨trivial, srcEq _ _, trivial⟩
set_option maxHeartbeats 1000000 in
set_option maxRecDepth 100000 in
theorem deep1 (hb : Bytes code) (m : Nat) (ih : DrawP code m) (hk : d.k + kbN (m + 1) ≤ 99990000) (free : Int) (hf : 1 ≤ free) (hf2 : free + (m + 1 : Nat) ≤ 1000) (h6 : ((pk code d 6).1 == 0) = false) (hp : (pk code (pk code d 6).2 10).1 = 1) : ∃ (c : Cor) (d' : DS), wT c ≤ sbN (m + 1) ∧ d'.k ≤ d.k + kbN (m + 1) ∧ FCallG Try.prog 34 [.ptr 10000 0, .int .i64 free, .int .i64 (m + 1 : Nat)] (tSrc code d) (.agg (cSV c)) (tSrc code d') := by
  have k0 := pk_k code d 6
  have k1 := pk_k code (pk code d 6).2 10
  have ek : kbN (m + 1) = 3 * kbN m + 40 := rfl
  have es : sbN (m + 1) = 3 * sbN m + 4 := rfl
  have e1 := kb_ge m
  have e2 := sb_ge m
  have w1 : IntKind.i64.wrap (((m + 1 : Nat) : Int) - 1) = ((m : Nat) : Int) := by rw [wrapI (by omega)]; omega
  obtain ⟨c1, d1, s1, k2, h1⟩ := ih (free + 1) (pk code (pk code d 6).2 10).2 (by omega) (by omega) (by omega)
  refine ⟨mkC 4 0 [] [c1], d1, by simp [wT, wL]; omega, by omega, ?_⟩
  refine FCallG.intro (nt := 173) ti_ok mixed okDrawC Try.func34 rfl rfl rfl rfl rfl rfl ?_
  refine Or.inr (And.intro (fun _ => Exists.intro _ (Exists.intro _ (And.intro (oneW code d hb (by omega) 6) ?_))) (fun q => ?_))
  rotate_left
  · have q' : (!decide (((m + 1 : Nat) : Int) ≤ 0)) = false := q
    rw [decide_eq_false (by omega)] at q'; cases q'
  refine And.intro (fun q => ?_) (fun _ => ?_)
  · have q' : (bif decide (((m + 1 : Nat) : Int) ≤ 0) then true else ((pk code d 6).1 == 0)) = true := q
    rw [h6, decide_eq_false (by omega)] at q'; cases q'
  refine Or.inr (Or.inl (Exists.intro _ (Exists.intro _ (And.intro (pickW code (pk code d 6).2 hb (by omega) 10) ?_))))
  rw [hp]
  refine And.intro (fun q => by cases q) (fun _ => ?_)
  refine And.intro (fun _ => ?_) (fun q => by cases q)
  refine Or.inr (Or.inr (Exists.intro _ (Exists.intro _ (And.intro (by show FCallG _ _ [_, .int .i64 (IntKind.i64.wrap (free + 1)), .int .i64 (IntKind.i64.wrap (((m + 1 : Nat) : Int) - 1))] _ _ _; rw [wrapI (by omega), w1]; exact h1) ?_))))
  refine Or.inr (Or.inr (Exists.intro _ (Exists.intro _ (And.intro (clG _) ?_))))
  refine fin [] (And.intro rfl ?_)
  exact ⟨trivial, srcEq _ _, trivial⟩
set_option maxHeartbeats 1000000 in
set_option maxRecDepth 100000 in
theorem deep2 (hb : Bytes code) (m : Nat) (ih : DrawP code m) (hk : d.k + kbN (m + 1) ≤ 99990000) (free : Int) (hf : 1 ≤ free) (hf2 : free + (m + 1 : Nat) ≤ 1000) (h6 : ((pk code d 6).1 == 0) = false) (hp : (pk code (pk code d 6).2 10).1 = 2) : ∃ (c : Cor) (d' : DS), wT c ≤ sbN (m + 1) ∧ d'.k ≤ d.k + kbN (m + 1) ∧ FCallG Try.prog 34 [.ptr 10000 0, .int .i64 free, .int .i64 (m + 1 : Nat)] (tSrc code d) (.agg (cSV c)) (tSrc code d') := by
  have k0 := pk_k code d 6
  have k1 := pk_k code (pk code d 6).2 10
  have ek : kbN (m + 1) = 3 * kbN m + 40 := rfl
  have es : sbN (m + 1) = 3 * sbN m + 4 := rfl
  have e1 := kb_ge m
  have e2 := sb_ge m
  have w1 : IntKind.i64.wrap (((m + 1 : Nat) : Int) - 1) = ((m : Nat) : Int) := by rw [wrapI (by omega)]; omega
  obtain ⟨c1, d1, s1, k2, h1⟩ := ih free (pk code (pk code d 6).2 10).2 (by omega) (by omega) (by omega)
  obtain ⟨c2, d2, s2, k3, h2⟩ := ih free d1 (by omega) (by omega) (by omega)
  refine ⟨mkC 5 0 [] [c1, c2], d2, by simp [wT, wL]; omega, by omega, ?_⟩
  refine FCallG.intro (nt := 173) ti_ok mixed okDrawC Try.func34 rfl rfl rfl rfl rfl rfl ?_
  refine Or.inr (And.intro (fun _ => Exists.intro _ (Exists.intro _ (And.intro (oneW code d hb (by omega) 6) ?_))) (fun q => ?_))
  rotate_left
  · have q' : (!decide (((m + 1 : Nat) : Int) ≤ 0)) = false := q
    rw [decide_eq_false (by omega)] at q'; cases q'
  refine And.intro (fun q => ?_) (fun _ => ?_)
  · have q' : (bif decide (((m + 1 : Nat) : Int) ≤ 0) then true else ((pk code d 6).1 == 0)) = true := q
    rw [h6, decide_eq_false (by omega)] at q'; cases q'
  refine Or.inr (Or.inl (Exists.intro _ (Exists.intro _ (And.intro (pickW code (pk code d 6).2 hb (by omega) 10) ?_))))
  rw [hp]
  refine And.intro (fun q => by cases q) (fun _ => ?_)
  refine And.intro (fun q => by cases q) (fun _ => ?_)
  refine And.intro (fun _ => ?_) (fun q => by cases q)
  refine And.intro (fun _ => ?_) (fun q => by cases q)
  refine Or.inr (Or.inr (Exists.intro _ (Exists.intro _ (And.intro (by show FCallG _ _ [_, .int .i64 free, .int .i64 (IntKind.i64.wrap (((m + 1 : Nat) : Int) - 1))] _ _ _; rw [w1]; exact h1) ?_))))
  refine Or.inr (Or.inr (Exists.intro _ (Exists.intro _ (And.intro (by show FCallG _ _ [_, .int .i64 free, .int .i64 (IntKind.i64.wrap (((m + 1 : Nat) : Int) - 1))] _ _ _; rw [w1]; exact h2) ?_))))
  refine Or.inr (Or.inr (Exists.intro _ (Exists.intro _ (And.intro (caG _ _) ?_))))
  refine And.intro (by kernel_rfl) ?_
  refine fin [] (And.intro rfl ?_)
  exact ⟨trivial, srcEq _ _, trivial⟩
set_option maxHeartbeats 1000000 in
set_option maxRecDepth 100000 in
theorem deep3 (hb : Bytes code) (m : Nat) (ih : DrawP code m) (hk : d.k + kbN (m + 1) ≤ 99990000) (free : Int) (hf : 1 ≤ free) (hf2 : free + (m + 1 : Nat) ≤ 1000) (h6 : ((pk code d 6).1 == 0) = false) (hp : (pk code (pk code d 6).2 10).1 = 3) : ∃ (c : Cor) (d' : DS), wT c ≤ sbN (m + 1) ∧ d'.k ≤ d.k + kbN (m + 1) ∧ FCallG Try.prog 34 [.ptr 10000 0, .int .i64 free, .int .i64 (m + 1 : Nat)] (tSrc code d) (.agg (cSV c)) (tSrc code d') := by
  have k0 := pk_k code d 6
  have k1 := pk_k code (pk code d 6).2 10
  have ek : kbN (m + 1) = 3 * kbN m + 40 := rfl
  have es : sbN (m + 1) = 3 * sbN m + 4 := rfl
  have e1 := kb_ge m
  have e2 := sb_ge m
  have w1 : IntKind.i64.wrap (((m + 1 : Nat) : Int) - 1) = ((m : Nat) : Int) := by rw [wrapI (by omega)]; omega
  obtain ⟨c1, d1, s1, k2, h1⟩ := ih free (pk code (pk code d 6).2 10).2 (by omega) (by omega) (by omega)
  obtain ⟨c2, d2, s2, k3, h2⟩ := ih free d1 (by omega) (by omega) (by omega)
  refine ⟨mkC 5 0 [] [c1, c2], d2, by simp [wT, wL]; omega, by omega, ?_⟩
  refine FCallG.intro (nt := 173) ti_ok mixed okDrawC Try.func34 rfl rfl rfl rfl rfl rfl ?_
  refine Or.inr (And.intro (fun _ => Exists.intro _ (Exists.intro _ (And.intro (oneW code d hb (by omega) 6) ?_))) (fun q => ?_))
  rotate_left
  · have q' : (!decide (((m + 1 : Nat) : Int) ≤ 0)) = false := q
    rw [decide_eq_false (by omega)] at q'; cases q'
  refine And.intro (fun q => ?_) (fun _ => ?_)
  · have q' : (bif decide (((m + 1 : Nat) : Int) ≤ 0) then true else ((pk code d 6).1 == 0)) = true := q
    rw [h6, decide_eq_false (by omega)] at q'; cases q'
  refine Or.inr (Or.inl (Exists.intro _ (Exists.intro _ (And.intro (pickW code (pk code d 6).2 hb (by omega) 10) ?_))))
  rw [hp]
  refine And.intro (fun q => by cases q) (fun _ => ?_)
  refine And.intro (fun q => by cases q) (fun _ => ?_)
  refine And.intro (fun q => by cases q) (fun _ => ?_)
  refine And.intro (fun _ => ?_) (fun q => by cases q)
  refine Or.inr (Or.inr (Exists.intro _ (Exists.intro _ (And.intro (by show FCallG _ _ [_, .int .i64 free, .int .i64 (IntKind.i64.wrap (((m + 1 : Nat) : Int) - 1))] _ _ _; rw [w1]; exact h1) ?_))))
  refine Or.inr (Or.inr (Exists.intro _ (Exists.intro _ (And.intro (by show FCallG _ _ [_, .int .i64 free, .int .i64 (IntKind.i64.wrap (((m + 1 : Nat) : Int) - 1))] _ _ _; rw [w1]; exact h2) ?_))))
  refine Or.inr (Or.inr (Exists.intro _ (Exists.intro _ (And.intro (caG _ _) ?_))))
  refine And.intro (by kernel_rfl) ?_
  refine fin [] (And.intro rfl ?_)
  exact ⟨trivial, srcEq _ _, trivial⟩
set_option maxHeartbeats 1000000 in
set_option maxRecDepth 100000 in
theorem deep4 (hb : Bytes code) (m : Nat) (ih : DrawP code m) (hk : d.k + kbN (m + 1) ≤ 99990000) (free : Int) (hf : 1 ≤ free) (hf2 : free + (m + 1 : Nat) ≤ 1000) (h6 : ((pk code d 6).1 == 0) = false) (hp : (pk code (pk code d 6).2 10).1 = 4) : ∃ (c : Cor) (d' : DS), wT c ≤ sbN (m + 1) ∧ d'.k ≤ d.k + kbN (m + 1) ∧ FCallG Try.prog 34 [.ptr 10000 0, .int .i64 free, .int .i64 (m + 1 : Nat)] (tSrc code d) (.agg (cSV c)) (tSrc code d') := by
  have k0 := pk_k code d 6
  have k1 := pk_k code (pk code d 6).2 10
  have ek : kbN (m + 1) = 3 * kbN m + 40 := rfl
  have es : sbN (m + 1) = 3 * sbN m + 4 := rfl
  have e1 := kb_ge m
  have e2 := sb_ge m
  have w1 : IntKind.i64.wrap (((m + 1 : Nat) : Int) - 1) = ((m : Nat) : Int) := by rw [wrapI (by omega)]; omega
  have k9 := pk_k code (pk code (pk code d 6).2 10).2 6
  obtain ⟨c1, d1, s1, k2, h1⟩ := ih free (pk code (pk code (pk code d 6).2 10).2 6).2 (by omega) (by omega) (by omega)
  obtain ⟨c2, d2, s2, k3, h2⟩ := ih free d1 (by omega) (by omega) (by omega)
  refine ⟨mkC 3 (IntKind.i64.wrap (1 + (pk code (pk code (pk code d 6).2 10).2 6).1)) [] [c1, c2], d2, by simp [wT, wL]; omega, by omega, ?_⟩
  refine FCallG.intro (nt := 173) ti_ok mixed okDrawC Try.func34 rfl rfl rfl rfl rfl rfl ?_
  refine Or.inr (And.intro (fun _ => Exists.intro _ (Exists.intro _ (And.intro (oneW code d hb (by omega) 6) ?_))) (fun q => ?_))
  rotate_left
  · have q' : (!decide (((m + 1 : Nat) : Int) ≤ 0)) = false := q
    rw [decide_eq_false (by omega)] at q'; cases q'
  refine And.intro (fun q => ?_) (fun _ => ?_)
  · have q' : (bif decide (((m + 1 : Nat) : Int) ≤ 0) then true else ((pk code d 6).1 == 0)) = true := q
    rw [h6, decide_eq_false (by omega)] at q'; cases q'
  refine Or.inr (Or.inl (Exists.intro _ (Exists.intro _ (And.intro (pickW code (pk code d 6).2 hb (by omega) 10) ?_))))
  rw [hp]
  refine And.intro (fun q => by cases q) (fun _ => ?_)
  refine And.intro (fun q => by cases q) (fun _ => ?_)
  refine And.intro (fun q => by cases q) (fun _ => ?_)
  refine And.intro (fun q => by cases q) (fun _ => ?_)
  refine And.intro (fun _ => ?_) (fun q => by cases q)
  refine Or.inr (Or.inl (Exists.intro _ (Exists.intro _ (And.intro (pickW code (pk code (pk code d 6).2 10).2 hb (by omega) 6) ?_))))
  refine Or.inr (Or.inr (Exists.intro _ (Exists.intro _ (And.intro (by show FCallG _ _ [_, .int .i64 free, .int .i64 (IntKind.i64.wrap (((m + 1 : Nat) : Int) - 1))] _ _ _; rw [w1]; exact h1) ?_))))
  refine Or.inr (Or.inr (Exists.intro _ (Exists.intro _ (And.intro (by show FCallG _ _ [_, .int .i64 free, .int .i64 (IntKind.i64.wrap (((m + 1 : Nat) : Int) - 1))] _ _ _; rw [w1]; exact h2) ?_))))
  refine Or.inr (Or.inr (Exists.intro _ (Exists.intro _ (And.intro (ccG _ _ _) ?_))))
  refine And.intro (by kernel_rfl) ?_
  refine fin [] (And.intro ?_ ?_)
  rotate_left
  · exact ⟨trivial, srcEq _ _, trivial⟩
  show SV.agg (cSV (mkC 3 (IntKind.i64.wrap (1 + (pk code (pk code (pk code d 6).2 10).2 6).1)) [] [.node (cKd c1, cVl c1, cDt c1) c1.kids, .node (cKd c2, cVl c2, cDt c2) c2.kids])) = SV.agg (cSV (mkC 3 (IntKind.i64.wrap (1 + (pk code (pk code (pk code d 6).2 10).2 6).1)) [] [c1, c2]))
  rw [node_eta, node_eta]
set_option maxHeartbeats 1000000 in
set_option maxRecDepth 100000 in
theorem deep5 (hb : Bytes code) (m : Nat) (ih : DrawP code m) (hk : d.k + kbN (m + 1) ≤ 99990000) (free : Int) (hf : 1 ≤ free) (hf2 : free + (m + 1 : Nat) ≤ 1000) (h6 : ((pk code d 6).1 == 0) = false) (hp : (pk code (pk code d 6).2 10).1 = 5) : ∃ (c : Cor) (d' : DS), wT c ≤ sbN (m + 1) ∧ d'.k ≤ d.k + kbN (m + 1) ∧ FCallG Try.prog 34 [.ptr 10000 0, .int .i64 free, .int .i64 (m + 1 : Nat)] (tSrc code d) (.agg (cSV c)) (tSrc code d') := by
  have k0 := pk_k code d 6
  have k1 := pk_k code (pk code d 6).2 10
  have ek : kbN (m + 1) = 3 * kbN m + 40 := rfl
  have es : sbN (m + 1) = 3 * sbN m + 4 := rfl
  have e1 := kb_ge m
  have e2 := sb_ge m
  have w1 : IntKind.i64.wrap (((m + 1 : Nat) : Int) - 1) = ((m : Nat) : Int) := by rw [wrapI (by omega)]; omega
  obtain ⟨c1, d1, s1, k2, h1⟩ := ih free (pk code (pk code d 6).2 10).2 (by omega) (by omega) (by omega)
  refine ⟨mkC 6 0 [] [c1], d1, by simp [wT, wL]; omega, by omega, ?_⟩
  refine FCallG.intro (nt := 173) ti_ok mixed okDrawC Try.func34 rfl rfl rfl rfl rfl rfl ?_
  refine Or.inr (And.intro (fun _ => Exists.intro _ (Exists.intro _ (And.intro (oneW code d hb (by omega) 6) ?_))) (fun q => ?_))
  rotate_left
  · have q' : (!decide (((m + 1 : Nat) : Int) ≤ 0)) = false := q
    rw [decide_eq_false (by omega)] at q'; cases q'
  refine And.intro (fun q => ?_) (fun _ => ?_)
  · have q' : (bif decide (((m + 1 : Nat) : Int) ≤ 0) then true else ((pk code d 6).1 == 0)) = true := q
    rw [h6, decide_eq_false (by omega)] at q'; cases q'
  refine Or.inr (Or.inl (Exists.intro _ (Exists.intro _ (And.intro (pickW code (pk code d 6).2 hb (by omega) 10) ?_))))
  rw [hp]
  refine And.intro (fun q => by cases q) (fun _ => ?_)
  refine And.intro (fun q => by cases q) (fun _ => ?_)
  refine And.intro (fun q => by cases q) (fun _ => ?_)
  refine And.intro (fun q => by cases q) (fun _ => ?_)
  refine And.intro (fun q => by cases q) (fun _ => ?_)
  refine And.intro (fun _ => ?_) (fun q => by cases q)
  refine Or.inr (Or.inr (Exists.intro _ (Exists.intro _ (And.intro (by show FCallG _ _ [_, .int .i64 free, .int .i64 (IntKind.i64.wrap (((m + 1 : Nat) : Int) - 1))] _ _ _; rw [w1]; exact h1) ?_))))
  refine Or.inr (Or.inr (Exists.intro _ (Exists.intro _ (And.intro (ccG _ _ _) ?_))))
  refine fin [] (And.intro ?_ ?_)
  rotate_left
  · exact ⟨trivial, srcEq _ _, trivial⟩
  show SV.agg (cSV (mkC 6 0 [] [.node (cKd c1, cVl c1, cDt c1) c1.kids])) = SV.agg (cSV (mkC 6 0 [] [c1]))
  rw [node_eta]
set_option maxHeartbeats 1000000 in
set_option maxRecDepth 100000 in
theorem deep6 (hb : Bytes code) (m : Nat) (ih : DrawP code m) (hk : d.k + kbN (m + 1) ≤ 99990000) (free : Int) (hf : 1 ≤ free) (hf2 : free + (m + 1 : Nat) ≤ 1000) (h6 : ((pk code d 6).1 == 0) = false) (hp : (pk code (pk code d 6).2 10).1 = 6) : ∃ (c : Cor) (d' : DS), wT c ≤ sbN (m + 1) ∧ d'.k ≤ d.k + kbN (m + 1) ∧ FCallG Try.prog 34 [.ptr 10000 0, .int .i64 free, .int .i64 (m + 1 : Nat)] (tSrc code d) (.agg (cSV c)) (tSrc code d') := by
  have k0 := pk_k code d 6
  have k1 := pk_k code (pk code d 6).2 10
  have ek : kbN (m + 1) = 3 * kbN m + 40 := rfl
  have es : sbN (m + 1) = 3 * sbN m + 4 := rfl
  have e1 := kb_ge m
  have e2 := sb_ge m
  have w1 : IntKind.i64.wrap (((m + 1 : Nat) : Int) - 1) = ((m : Nat) : Int) := by rw [wrapI (by omega)]; omega
  obtain ⟨c1, d1, s1, k2, h1⟩ := ih free (pk code (pk code d 6).2 10).2 (by omega) (by omega) (by omega)
  obtain ⟨c2, d2, s2, k3, h2⟩ := ih (free + 1) d1 (by omega) (by omega) (by omega)
  refine ⟨mkC 7 0 [] [c1, c2], d2, by simp [wT, wL]; omega, by omega, ?_⟩
  refine FCallG.intro (nt := 173) ti_ok mixed okDrawC Try.func34 rfl rfl rfl rfl rfl rfl ?_
  refine Or.inr (And.intro (fun _ => Exists.intro _ (Exists.intro _ (And.intro (oneW code d hb (by omega) 6) ?_))) (fun q => ?_))
  rotate_left
  · have q' : (!decide (((m + 1 : Nat) : Int) ≤ 0)) = false := q
    rw [decide_eq_false (by omega)] at q'; cases q'
  refine And.intro (fun q => ?_) (fun _ => ?_)
  · have q' : (bif decide (((m + 1 : Nat) : Int) ≤ 0) then true else ((pk code d 6).1 == 0)) = true := q
    rw [h6, decide_eq_false (by omega)] at q'; cases q'
  refine Or.inr (Or.inl (Exists.intro _ (Exists.intro _ (And.intro (pickW code (pk code d 6).2 hb (by omega) 10) ?_))))
  rw [hp]
  refine And.intro (fun q => by cases q) (fun _ => ?_)
  refine And.intro (fun q => by cases q) (fun _ => ?_)
  refine And.intro (fun q => by cases q) (fun _ => ?_)
  refine And.intro (fun q => by cases q) (fun _ => ?_)
  refine And.intro (fun q => by cases q) (fun _ => ?_)
  refine And.intro (fun q => by cases q) (fun _ => ?_)
  refine And.intro (fun _ => ?_) (fun q => by cases q)
  refine Or.inr (Or.inr (Exists.intro _ (Exists.intro _ (And.intro (by show FCallG _ _ [_, .int .i64 free, .int .i64 (IntKind.i64.wrap (((m + 1 : Nat) : Int) - 1))] _ _ _; rw [w1]; exact h1) ?_))))
  refine Or.inr (Or.inr (Exists.intro _ (Exists.intro _ (And.intro (by show FCallG _ _ [_, .int .i64 (IntKind.i64.wrap (free + 1)), .int .i64 (IntKind.i64.wrap (((m + 1 : Nat) : Int) - 1))] _ _ _; rw [wrapI (by omega), w1]; exact h2) ?_))))
  refine Or.inr (Or.inr (Exists.intro _ (Exists.intro _ (And.intro (ccG _ _ _) ?_))))
  refine And.intro (by kernel_rfl) ?_
  refine fin [] (And.intro ?_ ?_)
  rotate_left
  · exact ⟨trivial, srcEq _ _, trivial⟩
  show SV.agg (cSV (mkC 7 0 [] [.node (cKd c1, cVl c1, cDt c1) c1.kids, .node (cKd c2, cVl c2, cDt c2) c2.kids])) = SV.agg (cSV (mkC 7 0 [] [c1, c2]))
  rw [node_eta, node_eta]
set_option maxHeartbeats 1000000 in
set_option maxRecDepth 100000 in
theorem deep7 (hb : Bytes code) (m : Nat) (ih : DrawP code m) (hk : d.k + kbN (m + 1) ≤ 99990000) (free : Int) (hf : 1 ≤ free) (hf2 : free + (m + 1 : Nat) ≤ 1000) (h6 : ((pk code d 6).1 == 0) = false) (hp : (pk code (pk code d 6).2 10).1 = 7) : ∃ (c : Cor) (d' : DS), wT c ≤ sbN (m + 1) ∧ d'.k ≤ d.k + kbN (m + 1) ∧ FCallG Try.prog 34 [.ptr 10000 0, .int .i64 free, .int .i64 (m + 1 : Nat)] (tSrc code d) (.agg (cSV c)) (tSrc code d') := by
  have k0 := pk_k code d 6
  have k1 := pk_k code (pk code d 6).2 10
  have ek : kbN (m + 1) = 3 * kbN m + 40 := rfl
  have es : sbN (m + 1) = 3 * sbN m + 4 := rfl
  have e1 := kb_ge m
  have e2 := sb_ge m
  have w1 : IntKind.i64.wrap (((m + 1 : Nat) : Int) - 1) = ((m : Nat) : Int) := by rw [wrapI (by omega)]; omega
  have k8 := pk_k code (pk code (pk code d 6).2 10).2 4
  have k9 := pk_k code (pk code (pk code (pk code d 6).2 10).2 4).2 4
  obtain ⟨n, hn, en⟩ := intLt4 (pk_0 hb (pk code (pk code (pk code d 6).2 10).2 4).2 4) (pk_lt hb (pk code (pk code (pk code d 6).2 10).2 4).2 (n := 4) (by decide))
  obtain ⟨C, D, hC⟩ := drawP_all code m ih free hf (by omega)
  have hit := it_b C D 99990000 (sbN m) (kbN m) (fun d h => ⟨(hC d h).1, (hC d h).2.1⟩) n (pk code (pk code (pk code (pk code d 6).2 10).2 4).2 4).2 1 (by have := Nat.mul_le_mul_right (kbN m) hn; omega)
  have hm1 := Nat.mul_le_mul_right (kbN m) hn
  have hm2 := Nat.mul_le_mul_right (sbN m) hn
  refine ⟨mkC 8 (pk code (pk code (pk code d 6).2 10).2 4).1 [] (itC C D n (pk code (pk code (pk code (pk code d 6).2 10).2 4).2 4).2), itD D n (pk code (pk code (pk code (pk code d 6).2 10).2 4).2 4).2, ?_, ?_, ?_⟩
  · show wT (.node _ _) ≤ _; unfold wT; show wL _ 1 ≤ _; omega
  · omega
  refine FCallG.fzT (ts1 := tSrc code (itD D n (pk code (pk code (pk code (pk code d 6).2 10).2 4).2 4).2)) (ts2 := [.dat 10001 27 4 uCor (itC C D n (pk code (pk code (pk code (pk code d 6).2 10).2 4).2 4).2)]) (r1 := .agg [.int .i64 8, .int .i64 (pk code (pk code (pk code d 6).2 10).2 4).1, .raw (.slice none 0 0), .sl 10001]) ?_ (Or.inr ⟨_, rfl⟩)
  refine FCallG.intro (nt := 173) ti_ok mixed okDrawC Try.func34 rfl rfl rfl rfl rfl rfl ?_
  refine Or.inr (And.intro (fun _ => Exists.intro _ (Exists.intro _ (And.intro (oneW code d hb (by omega) 6) ?_))) (fun q => ?_))
  rotate_left
  · have q' : (!decide (((m + 1 : Nat) : Int) ≤ 0)) = false := q
    rw [decide_eq_false (by omega)] at q'; cases q'
  refine And.intro (fun q => ?_) (fun _ => ?_)
  · have q' : (bif decide (((m + 1 : Nat) : Int) ≤ 0) then true else ((pk code d 6).1 == 0)) = true := q
    rw [h6, decide_eq_false (by omega)] at q'; cases q'
  refine Or.inr (Or.inl (Exists.intro _ (Exists.intro _ (And.intro (pickW code (pk code d 6).2 hb (by omega) 10) ?_))))
  rw [hp]
  refine And.intro (fun q => by cases q) (fun _ => ?_)
  refine And.intro (fun q => by cases q) (fun _ => ?_)
  refine And.intro (fun q => by cases q) (fun _ => ?_)
  refine And.intro (fun q => by cases q) (fun _ => ?_)
  refine And.intro (fun q => by cases q) (fun _ => ?_)
  refine And.intro (fun q => by cases q) (fun _ => ?_)
  refine And.intro (fun q => by cases q) (fun _ => ?_)
  refine And.intro (fun _ => ?_) (fun q => by cases q)
  refine Or.inr (Or.inl (Exists.intro _ (Exists.intro _ (And.intro (pickW code (pk code (pk code d 6).2 10).2 hb (by omega) 4) ?_))))
  refine Or.inr (Or.inr (Exists.intro _ (Exists.intro _ (And.intro (cc0R 8 _) ?_))))
  refine Or.inr (Or.inl (Exists.intro _ (Exists.intro _ (And.intro (pickW code (pk code (pk code (pk code d 6).2 10).2 4).2 hb (by omega) 4) ?_))))
  refine lp (List Cor × Nat × DS) (fun s => [(12, .int .i64 (s.2.1 : Nat))]) (fun s => tSrc code s.2.2 ++ [.cel 11 27 [.int .i64 8, .int .i64 (pk code (pk code (pk code d 6).2 10).2 4).1, .raw (.slice none 0 0), .sl 20000], .dat 20000 27 4 uCor s.1, .cel 6 27 [.int .i64 0, .int .i64 0, .raw (.slice none 0 0), .raw (.slice none 0 0)]]) (fun s => s.2.1) (fun s => s.1 ++ itC C D s.2.1 s.2.2 = itC C D n (pk code (pk code (pk code (pk code d 6).2 10).2 4).2 4).2 ∧ itD D s.2.1 s.2.2 = itD D n (pk code (pk code (pk code (pk code d 6).2 10).2 4).2 4).2 ∧ s.2.2.k + s.2.1 * kbN m ≤ (pk code (pk code (pk code (pk code d 6).2 10).2 4).2 4).2.k + n * kbN m ∧ s.2.1 ≤ 3 ∧ s.1.length ≤ 3 - s.2.1) ([], n, (pk code (pk code (pk code (pk code d 6).2 10).2 4).2 4).2) ⟨rfl, rfl, Nat.le_refl _, hn, by show 0 ≤ 3 - n; omega⟩ ?_ ?_
  · exact hdm [⟨4000011, 500000, 27, 4, uCor⟩] [(20000, 500000)] rfl (And.intro (And.intro ⟨en, rfl⟩ trivial) ⟨trivial, srcEq _ _, trivial, ⟨⟨rfl, rfl⟩, ⟨rfl, rfl⟩, rfl, rfl, trivial⟩, rfl, trivial, ⟨⟨rfl, rfl⟩, ⟨rfl, rfl⟩, rfl, rfl, trivial⟩, trivial⟩)
  rintro ⟨xs, j, dd⟩ ⟨g1, g2, g3, g4, g5⟩
  have g1' : xs ++ itC C D j dd = _ := g1
  have g2' : itD D j dd = _ := g2
  have g3' : dd.k + j * kbN m ≤ _ := g3
  have g4' : j ≤ 3 := g4
  have g5' : xs.length ≤ 3 - j := g5
  refine And.intro (fun q1 => ?_) (fun q1 => ?_)
  · have hj : 0 < j := by have : 0 < ((j : Nat) : Int) := of_decide_eq_true q1; omega
    obtain ⟨i, rfl⟩ : ∃ i, j = i + 1 := ⟨j - 1, by omega⟩
    have g6 : (i + 1) * kbN m = i * kbN m + kbN m := Nat.succ_mul _ _
    obtain ⟨_, c2, c3⟩ := hC dd (by omega)
    conv => whnf
    refine Or.inr (Or.inr (Exists.intro _ (Exists.intro _ (And.intro (by show FCallG _ _ [_, .int .i64 free, .int .i64 (IntKind.i64.wrap (((m + 1 : Nat) : Int) - 1))] _ _ _; rw [w1]; exact c3) ?_))))
    refine And.intro (show xs.length + 1 ≤ _ by omega) ?_
    refine And.intro (by kernel_rfl) ?_
    refine lp_next (xs ++ [C dd], i, D dd) ⟨?_, g2', ?_, ?_, ?_⟩ ?_ ?_
    · rw [← g1']; show (xs ++ [_]) ++ _ = xs ++ (C dd :: itC C D i (D dd)); simp
    · show (D dd).k + i * kbN m ≤ _; omega
    · show i ≤ 3; omega
    · show (xs ++ [_]).length ≤ 3 - i; simp; omega
    · refine Go.Tr.hd [(20000, 132)] rfl (And.intro ⟨wrapPredI (by omega), rfl⟩ trivial) ⟨trivial, srcEq _ _, trivial, ⟨⟨rfl, rfl⟩, ⟨rfl, rfl⟩, rfl, rfl, trivial⟩, ?_, trivial, ⟨⟨rfl, rfl⟩, ⟨rfl, rfl⟩, rfl, rfl, trivial⟩, trivial⟩
      show xs ++ [.node (cKd (C dd), cVl (C dd), cDt (C dd)) (C dd).kids] = xs ++ [C dd]
      rw [node_eta]
    · show i < i + 1
      omega
  · have hj : j = 0 := by have : ¬ 0 < ((j : Nat) : Int) := of_decide_eq_false q1; omega
    subst hj
    refine fin [(10001, 20000)] (And.intro rfl ?_)
    have e1 : xs = itC C D n (pk code (pk code (pk code (pk code d 6).2 10).2 4).2 4).2 := by rw [← g1']; exact (List.append_nil xs).symm
    have e2 : dd = itD D n (pk code (pk code (pk code (pk code d 6).2 10).2 4).2 4).2 := g2'
    rw [← e1, ← e2]
    exact ⟨trivial, srcEq _ _, ⟨rfl, trivial⟩⟩
set_option maxHeartbeats 1000000 in
set_option maxRecDepth 100000 in
theorem deep8 (hb : Bytes code) (m : Nat) (ih : DrawP code m) (hk : d.k + kbN (m + 1) ≤ 99990000) (free : Int) (hf : 1 ≤ free) (hf2 : free + (m + 1 : Nat) ≤ 1000) (h6 : ((pk code d 6).1 == 0) = false) (hp : (pk code (pk code d 6).2 10).1 = 8) : ∃ (c : Cor) (d' : DS), wT c ≤ sbN (m + 1) ∧ d'.k ≤ d.k + kbN (m + 1) ∧ FCallG Try.prog 34 [.ptr 10000 0, .int .i64 free, .int .i64 (m + 1 : Nat)] (tSrc code d) (.agg (cSV c)) (tSrc code d') := by
  have k0 := pk_k code d 6
  have k1 := pk_k code (pk code d 6).2 10
  have ek : kbN (m + 1) = 3 * kbN m + 40 := rfl
  have es : sbN (m + 1) = 3 * sbN m + 4 := rfl
  have e1 := kb_ge m
  have e2 := sb_ge m
  have w1 : IntKind.i64.wrap (((m + 1 : Nat) : Int) - 1) = ((m : Nat) : Int) := by rw [wrapI (by omega)]; omega
  obtain ⟨c1, d1, s1, k2, h1⟩ := ih free (pk code (pk code d 6).2 10).2 (by omega) (by omega) (by omega)
  have k9 := pk_k code d1 3
  obtain ⟨n, hn, en⟩ : ∃ n : Nat, n ≤ 2 ∧ (pk code d1 3).1 = (n : Nat) := by
    have z1 := pk_0 hb d1 3
    have z2 := pk_lt hb d1 (n := 3) (by decide)
    exact ⟨(pk code d1 3).1.toNat, by omega, by omega⟩
  have hpd := pkD_k code 4 (n + 1) (pk code d1 3).2
  refine ⟨mkC 9 0 (pks code 4 (n + 1) (pk code d1 3).2) [c1], pkD code 4 (n + 1) (pk code d1 3).2, ?_, ?_, ?_⟩
  · simp [wT, wL, pks_len]; omega
  · omega
  refine FCallG.fzT (ts1 := tSrc code (pkD code 4 (n + 1) (pk code d1 3).2)) (ts2 := [.row 10001 2 1 (.int .i64) (pks code 4 (n + 1) (pk code d1 3).2) []]) (r1 := .agg [.int .i64 9, .int .i64 0, .sl 10001, .rsl uCor [c1]]) ?_ rfl
  refine FCallG.intro (nt := 173) ti_ok mixed okDrawC Try.func34 rfl rfl rfl rfl rfl rfl ?_
  refine Or.inr (And.intro (fun _ => Exists.intro _ (Exists.intro _ (And.intro (oneW code d hb (by omega) 6) ?_))) (fun q => ?_))
  rotate_left
  · have q' : (!decide (((m + 1 : Nat) : Int) ≤ 0)) = false := q
    rw [decide_eq_false (by omega)] at q'; cases q'
  refine And.intro (fun q => ?_) (fun _ => ?_)
  · have q' : (bif decide (((m + 1 : Nat) : Int) ≤ 0) then true else ((pk code d 6).1 == 0)) = true := q
    rw [h6, decide_eq_false (by omega)] at q'; cases q'
  refine Or.inr (Or.inl (Exists.intro _ (Exists.intro _ (And.intro (pickW code (pk code d 6).2 hb (by omega) 10) ?_))))
  rw [hp]
  refine And.intro (fun q => by cases q) (fun _ => ?_)
  refine And.intro (fun q => by cases q) (fun _ => ?_)
  refine And.intro (fun q => by cases q) (fun _ => ?_)
  refine And.intro (fun q => by cases q) (fun _ => ?_)
  refine And.intro (fun q => by cases q) (fun _ => ?_)
  refine And.intro (fun q => by cases q) (fun _ => ?_)
  refine And.intro (fun q => by cases q) (fun _ => ?_)
  refine And.intro (fun q => by cases q) (fun _ => ?_)
  refine And.intro (fun _ => ?_) (fun q => by cases q)
  refine Or.inr (Or.inr (Exists.intro _ (Exists.intro _ (And.intro (by show FCallG _ _ [_, .int .i64 free, .int .i64 (IntKind.i64.wrap (((m + 1 : Nat) : Int) - 1))] _ _ _; rw [w1]; exact h1) ?_))))
  refine Or.inr (Or.inr (Exists.intro _ (Exists.intro _ (And.intro (ccR 9 0 _) ?_))))
  refine Or.inr (Or.inl (Exists.intro _ (Exists.intro _ (And.intro (pickW code d1 hb (by omega) 3) ?_))))
  conv => whnf
  refine lp (List Int × Nat × DS) (fun s => [(14, .int .i64 ((s.2.1 : Nat) - 1))]) (fun s => tSrc code s.2.2 ++ [.cel 13 27 [.int .i64 9, .int .i64 0, .sl 20000, .rsl uCor [.node (cKd c1, cVl c1, cDt c1) c1.kids]], .row 20000 2 1 (.int .i64) s.1 [], .cel 6 27 [.int .i64 0, .int .i64 0, .raw (.slice none 0 0), .raw (.slice none 0 0)]]) (fun s => s.2.1) (fun s => s.1 ++ pks code 4 s.2.1 s.2.2 = pks code 4 (n + 1) (pk code d1 3).2 ∧ pkD code 4 s.2.1 s.2.2 = pkD code 4 (n + 1) (pk code d1 3).2 ∧ s.2.2.k + 2 * s.2.1 ≤ (pk code d1 3).2.k + 2 * (n + 1) ∧ s.2.1 ≤ 3 ∧ s.1.length ≤ 3 - s.2.1) ([], n + 1, (pk code d1 3).2) ⟨rfl, rfl, Nat.le_refl _, by show n + 1 ≤ 3; omega, by show 0 ≤ 3 - (n + 1); omega⟩ ?_ ?_
  · refine hdm [⟨3000013, 30000, 2, 1, .int .i64⟩] [(20000, 30000)] rfl (And.intro (And.intro ⟨?_, rfl⟩ trivial) ⟨trivial, srcEq _ _, trivial, ⟨⟨rfl, rfl⟩, ⟨rfl, rfl⟩, rfl, rfl, trivial⟩, ⟨rfl, List.nil_prefix⟩, trivial, ⟨⟨rfl, rfl⟩, ⟨rfl, rfl⟩, rfl, rfl, trivial⟩, trivial⟩)
    show (pk code d1 3).1 = ((n + 1 : Nat) : Int) - 1; omega
  rintro ⟨xs, j, dd⟩ ⟨g1, g2, g3, g4, g5⟩
  have g1' : xs ++ pks code 4 j dd = _ := g1
  have g2' : pkD code 4 j dd = _ := g2
  have g3' : dd.k + 2 * j ≤ _ := g3
  have g4' : j ≤ 3 := g4
  have g5' : xs.length ≤ 3 - j := g5
  refine And.intro (fun q1 => ?_) (fun q1 => ?_)
  · have hj : 0 < j := by have : 0 ≤ ((j : Nat) : Int) - 1 := of_decide_eq_true q1; omega
    obtain ⟨i, rfl⟩ : ∃ i, j = i + 1 := ⟨j - 1, by omega⟩
    have c2 := pk_k code dd 4
    conv => whnf
    refine Or.inr (Or.inl (Exists.intro _ (Exists.intro _ (And.intro (pickW code dd hb (by omega) 4) ?_))))
    refine And.intro (show xs.length + 1 ≤ _ by omega) ?_
    refine And.intro (by kernel_rfl) ?_
    refine lp_next (xs ++ [(pk code dd 4).1], i, (pk code dd 4).2) ⟨?_, g2', ?_, ?_, ?_⟩ ?_ ?_
    · rw [← g1']; show (xs ++ [_]) ++ _ = xs ++ ((pk code dd 4).1 :: pks code 4 i (pk code dd 4).2); simp
    · show (pk code dd 4).2.k + 2 * i ≤ _; omega
    · show i ≤ 3; omega
    · show (xs ++ [_]).length ≤ 3 - i; simp; omega
    · refine Go.Tr.hd [(20000, 155)] rfl (And.intro ⟨?_, rfl⟩ trivial) ⟨trivial, srcEq _ _, trivial, ⟨⟨rfl, rfl⟩, ⟨rfl, rfl⟩, rfl, rfl, trivial⟩, ⟨rfl, List.nil_prefix⟩, trivial, ⟨⟨rfl, rfl⟩, ⟨rfl, rfl⟩, rfl, rfl, trivial⟩, trivial⟩
      show IntKind.i64.wrap (((i + 1 : Nat) : Int) - 1 - 1) = ((i : Nat) : Int) - 1
      rw [wrapI (by omega)]; omega
    · show i < i + 1
      omega
  · have hj : j = 0 := by have : ¬ 0 ≤ ((j : Nat) : Int) - 1 := of_decide_eq_false q1; omega
    subst hj
    refine fin [(10001, 20000)] (And.intro ?_ ?_)
    rotate_left
    · have e1 : xs = pks code 4 (n + 1) (pk code d1 3).2 := by rw [← g1']; exact (List.append_nil xs).symm
      have e2 : dd = pkD code 4 (n + 1) (pk code d1 3).2 := g2'
      rw [← e1, ← e2]
      exact ⟨trivial, srcEq _ _, ⟨rfl, List.nil_prefix⟩, trivial⟩
    · show SV.agg [.int .i64 9, .int .i64 0, .sl 20000, .rsl uCor [.node (cKd c1, cVl c1, cDt c1) c1.kids]] = SV.agg [.int .i64 9, .int .i64 0, .sl 20000, .rsl uCor [c1]]
      rw [node_eta]
set_option maxHeartbeats 1000000 in
set_option maxRecDepth 100000 in
theorem deep9 (hb : Bytes code) (m : Nat) (ih : DrawP code m) (hk : d.k + kbN (m + 1) ≤ 99990000) (free : Int) (hf : 1 ≤ free) (hf2 : free + (m + 1 : Nat) ≤ 1000) (h6 : ((pk code d 6).1 == 0) = false) (hp : (pk code (pk code d 6).2 10).1 = 9) : ∃ (c : Cor) (d' : DS), wT c ≤ sbN (m + 1) ∧ d'.k ≤ d.k + kbN (m + 1) ∧ FCallG Try.prog 34 [.ptr 10000 0, .int .i64 free, .int .i64 (m + 1 : Nat)] (tSrc code d) (.agg (cSV c)) (tSrc code d') := by
  have k0 := pk_k code d 6
  have k1 := pk_k code (pk code d 6).2 10
  have ek : kbN (m + 1) = 3 * kbN m + 40 := rfl
  have es : sbN (m + 1) = 3 * sbN m + 4 := rfl
  have e1 := kb_ge m
  have e2 := sb_ge m
  have w1 : IntKind.i64.wrap (((m + 1 : Nat) : Int) - 1) = ((m : Nat) : Int) := by rw [wrapI (by omega)]; omega
  obtain ⟨c1, d1, s1, k2, h1⟩ := ih free (pk code (pk code d 6).2 10).2 (by omega) (by omega) (by omega)
  have k8 := pk_k code d1 4
  have k9 := pk_k code (pk code d1 4).2 4
  refine ⟨mkC 10 0 [(pk code d1 4).1, (pk code (pk code d1 4).2 4).1] [c1], (pk code (pk code d1 4).2 4).2, ?_, ?_, ?_⟩
  · simp [wT, wL]; omega
  · omega
  refine FCallG.fzT (ts1 := tSrc code (pk code (pk code d1 4).2 4).2) (ts2 := [.row 10001 2 1 (.int .i64) [(pk code d1 4).1, (pk code (pk code d1 4).2 4).1] []]) (r1 := .agg [.int .i64 10, .int .i64 0, .sl 10001, .rsl uCor [c1]]) ?_ rfl
  refine FCallG.intro (nt := 173) ti_ok mixed okDrawC Try.func34 rfl rfl rfl rfl rfl rfl ?_
  refine Or.inr (And.intro (fun _ => Exists.intro _ (Exists.intro _ (And.intro (oneW code d hb (by omega) 6) ?_))) (fun q => ?_))
  rotate_left
  · have q' : (!decide (((m + 1 : Nat) : Int) ≤ 0)) = false := q
    rw [decide_eq_false (by omega)] at q'; cases q'
  refine And.intro (fun q => ?_) (fun _ => ?_)
  · have q' : (bif decide (((m + 1 : Nat) : Int) ≤ 0) then true else ((pk code d 6).1 == 0)) = true := q
    rw [h6, decide_eq_false (by omega)] at q'; cases q'
  refine Or.inr (Or.inl (Exists.intro _ (Exists.intro _ (And.intro (pickW code (pk code d 6).2 hb (by omega) 10) ?_))))
  rw [hp]
  refine And.intro (fun q => by cases q) (fun _ => ?_)
  refine And.intro (fun q => by cases q) (fun _ => ?_)
  refine And.intro (fun q => by cases q) (fun _ => ?_)
  refine And.intro (fun q => by cases q) (fun _ => ?_)
  refine And.intro (fun q => by cases q) (fun _ => ?_)
  refine And.intro (fun q => by cases q) (fun _ => ?_)
  refine And.intro (fun q => by cases q) (fun _ => ?_)
  refine And.intro (fun q => by cases q) (fun _ => ?_)
  refine And.intro (fun q => by cases q) (fun _ => ?_)
  refine Or.inr (Or.inr (Exists.intro _ (Exists.intro _ (And.intro (by show FCallG _ _ [_, .int .i64 free, .int .i64 (IntKind.i64.wrap (((m + 1 : Nat) : Int) - 1))] _ _ _; rw [w1]; exact h1) ?_))))
  refine Or.inr (Or.inr (Exists.intro _ (Exists.intro _ (And.intro (ccR 10 0 _) ?_))))
  refine Or.inr (Or.inl (Exists.intro _ (Exists.intro _ (And.intro (pickW code d1 hb (by omega) 4) ?_))))
  refine Or.inr (Or.inl (Exists.intro _ (Exists.intro _ (And.intro (pickW code (pk code d1 4).2 hb (by omega) 4) ?_))))
  refine fin [(10001, 170)] (And.intro ?_ ?_)
  rotate_left
  · exact ⟨trivial, srcEq _ _, ⟨rfl, List.nil_prefix⟩, trivial⟩
  · show SV.agg [.int .i64 10, .int .i64 0, .sl 170, .rsl uCor [.node (cKd c1, cVl c1, cDt c1) c1.kids]] = SV.agg [.int .i64 10, .int .i64 0, .sl 170, .rsl uCor [c1]]
    rw [node_eta]
/-- A drawn term: there is one, of so many nodes at most. -/
theorem drawP (hb : Bytes code) : ∀ n : Nat, DrawP code n
  | 0 => fun free d hf _ hk => by
    have hk' : d.k + 20 ≤ 99990000 := hk
    cases h3 : ((pk code d 3).1 == 0) with
    | false => exact leaf0V code d hb (by omega) free hf h3
    | true =>
      cases h4 : ((pk code (pk code d 3).2 4).1 == 0) with
      | true => exact leaf0R code d hb (by omega) free hf h3 h4
      | false => exact leaf0N code d hb (by omega) free hf h3 h4
  | m + 1 => fun free d hf hf2 hk => by
    have ek : kbN (m + 1) = 3 * kbN m + 40 := rfl
    have es : sbN (m + 1) = 3 * sbN m + 4 := rfl
    cases h6 : ((pk code d 6).1 == 0) with
    | true =>
      have h : ∃ (c : Cor) (d' : DS), wT c ≤ 1 ∧ d'.k ≤ d.k + 20 ∧ FCallG Try.prog 34 [.ptr 10000 0, .int .i64 free, .int .i64 (m + 1 : Nat)] (tSrc code d) (.agg (cSV c)) (tSrc code d') := by
        cases h3 : ((pk code (pk code d 6).2 3).1 == 0) with
        | false => exact leaf1V code d hb (by omega) m free hf h6 h3
        | true =>
          cases h4 : ((pk code (pk code (pk code d 6).2 3).2 4).1 == 0) with
          | true => exact leaf1R code d hb (by omega) m free hf h6 h3 h4
          | false => exact leaf1N code d hb (by omega) m free hf h6 h3 h4
      obtain ⟨c, d', h1, h2, h3⟩ := h
      exact ⟨c, d', by omega, by omega, h3⟩
    | false =>
      have z1 := pk_0 hb (pk code d 6).2 10
      have z2 := pk_lt hb (pk code d 6).2 (n := 10) (by decide)
      have z3 : (pk code (pk code d 6).2 10).1 = 0 ∨ (pk code (pk code d 6).2 10).1 = 1 ∨ (pk code (pk code d 6).2 10).1 = 2 ∨ (pk code (pk code d 6).2 10).1 = 3 ∨ (pk code (pk code d 6).2 10).1 = 4 ∨ (pk code (pk code d 6).2 10).1 = 5 ∨ (pk code (pk code d 6).2 10).1 = 6 ∨ (pk code (pk code d 6).2 10).1 = 7 ∨ (pk code (pk code d 6).2 10).1 = 8 ∨ (pk code (pk code d 6).2 10).1 = 9 := by omega
      have ih := drawP hb m
      rcases z3 with z | z | z | z | z | z | z | z | z | z
      · exact deep0 code d hb m ih hk free hf hf2 h6 z
      · exact deep1 code d hb m ih hk free hf hf2 h6 z
      · exact deep2 code d hb m ih hk free hf hf2 h6 z
      · exact deep3 code d hb m ih hk free hf hf2 h6 z
      · exact deep4 code d hb m ih hk free hf hf2 h6 z
      · exact deep5 code d hb m ih hk free hf hf2 h6 z
      · exact deep6 code d hb m ih hk free hf hf2 h6 z
      · exact deep7 code d hb m ih hk free hf hf2 h6 z
      · exact deep8 code d hb m ih hk free hf hf2 h6 z
      · exact deep9 code d hb m ih hk free hf hf2 h6 z
end
end Go.Proofs.Ytieemijapiiiiaa
