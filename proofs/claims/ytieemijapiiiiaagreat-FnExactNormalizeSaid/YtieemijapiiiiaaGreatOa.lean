/- Core terms as trees: plain functions. No program in it. -/
import Derived.Test.YtieemijapiiiiaaGreatWb
set_option linter.unusedSimpArgs false
set_option linter.unusedVariables false
namespace Go.Tr
open Go Go.RowKit
section
variable {α : Type}
mutual
theorem Tree.ind {P : Tree α → Prop} (h : ∀ t : Tree α, (∀ k ∈ t.kids, P k) → P t) : ∀ t : Tree α, P t
  | .node x l => h (.node x l) (Tree.indL h l)
theorem Tree.indL {P : Tree α → Prop} (h : ∀ t : Tree α, (∀ k ∈ t.kids, P k) → P t) : ∀ l : List (Tree α), ∀ k ∈ l, P k
  | [], k, hk => by simp at hk
  | t :: l, k, hk => by
    rcases List.mem_cons.1 hk with e | hk
    · rw [e]; exact Tree.ind h t
    · exact Tree.indL h l k hk
end
end
abbrev uCn : U := .pair (.int .i64) (.pair (.int .i64) (.sl (.int .i64)))
abbrev uCor : U := .tree uCn
abbrev Cor := Tree (Int × Int × List Int)
abbrev cKd (c : Cor) : Int := (Tree.val c).1
abbrev cVl (c : Cor) : Int := (Tree.val c).2.1
abbrev cDt (c : Cor) : List Int := (Tree.val c).2.2
abbrev mkC (k v : Int) (d : List Int) (l : List Cor) : Cor := .node (k, v, d) l
/-- A term in slots. -/
abbrev cSV (c : Cor) : List SV := [.int .i64 (cKd c), .int .i64 (cVl c), .rsl (.int .i64) (cDt c), .rsl uCor (Tree.kids c)]
theorem eltN {β : Type} {d : β} {l : List β} {i : Nat} (h : i < l.length) : elt d l ((i : Nat) : Int) = l[i] := by
  unfold elt
  rw [show (((i : Nat) : Int)).toNat = i by omega, List.getD_eq_getElem?_getD, List.getElem?_eq_getElem h]; rfl
theorem eltM {β : Type} {d : β} {l : List β} {i : Nat} (h : i < l.length) : elt d l ((i : Nat) : Int) ∈ l := by
  rw [eltN h]; exact List.getElem_mem h
theorem dropE {β : Type} {d : β} {l : List β} {i : Nat} (h : i < l.length) : l.drop i = elt d l ((i : Nat) : Int) :: l.drop (i + 1) := by
  rw [eltN h]; exact List.drop_eq_getElem_cons h
theorem takeE {β : Type} {d : β} {l : List β} {i : Nat} (h : i < l.length) : l.take (i + 1) = l.take i ++ [elt d l ((i : Nat) : Int)] := by
  rw [eltN h, List.take_add_one, List.getElem?_eq_getElem h]; rfl
theorem wrapI {x : Int} (h : -9223372036854775808 ≤ x ∧ x ≤ 9223372036854775807) : IntKind.i64.wrap x = x := IntWalk.i64_in _ h

/-! ### depth, size -/
mutual
def depT : Cor → Nat
  | .node _ l => depL l 1
def depL : List Cor → Nat → Nat
  | [], a => a
  | t :: l, a => depL l (max a (depT t + 1))
end
mutual
def sizT : Cor → Nat
  | .node _ l => sizL l 1
def sizL : List Cor → Nat → Nat
  | [], a => a
  | t :: l, a => sizL l (a + sizT t)
end
theorem sizL_ge : ∀ (l : List Cor) (a : Nat), a ≤ sizL l a
  | [], a => by unfold sizL; omega
  | t :: l, a => by
    unfold sizL
    have := sizL_ge l (a + sizT t)
    omega
theorem sizL_mem {l : List Cor} {a : Nat} {k : Cor} (h : k ∈ l) : sizT k + a ≤ sizL l a := by
  induction l generalizing a with
  | nil => simp at h
  | cons t l ih =>
    unfold sizL
    rcases List.mem_cons.1 h with rfl | h
    · have := sizL_ge l (a + sizT k); omega
    · have := ih h (a := a + sizT t); omega
theorem sizL_len : ∀ (l : List Cor) (a : Nat), a + l.length ≤ sizL l a
  | [], a => by unfold sizL; simp
  | t :: l, a => by
    unfold sizL
    have h := sizL_len l (a + sizT t)
    have : 1 ≤ sizT t := by cases t with | node x m => unfold sizT; exact sizL_ge m 1
    simp only [List.length_cons]
    omega
theorem sizT_node (x : Int × Int × List Int) (l : List Cor) : sizT (.node x l) = sizL l 1 := by rw [sizT]
theorem sizT_kid {t k : Cor} (h : k ∈ t.kids) : sizT k + 1 ≤ sizT t := by
  cases t with
  | node x l =>
    rw [sizT_node]
    exact sizL_mem h
theorem sizT_len (t : Cor) : t.kids.length + 1 ≤ sizT t := by
  cases t with
  | node x l => show l.length + 1 ≤ sizT (.node x l); rw [sizT_node]; have := sizL_len l 1; omega
theorem depT_node (x : Int × Int × List Int) (l : List Cor) : depT (.node x l) = depL l 1 := by rw [depT]
mutual
theorem depT_le : ∀ t : Cor, depT t ≤ sizT t
  | .node x l => by rw [depT, sizT]; exact depL_le l 1 1 (Nat.le_refl _) (Nat.le_refl _)
theorem depL_le : ∀ (l : List Cor) (a b : Nat), a ≤ b → 1 ≤ b → depL l a ≤ sizL l b
  | [], a, b, h, _ => by unfold depL sizL; exact h
  | t :: l, a, b, h, hb => by
    unfold depL sizL
    have h1 := depT_le t
    exact depL_le l _ _ (by omega) (by omega)
end

/-! ### what a node may be -/
def inC (x a b : Int) : Bool := bif decide (a ≤ x) then decide (x ≤ b) else false
def shapeN (k : Int) : Int × Int × Int × Int :=
  bif k == 1 || k == 2 || k == 11 then (0, 0, 0, 0) else bif k == 3 || k == 5 || k == 7 then (2, 2, 0, 0) else bif k == 4 || k == 6 then (1, 1, 0, 0)
  else bif k == 8 then (0, 3, 0, 0) else bif k == 9 then (1, 1, 1, 4) else bif k == 10 then (1, 1, 2, 2) else (0, -1, 0, 0)
def valN (k v : Int) : Bool := bif k == 1 then inC v 0 255 else bif k == 2 then inC v (-2147483648) 2147483647 else bif k == 3 then inC v 1 6 else bif k == 8 then inC v 0 3 else bif k == 11 then inC v 0 23 else v == 0
def numOk (k v : Int) (n m : Nat) : Bool := inC (n : Nat) (shapeN k).1 (shapeN k).2.1 && (inC (m : Nat) (shapeN k).2.2.1 (shapeN k).2.2.2 && valN k v)
def nodeOk (c : Cor) : Bool := numOk (cKd c) (cVl c) (Tree.kids c).length (cDt c).length && (cDt c).all fun x => inC x 0 23
mutual
def goodT : Cor → Bool
  | .node x l => nodeOk (.node x l) && goodL l
def goodL : List Cor → Bool
  | [] => true
  | t :: l => goodT t && goodL l
end
/-- Valid. -/
def okC (c : Cor) : Bool := goodT c && (decide (depT c ≤ 80) && decide (sizT c ≤ 400))
theorem goodL_iff : ∀ {l : List Cor}, goodL l = true ↔ ∀ k ∈ l, goodT k = true
  | [] => by simp [goodL]
  | t :: l => by rw [goodL, Bool.and_eq_true, goodL_iff (l := l)]; simp
theorem goodT_iff {c : Cor} : goodT c = true ↔ nodeOk c = true ∧ ∀ k ∈ c.kids, goodT k = true := by
  cases c with
  | node x l => rw [goodT, Bool.and_eq_true, goodL_iff]; rfl
theorem depL_iff : ∀ {l : List Cor} {a n : Nat}, depL l a ≤ n ↔ a ≤ n ∧ ∀ k ∈ l, depT k + 1 ≤ n
  | [], a, n => by simp [depL]
  | t :: l, a, n => by
    rw [depL, depL_iff (l := l)]
    simp only [Nat.max_le, and_assoc, List.mem_cons, forall_eq_or_imp]
theorem depT_iff {c : Cor} {n : Nat} : depT c ≤ n ↔ 1 ≤ n ∧ ∀ k ∈ c.kids, depT k + 1 ≤ n := by
  cases c with
  | node x l => rw [depT_node, depL_iff]; rfl
theorem sizL_split : ∀ (l : List Cor) (a i : Nat), sizL l a = sizL (l.drop i) (sizL (l.take i) a)
  | l, a, 0 => by simp [sizL]
  | [], a, i + 1 => by simp [sizL]
  | t :: l, a, i + 1 => by
    simp only [List.take_succ_cons, List.drop_succ_cons, sizL]
    exact sizL_split l (a + sizT t) i
theorem sizL_app : ∀ (l m : List Cor) (a : Nat), sizL (l ++ m) a = sizL m (sizL l a)
  | [], m, a => by simp [sizL]
  | t :: l, m, a => by simp only [List.cons_append, sizL]; exact sizL_app l m _
theorem sizL_take {l : List Cor} {i : Nat} (h : i < l.length) : sizL (l.take (i + 1)) 1 = sizL (l.take i) 1 + sizT (elt (dflt uCor) l ((i : Nat) : Int)) := by
  rw [takeE (d := dflt uCor) h, sizL_app]; simp [sizL]
theorem sizT_kids (c : Cor) : sizT c = sizL c.kids 1 := by cases c with | node x l => exact sizT_node x l
theorem sizL_pre (l : List Cor) (i : Nat) : sizL (l.take i) 1 ≤ sizL l 1 := by
  rw [sizL_split l 1 i]; exact sizL_ge _ _
/-- What the reference's count gives. -/
def nodesV (c : Cor) (d l : Int) : Int := bif goodT c && (decide ((depT c : Int) ≤ d) && decide ((sizT c : Int) ≤ l)) then (sizT c : Int) else -1
theorem nodesV_ok {c : Cor} {d l : Int} (h1 : goodT c = true) (h2 : (depT c : Int) ≤ d) (h3 : (sizT c : Int) ≤ l) : nodesV c d l = sizT c := by
  unfold nodesV; rw [h1, decide_eq_true h2, decide_eq_true h3]; rfl
theorem nodesV_bad {c : Cor} {d l : Int} (h : goodT c = true → (depT c : Int) ≤ d → (sizT c : Int) ≤ l → False) : nodesV c d l = -1 := by
  unfold nodesV
  cases h1 : goodT c with
  | false => rfl
  | true =>
    by_cases h2 : (depT c : Int) ≤ d
    · by_cases h3 : (sizT c : Int) ≤ l
      · exact (h h1 h2 h3).elim
      · rw [decide_eq_false h3, decide_eq_true h2]; rfl
    · rw [decide_eq_false h2]; rfl
theorem nodesV_neg {c : Cor} {d l : Int} (h : nodesV c d l < 0) : goodT c = true → (depT c : Int) ≤ d → (sizT c : Int) ≤ l → False := fun h1 h2 h3 => by
  rw [nodesV_ok h1 h2 h3] at h; omega
theorem nodesV_pos {c : Cor} {d l : Int} (h : ¬ nodesV c d l < 0) : goodT c = true ∧ (depT c : Int) ≤ d ∧ (sizT c : Int) ≤ l := by
  cases h1 : goodT c with
  | false => exact (h (by rw [nodesV_bad (fun a => by rw [h1] at a; cases a)]; decide)).elim
  | true =>
    by_cases h2 : (depT c : Int) ≤ d
    · by_cases h3 : (sizT c : Int) ≤ l
      · exact ⟨rfl, h2, h3⟩
      · exact (h (by rw [nodesV_bad (fun _ _ a => h3 a)]; decide)).elim
    · exact (h (by rw [nodesV_bad (fun _ a => (h2 a).elim)]; decide)).elim
theorem nodesV_okC (c : Cor) : decide (0 < nodesV c 80 400) = okC c := by
  unfold okC
  have hs : 1 ≤ sizT c := by have := sizT_len c; omega
  cases h1 : goodT c with
  | false => rw [nodesV_bad (fun a => by rw [h1] at a; cases a)]; rfl
  | true =>
    by_cases h2 : depT c ≤ 80
    · by_cases h3 : sizT c ≤ 400
      · rw [nodesV_ok h1 (by omega) (by omega), decide_eq_true h2, decide_eq_true h3, decide_eq_true (by omega)]; rfl
      · rw [nodesV_bad (fun _ _ a => h3 (by omega)), decide_eq_true h2, decide_eq_false h3]; rfl
    · rw [nodesV_bad (fun _ a => (h2 (by omega)).elim), decide_eq_false h2]; rfl
theorem inC_iff {x a b : Int} : inC x a b = true ↔ a ≤ x ∧ x ≤ b := by
  unfold inC
  by_cases h : a ≤ x
  · rw [decide_eq_true h]; simp [h]
  · rw [decide_eq_false h]; simp [h]
theorem shapeN_b (k : Int) : (shapeN k).2.1 ≤ 3 ∧ (shapeN k).2.2.2 ≤ 4 := by
  unfold shapeN
  cases (k == 1 || k == 2 || k == 11) <;> cases (k == 3 || k == 5 || k == 7) <;> cases (k == 4 || k == 6) <;> cases (k == 8) <;> cases (k == 9) <;> cases (k == 10) <;> decide
theorem numOk_b {k v : Int} {n m : Nat} (h : numOk k v n m = true) : n ≤ 3 ∧ m ≤ 4 := by
  unfold numOk at h
  simp only [Bool.and_eq_true] at h
  have h1 := inC_iff.1 h.1
  have h2 := inC_iff.1 h.2.1
  have := shapeN_b k
  omega
theorem inC_eq (x a : Int) : inC x a a = (x == a) := by
  rw [Bool.eq_iff_iff, inC_iff, beq_iff_eq]; omega
theorem b3 (a b c : Bool) : (a && (b && c)) = ((c && b) && a) := by cases a <;> cases b <;> cases c <;> rfl
theorem numOk1 {k v : Int} (n m : Nat) (h : k = 1) : numOk k v n m = ((inC v 0 255 && ((m : Nat) : Int) == 0) && ((n : Nat) : Int) == 0) := by
  subst h; show (inC n 0 0 && (inC m 0 0 && inC v 0 255)) = _; rw [inC_eq, inC_eq, b3]
theorem numOk2 {k v : Int} (n m : Nat) (h : k = 2) : numOk k v n m = ((inC v (-2147483648) 2147483647 && ((m : Nat) : Int) == 0) && ((n : Nat) : Int) == 0) := by
  subst h; show (inC n 0 0 && (inC m 0 0 && inC v (-2147483648) 2147483647)) = _; rw [inC_eq, inC_eq, b3]
theorem numOk3 {k v : Int} (n m : Nat) (h : k = 3) : numOk k v n m = ((inC v 1 6 && ((m : Nat) : Int) == 0) && ((n : Nat) : Int) == 2) := by
  subst h; show (inC n 2 2 && (inC m 0 0 && inC v 1 6)) = _; rw [inC_eq, inC_eq, b3]
theorem numOk4 {k v : Int} (n m : Nat) (h : k = 4 ∨ k = 6) : numOk k v n m = ((v == 0 && ((m : Nat) : Int) == 0) && ((n : Nat) : Int) == 1) := by
  rcases h with h | h <;> (subst h; show (inC n 1 1 && (inC m 0 0 && (v == 0))) = _; rw [inC_eq, inC_eq, b3])
theorem numOk5 {k v : Int} (n m : Nat) (h : k = 5 ∨ k = 7) : numOk k v n m = ((v == 0 && ((m : Nat) : Int) == 0) && ((n : Nat) : Int) == 2) := by
  rcases h with h | h <;> (subst h; show (inC n 2 2 && (inC m 0 0 && (v == 0))) = _; rw [inC_eq, inC_eq, b3])
theorem numOk8 {k v : Int} (n m : Nat) (h : k = 8) : numOk k v n m = (inC n 0 3 && (((m : Nat) : Int) == 0 && inC v 0 3)) := by
  subst h; show (inC n 0 3 && (inC m 0 0 && inC v 0 3)) = _; rw [inC_eq m]
theorem numOk9 {k v : Int} (n m : Nat) (h : k = 9) : numOk k v n m = ((v == 0 && inC m 1 4) && ((n : Nat) : Int) == 1) := by
  subst h; show (inC n 1 1 && (inC m 1 4 && (v == 0))) = _; rw [inC_eq, b3]
theorem numOk10 {k v : Int} (n m : Nat) (h : k = 10) : numOk k v n m = ((v == 0 && ((m : Nat) : Int) == 2) && ((n : Nat) : Int) == 1) := by
  subst h; show (inC n 1 1 && (inC m 2 2 && (v == 0))) = _; rw [inC_eq, inC_eq, b3]
theorem numOk11 {k v : Int} (n m : Nat) (h : k = 11) : numOk k v n m = ((inC v 0 23 && ((m : Nat) : Int) == 0) && ((n : Nat) : Int) == 0) := by
  subst h; show (inC n 0 0 && (inC m 0 0 && inC v 0 23)) = _; rw [inC_eq, inC_eq, b3]
/-- What the program makes of it. -/
theorem nodeP {c : Cor} {val dat : Bool} {cnt : Int} (h : numOk (cKd c) (cVl c) (Tree.kids c).length (cDt c).length = ((val && dat) && (((Tree.kids c).length : Nat) : Int) == cnt)) :
    (bif (bif (bif val then dat else false) then ((((Tree.kids c).length : Nat) : Int) == cnt) else false) then !((cDt c).any fun x => !inC x 0 23) else false) = nodeOk c := by
  have e : (!((cDt c).any fun x => !inC x 0 23)) = (cDt c).all fun x => inC x 0 23 := by
    rw [Bool.eq_iff_iff]; simp
  unfold nodeOk
  rw [h, e]
  cases val <;> cases dat <;> cases ((((Tree.kids c).length : Nat) : Int) == cnt) <;> rfl
/-- Where a test holds for the first time. -/
def idxF {α : Type} (g : α → Bool) : List α → Nat → Int
  | [], _ => -1
  | x :: l, i => bif g x then ((i : Nat) : Int) else idxF g l (i + 1)
theorem idxF_any {α : Type} (g : α → Bool) : ∀ (l : List α) (i : Nat), decide (0 ≤ idxF g l i) = l.any g
  | [], i => rfl
  | x :: l, i => by
    unfold idxF
    cases h : g x with
    | true => simp [h]
    | false => simp only [cond_false, List.any_cons, h, Bool.false_or]; exact idxF_any g l (i + 1)
/-- What the program's shape gives. -/
def shapeR (c : Cor) : Int × Int × Bool := bif goodT c then ((depT c : Int), (sizT c : Int), true) else (0, 0, false)
theorem depL_take {l : List Cor} {i : Nat} (h : i < l.length) : depL (l.take (i + 1)) 1 = max (depL (l.take i) 1) (depT (elt (dflt uCor) l ((i : Nat) : Int)) + 1) := by
  rw [takeE (d := dflt uCor) h]
  have : ∀ (m : List Cor) (a : Nat) (x : Cor), depL (m ++ [x]) a = max (depL m a) (depT x + 1) := by
    intro m
    induction m with
    | nil => intro a x; simp [depL]
    | cons y m ih => intro a x; simp only [List.cons_append, depL]; exact ih _ x
  exact this _ _ _
theorem depL_pre (l : List Cor) (i : Nat) : depL (l.take i) 1 ≤ depL l 1 := by
  have h := (@depL_iff l 1 (depL l 1)).1 (Nat.le_refl _)
  exact depL_iff.2 ⟨h.1, fun k hk => h.2 k (List.mem_of_mem_take hk)⟩
theorem depT_kids (c : Cor) : depT c = depL c.kids 1 := by cases c with | node x l => exact depT_node x l
theorem shapeR_ok {c : Cor} (h : goodT c = true) : shapeR c = ((depT c : Int), (sizT c : Int), true) := by unfold shapeR; rw [h]; rfl
theorem shapeR_bad {c : Cor} (h : goodT c = false) : shapeR c = (0, 0, false) := by unfold shapeR; rw [h]; rfl
/-- How many more variables a kid has. -/
def bindN (k : Int) (i : Int) : Int := bif k == 4 || (k == 7 && i == 1) then 1 else 0
theorem bindN_b (k i : Int) : 0 ≤ bindN k i ∧ bindN k i ≤ 1 := by unfold bindN; cases (k == 4 || (k == 7 && i == 1)) <;> decide
mutual
/-- Occurrences of a variable. -/
def cntT : Cor → Int → Nat
  | .node x l, n => bif x.1 == 1 then (bif x.2.1 == n then 1 else 0) else cntL x.1 l 0 n
def cntL (k : Int) : List Cor → Nat → Int → Nat
  | [], _, _ => 0
  | t :: l, i, n => cntT t (n + bindN k (i : Nat)) + cntL k l (i + 1) n
end
theorem cntT_var {c : Cor} (h : (cKd c == 1) = true) (n : Int) : cntT c n = (bif cVl c == n then 1 else 0) := by
  cases c with
  | node x l => rw [cntT]; rw [show (x.1 == 1) = true from h]; rfl
theorem cntT_kids {c : Cor} (h : (cKd c == 1) = false) (n : Int) : cntT c n = cntL (cKd c) c.kids 0 n := by
  cases c with
  | node x l => rw [cntT]; rw [show (x.1 == 1) = false from h]; rfl
mutual
theorem cntT_le : ∀ (c : Cor) (n : Int), cntT c n ≤ sizT c
  | .node x l, n => by
    rw [cntT, sizT_node]
    have h1 := sizL_ge l 1
    cases x.1 == 1 with
    | true => cases x.2.1 == n <;> simp <;> omega
    | false => have := cntL_le x.1 l 0 n 1; simp only [cond_false]; omega
theorem cntL_le (k : Int) : ∀ (l : List Cor) (i : Nat) (n : Int) (a : Nat), a + cntL k l i n ≤ sizL l a
  | [], i, n, a => by simp [cntL, sizL]
  | t :: l, i, n, a => by
    rw [cntL, sizL]
    have h1 := cntT_le t (n + bindN k (i : Nat))
    have h2 := cntL_le k l (i + 1) n (a + sizT t)
    omega
end
theorem cntL_take (k : Int) (n : Int) : ∀ (l : List Cor) (j i : Nat), i < l.length → cntL k (l.take (i + 1)) j n = cntL k (l.take i) j n + cntT (elt (dflt uCor) l ((i : Nat) : Int)) (n + bindN k ((j + i : Nat) : Int))
  | [], j, i, h => by simp at h
  | t :: l, j, 0, h => by
    rw [eltN h]
    simp [cntL]
  | t :: l, j, i + 1, h => by
    have hi : i < l.length := by simpa using h
    have ih := cntL_take k n l (j + 1) i hi
    rw [eltN h, List.getElem_cons_succ]
    rw [eltN hi] at ih
    simp only [List.take_succ_cons, cntL]
    rw [ih, show j + 1 + i = j + (i + 1) by omega]
    omega
theorem cntL_pre (k : Int) (l : List Cor) (n : Int) (i : Nat) : cntL k (l.take i) 0 n ≤ sizL l 1 := by
  have h1 := cntL_le k (l.take i) 0 n 1
  have h2 := sizL_pre l i
  omega
mutual
/-- The greatest index, or -1. -/
def hiT : Cor → Int
  | .node x l => hiL l (bif x.1 == 1 then x.2.1 else -1)
def hiL : List Cor → Int → Int
  | [], a => a
  | t :: l, a => hiL l (max a (hiT t))
end
theorem hiT_kids (c : Cor) : hiT c = hiL c.kids (bif cKd c == 1 then cVl c else -1) := by cases c with | node x l => rw [hiT]; rfl
theorem hiL_app : ∀ (l m : List Cor) (a : Int), hiL (l ++ m) a = hiL m (hiL l a)
  | [], m, a => by simp [hiL]
  | t :: l, m, a => by simp only [List.cons_append, hiL]; exact hiL_app l m _
theorem hiL_take {l : List Cor} {i : Nat} (a : Int) (h : i < l.length) : hiL (l.take (i + 1)) a = max (hiL (l.take i) a) (hiT (elt (dflt uCor) l ((i : Nat) : Int))) := by
  rw [takeE (d := dflt uCor) h, hiL_app]; simp [hiL]
mutual
/-- Deeply equal. -/
def sameT : Cor → Cor → Bool
  | .node x l, .node y m => (x.1 == y.1 && (x.2.1 == y.2.1 && x.2.2 == y.2.2)) && sameL l m
def sameL : List Cor → List Cor → Bool
  | [], [] => true
  | a :: l, b :: m => sameT a b && sameL l m
  | _, _ => false
end
mutual
theorem sameT_eq : ∀ {a b : Cor}, sameT a b = true ↔ a = b
  | .node x l, .node y m => by
    rw [sameT, Bool.and_eq_true, Bool.and_eq_true, Bool.and_eq_true, beq_iff_eq, beq_iff_eq, beq_iff_eq, sameL_eq]
    constructor
    · rintro ⟨⟨h1, h2, h3⟩, h4⟩
      rw [h4, show x = y from Prod.ext h1 (Prod.ext h2 h3)]
    · intro h
      injection h with h1 h2
      subst h1 h2
      exact ⟨⟨rfl, rfl, rfl⟩, rfl⟩
theorem sameL_eq : ∀ {l m : List Cor}, sameL l m = true ↔ l = m
  | [], [] => by simp [sameL]
  | a :: l, b :: m => by rw [sameL, Bool.and_eq_true, sameT_eq, sameL_eq]; simp
  | [], _ :: _ => by simp [sameL]
  | _ :: _, [] => by simp [sameL]
end
/-- A slice is not longer than an int can say. -/
theorem QCall.rslB {P : Program} {f : Nat} {e : U} {xs : List (El e)} {l : List SV} {r : SV} (hok : callOk P f = true) (h : List.length (α := El e) xs ≤ 9223372036854775807 → QCall P f (.rsl e xs :: l) r) : QCall P f (.rsl e xs :: l) r := by
  refine ⟨hok, fun cx β w fr vs hI hd => ?_⟩
  refine (h ?_).2 cx β w fr vs hI hd
  unfold Dens at hd
  obtain ⟨v, vs', _, h1, _⟩ := hd
  unfold Den at h1
  obtain ⟨bs, h2, _⟩ := h1
  obtain ⟨A, c, _, h3, h4⟩ := h2.slice
  exact Nat.le_trans h3 h4
theorem hiL_ge : ∀ (l : List Cor) (a : Int), a ≤ hiL l a
  | [], a => by simp [hiL]
  | t :: l, a => by rw [hiL]; have := hiL_ge l (max a (hiT t)); omega
theorem node_eta (c : Cor) : Tree.node (cKd c, cVl c, cDt c) (Tree.kids c) = c := by cases c with | node x l => rfl
mutual
/-- Free variables of f or more are raised. -/
def shT (b : Int) : Cor → Int → Cor
  | .node x l, f => .node (x.1, (bif x.1 == 1 && decide (f ≤ x.2.1) then x.2.1 + b else x.2.1), x.2.2) (shL b x.1 l 0 f)
def shL (b k : Int) : List Cor → Nat → Int → List Cor
  | [], _, _ => []
  | t :: l, i, f => shT b t (f + bindN k (i : Nat)) :: shL b k l (i + 1) f
end
theorem shL_len (b k : Int) : ∀ (l : List Cor) (i : Nat) (f : Int), (shL b k l i f).length = l.length
  | [], i, f => by simp [shL]
  | t :: l, i, f => by simp [shL, shL_len b k l (i + 1) f]
theorem shL_take (b k f : Int) : ∀ (l : List Cor) (j i : Nat), i < l.length → shL b k (l.take (i + 1)) j f = shL b k (l.take i) j f ++ [shT b (elt (dflt uCor) l ((i : Nat) : Int)) (f + bindN k ((j + i : Nat) : Int))]
  | [], j, i, h => by simp at h
  | t :: l, j, 0, h => by
    rw [eltN h]
    simp [shL]
  | t :: l, j, i + 1, h => by
    have hi : i < l.length := by simpa using h
    have ih := shL_take b k f l (j + 1) i hi
    rw [eltN h, List.getElem_cons_succ]
    rw [eltN hi] at ih
    simp only [List.take_succ_cons, shL]
    rw [ih, show j + 1 + i = j + (i + 1) by omega]
    simp
theorem shT_eq (b : Int) (c : Cor) (f : Int) : shT b c f = .node (cKd c, (bif cKd c == 1 && decide (f ≤ cVl c) then cVl c + b else cVl c), cDt c) (shL b (cKd c) c.kids 0 f) := by
  cases c with | node x l => rw [shT]; rfl
theorem good_var {c : Cor} (h : goodT c = true) (hk : (cKd c == 1) = true) : 0 ≤ cVl c ∧ cVl c ≤ 255 ∧ cDt c = [] ∧ c.kids = [] := by
  have h1 := (goodT_iff.1 h).1
  unfold nodeOk at h1
  rw [Bool.and_eq_true, numOk1 _ _ (eq_of_beq hk)] at h1
  simp only [Bool.and_eq_true] at h1
  have h2 := inC_iff.1 h1.1.1.1
  have h3 := eq_of_beq h1.1.1.2
  have h4 := eq_of_beq h1.1.2
  exact ⟨h2.1, h2.2, List.eq_nil_of_length_eq_zero (by omega), List.eq_nil_of_length_eq_zero (by omega)⟩
theorem good_dt {c : Cor} (h : goodT c = true) : (cDt c).length ≤ 4 ∧ c.kids.length ≤ 3 := by
  have h1 := (goodT_iff.1 h).1
  unfold nodeOk at h1
  rw [Bool.and_eq_true] at h1
  have := numOk_b h1.1
  omega
mutual
/-- The variables, each by a function of it and of the binders around it. -/
def mapT (g : Cor → Int → Cor) : Cor → Int → Cor
  | .node x l, a => bif x.1 == 1 then g (.node x l) a else .node x (mapL g x.1 l 0 a)
def mapL (g : Cor → Int → Cor) (k : Int) : List Cor → Nat → Int → List Cor
  | [], _, _ => []
  | t :: l, i, a => mapT g t (a + bindN k (i : Nat)) :: mapL g k l (i + 1) a
end
theorem mapL_len (g : Cor → Int → Cor) (k : Int) : ∀ (l : List Cor) (i : Nat) (f : Int), (mapL g k l i f).length = l.length
  | [], i, f => by simp [mapL]
  | t :: l, i, f => by simp [mapL, mapL_len g k l (i + 1) f]
theorem mapL_take (g : Cor → Int → Cor) (k f : Int) : ∀ (l : List Cor) (j i : Nat), i < l.length → mapL g k (l.take (i + 1)) j f = mapL g k (l.take i) j f ++ [mapT g (elt (dflt uCor) l ((i : Nat) : Int)) (f + bindN k ((j + i : Nat) : Int))]
  | [], j, i, h => by simp at h
  | t :: l, j, 0, h => by
    rw [eltN h]
    simp [mapL]
  | t :: l, j, i + 1, h => by
    have hi : i < l.length := by simpa using h
    have ih := mapL_take g k f l (j + 1) i hi
    rw [eltN h, List.getElem_cons_succ]
    rw [eltN hi] at ih
    simp only [List.take_succ_cons, mapL]
    rw [ih, show j + 1 + i = j + (i + 1) by omega]
    simp
theorem mapT_var {g : Cor → Int → Cor} {c : Cor} (h : (cKd c == 1) = true) (a : Int) : mapT g c a = g c a := by
  cases c with
  | node x l => rw [mapT]; rw [show (x.1 == 1) = true from h]; rfl
theorem mapT_kids {g : Cor → Int → Cor} {c : Cor} (h : (cKd c == 1) = false) (a : Int) : mapT g c a = .node (cKd c, cVl c, cDt c) (mapL g (cKd c) c.kids 0 a) := by
  cases c with
  | node x l => rw [mapT]; rw [show (x.1 == 1) = false from h]; rfl
/-- A variable raised. -/
def shV (b f : Int) (v : Cor) (a : Int) : Cor := .node (cKd v, (bif decide (a + f ≤ cVl v) then cVl v + b else cVl v), cDt v) v.kids
/-- A variable for which a term is put. -/
def inV (arg : Cor) (v : Cor) (a : Int) : Cor := bif cVl v == a then shT a arg 0 else .node (cKd v, (bif decide (a < cVl v) then cVl v - 1 else cVl v), cDt v) v.kids
mutual
theorem mapT_sh (b f : Int) : ∀ (c : Cor) (a : Int), goodT c = true → mapT (shV b f) c a = shT b c (a + f)
  | .node x l, a, hg => by
    cases hk : (x.1 == 1) with
    | true =>
      have h1 := good_var hg hk
      have hl : l = [] := h1.2.2.2
      subst hl
      rw [mapT, shT, hk]
      show shV b f (.node x []) a = _
      unfold shV
      show Tree.node (x.1, (bif decide (a + f ≤ x.2.1) then x.2.1 + b else x.2.1), x.2.2) [] = _
      simp [shL]
    | false =>
      rw [mapT, shT, hk]
      have := mapL_sh b f x.1 l 0 a (goodT_iff.1 hg).2
      simp only [cond_false, Bool.false_and]
      rw [this]
theorem mapL_sh (b f k : Int) : ∀ (l : List Cor) (i : Nat) (a : Int), (∀ t ∈ l, goodT t = true) → mapL (shV b f) k l i a = shL b k l i (a + f)
  | [], i, a, _ => by simp [mapL, shL]
  | t :: l, i, a, h => by
    rw [mapL, shL, mapT_sh b f t _ (h t (by simp)), mapL_sh b f k l (i + 1) a fun t ht => h t (by simp [ht]), show a + bindN k (i : Nat) + f = a + f + bindN k (i : Nat) by omega]
end
mutual
def anyT (g : Cor → Bool) : Cor → Bool
  | .node x l => g (.node x l) || anyL g l
def anyL (g : Cor → Bool) : List Cor → Bool
  | [] => false
  | t :: l => anyT g t || anyL g l
end
theorem anyL_eq (g : Cor → Bool) : ∀ l : List Cor, anyL g l = l.any (anyT g)
  | [] => by rw [anyL]; rfl
  | t :: l => by rw [anyL, anyL_eq g l]; rfl
theorem anyT_eq (g : Cor → Bool) (c : Cor) : anyT g c = (g c || c.kids.any (anyT g)) := by cases c with | node x l => rw [anyT, anyL_eq]; rfl
def bigV (c : Cor) : Bool := cKd c == 1 && decide (255 < cVl c)
mutual
theorem bigT : ∀ c : Cor, anyT bigV c = decide (255 < hiT c)
  | .node x l => by
    rw [anyT, hiT, ← bigL l]
    cases hk : (x.1 == 1) with
    | true =>
      have : bigV (.node x l) = decide (255 < x.2.1) := by show (x.1 == 1 && decide (255 < x.2.1)) = _; rw [hk]; rfl
      rw [this]; rfl
    | false =>
      have : bigV (.node x l) = false := by show (x.1 == 1 && decide (255 < x.2.1)) = _; rw [hk]; rfl
      rw [this]; rfl
theorem bigL : ∀ (l : List Cor) (a : Int), (decide (255 < a) || anyL bigV l) = decide (255 < hiL l a)
  | [], a => by rw [anyL, hiL, Bool.or_false]
  | t :: l, a => by
    rw [anyL, hiL, ← bigL l, bigT t]
    have : decide (255 < max a (hiT t)) = (decide (255 < a) || decide (255 < hiT t)) := by
      rw [Bool.eq_iff_iff]; simp only [decide_eq_true_eq, Bool.or_eq_true]; omega
    rw [this, Bool.or_assoc]
end
/-- No term. -/
def zeroC : Cor := .node (0, 0, []) []
theorem okC_iff {c : Cor} : okC c = true ↔ goodT c = true ∧ depT c ≤ 80 ∧ sizT c ≤ 400 := by
  unfold okC; simp [and_assoc]
mutual
theorem shT_siz (b : Int) : ∀ (c : Cor) (f : Int), sizT (shT b c f) = sizT c
  | .node x l, f => by rw [shT, sizT_node, sizT_node]; exact shL_siz b x.1 l 0 f 1
theorem shL_siz (b k : Int) : ∀ (l : List Cor) (i : Nat) (f : Int) (a : Nat), sizL (shL b k l i f) a = sizL l a
  | [], i, f, a => by simp [shL]
  | t :: l, i, f, a => by rw [shL, sizL, sizL, shT_siz b t, shL_siz b k l]
end
mutual
theorem shT_dep (b : Int) : ∀ (c : Cor) (f : Int), depT (shT b c f) = depT c
  | .node x l, f => by rw [shT, depT_node, depT_node]; exact shL_dep b x.1 l 0 f 1
theorem shL_dep (b k : Int) : ∀ (l : List Cor) (i : Nat) (f : Int) (a : Nat), depL (shL b k l i f) a = depL l a
  | [], i, f, a => by simp [shL]
  | t :: l, i, f, a => by rw [shL, depL, depL, shT_dep b t, shL_dep b k l]
end
mutual
theorem mapT_siz (g : Cor → Int → Cor) (m : Nat) (hm : ∀ v a, goodT v = true → cKd v = 1 → sizT (g v a) ≤ m + 1) : ∀ (c : Cor) (a : Int), goodT c = true → sizT (mapT g c a) ≤ sizT c * (m + 1)
  | .node x l, a, hg => by
    cases hk : (x.1 == 1) with
    | true =>
      rw [mapT_var (c := .node x l) hk]
      have h1 := hm (.node x l) a hg (eq_of_beq hk)
      have h2 : 1 ≤ sizT (.node x l) := by rw [sizT_node]; exact sizL_ge l 1
      have h3 : 1 * (m + 1) ≤ sizT (.node x l) * (m + 1) := Nat.mul_le_mul_right _ h2
      omega
    | false =>
      rw [mapT_kids (c := .node x l) hk, sizT_node, sizT_node]
      have := mapL_siz g m hm x.1 l 0 a 1 1 (by omega) (goodT_iff.1 hg).2
      exact this
theorem mapL_siz (g : Cor → Int → Cor) (m : Nat) (hm : ∀ v a, goodT v = true → cKd v = 1 → sizT (g v a) ≤ m + 1) (k : Int) : ∀ (l : List Cor) (i : Nat) (a : Int) (p q : Nat), p ≤ q * (m + 1) → (∀ t ∈ l, goodT t = true) → sizL (mapL g k l i a) p ≤ sizL l q * (m + 1)
  | [], i, a, p, q, h, _ => by simpa [mapL, sizL] using h
  | t :: l, i, a, p, q, h, hg => by
    rw [mapL, sizL, sizL]
    have h1 := mapT_siz g m hm t (a + bindN k (i : Nat)) (hg t (by simp))
    exact mapL_siz g m hm k l (i + 1) a _ _ (by rw [Nat.add_mul]; omega) fun t ht => hg t (by simp [ht])
end
/-- A term with its free variable 0 replaced. -/
def inst (c arg : Cor) : Cor := mapT (inV arg) c 0
theorem inst_siz {c arg : Cor} (hc : okC c = true) (ha : okC arg = true) : sizT (inst c arg) ≤ 1000000 := by
  obtain ⟨h1, _, h2⟩ := okC_iff.1 hc
  obtain ⟨h3, _, h4⟩ := okC_iff.1 ha
  have hs : 1 ≤ sizT arg := by have := sizT_len arg; omega
  have := mapT_siz (inV arg) 400 (fun v a hg hk => by
    have hv := good_var hg (by rw [hk]; rfl)
    unfold inV
    cases cVl v == a with
    | true => show sizT (shT a arg 0) ≤ _; rw [shT_siz]; omega
    | false => show sizT (.node _ v.kids) ≤ _; rw [sizT_node, hv.2.2.2]; decide) c 0 h1
  have h5 : sizT c * 401 ≤ 400 * 401 := Nat.mul_le_mul_right _ h2
  unfold inst
  omega
/-- What an instantiation of valid terms gives. -/
def inR (c arg : Cor) : Cor × Int := bif !(decide (depT (inst c arg) ≤ 80) && decide (sizT (inst c arg) ≤ 400)) then (zeroC, 4) else bif decide (255 < hiT (inst c arg)) then (zeroC, 2) else (inst c arg, 0)
end Go.Tr
