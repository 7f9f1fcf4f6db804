/- Core terms: closed, erased, names; redexes and their contraction. No program in it. -/
import Derived.Test.YtieemijapiiiiaaGreatOp
set_option linter.unusedSimpArgs false
set_option linter.unusedVariables false
namespace Go.Tr
open Go Go.RowKit
/-! ### predicates -/
mutual
/-- All free variables are below a. -/
def clT : Cor → Int → Bool
  | .node x l, a => !(x.1 == 1 && decide (a ≤ x.2.1)) && clL x.1 l 0 a
def clL (k : Int) : List Cor → Nat → Int → Bool
  | [], _, _ => true
  | t :: l, i, a => clT t (a + bindN k (i : Nat)) && clL k l (i + 1) a
end
theorem clT_eq (c : Cor) (a : Int) : clT c a = (!(cKd c == 1 && decide (a ≤ cVl c)) && clL (cKd c) c.kids 0 a) := by cases c with | node x l => rw [clT]; rfl
theorem clL_take (k a : Int) : ∀ (l : List Cor) (j i : Nat), i < l.length → clL k (l.take (i + 1)) j a = (clL k (l.take i) j a && clT (elt (dflt uCor) l ((i : Nat) : Int)) (a + bindN k ((j + i : Nat) : Int)))
  | [], j, i, h => by simp at h
  | t :: l, j, 0, h => by simp [clL, elt]
  | t :: l, j, i + 1, h => by
    have h' : i < l.length := by simpa using h
    rw [List.take_succ_cons, List.take_succ_cons, clL, clL, clL_take k a l (j + 1) i h', Bool.and_assoc, show j + 1 + i = j + (i + 1) by omega]
    congr 3
theorem clL_all (k a : Int) : ∀ (l : List Cor) (j : Nat), clL k l j a = true → ∀ i : Nat, i < l.length → clT (elt (dflt uCor) l ((i : Nat) : Int)) (a + bindN k ((j + i : Nat) : Int)) = true
  | [], j, _, i, h => by simp at h
  | t :: l, j, hc, 0, h => by
    rw [clL, Bool.and_eq_true] at hc
    simpa [elt] using hc.1
  | t :: l, j, hc, i + 1, h => by
    have h' : i < l.length := by simpa using h
    rw [clL, Bool.and_eq_true] at hc
    have := clL_all k a l (j + 1) hc.2 i h'
    rw [show j + 1 + i = j + (i + 1) by omega, eltN h'] at this
    rw [eltN h]; exact this
/-- A box or a let. -/
def boxV (c : Cor) : Bool := cKd c == 6 || cKd c == 7
def erT (c : Cor) : Bool := !anyT boxV c
/-- A name that is not among n. -/
def farV (n : Int) (c : Cor) : Bool := (cKd c == 11 && decide (n ≤ cVl c)) || (cDt c).any fun x => decide (n ≤ x)
def nmT (n : Int) (c : Cor) : Bool := !anyT (farV n) c
theorem erT_eq (c : Cor) : erT c = (!boxV c && c.kids.all erT) := by
  unfold erT
  rw [anyT_eq, Bool.not_or, List.not_any_eq_all_not]
theorem nmT_eq (n : Int) (c : Cor) : nmT n c = (!farV n c && c.kids.all (nmT n)) := by
  unfold nmT
  rw [anyT_eq, Bool.not_or, List.not_any_eq_all_not]
abbrev Bok := List Cor
def defOk (n : Int) (c : Cor) : Bool := okC c && (clT c 0 && nmT n c)
def okB (b : Bok) : Bool := inC (b.length : Nat) 1 24 && b.all (defOk (b.length : Nat))
/-- A machine state. -/
def stOk (b : Bok) (c : Cor) : Bool := (okB b && b.all fun d => okC d && erT d) && (okC c && (clT c 0 && (erT c && nmT (b.length : Nat) c)))
/-! ### redexes -/
abbrev kidN (c : Cor) (i : Int) : Cor := elt (dflt uCor) c.kids i
/-- The kind of a redex, or 0. -/
def kindF (c : Cor) : Int :=
  bif cKd c == 5 then (bif cKd (kidN c 0) == 4 then 1 else bif cKd (kidN c 0) == 11 then 4 else 0)
  else bif cKd c == 3 then (bif cKd (kidN c 0) == 2 && cKd (kidN c 1) == 2 then 2 else bif cKd (kidN c 0) == 11 || (cKd (kidN c 0) == 2 && cKd (kidN c 1) == 11) then 4 else 0)
  else bif cKd c == 9 || cKd c == 10 then (bif cKd (kidN c 0) == 11 then 4 else bif (cKd c == 9 && (cKd (kidN c 0) == 8 && decide (cVl (kidN c 0) < ((cDt c).length : Nat)))) || (cKd c == 10 && cKd (kidN c 0) == 2) then 3 else 0)
  else 0
def wi32 (x : Int) : Int := IntKind.i64.wrap (IntKind.i32.wrap x)
def opN (op a b : Int) : Int :=
  bif op == 1 then wi32 (IntKind.i64.wrap (wi32 a + wi32 b)) else bif op == 2 then wi32 (IntKind.i64.wrap (wi32 a - wi32 b)) else bif op == 3 then wi32 (IntKind.i64.wrap (wi32 a * wi32 b))
  else bif op == 4 then (bif wi32 b == 0 then 0 else wi32 (IntKind.i64.wrap (Int.tdiv (wi32 a) (wi32 b))))
  else bif op == 5 then (bif decide (wi32 a < wi32 b) then 1 else 0) else bif op == 6 then (bif wi32 a == wi32 b then 1 else 0) else 0
def numC (n : Int) : Cor := mkC 2 n [] []
def refC (d : Int) : Cor := mkC 11 d [] []
def appC (f a : Cor) : Cor := mkC 5 0 [] [f, a]
def choC (d : Int) (l : List Cor) : Cor := l.foldl appC (refC d)
/-- Where the definition stands in a redex of kind 4. -/
def atC (c : Cor) : Int := bif cKd (kidN c 0) == 11 then 0 else 1
def expC (b : Bok) (c : Cor) : Cor := mkC (cKd c) (cVl c) (cDt c) (c.kids.set (atC c).toNat (elt (dflt uCor) b (cVl (kidN c (atC c)))))
def swiC (c : Cor) : Cor := refC (elt (0 : Int) (cDt c) (bif cVl (kidN c 0) == 0 then 1 else 0))
def conC (b : Bok) (k : Int) (c : Cor) : Cor :=
  bif k == 1 then inst (kidN (kidN c 0) 0) (kidN c 1) else bif k == 2 then numC (opN (cVl c) (cVl (kidN c 0)) (cVl (kidN c 1)))
  else bif k == 3 then (bif cKd c == 9 then choC (elt (0 : Int) (cDt c) (cVl (kidN c 0))) (kidN c 0).kids else swiC c) else expC b c
mutual
/-- The leftmost outermost redex contracted, and its kind. -/
def stepT (b : Bok) : Cor → Option (Cor × Int)
  | .node x l => bif kindF (.node x l) != 0 then some (conC b (kindF (.node x l)) (.node x l), kindF (.node x l)) else
    match stepL b l with
    | some (l', k) => some (.node x l', k)
    | none => none
def stepL (b : Bok) : List Cor → Option (List Cor × Int)
  | [] => none
  | t :: l => match stepT b t with
    | some (t', k) => some (t' :: l, k)
    | none => match stepL b l with
      | some (l', k) => some (t :: l', k)
      | none => none
end
/-- What the program's step gives. -/
def stepR (b : Bok) (c : Cor) : Cor × Int := match stepT b c with
  | some r => r
  | none => (c, 0)
end Go.Tr
