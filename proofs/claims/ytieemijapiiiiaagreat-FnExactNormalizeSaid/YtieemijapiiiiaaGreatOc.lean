/- Core terms: the program's tests. -/
import Derived.Test.YtieemijapiiiiaaGreatOb
set_option linter.unusedSimpArgs false
set_option linter.unusedVariables false
namespace Go.Proofs.YtieemijapiiiiaaGreat
open Go Go.RowKit Go.Proofs Go.Tr
theorem okIdxO : callOk Tryz.prog 109 = true := by kernel_rfl
theorem okConO : callOk Tryz.prog 87 = true := by kernel_rfl
theorem idxO (xs : List Int) (f : Nat) (g : Int → Bool) (hf : ∀ x : Int, QCall Tryz.prog f [.int .i64 x] (.bool (g x))) : QCall Tryz.prog 109 [.rsl (.int .i64) xs, .fn f []] (.int .i64 (idxF g xs 0)) := by
  refine QCall.rslB okIdxO fun hl => ?_
  refine QCall.intro (nt := 19) ti_ok mixed okIdxO Tryz.func109 rfl rfl rfl rfl rfl ?_
  refine lp Nat (fun i => [(8, .int .i64 (i : Nat))]) (fun _ => []) (fun i => xs.length - i) (fun i => i ≤ xs.length ∧ idxF g xs 0 = idxF g (xs.drop i) i) 0 ⟨Nat.zero_le _, rfl⟩ ?_ ?_
  · exact Go.Tr.hd [] rfl (And.intro (And.intro rfl rfl) trivial) trivial
  rintro i ⟨hi, he⟩
  refine And.intro (fun q1 => ?_) (fun q1 => ?_)
  · have hlt : i < xs.length := by have : ((i : Nat) : Int) < (xs.length : Nat) := of_decide_eq_true q1; omega
    refine And.intro (show 0 ≤ ((i : Nat) : Int) ∧ ((i : Nat) : Int) < (xs.length : Nat) by omega) ?_
    refine Or.inl (Exists.intro _ (And.intro (hf (elt 0 xs ((i : Nat) : Int))) ?_))
    rw [dropE (d := (0 : Int)) hlt] at he
    refine And.intro (fun q2 => ?_) (fun q2 => ?_)
    · rw [he, show idxF g (elt 0 xs ((i : Nat) : Int) :: xs.drop (i + 1)) i = i by unfold idxF; rw [show g (elt 0 xs ((i : Nat) : Int)) = true from q2]; rfl]; exact ⟨rfl, rfl⟩
    · refine lp_next (i + 1) ⟨hlt, ?_⟩ ?_ (by show xs.length - (i + 1) < xs.length - i; omega)
      · rw [he]
        conv => lhs; unfold idxF
        rw [show g (elt 0 xs ((i : Nat) : Int)) = false from q2]; rfl
      · exact Go.Tr.hd [] rfl (And.intro (And.intro (wrapI (by omega)) rfl) trivial) trivial
  · have hge : xs.length ≤ i := by have : ¬ ((i : Nat) : Int) < (xs.length : Nat) := of_decide_eq_false q1; omega
    have hie : i = xs.length := by omega
    subst hie
    rw [he, List.drop_length]; exact ⟨rfl, rfl⟩
theorem conO (xs : List Int) (f : Nat) (g : Int → Bool) (hf : ∀ x : Int, QCall Tryz.prog f [.int .i64 x] (.bool (g x))) : QCall Tryz.prog 87 [.rsl (.int .i64) xs, .fn f []] (.bool (xs.any g)) := by
  refine QCall.intro (nt := 9) ti_ok mixed okConO Tryz.func87 rfl rfl rfl rfl rfl ?_
  refine Or.inl (Exists.intro _ (And.intro (idxO xs f g hf) ?_))
  exact idxF_any g xs 0
theorem okVcn1 : callOk Tryz.prog 97 = true := by kernel_rfl
theorem vcn1Q (n : Int) : QCall Tryz.prog 97 [.int .i64 n] (.bool (!inC n 0 23)) := by
  refine QCall.intro (nt := 6) ti_ok mixed okVcn1 Tryz.func97 rfl rfl rfl rfl rfl ?_
  refine Or.inl (Exists.intro _ (And.intro (isDefQ n) ?_))
  exact rfl
theorem okVcn : callOk Tryz.prog 72 = true := by kernel_rfl
set_option maxRecDepth 100000 in
theorem vcnQ (c : Cor) : QCall Tryz.prog 72 [.agg (cSV c)] (.bool (nodeOk c)) := by
  refine QCall.intro (nt := 109) ti_ok mixed okVcn Tryz.func72 rfl rfl rfl rfl rfl ?_
  have con := conO (cDt c) _ _ (fun x => vcn1Q x)
  refine And.intro (by kernel_rfl) ?_
  refine And.intro (fun q1 => ?_) (fun q1 => ?_)
  · have e := eq_of_beq (show (cKd c == 1) = true from q1)
    refine Or.inl (Exists.intro _ (And.intro (fun _ => con) ?_))
    exact nodeP (numOk1 _ _ e)
  refine And.intro (fun q2 => ?_) (fun q2 => ?_)
  · have e := eq_of_beq (show (cKd c == 2) = true from q2)
    refine Or.inl (Exists.intro _ (And.intro (isIntQ _) ?_))
    refine Or.inl (Exists.intro _ (And.intro (fun _ => con) ?_))
    exact nodeP (numOk2 _ _ e)
  refine And.intro (fun q3 => ?_) (fun q3 => ?_)
  · have e := eq_of_beq (show (cKd c == 3) = true from q3)
    refine Or.inl (Exists.intro _ (And.intro (isOprQ _) ?_))
    refine Or.inl (Exists.intro _ (And.intro (fun _ => con) ?_))
    exact nodeP (numOk3 _ _ e)
  refine And.intro (fun q4 => ?_) (fun q4 => ?_)
  · have e := eq_of_beq (show (cKd c == 4) = true from q4)
    refine And.intro (fun _ => ?_) (fun r => absurd (q4.symm.trans r) (by decide))
    refine Or.inl (Exists.intro _ (And.intro (fun _ => con) ?_))
    exact nodeP (numOk4 _ _ (.inl e))
  refine And.intro (fun q6 => ?_) (fun q6 => ?_)
  · have e := eq_of_beq (show (cKd c == 6) = true from q6)
    refine Or.inl (Exists.intro _ (And.intro (fun _ => con) ?_))
    exact nodeP (numOk4 _ _ (.inr e))
  refine And.intro (fun q5 => ?_) (fun q5 => ?_)
  · have e := eq_of_beq (show (cKd c == 5) = true from q5)
    refine And.intro (fun _ => ?_) (fun r => absurd (q5.symm.trans r) (by decide))
    refine Or.inl (Exists.intro _ (And.intro (fun _ => con) ?_))
    exact nodeP (numOk5 _ _ (.inl e))
  refine And.intro (fun q7 => ?_) (fun q7 => ?_)
  · have e := eq_of_beq (show (cKd c == 7) = true from q7)
    refine Or.inl (Exists.intro _ (And.intro (fun _ => con) ?_))
    exact nodeP (numOk5 _ _ (.inr e))
  refine And.intro (fun q8 => ?_) (fun q8 => ?_)
  · have e := eq_of_beq (show (cKd c == 8) = true from q8)
    show (bif (bif (bif (((cDt c).length : Nat) : Int) == 0 then decide (0 ≤ cVl c) else false) then decide (cVl c < 4) else false) then decide ((((Tree.kids c).length : Nat) : Int) ≤ 3) else false) = nodeOk c
    unfold nodeOk
    rw [numOk8 _ _ e]
    have h1 : inC ((Tree.kids c).length : Nat) 0 3 = decide ((((Tree.kids c).length : Nat) : Int) ≤ 3) := by unfold inC; rw [decide_eq_true (by omega)]; rfl
    have h2 : inC (cVl c) 0 3 = (bif decide (0 ≤ cVl c) then decide (cVl c < 4) else false) := by unfold inC; rw [show decide (cVl c ≤ 3) = decide (cVl c < 4) from decide_eq_decide.2 (by omega)]
    rw [h1, h2]
    cases hd : (((cDt c).length : Nat) : Int) == 0 with
    | false => simp
    | true =>
      have : (cDt c) = [] := List.eq_nil_of_length_eq_zero (by have := eq_of_beq hd; omega)
      rw [this]
      cases decide (0 ≤ cVl c) <;> cases decide (cVl c < 4) <;> cases decide ((((Tree.kids c).length : Nat) : Int) ≤ 3) <;> rfl
  refine And.intro (fun q9 => ?_) (fun q9 => ?_)
  · have e := eq_of_beq (show (cKd c == 9) = true from q9)
    refine And.intro (by kernel_rfl) ?_
    refine Or.inl (Exists.intro _ (And.intro (fun _ => con) ?_))
    exact nodeP (numOk9 _ _ e)
  refine And.intro (fun q10 => ?_) (fun q10 => ?_)
  · have e := eq_of_beq (show (cKd c == 10) = true from q10)
    refine And.intro (by kernel_rfl) ?_
    refine Or.inl (Exists.intro _ (And.intro (fun _ => con) ?_))
    exact nodeP (numOk10 _ _ e)
  refine And.intro (fun q11 => ?_) (fun q11 => ?_)
  · have e := eq_of_beq (show (cKd c == 11) = true from q11)
    refine Or.inl (Exists.intro _ (And.intro (isDefQ _) ?_))
    refine Or.inl (Exists.intro _ (And.intro (fun _ => con) ?_))
    exact nodeP (numOk11 _ _ e)
  show false = nodeOk c
  unfold nodeOk numOk
  have : shapeN (cKd c) = (0, -1, 0, 0) := by
    unfold shapeN
    rw [show (cKd c == 1) = false from q1, show (cKd c == 2) = false from q2, show (cKd c == 3) = false from q3, show (cKd c == 4) = false from q4, show (cKd c == 5) = false from q5, show (cKd c == 6) = false from q6, show (cKd c == 7) = false from q7, show (cKd c == 8) = false from q8, show (cKd c == 9) = false from q9, show (cKd c == 10) = false from q10, show (cKd c == 11) = false from q11]
    rfl
  rw [this]
  have h0 : inC ((Tree.kids c).length : Nat) 0 (-1) = false := by
    cases h : inC ((Tree.kids c).length : Nat) 0 (-1) with
    | false => rfl
    | true => have := inC_iff.1 h; omega
  show false = ((inC ((Tree.kids c).length : Nat) 0 (-1) && _) && _)
  rw [h0]; rfl
end Go.Proofs.YtieemijapiiiiaaGreat
