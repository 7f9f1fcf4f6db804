/- Core terms: numbers, kinds of redexes, of both sides. -/
import Derived.Test.YtieemijapiiiiaaGreatPc
set_option linter.unusedSimpArgs false
set_option linter.unusedVariables false
namespace Go.Tr
open Go Go.RowKit
theorem bif_t {a b : Bool} (h : (bif a then b else false) = true) : a = true ∧ b = true := by revert h; cases a <;> cases b <;> simp
theorem bif_f {a b : Bool} (h : (bif a then b else false) = false) : (a && b) = false := by revert h; cases a <;> cases b <;> simp
theorem ar_num {c : Cor} (hg : goodT c = true) : numOk (cKd c) (cVl c) (Tree.kids c).length (cDt c).length = true := by
  have h := (goodT_iff.1 hg).1
  unfold nodeOk at h
  rw [Bool.and_eq_true] at h
  exact h.1
theorem ar5 {c : Cor} (hg : goodT c = true) (h : (cKd c == 5) = true) : c.kids.length = 2 := by
  have := ar_num hg
  rw [numOk5 _ _ (Or.inl (eq_of_beq h))] at this
  simp only [Bool.and_eq_true, beq_iff_eq] at this
  omega
theorem ar3 {c : Cor} (hg : goodT c = true) (h : (cKd c == 3) = true) : c.kids.length = 2 ∧ 1 ≤ cVl c ∧ cVl c ≤ 6 := by
  have := ar_num hg
  rw [numOk3 _ _ (eq_of_beq h)] at this
  simp only [Bool.and_eq_true, beq_iff_eq] at this
  have h2 := inC_iff.1 this.1.1
  omega
theorem ar9 {c : Cor} (hg : goodT c = true) (h : (cKd c == 9) = true) : c.kids.length = 1 ∧ 1 ≤ (cDt c).length ∧ (cDt c).length ≤ 4 := by
  have := ar_num hg
  rw [numOk9 _ _ (eq_of_beq h)] at this
  simp only [Bool.and_eq_true, beq_iff_eq] at this
  have h2 := inC_iff.1 this.1.2
  omega
theorem ar10 {c : Cor} (hg : goodT c = true) (h : (cKd c == 10) = true) : c.kids.length = 1 ∧ (cDt c).length = 2 := by
  have := ar_num hg
  rw [numOk10 _ _ (eq_of_beq h)] at this
  simp only [Bool.and_eq_true, beq_iff_eq] at this
  omega
theorem ar4 {c : Cor} (hg : goodT c = true) (h : (cKd c == 4) = true) : c.kids.length = 1 := by
  have := ar_num hg
  rw [numOk4 _ _ (Or.inl (eq_of_beq h))] at this
  simp only [Bool.and_eq_true, beq_iff_eq] at this
  omega
theorem ar11 {c : Cor} (hg : goodT c = true) (h : (cKd c == 11) = true) : 0 ≤ cVl c ∧ cVl c ≤ 23 := by
  have := ar_num hg
  rw [numOk11 _ _ (eq_of_beq h)] at this
  simp only [Bool.and_eq_true, beq_iff_eq] at this
  exact inC_iff.1 this.1.1
theorem ar8 {c : Cor} (hg : goodT c = true) (h : (cKd c == 8) = true) : 0 ≤ cVl c ∧ cVl c ≤ 3 := by
  have := ar_num hg
  rw [numOk8 _ _ (eq_of_beq h)] at this
  simp only [Bool.and_eq_true, beq_iff_eq] at this
  exact inC_iff.1 this.2.2
end Go.Tr
namespace Go.Proofs.YtieemijapiiiiaaGreat
open Go Go.RowKit Go.Proofs Go.Tr
theorem okW32 : callOk Tryz.prog 92 = true := by kernel_rfl
theorem w32Q (n : Int) : QCall Tryz.prog 92 [.int .i64 n] (.int .i64 (wi32 n)) := by
  refine QCall.intro (nt := 6) ti_ok mixed okW32 Tryz.func92 rfl rfl rfl rfl rfl ?_
  exact ⟨rfl, rfl⟩
theorem okW32S : callOk Tryz.prog 103 = true := by kernel_rfl
theorem w32S (n : Int) : QCall Tryz.prog 103 [.int .i64 n] (.int .i64 (wi32 n)) := by
  refine QCall.intro (nt := 8) ti_ok mixed okW32S Tryz.func103 rfl rfl rfl rfl rfl ?_
  refine ⟨?_, rfl⟩
  show IntKind.i64.wrap (IntKind.i32.wrap (IntKind.u32.wrap (IntKind.u64.wrap n))) = IntKind.i64.wrap (IntKind.i32.wrap n)
  congr 1
  simp only [IntKind.wrap, IntKind.signed, IntKind.bits]
  simp
theorem okB01 : callOk Tryz.prog 104 = true := by kernel_rfl
theorem b01Q (b : Bool) : QCall Tryz.prog 104 [.bool b] (.int .i64 (bif b then 1 else 0)) := by
  refine QCall.intro (nt := 4) ti_ok mixed okB01 Tryz.func104 rfl rfl rfl rfl rfl ?_
  refine And.intro (fun q => ?_) (fun q => ?_)
  · exact ⟨by rw [show b = true from q]; rfl, rfl⟩
  · exact ⟨by rw [show b = false from q]; rfl, rfl⟩
theorem okOp : callOk Tryz.prog 68 = true := by kernel_rfl
theorem opQ (op a b : Int) : QCall Tryz.prog 68 [.int .i64 op, .int .i64 a, .int .i64 b] (.int .i64 (opN op a b)) := by
  refine QCall.intro (nt := 52) ti_ok mixed okOp Tryz.func68 rfl rfl rfl rfl rfl ?_
  unfold opN
  refine Or.inl (Exists.intro _ (And.intro (w32Q a) ?_))
  refine Or.inl (Exists.intro _ (And.intro (w32Q b) ?_))
  refine And.intro (fun q1 => ?_) (fun q1 => ?_)
  · rw [show (op == 1) = true from q1]
    refine Or.inl (Exists.intro _ (And.intro (w32Q _) ?_))
    exact ⟨rfl, rfl⟩
  rw [show (op == 1) = false from q1]
  refine And.intro (fun q2 => ?_) (fun q2 => ?_)
  · rw [show (op == 2) = true from q2]
    refine Or.inl (Exists.intro _ (And.intro (w32Q _) ?_))
    exact ⟨rfl, rfl⟩
  rw [show (op == 2) = false from q2]
  refine And.intro (fun q3 => ?_) (fun q3 => ?_)
  · rw [show (op == 3) = true from q3]
    refine Or.inl (Exists.intro _ (And.intro (w32Q _) ?_))
    exact ⟨rfl, rfl⟩
  rw [show (op == 3) = false from q3]
  refine And.intro (fun q4 => ?_) (fun q4 => ?_)
  · rw [show (op == 4) = true from q4]
    refine And.intro (fun q5 => ?_) (fun q5 => ?_)
    · rw [show (wi32 b == 0) = true from q5]
      exact ⟨rfl, rfl⟩
    rw [show (wi32 b == 0) = false from q5]
    refine And.intro (show wi32 b ≠ 0 from beq_eq_false_iff_ne.1 q5) ?_
    refine Or.inl (Exists.intro _ (And.intro (w32Q _) ?_))
    exact ⟨rfl, rfl⟩
  rw [show (op == 4) = false from q4]
  refine And.intro (fun q5 => ?_) (fun q5 => ?_)
  · rw [show (op == 5) = true from q5]
    refine Or.inl (Exists.intro _ (And.intro (truthQ _) ?_))
    exact ⟨rfl, rfl⟩
  rw [show (op == 5) = false from q5]
  refine And.intro (fun q6 => ?_) (fun q6 => ?_)
  · rw [show (op == 6) = true from q6]
    refine Or.inl (Exists.intro _ (And.intro (truthQ _) ?_))
    exact ⟨rfl, rfl⟩
  rw [show (op == 6) = false from q6]
  exact ⟨rfl, rfl⟩
theorem okOpS : callOk Tryz.prog 77 = true := by kernel_rfl
theorem opS (op a b : Int) : QCall Tryz.prog 77 [.int .i64 op, .int .i64 a, .int .i64 b] (.int .i64 (opN op a b)) := by
  refine QCall.intro (nt := 52) ti_ok mixed okOpS Tryz.func77 rfl rfl rfl rfl rfl ?_
  unfold opN
  refine Or.inl (Exists.intro _ (And.intro (w32S a) ?_))
  refine Or.inl (Exists.intro _ (And.intro (w32S b) ?_))
  refine And.intro (fun q1 => ?_) (fun q1 => ?_)
  · rw [show (op == 1) = true from q1]
    refine Or.inl (Exists.intro _ (And.intro (w32S _) ?_))
    exact ⟨rfl, rfl⟩
  rw [show (op == 1) = false from q1]
  refine And.intro (fun q2 => ?_) (fun q2 => ?_)
  · rw [show (op == 2) = true from q2]
    refine Or.inl (Exists.intro _ (And.intro (w32S _) ?_))
    exact ⟨rfl, rfl⟩
  rw [show (op == 2) = false from q2]
  refine And.intro (fun q3 => ?_) (fun q3 => ?_)
  · rw [show (op == 3) = true from q3]
    refine Or.inl (Exists.intro _ (And.intro (w32S _) ?_))
    exact ⟨rfl, rfl⟩
  rw [show (op == 3) = false from q3]
  refine And.intro (fun q4 => ?_) (fun q4 => ?_)
  · rw [show (op == 4) = true from q4]
    refine And.intro (fun q5 => ?_) (fun q5 => ?_)
    · rw [show (wi32 b == 0) = true from q5]
      exact ⟨rfl, rfl⟩
    rw [show (wi32 b == 0) = false from q5]
    refine And.intro (show wi32 b ≠ 0 from beq_eq_false_iff_ne.1 q5) ?_
    refine Or.inl (Exists.intro _ (And.intro (w32S _) ?_))
    exact ⟨rfl, rfl⟩
  rw [show (op == 4) = false from q4]
  refine And.intro (fun q5 => ?_) (fun q5 => ?_)
  · rw [show (op == 5) = true from q5]
    refine Or.inl (Exists.intro _ (And.intro (b01Q _) ?_))
    exact ⟨rfl, rfl⟩
  rw [show (op == 5) = false from q5]
  refine And.intro (fun q6 => ?_) (fun q6 => ?_)
  · rw [show (op == 6) = true from q6]
    refine Or.inl (Exists.intro _ (And.intro (b01Q _) ?_))
    exact ⟨rfl, rfl⟩
  rw [show (op == 6) = false from q6]
  exact ⟨rfl, rfl⟩
/-- Kinds exclude each other. -/
theorem kd_no {c : Cor} {a b : Int} (h : (cKd c == a) = true) (hab : (a == b) = false) : (cKd c == b) = false := by rw [eq_of_beq h]; exact hab
theorem okRK : callOk Tryz.prog 46 = true := by kernel_rfl
set_option maxRecDepth 100000 in
theorem rkQ (c : Cor) (hg : goodT c = true) : QCall Tryz.prog 46 [.agg (cSV c)] (.int .i64 (kindF c)) := by
  refine QCall.intro (nt := 84) ti_ok mixed okRK Tryz.func46 rfl rfl rfl rfl rfl ?_
  refine And.intro (fun q0 => ?_) (fun q0 => ?_)
  · have h0 : c.kids.length = 0 := by have := eq_of_beq (show (((c.kids.length : Nat) : Int) == 0) = true from q0); omega
    have a5 : (cKd c == 5) = false := by
      cases h : (cKd c == 5) with
      | false => rfl
      | true => have := ar5 hg h; omega
    have a3 : (cKd c == 3) = false := by
      cases h : (cKd c == 3) with
      | false => rfl
      | true => have := ar3 hg h; omega
    have a9 : (cKd c == 9) = false := by
      cases h : (cKd c == 9) with
      | false => rfl
      | true => have := ar9 hg h; omega
    have a10 : (cKd c == 10) = false := by
      cases h : (cKd c == 10) with
      | false => rfl
      | true => have := ar10 hg h; omega
    exact ⟨show (0 : Int) = kindF c by unfold kindF; simp only [a5, a3, a9, a10, cond_true, cond_false, Bool.true_and, Bool.false_and, Bool.and_true, Bool.and_false, Bool.or_true, Bool.true_or, Bool.or_false, Bool.false_or, Bool.or_self, Bool.and_self], rfl⟩
  have hl : 0 < c.kids.length := by
    have : ((c.kids.length : Nat) : Int) ≠ 0 := beq_eq_false_iff_ne.1 q0
    omega
  refine And.intro (show (0 : Int) ≤ 0 ∧ (0 : Int) < (c.kids.length : Nat) by omega) ?_
  refine And.intro (fun a5 => ?_) (fun a5 => ?_)
  · have a5 : (cKd c == 5) = true := a5
    refine And.intro (fun b4 => ?_) (fun b4 => ?_)
    · have b4 : (cKd (kidN c 0) == 4) = true := b4
      exact ⟨show (1 : Int) = kindF c by unfold kindF; simp only [a5, b4, cond_true, cond_false, Bool.true_and, Bool.false_and, Bool.and_true, Bool.and_false, Bool.or_true, Bool.true_or, Bool.or_false, Bool.false_or, Bool.or_self, Bool.and_self], rfl⟩
    have b4 : (cKd (kidN c 0) == 4) = false := b4
    refine And.intro (fun b11 => ?_) (fun b11 => ?_)
    · have b11 : (cKd (kidN c 0) == 11) = true := b11
      exact ⟨show (4 : Int) = kindF c by unfold kindF; simp only [a5, b4, b11, cond_true, cond_false, Bool.true_and, Bool.false_and, Bool.and_true, Bool.and_false, Bool.or_true, Bool.true_or, Bool.or_false, Bool.false_or, Bool.or_self, Bool.and_self], rfl⟩
    have b11 : (cKd (kidN c 0) == 11) = false := b11
    exact ⟨show (0 : Int) = kindF c by unfold kindF; simp only [a5, b4, b11, cond_true, cond_false, Bool.true_and, Bool.false_and, Bool.and_true, Bool.and_false, Bool.or_true, Bool.true_or, Bool.or_false, Bool.false_or, Bool.or_self, Bool.and_self], rfl⟩
  have a5 : (cKd c == 5) = false := a5
  refine And.intro (fun a3 => ?_) (fun a3 => ?_)
  · have a3 : (cKd c == 3) = true := a3
    have hl3 := (ar3 hg a3).1
    refine And.intro (show (0 : Int) ≤ 1 ∧ (1 : Int) < (c.kids.length : Nat) by omega) ?_
    refine And.intro (fun b2 => ?_) (fun b2 => ?_)
    · obtain ⟨b2, d2⟩ := bif_t (a := cKd (kidN c 0) == 2) (b := cKd (kidN c 1) == 2) b2
      exact ⟨show (2 : Int) = kindF c by unfold kindF; simp only [a5, a3, b2, d2, cond_true, cond_false, Bool.true_and, Bool.false_and, Bool.and_true, Bool.and_false, Bool.or_true, Bool.true_or, Bool.or_false, Bool.false_or, Bool.or_self, Bool.and_self], rfl⟩
    have b2 := bif_f (a := cKd (kidN c 0) == 2) (b := cKd (kidN c 1) == 2) b2
    refine And.intro (fun b11 => ?_) (fun b11 => ?_)
    · have b11 : (cKd (kidN c 0) == 11 || (cKd (kidN c 0) == 2 && cKd (kidN c 1) == 11)) = true := by
        have b11 : (bif cKd (kidN c 0) == 11 then true else (bif cKd (kidN c 0) == 2 then cKd (kidN c 1) == 11 else false)) = true := b11
        revert b11; cases (cKd (kidN c 0) == 11) <;> cases (cKd (kidN c 0) == 2) <;> simp
      exact ⟨show (4 : Int) = kindF c by unfold kindF; simp only [a5, a3, b2, b11, cond_true, cond_false, Bool.true_and, Bool.false_and, Bool.and_true, Bool.and_false, Bool.or_true, Bool.true_or, Bool.or_false, Bool.false_or, Bool.or_self, Bool.and_self], rfl⟩
    have b11 : (cKd (kidN c 0) == 11 || (cKd (kidN c 0) == 2 && cKd (kidN c 1) == 11)) = false := by
      have b11 : (bif cKd (kidN c 0) == 11 then true else (bif cKd (kidN c 0) == 2 then cKd (kidN c 1) == 11 else false)) = false := b11
      revert b11; cases (cKd (kidN c 0) == 11) <;> cases (cKd (kidN c 0) == 2) <;> simp
    exact ⟨show (0 : Int) = kindF c by unfold kindF; simp only [a5, a3, b2, b11, cond_true, cond_false, Bool.true_and, Bool.false_and, Bool.and_true, Bool.and_false, Bool.or_true, Bool.true_or, Bool.or_false, Bool.false_or, Bool.or_self, Bool.and_self], rfl⟩
  have a3 : (cKd c == 3) = false := a3
  refine And.intro (fun a9 => ?_) (fun a9 => ?_)
  · have a9 : (cKd c == 9) = true := a9
    have a10 : (cKd c == 10) = false := kd_no a9 rfl
    refine And.intro (fun _ => ?_) (fun q => by rw [a9] at q; cases q)
    refine And.intro (fun b11 => ?_) (fun b11 => ?_)
    · have b11 : (cKd (kidN c 0) == 11) = true := b11
      exact ⟨show (4 : Int) = kindF c by unfold kindF; simp only [a5, a3, a9, a10, b11, cond_true, cond_false, Bool.true_and, Bool.false_and, Bool.and_true, Bool.and_false, Bool.or_true, Bool.true_or, Bool.or_false, Bool.false_or, Bool.or_self, Bool.and_self], rfl⟩
    have b11 : (cKd (kidN c 0) == 11) = false := b11
    refine And.intro (fun t1 => ?_) (fun t1 => ?_)
    · have t1' : (bif (bif cKd c == 9 then cKd (kidN c 0) == 8 else false) then decide (cVl (kidN c 0) < ((cDt c).length : Nat)) else false) = true := t1
      rw [a9] at t1'
      obtain ⟨u1, u2⟩ := bif_t (a := cKd (kidN c 0) == 8) t1'
      refine And.intro (fun _ => ?_) (fun q => by rw [t1] at q; cases q)
      exact ⟨show (3 : Int) = kindF c by unfold kindF; simp only [a5, a3, a9, a10, b11, u1, u2, cond_true, cond_false, Bool.true_and, Bool.false_and, Bool.and_true, Bool.and_false, Bool.or_true, Bool.true_or, Bool.or_false, Bool.false_or, Bool.or_self, Bool.and_self], rfl⟩
    have t1' : (bif (bif cKd c == 9 then cKd (kidN c 0) == 8 else false) then decide (cVl (kidN c 0) < ((cDt c).length : Nat)) else false) = false := t1
    rw [a9] at t1'
    have u := bif_f (a := cKd (kidN c 0) == 8) t1'
    refine And.intro (fun t2 => ?_) (fun _ => ?_)
    · have t2' : (bif cKd c == 10 then cKd (kidN c 0) == 2 else false) = true := t2
      rw [a10] at t2'; cases t2'
    exact ⟨show (0 : Int) = kindF c by unfold kindF; simp only [a5, a3, a9, a10, b11, u, cond_true, cond_false, Bool.true_and, Bool.false_and, Bool.and_true, Bool.and_false, Bool.or_true, Bool.true_or, Bool.or_false, Bool.false_or, Bool.or_self, Bool.and_self], rfl⟩
  have a9 : (cKd c == 9) = false := a9
  refine And.intro (fun a10 => ?_) (fun a10 => ?_)
  · have a10 : (cKd c == 10) = true := a10
    refine And.intro (fun b11 => ?_) (fun b11 => ?_)
    · have b11 : (cKd (kidN c 0) == 11) = true := b11
      exact ⟨show (4 : Int) = kindF c by unfold kindF; simp only [a5, a3, a9, a10, b11, cond_true, cond_false, Bool.true_and, Bool.false_and, Bool.and_true, Bool.and_false, Bool.or_true, Bool.true_or, Bool.or_false, Bool.false_or, Bool.or_self, Bool.and_self], rfl⟩
    have b11 : (cKd (kidN c 0) == 11) = false := b11
    refine And.intro (fun t1 => ?_) (fun t1 => ?_)
    · have t1' : (bif (bif cKd c == 9 then cKd (kidN c 0) == 8 else false) then decide (cVl (kidN c 0) < ((cDt c).length : Nat)) else false) = true := t1
      rw [a9] at t1'; cases t1'
    have t1' : (bif (bif cKd c == 9 then cKd (kidN c 0) == 8 else false) then decide (cVl (kidN c 0) < ((cDt c).length : Nat)) else false) = false := t1
    refine And.intro (fun t2 => ?_) (fun t2 => ?_)
    · have t2' : (bif cKd c == 10 then cKd (kidN c 0) == 2 else false) = true := t2
      rw [a10] at t2'
      have t2' : (cKd (kidN c 0) == 2) = true := t2'
      exact ⟨show (3 : Int) = kindF c by unfold kindF; simp only [a5, a3, a9, a10, b11, t2', cond_true, cond_false, Bool.true_and, Bool.false_and, Bool.and_true, Bool.and_false, Bool.or_true, Bool.true_or, Bool.or_false, Bool.false_or, Bool.or_self, Bool.and_self], rfl⟩
    have t2' : (bif cKd c == 10 then cKd (kidN c 0) == 2 else false) = false := t2
    rw [a10] at t2'
    have t2' : (cKd (kidN c 0) == 2) = false := t2'
    exact ⟨show (0 : Int) = kindF c by unfold kindF; simp only [a5, a3, a9, a10, b11, t2', cond_true, cond_false, Bool.true_and, Bool.false_and, Bool.and_true, Bool.and_false, Bool.or_true, Bool.true_or, Bool.or_false, Bool.false_or, Bool.or_self, Bool.and_self], rfl⟩
  have a10 : (cKd c == 10) = false := a10
  exact ⟨show (0 : Int) = kindF c by unfold kindF; simp only [a5, a3, a9, a10, cond_true, cond_false, Bool.true_and, Bool.false_and, Bool.and_true, Bool.and_false, Bool.or_true, Bool.true_or, Bool.or_false, Bool.false_or, Bool.or_self, Bool.and_self], rfl⟩
theorem okKdS : callOk Tryz.prog 54 = true := by kernel_rfl
set_option maxRecDepth 100000 in
theorem kdS (c : Cor) (hg : goodT c = true) : QCall Tryz.prog 54 [.rp uCor c] (.int .i64 (kindF c)) := by
  refine QCall.intro (nt := 95) ti_ok mixed okKdS Tryz.func54 rfl rfl rfl rfl rfl ?_
  refine And.intro (fun a5 => ?_) (fun a5 => ?_)
  · have a5 : (cKd c == 5) = true := a5
    have hl := ar5 hg a5
    refine And.intro (show (0 : Int) ≤ 0 ∧ (0 : Int) < (c.kids.length : Nat) by omega) ?_
    refine And.intro (fun b4 => ?_) (fun b4 => ?_)
    · have b4 : (cKd (kidN c 0) == 4) = true := b4
      exact ⟨show (1 : Int) = kindF c by unfold kindF; simp only [a5, b4, cond_true, cond_false, Bool.true_and, Bool.false_and, Bool.and_true, Bool.and_false, Bool.or_true, Bool.true_or, Bool.or_false, Bool.false_or, Bool.or_self, Bool.and_self], rfl⟩
    have b4 : (cKd (kidN c 0) == 4) = false := b4
    refine And.intro (fun b11 => ?_) (fun b11 => ?_)
    · have b11 : (cKd (kidN c 0) == 11) = true := b11
      exact ⟨show (4 : Int) = kindF c by unfold kindF; simp only [a5, b4, b11, cond_true, cond_false, Bool.true_and, Bool.false_and, Bool.and_true, Bool.and_false, Bool.or_true, Bool.true_or, Bool.or_false, Bool.false_or, Bool.or_self, Bool.and_self], rfl⟩
    have b11 : (cKd (kidN c 0) == 11) = false := b11
    exact ⟨show (0 : Int) = kindF c by unfold kindF; simp only [a5, b4, b11, cond_true, cond_false, Bool.true_and, Bool.false_and, Bool.and_true, Bool.and_false, Bool.or_true, Bool.true_or, Bool.or_false, Bool.false_or, Bool.or_self, Bool.and_self], rfl⟩
  have a5 : (cKd c == 5) = false := a5
  refine And.intro (fun a3 => ?_) (fun a3 => ?_)
  · have a3 : (cKd c == 3) = true := a3
    have hl3 := (ar3 hg a3).1
    refine And.intro (show (0 : Int) ≤ 0 ∧ (0 : Int) < (c.kids.length : Nat) by omega) ?_
    refine And.intro (fun b11 => ?_) (fun b11 => ?_)
    · have b11 : (cKd (kidN c 0) == 11) = true := b11
      have b2 : (cKd (kidN c 0) == 2) = false := kd_no b11 rfl
      exact ⟨show (4 : Int) = kindF c by unfold kindF; simp only [a5, a3, b11, b2, cond_true, cond_false, Bool.true_and, Bool.false_and, Bool.and_true, Bool.and_false, Bool.or_true, Bool.true_or, Bool.or_false, Bool.false_or, Bool.or_self, Bool.and_self], rfl⟩
    have b11 : (cKd (kidN c 0) == 11) = false := b11
    refine And.intro (show (0 : Int) ≤ 0 ∧ (0 : Int) < (c.kids.length : Nat) by omega) ?_
    refine And.intro (fun b2 => ?_) (fun b2 => ?_)
    · have b2 : (cKd (kidN c 0) == 2) = true := b2
      refine And.intro (show (0 : Int) ≤ 1 ∧ (1 : Int) < (c.kids.length : Nat) by omega) ?_
      refine And.intro (fun d2 => ?_) (fun d2 => ?_)
      · have d2 : (cKd (kidN c 1) == 2) = true := d2
        exact ⟨show (2 : Int) = kindF c by unfold kindF; simp only [a5, a3, b11, b2, d2, cond_true, cond_false, Bool.true_and, Bool.false_and, Bool.and_true, Bool.and_false, Bool.or_true, Bool.true_or, Bool.or_false, Bool.false_or, Bool.or_self, Bool.and_self], rfl⟩
      have d2 : (cKd (kidN c 1) == 2) = false := d2
      refine And.intro (fun d11 => ?_) (fun d11 => ?_)
      · have d11 : (cKd (kidN c 1) == 11) = true := d11
        exact ⟨show (4 : Int) = kindF c by unfold kindF; simp only [a5, a3, b11, b2, d2, d11, cond_true, cond_false, Bool.true_and, Bool.false_and, Bool.and_true, Bool.and_false, Bool.or_true, Bool.true_or, Bool.or_false, Bool.false_or, Bool.or_self, Bool.and_self], rfl⟩
      have d11 : (cKd (kidN c 1) == 11) = false := d11
      exact ⟨show (0 : Int) = kindF c by unfold kindF; simp only [a5, a3, b11, b2, d2, d11, cond_true, cond_false, Bool.true_and, Bool.false_and, Bool.and_true, Bool.and_false, Bool.or_true, Bool.true_or, Bool.or_false, Bool.false_or, Bool.or_self, Bool.and_self], rfl⟩
    have b2 : (cKd (kidN c 0) == 2) = false := b2
    exact ⟨show (0 : Int) = kindF c by unfold kindF; simp only [a5, a3, b11, b2, cond_true, cond_false, Bool.true_and, Bool.false_and, Bool.and_true, Bool.and_false, Bool.or_true, Bool.true_or, Bool.or_false, Bool.false_or, Bool.or_self, Bool.and_self], rfl⟩
  have a3 : (cKd c == 3) = false := a3
  refine And.intro (fun a9 => ?_) (fun a9 => ?_)
  · have a9 : (cKd c == 9) = true := a9
    have a10 : (cKd c == 10) = false := kd_no a9 rfl
    have hl := (ar9 hg a9).1
    conv => whnf
    refine And.intro (show (0 : Int) ≤ 0 ∧ (0 : Int) < (c.kids.length : Nat) by omega) ?_
    refine And.intro (fun _ => show (0 : Int) ≤ 0 ∧ (0 : Int) < (c.kids.length : Nat) by omega) ?_
    refine And.intro (by kernel_rfl) ?_
    refine And.intro (fun t1 => ?_) (fun t1 => ?_)
    · obtain ⟨u1, u2⟩ := bif_t (a := cKd (kidN c 0) == 8) (b := decide (cVl (kidN c 0) < ((cDt c).length : Nat))) t1
      have b11 : (cKd (kidN c 0) == 11) = false := kd_no u1 rfl
      exact ⟨show (3 : Int) = kindF c by unfold kindF; simp only [a5, a3, a9, a10, b11, u1, u2, cond_true, cond_false, Bool.true_and, Bool.false_and, Bool.and_true, Bool.and_false, Bool.or_true, Bool.true_or, Bool.or_false, Bool.false_or, Bool.or_self, Bool.and_self], rfl⟩
    have u := bif_f (a := cKd (kidN c 0) == 8) (b := decide (cVl (kidN c 0) < ((cDt c).length : Nat))) t1
    refine And.intro (show (0 : Int) ≤ 0 ∧ (0 : Int) < (c.kids.length : Nat) by omega) ?_
    refine And.intro (fun b11 => ?_) (fun b11 => ?_)
    · have b11 : (cKd (kidN c 0) == 11) = true := b11
      exact ⟨show (4 : Int) = kindF c by unfold kindF; simp only [a5, a3, a9, a10, b11, cond_true, cond_false, Bool.true_and, Bool.false_and, Bool.and_true, Bool.and_false, Bool.or_true, Bool.true_or, Bool.or_false, Bool.false_or, Bool.or_self, Bool.and_self], rfl⟩
    have b11 : (cKd (kidN c 0) == 11) = false := b11
    exact ⟨show (0 : Int) = kindF c by unfold kindF; simp only [a5, a3, a9, a10, b11, u, cond_true, cond_false, Bool.true_and, Bool.false_and, Bool.and_true, Bool.and_false, Bool.or_true, Bool.true_or, Bool.or_false, Bool.false_or, Bool.or_self, Bool.and_self], rfl⟩
  have a9 : (cKd c == 9) = false := a9
  refine And.intro (fun a10 => ?_) (fun a10 => ?_)
  · have a10 : (cKd c == 10) = true := a10
    have hl := (ar10 hg a10).1
    refine And.intro (show (0 : Int) ≤ 0 ∧ (0 : Int) < (c.kids.length : Nat) by omega) ?_
    refine And.intro (fun b2 => ?_) (fun b2 => ?_)
    · have b2 : (cKd (kidN c 0) == 2) = true := b2
      have b11 : (cKd (kidN c 0) == 11) = false := kd_no b2 rfl
      exact ⟨show (3 : Int) = kindF c by unfold kindF; simp only [a5, a3, a9, a10, b11, b2, cond_true, cond_false, Bool.true_and, Bool.false_and, Bool.and_true, Bool.and_false, Bool.or_true, Bool.true_or, Bool.or_false, Bool.false_or, Bool.or_self, Bool.and_self], rfl⟩
    have b2 : (cKd (kidN c 0) == 2) = false := b2
    refine And.intro (fun b11 => ?_) (fun b11 => ?_)
    · have b11 : (cKd (kidN c 0) == 11) = true := b11
      exact ⟨show (4 : Int) = kindF c by unfold kindF; simp only [a5, a3, a9, a10, b2, b11, cond_true, cond_false, Bool.true_and, Bool.false_and, Bool.and_true, Bool.and_false, Bool.or_true, Bool.true_or, Bool.or_false, Bool.false_or, Bool.or_self, Bool.and_self], rfl⟩
    have b11 : (cKd (kidN c 0) == 11) = false := b11
    exact ⟨show (0 : Int) = kindF c by unfold kindF; simp only [a5, a3, a9, a10, b2, b11, cond_true, cond_false, Bool.true_and, Bool.false_and, Bool.and_true, Bool.and_false, Bool.or_true, Bool.true_or, Bool.or_false, Bool.false_or, Bool.or_self, Bool.and_self], rfl⟩
  have a10 : (cKd c == 10) = false := a10
  exact ⟨show (0 : Int) = kindF c by unfold kindF; simp only [a5, a3, a9, a10, cond_true, cond_false, Bool.true_and, Bool.false_and, Bool.and_true, Bool.and_false, Bool.or_true, Bool.true_or, Bool.or_false, Bool.false_or, Bool.or_self, Bool.and_self], rfl⟩
end Go.Proofs.YtieemijapiiiiaaGreat
