/- Core terms: the reference's tests of books and terms. -/
import Derived.Test.YtieemijapiiiiaaGreatPb
import Derived.Test.YtieemijapiiiiaaGreatOq
set_option linter.unusedSimpArgs false
set_option linter.unusedVariables false
namespace Go.Tr
open Go Go.RowKit
theorem all_take {β : Type} {d : β} {l : List β} {i : Nat} (p : β → Bool) (h : i < l.length) : (l.take (i + 1)).all p = ((l.take i).all p && p (elt d l ((i : Nat) : Int))) := by
  rw [takeE (d := d) h, List.all_append]; simp
theorem all_no {β : Type} {d : β} {l : List β} {i : Nat} {p : β → Bool} (h : i < l.length) (hp : p (elt d l ((i : Nat) : Int)) = false) : l.all p = false := by
  rw [List.all_eq_false]
  exact ⟨_, eltM (d := d) h, by simp [hp]⟩
theorem clL_no {k a : Int} {l : List Cor} {i : Nat} (h : i < l.length) (hp : clT (elt (dflt uCor) l ((i : Nat) : Int)) (a + bindN k ((i : Nat) : Int)) = false) : clL k l 0 a = false := by
  cases hc : clL k l 0 a with
  | false => rfl
  | true =>
    have := clL_all k a l 0 hc i h
    rw [Nat.zero_add, hp] at this
    cases this
end Go.Tr
namespace Go.Proofs.YtieemijapiiiiaaGreat
open Go Go.RowKit Go.Proofs Go.Tr
theorem okAbove : callOk Tryz.prog 53 = true := by kernel_rfl
set_option maxRecDepth 100000 in
theorem aboveQ : ∀ (c : Cor) (a : Int), goodT c = true → sizT c ≤ 2000000 → 0 ≤ a → a + sizT c ≤ 3000000 → QCall Tryz.prog 53 [.rp uCor c, .int .i64 a] (.bool (!clT c a)) := by
  refine Tree.ind (fun c ih => ?_)
  intro a hg hb ha1 ha2
  have hl := sizT_len c
  have hgi := (goodT_iff.1 hg).2
  rw [clT_eq]
  refine QCall.intro (nt := 38) ti_ok mixed okAbove Tryz.func53 rfl rfl rfl rfl rfl ?_
  refine And.intro (fun q => ?_) (fun q => ?_)
  · have hk : (cKd c == 1) = true := q
    have hv := good_var hg hk
    show decide (a ≤ cVl c) = _
    rw [hv.2.2.2, hk]
    simp [clL]
  have hk : (cKd c == 1) = false := q
  rw [hk, Bool.false_and, Bool.not_false, Bool.true_and]
  refine lp Nat (fun i => [(5, .int .i64 (i : Nat))]) (fun _ => []) (fun i => c.kids.length - i) (fun i => i ≤ c.kids.length ∧ clL (cKd c) (c.kids.take i) 0 a = true) 0 ⟨Nat.zero_le _, by simp [clL]⟩ ?_ ?_
  · exact Go.Tr.hd [] rfl (And.intro ⟨rfl, rfl⟩ trivial) trivial
  rintro i ⟨hi, hc⟩
  refine And.intro (fun q1 => ?_) (fun q1 => ?_)
  · have hlt : i < c.kids.length := by have : ((i : Nat) : Int) < (c.kids.length : Nat) := of_decide_eq_true q1; omega
    have hmem := eltM (d := dflt uCor) hlt
    have h1 := sizT_kid hmem
    have hbn := bindN_b (cKd c) (i : Nat)
    have h2 := clL_take (cKd c) a c.kids 0 i hlt
    rw [Nat.zero_add] at h2
    refine And.intro (show (0 : Int) ≤ (i : Nat) ∧ ((i : Nat) : Int) < (c.kids.length : Nat) by omega) ?_
    conv => whnf
    refine Or.inl (Exists.intro _ (And.intro (bindsS c (i : Nat)) ?_))
    refine Or.inl (Exists.intro _ (And.intro (by
      show QCall _ _ [_, .int .i64 (IntKind.i64.wrap (a + bindN (cKd c) (i : Nat)))] _
      rw [wrapI (by omega)]
      exact ih _ hmem _ (hgi _ hmem) (Nat.le_trans (Nat.le_of_succ_le h1) hb) (by omega) (by show _ + ((sizT (elt (dflt uCor) c.kids ((i : Nat) : Int)) : Nat) : Int) ≤ _; omega)) ?_))
    refine And.intro (by kernel_rfl) ?_
    refine And.intro (fun q2 => ?_) (fun q2 => ?_)
    · have q2' : (!clT (elt (dflt uCor) c.kids ((i : Nat) : Int)) (a + bindN (cKd c) (i : Nat))) = true := q2
      show true = _
      rw [clL_no hlt (by simpa using q2')]; rfl
    · have q2' : (!clT (elt (dflt uCor) c.kids ((i : Nat) : Int)) (a + bindN (cKd c) (i : Nat))) = false := q2
      refine lp_next (i + 1) ⟨hlt, by rw [h2, hc]; simpa using q2'⟩ ?_ (by show c.kids.length - (i + 1) < c.kids.length - i; omega)
      exact Go.Tr.hd [] rfl (And.intro ⟨wrapI (by omega), rfl⟩ trivial) trivial
  have hge : c.kids.length ≤ i := by have : ¬ ((i : Nat) : Int) < (c.kids.length : Nat) := of_decide_eq_false q1; omega
  rw [List.take_of_length_le hge] at hc
  show false = _
  rw [hc]; rfl
theorem okClS : callOk Tryz.prog 38 = true := by kernel_rfl
theorem clS (c : Cor) : QCall Tryz.prog 38 [.rp uCor c] (.bool (okC c && clT c 0)) := by
  refine QCall.intro (nt := 10) ti_ok mixed okClS Tryz.func38 rfl rfl rfl rfl rfl ?_
  refine Or.inl (Exists.intro _ (And.intro (okCQ c) ?_))
  refine Or.inl (Exists.intro _ (And.intro (fun q => aboveQ c 0 (okC_iff.1 (show okC c = true from q)).1 (by have := (okC_iff.1 (show okC c = true from q)).2.2; omega) (by decide) (by have := (okC_iff.1 (show okC c = true from q)).2.2; omega)) ?_))
  show (bif okC c then !!clT c 0 else false) = _
  cases okC c <;> simp
theorem okErS : callOk Tryz.prog 39 = true := by kernel_rfl
set_option maxRecDepth 100000 in
theorem erS : ∀ c : Cor, sizT c ≤ 2000000 → QCall Tryz.prog 39 [.rp uCor c] (.bool (erT c)) := by
  refine Tree.ind (fun c ih => ?_)
  intro hb
  have hl := sizT_len c
  rw [erT_eq]
  refine QCall.intro (nt := 33) ti_ok mixed okErS Tryz.func39 rfl rfl rfl rfl rfl ?_
  have hbx : (bif cKd c == 6 then true else cKd c == 7) = boxV c := by unfold boxV; cases cKd c == 6 <;> rfl
  refine And.intro (fun q => ?_) (fun q => ?_)
  · have q' : (bif cKd c == 6 then true else cKd c == 7) = true := q
    show false = _
    rw [← hbx, q']; rfl
  have q' : (bif cKd c == 6 then true else cKd c == 7) = false := q
  rw [← hbx, q', Bool.not_false, Bool.true_and]
  refine lp Nat (fun i => [(3, .int .i64 (i : Nat))]) (fun _ => []) (fun i => c.kids.length - i) (fun i => i ≤ c.kids.length ∧ (c.kids.take i).all erT = true) 0 ⟨Nat.zero_le _, by simp⟩ ?_ ?_
  · exact Go.Tr.hd [] rfl (And.intro ⟨rfl, rfl⟩ trivial) trivial
  rintro i ⟨hi, hc⟩
  refine And.intro (fun q1 => ?_) (fun q1 => ?_)
  · have hlt : i < c.kids.length := by have : ((i : Nat) : Int) < (c.kids.length : Nat) := of_decide_eq_true q1; omega
    have hmem := eltM (d := dflt uCor) hlt
    have h1 := sizT_kid hmem
    refine And.intro (show (0 : Int) ≤ (i : Nat) ∧ ((i : Nat) : Int) < (c.kids.length : Nat) by omega) ?_
    refine Or.inl (Exists.intro _ (And.intro (ih _ hmem (Nat.le_trans (Nat.le_of_succ_le h1) hb)) ?_))
    refine And.intro (fun q2 => ?_) (fun q2 => ?_)
    · have q2' : (!erT (elt (dflt uCor) c.kids ((i : Nat) : Int))) = true := q2
      show false = _
      rw [all_no (d := dflt uCor) hlt (by simpa using q2')]
    · have q2' : (!erT (elt (dflt uCor) c.kids ((i : Nat) : Int))) = false := q2
      refine lp_next (i + 1) ⟨hlt, by rw [all_take (d := dflt uCor) erT hlt, hc]; simpa using q2'⟩ ?_ (by show c.kids.length - (i + 1) < c.kids.length - i; omega)
      exact Go.Tr.hd [] rfl (And.intro ⟨wrapI (by omega), rfl⟩ trivial) trivial
  have hge : c.kids.length ≤ i := by have : ¬ ((i : Nat) : Int) < (c.kids.length : Nat) := of_decide_eq_false q1; omega
  rw [List.take_of_length_le hge] at hc
  show true = _
  rw [hc]
theorem okRefs : callOk Tryz.prog 40 = true := by kernel_rfl
set_option maxRecDepth 100000 in
theorem refsS (n : Int) : ∀ c : Cor, goodT c = true → QCall Tryz.prog 40 [.rp uCor c, .int .i64 n] (.bool (nmT n c)) := by
  refine Tree.ind (fun c ih => ?_)
  intro hg
  have hdt := good_dt hg
  have hgi := (goodT_iff.1 hg).2
  rw [nmT_eq]
  refine QCall.intro (nt := 56) ti_ok mixed okRefs Tryz.func40 rfl rfl rfl rfl rfl ?_
  have hbx : (bif cKd c == 11 then decide (n ≤ cVl c) else false) = (cKd c == 11 && decide (n ≤ cVl c)) := by cases cKd c == 11 <;> rfl
  unfold farV
  rw [← hbx]
  refine And.intro (fun q => ?_) (fun q => ?_)
  · have q' : (bif cKd c == 11 then decide (n ≤ cVl c) else false) = true := q
    show false = _
    rw [q']; rfl
  have q' : (bif cKd c == 11 then decide (n ≤ cVl c) else false) = false := q
  rw [q', Bool.false_or]
  refine lp Nat (fun i => [(5, .int .i64 (i : Nat))]) (fun _ => []) (fun i => (cDt c).length - i) (fun i => i ≤ (cDt c).length ∧ ((cDt c).take i).all (fun x => !decide (n ≤ x)) = true) 0 ⟨Nat.zero_le _, by simp⟩ ?_ ?_
  · exact Go.Tr.hd [] rfl (And.intro ⟨rfl, rfl⟩ trivial) trivial
  rintro i ⟨hi, hc⟩
  refine And.intro (fun q1 => ?_) (fun q1 => ?_)
  · have hlt : i < (cDt c).length := by have : ((i : Nat) : Int) < ((cDt c).length : Nat) := of_decide_eq_true q1; omega
    refine And.intro (show (0 : Int) ≤ (i : Nat) ∧ ((i : Nat) : Int) < ((cDt c).length : Nat) by omega) ?_
    refine And.intro (fun q2 => ?_) (fun q2 => ?_)
    · have q2' : decide (n ≤ elt (0 : Int) (cDt c) ((i : Nat) : Int)) = true := q2
      show false = _
      have h : (cDt c).all (fun x => !decide (n ≤ x)) = false := all_no (d := (0 : Int)) hlt (by rw [q2']; rfl)
      rw [← List.not_any_eq_all_not] at h
      rw [h]; rfl
    · have q2' : decide (n ≤ elt (0 : Int) (cDt c) ((i : Nat) : Int)) = false := q2
      refine lp_next (i + 1) ⟨hlt, by rw [all_take (d := (0 : Int)) _ hlt, hc, q2']; rfl⟩ ?_ (by show (cDt c).length - (i + 1) < (cDt c).length - i; omega)
      exact Go.Tr.hd [] rfl (And.intro ⟨wrapI (by omega), rfl⟩ trivial) trivial
  have hge : (cDt c).length ≤ i := by have : ¬ ((i : Nat) : Int) < ((cDt c).length : Nat) := of_decide_eq_false q1; omega
  rw [List.take_of_length_le hge, ← List.not_any_eq_all_not] at hc
  rw [hc, Bool.true_and]
  refine lp Nat (fun i => [(6, .int .i64 (i : Nat))]) (fun _ => []) (fun i => c.kids.length - i) (fun i => i ≤ c.kids.length ∧ (c.kids.take i).all (nmT n) = true) 0 ⟨Nat.zero_le _, by simp⟩ ?_ ?_
  · exact Go.Tr.hd [] rfl (And.intro ⟨rfl, rfl⟩ trivial) trivial
  rintro i ⟨hi, hc⟩
  refine And.intro (fun q1 => ?_) (fun q1 => ?_)
  · have hlt : i < c.kids.length := by have : ((i : Nat) : Int) < (c.kids.length : Nat) := of_decide_eq_true q1; omega
    have hmem := eltM (d := dflt uCor) hlt
    refine And.intro (show (0 : Int) ≤ (i : Nat) ∧ ((i : Nat) : Int) < (c.kids.length : Nat) by omega) ?_
    refine Or.inl (Exists.intro _ (And.intro (ih _ hmem (hgi _ hmem)) ?_))
    refine And.intro (fun q2 => ?_) (fun q2 => ?_)
    · have q2' : (!nmT n (elt (dflt uCor) c.kids ((i : Nat) : Int))) = true := q2
      show false = _
      rw [all_no (d := dflt uCor) hlt (by simpa using q2')]
    · have q2' : (!nmT n (elt (dflt uCor) c.kids ((i : Nat) : Int))) = false := q2
      refine lp_next (i + 1) ⟨hlt, by rw [all_take (d := dflt uCor) (nmT n) hlt, hc]; simpa using q2'⟩ ?_ (by show c.kids.length - (i + 1) < c.kids.length - i; omega)
      exact Go.Tr.hd [] rfl (And.intro ⟨wrapI (by omega), rfl⟩ trivial) trivial
  have hge : c.kids.length ≤ i := by have : ¬ ((i : Nat) : Int) < (c.kids.length : Nat) := of_decide_eq_false q1; omega
  rw [List.take_of_length_le hge] at hc
  show true = _
  rw [hc]
theorem okBkS : callOk Tryz.prog 37 = true := by kernel_rfl
set_option maxRecDepth 100000 in
theorem bkS (b : Bok) : QCall Tryz.prog 37 [rpB b] (.bool (okB b)) := by
  refine QCall.intro (nt := 43) ti_ok mixed okBkS Tryz.func37 rfl rfl rfl rfl rfl ?_
  refine Or.inl (Exists.intro _ (And.intro (inCQ _ _ _) ?_))
  unfold okB
  refine And.intro (fun q => ?_) (fun q => ?_)
  · have q' : (!inC (b.length : Nat) 1 24) = true := q
    show false = _
    cases h : inC (b.length : Nat) 1 24 with
    | false => rfl
    | true => rw [h] at q'; cases q'
  have q' : (!inC (b.length : Nat) 1 24) = false := q
  have hin : inC (b.length : Nat) 1 24 = true := by simpa using q'
  have hlen := inC_iff.1 hin
  rw [hin, Bool.true_and]
  refine lp Nat (fun i => [(3, .int .i64 (i : Nat))]) (fun _ => []) (fun i => b.length - i) (fun i => i ≤ b.length ∧ (b.take i).all (defOk (b.length : Nat)) = true) 0 ⟨Nat.zero_le _, by simp⟩ ?_ ?_
  · exact Go.Tr.hd [] rfl (And.intro ⟨rfl, rfl⟩ trivial) trivial
  rintro i ⟨hi, hc⟩
  refine And.intro (fun q1 => ?_) (fun q1 => ?_)
  · have hlt : i < b.length := by have : ((i : Nat) : Int) < (b.length : Nat) := of_decide_eq_true q1; omega
    refine And.intro (show (0 : Int) ≤ (i : Nat) ∧ ((i : Nat) : Int) < (b.length : Nat) by omega) ?_
    conv => whnf
    refine Or.inl (Exists.intro _ (And.intro (clS (elt (dflt uCor) b ((i : Nat) : Int))) ?_))
    refine And.intro (fun _ => show (0 : Int) ≤ (i : Nat) ∧ ((i : Nat) : Int) < (b.length : Nat) by omega) ?_
    refine Or.inl (Exists.intro _ (And.intro (fun q => refsS (b.length : Nat) (elt (dflt uCor) b ((i : Nat) : Int)) (by
      have q3 : (!!(okC (elt (dflt uCor) b ((i : Nat) : Int)) && clT (elt (dflt uCor) b ((i : Nat) : Int)) 0)) = true := q
      rw [Bool.not_not, Bool.and_eq_true] at q3
      exact (okC_iff.1 q3.1).1)) ?_))
    refine And.intro (by kernel_rfl) ?_
    have hd : (bif !(okC (elt (dflt uCor) b ((i : Nat) : Int)) && clT (elt (dflt uCor) b ((i : Nat) : Int)) 0) then true else !nmT (b.length : Nat) (elt (dflt uCor) b ((i : Nat) : Int))) = !defOk (b.length : Nat) (elt (dflt uCor) b ((i : Nat) : Int)) := by
      unfold defOk
      cases okC (elt (dflt uCor) b ((i : Nat) : Int)) <;> cases clT (elt (dflt uCor) b ((i : Nat) : Int)) 0 <;> cases nmT (b.length : Nat) (elt (dflt uCor) b ((i : Nat) : Int)) <;> rfl
    refine And.intro (fun q2 => ?_) (fun q2 => ?_)
    · have q2' : (!defOk (b.length : Nat) (elt (dflt uCor) b ((i : Nat) : Int))) = true := by rw [← hd]; exact q2
      show false = _
      rw [all_no (d := dflt uCor) hlt (by simpa using q2')]
    · have q2' : (!defOk (b.length : Nat) (elt (dflt uCor) b ((i : Nat) : Int))) = false := by rw [← hd]; exact q2
      refine lp_next (i + 1) ⟨hlt, by rw [all_take (d := dflt uCor) _ hlt, hc]; simpa using q2'⟩ ?_ (by show b.length - (i + 1) < b.length - i; omega)
      exact Go.Tr.hd [] rfl (And.intro ⟨wrapI (by omega), rfl⟩ trivial) trivial
  have hge : b.length ≤ i := by have : ¬ ((i : Nat) : Int) < (b.length : Nat) := of_decide_eq_false q1; omega
  rw [List.take_of_length_le hge] at hc
  show true = _
  rw [hc]
theorem okStS : callOk Tryz.prog 23 = true := by kernel_rfl
set_option maxRecDepth 100000 in
theorem stS (b : Bok) (c : Cor) (hb : ∀ d ∈ b, sizT d ≤ 2000000) : QCall Tryz.prog 23 [rpB b, .rp uCor c] (.bool (stOk b c)) := by
  refine QCall.intro (nt := 46) ti_ok mixed okStS Tryz.func23 rfl rfl rfl rfl rfl ?_
  have hcl : ∀ q : (!(bif !okB b then true else !(okC c && clT c 0))) = true, okC c = true := fun q => by
    revert q; cases okB b <;> cases okC c <;> cases clT c 0 <;> simp
  refine Or.inl (Exists.intro _ (And.intro (bkS b) ?_))
  refine Or.inl (Exists.intro _ (And.intro (fun _ => clS c) ?_))
  refine Or.inl (Exists.intro _ (And.intro (fun q => erS c (by have := (okC_iff.1 (hcl q)).2.2; omega)) ?_))
  refine Or.inl (Exists.intro _ (And.intro (fun q => refsS (b.length : Nat) c (by
    have q' : (!(bif (bif !okB b then true else !(okC c && clT c 0)) then true else !erT c)) = true := q
    refine (okC_iff.1 (hcl ?_)).1
    revert q'; cases (bif !okB b then true else !(okC c && clT c 0)) <;> simp)) ?_))
  have hd : (bif (bif (bif !okB b then true else !(okC c && clT c 0)) then true else !erT c) then true else !nmT (b.length : Nat) c) = !(okB b && (okC c && (clT c 0 && (erT c && nmT (b.length : Nat) c)))) := by
    cases okB b <;> cases okC c <;> cases clT c 0 <;> cases erT c <;> cases nmT (b.length : Nat) c <;> rfl
  refine And.intro (fun q => ?_) (fun q => ?_)
  · have q' : (!(okB b && (okC c && (clT c 0 && (erT c && nmT (b.length : Nat) c))))) = true := by rw [← hd]; exact q
    show false = _
    unfold stOk
    cases h1 : okB b with
    | false => rfl
    | true =>
      rw [h1, Bool.true_and] at q'
      rw [Bool.not_eq_true'] at q'
      rw [q', Bool.and_false]
  have q' : (!(okB b && (okC c && (clT c 0 && (erT c && nmT (b.length : Nat) c))))) = false := by rw [← hd]; exact q
  have q'' : okB b = true ∧ (okC c && (clT c 0 && (erT c && nmT (b.length : Nat) c))) = true := by
    rw [← Bool.and_eq_true]; simpa using q'
  have hlen : b.length ≤ 24 := by
    have h := q''.1
    unfold okB at h
    rw [Bool.and_eq_true] at h
    have := inC_iff.1 h.1
    omega
  have hdo : ∀ d ∈ b, okC d = true := fun d hd => by
    have h := q''.1
    unfold okB at h
    rw [Bool.and_eq_true, List.all_eq_true] at h
    have := h.2 d hd
    unfold defOk at this
    rw [Bool.and_eq_true] at this
    exact this.1
  unfold stOk
  rw [q''.1, q''.2, Bool.true_and, Bool.and_true]
  refine lp Nat (fun i => [(5, .int .i64 (i : Nat))]) (fun _ => []) (fun i => b.length - i) (fun i => i ≤ b.length ∧ (b.take i).all (fun d => okC d && erT d) = true) 0 ⟨Nat.zero_le _, by simp⟩ ?_ ?_
  · exact Go.Tr.hd [] rfl (And.intro ⟨rfl, rfl⟩ trivial) trivial
  rintro i ⟨hi, hc⟩
  refine And.intro (fun q1 => ?_) (fun q1 => ?_)
  · have hlt : i < b.length := by have : ((i : Nat) : Int) < (b.length : Nat) := of_decide_eq_true q1; omega
    have hmem := eltM (d := dflt uCor) hlt
    have ho := hdo _ hmem
    refine And.intro (show (0 : Int) ≤ (i : Nat) ∧ ((i : Nat) : Int) < (b.length : Nat) by omega) ?_
    refine Or.inl (Exists.intro _ (And.intro (erS _ (hb _ hmem)) ?_))
    refine And.intro (fun q2 => ?_) (fun q2 => ?_)
    · have q2' : (!erT (elt (dflt uCor) b ((i : Nat) : Int))) = true := q2
      show false = _
      rw [all_no (d := dflt uCor) hlt (by rw [show erT (elt (dflt uCor) b ((i : Nat) : Int)) = false by simpa using q2', Bool.and_false])]
    · have q2' : (!erT (elt (dflt uCor) b ((i : Nat) : Int))) = false := q2
      refine lp_next (i + 1) ⟨hlt, by rw [all_take (d := dflt uCor) _ hlt, hc, ho]; simpa using q2'⟩ ?_ (by show b.length - (i + 1) < b.length - i; omega)
      exact Go.Tr.hd [] rfl (And.intro ⟨wrapI (by omega), rfl⟩ trivial) trivial
  have hge : b.length ≤ i := by have : ¬ ((i : Nat) : Int) < (b.length : Nat) := of_decide_eq_false q1; omega
  rw [List.take_of_length_le hge] at hc
  show true = _
  rw [hc]
end Go.Proofs.YtieemijapiiiiaaGreat
