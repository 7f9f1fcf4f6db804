/- Core terms: the program's tests of books and terms. -/
import Derived.Test.YtieemijapiiiiaaGreatOh
import Derived.Test.YtieemijapiiiiaaGreatPa
set_option linter.unusedSimpArgs false
set_option linter.unusedVariables false
namespace Go.Proofs.YtieemijapiiiiaaGreat
open Go Go.RowKit Go.Proofs Go.Tr
/-- A number that is read only. -/
abbrev rpI (n : Int) : SV := .rp (.int .i64) n
/-- A book that is read only. -/
abbrev rpB (b : Bok) : SV := .rp (.sl uCor) b
theorem idxN (n : Int) (xs : List Int) (f : Nat) (g : Int → Bool) (hf : ∀ x : Int, QCall Tryz.prog f [.int .i64 x, rpI n] (.bool (g x))) : QCall Tryz.prog 109 [.rsl (.int .i64) xs, .fn f [rpI n]] (.int .i64 (idxF g xs 0)) := by
  refine QCall.rslB okIdxO fun hl => ?_
  refine QCall.intro (nt := 19) ti_ok mixed okIdxO Tryz.func109 rfl rfl rfl rfl rfl ?_
  refine lp Nat (fun i => [(8, .int .i64 (i : Nat))]) (fun _ => []) (fun i => xs.length - i) (fun i => i ≤ xs.length ∧ idxF g xs 0 = idxF g (xs.drop i) i) 0 ⟨Nat.zero_le _, rfl⟩ ?_ ?_
  · exact Go.Tr.hd [] rfl (And.intro (And.intro rfl rfl) trivial) trivial
  rintro i ⟨hi, he⟩
  refine And.intro (fun q1 => ?_) (fun q1 => ?_)
  · have hlt : i < xs.length := by have : ((i : Nat) : Int) < (xs.length : Nat) := of_decide_eq_true q1; omega
    refine And.intro (show 0 ≤ ((i : Nat) : Int) ∧ ((i : Nat) : Int) < (xs.length : Nat) by omega) ?_
    refine Or.inl (Exists.intro _ (And.intro (hf (elt 0 xs ((i : Nat) : Int))) ?_))
    rw [dropE (d := (0 : Int)) hlt] at he
    refine And.intro (fun q2 => ?_) (fun q2 => ?_)
    · rw [he, show idxF g (elt 0 xs ((i : Nat) : Int) :: xs.drop (i + 1)) i = i by unfold idxF; rw [show g (elt 0 xs ((i : Nat) : Int)) = true from q2]; rfl]; exact ⟨rfl, rfl⟩
    · refine lp_next (i + 1) ⟨hlt, ?_⟩ ?_ (by show xs.length - (i + 1) < xs.length - i; omega)
      · rw [he]
        conv => lhs; unfold idxF
        rw [show g (elt 0 xs ((i : Nat) : Int)) = false from q2]; rfl
      · exact Go.Tr.hd [] rfl (And.intro (And.intro (wrapI (by omega)) rfl) trivial) trivial
  · have hge : xs.length ≤ i := by have : ¬ ((i : Nat) : Int) < (xs.length : Nat) := of_decide_eq_false q1; omega
    have hie : i = xs.length := by omega
    subst hie
    rw [he, List.drop_length]; exact ⟨rfl, rfl⟩
theorem conN (n : Int) (xs : List Int) (f : Nat) (g : Int → Bool) (hf : ∀ x : Int, QCall Tryz.prog f [.int .i64 x, rpI n] (.bool (g x))) : QCall Tryz.prog 87 [.rsl (.int .i64) xs, .fn f [rpI n]] (.bool (xs.any g)) := by
  refine QCall.intro (nt := 9) ti_ok mixed okConO Tryz.func87 rfl rfl rfl rfl rfl ?_
  refine Or.inl (Exists.intro _ (And.intro (idxN n xs f g hf) ?_))
  exact idxF_any g xs 0
abbrev tFnN (n : Int) (f : Nat) : List Tok := [.cel 10000 60 [.fn f [rpI n]]]
theorem any1N (n : Int) (f : Nat) (v : Cor) (r : Bool) (h : QCall Tryz.prog 83 [.agg (cSV v), .fn f [rpI n]] (.bool r)) : FCall Tryz.prog 107 [.agg (cSV v), .ptr 10000 0] (tFnN n f) (.bool r) (tFnN n f) := by
  refine FCall.intro (nt := 7) ti_ok mixed okAny1 Tryz.func107 rfl rfl rfl rfl rfl rfl ?_
  refine Or.inl (Exists.intro _ (And.intro h ?_))
  refine fin [] (And.intro rfl ?_)
  exact ⟨trivial, ⟨rfl, trivial⟩, trivial⟩
theorem idxCN (n : Int) (f : Nat) (xs : List Cor) (g : Cor → Bool) (hl : xs.length ≤ 1000000) (hf : ∀ x ∈ xs, FCall Tryz.prog 107 [.agg (cSV x), .ptr 10000 0] (tFnN n f) (.bool (g x)) (tFnN n f)) :
    FCall Tryz.prog 82 [.rsl uCor xs, .fn 107 [.ptr 10000 0]] (tFnN n f) (.int .i64 (idxF g xs 0)) (tFnN n f) := by
  refine FCall.intro (nt := 19) ti_ok mixed okIdxC Tryz.func82 rfl rfl rfl rfl rfl rfl ?_
  refine lp Nat (fun i => [(8, .int .i64 (i : Nat))]) (fun _ => tFnN n f) (fun i => xs.length - i) (fun i => i ≤ xs.length ∧ idxF g xs 0 = idxF g (xs.drop i) i) 0 ⟨Nat.zero_le _, rfl⟩ ?_ ?_
  · exact Go.Tr.hd [] rfl (And.intro (And.intro rfl rfl) trivial) ⟨trivial, ⟨rfl, trivial⟩, trivial⟩
  rintro i ⟨hi, he⟩
  refine And.intro (fun q1 => ?_) (fun q1 => ?_)
  · have hlt : i < xs.length := by have : ((i : Nat) : Int) < (xs.length : Nat) := of_decide_eq_true q1; omega
    have hmem := eltM (d := dflt uCor) hlt
    refine And.intro (show 0 ≤ ((i : Nat) : Int) ∧ ((i : Nat) : Int) < (xs.length : Nat) by omega) ?_
    refine Or.inr (Exists.intro _ (Exists.intro _ (And.intro (hf (elt (dflt uCor) xs ((i : Nat) : Int)) hmem) ?_)))
    rw [dropE (d := dflt uCor) hlt] at he
    refine And.intro (fun q2 => ?_) (fun q2 => ?_)
    · refine fin [] (And.intro ?_ ⟨trivial, ⟨rfl, trivial⟩, trivial⟩)
      rw [he, show idxF g (elt (dflt uCor) xs ((i : Nat) : Int) :: xs.drop (i + 1)) i = i by unfold idxF; rw [show g (elt (dflt uCor) xs ((i : Nat) : Int)) = true from q2]; rfl]; exact ⟨rfl, rfl⟩
    · refine lp_next (i + 1) ⟨hlt, ?_⟩ ?_ (by show xs.length - (i + 1) < xs.length - i; omega)
      · rw [he]
        conv => lhs; unfold idxF
        rw [show g (elt (dflt uCor) xs ((i : Nat) : Int)) = false from q2]; rfl
      · exact Go.Tr.hd [] rfl (And.intro (And.intro (wrapI (by omega)) rfl) trivial) ⟨trivial, ⟨rfl, trivial⟩, trivial⟩
  · have hge : xs.length ≤ i := by have : ¬ ((i : Nat) : Int) < (xs.length : Nat) := of_decide_eq_false q1; omega
    have hie : i = xs.length := by omega
    subst hie
    refine fin [] (And.intro ?_ ⟨trivial, ⟨rfl, trivial⟩, trivial⟩)
    rw [he, List.drop_length]; exact ⟨rfl, rfl⟩
theorem conCN (n : Int) (f : Nat) (xs : List Cor) (g : Cor → Bool) (hl : xs.length ≤ 1000000) (hf : ∀ x ∈ xs, FCall Tryz.prog 107 [.agg (cSV x), .ptr 10000 0] (tFnN n f) (.bool (g x)) (tFnN n f)) :
    FCall Tryz.prog 61 [.rsl uCor xs, .fn 107 [.ptr 10000 0]] (tFnN n f) (.bool (xs.any g)) (tFnN n f) := by
  refine FCall.intro (nt := 9) ti_ok mixed okConC Tryz.func61 rfl rfl rfl rfl rfl rfl ?_
  refine Or.inr (Exists.intro _ (Exists.intro _ (And.intro (idxCN n f xs g hl hf) ?_)))
  refine fin [] (And.intro ?_ ⟨trivial, ⟨rfl, trivial⟩, trivial⟩)
  exact idxF_any g xs 0
theorem anyN (n : Int) (f : Nat) (g : Cor → Bool) (hf : ∀ v : Cor, QCall Tryz.prog f [.agg (cSV v), rpI n] (.bool (g v))) : ∀ c : Cor, sizT c ≤ 1000000 → QCall Tryz.prog 83 [.agg (cSV c), .fn f [rpI n]] (.bool (anyT g c)) := by
  refine Tree.ind (fun c ih => ?_)
  intro hb
  have hl := sizT_len c
  have hcon := conCN n f c.kids (anyT g) (by omega) (fun x hx => any1N n f x _ (ih x hx (Nat.le_trans (Nat.le_of_succ_le (sizT_kid hx)) hb)))
  refine QCall.intro (nt := 14) ti_ok mixed okAny Tryz.func83 rfl rfl rfl rfl rfl ?_
  refine Or.inl (Exists.intro _ (And.intro (hf c) ?_))
  refine Or.inr (And.intro (fun _ => Exists.intro _ (Exists.intro _ (And.intro hcon ?_))) (fun q => Exists.intro (.bool (c.kids.any (anyT g))) ?_))
  · show (bif g c then true else c.kids.any (anyT g)) = anyT g c
    rw [anyT_eq]; cases g c <;> rfl
  · show (bif g c then true else c.kids.any (anyT g)) = anyT g c
    rw [anyT_eq]; cases g c <;> rfl
theorem idxP (xs : List Cor) (f : Nat) (g : Cor → Bool) (hf : ∀ x ∈ xs, QCall Tryz.prog f [.agg (cSV x)] (.bool (g x))) : QCall Tryz.prog 82 [.rsl uCor xs, .fn f []] (.int .i64 (idxF g xs 0)) := by
  refine QCall.rslB okIdxC fun hl => ?_
  refine QCall.intro (nt := 19) ti_ok mixed okIdxC Tryz.func82 rfl rfl rfl rfl rfl ?_
  refine lp Nat (fun i => [(8, .int .i64 (i : Nat))]) (fun _ => []) (fun i => xs.length - i) (fun i => i ≤ xs.length ∧ idxF g xs 0 = idxF g (xs.drop i) i) 0 ⟨Nat.zero_le _, rfl⟩ ?_ ?_
  · exact Go.Tr.hd [] rfl (And.intro (And.intro rfl rfl) trivial) trivial
  rintro i ⟨hi, he⟩
  refine And.intro (fun q1 => ?_) (fun q1 => ?_)
  · have hlt : i < xs.length := by have : ((i : Nat) : Int) < (xs.length : Nat) := of_decide_eq_true q1; omega
    refine And.intro (show 0 ≤ ((i : Nat) : Int) ∧ ((i : Nat) : Int) < (xs.length : Nat) by omega) ?_
    refine Or.inl (Exists.intro _ (And.intro (hf (elt (dflt uCor) xs ((i : Nat) : Int)) (eltM hlt)) ?_))
    rw [dropE (d := dflt uCor) hlt] at he
    refine And.intro (fun q2 => ?_) (fun q2 => ?_)
    · rw [he, show idxF g (elt (dflt uCor) xs ((i : Nat) : Int) :: xs.drop (i + 1)) i = i by unfold idxF; rw [show g (elt (dflt uCor) xs ((i : Nat) : Int)) = true from q2]; rfl]; exact ⟨rfl, rfl⟩
    · refine lp_next (i + 1) ⟨hlt, ?_⟩ ?_ (by show xs.length - (i + 1) < xs.length - i; omega)
      · rw [he]
        conv => lhs; unfold idxF
        rw [show g (elt (dflt uCor) xs ((i : Nat) : Int)) = false from q2]; rfl
      · exact Go.Tr.hd [] rfl (And.intro (And.intro (wrapI (by omega)) rfl) trivial) trivial
  · have hge : xs.length ≤ i := by have : ¬ ((i : Nat) : Int) < (xs.length : Nat) := of_decide_eq_false q1; omega
    have hie : i = xs.length := by omega
    subst hie
    rw [he, List.drop_length]; exact ⟨rfl, rfl⟩
theorem conP (xs : List Cor) (f : Nat) (g : Cor → Bool) (hf : ∀ x ∈ xs, QCall Tryz.prog f [.agg (cSV x)] (.bool (g x))) : QCall Tryz.prog 61 [.rsl uCor xs, .fn f []] (.bool (xs.any g)) := by
  refine QCall.intro (nt := 9) ti_ok mixed okConC Tryz.func61 rfl rfl rfl rfl rfl ?_
  refine Or.inl (Exists.intro _ (And.intro (idxP xs f g hf) ?_))
  exact idxF_any g xs 0
theorem idxB (b : Bok) (xs : List Cor) (f : Nat) (g : Cor → Bool) (hf : ∀ x ∈ xs, QCall Tryz.prog f [.agg (cSV x), rpB b] (.bool (g x))) : QCall Tryz.prog 82 [.rsl uCor xs, .fn f [rpB b]] (.int .i64 (idxF g xs 0)) := by
  refine QCall.rslB okIdxC fun hl => ?_
  refine QCall.intro (nt := 19) ti_ok mixed okIdxC Tryz.func82 rfl rfl rfl rfl rfl ?_
  refine lp Nat (fun i => [(8, .int .i64 (i : Nat))]) (fun _ => []) (fun i => xs.length - i) (fun i => i ≤ xs.length ∧ idxF g xs 0 = idxF g (xs.drop i) i) 0 ⟨Nat.zero_le _, rfl⟩ ?_ ?_
  · exact Go.Tr.hd [] rfl (And.intro (And.intro rfl rfl) trivial) trivial
  rintro i ⟨hi, he⟩
  refine And.intro (fun q1 => ?_) (fun q1 => ?_)
  · have hlt : i < xs.length := by have : ((i : Nat) : Int) < (xs.length : Nat) := of_decide_eq_true q1; omega
    refine And.intro (show 0 ≤ ((i : Nat) : Int) ∧ ((i : Nat) : Int) < (xs.length : Nat) by omega) ?_
    refine Or.inl (Exists.intro _ (And.intro (hf (elt (dflt uCor) xs ((i : Nat) : Int)) (eltM hlt)) ?_))
    rw [dropE (d := dflt uCor) hlt] at he
    refine And.intro (fun q2 => ?_) (fun q2 => ?_)
    · rw [he, show idxF g (elt (dflt uCor) xs ((i : Nat) : Int) :: xs.drop (i + 1)) i = i by unfold idxF; rw [show g (elt (dflt uCor) xs ((i : Nat) : Int)) = true from q2]; rfl]; exact ⟨rfl, rfl⟩
    · refine lp_next (i + 1) ⟨hlt, ?_⟩ ?_ (by show xs.length - (i + 1) < xs.length - i; omega)
      · rw [he]
        conv => lhs; unfold idxF
        rw [show g (elt (dflt uCor) xs ((i : Nat) : Int)) = false from q2]; rfl
      · exact Go.Tr.hd [] rfl (And.intro (And.intro (wrapI (by omega)) rfl) trivial) trivial
  · have hge : xs.length ≤ i := by have : ¬ ((i : Nat) : Int) < (xs.length : Nat) := of_decide_eq_false q1; omega
    have hie : i = xs.length := by omega
    subst hie
    rw [he, List.drop_length]; exact ⟨rfl, rfl⟩
theorem conB (b : Bok) (xs : List Cor) (f : Nat) (g : Cor → Bool) (hf : ∀ x ∈ xs, QCall Tryz.prog f [.agg (cSV x), rpB b] (.bool (g x))) : QCall Tryz.prog 61 [.rsl uCor xs, .fn f [rpB b]] (.bool (xs.any g)) := by
  refine QCall.intro (nt := 9) ti_ok mixed okConC Tryz.func61 rfl rfl rfl rfl rfl ?_
  refine Or.inl (Exists.intro _ (And.intro (idxB b xs f g hf) ?_))
  exact idxF_any g xs 0
theorem okClB : callOk Tryz.prog 85 = true := by kernel_rfl
set_option maxRecDepth 100000 in
theorem clQ : ∀ (c : Cor) (a : Int), sizT c ≤ 2000000 → 0 ≤ a → a + sizT c ≤ 3000000 → QCall Tryz.prog 85 [.agg (cSV c), .int .i64 a] (.bool (clT c a)) := by
  refine Tree.ind (fun c ih => ?_)
  intro a hb ha1 ha2
  have hl := sizT_len c
  rw [clT_eq]
  refine QCall.intro (nt := 33) ti_ok mixed okClB Tryz.func85 rfl rfl rfl rfl rfl ?_
  refine And.intro (fun q => ?_) (fun q => ?_)
  · have q' : (bif cKd c == 1 then decide (a ≤ cVl c) else false) = true := q
    show false = _
    revert q'
    cases cKd c == 1 <;> cases decide (a ≤ cVl c) <;> simp
  have q' : (bif cKd c == 1 then decide (a ≤ cVl c) else false) = false := q
  have hv : (!(cKd c == 1 && decide (a ≤ cVl c))) = true := by
    revert q'
    cases cKd c == 1 <;> cases decide (a ≤ cVl c) <;> simp
  rw [hv, Bool.true_and]
  refine lp Nat (fun i => [(19, .int .i64 (i : Nat))]) (fun _ => [.cel 2 32 (cSV c)]) (fun i => c.kids.length - i) (fun i => i ≤ c.kids.length ∧ clL (cKd c) (c.kids.take i) 0 a = true ∧ (∀ j : Nat, i ≤ j → j < c.kids.length → clT (elt (dflt uCor) c.kids ((j : Nat) : Int)) (a + bindN (cKd c) (j : Nat)) = false → clL (cKd c) c.kids 0 a = false)) 0 ⟨Nat.zero_le _, by simp [clL], fun j _ hj h => ?_⟩ ?_ ?_
  · cases hc : clL (cKd c) c.kids 0 a with
    | false => rfl
    | true =>
      have := clL_all (cKd c) a c.kids 0 hc j hj
      rw [Nat.zero_add] at this
      rw [this] at h; cases h
  · exact Go.Tr.hd [] rfl (And.intro ⟨rfl, rfl⟩ trivial) ⟨trivial, ⟨⟨rfl, rfl⟩, ⟨rfl, rfl⟩, rfl, rfl, trivial⟩, trivial⟩
  rintro i ⟨hi, hc, hf⟩
  refine And.intro (fun q1 => ?_) (fun q1 => ?_)
  · have hlt : i < c.kids.length := by have : ((i : Nat) : Int) < (c.kids.length : Nat) := of_decide_eq_true q1; omega
    have hmem := eltM (d := dflt uCor) hlt
    have h1 := sizT_kid hmem
    have hbn := bindN_b (cKd c) (i : Nat)
    have h2 := clL_take (cKd c) a c.kids 0 i hlt
    rw [Nat.zero_add] at h2
    refine And.intro (show (0 : Int) ≤ (i : Nat) ∧ ((i : Nat) : Int) < (c.kids.length : Nat) by omega) ?_
    conv => whnf
    refine Or.inl (Exists.intro _ (And.intro (bindsQ c (i : Nat)) ?_))
    refine Or.inl (Exists.intro _ (And.intro (by
      show QCall _ _ [_, .int .i64 (IntKind.i64.wrap (a + bindN (cKd c) (i : Nat)))] _
      rw [wrapI (by omega)]
      exact ih _ hmem _ (Nat.le_trans (Nat.le_of_succ_le h1) hb) (by omega) (by show _ + ((sizT (elt (dflt uCor) c.kids ((i : Nat) : Int)) : Nat) : Int) ≤ _; omega)) ?_))
    refine And.intro (by kernel_rfl) ?_
    refine And.intro (fun q2 => ?_) (fun q2 => ?_)
    · have q2' : (!clT (elt (dflt uCor) c.kids ((i : Nat) : Int)) (a + bindN (cKd c) (i : Nat))) = true := q2
      exact (hf i (Nat.le_refl _) hlt (by simpa using q2')).symm
    · have q2' : (!clT (elt (dflt uCor) c.kids ((i : Nat) : Int)) (a + bindN (cKd c) (i : Nat))) = false := q2
      refine lp_next (i + 1) ⟨hlt, by rw [h2, hc]; simpa using q2', fun j hj => hf j (by omega)⟩ ?_ (by show c.kids.length - (i + 1) < c.kids.length - i; omega)
      exact Go.Tr.hd [] rfl (And.intro ⟨wrapI (by omega), rfl⟩ trivial) ⟨trivial, ⟨⟨rfl, rfl⟩, ⟨rfl, rfl⟩, rfl, rfl, trivial⟩, trivial⟩
  have hge : c.kids.length ≤ i := by have : ¬ ((i : Nat) : Int) < (c.kids.length : Nat) := of_decide_eq_false q1; omega
  rw [List.take_of_length_le hge] at hc
  exact hc.symm
theorem okIsCl : callOk Tryz.prog 64 = true := by kernel_rfl
theorem isClQ (c : Cor) (hb : sizT c ≤ 2000000) : QCall Tryz.prog 64 [.agg (cSV c)] (.bool (bif okC c then clT c 0 else false)) := by
  refine QCall.intro (nt := 9) ti_ok mixed okIsCl Tryz.func64 rfl rfl rfl rfl rfl ?_
  refine Or.inl (Exists.intro _ (And.intro (validQ c hb) ?_))
  refine Or.inl (Exists.intro _ (And.intro (fun _ => clQ c 0 hb (by decide) (by omega)) ?_))
  exact rfl
theorem okEr1 : callOk Tryz.prog 84 = true := by kernel_rfl
theorem er1Q (c : Cor) : QCall Tryz.prog 84 [.agg (cSV c)] (.bool (boxV c)) := by
  refine QCall.intro (nt := 11) ti_ok mixed okEr1 Tryz.func84 rfl rfl rfl rfl rfl ?_
  show (bif cKd c == 6 then true else cKd c == 7) = boxV c
  unfold boxV; cases cKd c == 6 <;> rfl
theorem okIsEr : callOk Tryz.prog 63 = true := by kernel_rfl
theorem isErQ (c : Cor) (hb : sizT c ≤ 2000000) : QCall Tryz.prog 63 [.agg (cSV c)] (.bool (bif okC c then erT c else false)) := by
  refine QCall.intro (nt := 10) ti_ok mixed okIsEr Tryz.func63 rfl rfl rfl rfl rfl ?_
  refine Or.inl (Exists.intro _ (And.intro (validQ c hb) ?_))
  refine Or.inl (Exists.intro _ (And.intro (fun q => anyQ _ boxV er1Q c (by have := (okC_iff.1 (show okC c = true from q)).2.2; omega)) ?_))
  exact rfl
theorem okNm11 : callOk Tryz.prog 88 = true := by kernel_rfl
theorem nm11Q (n x : Int) : QCall Tryz.prog 88 [.int .i64 x, rpI n] (.bool (decide (n ≤ x))) := by
  refine QCall.intro (nt := 7) ti_ok mixed okNm11 Tryz.func88 rfl rfl rfl rfl rfl ?_
  exact rfl
theorem okNm1 : callOk Tryz.prog 86 = true := by kernel_rfl
theorem nm1Q (n : Int) (c : Cor) : QCall Tryz.prog 86 [.agg (cSV c), rpI n] (.bool (farV n c)) := by
  refine QCall.intro (nt := 19) ti_ok mixed okNm1 Tryz.func86 rfl rfl rfl rfl rfl ?_
  refine Or.inl (Exists.intro _ (And.intro (fun _ => conN n (cDt c) 88 (fun x => decide (n ≤ x)) (nm11Q n)) ?_))
  show (bif (bif cKd c == 11 then decide (n ≤ cVl c) else false) then true else (cDt c).any fun x => decide (n ≤ x)) = farV n c
  unfold farV
  cases cKd c == 11 <;> cases decide (n ≤ cVl c) <;> rfl
theorem okNm : callOk Tryz.prog 65 = true := by kernel_rfl
theorem nmQ (n : Int) (c : Cor) (hb : sizT c ≤ 1000000) : QCall Tryz.prog 65 [.agg (cSV c), .int .i64 n] (.bool (nmT n c)) := by
  have h : FCall Tryz.prog 83 [.agg (cSV c), .fn 86 [.ptr 10000 0]] [.cel 10000 3 [.int .i64 n]] (.bool (anyT (farV n) c)) [.cel 10000 3 [.int .i64 n]] :=
    FCall.of_q ti_ok [0, 0] okAny (by
      show QCall _ _ [.agg (cSV c), .fn 86 [rpI n]] _
      exact anyN n _ (farV n) (nm1Q n) c hb) rfl
  refine QCall.intro (nt := 9) ti_ok mixed okNm Tryz.func65 rfl rfl rfl rfl rfl ?_
  refine Or.inr (Exists.intro _ (Exists.intro _ (And.intro h ?_)))
  exact rfl
/-- What the program asks of a definition. -/
theorem okVB1 : callOk Tryz.prog 81 = true := by kernel_rfl
theorem vb1Q (b : Bok) (c : Cor) (hb : sizT c ≤ 2000000) (hl : b.length ≤ 1000000) : QCall Tryz.prog 81 [.agg (cSV c), rpB b] (.bool (!defOk (b.length : Nat) c)) := by
  refine QCall.intro (nt := 15) ti_ok mixed okVB1 Tryz.func81 rfl rfl rfl rfl rfl ?_
  refine Or.inl (Exists.intro _ (And.intro (isClQ c hb) ?_))
  refine Or.inl (Exists.intro _ (And.intro (fun q => nmQ (b.length : Nat) c (by
    have q' : (!!(bif okC c then clT c 0 else false)) = true := q
    cases ho : okC c with
    | false => rw [ho] at q'; cases q'
    | true => have := (okC_iff.1 ho).2.2; omega)) ?_))
  show (bif !(bif okC c then clT c 0 else false) then true else !nmT (b.length : Nat) c) = !defOk (b.length : Nat) c
  unfold defOk
  cases okC c <;> cases clT c 0 <;> cases nmT (b.length : Nat) c <;> rfl
theorem okVB : callOk Tryz.prog 60 = true := by kernel_rfl
theorem vbQ (b : Bok) (hb : ∀ d ∈ b, sizT d ≤ 2000000) : QCall Tryz.prog 60 [.agg [.rsl uCor b]] (.bool (okB b)) := by
  by_cases hl : b.length < 1 ∨ 24 < b.length
  · refine QCall.intro (nt := 18) ti_ok mixed okVB Tryz.func60 rfl rfl rfl rfl rfl ?_
    have e : okB b = false := by
      unfold okB
      rw [show inC (b.length : Nat) 1 24 = false from by
        cases h : inC (b.length : Nat) 1 24 with
        | false => rfl
        | true => have := inC_iff.1 h; omega]; rfl
    rw [e]
    refine And.intro (fun _ => rfl) (fun q => ?_)
    have q' : (bif decide (((b.length : Nat) : Int) < 1) then true else decide (24 < ((b.length : Nat) : Int))) = false := q
    exfalso
    rcases hl with h | h
    · rw [decide_eq_true (show ((b.length : Nat) : Int) < 1 by omega)] at q'; cases q'
    · rw [decide_eq_true (show 24 < ((b.length : Nat) : Int) by omega)] at q'
      revert q'; cases decide (((b.length : Nat) : Int) < 1) <;> simp
  · have hl' : 1 ≤ b.length ∧ b.length ≤ 24 := by omega
    have h : FCall Tryz.prog 61 [.rsl uCor b, .fn 81 [.ptr 10000 0]] [.cel 10000 36 [.rsl uCor b]] (.bool (b.any fun c => !defOk (b.length : Nat) c)) [.cel 10000 36 [.rsl uCor b]] :=
      FCall.of_q ti_ok [0, 0] okConC (by
        show QCall _ _ [.rsl uCor b, .fn 81 [rpB b]] _
        exact conB b b _ _ (fun x hx => vb1Q b x (hb x hx) (by omega))) rfl
    refine QCall.intro (nt := 18) ti_ok mixed okVB Tryz.func60 rfl rfl rfl rfl rfl ?_
    refine And.intro (fun q => ?_) (fun _ => ?_)
    · have q' : (bif decide (((b.length : Nat) : Int) < 1) then true else decide (24 < ((b.length : Nat) : Int))) = true := q
      rw [decide_eq_false (show ¬ ((b.length : Nat) : Int) < 1 by omega), decide_eq_false (show ¬ 24 < ((b.length : Nat) : Int) by omega)] at q'
      cases q'
    refine Or.inr (Exists.intro _ (Exists.intro _ (And.intro h ?_)))
    show (!(b.any fun c => !defOk (b.length : Nat) c)) = okB b
    unfold okB
    rw [inC_iff.2 (show (1 : Int) ≤ (b.length : Nat) ∧ ((b.length : Nat) : Int) ≤ 24 by omega), Bool.true_and, List.not_any_eq_all_not]
    simp
theorem okEB1 : callOk Tryz.prog 62 = true := by kernel_rfl
theorem eb1Q (c : Cor) (hb : sizT c ≤ 2000000) : QCall Tryz.prog 62 [.agg (cSV c)] (.bool (!(okC c && erT c))) := by
  refine QCall.intro (nt := 6) ti_ok mixed okEB1 Tryz.func62 rfl rfl rfl rfl rfl ?_
  refine Or.inl (Exists.intro _ (And.intro (isErQ c hb) ?_))
  show (!(bif okC c then erT c else false)) = _
  cases okC c <;> rfl
theorem okEB : callOk Tryz.prog 44 = true := by kernel_rfl
theorem ebQ (b : Bok) (hb : ∀ d ∈ b, sizT d ≤ 2000000) : QCall Tryz.prog 44 [.agg [.rsl uCor b]] (.bool (okB b && b.all fun d => okC d && erT d)) := by
  refine QCall.intro (nt := 11) ti_ok mixed okEB Tryz.func44 rfl rfl rfl rfl rfl ?_
  refine Or.inl (Exists.intro _ (And.intro (vbQ b hb) ?_))
  refine Or.inl (Exists.intro _ (And.intro (fun _ => conP b _ (fun d => !(okC d && erT d)) (fun x hx => eb1Q x (hb x hx))) ?_))
  show (bif okB b then !(b.any fun d => !(okC d && erT d)) else false) = _
  rw [List.not_any_eq_all_not]
  simp only [Bool.not_not]
  cases okB b <;> rfl
theorem okET : callOk Tryz.prog 45 = true := by kernel_rfl
theorem etQ (b : Bok) (c : Cor) (hb : sizT c ≤ 2000000) (hl : b.length ≤ 1000000) : QCall Tryz.prog 45 [.agg [.rsl uCor b], .agg (cSV c)] (.bool (okC c && (clT c 0 && (erT c && nmT (b.length : Nat) c)))) := by
  refine QCall.intro (nt := 18) ti_ok mixed okET Tryz.func45 rfl rfl rfl rfl rfl ?_
  refine Or.inl (Exists.intro _ (And.intro (isClQ c hb) ?_))
  refine Or.inl (Exists.intro _ (And.intro (fun _ => isErQ c hb) ?_))
  refine Or.inl (Exists.intro _ (And.intro (fun q => nmQ (b.length : Nat) c (by
    have q' : (bif (bif okC c then clT c 0 else false) then (bif okC c then erT c else false) else false) = true := q
    cases ho : okC c with
    | false => rw [ho] at q'; cases q'
    | true => have := (okC_iff.1 ho).2.2; omega)) ?_))
  show (bif (bif (bif okC c then clT c 0 else false) then (bif okC c then erT c else false) else false) then nmT (b.length : Nat) c else false) = _
  cases okC c <;> cases clT c 0 <;> cases erT c <;> rfl
theorem okMS : callOk Tryz.prog 28 = true := by kernel_rfl
theorem msQ (b : Bok) (c : Cor) (hb : ∀ d ∈ b, sizT d ≤ 2000000) (hc : sizT c ≤ 2000000) : QCall Tryz.prog 28 [.agg [.rsl uCor b], .agg (cSV c)] (.bool (stOk b c)) := by
  refine QCall.intro (nt := 12) ti_ok mixed okMS Tryz.func28 rfl rfl rfl rfl rfl ?_
  refine Or.inl (Exists.intro _ (And.intro (ebQ b hb) ?_))
  refine Or.inl (Exists.intro _ (And.intro (fun q => etQ b c hc (by
    have q' : (okB b && b.all fun d => okC d && erT d) = true := q
    rw [Bool.and_eq_true] at q'
    have h := q'.1
    unfold okB at h
    rw [Bool.and_eq_true] at h
    have := inC_iff.1 h.1
    omega)) ?_))
  show (bif (okB b && b.all fun d => okC d && erT d) then (okC c && (clT c 0 && (erT c && nmT (b.length : Nat) c))) else false) = stOk b c
  unfold stOk
  cases (okB b && b.all fun d => okC d && erT d) <;> rfl
end Go.Proofs.YtieemijapiiiiaaGreat
