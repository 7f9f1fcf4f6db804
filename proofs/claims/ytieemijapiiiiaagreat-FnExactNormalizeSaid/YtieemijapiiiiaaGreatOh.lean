/- Core terms: shifts, as they are asked for. -/
import Derived.Test.YtieemijapiiiiaaGreatOg
set_option linter.unusedSimpArgs false
set_option linter.unusedVariables false
namespace Go.Proofs.YtieemijapiiiiaaGreat
open Go Go.RowKit Go.Proofs Go.Tr
theorem okAny : callOk Tryz.prog 83 = true := by kernel_rfl
theorem okAny1 : callOk Tryz.prog 107 = true := by kernel_rfl
theorem okConC : callOk Tryz.prog 61 = true := by kernel_rfl
theorem okIdxC : callOk Tryz.prog 82 = true := by kernel_rfl
/-- The function, in a variable. -/
abbrev tFn (f : Nat) : List Tok := [.cel 10000 60 [.fn f []]]
theorem any1F (f : Nat) (v : Cor) (r : Bool) (h : QCall Tryz.prog 83 [.agg (cSV v), .fn f []] (.bool r)) : FCall Tryz.prog 107 [.agg (cSV v), .ptr 10000 0] (tFn f) (.bool r) (tFn f) := by
  refine FCall.intro (nt := 7) ti_ok mixed okAny1 Tryz.func107 rfl rfl rfl rfl rfl rfl ?_
  refine Or.inl (Exists.intro _ (And.intro h ?_))
  refine fin [] (And.intro rfl ?_)
  exact ⟨trivial, ⟨rfl, trivial⟩, trivial⟩
theorem idxCF (f : Nat) (xs : List Cor) (g : Cor → Bool) (hl : xs.length ≤ 1000000) (hf : ∀ x ∈ xs, FCall Tryz.prog 107 [.agg (cSV x), .ptr 10000 0] (tFn f) (.bool (g x)) (tFn f)) :
    FCall Tryz.prog 82 [.rsl uCor xs, .fn 107 [.ptr 10000 0]] (tFn f) (.int .i64 (idxF g xs 0)) (tFn f) := by
  refine FCall.intro (nt := 19) ti_ok mixed okIdxC Tryz.func82 rfl rfl rfl rfl rfl rfl ?_
  refine lp Nat (fun i => [(8, .int .i64 (i : Nat))]) (fun _ => tFn f) (fun i => xs.length - i) (fun i => i ≤ xs.length ∧ idxF g xs 0 = idxF g (xs.drop i) i) 0 ⟨Nat.zero_le _, rfl⟩ ?_ ?_
  · exact Go.Tr.hd [] rfl (And.intro (And.intro rfl rfl) trivial) ⟨trivial, ⟨rfl, trivial⟩, trivial⟩
  rintro i ⟨hi, he⟩
  refine And.intro (fun q1 => ?_) (fun q1 => ?_)
  · have hlt : i < xs.length := by have : ((i : Nat) : Int) < (xs.length : Nat) := of_decide_eq_true q1; omega
    have hmem := eltM (d := dflt uCor) hlt
    refine And.intro (show 0 ≤ ((i : Nat) : Int) ∧ ((i : Nat) : Int) < (xs.length : Nat) by omega) ?_
    refine Or.inr (Exists.intro _ (Exists.intro _ (And.intro (hf (elt (dflt uCor) xs ((i : Nat) : Int)) hmem) ?_)))
    rw [dropE (d := dflt uCor) hlt] at he
    refine And.intro (fun q2 => ?_) (fun q2 => ?_)
    · refine fin [] (And.intro ?_ ⟨trivial, ⟨rfl, trivial⟩, trivial⟩)
      rw [he, show idxF g (elt (dflt uCor) xs ((i : Nat) : Int) :: xs.drop (i + 1)) i = i by unfold idxF; rw [show g (elt (dflt uCor) xs ((i : Nat) : Int)) = true from q2]; rfl]; exact ⟨rfl, rfl⟩
    · refine lp_next (i + 1) ⟨hlt, ?_⟩ ?_ (by show xs.length - (i + 1) < xs.length - i; omega)
      · rw [he]
        conv => lhs; unfold idxF
        rw [show g (elt (dflt uCor) xs ((i : Nat) : Int)) = false from q2]; rfl
      · exact Go.Tr.hd [] rfl (And.intro (And.intro (wrapI (by omega)) rfl) trivial) ⟨trivial, ⟨rfl, trivial⟩, trivial⟩
  · have hge : xs.length ≤ i := by have : ¬ ((i : Nat) : Int) < (xs.length : Nat) := of_decide_eq_false q1; omega
    have hie : i = xs.length := by omega
    subst hie
    refine fin [] (And.intro ?_ ⟨trivial, ⟨rfl, trivial⟩, trivial⟩)
    rw [he, List.drop_length]; exact ⟨rfl, rfl⟩
theorem conCF (f : Nat) (xs : List Cor) (g : Cor → Bool) (hl : xs.length ≤ 1000000) (hf : ∀ x ∈ xs, FCall Tryz.prog 107 [.agg (cSV x), .ptr 10000 0] (tFn f) (.bool (g x)) (tFn f)) :
    FCall Tryz.prog 61 [.rsl uCor xs, .fn 107 [.ptr 10000 0]] (tFn f) (.bool (xs.any g)) (tFn f) := by
  refine FCall.intro (nt := 9) ti_ok mixed okConC Tryz.func61 rfl rfl rfl rfl rfl rfl ?_
  refine Or.inr (Exists.intro _ (Exists.intro _ (And.intro (idxCF f xs g hl hf) ?_)))
  refine fin [] (And.intro ?_ ⟨trivial, ⟨rfl, trivial⟩, trivial⟩)
  exact idxF_any g xs 0
theorem anyQ (f : Nat) (g : Cor → Bool) (hf : ∀ v : Cor, QCall Tryz.prog f [.agg (cSV v)] (.bool (g v))) : ∀ c : Cor, sizT c ≤ 1000000 → QCall Tryz.prog 83 [.agg (cSV c), .fn f []] (.bool (anyT g c)) := by
  refine Tree.ind (fun c ih => ?_)
  intro hb
  have hl := sizT_len c
  have hcon := conCF f c.kids (anyT g) (by omega) (fun x hx => any1F f x _ (ih x hx (Nat.le_trans (Nat.le_of_succ_le (sizT_kid hx)) hb)))
  refine QCall.intro (nt := 14) ti_ok mixed okAny Tryz.func83 rfl rfl rfl rfl rfl ?_
  refine Or.inl (Exists.intro _ (And.intro (hf c) ?_))
  refine Or.inr (And.intro (fun _ => Exists.intro _ (Exists.intro _ (And.intro hcon ?_))) (fun q => Exists.intro (.bool (c.kids.any (anyT g))) ?_))
  · show (bif g c then true else c.kids.any (anyT g)) = anyT g c
    rw [anyT_eq]; cases g c <;> rfl
  · show (bif g c then true else c.kids.any (anyT g)) = anyT g c
    rw [anyT_eq]; cases g c <;> rfl
end Go.Proofs.YtieemijapiiiiaaGreat
