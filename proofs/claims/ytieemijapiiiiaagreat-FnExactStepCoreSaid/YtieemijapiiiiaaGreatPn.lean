/- Core terms: what the laws hand over, as data. -/
import Derived.Test.YtieemijapiiiiaaGreatPm
import Derived.Test.YtieemijapiiiiaaGreatKCr
set_option linter.unusedSimpArgs false
set_option linter.unusedVariables false
namespace Go.Tr
open Go Go.RowKit
theorem core_enc (c : Cor) : GCore.enc c = enc uCor c := by rw [← GCore.enc_eq]; rfl
theorem cores_enc (l : List Cor) : l.flatMap GCore.enc = List.flatMap (enc uCor) l := by rw [← GCore.enc_eq]; rfl
theorem dens_cons {cx : Cx} {β : Nat → Value} {s : SV} {v : Value} {l : List SV} {vs : List Value} (h : Den cx β s v) (k : Dens cx β l vs) : Dens cx β (s :: l) (v :: vs) := by
  unfold Dens; exact ⟨v, vs, rfl, h, k⟩
theorem dens_nil {cx : Cx} {β : Nat → Value} : Dens cx β [] [] := by unfold Dens; rfl
theorem den_core {β : Nat → Value} {w : World} {x : Cor} {p : List Nat} {u : List Value} (h : TN w (GCore.enc x) p u) : Den ⟨w, []⟩ β (.agg (cSV x)) (.agg u.toArray) := by
  unfold Den
  refine ⟨u, rfl, ?_⟩
  have := svOf_ok (cx := ⟨w, []⟩) (β := β) uCor x (RoN.of (bs := p) (by rw [← core_enc]; exact h))
  exact this
theorem den_book {β : Nat → Value} {w : World} {x : GBook} {p : List Nat} {u : List Value} (h : TN w x.enc p u) : Den ⟨w, []⟩ β (.agg [.rsl uCor x.defs]) (.agg u.toArray) := by
  unfold Den
  refine ⟨u, rfl, ?_⟩
  have := svOf_ok (cx := ⟨w, []⟩) (β := β) (.sl uCor) x.defs (RoN.of (bs := p) (by
    show TN w [.sl x.defs.length (List.flatMap (enc uCor) x.defs)] p u
    rw [← cores_enc]; exact h))
  exact this
mutual
theorem siz_wt : ∀ c : Cor, sizT c ≤ 1 + GKid.wt c
  | .node x l => by
    rw [sizT_node, GKid.wt]
    have := sizL_wt l 1
    omega
theorem sizL_wt : ∀ (l : List Cor) (a : Nat), sizL l a ≤ a + GKid.wtL l
  | [], a => by rw [sizL, GKid.wtL]; omega
  | t :: l, a => by
    rw [sizL, GKid.wtL]
    have h1 := siz_wt t
    have h2 := sizL_wt l (a + sizT t)
    omega
end
mutual
theorem wt_good : ∀ c : Cor, goodT c = true → GKid.wt c + 1 ≤ 5 * sizT c
  | .node x l, h => by
    have hd := (good_dt h).1
    rw [GKid.wt, sizT_node, wtl_flat]
    have := wtL_good l 1 (goodT_iff.1 h).2
    have hd : x.2.2.length ≤ 4 := hd
    omega
theorem wtL_good : ∀ (l : List Cor) (a : Nat), (∀ t ∈ l, goodT t = true) → GKid.wtL l + 5 * a ≤ 5 * sizL l a
  | [], a, _ => by rw [GKid.wtL, sizL]; omega
  | t :: l, a, h => by
    rw [GKid.wtL, sizL]
    have h1 := wt_good t (h t (by simp))
    have h2 := wtL_good l (a + sizT t) fun s hs => h s (by simp [hs])
    omega
end
theorem core_siz {c : Cor} (h : GCore.wt c ≤ 1048576) : sizT c ≤ 2000000 := by
  have := siz_wt c
  rw [GCore.wt_eq] at this
  omega
theorem wtl_mem {α : Type} {f : α → Nat} {l : List α} {x : α} (h : x ∈ l) : f x ≤ wtl f l := by
  unfold wtl
  induction l with
  | nil => simp at h
  | cons t l ih =>
    rw [List.map_cons, List.sum_cons, List.length_cons]
    rcases List.mem_cons.1 h with rfl | h
    · omega
    · have := ih h; omega
theorem book_siz {x : GBook} (h : x.wt ≤ 1048576) : ∀ d ∈ x.defs, sizT d ≤ 2000000 := fun d hd => by
  have h1 : GCore.wt d ≤ wtl GCore.wt x.defs := wtl_mem hd
  have h2 : x.wt = wtl GCore.wt x.defs := rfl
  exact core_siz (by omega)
theorem core_cnt {c : Cor} (h : okC c = true ∨ c = zeroC) : GCore.cnt c ≤ 1099511627776 := by
  have h1 := GCore.cnt_le c
  have h2 : GCore.wt c ≤ 2000 := by
    rcases h with h | rfl
    · obtain ⟨g, _, s⟩ := okC_iff.1 h
      have := wt_good c g
      rw [GCore.wt_eq] at this
      omega
    · decide
  omega
end Go.Tr
namespace Go.Proofs.YtieemijapiiiiaaGreat
open Go Go.RowKit Go.Proofs Go.Tr
theorem sres_any {f : Nat} {args : List SV} {c : Cor} {k e : Int} {vs : List Value} {w : World} (h : SRes f args c k e) (hd : ∀ β, Dens ⟨w, []⟩ β args vs) :
    Calls Tryz.prog f vs.toArray w fun e' w' => ∃ (v0 : List Value) (q0 : List Nat), e' = .returned (.tuple #[.agg v0.toArray, .int .i64 k, .int .i64 e]) ∧ Ext w w' ∧ TN w' (GCore.enc c) q0 v0 ∧ Own w.heap.size w' (q0) := by
  rcases h with ⟨rfl, h⟩ | h
  · exact agM_any3 h ⟨_, rfl, _, rfl, _, rfl, _, rfl, rfl, rfl⟩ hd
  · refine agM_any3 h ?_ hd
    rw [core_enc, show enc uCor c = enc uCn (Tree.val c) ++ [.sl (Tree.kids c).length (List.flatMap (enc uCor) (Tree.kids c))] from enc_tree (e := uCn) c]
    exact ⟨_, rfl, _, rfl, rfl, _, rfl, rfl, _, rfl, rfl, rfl⟩
def stepCore (x0 : GBook) (x1 : GCore) : GCore × Int × Int := resStep x0.defs x1
section
variable (a0 : GBook) {p0 : List Nat} {u0 : List Value} (a1 : Cor) {p1 : List Nat} {u1 : List Value} (r0 : Cor) (r1 : Int) (r2 : Int)
theorem stepCoreS_any (hR : (r0, r1, r2) = stepCore a0 a1) (w : World) (h0 : TN w a0.enc p0 u0) (h1 : TN w (GCore.enc a1) p1 u1) (hs : a0.wt + GCore.wt a1 ≤ 1048576) :
    Calls Tryz.prog 7 #[.agg u0.toArray, .agg u1.toArray] w fun e w' => ∃ (v0 : List Value) (q0 : List Nat), e = .returned (.tuple #[.agg v0.toArray, .int .i64 r1, .int .i64 r2]) ∧ Ext w w' ∧ TN w' (GCore.enc r0) q0 v0 ∧ Own w.heap.size w' (q0) := by
  have e1 : r0 = (resStep a0.defs a1).1 := congrArg Prod.fst hR
  have e2 : r1 = (resStep a0.defs a1).2.1 := congrArg (fun p => p.2.1) hR
  have e3 : r2 = (resStep a0.defs a1).2.2 := congrArg (fun p => p.2.2) hR
  subst e1 e2 e3
  exact sres_any (vs := [.agg u0.toArray, .agg u1.toArray]) (stCS a0.defs a1 (book_siz (by omega))) (fun _ => dens_cons (den_book h0) (dens_cons (den_core h1) dens_nil))
theorem stepCoreI_any (hR : (r0, r1, r2) = stepCore a0 a1) (w : World) (h0 : TN w a0.enc p0 u0) (h1 : TN w (GCore.enc a1) p1 u1) (hs : a0.wt + GCore.wt a1 ≤ 1048576) :
    Calls Tryz.prog 10 #[.agg u0.toArray, .agg u1.toArray] w fun e w' => ∃ (v0 : List Value) (q0 : List Nat), e = .returned (.tuple #[.agg v0.toArray, .int .i64 r1, .int .i64 r2]) ∧ Ext w w' ∧ TN w' (GCore.enc r0) q0 v0 ∧ Own w.heap.size w' (q0) := by
  have e1 : r0 = (resStep a0.defs a1).1 := congrArg Prod.fst hR
  have e2 : r1 = (resStep a0.defs a1).2.1 := congrArg (fun p => p.2.1) hR
  have e3 : r2 = (resStep a0.defs a1).2.2 := congrArg (fun p => p.2.2) hR
  subst e1 e2 e3
  exact sres_any (vs := [.agg u0.toArray, .agg u1.toArray]) (stCI a0.defs a1 (book_siz (by omega)) (core_siz (by omega))) (fun _ => dens_cons (den_book h0) (dens_cons (den_core h1) dens_nil))
theorem stepCore_small {Q0 Q1 : Prop} (hR : (r0, r1, r2) = stepCore a0 a1) (_ : Q0) (_ : Q1) : GCore.cnt r0 ≤ 1099511627776 := by
  have e1 : r0 = (resStep a0.defs a1).1 := congrArg Prod.fst hR
  subst e1
  refine core_cnt ?_
  unfold resStep
  cases stOk a0.defs a1 with
  | false => exact Or.inr rfl
  | true =>
    cases h : Go.Tr.stepT a0.defs a1 with
    | none => exact Or.inr rfl
    | some r =>
      obtain ⟨t, k⟩ := r
      cases ho : okC t with
      | false => exact Or.inr (by show (bif okC t then (t, k, (0 : Int)) else (zeroC, 0, 4)).1 = zeroC; rw [ho]; rfl)
      | true => exact Or.inl (by show okC (bif okC t then (t, k, (0 : Int)) else (zeroC, 0, 4)).1 = true; rw [ho]; exact ho)
end
end Go.Proofs.YtieemijapiiiiaaGreat
