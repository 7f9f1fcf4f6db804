/- Core terms: what the laws hand over, as data. -/
import Derived.Test.YtieemijapiiiiaaGreatPm
import Derived.Test.YtieemijapiiiiaaGreatKCr
set_option linter.unusedSimpArgs false
set_option linter.unusedVariables false
namespace Go.Tr
open Go Go.RowKit
theorem core_enc (c : Cor) : GCore.enc c = enc uCor c := by rw [← GCore.enc_eq]; rfl
theorem cores_enc (l : List Cor) : l.flatMap GCore.enc = List.flatMap (enc uCor) l := by rw [← GCore.enc_eq]; rfl
theorem dens_cons {cx : Cx} {β : Nat → Value} {s : SV} {v : Value} {l : List SV} {vs : List Value} (h : Den cx β s v) (k : Dens cx β l vs) : Dens cx β (s :: l) (v :: vs) := by
  unfold Dens; exact ⟨v, vs, rfl, h, k⟩
theorem dens_nil {cx : Cx} {β : Nat → Value} : Dens cx β [] [] := by unfold Dens; rfl
theorem den_core {β : Nat → Value} {w : World} {x : Cor} {p : List Nat} {u : List Value} (h : TN w (GCore.enc x) p u) : Den ⟨w, []⟩ β (.agg (cSV x)) (.agg u.toArray) := by
  unfold Den
  refine ⟨u, rfl, ?_⟩
  have := svOf_ok (cx := ⟨w, []⟩) (β := β) uCor x (RoN.of (bs := p) (by rw [← core_enc]; exact h))
  exact this
theorem den_book {β : Nat → Value} {w : World} {x : GBook} {p : List Nat} {u : List Value} (h : TN w x.enc p u) : Den ⟨w, []⟩ β (.agg [.rsl uCor x.defs]) (.agg u.toArray) := by
  unfold Den
  refine ⟨u, rfl, ?_⟩
  have := svOf_ok (cx := ⟨w, []⟩) (β := β) (.sl uCor) x.defs (RoN.of (bs := p) (by
    show TN w [.sl x.defs.length (List.flatMap (enc uCor) x.defs)] p u
    rw [← cores_enc]; exact h))
  exact this
mutual
theorem siz_wt : ∀ c : Cor, sizT c ≤ 1 + GKid.wt c
  | .node x l => by
    rw [sizT_node, GKid.wt]
    have := sizL_wt l 1
    omega
theorem sizL_wt : ∀ (l : List Cor) (a : Nat), sizL l a ≤ a + GKid.wtL l
  | [], a => by rw [sizL, GKid.wtL]; omega
  | t :: l, a => by
    rw [sizL, GKid.wtL]
    have h1 := siz_wt t
    have h2 := sizL_wt l (a + sizT t)
    omega
end
mutual
theorem wt_good : ∀ c : Cor, goodT c = true → GKid.wt c + 1 ≤ 5 * sizT c
  | .node x l, h => by
    have hd := (good_dt h).1
    rw [GKid.wt, sizT_node, wtl_flat]
    have := wtL_good l 1 (goodT_iff.1 h).2
    have hd : x.2.2.length ≤ 4 := hd
    omega
theorem wtL_good : ∀ (l : List Cor) (a : Nat), (∀ t ∈ l, goodT t = true) → GKid.wtL l + 5 * a ≤ 5 * sizL l a
  | [], a, _ => by rw [GKid.wtL, sizL]; omega
  | t :: l, a, h => by
    rw [GKid.wtL, sizL]
    have h1 := wt_good t (h t (by simp))
    have h2 := wtL_good l (a + sizT t) fun s hs => h s (by simp [hs])
    omega
end
theorem core_siz {c : Cor} (h : GCore.wt c ≤ 1048576) : sizT c ≤ 2000000 := by
  have := siz_wt c
  rw [GCore.wt_eq] at this
  omega
theorem wtl_mem {α : Type} {f : α → Nat} {l : List α} {x : α} (h : x ∈ l) : f x ≤ wtl f l := by
  unfold wtl
  induction l with
  | nil => simp at h
  | cons t l ih =>
    rw [List.map_cons, List.sum_cons, List.length_cons]
    rcases List.mem_cons.1 h with rfl | h
    · omega
    · have := ih h; omega
theorem book_siz {x : GBook} (h : x.wt ≤ 1048576) : ∀ d ∈ x.defs, sizT d ≤ 2000000 := fun d hd => by
  have h1 : GCore.wt d ≤ wtl GCore.wt x.defs := wtl_mem hd
  have h2 : x.wt = wtl GCore.wt x.defs := rfl
  exact core_siz (by omega)
theorem core_cnt {c : Cor} (h : okC c = true ∨ c = zeroC) : GCore.cnt c ≤ 1099511627776 := by
  have h1 := GCore.cnt_le c
  have h2 : GCore.wt c ≤ 2000 := by
    rcases h with h | rfl
    · obtain ⟨g, _, s⟩ := okC_iff.1 h
      have := wt_good c g
      rw [GCore.wt_eq] at this
      omega
    · decide
  omega
end Go.Tr
namespace Go.Proofs.YtieemijapiiiiaaGreat
open Go Go.RowKit Go.Proofs Go.Tr
section
variable (a0 : GBook) {p0 : List Nat} {u0 : List Value} (a1 : Cor) {p1 : List Nat} {u1 : List Value} (r0 : Cor) (r1 : Int) (r2 : Int)
end
end Go.Proofs.YtieemijapiiiiaaGreat
