/- What arguments of these types read as: a type whose own slice is a part of it. -/
import Derived.Test.YtieemijapiiiiaaGreatProg
import Derived.Test.YtieemijapiiiiaaGreatDec
import Derived.Test.YtieemijapiiiiaaGreatDCr
import Derived.KernelRfl
set_option linter.unusedSimpArgs false
set_option linter.unusedVariables false
namespace Go.Tr
open Go Go.RowKit Go.ChangeShapes Go.WideShapes Go.Deep
theorem slice_decB {H : Type} {enc : TypeId × Value → H} {P : Program} {w : World} {spare : Nat → Bool} {held : Bool} {α : Type} (f : α → List D) (s : Nat) (h0 : 0 < s) {t e : TypeId} (ht : P.underlying t = some (.slice e)) (he : P.cellsOf e = s) {fuel : Nat} {cs : List Value} {x : DataW H × List MemPlace}
    (hT : ∀ fuel' cs x, fuel' < fuel → DataW.trod enc P w 0 spare held fuel' e cs = some x → ∃ (a : α) (bs : List Nat), TN w (f a) bs cs)
    (h : DataW.trod enc P w 0 spare held fuel t cs = some x) : ∃ (A : Option Addr) (n c : Nat) (xs : List α) (bs : List Nat), cs = [.slice A n c] ∧ Hid (xs.length = n) ∧ n ≤ c ∧ c ≤ maxLen ∧ T1 w (.sl n (xs.flatMap f)) bs (.slice A n c) := by
  rcases DataW.trod_slice ht h with ⟨rfl, _⟩ | ⟨a, len, cap, elems, rest, n, rfl, rfl, _, hb, hl, hm, hel, hg, _, _⟩
  · exact ⟨none, 0, 0, [], [], rfl, rfl, Nat.le_refl _, Nat.zero_le _, T1.empty _⟩
  have hx : ∀ i, i < len → ∃ cs', w.cells? 0 (a.add (i * P.cellsOf e)) (P.cellsOf e) = some cs' ∧ ∃ y, DataW.trod enc P w 0 spare held n e cs' = some y := fun i hi => by
    have h1 := hg i hi
    rw [List.getElem?_eq_getElem (by omega)] at h1
    obtain ⟨cs', h2, h3⟩ := Option.bind_eq_some_iff.1 h1
    exact ⟨cs', h2, _, h3⟩
  rcases Nat.eq_zero_or_pos len with rfl | hlen
  · refine ⟨some a, 0, cap, [], [], rfl, rfl, Nat.zero_le _, hm, ?_⟩
    unfold T1
    exact ⟨_, _, rfl, Nat.zero_le _, hm, .inl ⟨rfl, rfl, rfl⟩⟩
  have hspot : a.spot = none := by
    obtain ⟨cs', h1, y, h2⟩ := hx 0 (by omega)
    obtain ⟨_, hl', hc'⟩ := World.cells?_some h1
    have h2 := hc' 0 (by omega)
    rw [Nat.zero_mul] at h2
    have h3 : (a.add 0).add 0 = a := by simp [Addr.add]
    rw [h3] at h2
    unfold World.cell? at h2
    cases hs' : a.spot with
    | none => rfl
    | some z =>
      rw [List.getElem?_eq_getElem (by omega)] at h2
      split at h2 <;> simp_all
  obtain ⟨b, off, spot⟩ := a
  simp only at hspot
  subst hspot
  have hadd : ∀ i, (⟨b, off, none⟩ : Addr).add i = ⟨b, off + i, none⟩ := fun i => by unfold Addr.add; split <;> simp_all
  have key : ∀ j, j ≤ len → ∃ (xs : List α) (bs : List Nat) (us : List Value), xs.length = j ∧ us.length = j * s ∧ cellsAt w b off us ∧ TN w (xs.flatMap f) bs us := by
    intro j
    induction j with
    | zero => intro _; exact ⟨[], [], [], rfl, by simp, fun _ _ h => by simp at h, TN.nil.2 ⟨rfl, rfl⟩⟩
    | succ j ih =>
      intro hj
      obtain ⟨xs, bs, us, h1, h2, h3, h4⟩ := ih (by omega)
      obtain ⟨cs', hc, x', htr⟩ := hx j (by omega)
      obtain ⟨y, bs', hy⟩ := hT _ _ _ (Nat.lt_succ_self n) htr
      rw [he, hadd] at hc
      have hcl := (World.cells?_some hc).2.1
      refine ⟨xs ++ [y], bs ++ bs', us ++ cs', by simp [h1], by simp [h2, hcl, Nat.add_mul], h3.append (by rw [h2]; exact cellsAt_of_cells? hc), ?_⟩
      rw [List.flatMap_append]
      exact TN.append.2 ⟨bs, bs', us, cs', rfl, rfl, h4, by simpa using hy⟩
  obtain ⟨xs, bs, us, h1, h2, h3, h4⟩ := key len (Nat.le_refl _)
  refine ⟨_, _, _, xs, b :: bs, rfl, h1, hl, hm, ?_⟩
  unfold T1
  refine ⟨_, _, rfl, hl, hm, .inr ⟨hlen, b, off, us, bs, rfl, rfl, ?_, h3, h4⟩⟩
  have hu : us[0]? = some (us[0]'(by rw [h2]; exact Nat.mul_pos hlen h0)) := List.getElem?_eq_getElem _
  exact World.block_lt_of_cell? w _ (h3 0 _ hu)
theorem dec_fieldB {H : Type} {enc : TypeId × Value → H} {P : Program} {w : World} {spare : Nat → Bool} {held : Bool} {α : Type} {f : α → List D} {t : TypeId} {fs : Array Field} (ht : P.underlying t = some (.struct fs)) {fuel cs x} (h : DataW.trod enc P w 0 spare held fuel t cs = some x) (i : Nat) {fd : Field} (hi : fs[i]? = some fd) {o s : Nat} (ho : fd.offset = o) (hs : P.cellsOf fd.type = s)
    (hd : ∀ fuel' cs x, fuel' < fuel → DataW.trod enc P w 0 spare held fuel' fd.type cs = some x → ∃ (a : α) (bs : List Nat), TN w (f a) bs cs) : ∃ (a : α) (bs : List Nat), TN w (f a) bs ((cs.drop o).take s) := by
  obtain ⟨xs, n, hn, _, _, hlen, hf⟩ := DataW.trod_struct ht h
  have h1 := hf i fd hi
  rw [ho, hs] at h1
  have hlt : i < xs.length := by rw [hlen]; exact (Array.getElem?_eq_some_iff.1 hi).1
  rw [List.getElem?_eq_getElem hlt] at h1
  exact hd _ _ _ (by omega) h1
end Go.Tr
namespace Go.Proofs.YtieemijapiiiiaaGreat
open Go Go.RowKit Go.Proofs Go.Tr
theorem decCoreB {H : Type} {enc : TypeId × Value → H} {w : World} {spare : Nat → Bool} {held : Bool} : ∀ (k fuel : Nat), fuel ≤ k → ∀ cs x, DataW.trod enc Tryz.prog w 0 spare held fuel 27 cs = some x → ∃ (a : GCore) (bs : List Nat), TN w (GCore.enc a) bs cs
  | 0, fuel, hk, cs, x, h => by
    obtain ⟨xs, n, hn, _⟩ := DataW.trod_struct Tryz.underlying27 h
    omega
  | k + 1, fuel, hk, cs, x, h => by
    have hl := trod_len Tryz.underlying27 h
    rw [show Tryz.prog.cellsOf 27 = 4 by kernel_rfl] at hl
    obtain ⟨a0, b0, h0⟩ := dec_field Tryz.underlying27 h 0 rfl (o := 0) (s := 1) rfl (by kernel_rfl) (dec_int Tryz.underlying2)
    obtain ⟨a1, b1, h1⟩ := dec_field Tryz.underlying27 h 1 rfl (o := 1) (s := 1) rfl (by kernel_rfl) (dec_int Tryz.underlying2)
    obtain ⟨a2, b2, h2⟩ := dec_field Tryz.underlying27 h 2 rfl (o := 2) (s := 1) rfl (by kernel_rfl) (dec_slice 1 (by omega) Tryz.underlying25 (by kernel_rfl) (dec_int Tryz.underlying2))
    obtain ⟨a3, b3, h3⟩ := dec_fieldB (f := slE GCore.enc) Tryz.underlying27 h 3 rfl (o := 3) (s := 1) rfl (by kernel_rfl) (fun fuel' cs' x' hlt hx => by
      obtain ⟨A, m, c, ys, bs, e1, hm, _, _, g4⟩ := slice_decB GCore.enc 4 (by omega) Tryz.underlying22 (by kernel_rfl) (fun fuel'' cs'' x'' hlt' hx' => decCoreB k fuel'' (by omega) cs'' x'' hx') hx
      have hm := hm.out
      subst hm
      subst e1
      exact ⟨ys, bs, TN.cons.2 ⟨bs, [], _, _, rfl, by simp, g4, TN.done⟩⟩)
    rw [← GCore.enc_eq] at h3 ⊢
    exact ⟨.node (a0, a1, a2) a3, _, by rw [GCore.enc_eq]; exact TN.piece h0 (TN.piece h1 (TN.piece h2 (TN.piece h3 (TN.pend hl))))⟩
theorem decCore {H : Type} {enc : TypeId × Value → H} {w : World} {spare : Nat → Bool} {held : Bool} : Dec Tryz.prog w enc spare held 27 GCore.enc := fun fuel cs x h => decCoreB fuel fuel (Nat.le_refl _) cs x h
theorem decBook {H : Type} {enc : TypeId × Value → H} {w : World} {spare : Nat → Bool} {held : Bool} : Dec Tryz.prog w enc spare held 24 GBook.enc := fun _ _ _ h => by
  have hl := trod_len Tryz.underlying24 h
  rw [show Tryz.prog.cellsOf 24 = 1 by kernel_rfl] at hl
  obtain ⟨a0, b0, h0⟩ := dec_field Tryz.underlying24 h 0 rfl (o := 0) (s := 1) rfl (by kernel_rfl) (dec_slice 4 (by omega) Tryz.underlying22 (by kernel_rfl) decCore)
  exact ⟨⟨a0⟩, _, TN.piece h0 (TN.pend hl)⟩
end Go.Proofs.YtieemijapiiiiaaGreat
