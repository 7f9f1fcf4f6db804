/- Core terms: Normalize, as the law wants it. -/
import Derived.Test.YtieemijapiiiiaaGreatPn
import Derived.Test.YtieemijapiiiiaaGreatPq
set_option linter.unusedSimpArgs false
set_option linter.unusedVariables false
namespace Go.Tr
open Go Go.RowKit
theorem agM_any3s {P : Program} {f : Nat} {args l : List SV} {s : SV} {ts : List Tok} {c : Int} {ds es : List D} {n : Nat} (h : FCall P f args [] (.tup [.agg l, s, .int .i64 c]) ts) (hl : l.length = ds.length) (hm : agM (l ++ [s]) ts (ds ++ [.sl n es])) {vs : List Value} {w : World} (hd : ∀ β, Dens ⟨w, []⟩ β args vs) :
    Calls P f vs.toArray w fun e w' => ∃ (v0 : List Value) (q0 : List Nat) (B1 : Option Addr) (d1 : Nat) (q1 : List Nat), e = .returned (.tuple #[.agg v0.toArray, .slice B1 n d1, .int .i64 c]) ∧ Ext w w' ∧ TN w' ds q0 v0 ∧ T1 w' (.sl n es) q1 (.slice B1 n d1) ∧ Own w.heap.size w' (q0 ++ q1) := by
  refine (h.2 ⟨w, []⟩ (fun _ => undef) w [] vs (Inv.start0 w) (hd _)).mono ?_
  rintro e' w' ⟨v, β', rfl, _, hd, hI⟩
  rw [List.append_nil] at hI
  unfold Den at hd
  obtain ⟨vs, rfl, hd⟩ := hd
  unfold Dens at hd
  obtain ⟨v1, vs1, rfl, hd1, hd⟩ := hd
  unfold Dens at hd
  obtain ⟨v2, vs2, rfl, hd2, hd⟩ := hd
  unfold Dens at hd
  obtain ⟨v3, vs3, rfl, hd3, hd⟩ := hd
  unfold Dens at hd
  subst hd
  unfold Den at hd1 hd3
  obtain ⟨us, rfl, hd1⟩ := hd1
  subst hd3
  obtain ⟨G, hs, hG⟩ := hI.sep
  obtain ⟨bs, k1, k2, _⟩ := agM_ok (lo := w.heap.size) hm (Dens.app hd1 (Dens.one hd2)) hs fun b hb => (hG b hb).elim (fun h => by simp at h) id
  obtain ⟨b1, b2, u1, u2, e1, rfl, j1, j2⟩ := TN.append.1 k1
  have hu : us.length = u1.length := by rw [hd1.len, hl, j1.length]
  obtain ⟨rfl, rfl⟩ := List.append_inj e1 hu
  obtain ⟨c1, c2, u, us', e2, rfl, j3, j4⟩ := TN.cons.1 j2
  injection e2 with e2 e3
  subst e2 e3
  obtain ⟨_, rfl⟩ := TN.nil.1 j4
  obtain ⟨A, d, rfl, _, _⟩ := j3.slice
  refine ⟨us, b1, A, d, c1, rfl, hI.to_ext, j1, j3, by simpa using k2⟩
end Go.Tr
namespace Go.Proofs.YtieemijapiiiiaaGreat
open Go Go.RowKit Go.Proofs Go.Tr
theorem nres_any {f : Nat} {args : List SV} {R : Cor × List Int × Int} {vs : List Value} {w : World} (h : NRes f args R) (hd : ∀ β, Dens ⟨w, []⟩ β args vs) :
    Calls Tryz.prog f vs.toArray w fun e w' => ∃ (v0 : List Value) (q0 : List Nat) (B1 : Option Addr) (d1 : Nat) (q1 : List Nat), e = .returned (.tuple #[.agg v0.toArray, .slice B1 R.2.1.length d1, .int .i64 R.2.2]) ∧ Ext w w' ∧ TN w' (GCore.enc R.1) q0 v0 ∧ T1 w' (.sl R.2.1.length (R.2.1.flatMap intE)) q1 (.slice B1 R.2.1.length d1) ∧ Own w.heap.size w' (q0 ++ q1) := by
  obtain ⟨c, l, k⟩ := R
  rcases h with ⟨⟨h1, h2⟩, h⟩ | h
  · have h1 : c = zeroC := h1
    have h2 : l = [] := h2
    subst h1 h2
    rcases h with h | h
    · exact agM_any3s h rfl ⟨_, rfl, _, rfl, _, rfl, _, rfl, _, rfl, rfl, rfl⟩ hd
    · exact agM_any3s h rfl ⟨_, rfl, _, rfl, _, rfl, _, rfl, rfl, _, rfl, rfl, rfl⟩ hd
  · show Calls _ _ _ _ fun e w' => ∃ (v0 : List Value) (q0 : List Nat) (B1 : Option Addr) (d1 : Nat) (q1 : List Nat), e = .returned (.tuple #[.agg v0.toArray, .slice B1 l.length d1, .int .i64 k]) ∧ Ext w w' ∧ TN w' (GCore.enc c) q0 v0 ∧ T1 w' (.sl l.length (l.flatMap intE)) q1 (.slice B1 l.length d1) ∧ Own w.heap.size w' (q0 ++ q1)
    rw [core_enc, show enc uCor c = enc uCn (Tree.val c) ++ [.sl (Tree.kids c).length (List.flatMap (enc uCor) (Tree.kids c))] from enc_tree (e := uCn) c]
    exact agM_any3s h rfl ⟨_, rfl, _, rfl, rfl, _, rfl, rfl, _, rfl, rfl, _, rfl, rfl, rfl⟩ hd
def normalize (x0 : GBook) (x1 : GCore) (x2 : Int) : GCore × List Int × Int := resNorm x0.defs x1 x2
theorem den_int64 {cx : Cx} {β : Nat → Value} (i : Int) : Den cx β (.int .i64 i) (.int .i64 i) := by unfold Den; rfl
theorem resNorm_ok (b : Bok) (c : Cor) (n : Int) : (okC (resNorm b c n).1 = true ∨ (resNorm b c n).1 = zeroC) ∧ (resNorm b c n).2.1.length ≤ 4 := by
  unfold resNorm
  cases h : stOk b c with
  | false => exact ⟨Or.inr rfl, by show ([] : List Int).length ≤ 4; simp⟩
  | true =>
    cases inC n 0 2000 with
    | false => exact ⟨Or.inr rfl, by show ([] : List Int).length ≤ 4; simp⟩
    | true =>
      have := norm_cnt n.toNat b c [0, 0, 0, 0] h
      refine ⟨this.1, ?_⟩
      show (normR n.toNat b c [0, 0, 0, 0]).2.1.length ≤ 4
      rcases this.2 with h | h
      · rw [h]; simp
      · rw [← h]; simp
section
variable (a0 : GBook) {p0 : List Nat} {u0 : List Value} (a1 : Cor) {p1 : List Nat} {u1 : List Value} (a2 : Int) (r0 : Cor) (r1 : List Int) (r2 : Int)
theorem normalizeS_any (hR : (r0, r1, r2) = normalize a0 a1 a2) (w : World) (h0 : TN w a0.enc p0 u0) (h1 : TN w (GCore.enc a1) p1 u1) (hs : a0.wt + GCore.wt a1 ≤ 1048576) :
    Calls Tryz.prog 16 #[.agg u0.toArray, .agg u1.toArray, .int .i64 a2] w fun e w' => ∃ (v0 : List Value) (q0 : List Nat) (B1 : Option Addr) (d1 : Nat) (q1 : List Nat), e = .returned (.tuple #[.agg v0.toArray, .slice B1 r1.length d1, .int .i64 r2]) ∧ Ext w w' ∧ TN w' (GCore.enc r0) q0 v0 ∧ T1 w' (.sl r1.length (r1.flatMap intE)) q1 (.slice B1 r1.length d1) ∧ Own w.heap.size w' (q0 ++ q1) := by
  have e1 : r0 = (resNorm a0.defs a1 a2).1 := congrArg Prod.fst hR
  have e2 : r1 = (resNorm a0.defs a1 a2).2.1 := congrArg (fun p => p.2.1) hR
  have e3 : r2 = (resNorm a0.defs a1 a2).2.2 := congrArg (fun p => p.2.2) hR
  subst e1 e2 e3
  exact nres_any (vs := [.agg u0.toArray, .agg u1.toArray, .int .i64 a2]) (noCS a0.defs a1 a2 (book_siz (by omega))) (fun _ => dens_cons (den_book h0) (dens_cons (den_core h1) (dens_cons (den_int64 _) dens_nil)))
theorem normalizeI_any (hR : (r0, r1, r2) = normalize a0 a1 a2) (w : World) (h0 : TN w a0.enc p0 u0) (h1 : TN w (GCore.enc a1) p1 u1) (hs : a0.wt + GCore.wt a1 ≤ 1048576) :
    Calls Tryz.prog 17 #[.agg u0.toArray, .agg u1.toArray, .int .i64 a2] w fun e w' => ∃ (v0 : List Value) (q0 : List Nat) (B1 : Option Addr) (d1 : Nat) (q1 : List Nat), e = .returned (.tuple #[.agg v0.toArray, .slice B1 r1.length d1, .int .i64 r2]) ∧ Ext w w' ∧ TN w' (GCore.enc r0) q0 v0 ∧ T1 w' (.sl r1.length (r1.flatMap intE)) q1 (.slice B1 r1.length d1) ∧ Own w.heap.size w' (q0 ++ q1) := by
  have e1 : r0 = (resNorm a0.defs a1 a2).1 := congrArg Prod.fst hR
  have e2 : r1 = (resNorm a0.defs a1 a2).2.1 := congrArg (fun p => p.2.1) hR
  have e3 : r2 = (resNorm a0.defs a1 a2).2.2 := congrArg (fun p => p.2.2) hR
  subst e1 e2 e3
  exact nres_any (vs := [.agg u0.toArray, .agg u1.toArray, .int .i64 a2]) (noCI a0.defs a1 a2 (book_siz (by omega)) (core_siz (by omega))) (fun _ => dens_cons (den_book h0) (dens_cons (den_core h1) (dens_cons (den_int64 _) dens_nil)))
theorem normalize_small {Q0 Q1 : Prop} (hR : (r0, r1, r2) = normalize a0 a1 a2) (_ : Q0) (_ : Q1) : GCore.cnt r0 ≤ 1099511627776 ∧ cN (r1.flatMap intE) ≤ 1099511627776 := by
  have e1 : r0 = (resNorm a0.defs a1 a2).1 := congrArg Prod.fst hR
  have e2 : r1 = (resNorm a0.defs a1 a2).2.1 := congrArg (fun p => p.2.1) hR
  subst e1 e2
  have := resNorm_ok a0.defs a1 a2
  refine ⟨core_cnt this.1, ?_⟩
  rw [cN_ints]
  omega
end
end Go.Proofs.YtieemijapiiiiaaGreat
