/- Rules of code, of variables and rows that a call owns. No program in it. -/
import Derived.Test.YthciaodffkbljaaGreatFlow
import Derived.Lib.SliceRun
set_option linter.unusedSimpArgs false
set_option linter.unusedVariables false
namespace Go.Tr
open Go Go.RowKit
section
variable {P : Program} {ops : Array Oper} {Q Q' : Exit → Act → World → Prop} {a : Act} {w w' : World} {rest : List Oper} {n : Nat} {l : List (Nat × Value)} {v : Value} {d : Nat} {op : Op} {ty : TypeId} {pos : String} {aft : Array Edge} {next : Act → World → Prop} {id id' : Nat}
/-! results -/
def outS (tmps : Array Value) : ResultVar → Sem Value
  | .tmp t => pure (tmps.getD t undef)
  | .cell a t => do loadVar t (← asAddr (tmps.getD a undef))
theorem results_eq (fn : Func) (tmps : Array Value) : results fn tmps = (do let vs ← fn.results.mapM (outS tmps); pure (if h : vs.size = 1 then vs[0] else .tuple vs)) := by
  unfold results
  rfl
/-! ### things -/
variable {w0 : World} {F0 : List Nat} {rs rs' ss : List Res} {r r' : Res}
theorem Inv.weak (h : Inv w0 F0 w (r :: rs)) (k : ∀ F, r.p w F → ∃ F', (∀ b ∈ F', b ∈ F) ∧ r'.p w F') : Inv w0 F0 w (r' :: rs) := by
  obtain ⟨G, ⟨F, G', rfl, h1, h2, h3⟩, h4⟩ := h.sep
  obtain ⟨F', h5, h6⟩ := k F h1
  exact ⟨h.chg, F' ++ G', ⟨F', G', rfl, h6, h2, fun b hb => h3 b (h5 b hb)⟩, fun b hb => by
    rcases List.mem_append.1 hb with hb | hb
    · exact h4 b (by simp [h5 b hb])
    · exact h4 b (by simp [hb])⟩
/-- One thing taken apart into two. -/
theorem Inv.part {s : Res} (h : Inv w0 F0 w (r :: rs)) (k : ∀ F, r.p w F → ∃ F1 F2, (∀ b ∈ F1, b ∈ F) ∧ (∀ b ∈ F2, b ∈ F) ∧ (∀ b ∈ F1, b ∉ F2) ∧ r'.p w F1 ∧ s.p w F2) : Inv w0 F0 w (r' :: s :: rs) := by
  obtain ⟨G, ⟨F, G', rfl, h1, h2, h3⟩, h4⟩ := h.sep
  obtain ⟨F1, F2, k1, k2, k3, k4, k5⟩ := k F h1
  refine ⟨h.chg, F1 ++ (F2 ++ G'), ⟨F1, F2 ++ G', rfl, k4, ⟨F2, G', rfl, k5, h2, fun b hb => h3 b (k2 b hb)⟩, fun b hb hm => ?_⟩, fun b hb => ?_⟩
  · rcases List.mem_append.1 hm with hm | hm
    · exact k3 b hb hm
    · exact h3 b (k1 b hb) hm
  · simp only [List.mem_append] at hb
    rcases hb with hb | hb | hb
    · exact h4 b (by simp [k1 b hb])
    · exact h4 b (by simp [k2 b hb])
    · exact h4 b (by simp [hb])
/-- Two things put together. -/
theorem Inv.join {s : Res} (h : Inv w0 F0 w (r :: s :: rs)) (k : ∀ F1 F2, r.p w F1 → s.p w F2 → (∀ b ∈ F1, b ∉ F2) → ∃ F, (∀ b ∈ F, b ∈ F1 ∨ b ∈ F2) ∧ r'.p w F) : Inv w0 F0 w (r' :: rs) := by
  obtain ⟨G, ⟨F1, G', rfl, h1, ⟨F2, G2, rfl, h2, h3, h4⟩, h5⟩, h6⟩ := h.sep
  obtain ⟨F, k1, k2⟩ := k F1 F2 h1 h2 (fun b hb hm => h5 b hb (by simp [hm]))
  refine ⟨h.chg, F ++ G2, ⟨F, G2, rfl, k2, h3, fun b hb hm => ?_⟩, fun b hb => ?_⟩
  · rcases k1 b hb with hb | hb
    · exact h5 b hb (by simp [hm])
    · exact h4 b hb hm
  · rcases List.mem_append.1 hb with hb | hb
    · rcases k1 b hb with hb | hb
      · exact h6 b (by simp [hb])
      · exact h6 b (by simp [hb])
    · exact h6 b (by simp [hb])
theorem Inv.cellsAt (h : Inv w0 F0 w rs) (i : Nat) {b : Nat} {cs : List Value} {t : TypeId} (hr : rs[i]? = some (Cel b cs t)) : cellsAt w b 0 cs := fun j u hu => by
  rw [Nat.zero_add]; exact h.cell i hr hu
/-- A variable (number i) is written. -/
theorem Inv.put (h : Inv w0 F0 w rs) (i : Nat) {b o : Nat} {cs us cs' : List Value} {t : TypeId} (hr : rs[i]? = some (Cel b cs t)) (ho : Nat.ble (o + us.length) cs.length = true) (hcs : cs.take o ++ us ++ cs.drop (o + us.length) = cs') :
    Inv w0 F0 (w.setCells b o us) (rs.set i (Cel b cs' t)) := by
  subst hcs
  obtain ⟨h1, h2⟩ := setCells_row (us := us) (h.cel i hr) (by simpa using ho)
  exact (Inv.set (h.front i hr) ⟨_, h1, rfl⟩ h2).back i hr
/-- A call of a function value. -/
theorem r_callv {f : FuncId} {t : Operand} {xs : List Operand} {ts : Array TypeId} {vs cs : List Value} {dst : Option Nat} {g : Option (Nat × Bool)} (hc : a.eval t = .func (.func f) #[] cs.toArray) (hx : xs.map a.eval = vs) (hf : callOk P f = true) : (execOp a.eval ⟨dst, .call { callee := .value t, args := xs.toArray, argTypes := ts }, ty, pos, aft, g⟩).run P w = .ok (.enter f (vs ++ cs).toArray) w := by
  subst hx
  unfold callOk at hf
  cases hq : P.funcs[f]? with
  | none => rw [hq] at hf; simp at hf
  | some fn =>
    rw [hq] at hf
    simp only [Bool.and_eq_true, Bool.not_eq_true', beq_eq_false_iff_ne, ne_eq] at hf
    have hb : ¬ fn.body = none := by cases h : fn.body <;> simp_all
    simp [execOp, resolve, Deferred.ofValue, hc, invoke, callFunc, hq, hf.1, hb]
theorem Inv.take1 (h : Inv w0 F0 w (r :: rs)) : ∃ F, r.p w F ∧ (∀ r' F1, (∀ b ∈ F1, b ∈ F) → Res.p r' w F1 → Inv w0 F0 w (r' :: rs)) ∧
    ∀ r' s F1 F2, (∀ b ∈ F1, b ∈ F) → (∀ b ∈ F2, b ∈ F) → (∀ b ∈ F1, b ∉ F2) → Res.p r' w F1 → Res.p s w F2 → Inv w0 F0 w (r' :: s :: rs) := by
  obtain ⟨G, ⟨F, G', rfl, h1, h2, h3⟩, h4⟩ := h.sep
  refine ⟨F, h1, fun r' F1 k1 k2 => ?_, fun r' s F1 F2 k1 k2 k3 k4 k5 => ?_⟩
  · exact ⟨h.chg, F1 ++ G', ⟨F1, G', rfl, k2, h2, fun b hb => h3 b (k1 b hb)⟩, fun b hb => by
      rcases List.mem_append.1 hb with hb | hb
      · exact h4 b (by simp [k1 b hb])
      · exact h4 b (by simp [hb])⟩
  · refine ⟨h.chg, F1 ++ (F2 ++ G'), ⟨F1, F2 ++ G', rfl, k4, ⟨F2, G', rfl, k5, h2, fun b hb => h3 b (k2 b hb)⟩, fun b hb hm => ?_⟩, fun b hb => ?_⟩
    · rcases List.mem_append.1 hm with hm | hm
      · exact k3 b hb hm
      · exact h3 b (k1 b hb) hm
    · simp only [List.mem_append] at hb
      rcases hb with hb | hb | hb
      · exact h4 b (by simp [k1 b hb])
      · exact h4 b (by simp [k2 b hb])
      · exact h4 b (by simp [hb])
theorem Inv.add_emp (h : Inv w0 F0 w rs) (hp : r.p w []) : Inv w0 F0 w (r :: rs) := by
  obtain ⟨G, h1, h2⟩ := h.sep
  exact ⟨h.chg, G, ⟨[], G, rfl, hp, h1, by simp⟩, h2⟩
/-! cells with data -/
section
variable {us : List Value} {ds es : List D} {x u : Value} {m : Nat}
theorem Inv.mk_e (h : Inv w0 F0 w rs) : Inv w0 F0 w (DatN [] [] :: rs) := h.add_emp ⟨TN.done, Own.nil _ _⟩
theorem Inv.mk_v (h : Inv w0 F0 w (DatN us ds :: rs)) (hx : x.oneCell' = true) : Inv w0 F0 w (DatN (x :: us) (.v x :: ds) :: rs) := by
  obtain ⟨F, ⟨h1, h2⟩, h3, _⟩ := h.take1
  exact h3 _ F (fun _ h => h) ⟨TN.v_mk hx h1, h2⟩
theorem Inv.take2 {s : Res} (h : Inv w0 F0 w (r :: s :: rs)) : ∃ F1 F2, r.p w F1 ∧ s.p w F2 ∧ (∀ b ∈ F1, b ∉ F2) ∧ ∀ r' F, (∀ b ∈ F, b ∈ F1 ∨ b ∈ F2) → Res.p r' w F → Inv w0 F0 w (r' :: rs) := by
  obtain ⟨G, ⟨F1, G', rfl, h1, ⟨F2, G2, rfl, h2, h3, h4⟩, h5⟩, h6⟩ := h.sep
  refine ⟨F1, F2, h1, h2, fun b hb hm => h5 b hb (by simp [hm]), fun r' F k1 k2 => ⟨h.chg, F ++ G2, ⟨F, G2, rfl, k2, h3, fun b hb hm => ?_⟩, fun b hb => ?_⟩⟩
  · rcases k1 b hb with hb | hb
    · exact h5 b hb (by simp [hm])
    · exact h4 b hb hm
  · rcases List.mem_append.1 hb with hb | hb
    · rcases k1 b hb with hb | hb
      · exact h6 b (by simp [hb])
      · exact h6 b (by simp [hb])
    · exact h6 b (by simp [hb])
theorem Inv.mk_s (h : Inv w0 F0 w (Dat u m es :: DatN us ds :: rs)) : Inv w0 F0 w (DatN (u :: us) (.sl m es :: ds) :: rs) := by
  obtain ⟨F1, F2, ⟨h1, h2⟩, ⟨h3, h4⟩, h5, h6⟩ := h.take2
  exact h6 _ (F1 ++ F2) (fun b hb => List.mem_append.1 hb) ⟨TN.sl_mk h1 h3, Own.join h2 h4 h5⟩
theorem Inv.dat_nil (h : Inv w0 F0 w rs) : Inv w0 F0 w (Dat (.slice none 0 0) 0 [] :: rs) := h.add_emp ⟨T1.empty none, Own.nil _ _⟩
end
/-! rows that grow, opened at an element -/
/-- The row at b: its cells from k on are us, before and behind lies data of its own. -/
def Opn (b c : Nat) (t : TypeId) (s n : Nat) (ds1 : List D) (us : List Value) (ds2 : List D) : Res where
  p w F := ∃ cur u1 u2 b1 b2, F = b :: (b1 ++ b2) ∧ w.heap[b]? = some (.cells cur t (0, 0)) ∧ n ≤ c ∧ c ≤ maxLen ∧ cur.size = c * s ∧ cur.toList.take (n * s) = u1 ++ (us ++ u2) ∧ (u1 ++ (us ++ u2)).length = n * s ∧ TN w ds1 b1 u1 ∧ TN w ds2 b2 u2 ∧ Own 0 w (b1 ++ b2) ∧ b ∉ b1 ++ b2
  keep := fun ⟨cur, u1, u2, b1, b2, e, h1, h2, h3, h4, h5, h6, h7, h8, h9, h10⟩ k => by
    subst e
    refine ⟨cur, u1, u2, b1, b2, rfl, (k.2 b (by simp)).trans h1, h2, h3, h4, h5, h6, h7.keep (k.sub fun y hy => by simp [hy]), h8.keep (k.sub fun y hy => by simp [hy]), ⟨h9.1, fun y hy => ?_⟩, h10⟩
    obtain ⟨h0, cur, t, h11⟩ := h9.2 y hy
    exact ⟨h0, cur, t, (k.2 y (by simp at hy ⊢; exact .inr hy)).trans h11⟩
  lt := fun ⟨cur, u1, u2, b1, b2, e, h1, h2, h3, h4, h5, h6, h7, h8, h9, h10⟩ y hy => by
    subst e
    rcases List.mem_cons.1 hy with rfl | hy
    · exact lt_of_row h1
    · exact h9.lt y hy
section
variable {t : TypeId} {m : Nat}
theorem Inv.open_ {α : Type} {f : α → List D} {s : Nat} (hs : ∀ x, (f x).length = s) {xs : List α} (h : Inv w0 F0 w (Gr v t s m (xs.flatMap f) :: rs)) (hm : xs.length = m) {k : Nat} (hk : k < m) :
    ∃ b c x us, v = .slice (some ⟨b, 0, none⟩) m c ∧ m ≤ 9223372036854775807 ∧ xs[k]? = some x ∧ Inv w0 F0 w (Opn b c t s m ((xs.take k).flatMap f) us ((xs.drop (k + 1)).flatMap f) :: DatN us (f x) :: rs) := by
  obtain ⟨F, ⟨bs, us, rfl, hg⟩, _, h3⟩ := h.take1
  have hk' : k < xs.length := hm ▸ hk
  have hx : xs.flatMap f = (xs.take k).flatMap f ++ (f xs[k] ++ (xs.drop (k + 1)).flatMap f) := by
    conv => lhs; rw [← List.take_append_drop k xs, List.drop_eq_getElem_cons hk', List.flatMap_append, List.flatMap_cons]
  obtain ⟨⟨hl0, hrow⟩, htn, hown, hout⟩ := hg
  rcases hrow with ⟨_, hn⟩ | ⟨g, cap, cur, hv, hlo, hgg, hnc, hcm, hcs, htk⟩
  · omega
  subst hv
  rw [hx] at htn
  obtain ⟨b1, b', u1, u', rfl, rfl, t1, htn⟩ := TN.append.1 htn
  obtain ⟨b2, b3, u2, u3, rfl, rfl, t2, t3⟩ := TN.append.1 htn
  have hgb : g ∉ b1 ++ (b2 ++ b3) := hout g rfl
  have hnd := List.nodup_append.1 hown.1
  have hnd2 := List.nodup_append.1 hnd.2.1
  have hrl : rowL (.slice (some ⟨g, 0, none⟩) m cap) = [g] := rfl
  refine ⟨g, cap, xs[k], u2, rfl, by unfold maxLen at hcm; omega, List.getElem?_eq_getElem hk', h3 _ _ (g :: (b1 ++ b3)) b2 (fun y hy => ?_) (fun y hy => by rw [hrl]; simp [hy]) (fun y hy hm2 => ?_) ⟨cur, u1, u3, b1, b3, rfl, hgg, hnc, hcm, hcs, htk, hl0, t1, t3, ⟨List.nodup_append.2 ⟨hnd.1, hnd2.2.1, fun y hy z hz e => hnd.2.2 y hy z (by simp [hz]) e⟩, fun y hy => hown.2 y (by simp at hy ⊢; rcases hy with h | h <;> simp [h])⟩, fun hm2 => hgb (by simp at hm2 ⊢; rcases hm2 with h | h <;> simp [h])⟩ ⟨t2, hnd2.1, fun y hy => hown.2 y (by simp [hy])⟩⟩
  · rw [hrl]; simp at hy ⊢; rcases hy with h | h | h <;> simp [h]
  · rcases List.mem_cons.1 hy with rfl | hy
    · exact hgb (by simp [hm2])
    · rcases List.mem_append.1 hy with hy | hy
      · exact hnd.2.2 y hy y (by simp [hm2]) rfl
      · exact hnd2.2.2 y hm2 y hy rfl
theorem Inv.shut {b c s : Nat} {ds1 ds2 d : List D} {us : List Value} (h : Inv w0 F0 w (Opn b c t s m ds1 us ds2 :: DatN us d :: rs)) : Inv w0 F0 w (Gr (.slice (some ⟨b, 0, none⟩) m c) t s m (ds1 ++ (d ++ ds2)) :: rs) := by
  obtain ⟨F1, F2, ⟨cur, u1, u2, b1, b2, rfl, h1, h2, h3, h4, h5, h6, h7, h8, h9, h10⟩, ⟨k1, k2⟩, hd, hf⟩ := h.take2
  have hnd := List.nodup_append.1 h9.1
  refine hf _ (b :: (b1 ++ (F2 ++ b2))) (fun y hy => ?_) ⟨b1 ++ (F2 ++ b2), u1 ++ (us ++ u2), rfl, ⟨⟨h6, .inr ⟨b, c, cur, rfl, Nat.zero_le _, h1, h2, h3, h4, h5⟩⟩, TN.append.2 ⟨b1, _, u1, _, rfl, rfl, h7, TN.append.2 ⟨F2, b2, us, u2, rfl, rfl, k1, h8⟩⟩, ⟨?_, fun y hy => ?_⟩, fun g hg hm => ?_⟩⟩
  · simp at hy ⊢; rcases hy with h | h | h | h <;> simp [h]
  · refine List.nodup_append.2 ⟨hnd.1, List.nodup_append.2 ⟨k2.1, hnd.2.1, fun y hy z hz e => ?_⟩, fun y hy z hz e => ?_⟩
    · subst e; exact hd y (by simp [hz]) hy
    · subst e
      rcases List.mem_append.1 hz with hz | hz
      · exact hd y (by simp [hy]) hz
      · exact hnd.2.2 y hy y hz rfl
  · simp only [List.mem_append] at hy
    rcases hy with h | h | h
    · exact h9.2 y (by simp [h])
    · exact k2.2 y h
    · exact h9.2 y (by simp [h])
  · simp only [Value.ownBlock, Option.some.injEq] at hg
    subst hg
    simp only [List.mem_append] at hm
    rcases hm with h | h | h
    · exact h10 (by simp [h])
    · exact hd b (by simp) h
    · exact h10 (by simp [h])
theorem set_flat {α : Type} {f : α → List D} {xs : List α} {k : Nat} {y : α} (hk : k < xs.length) : (xs.take k).flatMap f ++ (f y ++ (xs.drop (k + 1)).flatMap f) = (xs.set k y).flatMap f := by
  rw [List.set_eq_take_append_cons_drop, if_pos hk, List.flatMap_append, List.flatMap_cons]
theorem Inv.opn_row {b c s : Nat} {ds1 ds2 : List D} {us : List Value} (h : Inv w0 F0 w rs) (i : Nat) (hr : rs[i]? = some (Opn b c t s m ds1 us ds2)) {k : Nat} (hl : ds1.length = k) : ∃ cur, w.heap[b]? = some (.cells cur t (0, 0)) ∧ k + us.length ≤ cur.size := by
  obtain ⟨F, cur, u1, u2, b1, b2, rfl, h1, h2, h3, h4, h5, h6, h7, h8, h9, h10⟩ := h.mem i hr
  have h11 := congrArg List.length h5
  have l1 := h7.length
  simp only [List.length_take, List.length_append, Array.length_toList] at h11
  exact ⟨cur, h1, by omega⟩
theorem Inv.opn_put {b c s : Nat} {ds1 ds2 : List D} {us vs us' : List Value} (h : Inv w0 F0 w rs) (i : Nat) (hr : rs[i]? = some (Opn b c t s m ds1 us ds2)) {k : Nat} (hl : ds1.length = k) {j : Nat} (hj : Nat.ble (j + vs.length) us.length = true) (hu : us.take j ++ vs ++ us.drop (j + vs.length) = us') :
    Inv w0 F0 (w.setCells b (k + j) vs) (rs.set i (Opn b c t s m ds1 us' ds2)) := by
  subst hu
  have hj' : j + vs.length ≤ us.length := by simpa using hj
  obtain ⟨F, h2, _, h4⟩ := Inv.frame (pre := [Opn b c t s m ds1 us ds2]) (rest := rs.eraseIdx i) (h.front i hr)
  obtain ⟨F1, G1, rfl, ⟨cur, u1, u2, b1, b2, rfl, k1, k2, k3, k4, k5, k6, k7, k8, k9, k10⟩, rfl, _⟩ := h2
  have l1 := k7.length
  have hsz : (cur.toList.take (m * s)).length = m * s := by rw [k5]; exact k6
  have hle : m * s ≤ cur.size := by simp only [List.length_take, Array.length_toList] at hsz; omega
  have hk6 := k6
  simp only [List.length_append] at hk6
  obtain ⟨h5, h6⟩ := setCells_row (us := vs) (cs := cur.toList) (o := k + j) (w := w) (b := b) (T := t) (by simpa using k1) (by simp only [Array.length_toList]; omega)
  have hkp : Keeps w (w.setCells b (k + j) vs) (b1 ++ b2) := ⟨h6.size, fun y hy => h6.other y (k9.lt y hy) (fun hm => by simp at hm; subst hm; exact k10 hy)⟩
  refine Inv.back i hr (h4 _ [_] ⟨⟨h6.os, h6.tape, h6.output, h6.size, fun y hy hn => h6.other y hy (fun hm => hn (by simp at hm; simp [hm]))⟩, _, ⟨_, [], rfl, ⟨(cur.toList.take (k + j) ++ vs ++ cur.toList.drop (k + j + vs.length)).toArray, u1, u2, b1, b2, rfl, h5, k2, k3, ?_, ?_, ?_, k7.keep (hkp.sub fun y hy => by simp [hy]), k8.keep (hkp.sub fun y hy => by simp [hy]), ⟨k9.1, fun y hy => ?_⟩, k10⟩, rfl, by simp⟩, fun y hy => .inl (by simpa using hy)⟩)
  · simp only [List.size_toArray, List.length_append, List.length_take, List.length_drop, Array.length_toList]; omega
  · simp only []
    have e1 : cur.toList.take (k + j) = u1 ++ us.take j := by
      have := congrArg (List.take (k + j)) k5
      rw [List.take_take, Nat.min_eq_left (by omega)] at this
      rw [this, List.take_append, List.take_of_length_le (by omega), l1, hl, Nat.add_sub_cancel_left, List.take_append_of_le_length (by omega)]
    apply List.ext_getElem?
    intro q
    by_cases hq : q < m * s
    · rw [List.getElem?_take, if_pos hq, e1]
      have hcq : cur.toList[q]? = (u1 ++ (us ++ u2))[q]? := by rw [← k5, List.getElem?_take, if_pos hq]
      simp only [List.getElem?_append, List.length_append, List.length_take, List.getElem?_drop, List.getElem?_take] at hcq ⊢
      grind
    · rw [List.getElem?_eq_none (by simp; omega), List.getElem?_eq_none (by simp; omega)]
  · simp only [List.length_append, List.length_take, List.length_drop] at hk6 ⊢; omega
  · obtain ⟨h0, cur2, t2, h11⟩ := k9.2 y hy
    exact ⟨h0, cur2, t2, (hkp.2 y hy).trans h11⟩
theorem pv {l : List (Nat × Operand)} {l' : List (Nat × Value)} (h : l.map (fun x => (x.1, a.eval x.2)) = l') : (l.toArray.map fun (i, x) => (i, a.eval x)) = l'.toArray := by subst h; simp
theorem wrap_succ {k : Nat} (h : k + 1 ≤ 9223372036854775807) : IntKind.i64.wrap ((k : Int) + 1) = ((k + 1 : Nat) : Int) := by rw [IntWalk.i64_in _ (by omega)]; rfl
theorem r_ext {x : Operand} {i : Nat} {vs : List Value} {dst : Option Nat} {g : Option (Nat × Bool)} (hx : a.eval x = .tuple vs.toArray) (hi : vs[i]? = some v) : (execOp a.eval ⟨dst, .extract x i, ty, pos, aft, g⟩).run P w = .ok (.value v) w := by
  simp [execOp, hx, Instr.extract, hi]
theorem r_mkf {f : FuncId} {xs : List Operand} {vs : List Value} {dst : Option Nat} {g : Option (Nat × Bool)} (hx : xs.map a.eval = vs) : (execOp a.eval ⟨dst, .makeFunc (.func f) #[] xs.toArray, ty, pos, aft, g⟩).run P w = .ok (.value (.func (.func f) #[] vs.toArray)) w := by
  subst hx; simp [execOp, Instr.makeFunc]
theorem r_pick_t {c x y : Operand} {dst : Option Nat} {g : Option (Nat × Bool)} (hc : a.eval c = .bool true) (hx : a.eval x = v) : (execOp a.eval ⟨dst, .pick c x y, ty, pos, aft, g⟩).run P w = .ok (.value v) w := by simp [execOp, hc, hx, asBool]
theorem r_pick_f {c x y : Operand} {dst : Option Nat} {g : Option (Nat × Bool)} (hc : a.eval c = .bool false) (hx : a.eval y = v) : (execOp a.eval ⟨dst, .pick c x y, ty, pos, aft, g⟩).run P w = .ok (.value v) w := by simp [execOp, hc, hx, asBool]
theorem Env.add {t : Nat} (h : Env n a l) (ht : a.tmps[t]? = some v) : Env n a ((t, v) :: l) :=
  ⟨h.size, h.defers, fun t' u hl' => by
    rw [List.lookup_cons] at hl'
    by_cases e : t' = t
    · subst e; simp at hl'; subst hl'; exact ht
    · have h1 : (t' == t) = false := by simpa using e
      rw [h1] at hl'; exact h.get t' u hl'⟩
section
variable {o : Oper} {K : Value → World → Prop}
theorem Gives.val (hw : Region.wanted o (yielded ops a.tmps) = true) (hr : (execOp a.eval o).run P w = .ok (.value v) w') (hK : K v w') : Gives P ops o a w K := .inl ⟨hw, .inl ⟨v, w', hr, hK⟩⟩
theorem Gives.call {f : FuncId} {args : Array Value} {R : Ending → World → Prop} (hw : Region.wanted o (yielded ops a.tmps) = true) (hr : (execOp a.eval o).run P w = .ok (.enter f args) w) (hc : Calls P f args w R) (hK : ∀ e w', R e w' → ∃ v, e = .returned v ∧ K v w') : Gives P ops o a w K :=
  .inl ⟨hw, .inr (.inr ⟨f, args, hr, hc.mono hK⟩)⟩
theorem Gives.no (hw : Region.wanted o (yielded ops a.tmps) = false) (hK : K undef w) : Gives P ops o a w K := .inr ⟨hw, hK⟩
end
/-! appending -/
theorem r_app {x y : Operand} {t : TypeId} {u v' : Value} {dst : Option Nat} {g : Option (Nat × Bool)} (hx : a.eval x = v) (hy : a.eval y = u) (hr : (Builtin.append_ #[t, t] ty #[v, u]).run P w = .ok v' w') :
    (execOp a.eval ⟨dst, .call { callee := .builtin .append, args := #[x, y], argTypes := #[t, t] }, ty, pos, aft, g⟩).run P w = .ok (.value v') w' := by
  simp [execOp, resolve, invoke, builtin, hx, hy, hr]
theorem Inv.gr_nil (h : Inv w0 F0 w rs) (t : TypeId) (s : Nat) : Inv w0 F0 w (Gr (.slice none 0 0) t s 0 [] :: rs) := h.add_emp ⟨[], [], rfl, GR.nil _ _ _ _⟩
theorem GR.resF {lo : Nat} {us : List Value} {s : Nat} {ds : List D} {bs : List Nat} (h : GR lo w t s v m ds bs us) (hl : ds.length = m * s) : ∃ A c bs', v = .slice A m c ∧ T1 w (.sl m ds) bs' (.slice A m c) ∧ Own lo w bs' ∧ ∀ b ∈ bs', b ∈ rowL v ++ bs := by
  rcases h.row.2 with ⟨rfl, rfl⟩ | ⟨g, cap, cur, rfl, hb, hgg, hnc, hcm, hcs, htk⟩
  · have hd : ds = [] := List.eq_nil_of_length_eq_zero (by simpa using hl)
    subst hd
    exact ⟨none, 0, [], rfl, T1.empty none, Own.nil _ _, by simp⟩
  · rcases Nat.eq_zero_or_pos m with rfl | hn
    · have hd : ds = [] := List.eq_nil_of_length_eq_zero (by simpa using hl)
      subst hd
      refine ⟨some ⟨g, 0, none⟩, cap, [], rfl, ?_, Own.nil _ _, by simp⟩
      unfold T1
      exact ⟨_, _, rfl, hnc, hcm, .inl ⟨rfl, rfl, rfl⟩⟩
    · have hgb : g ∉ bs := h.out g rfl
      refine ⟨some ⟨g, 0, none⟩, cap, g :: bs, rfl, ?_, ⟨List.nodup_cons.2 ⟨hgb, h.own.1⟩, fun b hb' => ?_⟩, fun b hb' => by simpa [rowL, Value.ownBlock] using hb'⟩
      · unfold T1
        refine ⟨_, _, rfl, hnc, hcm, .inr ⟨hn, g, 0, us, bs, rfl, rfl, lt_of_row hgg, fun j u hu => ?_, h.tn⟩⟩
        rw [Nat.zero_add, cell_of_row w g j cur t (0, 0) hgg]
        rw [← htk, List.getElem?_take] at hu
        split at hu
        · simpa using hu
        · cases hu
      · rcases List.mem_cons.1 hb' with rfl | hb'
        · exact ⟨hb, cur, t, hgg⟩
        · exact h.own.2 b hb'
theorem Inv.gr_dat {s : Nat} {ds : List D} (h : Inv w0 F0 w (Gr v t s m ds :: rs)) (hl : ds.length = m * s) : ∃ A c, v = .slice A m c ∧ Inv w0 F0 w (Dat (.slice A m c) m ds :: rs) := by
  obtain ⟨F, ⟨bs, us, rfl, hg⟩, h3, _⟩ := h.take1
  obtain ⟨A, c, bs', rfl, h1, h2, h5⟩ := hg.resF hl
  exact ⟨A, c, rfl, h3 _ bs' h5 ⟨h1, h2⟩⟩
theorem Inv.flat {us : List Value} (h : Inv w0 F0 w rs) (h1 : us.all (·.oneCell') = true) : Inv w0 F0 w (DatN us (us.map D.v) :: rs) := h.add_emp ⟨TN.scalars h1, Own.nil _ _⟩
theorem Inv.src {i g : Nat} {us : List Value} (h : Inv w0 F0 w rs) (hr : rs[i]? = some (Cel g us t)) {q s : Nat} (hl : Nat.beq us.length (q * s) = true) (h1 : us.all (·.oneCell') = true) : Src w s (some ⟨g, 0, none⟩) q us := Src.row (h.cel i hr) (by simpa using hl) h1
theorem take_len {α : Type} (f : α → List D) (s : Nat) (hs : ∀ x, (f x).length = s) {xs : List α} {k : Nat} (hk : k < xs.length) : ((xs.take k).flatMap f).length = k * s := by
  rw [flat_len f s hs, List.length_take, Nat.min_eq_left (Nat.le_of_lt hk)]
theorem Inv.shutL {α : Type} {f : α → List D} {b c s : Nat} {xs : List α} {us : List Value} {k : Nat} {y : α} (h : Inv w0 F0 w (Opn b c t s m ((xs.take k).flatMap f) us ((xs.drop (k + 1)).flatMap f) :: DatN us (f y) :: rs)) (hk : k < xs.length) : Inv w0 F0 w (Gr (.slice (some ⟨b, 0, none⟩) m c) t s m ((xs.set k y).flatMap f) :: rs) := by
  rw [← set_flat hk]; exact h.shut
/-- What a call leaves as its own, for one that does not look into things. -/
theorem Inv.res {us : List Value} {ds : List D} (h : Inv w0 [] w [DatN us ds]) : ∃ q, TN w ds q us ∧ Own w0.heap.size w q := by
  obtain ⟨G, ⟨F, G', rfl, ⟨h1, h2⟩, rfl, _⟩, h3⟩ := h.sep
  exact ⟨F, h1, h2.1, fun b hb => ⟨(h3 b (by simp [hb])).elim (fun h => by simp at h) id, (h2.2 b hb).2⟩⟩
/-- Data as raw cells, and what is in them. -/
theorem Ro1.raw {A : Option Addr} {n n' c s : Nat} {ds : List D} (h : Ro1 w0 F0 (.sl n ds) (.slice A n' c)) (hl : ds.length = n * s) : ∃ us : List Value, (us.map D.v).length = n * s ∧ Ro1 w0 F0 (.sl n (us.map D.v)) (.slice A n' c) ∧ RoN w0 F0 ds us := by
  obtain ⟨bs, h1, h2⟩ := h
  unfold T1 at h1
  obtain ⟨A', c', he, hn, hc, h1⟩ := h1
  rcases h1 with ⟨rfl, rfl, rfl⟩ | ⟨h0, b, off, us, bs', hA, rfl, hb, hca, ht⟩
  · refine ⟨[], by simp, ⟨[], ?_, by simp⟩, ⟨[], TN.done, by simp⟩⟩
    unfold T1
    exact ⟨A', c', he, hn, hc, .inl ⟨rfl, rfl, rfl⟩⟩
  · refine ⟨us, by rw [List.length_map, ht.length, hl], ⟨[b], ?_, fun y hy => ?_⟩, ⟨bs', ht, fun y hy => h2 y (by simp [hy])⟩⟩
    · unfold T1
      exact ⟨A', c', he, hn, hc, .inr ⟨h0, b, off, us, [], hA, rfl, hb, hca, TN.scalars ht.oneC⟩⟩
    · simp at hy; subst hy; exact h2 y (by simp)
theorem r_snil {x y : Operand} {tt e u : TypeId} {ad : Addr} {n' c : Nat} {dst : Option Nat} {g : Option (Nat × Bool)} (hx : a.eval x = .slice (some ad) n' c) (hy : a.eval y = .slice none 0 0) (ht : P.underlying tt = some (.slice e)) : (execOp a.eval ⟨dst, .binOp .eql tt x y u, ty, pos, aft, g⟩).run P w = .ok (.value (.bool false)) w := by
  have he : (eqGuard .eql tt x y (.slice (some ad) n' c) (.slice none 0 0)).run P w = .ok () w := by
    unfold eqGuard
    split <;> rfl
  simp [execOp, hx, hy, he, Go.Lib.run_eql_slice_nil w tt e (some ad) n' c 0 0 ht]
theorem r_nnil {x y : Operand} {tt e u : TypeId} {n' c : Nat} {dst : Option Nat} {g : Option (Nat × Bool)} (hx : a.eval x = .slice none n' c) (hy : a.eval y = .slice none 0 0) (ht : P.underlying tt = some (.slice e)) : (execOp a.eval ⟨dst, .binOp .eql tt x y u, ty, pos, aft, g⟩).run P w = .ok (.value (.bool true)) w := by
  have he : (eqGuard .eql tt x y (.slice none n' c) (.slice none 0 0)).run P w = .ok () w := by
    unfold eqGuard
    split <;> rfl
  simp [execOp, hx, hy, he, Go.Lib.run_eql_slice_nil w tt e none n' c 0 0 ht]
theorem RoC.at_ {F : List Nat} {b o : Nat} (h : RoC w0 F0 b o v) (hi : Inv w0 F0 w rs) (hF : ∀ b ∈ F, b ∈ F0 ∨ w0.heap.size ≤ b) : RoC w F b o v :=
  ⟨Nat.lt_of_lt_of_le h.1 hi.chg.size, fun hm => (hF b hm).elim h.2.1 (fun h2 => by have := h.1; omega), (World.cell?_of_block (hi.chg.other b h.1 h.2.1)).trans h.2.2⟩
theorem B1 (b : Bool) : (true && b) = b := rfl
theorem B2 (b : Bool) : (false && b) = false := rfl
theorem B3 (b : Bool) : (b && true) = b := by cases b <;> rfl
end
end
end Go.Tr
