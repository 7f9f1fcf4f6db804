/- Data of one call's own: appending slices, rows that grow by elements with slices of their own, private variables. No program in it. -/
import Derived.Test.YthciaodffkbljaaGreatSel
import Derived.Test.YthciaodffkbljaaGreatTail
import Derived.Maps.AppendAt
set_option linter.unusedSimpArgs false
set_option linter.unusedVariables false
namespace Go.Tr
open Go Go.RowKit
section
variable {P : Program} {w : World}

/-- The slice of address A reads as the cells us, s of them an element. -/
structure Src (w : World) (s : Nat) (A : Option Addr) (m : Nat) (us : List Value) : Prop where
  len : us.length = m * s
  at_ : 0 < m → ∃ ad, A = some ad ∧ ∀ j u, us[j]? = some u → w.cell? (ad.add j) = some u
  one : us.all (·.oneCell') = true
theorem T1.src {m m' c s : Nat} {ds : List D} {bs : List Nat} {A : Option Addr} (h : T1 w (.sl m ds) bs (.slice A m' c)) (hl : ds.length = m * s) : ∃ us bs', Src w s A m us ∧ TN w ds bs' us ∧ ∀ b ∈ bs', b ∈ bs := by
  unfold T1 at h
  obtain ⟨A', c', he, hn, hc, h⟩ := h
  injection he with hA hn' hc'
  subst hA
  rcases h with ⟨rfl, rfl, rfl⟩ | ⟨h0, b, off, us, bs', rfl, rfl, hb, hca, ht⟩
  · exact ⟨[], [], ⟨by simp, by omega, rfl⟩, TN.done, by simp⟩
  · refine ⟨us, bs', ⟨by rw [ht.length, hl], fun _ => ⟨_, rfl, fun j u hu => ?_⟩, ht.oneC⟩, ht, fun b hb => by simp [hb]⟩
    have hadd : (⟨b, off, none⟩ : Addr).add j = ⟨b, off + j, none⟩ := by unfold Addr.add; split <;> simp_all
    rw [hadd]
    exact hca j u hu
theorem Src.ext {s m : Nat} {A : Option Addr} {us : List Value} (h : Src w s A m us) {w' : World} (h1 : ∀ a v, w.cell? a = some v → w'.cell? a = some v) : Src w' s A m us :=
  ⟨h.len, fun h0 => by obtain ⟨ad, h2, h3⟩ := h.at_ h0; exact ⟨ad, h2, fun j u hu => h1 _ _ (h3 j u hu)⟩, h.one⟩
theorem run_app_nil (base : Nat) (t ty e : TypeId) (i : TypeInfo) (s : Nat) (ht : P.underlying t = some (.slice e)) (hi : P.info? e = some i)
    (v : Value) (n : Nat) (xs : List Value) (hown : w.ownsRow base e s v n xs) (c : Nat) : (Builtin.append_ #[t, t] ty #[v, .slice none 0 c]).run P w = .ok v w := by
  rcases hown.2 with ⟨rfl, rfl⟩ | ⟨g, cap, cur, rfl, _, _, hnc, _⟩
  · simp [Builtin.append_, run_underlying ht, sizeOf, typeInfo, hi, Builtin.lenOf, Builtin.firstCells]
  · simp [Builtin.append_, run_underlying ht, sizeOf, typeInfo, hi, Builtin.lenOf, Builtin.firstCells, hnc, storeCells]
theorem grownBy_refl (w : World) (row : Option Nat) : w.grownBy w row := ⟨rfl, rfl, rfl, Nat.le_refl _, fun _ _ _ => rfl⟩
theorem run_app_src {t ty e : TypeId} {s : Nat} (hE : ElemOk P t e s) (base : Nat) (v : Value) (n : Nat) (xs : List Value) (hown : w.ownsRow base e s v n xs) (A : Option Addr) (m c : Nat) (us : List Value) (hs : Src w s A m us)
    (hb : n + m ≤ 1073741824) (hbase : base ≤ w.heap.size) :
    ∃ v' w', (Builtin.append_ #[t, t] ty #[v, .slice A m c]).run P w = .ok v' w' ∧ w'.ownsRow base e s v' (n + m) (xs ++ us) ∧ w.grownBy w' v.ownBlock ∧ (v'.ownBlock = v.ownBlock ∨ v'.ownBlock = some w.heap.size) ∧ (v' = .slice none 0 0 → us = []) := by
  obtain ⟨i, z, hi, hz, hsz, hzs, hby⟩ := hE.i
  rcases Nat.eq_zero_or_pos m with h0 | h0
  · subst h0
    have hn : us = [] := List.eq_nil_of_length_eq_zero (by simpa using hs.len)
    subst hn
    rcases A with _ | ad
    · exact ⟨v, w, run_app_nil base t ty e i s hE.u hi v n xs hown c, by simpa using hown, grownBy_refl w _, .inl rfl, fun _ => rfl⟩
    · obtain ⟨v', w', hrun, h2, h3, _, h5⟩ := run_append_own_at (P := P) w base t ty e i z s i.bytes hE.u hi hz hsz rfl hzs hE.p v n xs hown ad 0 c [] (by simp) (by simp) (by simp) (by unfold maxLen; omega) (by
        have := Nat.mul_le_mul hb hby
        have h2 : (1073741824 : Nat) * 1000 ≤ 140737488355328 := by omega
        exact Nat.le_trans this h2) hbase
      exact ⟨v', w', hrun, h2, h3, h5, fun _ => rfl⟩
  · obtain ⟨ad, rfl, hc⟩ := hs.at_ h0
    obtain ⟨v', w', hrun, h2, h3, h4, h5⟩ := run_append_own_at (P := P) w base t ty e i z s i.bytes hE.u hi hz hsz rfl hzs hE.p v n xs hown ad m c us hs.len hc (List.all_eq_true.1 hs.one) (by unfold maxLen; omega) (by
        have := Nat.mul_le_mul hb hby
        have h2 : (1073741824 : Nat) * 1000 ≤ 140737488355328 := by omega
        exact Nat.le_trans this h2) hbase
    exact ⟨v', w', hrun, h2, h3, h5, fun h => by have := (h4.1 h).2; omega⟩
/-- A row of the call's own whose elements have slices of their own. -/
structure GR (lo : Nat) (w : World) (t : TypeId) (s : Nat) (v : Value) (n : Nat) (ds : List D) (bs : List Nat) (us : List Value) : Prop where
  row : w.ownsRow lo t s v n us
  tn : TN w ds bs us
  own : Own lo w bs
  out : ∀ k, v.ownBlock = some k → k ∉ bs
theorem GR.nil (lo : Nat) (w : World) (t : TypeId) (s : Nat) : GR lo w t s (.slice none 0 0) 0 [] [] [] := ⟨World.ownsRow_nil _ _ _ _, TN.done, Own.nil _ _, by simp⟩
theorem GR.made {lo : Nat} {w : World} {t : TypeId} {s cap : Nat} (cur : Array Value) (hb : lo ≤ w.heap.size) (hm : cap ≤ maxLen) (hs : cur.size = cap * s) : GR lo (w.alloc (.cells cur t)) t s (.slice (some ⟨w.heap.size, 0, none⟩) 0 cap) 0 [] [] [] :=
  ⟨World.ownsRow_made _ _ _ hb hm hs, TN.done, Own.nil _ _, by simp⟩
theorem GR.of_row {lo g cap s : Nat} {w : World} {t : TypeId} {cur : Array Value} (h : w.heap[g]? = some (.cells cur t (0, 0))) (hb : lo ≤ g) (hm : cap ≤ maxLen) (hs : cur.size = cap * s) : GR lo w t s (.slice (some ⟨g, 0, none⟩) 0 cap) 0 [] [] [] :=
  ⟨⟨by simp, .inr ⟨g, cap, cur, rfl, hb, h, Nat.zero_le _, hm, hs, by simp⟩⟩, TN.done, Own.nil _ _, by simp⟩
theorem Src.row {s m g : Nat} {w : World} {us : List Value} {t : TypeId} (h : w.heap[g]? = some (.cells us.toArray t (0, 0))) (hl : us.length = m * s) (h1 : us.all (·.oneCell') = true) : Src w s (some ⟨g, 0, none⟩) m us :=
  ⟨hl, fun _ => ⟨_, rfl, fun j u hu => by
    have hadd : (⟨g, 0, none⟩ : Addr).add j = ⟨g, j, none⟩ := by unfold Addr.add; split <;> simp_all
    rw [hadd, cell_of_row w g j us.toArray t (0, 0) h]
    simpa using hu⟩, h1⟩
theorem own_slice {base : Nat} {e : TypeId} {s : Nat} {v : Value} {n : Nat} {xs : List Value} {w : World} (h : w.ownsRow base e s v n xs) : ∃ A c, v = .slice A n c := by
  rcases h.2 with ⟨rfl, rfl⟩ | ⟨g, cap, cur, rfl, _⟩
  · exact ⟨_, _, rfl⟩
  · exact ⟨_, _, rfl⟩
theorem GR.ext {lo t s v n ds bs us} (h : GR lo w t s v n ds bs us) {w1 : World} (h1 : Ext w w1) : GR lo w1 t s v n ds bs us := ⟨ownsRow_ext h.row h1, h.tn.below h1, h.own.below h1, h.out⟩
theorem ownsRow_keep {base : Nat} {e : TypeId} {s : Nat} {v : Value} {n : Nat} {xs : List Value} (h : w.ownsRow base e s v n xs) {w1 : World} (h1 : ∀ k, v.ownBlock = some k → w1.heap[k]? = w.heap[k]?) : w1.ownsRow base e s v n xs := by
  refine ⟨h.1, ?_⟩
  rcases h.2 with hn | ⟨g, cap, cur, rfl, hb, hgg, rest⟩
  · exact .inl hn
  · exact .inr ⟨g, cap, cur, rfl, hb, (h1 g rfl).trans hgg, rest⟩
/-- Where a grown row lies. -/
theorem GR.but {lo t s v n ds bs us g} (h : GR lo w t s v n ds bs us) {w1 : World} (h1 : But g w w1) (hg : g ∉ bs) (hr : ∀ k, v.ownBlock = some k → k ≠ g) : GR lo w1 t s v n ds bs us :=
  ⟨ownsRow_keep h.row fun k hk => h1.block k (h.row.lt k hk).2 (hr k hk), h.tn.but h1 hg, h.own.but h1 hg, h.out⟩
/-- Elements that lie apart are appended. -/
theorem GR.app {lo t s v n ds bs us} (h : GR lo w t s v n ds bs us) {m : Nat} {es : List D} {cs : List Nat} {vs : List Value} (hes : TN w es cs vs) (hcs : Own lo w cs) (hd : ∀ y ∈ bs, y ∉ cs) (hr : ∀ k, v.ownBlock = some k → k ∉ cs)
    {v' : Value} {w' : World} (h1 : w'.ownsRow lo t s v' (n + m) (us ++ vs)) (h2 : w.grownBy w' v.ownBlock) (h3 : v'.ownBlock = v.ownBlock ∨ v'.ownBlock = some w.heap.size) : GR lo w' t s v' (n + m) (ds ++ es) (bs ++ cs) (us ++ vs) := by
  have kb : ∀ b, b < w.heap.size → (∀ k, v.ownBlock = some k → k ≠ b) → w'.heap[b]? = w.heap[b]? := fun b hb hn => h2.block b hb (fun e => hn b e.symm rfl)
  have k1 : Keeps w w' bs := ⟨h2.size, fun b hb => kb b (h.tn.lt b hb) (fun k hk e => h.out k hk (e ▸ hb))⟩
  have k2 : Keeps w w' cs := ⟨h2.size, fun b hb => kb b (hes.lt b hb) (fun k hk e => hr k hk (e ▸ hb))⟩
  have o1 : Own lo w' bs := ⟨h.own.1, fun b hb => ⟨(h.own.2 b hb).1, by obtain ⟨_, cur, t', hh⟩ := h.own.2 b hb; exact ⟨cur, t', (k1.2 b hb).trans hh⟩⟩⟩
  have o2 : Own lo w' cs := ⟨hcs.1, fun b hb => ⟨(hcs.2 b hb).1, by obtain ⟨_, cur, t', hh⟩ := hcs.2 b hb; exact ⟨cur, t', (k2.2 b hb).trans hh⟩⟩⟩
  refine ⟨h1, TN.append.2 ⟨bs, cs, us, vs, rfl, rfl, h.tn.keep k1, hes.keep k2⟩, Own.join o1 o2 hd, fun k hk => ?_⟩
  rw [List.mem_append]
  rcases h3 with e | e
  · rw [e] at hk
    exact fun hm => hm.elim (h.out k hk) (hr k hk)
  · rw [e] at hk
    injection hk with hk
    subst hk
    exact fun hm => by rcases hm with hm | hm
                       · have := h.tn.lt _ hm; omega
                       · have := hes.lt _ hm; omega
/-- As a result. -/
theorem GR.res {lo t s v n ds bs us} (h : GR lo w t s v n ds bs us) (hl : ds.length = n * s) : ∃ A c bs', v = .slice A n c ∧ T1 w (.sl n ds) bs' (.slice A n c) ∧ Own lo w bs' := by
  rcases h.row.2 with ⟨rfl, rfl⟩ | ⟨g, cap, cur, rfl, hb, hgg, hnc, hcm, hcs, htk⟩
  · have hd : ds = [] := List.eq_nil_of_length_eq_zero (by simpa using hl)
    subst hd
    exact ⟨none, 0, [], rfl, T1.empty none, Own.nil _ _⟩
  · rcases Nat.eq_zero_or_pos n with rfl | hn
    · have hd : ds = [] := List.eq_nil_of_length_eq_zero (by simpa using hl)
      subst hd
      refine ⟨some ⟨g, 0, none⟩, cap, [], rfl, ?_, Own.nil _ _⟩
      unfold T1
      exact ⟨_, _, rfl, hnc, hcm, .inl ⟨rfl, rfl, rfl⟩⟩
    · have hgb : g ∉ bs := h.out g rfl
      refine ⟨some ⟨g, 0, none⟩, cap, g :: bs, rfl, ?_, ⟨List.nodup_cons.2 ⟨hgb, h.own.1⟩, fun b hb' => ?_⟩⟩
      · unfold T1
        refine ⟨_, _, rfl, hnc, hcm, .inr ⟨hn, g, 0, us, bs, rfl, rfl, lt_of_row hgg, fun j u hu => ?_, h.tn⟩⟩
        rw [Nat.zero_add, cell_of_row w g j cur t (0, 0) hgg]
        rw [← htk, List.getElem?_take] at hu
        split at hu
        · simpa using hu
        · cases hu
      · rcases List.mem_cons.1 hb' with rfl | hb'
        · exact ⟨hb, cur, t, hgg⟩
        · exact h.own.2 b hb'
theorem GR.lt {lo t s v n ds bs us} (h : GR lo w t s v n ds bs us) : ∀ k, v.ownBlock = some k → lo ≤ k ∧ k < w.heap.size := fun k hk => h.row.lt k hk

def rowL (v : Value) : List Nat := match v.ownBlock with | some k => [k] | none => []
theorem mem_rowL {v : Value} {k : Nat} : k ∈ rowL v ↔ v.ownBlock = some k := by
  unfold rowL
  cases v.ownBlock <;> simp [eq_comm]
/-- Of the old blocks only those of cs may have changed. -/
structure Chg (cs : List Nat) (w w' : World) : Prop where
  os : w'.os = w.os
  tape : w'.tape = w.tape
  output : w'.output = w.output
  size : w.heap.size ≤ w'.heap.size
  other : ∀ b, b < w.heap.size → b ∉ cs → w'.heap[b]? = w.heap[b]?
theorem Onl.chg {cs : List Nat} {w w' : World} (h : Onl cs w w') : Chg cs w w' := ⟨h.os, h.tape, h.output, h.size, h.other⟩
theorem Chg.refl (cs : List Nat) (w : World) : Chg cs w w := ⟨rfl, rfl, rfl, Nat.le_refl _, fun _ _ _ => rfl⟩
theorem Chg.of_ext {cs : List Nat} {w w' : World} (h : Ext w w') : Chg cs w w' := ⟨h.os, h.tape, h.output, h.size, fun b hl _ => h.block b hl⟩
theorem Chg.trans {cs : List Nat} {a b c : World} (h : Chg cs a b) (k : Chg cs b c) : Chg cs a c :=
  ⟨k.os.trans h.os, k.tape.trans h.tape, k.output.trans h.output, Nat.le_trans h.size k.size, fun i hs hi => (k.other i (Nat.lt_of_lt_of_le hs h.size) hi).trans (h.other i hs hi)⟩
theorem Chg.below {B : Nat} {cs : List Nat} {w w' : World} (h : Chg cs w w') (hB : B ≤ w.heap.size) (hb : ∀ b ∈ cs, B ≤ b) : Below B w w' :=
  ⟨h.os, h.tape, h.output, h.size, fun k hk => h.other k (by omega) (fun hc => by have := hb k hc; omega)⟩
theorem Chg.grown {w w' : World} {v : Value} {L : List Nat} (h : w.grownBy w' v.ownBlock) (hL : ∀ k, v.ownBlock = some k → k ∈ L) : Chg L w w' := ⟨h.os, h.tape, h.output, h.size, fun b hl hn => h.block b hl (fun e => hn (hL b e.symm))⟩
theorem Kn.chg {w w' : World} {b o : Nat} {v : Value} (h : Kn w b o v) (e : ExtOf w) {bs : List Nat} (hf : Chg bs e.to w') (hb : b < w.heap.size) (hn : b ∉ bs) : Kn w' b o v := fun e' => by
  have h1 := h e
  rw [← h1, ExtOf.cell e' b o (Nat.lt_of_lt_of_le (Nat.lt_of_lt_of_le hb e.h.size) hf.size)]
  exact World.cell?_of_block (hf.other b (Nat.lt_of_lt_of_le hb e.h.size) hn)
theorem T1.chg {bs : List Nat} {w w' : World} {d cs u} (h : T1 w d cs u) (ho : Chg bs w w') (hd : ∀ b ∈ cs, b ∉ bs) : T1 w' d cs u := h.keep ⟨ho.size, fun b hb => ho.other b (h.lt b hb) (hd b hb)⟩
theorem TN.chg {bs : List Nat} {w w' : World} {d cs u} (h : TN w d cs u) (ho : Chg bs w w') (hd : ∀ b ∈ cs, b ∉ bs) : TN w' d cs u := h.keep ⟨ho.size, fun b hb => ho.other b (h.lt b hb) (hd b hb)⟩
theorem Own.chg {lo : Nat} {bs cs : List Nat} {w w' : World} (h : Own lo w bs) (ho : Chg cs w w') (hd : ∀ b ∈ bs, b ∉ cs) : Own lo w' bs :=
  ⟨h.1, fun b hb => ⟨(h.2 b hb).1, by obtain ⟨_, cur, t, h2⟩ := h.2 b hb; exact ⟨cur, t, (ho.other b (lt_of_row h2) (hd b hb)).trans h2⟩⟩⟩
theorem PtAt.chg {b o : Nat} {ds bs} (h : PtAt w b o ds bs) {w' : World} {cs : List Nat} (hf : Chg cs w w') (hn : b ∉ cs) (hd : ∀ y ∈ bs, y ∉ cs) : PtAt w' b o ds bs := by
  obtain ⟨hlt, us, hc, ht⟩ := h
  exact ⟨Nat.lt_of_lt_of_le hlt hf.size, us, hc.keep (hf.other b hlt hn), ht.chg hf hd⟩
theorem GR.chg {lo t s v n ds bs us cs} (h : GR lo w t s v n ds bs us) {w1 : World} (hf : Chg cs w w1) (hd : ∀ b ∈ bs, b ∉ cs) (hr : ∀ k, v.ownBlock = some k → k ∉ cs) : GR lo w1 t s v n ds bs us :=
  ⟨ownsRow_keep h.row fun k hk => hf.other k (h.row.lt k hk).2 (hr k hk), h.tn.chg hf hd, h.own.chg hf hd, h.out⟩
/-- What one private variable's change leaves. -/
theorem Kn.but {b o g : Nat} {v : Value} (h : Kn w b o v) (e : ExtOf w) {w' : World} (hb : But g e.to w') (hl : b < w.heap.size) (hn : b ≠ g) : Kn w' b o v := fun e' => by
  have h1 := h e
  have h2 : b < e.to.heap.size := Nat.lt_of_lt_of_le hl e.h.size
  rw [← h1, ExtOf.cell e' b o (Nat.lt_of_lt_of_le h2 hb.size)]
  exact World.cell?_of_block (hb.block b h2 hn)
theorem PtAt.but {b o g : Nat} {ds bs} (h : PtAt w b o ds bs) {w' : World} (hb : But g w w') (hn : b ≠ g) (hg : g ∉ bs) : PtAt w' b o ds bs := by
  obtain ⟨hlt, us, hc, ht⟩ := h
  exact ⟨Nat.lt_of_lt_of_le hlt hb.size, us, hc.keep (hb.block b hlt hn), ht.but hb hg⟩
theorem PtAt.blt {b o : Nat} {ds bs} (h : PtAt w b o ds bs) : ∀ y ∈ bs, y < w.heap.size := fun y hy => by
  obtain ⟨_, us, _, ht⟩ := h
  exact ht.lt y hy
theorem PtAt.onl {b o : Nat} {ds bs} (h : PtAt w b o ds bs) {w' : World} {cs : List Nat} (hf : Onl cs w w') (hn : b ∉ cs) (hd : ∀ y ∈ bs, y ∉ cs) : PtAt w' b o ds bs := by
  obtain ⟨hlt, us, hc, ht⟩ := h
  exact ⟨Nat.lt_of_lt_of_le hlt hf.size, us, hc.keep (hf.other b hlt hn), ht.onl hf hd⟩
theorem TN.flat {ds : List D} {bs : List Nat} {us : List Value} (h : TN w ds bs us) (hf : ∀ d ∈ ds, ∃ x, d = .v x) : bs = [] ∧ ∀ w', TN w' ds [] us := by
  induction ds generalizing bs us with
  | nil => obtain ⟨rfl, rfl⟩ := TN.nil.1 h; exact ⟨rfl, fun _ => TN.done⟩
  | cons d ds ih =>
    obtain ⟨b1, b2, u, us', rfl, rfl, h1, h2⟩ := TN.cons.1 h
    obtain ⟨x, rfl⟩ := hf d (by simp)
    obtain ⟨rfl, rfl, h3⟩ := T1.v.1 h1
    obtain ⟨rfl, h4⟩ := ih h2 (fun d hd => hf d (by simp [hd]))
    exact ⟨rfl, fun w' => TN.v_mk h3 (h4 w')⟩
end
end Go.Tr
