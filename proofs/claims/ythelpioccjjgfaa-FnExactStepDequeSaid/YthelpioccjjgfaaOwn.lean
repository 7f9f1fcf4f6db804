/- Data of one call's own: appending slices, rows that grow by elements with slices of their own, private variables. No program in it. -/
import Derived.Test.YthelpioccjjgfaaSel
import Derived.Test.YthelpioccjjgfaaTail
import Derived.Maps.AppendAt
set_option linter.unusedSimpArgs false
set_option linter.unusedVariables false
namespace Go.Tr
open Go Go.RowKit
theorem make_cap {P : Program} {t e : TypeId} {s n : Nat} (h : (P.info? e).map (fun i => (i.zero.isSome, i.size, decide (i.bytes ≤ 100000000))) = some (true, s, true)) (hu : P.underlying t = some (.slice e)) (hn : n ≤ 1048576) :
    ∃ M : Array Value, M.size = n * s ∧ (∀ W : World, (Instr.makeSlice t (.int .i64 0) (.int .i64 n)).run P W = .ok (.slice (some ⟨W.heap.size, 0, none⟩) 0 n) (W.alloc (.cells M e))) := by
  obtain ⟨i0, z0, hi0, hz0, hz1, hz2⟩ := info_parts' h
  refine ⟨madeCells z0.cells (n * i0.size), by rw [size_madeCells, hz1], fun W => ?_⟩
  have := run_make (P := P) (w := W) t e i0 z0 hu hi0 hz0 .i64 .i64 0 n (by omega) (by omega) (bytes_fit hz2 hn) (by omega)
  simpa using this
section
variable {P : Program} {w : World}

/-- A struct of the call's own is the result; a slice. -/
def ResTN (ds : List D) (lo : Nat) (e : Ending) (w' : World) : Prop := ∃ vs q, e = .returned (.agg vs.toArray) ∧ TN w' ds q vs ∧ Own lo w' q
def ResT1 (n : Nat) (ds : List D) (lo : Nat) (e : Ending) (w' : World) : Prop := ∃ B d q, e = .returned (.slice B n d) ∧ T1 w' (.sl n ds) q (.slice B n d) ∧ Own lo w' q
/-- How a walk of a call ends that makes memory. -/
structure Fin (w : World) (R : Ending → World → Prop) (x : Ending) (w' : World) : Prop where
  ext : Ext w w'
  res : R x w'
theorem fin_start {f : FuncId} {args : Array Value} {R : Ending → World → Prop} (h : ∀ e : ExtOf w, Calls P f args e.to (Fin w R)) : Calls P f args w fun x w' => Ext w w' ∧ R x w' :=
  (h ⟨w, Below.refl _ _⟩).mono fun _ _ h => ⟨h.ext, h.res⟩
/-- The slice of address A reads as the cells us, s of them an element. -/
structure Src (w : World) (s : Nat) (A : Option Addr) (m : Nat) (us : List Value) : Prop where
  len : us.length = m * s
  at_ : 0 < m → ∃ ad, A = some ad ∧ ∀ j u, us[j]? = some u → w.cell? (ad.add j) = some u
  one : us.all (·.oneCell') = true
theorem T1.src {m m' c s : Nat} {ds : List D} {bs : List Nat} {A : Option Addr} (h : T1 w (.sl m ds) bs (.slice A m' c)) (hl : ds.length = m * s) : ∃ us bs', Src w s A m us ∧ TN w ds bs' us ∧ ∀ b ∈ bs', b ∈ bs := by
  unfold T1 at h
  obtain ⟨A', c', he, hn, hc, h⟩ := h
  injection he with hA hn' hc'
  subst hA
  rcases h with ⟨rfl, rfl, rfl⟩ | ⟨h0, b, off, us, bs', rfl, rfl, hb, hca, ht⟩
  · exact ⟨[], [], ⟨by simp, by omega, rfl⟩, TN.done, by simp⟩
  · refine ⟨us, bs', ⟨by rw [ht.length, hl], fun _ => ⟨_, rfl, fun j u hu => ?_⟩, ht.oneC⟩, ht, fun b hb => by simp [hb]⟩
    have hadd : (⟨b, off, none⟩ : Addr).add j = ⟨b, off + j, none⟩ := by unfold Addr.add; split <;> simp_all
    rw [hadd]
    exact hca j u hu
theorem Src.ext {s m : Nat} {A : Option Addr} {us : List Value} (h : Src w s A m us) {w' : World} (h1 : ∀ a v, w.cell? a = some v → w'.cell? a = some v) : Src w' s A m us :=
  ⟨h.len, fun h0 => by obtain ⟨ad, h2, h3⟩ := h.at_ h0; exact ⟨ad, h2, fun j u hu => h1 _ _ (h3 j u hu)⟩, h.one⟩
theorem run_app_nil (base : Nat) (t ty e : TypeId) (i : TypeInfo) (s : Nat) (ht : P.underlying t = some (.slice e)) (hi : P.info? e = some i)
    (v : Value) (n : Nat) (xs : List Value) (hown : w.ownsRow base e s v n xs) (c : Nat) : (Builtin.append_ #[t, t] ty #[v, .slice none 0 c]).run P w = .ok v w := by
  rcases hown.2 with ⟨rfl, rfl⟩ | ⟨g, cap, cur, rfl, _, _, hnc, _⟩
  · simp [Builtin.append_, run_underlying ht, sizeOf, typeInfo, hi, Builtin.lenOf, Builtin.firstCells]
  · simp [Builtin.append_, run_underlying ht, sizeOf, typeInfo, hi, Builtin.lenOf, Builtin.firstCells, hnc, storeCells]
theorem grownBy_refl (w : World) (row : Option Nat) : w.grownBy w row := ⟨rfl, rfl, rfl, Nat.le_refl _, fun _ _ _ => rfl⟩
theorem run_app_src {t ty e : TypeId} {s : Nat} (hE : ElemOk P t e s) (base : Nat) (v : Value) (n : Nat) (xs : List Value) (hown : w.ownsRow base e s v n xs) (A : Option Addr) (m c : Nat) (us : List Value) (hs : Src w s A m us)
    (hb : n + m ≤ 1073741824) (hbase : base ≤ w.heap.size) :
    ∃ v' w', (Builtin.append_ #[t, t] ty #[v, .slice A m c]).run P w = .ok v' w' ∧ w'.ownsRow base e s v' (n + m) (xs ++ us) ∧ w.grownBy w' v.ownBlock ∧ (v'.ownBlock = v.ownBlock ∨ v'.ownBlock = some w.heap.size) ∧ (v' = .slice none 0 0 → us = []) := by
  obtain ⟨i, z, hi, hz, hsz, hzs, hby⟩ := hE.i
  rcases Nat.eq_zero_or_pos m with h0 | h0
  · subst h0
    have hn : us = [] := List.eq_nil_of_length_eq_zero (by simpa using hs.len)
    subst hn
    rcases A with _ | ad
    · exact ⟨v, w, run_app_nil base t ty e i s hE.u hi v n xs hown c, by simpa using hown, grownBy_refl w _, .inl rfl, fun _ => rfl⟩
    · obtain ⟨v', w', hrun, h2, h3, _, h5⟩ := run_append_own_at (P := P) w base t ty e i z s i.bytes hE.u hi hz hsz rfl hzs hE.p v n xs hown ad 0 c [] (by simp) (by simp) (by simp) (by unfold maxLen; omega) (by
        have := Nat.mul_le_mul hb hby
        have h2 : (1073741824 : Nat) * 1000 ≤ 140737488355328 := by omega
        exact Nat.le_trans this h2) hbase
      exact ⟨v', w', hrun, h2, h3, h5, fun _ => rfl⟩
  · obtain ⟨ad, rfl, hc⟩ := hs.at_ h0
    obtain ⟨v', w', hrun, h2, h3, h4, h5⟩ := run_append_own_at (P := P) w base t ty e i z s i.bytes hE.u hi hz hsz rfl hzs hE.p v n xs hown ad m c us hs.len hc (List.all_eq_true.1 hs.one) (by unfold maxLen; omega) (by
        have := Nat.mul_le_mul hb hby
        have h2 : (1073741824 : Nat) * 1000 ≤ 140737488355328 := by omega
        exact Nat.le_trans this h2) hbase
    exact ⟨v', w', hrun, h2, h3, h5, fun h => by have := (h4.1 h).2; omega⟩
theorem wpList_app_src {ops : Array Oper} {rest : List Oper} {o : Oper} {a : Act} {Q : Exit → Act → World → Prop} (hgd : o.guard = none) (s x : Operand) (t : TypeId)
    (ho : o.op = .call { callee := .builtin .append, args := #[s, x], argTypes := #[t, t] }) {e sz : Nat} (hE : ElemOk P t e sz) (base : Nat) (v : Value) (n : Nat) (xs : List Value) (hs : a.eval s = v) (hown : w.ownsRow base e sz v n xs)
    (A : Option Addr) (m c : Nat) (us : List Value) (hx : a.eval x = .slice A m c) (hsrc : Src w sz A m us) (hb : n + m ≤ 1073741824) (hbase : base ≤ w.heap.size)
    (h : ∀ v' w', w'.ownsRow base e sz v' (n + m) (xs ++ us) → w.grownBy w' v.ownBlock → (v'.ownBlock = v.ownBlock ∨ v'.ownBlock = some w.heap.size) → wpList P ops Q rest (a.put o.dst v') w') : wpList P ops Q (o :: rest) a w :=
  wpList_plain hgd fun _ hK => by
    obtain ⟨v', w', hrun, h2, h3, h4, _⟩ := run_app_src (P := P) (ty := o.type) hE base v n xs hown A m c us hsrc hb hbase
    unfold Oper.wp execOp
    simp only [ho, resolve, invoke, builtin, Sem.run_bind, Sem.run_pure, Result.andThen_ok, List.map_toArray, List.map_cons, List.map_nil, hs, hx, hrun]
    exact hK _ _ (h v' w' h2 h3 h4)

/-- append to a new empty slice: nothing old is written. -/
theorem run_app_fresh {t ty e : TypeId} {s : Nat} (hE : ElemOk P t e s) (base g : Nat) (hg : w.heap[g]? = some (.cells #[] e (0, 0))) (A : Option Addr) (m c : Nat) (us : List Value) (hs : Src w s A m us) (hb : m ≤ 1073741824) (hbase : base ≤ g) :
    ∃ v' w', (Builtin.append_ #[t, t] ty #[.slice (some ⟨g, 0, none⟩) 0 0, .slice A m c]).run P w = .ok v' w' ∧ w'.ownsRow base e s v' m us ∧ Ext w w' ∧ (v'.ownBlock = some g ∨ v'.ownBlock = some w.heap.size) := by
  obtain ⟨i, z, hi, hz, hsz, hzs, hby⟩ := hE.i
  have hgl := lt_of_row hg
  have hown : w.ownsRow base e s (.slice (some ⟨g, 0, none⟩) 0 0) 0 [] := ⟨by simp, .inr ⟨g, 0, #[], rfl, hbase, hg, Nat.le_refl _, Nat.zero_le _, by simp, by simp⟩⟩
  obtain ⟨v', w', hrun, h2, h3, h4, h5⟩ := run_app_src (P := P) (ty := ty) hE base _ 0 [] hown A m c us hs (by omega) (by omega)
  simp only [Nat.zero_add, List.nil_append] at h2
  refine ⟨v', w', hrun, h2, ?_, h4⟩
  rcases Nat.eq_zero_or_pos m with h0 | h0
  · subst h0
    have hn : us = [] := List.eq_nil_of_length_eq_zero (by simpa using hs.len)
    subst hn
    rcases A with _ | ad
    · have := run_app_nil (P := P) base t ty e i s hE.u hi _ 0 [] hown c
      rw [this] at hrun
      injection hrun with _ hw
      subst hw
      exact Below.refl _ _
    · have := run_append_room (P := P) w t ty e i hE.u hi g 0 0 #[] hg ad 0 c [] (by simp) (by simp) (by simp) (by omega) (by simp)
      rw [this] at hrun
      injection hrun with _ hw
      subst hw
      refine ⟨rfl, rfl, rfl, by simp, fun k hk => ?_⟩
      by_cases hkg : k = g
      · subst hkg
        rw [setRow_heap w k #[] _ e _ hg, hg]
        simp
      · exact setRow_other w g k _ hkg
  · obtain ⟨ad, rfl, hc⟩ := hs.at_ h0
    have hbb : (0 + m) * i.bytes ≤ 140737488355328 := by
      have := Nat.mul_le_mul (show 0 + m ≤ 1073741824 by omega) hby
      have h2 : (1073741824 : Nat) * 1000 ≤ 140737488355328 := by omega
      exact Nat.le_trans this h2
    have := run_append_grow (P := P) w t ty e i z hE.u hi hz ⟨g, 0, none⟩ 0 0 [] (by simp) (by simp) ad m c us (by rw [hs.len, hsz]) hc (by omega) (by omega) (growslice_fits (by omega) hbb)
    rw [this] at hrun
    injection hrun with _ hw
    subst hw
    exact ⟨rfl, rfl, rfl, by simp, fun k hk => Below.heap_alloc w.drew _ k hk⟩
theorem wpList_app_fresh {ops : Array Oper} {rest : List Oper} {o : Oper} {a : Act} {Q : Exit → Act → World → Prop} (hgd : o.guard = none) (s x : Operand) (t : TypeId)
    (ho : o.op = .call { callee := .builtin .append, args := #[s, x], argTypes := #[t, t] }) {e sz : Nat} (hE : ElemOk P t e sz) (base g : Nat) (hs : a.eval s = .slice (some ⟨g, 0, none⟩) 0 0) (hg : w.heap[g]? = some (.cells #[] e (0, 0)))
    (A : Option Addr) (m c : Nat) (us : List Value) (hx : a.eval x = .slice A m c) (hsrc : Src w sz A m us) (hb : m ≤ 1073741824) (hbase : base ≤ g)
    (h : ∀ v' w', w'.ownsRow base e sz v' m us → Ext w w' → (v'.ownBlock = some g ∨ v'.ownBlock = some w.heap.size) → wpList P ops Q rest (a.put o.dst v') w') : wpList P ops Q (o :: rest) a w :=
  wpList_plain hgd fun _ hK => by
    obtain ⟨v', w', hrun, h2, h3, h4⟩ := run_app_fresh (P := P) (ty := o.type) hE base g hg A m c us hsrc hb hbase
    unfold Oper.wp execOp
    simp only [ho, resolve, invoke, builtin, Sem.run_bind, Sem.run_pure, Result.andThen_ok, List.map_toArray, List.map_cons, List.map_nil, hs, hx, hrun]
    exact hK _ _ (h v' w' h2 h3 h4)
/-- A block is made in a region before its first write of an old block. -/
theorem t1_box {Q : Exit → Act → World → Prop} {ops : Array Oper} {tail pv : List Nat} {N fuel : Nat} {listed : Array Bool} {a : Act} (hN : N ≤ w.heap.size) (e : ExtOf w) {g : Nat} (hg : e.to.heap.size = g) {cs : Array Value} {t : TypeId}
    (h : ∀ w1, Ext w w1 → w.heap.size ≤ g → g < w1.heap.size → w1.heap[g]? = some (.cells cs t (0, 0)) → wpT1 P ops Q tail N pv fuel listed a w1) : Below N e.to (e.to.alloc (.cells cs t)) ∧ wpT1 P ops Q tail N pv fuel listed a (e.to.alloc (.cells cs t)) := by
  subst hg
  exact ⟨(Below.refl _ _).alloc (Nat.le_trans hN e.h.size) _, h _ (e.h.alloc e.h.size _) e.h.size (by simp) (heap_alloc_new e.to _)⟩
/-- A row of the call's own whose elements have slices of their own. -/
structure GR (lo : Nat) (w : World) (t : TypeId) (s : Nat) (v : Value) (n : Nat) (ds : List D) (bs : List Nat) (us : List Value) : Prop where
  row : w.ownsRow lo t s v n us
  tn : TN w ds bs us
  own : Own lo w bs
  out : ∀ k, v.ownBlock = some k → k ∉ bs
theorem GR.nil (lo : Nat) (w : World) (t : TypeId) (s : Nat) : GR lo w t s (.slice none 0 0) 0 [] [] [] := ⟨World.ownsRow_nil _ _ _ _, TN.done, Own.nil _ _, by simp⟩
theorem GR.made {lo : Nat} {w : World} {t : TypeId} {s cap : Nat} (cur : Array Value) (hb : lo ≤ w.heap.size) (hm : cap ≤ maxLen) (hs : cur.size = cap * s) : GR lo (w.alloc (.cells cur t)) t s (.slice (some ⟨w.heap.size, 0, none⟩) 0 cap) 0 [] [] [] :=
  ⟨World.ownsRow_made _ _ _ hb hm hs, TN.done, Own.nil _ _, by simp⟩
theorem GR.of_row {lo g cap s : Nat} {w : World} {t : TypeId} {cur : Array Value} (h : w.heap[g]? = some (.cells cur t (0, 0))) (hb : lo ≤ g) (hm : cap ≤ maxLen) (hs : cur.size = cap * s) : GR lo w t s (.slice (some ⟨g, 0, none⟩) 0 cap) 0 [] [] [] :=
  ⟨⟨by simp, .inr ⟨g, cap, cur, rfl, hb, h, Nat.zero_le _, hm, hs, by simp⟩⟩, TN.done, Own.nil _ _, by simp⟩
theorem Src.row {s m g : Nat} {w : World} {us : List Value} {t : TypeId} (h : w.heap[g]? = some (.cells us.toArray t (0, 0))) (hl : us.length = m * s) (h1 : us.all (·.oneCell') = true) : Src w s (some ⟨g, 0, none⟩) m us :=
  ⟨hl, fun _ => ⟨_, rfl, fun j u hu => by
    have hadd : (⟨g, 0, none⟩ : Addr).add j = ⟨g, j, none⟩ := by unfold Addr.add; split <;> simp_all
    rw [hadd, cell_of_row w g j us.toArray t (0, 0) h]
    simpa using hu⟩, h1⟩
theorem row_grown {g : Nat} {w w' : World} {v : Value} {o : Obj} (h : w.heap[g]? = some o) (hg : w.grownBy w' v.ownBlock) (hn : ∀ k, v.ownBlock = some k → k ≠ g) : w'.heap[g]? = some o :=
  (hg.block g (lt_of_row h) (fun e => hn g e.symm rfl)).trans h
theorem own_slice {base : Nat} {e : TypeId} {s : Nat} {v : Value} {n : Nat} {xs : List Value} {w : World} (h : w.ownsRow base e s v n xs) : ∃ A c, v = .slice A n c := by
  rcases h.2 with ⟨rfl, rfl⟩ | ⟨g, cap, cur, rfl, _⟩
  · exact ⟨_, _, rfl⟩
  · exact ⟨_, _, rfl⟩
theorem own_new {v v' : Value} {x g : Nat} (h : v'.ownBlock = v.ownBlock ∨ v'.ownBlock = some x) (h1 : ∀ k, v.ownBlock = some k → k ≠ g) (h2 : x ≠ g) : ∀ k, v'.ownBlock = some k → k ≠ g := fun k hk => by
  rcases h with e | e
  · exact h1 k (e ▸ hk)
  · rw [e] at hk; injection hk with hk; omega
theorem GR.ext {lo t s v n ds bs us} (h : GR lo w t s v n ds bs us) {w1 : World} (h1 : Ext w w1) : GR lo w1 t s v n ds bs us := ⟨ownsRow_ext h.row h1, h.tn.below h1, h.own.below h1, h.out⟩
theorem ownsRow_keep {base : Nat} {e : TypeId} {s : Nat} {v : Value} {n : Nat} {xs : List Value} (h : w.ownsRow base e s v n xs) {w1 : World} (h1 : ∀ k, v.ownBlock = some k → w1.heap[k]? = w.heap[k]?) : w1.ownsRow base e s v n xs := by
  refine ⟨h.1, ?_⟩
  rcases h.2 with hn | ⟨g, cap, cur, rfl, hb, hgg, rest⟩
  · exact .inl hn
  · exact .inr ⟨g, cap, cur, rfl, hb, (h1 g rfl).trans hgg, rest⟩
/-- Where a grown row lies. -/
theorem GR.but {lo t s v n ds bs us g} (h : GR lo w t s v n ds bs us) {w1 : World} (h1 : But g w w1) (hg : g ∉ bs) (hr : ∀ k, v.ownBlock = some k → k ≠ g) : GR lo w1 t s v n ds bs us :=
  ⟨ownsRow_keep h.row fun k hk => h1.block k (h.row.lt k hk).2 (hr k hk), h.tn.but h1 hg, h.own.but h1 hg, h.out⟩
/-- Elements that lie apart are appended. -/
theorem GR.app {lo t s v n ds bs us} (h : GR lo w t s v n ds bs us) {m : Nat} {es : List D} {cs : List Nat} {vs : List Value} (hes : TN w es cs vs) (hcs : Own lo w cs) (hd : ∀ y ∈ bs, y ∉ cs) (hr : ∀ k, v.ownBlock = some k → k ∉ cs)
    {v' : Value} {w' : World} (h1 : w'.ownsRow lo t s v' (n + m) (us ++ vs)) (h2 : w.grownBy w' v.ownBlock) (h3 : v'.ownBlock = v.ownBlock ∨ v'.ownBlock = some w.heap.size) : GR lo w' t s v' (n + m) (ds ++ es) (bs ++ cs) (us ++ vs) := by
  have kb : ∀ b, b < w.heap.size → (∀ k, v.ownBlock = some k → k ≠ b) → w'.heap[b]? = w.heap[b]? := fun b hb hn => h2.block b hb (fun e => hn b e.symm rfl)
  have k1 : Keeps w w' bs := ⟨h2.size, fun b hb => kb b (h.tn.lt b hb) (fun k hk e => h.out k hk (e ▸ hb))⟩
  have k2 : Keeps w w' cs := ⟨h2.size, fun b hb => kb b (hes.lt b hb) (fun k hk e => hr k hk (e ▸ hb))⟩
  have o1 : Own lo w' bs := ⟨h.own.1, fun b hb => ⟨(h.own.2 b hb).1, by obtain ⟨_, cur, t', hh⟩ := h.own.2 b hb; exact ⟨cur, t', (k1.2 b hb).trans hh⟩⟩⟩
  have o2 : Own lo w' cs := ⟨hcs.1, fun b hb => ⟨(hcs.2 b hb).1, by obtain ⟨_, cur, t', hh⟩ := hcs.2 b hb; exact ⟨cur, t', (k2.2 b hb).trans hh⟩⟩⟩
  refine ⟨h1, TN.append.2 ⟨bs, cs, us, vs, rfl, rfl, h.tn.keep k1, hes.keep k2⟩, Own.join o1 o2 hd, fun k hk => ?_⟩
  rw [List.mem_append]
  rcases h3 with e | e
  · rw [e] at hk
    exact fun hm => hm.elim (h.out k hk) (hr k hk)
  · rw [e] at hk
    injection hk with hk
    subst hk
    exact fun hm => by rcases hm with hm | hm
                       · have := h.tn.lt _ hm; omega
                       · have := hes.lt _ hm; omega
/-- As a result. -/
theorem GR.res {lo t s v n ds bs us} (h : GR lo w t s v n ds bs us) (hl : ds.length = n * s) : ∃ A c bs', v = .slice A n c ∧ T1 w (.sl n ds) bs' (.slice A n c) ∧ Own lo w bs' := by
  rcases h.row.2 with ⟨rfl, rfl⟩ | ⟨g, cap, cur, rfl, hb, hgg, hnc, hcm, hcs, htk⟩
  · have hd : ds = [] := List.eq_nil_of_length_eq_zero (by simpa using hl)
    subst hd
    exact ⟨none, 0, [], rfl, T1.empty none, Own.nil _ _⟩
  · rcases Nat.eq_zero_or_pos n with rfl | hn
    · have hd : ds = [] := List.eq_nil_of_length_eq_zero (by simpa using hl)
      subst hd
      refine ⟨some ⟨g, 0, none⟩, cap, [], rfl, ?_, Own.nil _ _⟩
      unfold T1
      exact ⟨_, _, rfl, hnc, hcm, .inl ⟨rfl, rfl, rfl⟩⟩
    · have hgb : g ∉ bs := h.out g rfl
      refine ⟨some ⟨g, 0, none⟩, cap, g :: bs, rfl, ?_, ⟨List.nodup_cons.2 ⟨hgb, h.own.1⟩, fun b hb' => ?_⟩⟩
      · unfold T1
        refine ⟨_, _, rfl, hnc, hcm, .inr ⟨hn, g, 0, us, bs, rfl, rfl, lt_of_row hgg, fun j u hu => ?_, h.tn⟩⟩
        rw [Nat.zero_add, cell_of_row w g j cur t (0, 0) hgg]
        rw [← htk, List.getElem?_take] at hu
        split at hu
        · simpa using hu
        · cases hu
      · rcases List.mem_cons.1 hb' with rfl | hb'
        · exact ⟨hb, cur, t, hgg⟩
        · exact h.own.2 b hb'
theorem GR.lt {lo t s v n ds bs us} (h : GR lo w t s v n ds bs us) : ∀ k, v.ownBlock = some k → lo ≤ k ∧ k < w.heap.size := fun k hk => h.row.lt k hk

def rowL (v : Value) : List Nat := match v.ownBlock with | some k => [k] | none => []
theorem mem_rowL {v : Value} {k : Nat} : k ∈ rowL v ↔ v.ownBlock = some k := by
  unfold rowL
  cases v.ownBlock <;> simp [eq_comm]
/-- A new private variable. -/
theorem open_box1 {c : Code} {Q : Exit → Act → World → Prop} {a : Act} (e : ExtOf w) {g : Nat} (hg : e.to.heap.size = g) {cs : Array Value} {t : TypeId}
    (h : ∀ (w1 : World) (e1 : ExtOf w1), Ext w w1 → w.heap.size ≤ g → g < w1.heap.size → w1.heap[g]? = some (.cells cs t (0, 0)) → c.wp P Q a e1.to) : c.wp P Q a (e.to.alloc (.cells cs t)) := by
  subst hg
  exact h _ ⟨_, Below.refl _ _⟩ (e.h.alloc e.h.size _) e.h.size (by simp) (heap_alloc_new e.to _)
theorem open_boxes2 {c : Code} {Q : Exit → Act → World → Prop} {a : Act} (e : ExtOf w) {g g2 : Nat} (hg : e.to.heap.size = g) (hg2 : e.to.heap.size + 1 = g2) {cs cs2 : Array Value} {t t2 : TypeId}
    (h : ∀ (w1 : World) (e1 : ExtOf w1), Ext w w1 → w.heap.size ≤ g → g < g2 → g2 < w1.heap.size → w1.heap[g]? = some (.cells cs t (0, 0)) → w1.heap[g2]? = some (.cells cs2 t2 (0, 0)) → c.wp P Q a e1.to) : c.wp P Q a ((e.to.alloc (.cells cs t)).alloc (.cells cs2 t2)) := by
  subst hg hg2
  have h1 : Ext w ((e.to.alloc (.cells cs t)).alloc (.cells cs2 t2)) := (e.h.alloc e.h.size _).alloc (by have := e.h.size; simp; omega) _
  refine h ((e.to.alloc (.cells cs t)).alloc (.cells cs2 t2)) ⟨_, Below.refl _ _⟩ h1 e.h.size (by omega) (by simp) ?_ ?_
  · rw [Below.heap_alloc _ _ _ (by simp)]
    exact heap_alloc_new e.to _
  · have := heap_alloc_new (e.to.alloc (.cells cs t)) (.cells cs2 t2)
    rwa [show (e.to.alloc (.cells cs t)).heap.size = e.to.heap.size + 1 by simp] at this
theorem row_at {g : Nat} {o : Obj} (h : w.heap[g]? = some o) (e : ExtOf w) : e.to.heap[g]? = some o := (e.h.block g (lt_of_row h)).trans h
theorem row_kn {g : Nat} {cs : Array Value} {t : TypeId} (h : w.heap[g]? = some (.cells cs t (0, 0))) (i : Nat) {v : Value} (hi : cs[i]? = some v) : Kn w g i v := fun e => (cell_of_row e.to g i cs t (0, 0) (row_at h e)).trans hi
theorem row_fz {g : Nat} {cs : Array Value} {t : TypeId} (h : w.heap[g]? = some (.cells cs t (0, 0))) : ∀ (e : ExtOf w) (o : Nat), e.to.frozen? ⟨g, o, none⟩ = false := fun e o => fz_of_row (row_at h e) o
theorem row_ext {g : Nat} {o : Obj} (h : w.heap[g]? = some o) {w1 : World} (h1 : Ext w w1) : w1.heap[g]? = some o := (h1.block g (lt_of_row h)).trans h
theorem But.priv {g g' : Nat} {a b c : World} (h : But g a b) (k : But g' b c) (hg : a.heap.size ≤ g') : But g a c :=
  ⟨k.os.trans h.os, k.tape.trans h.tape, k.output.trans h.output, Nat.le_trans h.size k.size, fun i hi hn => (k.block i (Nat.lt_of_lt_of_le hi h.size) (by omega)).trans (h.block i hi hn)⟩
theorem Onl.priv {bs cs : List Nat} {a b c : World} (h : Onl bs a b) (k : Onl cs b c) (hc : ∀ y ∈ cs, a.heap.size ≤ y) : Onl bs a c :=
  ⟨k.os.trans h.os, k.tape.trans h.tape, k.output.trans h.output, Nat.le_trans h.size k.size, fun i hi hn => (k.other i (Nat.lt_of_lt_of_le hi h.size) (fun hm => by have := hc i hm; omega)).trans (h.other i hi hn),
    fun x cs' t hb => by obtain ⟨cs2, h'⟩ := h.row x cs' t hb; exact k.row x cs2 t h'⟩
/-- Of the old blocks only those of cs may have changed. -/
structure Chg (cs : List Nat) (w w' : World) : Prop where
  os : w'.os = w.os
  tape : w'.tape = w.tape
  output : w'.output = w.output
  size : w.heap.size ≤ w'.heap.size
  other : ∀ b, b < w.heap.size → b ∉ cs → w'.heap[b]? = w.heap[b]?
theorem Onl.chg {cs : List Nat} {w w' : World} (h : Onl cs w w') : Chg cs w w' := ⟨h.os, h.tape, h.output, h.size, h.other⟩
theorem Chg.refl (cs : List Nat) (w : World) : Chg cs w w := ⟨rfl, rfl, rfl, Nat.le_refl _, fun _ _ _ => rfl⟩
theorem Chg.of_ext {cs : List Nat} {w w' : World} (h : Ext w w') : Chg cs w w' := ⟨h.os, h.tape, h.output, h.size, fun b hl _ => h.block b hl⟩
theorem Chg.trans {cs : List Nat} {a b c : World} (h : Chg cs a b) (k : Chg cs b c) : Chg cs a c :=
  ⟨k.os.trans h.os, k.tape.trans h.tape, k.output.trans h.output, Nat.le_trans h.size k.size, fun i hs hi => (k.other i (Nat.lt_of_lt_of_le hs h.size) hi).trans (h.other i hs hi)⟩
theorem Chg.priv {bs cs : List Nat} {a b c : World} (h : Chg bs a b) (k : Chg cs b c) (hc : ∀ y ∈ cs, a.heap.size ≤ y) : Chg bs a c :=
  ⟨k.os.trans h.os, k.tape.trans h.tape, k.output.trans h.output, Nat.le_trans h.size k.size, fun i hi hn => (k.other i (Nat.lt_of_lt_of_le hi h.size) (fun hm => by have := hc i hm; omega)).trans (h.other i hi hn)⟩
theorem Chg.below {B : Nat} {cs : List Nat} {w w' : World} (h : Chg cs w w') (hB : B ≤ w.heap.size) (hb : ∀ b ∈ cs, B ≤ b) : Below B w w' :=
  ⟨h.os, h.tape, h.output, h.size, fun k hk => h.other k (by omega) (fun hc => by have := hb k hc; omega)⟩
theorem Chg.wk {N : Nat} {pv cs : List Nat} {w w' : World} (h : Chg cs w w') (hN : N ≤ w.heap.size) (hc : ∀ y ∈ cs, y ∈ pv ∨ N ≤ y) : Wk N pv w w' :=
  ⟨h.size, fun b hb hn => h.other b (by omega) (fun hm => by rcases hc b hm with h1 | h1; exact hn h1; omega)⟩
theorem Chg.grown {w w' : World} {v : Value} {L : List Nat} (h : w.grownBy w' v.ownBlock) (hL : ∀ k, v.ownBlock = some k → k ∈ L) : Chg L w w' := ⟨h.os, h.tape, h.output, h.size, fun b hl hn => h.block b hl (fun e => hn (hL b e.symm))⟩
theorem Kn.chg {w w' : World} {b o : Nat} {v : Value} (h : Kn w b o v) (e : ExtOf w) {bs : List Nat} (hf : Chg bs e.to w') (hb : b < w.heap.size) (hn : b ∉ bs) : Kn w' b o v := fun e' => by
  have h1 := h e
  rw [← h1, ExtOf.cell e' b o (Nat.lt_of_lt_of_le (Nat.lt_of_lt_of_le hb e.h.size) hf.size)]
  exact World.cell?_of_block (hf.other b (Nat.lt_of_lt_of_le hb e.h.size) hn)
theorem T1.chg {bs : List Nat} {w w' : World} {d cs u} (h : T1 w d cs u) (ho : Chg bs w w') (hd : ∀ b ∈ cs, b ∉ bs) : T1 w' d cs u := h.keep ⟨ho.size, fun b hb => ho.other b (h.lt b hb) (hd b hb)⟩
theorem TN.chg {bs : List Nat} {w w' : World} {d cs u} (h : TN w d cs u) (ho : Chg bs w w') (hd : ∀ b ∈ cs, b ∉ bs) : TN w' d cs u := h.keep ⟨ho.size, fun b hb => ho.other b (h.lt b hb) (hd b hb)⟩
theorem Own.chg {lo : Nat} {bs cs : List Nat} {w w' : World} (h : Own lo w bs) (ho : Chg cs w w') (hd : ∀ b ∈ bs, b ∉ cs) : Own lo w' bs :=
  ⟨h.1, fun b hb => ⟨(h.2 b hb).1, by obtain ⟨_, cur, t, h2⟩ := h.2 b hb; exact ⟨cur, t, (ho.other b (lt_of_row h2) (hd b hb)).trans h2⟩⟩⟩
theorem PtAt.chg {b o : Nat} {ds bs} (h : PtAt w b o ds bs) {w' : World} {cs : List Nat} (hf : Chg cs w w') (hn : b ∉ cs) (hd : ∀ y ∈ bs, y ∉ cs) : PtAt w' b o ds bs := by
  obtain ⟨hlt, us, hc, ht⟩ := h
  exact ⟨Nat.lt_of_lt_of_le hlt hf.size, us, hc.keep (hf.other b hlt hn), ht.chg hf hd⟩
theorem GR.chg {lo t s v n ds bs us cs} (h : GR lo w t s v n ds bs us) {w1 : World} (hf : Chg cs w w1) (hd : ∀ b ∈ bs, b ∉ cs) (hr : ∀ k, v.ownBlock = some k → k ∉ cs) : GR lo w1 t s v n ds bs us :=
  ⟨ownsRow_keep h.row fun k hk => hf.other k (h.row.lt k hk).2 (hr k hk), h.tn.chg hf hd, h.own.chg hf hd, h.out⟩
theorem row_chg {g : Nat} {o : Obj} {cs : List Nat} {w w' : World} (h : w.heap[g]? = some o) (e : ExtOf w) (hf : Chg cs e.to w') (hn : g ∉ cs) : w'.heap[g]? = some o := (hf.other g (lt_of_row (row_at h e)) hn).trans (row_at h e)
/-- What one private variable's change leaves. -/
theorem Kn.but {b o g : Nat} {v : Value} (h : Kn w b o v) (e : ExtOf w) {w' : World} (hb : But g e.to w') (hl : b < w.heap.size) (hn : b ≠ g) : Kn w' b o v := fun e' => by
  have h1 := h e
  have h2 : b < e.to.heap.size := Nat.lt_of_lt_of_le hl e.h.size
  rw [← h1, ExtOf.cell e' b o (Nat.lt_of_lt_of_le h2 hb.size)]
  exact World.cell?_of_block (hb.block b h2 hn)
theorem PtAt.but {b o g : Nat} {ds bs} (h : PtAt w b o ds bs) {w' : World} (hb : But g w w') (hn : b ≠ g) (hg : g ∉ bs) : PtAt w' b o ds bs := by
  obtain ⟨hlt, us, hc, ht⟩ := h
  exact ⟨Nat.lt_of_lt_of_le hlt hb.size, us, hc.keep (hb.block b hlt hn), ht.but hb hg⟩
theorem PtAt.blt {b o : Nat} {ds bs} (h : PtAt w b o ds bs) : ∀ y ∈ bs, y < w.heap.size := fun y hy => by
  obtain ⟨_, us, _, ht⟩ := h
  exact ht.lt y hy
theorem T1.elem2 {α : Type} {f : α → List D} {s : Nat} (hs : ∀ x, (f x).length = s) {xs : List α} {bs : List Nat} {A : Option Addr} {n n' c : Nat} (h : T1 w (.sl n (xs.flatMap f)) bs (.slice A n' c)) (hm : Hid (xs.length = n)) {k : Nat} (hk : k < n) :
    ∃ b off x bs' us, A = some ⟨b, off, none⟩ ∧ Hid (xs[k]? = some x) ∧ b < w.heap.size ∧ cellsAt w b (off + k * s) us ∧ TN w (f x) bs' us ∧ b ∈ bs ∧ ∀ y ∈ bs', y ∈ bs := by
  obtain ⟨_, b, off, p1, p2, p3, us, hA, rfl, hb, hc, ht⟩ := T1.at_ hs h hm.out hk
  exact ⟨b, off, _, p2, us, hA, List.getElem?_eq_getElem (hm.out ▸ hk), hb, hc, ht, by simp, fun y hy => by simp [hy]⟩
theorem T1.none_ {n n' c : Nat} {ds : List D} {bs : List Nat} (h : T1 w (.sl n ds) bs (.slice none n' c)) : n = 0 ∧ ds = [] := by
  unfold T1 at h
  obtain ⟨A', c', he, hn, hc, h⟩ := h
  injection he with hA
  subst hA
  rcases h with ⟨h1, h2, _⟩ | ⟨_, b, off, us, bs', h1, _⟩
  · exact ⟨h1, h2⟩
  · cases h1
theorem flatMap_flat {α : Type} {f : α → List D} (hf : ∀ x, ∀ d ∈ f x, ∃ v, d = .v v) (xs : List α) : ∀ d ∈ xs.flatMap f, ∃ v, d = .v v := fun d hd => by
  obtain ⟨x, _, hx⟩ := List.mem_flatMap.1 hd
  exact hf x d hx
theorem intE_flat (x : Int) : ∀ d ∈ intE x, ∃ v, d = .v v := fun d hd => ⟨.int .i64 x, by simpa [intE] using hd⟩
theorem PtAt.onl {b o : Nat} {ds bs} (h : PtAt w b o ds bs) {w' : World} {cs : List Nat} (hf : Onl cs w w') (hn : b ∉ cs) (hd : ∀ y ∈ bs, y ∉ cs) : PtAt w' b o ds bs := by
  obtain ⟨hlt, us, hc, ht⟩ := h
  exact ⟨Nat.lt_of_lt_of_le hlt hf.size, us, hc.keep (hf.other b hlt hn), ht.onl hf hd⟩
theorem TN.flat {ds : List D} {bs : List Nat} {us : List Value} (h : TN w ds bs us) (hf : ∀ d ∈ ds, ∃ x, d = .v x) : bs = [] ∧ ∀ w', TN w' ds [] us := by
  induction ds generalizing bs us with
  | nil => obtain ⟨rfl, rfl⟩ := TN.nil.1 h; exact ⟨rfl, fun _ => TN.done⟩
  | cons d ds ih =>
    obtain ⟨b1, b2, u, us', rfl, rfl, h1, h2⟩ := TN.cons.1 h
    obtain ⟨x, rfl⟩ := hf d (by simp)
    obtain ⟨rfl, rfl, h3⟩ := T1.v.1 h1
    obtain ⟨rfl, h4⟩ := ih h2 (fun d hd => hf d (by simp [hd]))
    exact ⟨rfl, fun w' => TN.v_mk h3 (h4 w')⟩
end
end Go.Tr
