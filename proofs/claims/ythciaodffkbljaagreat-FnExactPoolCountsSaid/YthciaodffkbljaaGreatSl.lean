/- A walk by facts alone: what slots hold (Env), what a call owns (Inv), one rule for each operation. No program in it. -/
import Derived.Test.YthciaodffkbljaaGreatOwn
import Derived.Deep.LoopGhost
set_option linter.unusedSimpArgs false
set_option linter.unusedVariables false
namespace Go.Tr
open Go Go.RowKit

/-! ### slots -/
structure Env (n : Nat) (a : Act) (l : List (Nat × Value)) : Prop where
  size : a.tmps.size = n
  defers : a.defers = []
  get : ∀ t v, l.lookup t = some v → a.tmps[t]? = some v
section
variable {n : Nat} {a : Act} {l l' : List (Nat × Value)} {t : Nat} {v : Value}
theorem Env.getD (h : Env n a l) (hl : l.lookup t = some v) : a.tmps.getD t undef = v := by
  rw [Array.getD_eq_getD_getElem?, h.get t v hl]; rfl
theorem Env.tmp (h : Env n a l) (hl : l.lookup t = some v) : a.eval (.tmp t) = v := h.getD hl
theorem Env.put (h : Env n a l) (d : Nat) (v : Value) (hd : Nat.blt d n = true) : Env n (a.put (some d) v) ((d, v) :: l) :=
  ⟨by simp [Act.put, h.size], h.defers, fun t u hl => by
    have hd' : d < n := by simpa using hd
    rw [List.lookup_cons] at hl
    show (a.tmps.setIfInBounds d v)[t]? = some u
    by_cases e : t = d
    · subst e
      simp at hl
      subst hl
      simp [h.size, hd']
    · have h1 : (t == d) = false := by simpa using e
      rw [h1] at hl
      rw [Array.getElem?_setIfInBounds_ne (fun e' => e e'.symm)]
      exact h.get t u hl⟩
theorem Env.nil (h : Env n a l) : Env n a [] := ⟨h.size, h.defers, fun t v hl => by simp at hl⟩
theorem Env.pick (h0 : Env n a l) (h : Env n a l') (hl : l.lookup t = some v) : Env n a ((t, v) :: l') :=
  ⟨h.size, h.defers, fun t' u hl' => by
    rw [List.lookup_cons] at hl'
    by_cases e : t' = t
    · subst e; simp at hl'; subst hl'; exact h0.get _ _ hl
    · have h1 : (t' == t) = false := by simpa using e
      rw [h1] at hl'; exact h.get t' u hl'⟩
theorem enter {P : Program} {f : FuncId} {fn : Func} {c : Code} {args : List Value} {w : World} {R : Ending → World → Prop} (hf : P.funcs[f]? = some fn) (hb : fn.body = some c) (hn : fn.ntmps = n) (ha : Nat.ble args.length n = true)
    (h : ∀ a, Env n a (args.zipIdx.map fun x => (x.2, x.1)) → c.wp P (bodyPost P fn R) a w) : Calls P f args.toArray w R := by
  refine calls_of_wp hf hb (h _ ⟨?_, rfl, fun t v hl => ?_⟩)
  · simp at ha ⊢; omega
  · have key : ∀ (l : List Value) (k : Nat), (l.zipIdx k |>.map fun x => (x.2, x.1)).lookup t = some v → ∃ j, t = k + j ∧ l[j]? = some v := by
      intro l
      induction l with
      | nil => intro k h; simp at h
      | cons x l ih =>
        intro k h
        simp only [List.zipIdx_cons, List.map_cons, List.lookup_cons] at h
        by_cases e : t = k
        · subst e; simp at h; exact ⟨0, rfl, by simp [h]⟩
        · have h1 : (t == k) = false := by simpa using e
          rw [h1] at h
          obtain ⟨j, hj, hx⟩ := ih (k + 1) h
          exact ⟨j + 1, by omega, by simpa using hx⟩
    obtain ⟨j, hj, hx⟩ := key args 0 hl
    have : t = j := by omega
    subst this
    have hlt := (List.getElem?_eq_some_iff.1 hx).1
    rw [Array.getElem?_append_left (by simpa using hlt)]
    simpa using hx
end

/-! ### what a call owns -/
/-- Something that lies in some blocks, and stays true while these are kept. -/
structure Res where
  p : World → List Nat → Prop
  keep : ∀ {w w' : World} {F : List Nat}, p w F → Keeps w w' F → p w' F
  lt : ∀ {w : World} {F : List Nat}, p w F → ∀ b ∈ F, b < w.heap.size
/-- Things in blocks that are apart. -/
def Sep (w : World) : List Res → List Nat → Prop
  | [], G => G = []
  | r :: rs, G => ∃ F G', G = F ++ G' ∧ r.p w F ∧ Sep w rs G' ∧ ∀ b ∈ F, b ∉ G'
theorem Sep.lt {w : World} : ∀ {rs : List Res} {G : List Nat}, Sep w rs G → ∀ b ∈ G, b < w.heap.size
  | [], G, h => by cases h; simp
  | r :: rs, G, ⟨F, G', e, h1, h2, _⟩ => by
    subst e
    intro b hb
    rcases List.mem_append.1 hb with hb | hb
    · exact r.lt h1 b hb
    · exact h2.lt b hb
theorem Sep.keep {w w' : World} : ∀ {rs : List Res} {G : List Nat}, Sep w rs G → Keeps w w' G → Sep w' rs G
  | [], G, h, _ => h
  | r :: rs, G, ⟨F, G', e, h1, h2, h3⟩, k => by
    subst e
    exact ⟨F, G', rfl, r.keep h1 (k.sub fun b hb => by simp [hb]), h2.keep (k.sub fun b hb => by simp [hb]), h3⟩
theorem Sep.append {w : World} : ∀ {rs ss : List Res} {G : List Nat}, Sep w (rs ++ ss) G ↔ ∃ F G', G = F ++ G' ∧ Sep w rs F ∧ Sep w ss G' ∧ ∀ b ∈ F, b ∉ G'
  | [], ss, G => ⟨fun h => ⟨[], G, rfl, rfl, h, by simp⟩, fun ⟨F, G', e, h1, h2, _⟩ => by cases h1; subst e; exact h2⟩
  | r :: rs, ss, G => by
    constructor
    · rintro ⟨F, G', rfl, h1, h2, h3⟩
      obtain ⟨F2, G2, rfl, h4, h5, h6⟩ := Sep.append.1 h2
      refine ⟨F ++ F2, G2, by simp, ⟨F, F2, rfl, h1, h4, fun b hb hm => h3 b hb (by simp [hm])⟩, h5, fun b hb => ?_⟩
      rcases List.mem_append.1 hb with hb | hb
      · exact fun hm => h3 b hb (by simp [hm])
      · exact h6 b hb
    · rintro ⟨F, G', rfl, ⟨F1, F2, rfl, h1, h2, h3⟩, h4, h5⟩
      refine ⟨F1, F2 ++ G', by simp, h1, Sep.append.2 ⟨F2, G', rfl, h2, h4, fun b hb => h5 b (by simp [hb])⟩, fun b hb hm => ?_⟩
      rcases List.mem_append.1 hm with hm | hm
      · exact h3 b hb hm
      · exact h5 b (by simp [hb]) hm
theorem Sep.perm {w : World} {rs ss : List Res} (hp : rs.Perm ss) : ∀ {G : List Nat}, Sep w rs G → ∃ G', Sep w ss G' ∧ ∀ b, b ∈ G' ↔ b ∈ G := by
  induction hp with
  | nil => exact fun h => ⟨_, h, fun _ => Iff.rfl⟩
  | cons r _ ih =>
    rintro G ⟨F, G', rfl, h1, h2, h3⟩
    obtain ⟨G2, h4, h5⟩ := ih h2
    exact ⟨F ++ G2, ⟨F, G2, rfl, h1, h4, fun b hb hm => h3 b hb ((h5 b).1 hm)⟩, fun b => by simp [h5]⟩
  | swap r s l =>
    rintro G ⟨F, G', rfl, h1, ⟨F2, G2, rfl, h2, h3, h4⟩, h5⟩
    refine ⟨F2 ++ (F ++ G2), ⟨F2, F ++ G2, rfl, h2, ⟨F, G2, rfl, h1, h3, fun b hb hm => h5 b hb (by simp [hm])⟩, fun b hb hm => ?_⟩, fun b => by simp; constructor <;> (rintro (h | h | h) <;> simp [h])⟩
    rcases List.mem_append.1 hm with hm | hm
    · exact h5 b hm (by simp [hb])
    · exact h4 b hb hm
  | trans _ _ ih1 ih2 =>
    intro G h
    obtain ⟨G1, h1, e1⟩ := ih1 h
    obtain ⟨G2, h2, e2⟩ := ih2 h1
    exact ⟨G2, h2, fun b => (e2 b).trans (e1 b)⟩
theorem front_perm {α : Type} : ∀ (l : List α) (i : Nat) (r : α), l[i]? = some r → l.Perm (r :: l.eraseIdx i)
  | [], i, r, h => by simp at h
  | x :: l, 0, r, h => by simp at h; subst h; exact List.Perm.refl _
  | x :: l, i + 1, r, h => by
    have := front_perm l i r (by simpa using h)
    exact (this.cons x).trans (List.Perm.swap r x _)
theorem set_perm {α : Type} : ∀ (l : List α) (i : Nat) (r s : α), l[i]? = some r → (s :: l.eraseIdx i).Perm (l.set i s)
  | [], i, r, s, h => by simp at h
  | x :: l, 0, r, s, h => by simp
  | x :: l, i + 1, r, s, h => by
    have := set_perm l i r s (by simpa using h)
    exact (List.Perm.swap x s _).trans (this.cons x)
/-- What has become of the world w0 in a call that may change the blocks F0, and what the call owns. -/
structure Inv (w0 : World) (F0 : List Nat) (w : World) (rs : List Res) : Prop where
  chg : Chg F0 w0 w
  sep : ∃ G, Sep w rs G ∧ ∀ b ∈ G, b ∈ F0 ∨ w0.heap.size ≤ b
section
variable {w0 w w' : World} {F0 : List Nat} {rs ss : List Res} {r : Res}
theorem Inv.start {F : List Nat} (h : Sep w rs F) : Inv w F w rs := ⟨Chg.refl _ _, F, h, fun _ hb => .inl hb⟩
theorem Inv.start0 (w : World) : Inv w [] w [] := Inv.start (rs := []) rfl
theorem Inv.perm (h : Inv w0 F0 w rs) (hp : rs.Perm ss) : Inv w0 F0 w ss := by
  obtain ⟨G, h1, h2⟩ := h.sep
  obtain ⟨G', h3, h4⟩ := h1.perm hp
  exact ⟨h.chg, G', h3, fun b hb => h2 b ((h4 b).1 hb)⟩
theorem Inv.front (h : Inv w0 F0 w rs) (i : Nat) (hr : rs[i]? = some r) : Inv w0 F0 w (r :: rs.eraseIdx i) := by
  exact h.perm (front_perm rs i r hr)
/-- Thing number i is replaced. -/
theorem Inv.back {s : Res} (i : Nat) (hr : rs[i]? = some r) (h : Inv w0 F0 w (s :: rs.eraseIdx i)) : Inv w0 F0 w (rs.set i s) := h.perm (set_perm rs i r s hr)
theorem Inv.tail (h : Inv w0 F0 w (r :: rs)) : Inv w0 F0 w rs := by
  obtain ⟨G, ⟨F, G', rfl, _, h2, _⟩, h3⟩ := h.sep
  exact ⟨h.chg, G', h2, fun b hb => h3 b (by simp [hb])⟩
theorem Inv.drop (h : Inv w0 F0 w rs) (i : Nat) (hi : Nat.blt i rs.length = true) : Inv w0 F0 w (rs.eraseIdx i) := by
  have hi' : i < rs.length := by simpa using hi
  exact (h.front i (List.getElem?_eq_getElem hi')).tail
theorem Inv.mem (h : Inv w0 F0 w rs) (i : Nat) (hr : rs[i]? = some r) : ∃ F, r.p w F := by
  obtain ⟨G, ⟨F, G', rfl, h1, h2, _⟩, h3⟩ := (h.front i hr).sep
  exact ⟨F, h1⟩
/-- Some of what a call owns is taken, and may change. -/
theorem Inv.frame {pre rest : List Res} (h : Inv w0 F0 w (pre ++ rest)) : ∃ F, Sep w pre F ∧ (∀ b ∈ F, b ∈ F0 ∨ w0.heap.size ≤ b) ∧ ∀ w' post, Inv w F w' post → Inv w0 F0 w' (post ++ rest) := by
  obtain ⟨G, h1, h2⟩ := h.sep
  obtain ⟨F, G2, rfl, h3, h4, h5⟩ := Sep.append.1 h1
  refine ⟨F, h3, fun b hb => h2 b (by simp [hb]), fun w' post hi => ?_⟩
  obtain ⟨G', h6, h7⟩ := hi.sep
  have hsz := h.chg.size
  refine ⟨⟨hi.chg.os.trans h.chg.os, hi.chg.tape.trans h.chg.tape, hi.chg.output.trans h.chg.output, Nat.le_trans hsz hi.chg.size, fun b hb hn => (hi.chg.other b (by omega) (fun hm => by rcases h2 b (by simp [hm]) with h8 | h8; exact hn h8; omega)).trans (h.chg.other b hb hn)⟩, G' ++ G2, Sep.append.2 ⟨G', G2, rfl, h6, h4.keep ⟨hi.chg.size, fun b hb => hi.chg.other b (h4.lt b hb) (fun hm => h5 b hm hb)⟩, fun b hb hm => ?_⟩, fun b hb => ?_⟩
  · rcases h7 b hb with h8 | h8
    · exact h5 b h8 hm
    · have := h4.lt b hm; omega
  · rcases List.mem_append.1 hb with hb | hb
    · rcases h7 b hb with h8 | h8
      · exact h2 b (by simp [h8])
      · exact .inr (by omega)
    · exact h2 b (by simp [hb])
/-- New blocks alone. -/
theorem Inv.ext (h : Inv w0 F0 w rs) (h1 : Ext w w') : Inv w0 F0 w' rs := by
  obtain ⟨F, h2, _, h4⟩ := Inv.frame (pre := []) (rest := rs) h
  cases h2
  simpa using h4 w' [] ⟨Chg.of_ext h1, [], rfl, by simp⟩
theorem Inv.to_ext (h : Inv w0 [] w rs) : Ext w0 w := Chg.below h.chg (Nat.le_refl _) (by simp)
/-- A new thing. -/
theorem Inv.new (h : Inv w0 F0 w rs) (hi : Inv w [] w' ss) : Inv w0 F0 w' (ss ++ rs) := by
  obtain ⟨F, h2, _, h4⟩ := Inv.frame (pre := []) (rest := rs) h
  cases h2
  exact h4 w' ss hi
end

/-! ### kinds of things -/
/-- A whole block: a variable, a row. -/
def Cel (b : Nat) (cs : List Value) (t : TypeId) : Res where
  p w F := F = [b] ∧ w.heap[b]? = some (.cells cs.toArray t (0, 0))
  keep := fun ⟨e, h⟩ k => ⟨e, by subst e; exact (k.2 b (by simp)).trans h⟩
  lt := fun ⟨e, h⟩ b' hb => by subst e; simp at hb; subst hb; exact lt_of_row h
/-- A slice of the call's own, with data ds. -/
def Dat (v : Value) (n : Nat) (ds : List D) : Res where
  p w F := T1 w (.sl n ds) F v ∧ Own 0 w F
  keep := fun ⟨h, o⟩ k => ⟨h.keep k, o.1, fun b hb => by obtain ⟨h0, cur, t, h1⟩ := o.2 b hb; exact ⟨h0, cur, t, (k.2 b hb).trans h1⟩⟩
  lt := fun ⟨h, _⟩ => h.lt
/-- Cells with data of the call's own. -/
def DatN (us : List Value) (ds : List D) : Res where
  p w F := TN w ds F us ∧ Own 0 w F
  keep := fun ⟨h, o⟩ k => ⟨h.keep k, o.1, fun b hb => by obtain ⟨h0, cur, t, h1⟩ := o.2 b hb; exact ⟨h0, cur, t, (k.2 b hb).trans h1⟩⟩
  lt := fun ⟨h, _⟩ => h.lt
/-- A row of the call's own that may grow: its elements' data. -/
def Gr (v : Value) (t : TypeId) (s n : Nat) (ds : List D) : Res where
  p w F := ∃ bs us, F = rowL v ++ bs ∧ GR 0 w t s v n ds bs us
  keep := fun ⟨bs, us, e, h⟩ k => ⟨bs, us, e, by
    subst e
    have kb : Keeps _ _ bs := k.sub fun b hb => by simp [hb]
    exact ⟨ownsRow_keep h.row fun g hg => k.2 g (by simp [mem_rowL, hg]), h.tn.keep kb, ⟨h.own.1, fun b hb => by obtain ⟨h0, cur, t, h1⟩ := h.own.2 b hb; exact ⟨h0, cur, t, (kb.2 b hb).trans h1⟩⟩, h.out⟩⟩
  lt := fun ⟨bs, us, e, h⟩ b hb => by
    subst e
    rcases List.mem_append.1 hb with hb | hb
    · exact (h.lt b (mem_rowL.1 hb)).2
    · exact h.tn.lt b hb
section
variable {w0 w w' : World} {F0 : List Nat} {rs ss : List Res}
theorem Inv.cel (h : Inv w0 F0 w rs) (i : Nat) {b : Nat} {cs : List Value} {t : TypeId} (hr : rs[i]? = some (Cel b cs t)) : w.heap[b]? = some (.cells cs.toArray t (0, 0)) := by
  obtain ⟨F, _, h1⟩ := h.mem i hr
  exact h1
theorem Inv.cell (h : Inv w0 F0 w rs) (i : Nat) {b : Nat} {cs : List Value} {t : TypeId} (hr : rs[i]? = some (Cel b cs t)) {o : Nat} {v : Value} (hc : cs[o]? = some v) : w.cell? ⟨b, o, none⟩ = some v :=
  row_cell (h.cel i hr) (by simpa using hc)
theorem Inv.alloc (h : Inv w0 F0 w rs) (cs : List Value) (t : TypeId) : Inv w0 F0 (w.alloc (.cells cs.toArray t)) (Cel w.heap.size cs t :: rs) :=
  Inv.new (ss := [Cel w.heap.size cs t]) h ⟨Chg.of_ext ((Below.refl _ _).alloc (Nat.le_refl _) _), [w.heap.size], ⟨[w.heap.size], [], rfl, ⟨rfl, heap_alloc_new w _⟩, rfl, by simp⟩, fun b hb => .inr (by simp at hb; omega)⟩
theorem Inv.set {b : Nat} {cs ds : List Value} {t : TypeId} (h : Inv w0 F0 w (Cel b cs t :: rs)) (hrow : ∃ cs' : List Value, w'.heap[b]? = some (.cells cs'.toArray t (0, 0)) ∧ cs' = ds) (hc : Chg [b] w w') : Inv w0 F0 w' (Cel b ds t :: rs) := by
  obtain ⟨F, h2, _, h4⟩ := Inv.frame (pre := [Cel b cs t]) (rest := rs) h
  obtain ⟨F1, G1, rfl, ⟨rfl, _⟩, rfl, _⟩ := h2
  obtain ⟨cs', h5, rfl⟩ := hrow
  exact h4 w' [Cel b cs' t] ⟨hc, [b], ⟨[b], [], rfl, ⟨rfl, h5⟩, rfl, by simp⟩, fun b hb => .inl (by simpa using hb)⟩
end

/-! ### what was there before and is not written -/
def RoC (w0 : World) (F0 : List Nat) (b o : Nat) (v : Value) : Prop := b < w0.heap.size ∧ b ∉ F0 ∧ w0.cell? ⟨b, o, none⟩ = some v
def Ro1 (w0 : World) (F0 : List Nat) (d : D) (v : Value) : Prop := ∃ bs, T1 w0 d bs v ∧ ∀ b ∈ bs, b ∉ F0
def RoN (w0 : World) (F0 : List Nat) (ds : List D) (us : List Value) : Prop := ∃ bs, TN w0 ds bs us ∧ ∀ b ∈ bs, b ∉ F0
def RoP (w0 : World) (F0 : List Nat) (b o : Nat) (ds : List D) : Prop := b < w0.heap.size ∧ b ∉ F0 ∧ ∃ us, cellsAt w0 b o us ∧ RoN w0 F0 ds us
section
variable {w0 w w' : World} {F0 F : List Nat} {rs ss : List Res} {b o n : Nat} {v x : Value} {d : D} {ds es : List D} {us : List Value} {bs : List Nat}
theorem RoC.get (h : RoC w0 F0 b o v) (hi : Inv w0 F0 w rs) : w.cell? ⟨b, o, none⟩ = some v := (World.cell?_of_block (hi.chg.other b h.1 h.2.1)).trans h.2.2
theorem Ro1.of (h : T1 w0 d bs v) : Ro1 w0 [] d v := ⟨bs, h, by simp⟩
theorem RoN.of (h : TN w0 ds bs us) : RoN w0 [] ds us := ⟨bs, h, by simp⟩
theorem RoP.of (h : PtAt w0 b o ds bs) : RoP w0 [] b o ds := by
  obtain ⟨h1, us, h2, h3⟩ := h
  exact ⟨h1, by simp, us, h2, bs, h3, by simp⟩
/-- The same, in the world that has come, for a call that may change the blocks F. -/
theorem Ro1.at_ (h : Ro1 w0 F0 d v) (hi : Inv w0 F0 w rs) (hF : ∀ b ∈ F, b ∈ F0 ∨ w0.heap.size ≤ b) : Ro1 w F d v := by
  obtain ⟨bs, h1, h2⟩ := h
  exact ⟨bs, h1.chg hi.chg h2, fun b hb hm => by rcases hF b hm with h3 | h3; exact h2 b hb h3; have := h1.lt b hb; omega⟩
theorem RoN.at_ (h : RoN w0 F0 ds us) (hi : Inv w0 F0 w rs) (hF : ∀ b ∈ F, b ∈ F0 ∨ w0.heap.size ≤ b) : RoN w F ds us := by
  obtain ⟨bs, h1, h2⟩ := h
  exact ⟨bs, h1.chg hi.chg h2, fun b hb hm => by rcases hF b hm with h3 | h3; exact h2 b hb h3; have := h1.lt b hb; omega⟩
theorem RoP.at_ (h : RoP w0 F0 b o ds) (hi : Inv w0 F0 w rs) (hF : ∀ b ∈ F, b ∈ F0 ∨ w0.heap.size ≤ b) : RoP w F b o ds := by
  obtain ⟨h1, h2, us, h3, h4⟩ := h
  exact ⟨Nat.lt_of_lt_of_le h1 hi.chg.size, fun hm => by rcases hF b hm with h5 | h5; exact h2 h5; omega, us, h3.keep (hi.chg.other b h1 h2), h4.at_ hi hF⟩
theorem Ro1.now (h : Ro1 w0 F0 d v) (hi : Inv w0 F0 w rs) : ∃ bs, T1 w d bs v := by
  obtain ⟨bs, h1, _⟩ := h.at_ hi (F := []) (by simp); exact ⟨bs, h1⟩
theorem RoN.now (h : RoN w0 F0 ds us) (hi : Inv w0 F0 w rs) : ∃ bs, TN w ds bs us := by
  obtain ⟨bs, h1, _⟩ := h.at_ hi (F := []) (by simp); exact ⟨bs, h1⟩
theorem RoP.now (h : RoP w0 F0 b o ds) (hi : Inv w0 F0 w rs) : ∃ bs, PtAt w b o ds bs := by
  obtain ⟨h1, _, us, h3, bs, h4, _⟩ := h.at_ hi (F := []) (by simp); exact ⟨bs, h1, us, h3, h4⟩
theorem RoP.sl (h : RoP w0 F0 b o (.sl n es :: ds)) : ∃ A c, RoC w0 F0 b o (.slice A n c) ∧ Ro1 w0 F0 (.sl n es) (.slice A n c) ∧ n ≤ 9223372036854775807 ∧ RoP w0 F0 b (o + 1) ds := by
  obtain ⟨h1, h2, us, h3, bs, h4, h5⟩ := h
  obtain ⟨A, c, b1, b2, us', rfl, rfl, h6, h7, h8, h9⟩ := TN.sl_cons h4
  exact ⟨A, c, ⟨h1, h2, by simpa using h3 0 _ rfl⟩, ⟨b1, h6, fun y hy => h5 y (by simp [hy])⟩, h6.nle, h1, h2, us', fun j u hu => by
    have := h3 (j + 1) u (by simpa using hu)
    rwa [show o + (j + 1) = o + 1 + j by omega] at this, b2, h9, fun y hy => h5 y (by simp [hy])⟩
theorem RoP.append {d1 d2 : List D} (h : RoP w0 F0 b o (d1 ++ d2)) : RoP w0 F0 b o d1 ∧ RoP w0 F0 b (o + d1.length) d2 := by
  obtain ⟨h1, h2, us, h3, bs, h4, h5⟩ := h
  obtain ⟨b1, b2, u1, u2, rfl, rfl, h6, h7⟩ := TN.append.1 h4
  refine ⟨⟨h1, h2, u1, fun j u hu => h3 j u (by rw [List.getElem?_append_left (List.getElem?_eq_some_iff.1 hu).1]; exact hu), b1, h6, fun y hy => h5 y (by simp [hy])⟩, h1, h2, u2, fun j u hu => ?_, b2, h7, fun y hy => h5 y (by simp [hy])⟩
  have := h3 (u1.length + j) u (by rw [List.getElem?_append_right (by omega), Nat.add_sub_cancel_left]; exact hu)
  rwa [← Nat.add_assoc, h6.length] at this
theorem RoN.sl (h : RoN w0 F0 (.sl n es :: ds) us) : ∃ A c us', us = .slice A n c :: us' ∧ Ro1 w0 F0 (.sl n es) (.slice A n c) ∧ n ≤ 9223372036854775807 ∧ RoN w0 F0 ds us' := by
  obtain ⟨bs, h4, h5⟩ := h
  obtain ⟨A, c, b1, b2, us', rfl, rfl, h6, h7, h8, h9⟩ := TN.sl_cons h4
  exact ⟨A, c, us', rfl, ⟨b1, h6, fun y hy => h5 y (by simp [hy])⟩, h6.nle, b2, h9, fun y hy => h5 y (by simp [hy])⟩
theorem RoN.end_ (h : RoN w0 F0 [] us) : us = [] := by
  obtain ⟨bs, h4, _⟩ := h
  exact h4.end_.1
theorem Ro1.elem {α : Type} {f : α → List D} {s : Nat} (hs : ∀ x, (f x).length = s) {xs : List α} {A : Option Addr} {n n' c : Nat} (h : Ro1 w0 F0 (.sl n (xs.flatMap f)) (.slice A n' c)) (hm : xs.length = n) {k : Nat} (hk : k < n) :
    ∃ b off x, A = some ⟨b, off, none⟩ ∧ xs[k]? = some x ∧ RoP w0 F0 b (off + k * s) (f x) := by
  obtain ⟨bs, h1, h2⟩ := h
  obtain ⟨_, b, off, p1, p2, p3, us, hA, rfl, hb, hc, ht⟩ := T1.at_ hs h1 hm hk
  exact ⟨b, off, _, hA, List.getElem?_eq_getElem (hm ▸ hk), hb, h2 b (by simp), us, hc, p2, ht, fun y hy => h2 y (by simp [hy])⟩
theorem Ro1.nle {n n' c : Nat} {A : Option Addr} (h : Ro1 w0 F0 (.sl n ds) (.slice A n' c)) : n ≤ 9223372036854775807 := by
  obtain ⟨bs, h1, _⟩ := h
  exact h1.nle
end
end Go.Tr
