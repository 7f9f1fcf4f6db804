/- Regions whose order is open, in which one new variable may be made at any time: it floats. No program in it. -/
import Derived.Test.YtieemijapiiiiaaGreatSc
set_option linter.unusedSimpArgs false
set_option linter.unusedVariables false
namespace Go.Tr
open Go Go.RowKit
section
variable {P : Program} {ops : Array Oper}
theorem wpOp_put1 {Q : Exit → Act → World → Prop} {r : Nat} {x : Oper} {d : Option Tmp} {v : Value} (hr : ops[r]? = some x) (h1 : ∀ dd, d = some dd → dd ∉ x.looksAt ops) (h2 : ∀ dd, d = some dd → x.dst ≠ some dd) (hs : ∀ cs b, x.op ≠ .select cs b)
    {K : Act → World → Prop} {a : Act} {w : World} (h : wpOp P ops (onlyNormal Q) r K a w) : wpOp P ops (onlyNormal Q) r (fun a' w' => ∃ a0, a' = a0.put d v ∧ K a0 w') (a.put d v) w := by
  unfold wpOp at *
  simp only [hr] at *
  rw [wanted_put x a d v h1]
  split
  · rename_i hw
    simp only [hw, if_true] at h
    rcases h with h | ⟨_, ⟨_, _, hb⟩⟩
    case inr => exact hb.elim
    refine .inl ?_
    unfold Oper.wp at *
    rw [execOp_put x hs a d v h1]
    generalize (execOp a.eval x).run P w = res at *
    cases res with
    | ok n w' =>
      cases n <;> simp only [Oper.upon] at h ⊢
      case value u => exact ⟨_, Act.put_comm a v u h2, h⟩
      case skip => exact ⟨_, Act.put_comm a v undef h2, h⟩
      case defer dd => exact ⟨_, by rw [Act.put_defers]; exact Act.put_comm _ v undef h2, h⟩
      case enter f args =>
        refine Calls.mono h fun e w'' he => ?_
        cases e with
        | returned u => exact ⟨_, Act.put_comm a v u h2, he⟩
        | panicked c => exact he
        | outgrown => exact he
      case row row args => exact Rows.mono h fun u w'' he => ⟨_, Act.put_comm a v u h2, he⟩
    | halt y w' =>
      cases y <;> simp only [Oper.upon] at h ⊢ <;> first | exact h | exact h.elim
  · rename_i hw
    simp only [hw] at h
    exact ⟨_, Act.put_comm a v undef h2, h⟩
end
structure Flo where
  j : Nat
  d : Tmp
  val : Nat → Value
  obj : Obj
section
variable {P : Program} {l : List Oper} {Q : Exit → Act → World → Prop} {N : Nat} {f : Flo} {X : List Nat} {fuel : Nat} {L : Array Bool} {a : Act} {w : World}
structure FloOk (P : Program) (l : List Oper) (Q : Exit → Act → World → Prop) (f : Flo) : Prop where
  dst : ∃ o, l.toArray[f.j]? = some o ∧ o.dst = some f.d
  run : ∀ (K : Act → World → Prop) a w, K (a.put (some f.d) (f.val w.heap.size)) (w.alloc f.obj) → wpOp P l.toArray (onlyNormal Q) f.j K a w
def apB (l : List Oper) (i j : Nat) : Bool := match l[i]?, l[j]? with | some x, some y => x.apart l.toArray y | _, _ => false
/-- What is left of a region: the blocks below N are as they were. -/
def wpB (P : Program) (l : List Oper) (Q : Exit → Act → World → Prop) (N : Nat) (fuel : Nat) (L : Array Bool) (a : Act) (w : World) : Prop :=
  ∀ S : World → Prop, (∀ w', Below N w w' → S w') → wpAnyH P .any l.toArray (onlyNormal Q) S fuel L a w
/-- The same, while the variable f is still to come, at any time. -/
def Fl1 (P : Program) (l : List Oper) (Q : Exit → Act → World → Prop) (N : Nat) (f : Flo) (X : List Nat) (fuel : Nat) (L : Array Bool) (a : Act) (w : World) : Prop :=
  wpB P l Q N (fuel + 1) L a w ∧ ∀ g w1, Ext w w1 → N ≤ g → g ∉ X → w1.heap[g]? = some f.obj → wpB P l Q N fuel (L.setIfInBounds f.j true) (a.put (some f.d) (f.val g)) w1
theorem wp_region_b {id : Nat} (e0 : ExtOf w) (N : Nat) (hm : P.follows .mixedOrders = true) (n : Nat) (hn : (l.length == n) = true)
    (h : ∀ w1, Ext w w1 → wpB P l Q N n (List.replicate n false).toArray a w1) : (Code.region id l.toArray true).wp P Q a e0.to := by
  refine wp_region_any hm ?_
  have h1 := h e0.to.drew e0.h.drew (fun _ => True) (fun _ _ => trivial)
  rw [beq_iff_eq] at hn
  have : l.toArray.size = n := by simpa using hn
  rw [this]
  have hr : Array.replicate n false = (List.replicate n false).toArray := by simp
  rw [hr]
  exact wpAny_monoQ (fun e a w hq => by cases e <;> first | exact hq | exact hq.elim) _ _ _ _ (wpAny_of_held _ _ _ _ h1)
def takeB (l : List Oper) (L : Array Bool) (i : Nat) : Bool := Region.noSelect l.toArray && Region.free .any l.toArray L i && (Region.ready .any l.toArray L).contains i
theorem b_key (i : Nat) {o : Oper} (hi : l[i]? = some o) {v : Value} (hc : takeB l L i = true) (hy : YieldsIf P l.toArray (fun w' => ∃ e : BelOf N w, w' = e.to) o v a)
    (hg : wpB P l Q N fuel (L.setIfInBounds i true) (a.put o.dst v) w) : wpB P l Q N (fuel + 1) L a w := by
  unfold takeB at hc
  simp only [Bool.and_eq_true] at hc
  have hio : l.toArray[i]? = some o := by simpa using hi
  intro S hS
  refine wpAnyH_monoS (S := fun w' => ∃ e : BelOf N w, w' = e.to) (fun w' ⟨e, he⟩ => he ▸ hS _ e.h) _ _ _ _ ?_
  exact wpAnyH_take hio hc.1.1 hc.1.2 hc.2 (fun _ _ _ h => h) hy ⟨⟨w, Below.refl _ _⟩, rfl⟩ (hg _ (fun w' h => ⟨⟨w', h⟩, rfl⟩))
theorem b_take (i : Nat) {o : Oper} (hi : l[i]? = some o) (hc : (vOp o.op && takeB l L i) = true)
    (h : wpQuiet P l.toArray (fun w' => ∃ e : BelOf N w, w' = e.to) (fun a' => wpB P l Q N fuel (L.setIfInBounds i true) a' w) [o] a) : wpB P l Q N (fuel + 1) L a w := by
  rw [Bool.and_eq_true] at hc
  obtain ⟨v, hy, hg⟩ := key_of hc.1 h
  exact b_key i hi hc.2 hy hg
theorem b_only (i : Nat) {o : Oper} (hi : l[i]? = some o) (hc : (Region.ready .any l.toArray L == [i]) = true)
    (h : ∀ e : ExtOf w, e.to = w → wpList P l.toArray (onlyNormal fun _ a' w' => Below N e.to w' ∧ wpB P l Q N fuel (L.setIfInBounds i true) a' w') [o] a e.to) : wpB P l Q N (fuel + 1) L a w := by
  rw [beq_iff_eq] at hc
  intro S hS
  refine wpAnyH_all hc (by simp) (fun j hj => ?_)
  obtain rfl : j = i := by simpa using hj
  refine wpOp_mono (fun a' w' hk => ?_) (wpOp_alone (by simpa using hi) (h ⟨w, Below.refl _ _⟩ rfl))
  exact ⟨hS _ hk.1, hk.2 S (fun w2 h2 => hS _ (hk.1.trans h2))⟩
theorem b_done (hr : (Region.ready .any l.toArray L == []) = true) (h : ∀ e : ExtOf w, e.to = w → Q .normal a e.to) : wpB P l Q N fuel L a w :=
  fun _ _ => wpAnyH_done (by simpa using hr) (show onlyNormal Q .normal a w from h ⟨w, Below.refl _ _⟩ rfl) fuel
theorem fl_put {r : Nat} {oo : Oper} (hsel : Region.noSelect l.toArray = true) (hf : FloOk P l Q f) (hap : apB l f.j r = true) (hor : l[r]? = some oo) :
    r ≠ f.j ∧ (∀ dd, some f.d = some dd → dd ∉ oo.looksAt l.toArray) ∧ (∀ dd, some f.d = some dd → oo.dst ≠ some dd) ∧ ∀ cs b, oo.op ≠ .select cs b := by
  obtain ⟨uf, hof, hofd⟩ := hf.dst
  have hof' : l[f.j]? = some uf := by simpa using hof
  unfold apB at hap
  rw [hof', hor] at hap
  obtain ⟨q1, q2, q3⟩ := Oper.apart_spec hap
  refine ⟨fun e => ?_, fun dd hd => q1 dd (hofd.trans hd), fun dd hd => q2 dd (hofd.trans hd), fun cs b => Region.noSelect_spec hsel r oo cs b (by simpa using hor)⟩
  subst e
  rw [hof'] at hor
  injection hor with hor
  subst hor
  exact q2 _ hofd hofd
theorem fl_take (i : Nat) {o : Oper} (hi : l[i]? = some o) (hN : N ≤ w.heap.size) (hf : FloOk P l Q f)
    (hc : (Region.noSelect l.toArray && apB l f.j i && vOp o.op && takeB l L i && takeB l (L.setIfInBounds f.j true) i) = true)
    (h : wpQuiet P l.toArray (fun w' => ∃ e : BelOf N w, w' = e.to) (fun a' => Fl1 P l Q N f X fuel (L.setIfInBounds i true) a' w) [o] a) : Fl1 P l Q N f X (fuel + 1) L a w := by
  simp only [Bool.and_eq_true] at hc
  obtain ⟨⟨⟨⟨h1, h2⟩, h3⟩, h4⟩, h5⟩ := hc
  obtain ⟨v, hy, hg⟩ := key_of h3 h
  obtain ⟨hne, q1, q2, hs⟩ := fl_put h1 hf h2 hi
  refine ⟨b_key i hi h4 hy hg.1, fun g w1 hx hgN hgX hr => ?_⟩
  have h6 := hg.2 g w1 hx hgN hgX hr
  rw [Array.setIfInBounds_comm _ _ hne, Act.put_comm a v (f.val g) (x := o.dst) (y := some f.d) (fun dd hdd hdd' => q2 dd hdd' hdd)] at h6
  refine b_key i hi h5 ?_ h6
  have hy' : YieldsIf P l.toArray (fun w' => ∃ e : BelOf N w1, w' = e.to) o v a := hy.imp (fun ⟨hw, hv⟩ => ⟨hw, fun w' ⟨e, he⟩ => hv w' ⟨⟨e.to, (hx.mono hN).trans e.h⟩, he⟩⟩) id
  exact hy'.of_same (execOp_put o hs a (some f.d) (f.val g) q1) (wanted_put o a (some f.d) (f.val g) q1)
theorem fl_new {S : World → Prop} (hN : N ≤ w.heap.size) (hX : ∀ x ∈ X, x < w.heap.size) (hf : FloOk P l Q f) (hS : ∀ w', Below N w w' → S w')
    (h : ∀ g w1, Ext w w1 → N ≤ g → g ∉ X → w1.heap[g]? = some f.obj → wpB P l Q N fuel (L.setIfInBounds f.j true) (a.put (some f.d) (f.val g)) w1) :
    wpOp P l.toArray (onlyNormal Q) f.j (fun a' w' => S w' ∧ wpAnyH P .any l.toArray (onlyNormal Q) S fuel (L.setIfInBounds f.j true) a' w') a w := by
  have hx : Ext w (w.alloc f.obj) := (Below.refl _ _).alloc (Nat.le_refl _) _
  refine hf.run _ a w ⟨hS _ (hx.mono hN), ?_⟩
  exact h w.heap.size _ hx hN (fun hm => by have := hX _ hm; omega) (heap_alloc_new w _) S (fun w2 h2 => hS _ ((hx.mono hN).trans h2))
theorem fl_only (i : Nat) {o : Oper} (hi : l[i]? = some o) (hN : N ≤ w.heap.size) (hX : ∀ x ∈ X, x < w.heap.size) (hf : FloOk P l Q f)
    (hc : (Region.noSelect l.toArray && apB l f.j i && !(Region.ready .any l.toArray L).isEmpty && (Region.ready .any l.toArray L).all [i, f.j].contains && (Region.ready .any l.toArray (L.setIfInBounds f.j true) == [i])) = true)
    (h : ∀ e : ExtOf w, wpList P l.toArray (onlyNormal fun _ a' w' => Ext e.to w' ∧ ∃ Y, (∀ x ∈ Y, e.to.heap.size ≤ x ∧ x < w'.heap.size) ∧ Fl1 P l Q N f (Y ++ X) fuel (L.setIfInBounds i true) a' w') [o] a e.to) : Fl1 P l Q N f X (fuel + 1) L a w := by
  simp only [Bool.and_eq_true, Bool.not_eq_true', List.isEmpty_eq_false_iff, List.all_eq_true, beq_iff_eq] at hc
  obtain ⟨⟨⟨⟨h1, h2⟩, h3⟩, h4⟩, h5⟩ := hc
  have hio : l.toArray[i]? = some o := by simpa using hi
  obtain ⟨hne, q1, q2, hs⟩ := fl_put h1 hf h2 hi
  have hB : ∀ g w1, Ext w w1 → N ≤ g → g ∉ X → w1.heap[g]? = some f.obj → wpB P l Q N (fuel + 1) (L.setIfInBounds f.j true) (a.put (some f.d) (f.val g)) w1 := fun g w1 hx hgN hgX hr => by
    intro S hS
    refine wpAnyH_all h5 (by simp) (fun j hj => ?_)
    obtain rfl : j = i := by simpa using hj
    refine wpOp_mono (fun a' w' hk => ?_) (wpOp_put1 (d := some f.d) (v := f.val g) hio q1 q2 hs (wpOp_alone hio (h ⟨w1, hx⟩)))
    obtain ⟨a0, rfl, hx2, Y, hY, hg⟩ := hk
    have hgl : g < w1.heap.size := lt_of_row hr
    have h6 := hg.2 g w' (Below.refl _ _) hgN (fun hm => by
      rcases List.mem_append.1 hm with hm | hm
      · have h7 : w1.heap.size ≤ g := (hY g hm).1
        omega
      · exact hgX hm) (row_ext hr hx2)
    rw [Array.setIfInBounds_comm _ _ hne] at h6
    have hb : Below N w1 w' := hx2.mono (Nat.le_trans hN hx.size)
    exact ⟨hS _ hb, h6 S (fun w2 h7 => hS _ (hb.trans h7))⟩
  refine ⟨fun S hS => ?_, hB⟩
  refine ⟨fun h0 => absurd h0 h3, fun r hr => ?_⟩
  have hr' := h4 r hr
  simp only [List.contains_cons, List.contains_nil, Bool.or_false, Bool.or_eq_true, beq_iff_eq] at hr'
  rcases hr' with rfl | rfl
  · refine wpOp_mono (fun a' w' hk => ?_) (wpOp_alone hio (h ⟨w, Below.refl _ _⟩))
    obtain ⟨hx, Y, hY, hg⟩ := hk
    have hb : Below N w w' := Below.mono hx hN
    exact ⟨hS _ hb, hg.1 S (fun w2 h7 => hS _ (hb.trans h7))⟩
  · exact fl_new hN hX hf hS hB
theorem fl_land (hN : N ≤ w.heap.size) (hX : ∀ x ∈ X, x < w.heap.size) (hf : FloOk P l Q f) (hc : (Region.ready .any l.toArray L == [f.j]) = true)
    (h : ∀ g w1, Ext w w1 → N ≤ g → g ∉ X → w1.heap[g]? = some f.obj → wpB P l Q N fuel (L.setIfInBounds f.j true) (a.put (some f.d) (f.val g)) w1) : Fl1 P l Q N f X fuel L a w := by
  rw [beq_iff_eq] at hc
  refine ⟨fun S hS => wpAnyH_all hc (by simp) (fun r hr => ?_), h⟩
  obtain rfl : r = f.j := by simpa using hr
  exact fl_new hN hX hf hS h
theorem fl_begin (f : Flo) (hf : FloOk P l Q f) (h : FloOk P l Q f → Fl1 P l Q N f [] fuel L a w) : wpB P l Q N (fuel + 1) L a w := (h hf).1
end
end Go.Tr
