/- Regions whose order is open: loads that all writes of old blocks wait for, loads that none of them touches, what looks at no memory, calls and new blocks and writes of them, new variables that may come at any time; at last the writes of old blocks. No program in it. -/
import Derived.Test.YthelpioccjjgfaaGrow
import Derived.Test.YthelpioccjjgfaaMk
set_option linter.unusedSimpArgs false
set_option linter.unusedVariables false
namespace Go.Tr
open Go Go.RowKit
section
variable {P : Program} {ops : Array Oper} {md : Region.Mode}

/-- Has a store come up? -/
def phB (tail : List Nat) (L : Array Bool) : Bool := tail.any fun t => L.getD t false

def wpAnyP (P : Program) (md : Region.Mode) (ops : Array Oper) (Q : Exit → Act → World → Prop) (tail : List Nat) (S2 S : World → Prop) : Nat → Array Bool → Act → World → Prop
  | 0, listed, a, w => Region.ready md ops listed = [] ∧ Q .normal a w
  | fuel + 1, listed, a, w =>
    (Region.ready md ops listed = [] → Q .normal a w) ∧
    ∀ i ∈ Region.ready md ops listed, wpOp P ops Q i (fun a' w' => (S2 w' ∧ (phB tail (listed.setIfInBounds i true) = false → S w')) ∧ wpAnyP P md ops Q tail S2 S fuel (listed.setIfInBounds i true) a' w') a w
theorem wpAny_of_P {Q : Exit → Act → World → Prop} {tail : List Nat} {S2 S : World → Prop} : ∀ (fuel : Nat) (listed : Array Bool) (a : Act) (w : World), wpAnyP P md ops Q tail S2 S fuel listed a w → wpAny P md ops Q fuel listed a w
  | 0, _, _, _, h => h
  | fuel + 1, _, _, _, h => ⟨h.1, fun i hi => wpOp_mono (fun a' w' h' => wpAny_of_P fuel _ a' w' h'.2) (h.2 i hi)⟩
theorem wpAnyP_mono {Q : Exit → Act → World → Prop} {tail : List Nat} {S2 S2' S S' : World → Prop} (h2 : ∀ w, S2 w → S2' w) (h : ∀ w, S w → S' w) : ∀ (fuel : Nat) (listed : Array Bool) (a : Act) (w : World), wpAnyP P md ops Q tail S2 S fuel listed a w → wpAnyP P md ops Q tail S2' S' fuel listed a w
  | 0, _, _, _, hh => hh
  | fuel + 1, _, _, _, hh => ⟨hh.1, fun i hi => wpOp_mono (fun a' w' hk => ⟨⟨h2 _ hk.1.1, fun hp => h _ (hk.1.2 hp)⟩, wpAnyP_mono h2 h fuel _ a' w' hk.2⟩) (hh.2 i hi)⟩

/-- Whatever has come up, what it waits for has come up. -/
def Closed (md : Region.Mode) (ops : Array Oper) (L : Array Bool) : Prop := ∀ x o, ops[x]? = some o → L.getD x false = true → ∀ e ∈ o.after, Region.binds md e = true → L.getD e.on false = true
def closedB (md : Region.Mode) (ops : Array Oper) (L : Array Bool) : Bool := (List.range ops.size).all fun x => !L.getD x false || (ops[x]?.all fun o => o.after.all fun e => !Region.binds md e || L.getD e.on false)
theorem closedB_spec {L : Array Bool} (h : closedB md ops L = true) : Closed md ops L := fun x o ho hx e he hb => by
  unfold closedB at h
  rw [List.all_eq_true] at h
  have hxs : x < ops.size := (Array.getElem?_eq_some_iff.1 ho).1
  have h1 := h x (by simpa using hxs)
  rw [hx, ho] at h1
  simp only [Bool.not_true, Bool.false_or, Option.all_some, Array.all_eq_true_iff_forall_mem] at h1
  have h2 := h1 e he
  rw [hb] at h2
  simpa using h2
theorem Closed.set {L : Array Bool} {j : Nat} (h : Closed md ops L) (hj : j ∈ Region.ready md ops L) : Closed md ops (L.setIfInBounds j true) := fun x o ho hx e he hb => by
  have key : L.getD e.on false = true := by
    by_cases hxj : x = j
    · subst hxj
      obtain ⟨_, o', ho', hall⟩ := mem_ready.1 hj
      rw [ho] at ho'
      injection ho' with ho'
      subst ho'
      exact hall e he hb
    · refine h x o ho ?_ e he hb
      rwa [getD_set_ne false (fun e => hxj e.symm)] at hx
  by_cases hej : e.on = j
  · rw [hej] at key ⊢
    rcases Nat.lt_or_ge j L.size with h' | h'
    · simp [h']
    · simp [Array.getElem?_eq_none h'] at key
  · rw [getD_set_ne false (fun e' => hej e'.symm)]; exact key

/-- x can't come up before i. -/
def mustB (md : Region.Mode) (ops : Array Oper) (i : Nat) : Nat → Nat → Bool
  | 0, _ => false
  | f + 1, x => (ops[x]?.any fun o => o.after.any fun e => Region.binds md e && (e.on == i || mustB md ops i f e.on))
theorem mustB_spec {i : Nat} {L : Array Bool} (hc : Closed md ops L) : ∀ (f x : Nat) (o : Oper), ops[x]? = some o → mustB md ops i f x = true → (∀ e ∈ o.after, Region.binds md e = true → L.getD e.on false = true) → L.getD i false = true
  | 0, x, o, ho, h, _ => by simp [mustB] at h
  | f + 1, x, o, ho, h, hall => by
    rw [mustB, ho, Option.any_some, Array.any_eq_true'] at h
    obtain ⟨e, he, h1⟩ := h
    rw [Bool.and_eq_true, Bool.or_eq_true, beq_iff_eq] at h1
    have h2 := hall e he h1.1
    rcases h1.2 with h3 | h3
    · rw [← h3]; exact h2
    · have hex : ∃ o', ops[e.on]? = some o' := by
        cases f with
        | zero => simp [mustB] at h3
        | succ f =>
          rw [mustB] at h3
          cases hq : ops[e.on]? with
          | none => rw [hq] at h3; simp at h3
          | some o' => exact ⟨o', rfl⟩
      obtain ⟨o', ho'⟩ := hex
      exact mustB_spec hc f e.on o' ho' h3 (hc e.on o' ho' h2)

theorem getD_un {listed : Array Bool} {i : Nat} (h : listed.getD i true = false) : listed.getD i false = false := by
  rcases Nat.lt_or_ge i listed.size with h' | h'
  · simpa [h'] using h
  · simp [Array.getElem?_eq_none h']
theorem getD_set_of {L : Array Bool} {i t : Nat} (h : (L.setIfInBounds i true).getD t false = true) (ht : t ≠ i) : L.getD t false = true := by
  rwa [getD_set_ne false (fun e => ht e.symm)] at h
theorem phB_set {tail : List Nat} {L : Array Bool} {i : Nat} (hi : tail.contains i = false) : phB tail (L.setIfInBounds i true) = phB tail L := by
  unfold phB
  induction tail with
  | nil => rfl
  | cons t tl ih =>
    simp only [List.contains_cons, Bool.or_eq_false_iff, beq_eq_false_iff_ne] at hi
    simp only [List.any_cons]
    rw [ih hi.2, getD_set_ne false hi.1]

theorem wpAnyP_first {Q : Exit → Act → World → Prop} {tail : List Nat} {S2 S T : World → Prop} {i : Nat} {oi : Oper} {v : Value} {f : Nat} (hi : ops[i]? = some oi) (hsel : ∀ (j : Nat) (o : Oper) cs b, ops[j]? = some o → o.op ≠ .select cs b)
    (hQ : ∀ c a w, Q (.panic c) (a.put oi.dst v) w → Q (.panic c) a w) (hit : tail.contains i = false)
    (hT : (∀ w, S2 w → T w) ∨ ((∀ w, S w → T w) ∧ ∀ t ∈ tail, mustB md ops i f t = true)) :
    ∀ (fuel : Nat) (listed : Array Bool) (a : Act) (w : World), Closed md ops listed →
      (∀ j oj, ops[j]? = some oj → j ≠ i → listed.getD j true = false → (∀ e ∈ oj.after, Region.binds md e = true → e.on ≠ i) → oi.apart ops oj = true) →
      i ∈ Region.ready md ops listed → YieldsIf P ops T oi v a → T w → S2 w → (phB tail listed = false → S w) →
      wpAnyP P md ops Q tail S2 S fuel (listed.setIfInBounds i true) (a.put oi.dst v) w → wpAnyP P md ops Q tail S2 S (fuel + 1) listed a w := by
  intro fuel
  induction fuel with
  | zero =>
    intro listed a w hcl _ hr hy hTw hS2 hSw H
    refine ⟨fun h => (by rw [h] at hr; cases hr), fun j hj => ?_⟩
    by_cases hji : j = i
    · subst hji
      exact hy.wpOp hi hTw ⟨⟨hS2, fun hp => hSw (by rwa [phB_set hit] at hp)⟩, H⟩
    · have := ready_mono hj hji
      rw [H.1] at this
      cases this
  | succ fuel ih =>
    intro listed a w hcl hfree hr hy hTw hS2 hSw H
    refine ⟨fun h => (by rw [h] at hr; cases hr), fun j hj => ?_⟩
    by_cases hji : j = i
    · subst hji
      exact hy.wpOp hi hTw ⟨⟨hS2, fun hp => hSw (by rwa [phB_set hit] at hp)⟩, H⟩
    · have h1 := H.2 j (ready_mono hj hji)
      obtain ⟨hjun, oj, hoj, hall⟩ := mem_ready.1 hj
      have hiun : listed.getD i false = false := getD_un (mem_ready.1 hr).1
      have hnot : ∀ e ∈ oj.after, Region.binds md e = true → e.on ≠ i := fun e he hb heq => by
        have h1 := hall e he hb
        rw [heq, hiun] at h1
        cases h1
      have hph : (∀ t ∈ tail, mustB md ops i f t = true) → phB tail (listed.setIfInBounds j true) = false := fun hm => by
        unfold phB
        rw [List.any_eq_false]
        intro t ht hlt
        have hmt := hm t ht
        have : ∃ ot, ops[t]? = some ot := by
          cases f with
          | zero => simp [mustB] at hmt
          | succ f =>
            rw [mustB] at hmt
            cases hq : ops[t]? with
            | none => rw [hq] at hmt; simp at hmt
            | some o' => exact ⟨o', rfl⟩
        obtain ⟨ot, hot⟩ := this
        have hti : listed.getD i false = true := by
          by_cases htj : t = j
          · subst htj
            rw [hoj] at hot
            injection hot with hot
            subst hot
            exact mustB_spec hcl f t oj hoj hmt hall
          · rw [getD_set_ne false (fun e => htj e.symm)] at hlt
            exact mustB_spec hcl f t ot hot hmt (hcl t ot hot hlt)
        rw [hiun] at hti
        cases hti
      have h2 := wpOp_putIf hoj (hfree j oj hoj hji hjun hnot) (fun cs b => hsel i oi cs b hi) (fun cs b => hsel j oj cs b hoj) hQ hy h1
      have hfree' : ∀ k ok, ops[k]? = some ok → k ≠ i → (listed.setIfInBounds j true).getD k true = false →
          (∀ e ∈ ok.after, Region.binds md e = true → e.on ≠ i) → oi.apart ops ok = true := fun k ok hk hki hun hno => by
        refine hfree k ok hk hki ?_ hno
        by_cases hjk : j = k
        · subst hjk; exact hjun
        · rw [getD_set_ne true hjk] at hun; exact hun
      refine wpOp_mono (fun a' w' h3 => ?_) h2
      obtain ⟨h3y, ⟨h3t, h3s⟩, h3w⟩ := h3
      rw [Array.setIfInBounds_comm _ _ (fun e => hji e.symm)] at h3s h3w
      rw [phB_set hit] at h3s
      exact ⟨⟨h3t, h3s⟩, ih (listed.setIfInBounds j true) a' w' (hcl.set hj) hfree' (ready_mono hr (Ne.symm hji)) h3y (hT.elim (fun h => h w' h3t) fun h => h.1 w' (h3s (hph h.2))) h3t h3s h3w⟩
theorem wpAnyP_all {Q : Exit → Act → World → Prop} {tail : List Nat} {S2 S : World → Prop} {i : Nat} {fuel : Nat} {listed : Array Bool} {a : Act} {w : World} (hr : Region.ready md ops listed = [i])
    (h : wpOp P ops Q i (fun a' w' => (S2 w' ∧ (phB tail (listed.setIfInBounds i true) = false → S w')) ∧ wpAnyP P md ops Q tail S2 S fuel (listed.setIfInBounds i true) a' w') a w) : wpAnyP P md ops Q tail S2 S (fuel + 1) listed a w :=
  ⟨fun h0 => by rw [hr] at h0; simp at h0, fun j hj => by rw [hr] at hj; obtain rfl : j = i := by simpa using hj
                                                          exact h⟩
theorem wpAnyP_done {Q : Exit → Act → World → Prop} {tail : List Nat} {S2 S : World → Prop} {listed : Array Bool} {a : Act} {w : World} (hr : Region.ready md ops listed = []) (h : Q .normal a w) : ∀ fuel, wpAnyP P md ops Q tail S2 S fuel listed a w
  | 0 => ⟨hr, h⟩
  | _ + 1 => ⟨fun _ => h, by rw [hr]; simp⟩
/-- One operation that comes up alone. -/
theorem wpOp_alone {l : List Oper} {Q : Exit → Act → World → Prop} {i : Nat} {o : Oper} {a : Act} {w : World} {K : Act → World → Prop} (hio : l.toArray[i]? = some o)
    (h : wpList P l.toArray (onlyNormal fun _ a' w' => K a' w') [o] a w) : wpOp P l.toArray Q i K a w := by
  unfold wpOp
  simp only [hio]
  unfold wpList at h
  split
  · rename_i hw
    simp only [hw, if_true] at h
    rcases h with h1 | ⟨_, ⟨_, _, hb⟩⟩
    · exact .inl (Oper.wp_monoQ (fun x _ _ hn hx => by cases x <;> first | exact hx.elim | exact absurd rfl hn) (Oper.wp_mono (fun a' w' hk => hk) h1))
    · exact hb.elim
  · rename_i hw
    simp only [hw] at h
    exact h

/-- The old blocks below N are as they were, but for those of pv. -/
structure Wk (N : Nat) (pv : List Nat) (w w' : World) : Prop where
  size : w.heap.size ≤ w'.heap.size
  block : ∀ b, b < N → b ∉ pv → w'.heap[b]? = w.heap[b]?
theorem Wk.refl (N : Nat) (pv : List Nat) (w : World) : Wk N pv w w := ⟨Nat.le_refl _, fun _ _ _ => rfl⟩
theorem Wk.trans {N : Nat} {pv : List Nat} {a b c : World} (h : Wk N pv a b) (k : Wk N pv b c) : Wk N pv a c := ⟨Nat.le_trans h.size k.size, fun i hi hn => (k.block i hi hn).trans (h.block i hi hn)⟩
theorem Wk.of {N : Nat} {pv : List Nat} {w w' : World} (h : Below N w w') : Wk N pv w w' := ⟨h.size, fun b hb _ => h.block b hb⟩
structure BelOf (N : Nat) (w : World) where
  to : World
  h : Below N w to
structure WkOf (N : Nat) (pv : List Nat) (w : World) where
  to : World
  h : Wk N pv w to
instance (N : Nat) (w : World) : Inhabited (BelOf N w) := ⟨⟨w, Below.refl _ _⟩⟩
instance (N : Nat) (pv : List Nat) (w : World) : Inhabited (WkOf N pv w) := ⟨⟨w, Wk.refl _ _ _⟩⟩
abbrev KnB (N : Nat) (w : World) (b o : Nat) (v : Value) : Prop := ∀ e : BelOf N w, e.to.cell? ⟨b, o, none⟩ = some v
abbrev KnW (N : Nat) (pv : List Nat) (w : World) (b o : Nat) (v : Value) : Prop := ∀ e : WkOf N pv w, e.to.cell? ⟨b, o, none⟩ = some v
theorem Kn.b {N : Nat} {w : World} {b o : Nat} {v : Value} (h : Kn w b o v) (hb : b < N) : KnB N w b o v := fun e => (World.cell?_of_block (e.h.block b hb)).trans (h ⟨w, Below.refl _ _⟩)
theorem Kn.w {N : Nat} {pv : List Nat} {w : World} {b o : Nat} {v : Value} (h : Kn w b o v) (hb : b < N) (hn : b ∉ pv) : KnW N pv w b o v := fun e => (World.cell?_of_block (e.h.block b hb hn)).trans (h ⟨w, Below.refl _ _⟩)
theorem KnB.go {N : Nat} {w w' : World} {b o : Nat} {v : Value} (h : KnB N w b o v) (hx : Below N w w') : KnB N w' b o v := fun e => h ⟨e.to, hx.trans e.h⟩
theorem KnW.go {N : Nat} {pv : List Nat} {w w' : World} {b o : Nat} {v : Value} (h : KnW N pv w b o v) (hx : Wk N pv w w') : KnW N pv w' b o v := fun e => h ⟨e.to, hx.trans e.h⟩
/-- What is left of a region before its first write of an old block. -/
def wpT1 (P : Program) (ops : Array Oper) (Q : Exit → Act → World → Prop) (tail : List Nat) (N : Nat) (pv : List Nat) (fuel : Nat) (listed : Array Bool) (a : Act) (w : World) : Prop :=
  ∀ S2 S : World → Prop, (∀ w', Wk N pv w w' → S2 w') → (∀ w', Below N w w' → S w') → wpAnyP P .any ops (onlyNormal Q) tail S2 S fuel listed a w
def wpT2 (P : Program) (ops : Array Oper) (Q : Exit → Act → World → Prop) (tail : List Nat) (N : Nat) (pv : List Nat) (fuel : Nat) (listed : Array Bool) (a : Act) (w : World) : Prop :=
  ∀ S2 S : World → Prop, (∀ w', Wk N pv w w' → S2 w') → wpAnyP P .any ops (onlyNormal Q) tail S2 S fuel listed a w
theorem wp_region_tail {id : Nat} {Q : Exit → Act → World → Prop} {a : Act} {w : World} (e0 : ExtOf w) {l : List Oper} (tail : List Nat) (N : Nat) (pv : List Nat) (hm : P.follows .mixedOrders = true) (n : Nat) (hn : (l.length == n) = true)
    (h : ∀ w1, Ext w w1 → wpT1 P l.toArray Q tail N pv n (List.replicate n false).toArray a w1) : (Code.region id l.toArray true).wp P Q a e0.to := by
  refine wp_region_any hm ?_
  have h1 := h e0.to.drew e0.h.drew (fun _ => True) (fun _ => True) (fun _ _ => trivial) (fun _ _ => trivial)
  rw [beq_iff_eq] at hn
  have : l.toArray.size = n := by simpa using hn
  rw [this]
  have hr : Array.replicate n false = (List.replicate n false).toArray := by simp
  rw [hr]
  exact wpAny_monoQ (fun e a w hq => by cases e <;> first | exact hq | exact hq.elim) _ _ _ _ (wpAny_of_P _ _ _ _ h1)
theorem key_of {Q : Act → Prop} {l : List Oper} {C : World → Prop} {o : Oper} {a : Act} (hv : vOp o.op = true) (h : wpQuiet P l.toArray C Q [o] a) : ∃ v, YieldsIf P l.toArray C o v a ∧ Q (a.put o.dst v) := by
  unfold wpQuiet at h
  split at h
  · rename_i hw
    obtain ⟨v, h1, h2⟩ := h
    exact ⟨v, .inl ⟨hw, fun w' hw' => quietAt_value hv (h1 w' hw')⟩, h2⟩
  · rename_i hw
    exact ⟨undef, .inr ⟨by simpa using hw, rfl⟩, h⟩
def takeOk (l : List Oper) (listed : Array Bool) (tail : List Nat) (i : Nat) (o : Oper) : Bool :=
  vOp o.op && Region.noSelect l.toArray && Region.free .any l.toArray listed i && (Region.ready .any l.toArray listed).contains i && !tail.contains i && closedB .any l.toArray listed
/-- How an operation's value is known: 0: in all worlds; 1: in those with the old blocks but pv; 2: in those with all old blocks (and every write of an old block waits for it). -/
def Cls (N : Nat) (pv : List Nat) (w : World) : Nat → World → Prop
  | 0 => fun w' => ∃ e : World, w' = e
  | 1 => fun w' => ∃ e : WkOf N pv w, w' = e.to
  | _ => fun w' => ∃ e : BelOf N w, w' = e.to
theorem Cls.self (N : Nat) (pv : List Nat) (w : World) (k : Nat) : Cls N pv w k w := by
  match k with
  | 0 => exact ⟨w, rfl⟩
  | 1 => exact ⟨⟨w, Wk.refl _ _ _⟩, rfl⟩
  | k + 2 => exact ⟨⟨w, Below.refl _ _⟩, rfl⟩
theorem Cls.go {N : Nat} {pv : List Nat} {w w1 : World} (h : Below N w w1) (k : Nat) (w' : World) (hc : Cls N pv w1 k w') : Cls N pv w k w' := by
  match k with
  | 0 => exact hc
  | 1 => obtain ⟨e, rfl⟩ := hc; exact ⟨⟨e.to, (Wk.of h).trans e.h⟩, rfl⟩
  | k + 2 => obtain ⟨e, rfl⟩ := hc; exact ⟨⟨e.to, h.trans e.h⟩, rfl⟩
theorem t1_key {Q : Exit → Act → World → Prop} {l : List Oper} {tail : List Nat} {N : Nat} {pv : List Nat} {fuel : Nat} {listed : Array Bool} {a : Act} {w : World} (k i : Nat) {o : Oper} (hi : l[i]? = some o) {v : Value}
    (hc : (takeOk l listed tail i o && (k < 2 || tail.all fun t => mustB .any l.toArray i l.length t)) = true)
    (hy : YieldsIf P l.toArray (Cls N pv w k) o v a) (hg : wpT1 P l.toArray Q tail N pv fuel (listed.setIfInBounds i true) (a.put o.dst v) w) : wpT1 P l.toArray Q tail N pv (fuel + 1) listed a w := by
  unfold takeOk at hc
  simp only [Bool.and_eq_true, Bool.not_eq_true', Bool.or_eq_true, decide_eq_true_eq] at hc
  obtain ⟨⟨⟨⟨⟨⟨hv, hs⟩, hf⟩, hr⟩, hit⟩, hcl⟩, hm⟩ := hc
  have hio : l.toArray[i]? = some o := by simpa using hi
  intro S2 S hS2 hS
  refine wpAnyP_mono (S2 := Wk N pv w) (S := Below N w) hS2 hS _ _ _ _ ?_
  refine wpAnyP_first (T := Cls N pv w k) (f := l.length) hio (Region.noSelect_spec hs) (fun _ _ _ h => h) hit ?_ fuel listed a w (closedB_spec hcl) (Region.free_spec hio hf) (by simpa using hr) hy (Cls.self _ _ _ _) (Wk.refl _ _ _) (fun _ => Below.refl _ _) (hg _ _ (fun _ h => h) (fun _ h => h))
  match k, hm with
  | 0, _ => exact .inl fun w _ => ⟨w, rfl⟩
  | 1, _ => exact .inl fun w h => ⟨⟨w, h⟩, rfl⟩
  | k + 2, hm =>
    refine .inr ⟨fun w h => ⟨⟨w, h⟩, rfl⟩, fun t ht => ?_⟩
    rcases hm with hm | hm
    · omega
    · rw [List.all_eq_true] at hm; exact hm t ht
theorem t1_take {Q : Exit → Act → World → Prop} {l : List Oper} {tail : List Nat} {N : Nat} {pv : List Nat} {fuel : Nat} {listed : Array Bool} {a : Act} {w : World} (i : Nat) {o : Oper} (hi : l[i]? = some o)
    (hc : (vOp o.op && (takeOk l listed tail i o && (decide (2 < 2) || tail.all fun t => mustB .any l.toArray i l.length t))) = true)
    (h : wpQuiet P l.toArray (fun w' => ∃ e : BelOf N w, w' = e.to) (fun a' => wpT1 P l.toArray Q tail N pv fuel (listed.setIfInBounds i true) a' w) [o] a) : wpT1 P l.toArray Q tail N pv (fuel + 1) listed a w := by
  rw [Bool.and_eq_true] at hc
  obtain ⟨v, hy, hg⟩ := key_of hc.1 h
  exact t1_key 2 i hi hc.2 hy hg
theorem t1_weak {Q : Exit → Act → World → Prop} {l : List Oper} {tail : List Nat} {N : Nat} {pv : List Nat} {fuel : Nat} {listed : Array Bool} {a : Act} {w : World} (i : Nat) {o : Oper} (hi : l[i]? = some o)
    (hc : (vOp o.op && (takeOk l listed tail i o && (decide (1 < 2) || tail.all fun t => mustB .any l.toArray i l.length t))) = true)
    (h : wpQuiet P l.toArray (fun w' => ∃ e : WkOf N pv w, w' = e.to) (fun a' => wpT1 P l.toArray Q tail N pv fuel (listed.setIfInBounds i true) a' w) [o] a) : wpT1 P l.toArray Q tail N pv (fuel + 1) listed a w := by
  rw [Bool.and_eq_true] at hc
  obtain ⟨v, hy, hg⟩ := key_of hc.1 h
  exact t1_key 1 i hi hc.2 hy hg
theorem t1_pure {Q : Exit → Act → World → Prop} {l : List Oper} {tail : List Nat} {N : Nat} {pv : List Nat} {fuel : Nat} {listed : Array Bool} {a : Act} {w : World} (i : Nat) {o : Oper} (hi : l[i]? = some o)
    (hc : (vOp o.op && (takeOk l listed tail i o && (decide (0 < 2) || tail.all fun t => mustB .any l.toArray i l.length t))) = true)
    (h : wpQuiet P l.toArray (fun w' => ∃ e : World, w' = e) (fun a' => wpT1 P l.toArray Q tail N pv fuel (listed.setIfInBounds i true) a' w) [o] a) : wpT1 P l.toArray Q tail N pv (fuel + 1) listed a w := by
  rw [Bool.and_eq_true] at hc
  obtain ⟨v, hy, hg⟩ := key_of hc.1 h
  exact t1_key 0 i hi hc.2 hy hg
theorem t2_key {Q : Exit → Act → World → Prop} {l : List Oper} {tail : List Nat} {N : Nat} {pv : List Nat} {fuel : Nat} {listed : Array Bool} {a : Act} {w : World} (k i : Nat) {o : Oper} (hi : l[i]? = some o) {v : Value}
    (hc : (takeOk l listed tail i o && phB tail listed && decide (k < 2)) = true)
    (hy : YieldsIf P l.toArray (Cls N pv w k) o v a) (hg : wpT2 P l.toArray Q tail N pv fuel (listed.setIfInBounds i true) (a.put o.dst v) w) : wpT2 P l.toArray Q tail N pv (fuel + 1) listed a w := by
  unfold takeOk at hc
  simp only [Bool.and_eq_true, Bool.not_eq_true', decide_eq_true_eq] at hc
  obtain ⟨⟨⟨⟨⟨⟨⟨hv, hs⟩, hf⟩, hr⟩, hit⟩, hcl⟩, hp⟩, hk⟩ := hc
  have hio : l.toArray[i]? = some o := by simpa using hi
  intro S2 S hS2
  refine wpAnyP_mono (S2 := Wk N pv w) (S := S) hS2 (fun _ h => h) _ _ _ _ ?_
  refine wpAnyP_first (T := Cls N pv w k) (f := 0) hio (Region.noSelect_spec hs) (fun _ _ _ h => h) hit ?_ fuel listed a w (closedB_spec hcl) (Region.free_spec hio hf) (by simpa using hr) hy (Cls.self _ _ _ _) (Wk.refl _ _ _) (fun h0 => by rw [hp] at h0; cases h0) (hg _ _ (fun _ h => h))
  match k, hk with
  | 0, _ => exact .inl fun w _ => ⟨w, rfl⟩
  | 1, _ => exact .inl fun w h => ⟨⟨w, h⟩, rfl⟩
theorem t2_pure {Q : Exit → Act → World → Prop} {l : List Oper} {tail : List Nat} {N : Nat} {pv : List Nat} {fuel : Nat} {listed : Array Bool} {a : Act} {w : World} (i : Nat) {o : Oper} (hi : l[i]? = some o)
    (hc : (vOp o.op && (takeOk l listed tail i o && phB tail listed && decide (0 < 2))) = true)
    (h : wpQuiet P l.toArray (fun w' => ∃ e : World, w' = e) (fun a' => wpT2 P l.toArray Q tail N pv fuel (listed.setIfInBounds i true) a' w) [o] a) : wpT2 P l.toArray Q tail N pv (fuel + 1) listed a w := by
  rw [Bool.and_eq_true] at hc
  obtain ⟨v, hy, hg⟩ := key_of hc.1 h
  exact t2_key 0 i hi hc.2 hy hg
theorem t2_weak {Q : Exit → Act → World → Prop} {l : List Oper} {tail : List Nat} {N : Nat} {pv : List Nat} {fuel : Nat} {listed : Array Bool} {a : Act} {w : World} (i : Nat) {o : Oper} (hi : l[i]? = some o)
    (hc : (vOp o.op && (takeOk l listed tail i o && phB tail listed && decide (1 < 2))) = true)
    (h : wpQuiet P l.toArray (fun w' => ∃ e : WkOf N pv w, w' = e.to) (fun a' => wpT2 P l.toArray Q tail N pv fuel (listed.setIfInBounds i true) a' w) [o] a) : wpT2 P l.toArray Q tail N pv (fuel + 1) listed a w := by
  rw [Bool.and_eq_true] at hc
  obtain ⟨v, hy, hg⟩ := key_of hc.1 h
  exact t2_key 1 i hi hc.2 hy hg
/-- Nothing but number i can come up, and it leaves the old blocks as they were. -/
theorem t1_only {Q : Exit → Act → World → Prop} {l : List Oper} {tail : List Nat} {N : Nat} {pv : List Nat} {fuel : Nat} {listed : Array Bool} {a : Act} {w : World} (i : Nat) {o : Oper} (hi : l[i]? = some o)
    (hc : (Region.ready .any l.toArray listed == [i]) = true)
    (h : ∀ e : ExtOf w, e.to = w → wpList P l.toArray (onlyNormal fun _ a' w' => Below N e.to w' ∧ wpT1 P l.toArray Q tail N pv fuel (listed.setIfInBounds i true) a' w') [o] a e.to) : wpT1 P l.toArray Q tail N pv (fuel + 1) listed a w := by
  rw [beq_iff_eq] at hc
  have hio : l.toArray[i]? = some o := by simpa using hi
  intro S2 S hS2 hS
  refine wpAnyP_all hc (wpOp_mono (fun a' w' hk => ?_) (wpOp_alone hio (h ⟨w, Below.refl _ _⟩ rfl)))
  obtain ⟨hx, hg⟩ := hk
  exact ⟨⟨hS2 _ (Wk.of hx), fun _ => hS _ hx⟩, hg S2 S (fun w2 h2 => hS2 _ ((Wk.of hx).trans h2)) (fun w2 h2 => hS _ (hx.trans h2))⟩
/-- The first write of an old block. -/
theorem t1_store {Q : Exit → Act → World → Prop} {l : List Oper} {tail : List Nat} {N : Nat} {pv : List Nat} {fuel : Nat} {listed : Array Bool} {a : Act} {w : World} (i : Nat) {o : Oper} (hi : l[i]? = some o)
    (hc : (Region.ready .any l.toArray listed == [i] && phB tail (listed.setIfInBounds i true)) = true)
    (h : ∀ e : ExtOf w, e.to = w → wpList P l.toArray (onlyNormal fun _ a' w' => Wk N pv e.to w' ∧ wpT2 P l.toArray Q tail N pv fuel (listed.setIfInBounds i true) a' w') [o] a e.to) : wpT1 P l.toArray Q tail N pv (fuel + 1) listed a w := by
  rw [Bool.and_eq_true, beq_iff_eq] at hc
  have hio : l.toArray[i]? = some o := by simpa using hi
  intro S2 S hS2 hS
  refine wpAnyP_all hc.1 (wpOp_mono (fun a' w' hk => ?_) (wpOp_alone hio (h ⟨w, Below.refl _ _⟩ rfl)))
  exact ⟨⟨hS2 _ hk.1, fun h0 => (by rw [hc.2] at h0; cases h0)⟩, hk.2 S2 S (fun w2 h2 => hS2 _ (hk.1.trans h2))⟩
theorem t2_only {Q : Exit → Act → World → Prop} {l : List Oper} {tail : List Nat} {N : Nat} {pv : List Nat} {fuel : Nat} {listed : Array Bool} {a : Act} {w : World} (i : Nat) {o : Oper} (hi : l[i]? = some o)
    (hc : (Region.ready .any l.toArray listed == [i] && phB tail (listed.setIfInBounds i true)) = true)
    (h : wpList P l.toArray (onlyNormal fun _ a' w' => Wk N pv w w' ∧ wpT2 P l.toArray Q tail N pv fuel (listed.setIfInBounds i true) a' w') [o] a w) : wpT2 P l.toArray Q tail N pv (fuel + 1) listed a w := by
  rw [Bool.and_eq_true, beq_iff_eq] at hc
  have hio : l.toArray[i]? = some o := by simpa using hi
  intro S2 S hS2
  refine wpAnyP_all hc.1 (wpOp_mono (fun a' w' hk => ?_) (wpOp_alone hio h))
  exact ⟨⟨hS2 _ hk.1, fun h0 => (by rw [hc.2] at h0; cases h0)⟩, hk.2 S2 S (fun w2 h2 => hS2 _ (hk.1.trans h2))⟩
theorem t2_done {Q : Exit → Act → World → Prop} {l : List Oper} {tail : List Nat} {N : Nat} {pv : List Nat} {fuel : Nat} {listed : Array Bool} {a : Act} {w : World} (hr : (Region.ready .any l.toArray listed == []) = true)
    (h : Q .normal a w) : wpT2 P l.toArray Q tail N pv fuel listed a w := fun _ _ _ => wpAnyP_done (by simpa using hr) (show onlyNormal Q .normal a w from h) fuel
theorem t1_done {Q : Exit → Act → World → Prop} {l : List Oper} {tail : List Nat} {N : Nat} {pv : List Nat} {fuel : Nat} {listed : Array Bool} {a : Act} {w : World} (hr : (Region.ready .any l.toArray listed == []) = true)
    (h : ∀ e : ExtOf w, e.to = w → Q .normal a e.to) : wpT1 P l.toArray Q tail N pv fuel listed a w := fun _ _ _ _ => wpAnyP_done (by simpa using hr) (show onlyNormal Q .normal a w from h ⟨w, Below.refl _ _⟩ rfl) fuel
end
end Go.Tr
