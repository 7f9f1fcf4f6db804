/- Regions whose order is open, in which loads stand next to calls that make memory: the loads are taken first, the calls come one after the other. No program in it. -/
import Derived.Test.YthciaodffkbljaaGreatQuiet
import Derived.OrdersHeld
set_option linter.unusedSimpArgs false
set_option linter.unusedVariables false
namespace Go.Tr
open Go Go.RowKit

/-- An operation that hands back a value and does nothing else, if it does not stop. -/
def vOp : Op → Bool
  | .move _ | .assign _ | .pick .. | .load .. | .binOp .. | .unOp .. | .convert .. | .fieldAddr .. | .field .. | .indexAddr .. | .index .. | .extract .. | .slice .. | .lookup .. | .build .. | .makeInterface .. | .makeFunc .. => true
  | .nilCheck _ => true
  | .call { callee := .builtin .len, .. } | .call { callee := .builtin .cap, .. } => true
  | _ => false
theorem run_v {P : Program} {s : Sem Value} {w w' : World} {n : Next} (h : (do pure (Next.value (← s)) : Sem Next).run P w = .ok n w') : ∃ u, n = .value u := by
  rw [Sem.run_bind] at h
  cases hs : s.run P w with
  | ok x w'' => rw [hs] at h; simp only [Result.andThen, Sem.run_pure] at h; injection h with h1 h2; exact ⟨x, h1.symm⟩
  | halt x w'' => rw [hs] at h; simp [Result.andThen] at h
theorem vOp_value {P : Program} {o : Oper} {ρ : Operand → Value} {w w' : World} {n : Next} (hv : vOp o.op = true) (h : (execOp ρ o).run P w = .ok n w') : ∃ u, n = .value u := by
  unfold execOp at h
  cases hop : o.op with
  | move x => rw [hop] at h; dsimp only at h; rw [Sem.run_pure] at h; injection h with h1 h2; exact ⟨_, h1.symm⟩
  | assign x => rw [hop] at h; dsimp only at h; rw [Sem.run_pure] at h; injection h with h1 h2; exact ⟨_, h1.symm⟩
  | pick c a b =>
    rw [hop] at h
    dsimp only at h
    rw [Sem.run_bind] at h
    cases hs : (asBool (ρ c)).run P w with
    | ok x w'' => rw [hs] at h; simp only [Result.andThen, Sem.run_pure] at h; injection h with h1 h2; exact ⟨_, h1.symm⟩
    | halt x w'' => rw [hs] at h; simp [Result.andThen] at h
  | nilCheck x =>
    rw [hop] at h
    dsimp only at h
    split at h
    all_goals first
      | (simp [runtimePanic, goPanic, go_sem] at h; done)
      | (rw [Sem.run_pure] at h; injection h with h1 h2; exact ⟨_, h1.symm⟩)
      | skip
    split at h
    · simp [runtimePanic, goPanic, go_sem] at h
    · rw [Sem.run_bind] at h
      revert h
      generalize (program).run P w = r
      intro h
      cases r with
      | halt x w'' => simp [Result.andThen] at h
      | ok p w'' =>
        simp only [Result.andThen] at h
        rw [Sem.run_bind] at h
        revert h
        generalize Sem.run P (nilAhead _ _ _ _) w'' = r2
        intro h
        cases r2 with
        | halt x w3 => simp [Result.andThen] at h
        | ok q w3 =>
          simp only [Result.andThen] at h
          split at h
          · simp [unsupported, go_sem] at h
          · rw [Sem.run_pure] at h; injection h with h1 h2; exact ⟨_, h1.symm⟩
    · rw [Sem.run_pure] at h; injection h with h1 h2; exact ⟨_, h1.symm⟩
  | call c =>
    obtain ⟨callee, args, argTypes⟩ := c
    rw [hop] at h hv
    cases callee with
    | builtin b =>
      cases b <;> simp only [vOp, Bool.false_eq_true] at hv
      all_goals
        dsimp only at h
        rw [Sem.run_bind] at h
        simp only [resolve, Sem.run_pure, Result.andThen, invoke, builtin] at h
        exact run_v h
    | _ => simp [vOp] at hv
  | _ =>
    rw [hop] at h hv
    first
      | (simp only [vOp, Bool.false_eq_true] at hv; done)
      | (dsimp only at h; exact run_v h)

theorem quietAt_value {P : Program} {o : Oper} {a : Act} {C : World → Prop} {w : World} {v : Value} (hv : vOp o.op = true) (h : o.quietAt P a C w v) : (execOp a.eval o).run P w = .ok (.value v) w := by
  unfold Oper.quietAt at h
  generalize hr : (execOp a.eval o).run P w = r at h
  cases r with
  | halt x w' => simp only [Oper.quietUpon] at h
  | ok n w' =>
    obtain ⟨u, rfl⟩ := vOp_value hv hr
    simp only [Oper.quietUpon] at h
    rw [h.1, h.2]

section
variable {P : Program} {ops : Array Oper} {md : Region.Mode}
theorem Oper.wp_monoQ {o : Oper} {a : Act} {w : World} {K : Act → World → Prop} {Q Q' : Exit → Act → World → Prop} (h : ∀ e a w, e ≠ .normal → Q e a w → Q' e a w) (hh : o.wp P a w K Q) : o.wp P a w K Q' := by
  unfold Oper.wp at *
  generalize (execOp a.eval o).run P w = r at *
  cases r with
  | ok n w' =>
    cases n <;> simp only [Oper.upon] at hh ⊢ <;>
      first
        | exact hh
        | exact Calls.mono hh (fun e w'' he => by cases e <;> first | exact he | exact h _ _ _ (by simp) he | exact he.imp fun _ he => he.imp fun _ he => h _ _ _ (by simp) he)
        | exact Rows.mono hh (fun _ _ he => he)
  | halt x w' => cases x <;> simp only [Oper.upon] at hh ⊢ <;> first | exact hh | exact h _ _ _ (by simp) hh
theorem wpOp_monoQ {i : Nat} {a : Act} {w : World} {K : Act → World → Prop} {Q Q' : Exit → Act → World → Prop} (h : ∀ e a w, Q e a w → Q' e a w) (hh : wpOp P ops Q i K a w) : wpOp P ops Q' i K a w := by
  unfold wpOp at *
  split
  · simpa [*] using hh
  · rename_i o ho
    simp only [ho] at hh
    split
    · rename_i hw
      simp only [hw, if_true] at hh
      exact hh.imp (Oper.wp_monoQ fun e a w _ => h e a w) (fun ⟨x, a, w, q⟩ => ⟨x, a, w, h _ _ _ q⟩)
    · rename_i hw; simpa only [hw, Bool.false_eq_true, if_false] using hh
theorem wpAny_monoQ {Q Q' : Exit → Act → World → Prop} (h : ∀ e a w, Q e a w → Q' e a w) : ∀ (fuel : Nat) (listed : Array Bool) (a : Act) (w : World), wpAny P md ops Q fuel listed a w → wpAny P md ops Q' fuel listed a w
  | 0, _, _, _, hh => ⟨hh.1, h _ _ _ hh.2⟩
  | fuel + 1, _, _, _, hh => ⟨fun h0 => h _ _ _ (hh.1 h0), fun i hi => wpOp_mono (fun a' w' => wpAny_monoQ h fuel _ a' w') (wpOp_monoQ h (hh.2 i hi))⟩
theorem wpAnyH_monoS {Q : Exit → Act → World → Prop} {S S' : World → Prop} (h : ∀ w, S w → S' w) : ∀ (fuel : Nat) (listed : Array Bool) (a : Act) (w : World), wpAnyH P md ops Q S fuel listed a w → wpAnyH P md ops Q S' fuel listed a w
  | 0, _, _, _, hh => hh
  | fuel + 1, _, _, _, hh => ⟨hh.1, fun i hi => wpOp_mono (fun a' w' hk => ⟨h _ hk.1, wpAnyH_monoS h fuel _ a' w' hk.2⟩) (hh.2 i hi)⟩

/-- Only the plain way on. -/
def onlyNormal (Q : Exit → Act → World → Prop) : Exit → Act → World → Prop
  | .normal, a, w => Q .normal a w
  | _, _, _ => False
/-- What is left of a region, in all worlds that w has become. -/
def wpGrow (P : Program) (ops : Array Oper) (Q : Exit → Act → World → Prop) (fuel : Nat) (listed : Array Bool) (a : Act) (w : World) : Prop :=
  ∀ S : World → Prop, (∀ e : ExtOf w, S e.to) → ∀ e : ExtOf w, wpAnyH P .any ops (onlyNormal Q) S fuel listed a e.to

theorem wp_region_grow {id : Nat} {Q : Exit → Act → World → Prop} {a : Act} {w : World} (e0 : ExtOf w) {l : List Oper} (hm : P.follows .mixedOrders = true) (n : Nat) (hn : (l.length == n) = true)
    (h : wpGrow P l.toArray Q n (List.replicate n false).toArray a w) : (Code.region id l.toArray true).wp P Q a e0.to := by
  refine wp_region_any hm ?_
  have h1 := h (fun _ => True) (fun _ => trivial) ⟨e0.to.drew, e0.h.drew⟩
  rw [beq_iff_eq] at hn
  have : l.toArray.size = n := by simpa using hn
  rw [this]
  have hr : Array.replicate n false = (List.replicate n false).toArray := by simp
  rw [hr]
  exact wpAny_monoQ (fun e a w hq => by cases e <;> first | exact hq | exact hq.elim) _ _ _ _ (wpAny_of_held _ _ _ _ h1)

/-- Number i is taken first. -/
theorem grow_take {Q : Exit → Act → World → Prop} {l : List Oper} {fuel : Nat} {listed : Array Bool} {a : Act} {w : World} (i : Nat) {o : Oper} (hi : l[i]? = some o)
    (hc : (vOp o.op && Region.noSelect l.toArray && Region.free .any l.toArray listed i && (Region.ready .any l.toArray listed).contains i) = true)
    (h : wpQuiet P l.toArray (fun w' => ∃ e : ExtOf w, w' = e.to) (fun a' => wpGrow P l.toArray Q fuel (listed.setIfInBounds i true) a' w) [o] a) : wpGrow P l.toArray Q (fuel + 1) listed a w := by
  simp only [Bool.and_eq_true] at hc
  obtain ⟨⟨⟨hv, hs⟩, hf⟩, hr⟩ := hc
  have hio : l.toArray[i]? = some o := by simpa using hi
  intro S hS e
  have key : ∃ v, YieldsIf P l.toArray (fun w' => ∃ e : ExtOf w, w' = e.to) o v a ∧ wpGrow P l.toArray Q fuel (listed.setIfInBounds i true) (a.put o.dst v) w := by
    unfold wpQuiet at h
    split at h
    · rename_i hw
      obtain ⟨v, h1, h2⟩ := h
      exact ⟨v, .inl ⟨hw, fun w' hw' => quietAt_value hv (h1 w' hw')⟩, h2⟩
    · rename_i hw
      exact ⟨undef, .inr ⟨by simpa using hw, rfl⟩, h⟩
  obtain ⟨v, hy, hg⟩ := key
  refine wpAnyH_monoS (S := fun w' => ∃ e : ExtOf w, w' = e.to) (fun w' ⟨e', he⟩ => he ▸ hS e') _ _ _ _ ?_
  exact wpAnyH_take hio hs hf hr (fun _ _ _ h => h) hy ⟨e, rfl⟩ (hg _ (fun e' => ⟨e', rfl⟩) e)

/-- Nothing but number i can come up. -/
theorem grow_only {Q : Exit → Act → World → Prop} {l : List Oper} {fuel : Nat} {listed : Array Bool} {a : Act} {w : World} (i : Nat) {o : Oper} (hi : l[i]? = some o)
    (hc : (Region.ready .any l.toArray listed == [i]) = true)
    (h : ∀ e : ExtOf w, wpList P l.toArray (onlyNormal fun _ a' w' => Ext e.to w' ∧ wpGrow P l.toArray Q fuel (listed.setIfInBounds i true) a' w') [o] a e.to) : wpGrow P l.toArray Q (fuel + 1) listed a w := by
  rw [beq_iff_eq] at hc
  have hio : l.toArray[i]? = some o := by simpa using hi
  intro S hS e
  refine wpAnyH_all hc (by simp) (fun j hj => ?_)
  obtain rfl : j = i := by simpa using hj
  have h1 := h e
  have fin : ∀ a' w', (Ext e.to w' ∧ wpGrow P l.toArray Q fuel (listed.setIfInBounds j true) a' w') → S w' ∧ wpAnyH P .any l.toArray (onlyNormal Q) S fuel (listed.setIfInBounds j true) a' w' := fun a' w' ⟨hx, hg⟩ =>
    ⟨hS ⟨w', Ext.trans e.h hx⟩, hg S (fun e' => hS ⟨e'.to, Ext.trans (Ext.trans e.h hx) e'.h⟩) ⟨w', Below.refl _ _⟩⟩
  unfold wpOp
  simp only [hio]
  unfold wpList at h1
  split
  · rename_i hw
    simp only [hw, if_true] at h1
    rcases h1 with h1 | ⟨_, ⟨_, _, hb⟩⟩
    · exact .inl (Oper.wp_monoQ (fun x _ _ hn hx => by cases x <;> first | exact hx.elim | exact absurd rfl hn) (Oper.wp_mono (fun a' w' hk => fin a' w' hk) h1))
    · exact hb.elim
  · rename_i hw
    simp only [hw] at h1
    exact fin _ _ h1
/-- All have come up. -/
theorem grow_done {Q : Exit → Act → World → Prop} {l : List Oper} {fuel : Nat} {listed : Array Bool} {a : Act} {w : World} (hr : (Region.ready .any l.toArray listed == []) = true)
    (h : ∀ e : ExtOf w, Q .normal a e.to) : wpGrow P l.toArray Q fuel listed a w := fun _ _ e =>
  wpAnyH_done (by simpa using hr) (show onlyNormal Q .normal a e.to from h e) fuel
end
end Go.Tr
