/- Rules of code, of variables and rows that a call owns. No program in it. -/
import Derived.Test.YthelpioccjjgfaaFlow
import Derived.Lib.SliceRun
set_option linter.unusedSimpArgs false
set_option linter.unusedVariables false
namespace Go.Tr
open Go Go.RowKit
section
variable {P : Program} {ops : Array Oper} {Q Q' : Exit → Act → World → Prop} {a : Act} {w w' : World} {rest : List Oper} {n : Nat} {l : List (Nat × Value)} {v : Value} {d : Nat} {op : Op} {ty : TypeId} {pos : String} {aft : Array Edge} {next : Act → World → Prop} {id id' : Nat}
theorem then_n (h : next a w) : Exit.then next Q .normal a w := h
theorem then_r (h : Q .ret a w) : Exit.then next Q .ret a w := h
theorem then_e (h : Q (.exit id) a w) : Exit.then next Q (.exit id) a w := h
theorem inb_n (h : Q .normal a w) : Exit.inBlock id Q .normal a w := h
theorem inb_r (h : Q .ret a w) : Exit.inBlock id Q .ret a w := h
theorem inb_ee (h : Q .normal a w) : Exit.inBlock id Q (.exit id) a w := by simp [Exit.inBlock, h]
theorem cond_t {x y : Code} {t : Nat} {e : Bool} (E : Env n a l) (hl : l.lookup t = some (.bool e)) (he : e = true) (h : x.wp P Q a w) : (Code.cond (.tmp t) x y).wp P Q a w := wp_cond_true (by rw [E.tmp hl, he]) h
theorem cond_f {x y : Code} {t : Nat} {e : Bool} (E : Env n a l) (hl : l.lookup t = some (.bool e)) (he : e = false) (h : y.wp P Q a w) : (Code.cond (.tmp t) x y).wp P Q a w := wp_cond_false (by rw [E.tmp hl, he]) h
theorem ev_nil : ([] : List Operand).map a.eval = [] := rfl
theorem ev_cons {x : Operand} {xs : List Operand} {vs : List Value} (h : a.eval x = v) (hs : xs.map a.eval = vs) : (x :: xs).map a.eval = v :: vs := by simp [h, hs]
theorem pv_nil : ((#[] : Array (Nat × Operand)).map fun (i, x) => (i, a.eval x)) = #[] := by simp
theorem reg_mid {c : Code} (M : Act → World → Prop) (h : c.wp P (fun e a w => e = .normal ∧ M a w) a w) (h2 : ∀ a w, M a w → Q .normal a w) : c.wp P Q a w :=
  wp_mono h fun e a w ⟨he, hq⟩ => by subst he; exact h2 _ _ hq
/-! results -/
def outS (tmps : Array Value) : ResultVar → Sem Value
  | .tmp t => pure (tmps.getD t undef)
  | .cell a t => do loadVar t (← asAddr (tmps.getD a undef))
theorem results_eq (fn : Func) (tmps : Array Value) : results fn tmps = (do let vs ← fn.results.mapM (outS tmps); pure (if h : vs.size = 1 then vs[0] else .tuple vs)) := by
  unfold results
  rfl
theorem out_t (E : Env n a l) {t : Nat} (hl : l.lookup t = some v) : (outS a.tmps (.tmp t)).run P w = .ok v w := by
  show (pure (a.tmps.getD t undef) : Sem Value).run P w = _
  rw [E.getD hl]; rfl
theorem out_c (E : Env n a l) {t b : Nat} {us : List Value} (hl : l.lookup t = some (.pointer (some ⟨b, 0, none⟩))) (ht : aggB P ty = some true) (hs : (P.info? ty).map (·.size) = some us.length) (hc : cellsAt w b 0 us) : (outS a.tmps (.cell t ty)).run P w = .ok (.agg us.toArray) w := by
  have hl2 : (loadCells ⟨b, 0, none⟩ us.length).run P w = .ok us.toArray w := run_loadCells_list (P := P) w ⟨b, 0, none⟩ us (fun j v hv => by rw [Addr.add_mid]; exact hc j v hv)
  show (do loadVar ty (← asAddr (a.tmps.getD t undef)) : Sem Value).run P w = _
  rw [E.getD hl]
  cases hq : P.info? ty with
  | none => simp [hq] at hs
  | some i =>
    have hs' : i.size = us.length := by simpa [hq] using hs
    simp [asAddr, loadVar, aggB_run ht, sizeOf, typeInfo, hq, hs', hl2]
theorem post0 {fn : Func} {R : Ending → World → Prop} (E : Env n a l) (h : fn.results = #[]) (hR : R (.returned (.tuple #[])) w) : bodyPost P fn R .ret a w ∧ bodyPost P fn R .normal a w :=
  have := results_none h a.tmps P w
  ⟨⟨E.defers, _, this, hR⟩, ⟨E.defers, _, this, hR⟩⟩
theorem post1 {fn : Func} {R : Ending → World → Prop} {r : ResultVar} (E : Env n a l) (h : fn.results = #[r]) (h1 : (outS a.tmps r).run P w = .ok v w) (hR : R (.returned v) w) : bodyPost P fn R .ret a w :=
  ⟨E.defers, v, by rw [results_eq, h]; simp [h1], hR⟩
theorem post3 {fn : Func} {R : Ending → World → Prop} {r s t : ResultVar} {u x : Value} (E : Env n a l) (h : fn.results = #[r, s, t]) (h1 : (outS a.tmps r).run P w = .ok v w) (h2 : (outS a.tmps s).run P w = .ok u w) (h3 : (outS a.tmps t).run P w = .ok x w) (hR : R (.returned (.tuple #[v, u, x])) w) : bodyPost P fn R .ret a w :=
  ⟨E.defers, _, by rw [results_eq, h]; simp [h1, h2, h3], hR⟩

/-! ### things -/
theorem ev_c (v : Value) : a.eval (.const v) = v := rfl
theorem ev_f (f : FuncId) : a.eval (.func f) = .func (.func f) #[] #[] := rfl
theorem bnq {x c b : Bool} (h : x = c) (hc : (c == b) = false) : (x == b) = false := by subst h; exact hc
theorem bcase (b : Bool) : b = false ∨ b = true := by cases b <;> simp
theorem sep0 {w : World} : Sep w [] [] := rfl
theorem enter_i {f : FuncId} {fn : Func} {c : Code} {args : List Value} {R : Ending → World → Prop} {w0 : World} {F : List Nat} {rs : List Res} (hf : P.funcs[f]? = some fn) (hb : fn.body = some c) (hn : fn.ntmps = n) (ha : Nat.ble args.length n = true) (hS : Sep w0 rs F)
    (h : ∀ a w, Env n a (args.zipIdx.map fun x => (x.2, x.1)) → Inv w0 F w rs → c.wp P (bodyPost P fn R) a w) : Calls P f args.toArray w0 R := enter hf hb hn ha fun a E => h a w0 E (Inv.start hS)
variable {w0 : World} {F0 : List Nat} {rs rs' ss : List Res} {r r' : Res}
/-- One thing taken apart into two. -/
theorem Inv.part {s : Res} (h : Inv w0 F0 w (r :: rs)) (k : ∀ F, r.p w F → ∃ F1 F2, (∀ b ∈ F1, b ∈ F) ∧ (∀ b ∈ F2, b ∈ F) ∧ (∀ b ∈ F1, b ∉ F2) ∧ r'.p w F1 ∧ s.p w F2) : Inv w0 F0 w (r' :: s :: rs) := by
  obtain ⟨G, ⟨F, G', rfl, h1, h2, h3⟩, h4⟩ := h.sep
  obtain ⟨F1, F2, k1, k2, k3, k4, k5⟩ := k F h1
  refine ⟨h.chg, F1 ++ (F2 ++ G'), ⟨F1, F2 ++ G', rfl, k4, ⟨F2, G', rfl, k5, h2, fun b hb => h3 b (k2 b hb)⟩, fun b hb hm => ?_⟩, fun b hb => ?_⟩
  · rcases List.mem_append.1 hm with hm | hm
    · exact k3 b hb hm
    · exact h3 b (k1 b hb) hm
  · simp only [List.mem_append] at hb
    rcases hb with hb | hb | hb
    · exact h4 b (by simp [k1 b hb])
    · exact h4 b (by simp [k2 b hb])
    · exact h4 b (by simp [hb])
/-- Two things put together. -/
theorem Inv.join {s : Res} (h : Inv w0 F0 w (r :: s :: rs)) (k : ∀ F1 F2, r.p w F1 → s.p w F2 → (∀ b ∈ F1, b ∉ F2) → ∃ F, (∀ b ∈ F, b ∈ F1 ∨ b ∈ F2) ∧ r'.p w F) : Inv w0 F0 w (r' :: rs) := by
  obtain ⟨G, ⟨F1, G', rfl, h1, ⟨F2, G2, rfl, h2, h3, h4⟩, h5⟩, h6⟩ := h.sep
  obtain ⟨F, k1, k2⟩ := k F1 F2 h1 h2 (fun b hb hm => h5 b hb (by simp [hm]))
  refine ⟨h.chg, F ++ G2, ⟨F, G2, rfl, k2, h3, fun b hb hm => ?_⟩, fun b hb => ?_⟩
  · rcases k1 b hb with hb | hb
    · exact h5 b hb (by simp [hm])
    · exact h4 b hb hm
  · rcases List.mem_append.1 hb with hb | hb
    · rcases k1 b hb with hb | hb
      · exact h6 b (by simp [hb])
      · exact h6 b (by simp [hb])
    · exact h6 b (by simp [hb])
theorem Inv.cellsAt (h : Inv w0 F0 w rs) (i : Nat) {b : Nat} {cs : List Value} {t : TypeId} (hr : rs[i]? = some (Cel b cs t)) : cellsAt w b 0 cs := fun j u hu => by
  rw [Nat.zero_add]; exact h.cell i hr hu
/-- A variable (number i) is written. -/
theorem Inv.put (h : Inv w0 F0 w rs) (i : Nat) {b o : Nat} {cs us cs' : List Value} {t : TypeId} (hr : rs[i]? = some (Cel b cs t)) (ho : Nat.ble (o + us.length) cs.length = true) (hcs : cs.take o ++ us ++ cs.drop (o + us.length) = cs') :
    Inv w0 F0 (w.setCells b o us) (rs.set i (Cel b cs' t)) := by
  subst hcs
  obtain ⟨h1, h2⟩ := setCells_row (us := us) (h.cel i hr) (by simpa using ho)
  exact (Inv.set (h.front i hr) ⟨_, h1, rfl⟩ h2).back i hr
theorem w_store {x y : Operand} {t i b o : Nat} {cs cs' : List Value} {T : TypeId} (E : Env n a l) (hx : a.eval x = .pointer (some ⟨b, o, none⟩)) (hy : a.eval y = v) (hv : v.cells = #[v]) (h1 : v.oneCell' = true) (hs : (P.info? t).map (·.size) = some 1)
    (H : Inv w0 F0 w rs) (hi : rs[i]? = some (Cel b cs T)) (ho : Nat.ble (o + 1) cs.length = true) (hcs : cs.take o ++ [v] ++ cs.drop (o + 1) = cs') (hrs : rs.set i (Cel b cs' T) = rs') (h : ∀ a' w', Env n a' l → Inv w0 F0 w' rs' → wpList P ops Q rest a' w') :
    wpList P ops Q (⟨none, .store t x y, ty, pos, aft, none⟩ :: rest) a w :=
  wu E (r_store hx hy hv h1 hs (H.cel i hi) (by simp at ho ⊢; omega)) fun a' E' => h a' _ E' (hrs ▸ H.put i hi (us := [v]) ho hcs)
theorem w_stores {x y : Operand} {t i b o : Nat} {cs cs' us : List Value} {T : TypeId} (E : Env n a l) (hx : a.eval x = .pointer (some ⟨b, o, none⟩)) (hy : a.eval y = .agg us.toArray) (h1 : us.all (·.oneCell') = true) (hs : (P.info? t).map (·.size) = some us.length)
    (H : Inv w0 F0 w rs) (hi : rs[i]? = some (Cel b cs T)) (ho : Nat.ble (o + us.length) cs.length = true) (hcs : cs.take o ++ us ++ cs.drop (o + us.length) = cs') (hrs : rs.set i (Cel b cs' T) = rs') (h : ∀ a' w', Env n a' l → Inv w0 F0 w' rs' → wpList P ops Q rest a' w') :
    wpList P ops Q (⟨none, .store t x y, ty, pos, aft, none⟩ :: rest) a w :=
  wu E (r_stores hx hy h1 hs (H.cel i hi) (by simpa using ho)) fun a' E' => h a' _ E' (hrs ▸ H.put i hi ho hcs)
theorem w_alloc {t : TypeId} {zs : List Value} (E : Env n a l) (hd : Nat.blt d n = true) (hz : zeroOf P t = some zs) (H : Inv w0 F0 w rs) (h : ∀ a' w' b, Env n a' ((d, .pointer (some ⟨b, 0, none⟩)) :: l) → Inv w0 F0 w' (Cel b zs t :: rs) → wpList P ops Q rest a' w') :
    wpList P ops Q (⟨some d, .alloc t, ty, pos, aft, none⟩ :: rest) a w := wv E hd (r_alloc hz) fun a' E' => h a' _ _ E' (H.alloc zs t)
theorem w_box {t : TypeId} {x : Operand} {us : List Value} (E : Env n a l) (hd : Nat.blt d n = true) (hx : a.eval x = v) (hv : v.cells = us.toArray) (H : Inv w0 F0 w rs) (h : ∀ a' w' b, Env n a' ((d, .pointer (some ⟨b, 0, none⟩)) :: l) → Inv w0 F0 w' (Cel b us t :: rs) → wpList P ops Q rest a' w') :
    wpList P ops Q (⟨some d, .box t x, ty, pos, aft, none⟩ :: rest) a w := wv E hd (r_box hx hv) fun a' E' => h a' _ _ E' (H.alloc us t)
/-- A call that leaves old memory as it is and gives no data. -/
theorem w_quiet {f : FuncId} {xs : List Operand} {ts : Array TypeId} {vs : List Value} (E : Env n a l) (hd : Nat.blt d n = true) (hx : xs.map a.eval = vs) (hf : callOk P f = true) (hc : Calls P f vs.toArray w fun e w' => e = .returned v ∧ Ext w w')
    (H : Inv w0 F0 w rs) (h : ∀ a' w', Env n a' ((d, v) :: l) → Inv w0 F0 w' rs → wpList P ops Q rest a' w') : wpList P ops Q (⟨some d, .call { callee := .value (.func f), args := xs.toArray, argTypes := ts }, ty, pos, aft, none⟩ :: rest) a w :=
  wc E hd (r_call hx hf) hc fun e w' ⟨he, hb⟩ => ⟨v, he, fun a' E' => h a' w' E' (H.ext hb)⟩
/-- A call of a function value. -/
theorem r_callv {f : FuncId} {t : Operand} {xs : List Operand} {ts : Array TypeId} {vs cs : List Value} {dst : Option Nat} {g : Option (Nat × Bool)} (hc : a.eval t = .func (.func f) #[] cs.toArray) (hx : xs.map a.eval = vs) (hf : callOk P f = true) : (execOp a.eval ⟨dst, .call { callee := .value t, args := xs.toArray, argTypes := ts }, ty, pos, aft, g⟩).run P w = .ok (.enter f (vs ++ cs).toArray) w := by
  subst hx
  unfold callOk at hf
  cases hq : P.funcs[f]? with
  | none => rw [hq] at hf; simp at hf
  | some fn =>
    rw [hq] at hf
    simp only [Bool.and_eq_true, Bool.not_eq_true', beq_eq_false_iff_ne, ne_eq] at hf
    have hb : ¬ fn.body = none := by cases h : fn.body <;> simp_all
    simp [execOp, resolve, Deferred.ofValue, hc, invoke, callFunc, hq, hf.1, hb]
theorem w_quietv {f : FuncId} {t : Operand} {xs : List Operand} {ts : Array TypeId} {vs cs : List Value} (E : Env n a l) (hd : Nat.blt d n = true) (hv : a.eval t = .func (.func f) #[] cs.toArray) (hx : xs.map a.eval = vs) (hf : callOk P f = true) (hc : Calls P f (vs ++ cs).toArray w fun e w' => e = .returned v ∧ Ext w w')
    (H : Inv w0 F0 w rs) (h : ∀ a' w', Env n a' ((d, v) :: l) → Inv w0 F0 w' rs → wpList P ops Q rest a' w') : wpList P ops Q (⟨some d, .call { callee := .value t, args := xs.toArray, argTypes := ts }, ty, pos, aft, none⟩ :: rest) a w :=
  wc E hd (r_callv hv hx hf) hc fun e w' ⟨he, hb⟩ => ⟨v, he, fun a' E' => h a' w' E' (H.ext hb)⟩
/-- Any call. -/
theorem w_call {f : FuncId} {xs : List Operand} {ts : Array TypeId} {vs : List Value} {R : Ending → World → Prop} (E : Env n a l) (hd : Nat.blt d n = true) (hx : xs.map a.eval = vs) (hf : callOk P f = true) (hc : Calls P f vs.toArray w R)
    (h : ∀ e w', R e w' → ∃ v, e = .returned v ∧ ∀ a', Env n a' ((d, v) :: l) → wpList P ops Q rest a' w') : wpList P ops Q (⟨some d, .call { callee := .value (.func f), args := xs.toArray, argTypes := ts }, ty, pos, aft, none⟩ :: rest) a w :=
  wc E hd (r_call hx hf) hc h

theorem Inv.take1 (h : Inv w0 F0 w (r :: rs)) : ∃ F, r.p w F ∧ (∀ r' F1, (∀ b ∈ F1, b ∈ F) → Res.p r' w F1 → Inv w0 F0 w (r' :: rs)) ∧
    ∀ r' s F1 F2, (∀ b ∈ F1, b ∈ F) → (∀ b ∈ F2, b ∈ F) → (∀ b ∈ F1, b ∉ F2) → Res.p r' w F1 → Res.p s w F2 → Inv w0 F0 w (r' :: s :: rs) := by
  obtain ⟨G, ⟨F, G', rfl, h1, h2, h3⟩, h4⟩ := h.sep
  refine ⟨F, h1, fun r' F1 k1 k2 => ?_, fun r' s F1 F2 k1 k2 k3 k4 k5 => ?_⟩
  · exact ⟨h.chg, F1 ++ G', ⟨F1, G', rfl, k2, h2, fun b hb => h3 b (k1 b hb)⟩, fun b hb => by
      rcases List.mem_append.1 hb with hb | hb
      · exact h4 b (by simp [k1 b hb])
      · exact h4 b (by simp [hb])⟩
  · refine ⟨h.chg, F1 ++ (F2 ++ G'), ⟨F1, F2 ++ G', rfl, k4, ⟨F2, G', rfl, k5, h2, fun b hb => h3 b (k2 b hb)⟩, fun b hb hm => ?_⟩, fun b hb => ?_⟩
    · rcases List.mem_append.1 hm with hm | hm
      · exact k3 b hb hm
      · exact h3 b (k1 b hb) hm
    · simp only [List.mem_append] at hb
      rcases hb with hb | hb | hb
      · exact h4 b (by simp [k1 b hb])
      · exact h4 b (by simp [k2 b hb])
      · exact h4 b (by simp [hb])
theorem Inv.add_emp (h : Inv w0 F0 w rs) (hp : r.p w []) : Inv w0 F0 w (r :: rs) := by
  obtain ⟨G, h1, h2⟩ := h.sep
  exact ⟨h.chg, G, ⟨[], G, rfl, hp, h1, by simp⟩, h2⟩
/-! cells with data -/
section
variable {us : List Value} {ds es : List D} {x u : Value} {m : Nat}
theorem Inv.dn_v (h : Inv w0 F0 w (DatN us (.v x :: ds) :: rs)) : ∃ us', us = x :: us' ∧ Inv w0 F0 w (DatN us' ds :: rs) := by
  obtain ⟨F, ⟨h1, h2⟩, h3, _⟩ := h.take1
  obtain ⟨us', rfl, h4⟩ := TN.v_cons h1
  exact ⟨us', rfl, h3 _ F (fun _ h => h) ⟨h4, h2⟩⟩
theorem Inv.dn_s (h : Inv w0 F0 w (DatN us (.sl m es :: ds) :: rs)) : ∃ A c us', us = .slice A m c :: us' ∧ m ≤ 9223372036854775807 ∧ Inv w0 F0 w (Dat (.slice A m c) m es :: DatN us' ds :: rs) := by
  obtain ⟨F, ⟨h1, h2⟩, _, h3⟩ := h.take1
  obtain ⟨A, c, b1, b2, us', rfl, rfl, h6, h7, h8, h9⟩ := TN.sl_cons h1
  have hnd := List.nodup_append.1 h2.1
  exact ⟨A, c, us', rfl, h6.nle, h3 _ _ b1 b2 (fun b hb => by simp [hb]) (fun b hb => by simp [hb]) (fun b hb hm => hnd.2.2 b hb b hm rfl) ⟨h6, hnd.1, fun b hb => h2.2 b (by simp [hb])⟩ ⟨h9, hnd.2.1, fun b hb => h2.2 b (by simp [hb])⟩⟩
theorem Inv.dn_e (h : Inv w0 F0 w (DatN us [] :: rs)) : us = [] ∧ Inv w0 F0 w rs := by
  obtain ⟨F, ⟨h1, _⟩⟩ := h.mem 0 rfl
  exact ⟨h1.end_.1, h.tail⟩
theorem Inv.mk_e (h : Inv w0 F0 w rs) : Inv w0 F0 w (DatN [] [] :: rs) := h.add_emp ⟨TN.done, Own.nil _ _⟩
theorem Inv.mk_v (h : Inv w0 F0 w (DatN us ds :: rs)) (hx : x.oneCell' = true) : Inv w0 F0 w (DatN (x :: us) (.v x :: ds) :: rs) := by
  obtain ⟨F, ⟨h1, h2⟩, h3, _⟩ := h.take1
  exact h3 _ F (fun _ h => h) ⟨TN.v_mk hx h1, h2⟩
theorem Inv.take2 {s : Res} (h : Inv w0 F0 w (r :: s :: rs)) : ∃ F1 F2, r.p w F1 ∧ s.p w F2 ∧ (∀ b ∈ F1, b ∉ F2) ∧ ∀ r' F, (∀ b ∈ F, b ∈ F1 ∨ b ∈ F2) → Res.p r' w F → Inv w0 F0 w (r' :: rs) := by
  obtain ⟨G, ⟨F1, G', rfl, h1, ⟨F2, G2, rfl, h2, h3, h4⟩, h5⟩, h6⟩ := h.sep
  refine ⟨F1, F2, h1, h2, fun b hb hm => h5 b hb (by simp [hm]), fun r' F k1 k2 => ⟨h.chg, F ++ G2, ⟨F, G2, rfl, k2, h3, fun b hb hm => ?_⟩, fun b hb => ?_⟩⟩
  · rcases k1 b hb with hb | hb
    · exact h5 b hb (by simp [hm])
    · exact h4 b hb hm
  · rcases List.mem_append.1 hb with hb | hb
    · rcases k1 b hb with hb | hb
      · exact h6 b (by simp [hb])
      · exact h6 b (by simp [hb])
    · exact h6 b (by simp [hb])
theorem Inv.mk_s (h : Inv w0 F0 w (Dat u m es :: DatN us ds :: rs)) : Inv w0 F0 w (DatN (u :: us) (.sl m es :: ds) :: rs) := by
  obtain ⟨F1, F2, ⟨h1, h2⟩, ⟨h3, h4⟩, h5, h6⟩ := h.take2
  exact h6 _ (F1 ++ F2) (fun b hb => List.mem_append.1 hb) ⟨TN.sl_mk h1 h3, Own.join h2 h4 h5⟩
theorem Inv.dat_t1 (h : Inv w0 F0 w rs) (i : Nat) (hr : rs[i]? = some (Dat u m ds)) : ∃ bs, T1 w (.sl m ds) bs u := by
  obtain ⟨F, h1, _⟩ := h.mem i hr
  exact ⟨F, h1⟩
/-- The data without the slice's first element. -/
theorem Inv.dat_tail {b o c m s : Nat} {d1 d2 : List D} (h : Inv w0 F0 w (Dat (.slice (some ⟨b, o, none⟩) (m + 1) c) (m + 1) (d1 ++ d2) :: rs)) (hs : d1.length = s) (h2 : d2.length = m * s) : Inv w0 F0 w (Dat (.slice (some ⟨b, o + 1 * s, none⟩) (m + 1 - 1) (c - 1)) m d2 :: rs) := by
  obtain ⟨F, ⟨h1, h5⟩, h3, _⟩ := h.take1
  unfold T1 at h1
  obtain ⟨A, c', he, hn, hc, h1⟩ := h1
  injection he with hA hn' hc'
  subst hA hc'
  rcases h1 with ⟨h0, _⟩ | ⟨_, b', off, us, bs', hb', rfl, hlt, hca, ht⟩
  · omega
  injection hb' with hb'
  injection hb' with e1 e2
  subst e1 e2
  obtain ⟨b1, b2, u1, u2, rfl, rfl, t1, t2⟩ := TN.append.1 ht
  have l1 : u1.length = s := by rw [t1.length, hs]
  cases m with
  | zero =>
    have e : d2 = [] := List.eq_nil_of_length_eq_zero (by simpa using h2)
    subst e
    refine h3 _ [] (by simp) ⟨?_, Own.nil _ _⟩
    unfold T1
    exact ⟨_, _, rfl, by omega, by omega, .inl ⟨rfl, rfl, rfl⟩⟩
  | succ m =>
    have hnd := List.nodup_cons.1 h5.1
    have hnd2 := List.nodup_append.1 hnd.2
    refine h3 _ (b :: b2) (fun y hy => by simp at hy ⊢; rcases hy with h | h <;> simp [h]) ⟨?_, List.nodup_cons.2 ⟨fun hm => hnd.1 (by simp [hm]), hnd2.2.1⟩, fun y hy => h5.2 y (by simp at hy ⊢; rcases hy with h | h <;> simp [h])⟩
    unfold T1
    refine ⟨_, _, rfl, by omega, by omega, .inr ⟨by omega, b, o + 1 * s, u2, b2, rfl, rfl, hlt, fun j u hu => ?_, t2⟩⟩
    have := hca (s + j) u (by rw [List.getElem?_append_right (by omega), l1, Nat.add_sub_cancel_left]; exact hu)
    rwa [show o + 1 * s + j = o + (s + j) by omega]
end
/-! rows that grow, opened at an element -/
/-- The row at b: its cells from k on are us, before and behind lies data of its own. -/
def Opn (b c : Nat) (t : TypeId) (s n : Nat) (ds1 : List D) (us : List Value) (ds2 : List D) : Res where
  p w F := ∃ cur u1 u2 b1 b2, F = b :: (b1 ++ b2) ∧ w.heap[b]? = some (.cells cur t (0, 0)) ∧ n ≤ c ∧ c ≤ maxLen ∧ cur.size = c * s ∧ cur.toList.take (n * s) = u1 ++ (us ++ u2) ∧ (u1 ++ (us ++ u2)).length = n * s ∧ TN w ds1 b1 u1 ∧ TN w ds2 b2 u2 ∧ Own 0 w (b1 ++ b2) ∧ b ∉ b1 ++ b2
  keep := fun ⟨cur, u1, u2, b1, b2, e, h1, h2, h3, h4, h5, h6, h7, h8, h9, h10⟩ k => by
    subst e
    refine ⟨cur, u1, u2, b1, b2, rfl, (k.2 b (by simp)).trans h1, h2, h3, h4, h5, h6, h7.keep (k.sub fun y hy => by simp [hy]), h8.keep (k.sub fun y hy => by simp [hy]), ⟨h9.1, fun y hy => ?_⟩, h10⟩
    obtain ⟨h0, cur, t, h11⟩ := h9.2 y hy
    exact ⟨h0, cur, t, (k.2 y (by simp at hy ⊢; exact .inr hy)).trans h11⟩
  lt := fun ⟨cur, u1, u2, b1, b2, e, h1, h2, h3, h4, h5, h6, h7, h8, h9, h10⟩ y hy => by
    subst e
    rcases List.mem_cons.1 hy with rfl | hy
    · exact lt_of_row h1
    · exact h9.lt y hy
section
variable {t : TypeId} {m : Nat}
theorem Inv.open_ {α : Type} {f : α → List D} {s : Nat} (hs : ∀ x, (f x).length = s) {xs : List α} (h : Inv w0 F0 w (Gr v t s m (xs.flatMap f) :: rs)) (hm : xs.length = m) {k : Nat} (hk : k < m) :
    ∃ b c x us, v = .slice (some ⟨b, 0, none⟩) m c ∧ m ≤ 9223372036854775807 ∧ xs[k]? = some x ∧ Inv w0 F0 w (Opn b c t s m ((xs.take k).flatMap f) us ((xs.drop (k + 1)).flatMap f) :: DatN us (f x) :: rs) := by
  obtain ⟨F, ⟨bs, us, rfl, hg⟩, _, h3⟩ := h.take1
  have hk' : k < xs.length := hm ▸ hk
  have hx : xs.flatMap f = (xs.take k).flatMap f ++ (f xs[k] ++ (xs.drop (k + 1)).flatMap f) := by
    conv => lhs; rw [← List.take_append_drop k xs, List.drop_eq_getElem_cons hk', List.flatMap_append, List.flatMap_cons]
  obtain ⟨⟨hl0, hrow⟩, htn, hown, hout⟩ := hg
  rcases hrow with ⟨_, hn⟩ | ⟨g, cap, cur, hv, hlo, hgg, hnc, hcm, hcs, htk⟩
  · omega
  subst hv
  rw [hx] at htn
  obtain ⟨b1, b', u1, u', rfl, rfl, t1, htn⟩ := TN.append.1 htn
  obtain ⟨b2, b3, u2, u3, rfl, rfl, t2, t3⟩ := TN.append.1 htn
  have hgb : g ∉ b1 ++ (b2 ++ b3) := hout g rfl
  have hnd := List.nodup_append.1 hown.1
  have hnd2 := List.nodup_append.1 hnd.2.1
  have hrl : rowL (.slice (some ⟨g, 0, none⟩) m cap) = [g] := rfl
  refine ⟨g, cap, xs[k], u2, rfl, by unfold maxLen at hcm; omega, List.getElem?_eq_getElem hk', h3 _ _ (g :: (b1 ++ b3)) b2 (fun y hy => ?_) (fun y hy => by rw [hrl]; simp [hy]) (fun y hy hm2 => ?_) ⟨cur, u1, u3, b1, b3, rfl, hgg, hnc, hcm, hcs, htk, hl0, t1, t3, ⟨List.nodup_append.2 ⟨hnd.1, hnd2.2.1, fun y hy z hz e => hnd.2.2 y hy z (by simp [hz]) e⟩, fun y hy => hown.2 y (by simp at hy ⊢; rcases hy with h | h <;> simp [h])⟩, fun hm2 => hgb (by simp at hm2 ⊢; rcases hm2 with h | h <;> simp [h])⟩ ⟨t2, hnd2.1, fun y hy => hown.2 y (by simp [hy])⟩⟩
  · rw [hrl]; simp at hy ⊢; rcases hy with h | h | h <;> simp [h]
  · rcases List.mem_cons.1 hy with rfl | hy
    · exact hgb (by simp [hm2])
    · rcases List.mem_append.1 hy with hy | hy
      · exact hnd.2.2 y hy y (by simp [hm2]) rfl
      · exact hnd2.2.2 y hm2 y hy rfl
theorem Inv.shut {b c s : Nat} {ds1 ds2 d : List D} {us : List Value} (h : Inv w0 F0 w (Opn b c t s m ds1 us ds2 :: DatN us d :: rs)) : Inv w0 F0 w (Gr (.slice (some ⟨b, 0, none⟩) m c) t s m (ds1 ++ (d ++ ds2)) :: rs) := by
  obtain ⟨F1, F2, ⟨cur, u1, u2, b1, b2, rfl, h1, h2, h3, h4, h5, h6, h7, h8, h9, h10⟩, ⟨k1, k2⟩, hd, hf⟩ := h.take2
  have hnd := List.nodup_append.1 h9.1
  refine hf _ (b :: (b1 ++ (F2 ++ b2))) (fun y hy => ?_) ⟨b1 ++ (F2 ++ b2), u1 ++ (us ++ u2), rfl, ⟨⟨h6, .inr ⟨b, c, cur, rfl, Nat.zero_le _, h1, h2, h3, h4, h5⟩⟩, TN.append.2 ⟨b1, _, u1, _, rfl, rfl, h7, TN.append.2 ⟨F2, b2, us, u2, rfl, rfl, k1, h8⟩⟩, ⟨?_, fun y hy => ?_⟩, fun g hg hm => ?_⟩⟩
  · simp at hy ⊢; rcases hy with h | h | h | h <;> simp [h]
  · refine List.nodup_append.2 ⟨hnd.1, List.nodup_append.2 ⟨k2.1, hnd.2.1, fun y hy z hz e => ?_⟩, fun y hy z hz e => ?_⟩
    · subst e; exact hd y (by simp [hz]) hy
    · subst e
      rcases List.mem_append.1 hz with hz | hz
      · exact hd y (by simp [hy]) hz
      · exact hnd.2.2 y hy y hz rfl
  · simp only [List.mem_append] at hy
    rcases hy with h | h | h
    · exact h9.2 y (by simp [h])
    · exact k2.2 y h
    · exact h9.2 y (by simp [h])
  · simp only [Value.ownBlock, Option.some.injEq] at hg
    subst hg
    simp only [List.mem_append] at hm
    rcases hm with h | h | h
    · exact h10 (by simp [h])
    · exact hd b (by simp) h
    · exact h10 (by simp [h])
theorem set_flat {α : Type} {f : α → List D} {xs : List α} {k : Nat} {y : α} (hk : k < xs.length) : (xs.take k).flatMap f ++ (f y ++ (xs.drop (k + 1)).flatMap f) = (xs.set k y).flatMap f := by
  rw [List.set_eq_take_append_cons_drop, if_pos hk, List.flatMap_append, List.flatMap_cons]
theorem Inv.opn_cell {b c s : Nat} {ds1 ds2 : List D} {us : List Value} (h : Inv w0 F0 w rs) (i : Nat) (hr : rs[i]? = some (Opn b c t s m ds1 us ds2)) {k : Nat} (hl : ds1.length = k) {j : Nat} {u : Value} (hu : us[j]? = some u) : w.cell? ⟨b, k + j, none⟩ = some u := by
  obtain ⟨F, cur, u1, u2, b1, b2, rfl, h1, h2, h3, h4, h5, h6, h7, h8, h9, h10⟩ := h.mem i hr
  rw [cell_of_row w b _ cur t (0, 0) h1, ← Array.getElem?_toList]
  have hj := (List.getElem?_eq_some_iff.1 hu).1
  have l1 := h7.length
  have : (cur.toList.take (m * s))[k + j]? = some u := by
    rw [h5, List.getElem?_append_right (by omega), l1, hl, Nat.add_sub_cancel_left, List.getElem?_append_left hj]; exact hu
  rw [List.getElem?_take] at this
  split at this
  · exact this
  · cases this
theorem Inv.opn_cells {b c s : Nat} {ds1 ds2 : List D} {us : List Value} (h : Inv w0 F0 w rs) (i : Nat) (hr : rs[i]? = some (Opn b c t s m ds1 us ds2)) {k : Nat} (hl : ds1.length = k) : Go.Tr.cellsAt w b k us := fun _ _ hu => h.opn_cell i hr hl hu
theorem Inv.opn_row {b c s : Nat} {ds1 ds2 : List D} {us : List Value} (h : Inv w0 F0 w rs) (i : Nat) (hr : rs[i]? = some (Opn b c t s m ds1 us ds2)) {k : Nat} (hl : ds1.length = k) : ∃ cur, w.heap[b]? = some (.cells cur t (0, 0)) ∧ k + us.length ≤ cur.size := by
  obtain ⟨F, cur, u1, u2, b1, b2, rfl, h1, h2, h3, h4, h5, h6, h7, h8, h9, h10⟩ := h.mem i hr
  have h11 := congrArg List.length h5
  have l1 := h7.length
  simp only [List.length_take, List.length_append, Array.length_toList] at h11
  exact ⟨cur, h1, by omega⟩
theorem Inv.opn_put {b c s : Nat} {ds1 ds2 : List D} {us vs us' : List Value} (h : Inv w0 F0 w rs) (i : Nat) (hr : rs[i]? = some (Opn b c t s m ds1 us ds2)) {k : Nat} (hl : ds1.length = k) {j : Nat} (hj : Nat.ble (j + vs.length) us.length = true) (hu : us.take j ++ vs ++ us.drop (j + vs.length) = us') :
    Inv w0 F0 (w.setCells b (k + j) vs) (rs.set i (Opn b c t s m ds1 us' ds2)) := by
  subst hu
  have hj' : j + vs.length ≤ us.length := by simpa using hj
  obtain ⟨F, h2, _, h4⟩ := Inv.frame (pre := [Opn b c t s m ds1 us ds2]) (rest := rs.eraseIdx i) (h.front i hr)
  obtain ⟨F1, G1, rfl, ⟨cur, u1, u2, b1, b2, rfl, k1, k2, k3, k4, k5, k6, k7, k8, k9, k10⟩, rfl, _⟩ := h2
  have l1 := k7.length
  have hsz : (cur.toList.take (m * s)).length = m * s := by rw [k5]; exact k6
  have hle : m * s ≤ cur.size := by simp only [List.length_take, Array.length_toList] at hsz; omega
  have hk6 := k6
  simp only [List.length_append] at hk6
  obtain ⟨h5, h6⟩ := setCells_row (us := vs) (cs := cur.toList) (o := k + j) (w := w) (b := b) (T := t) (by simpa using k1) (by simp only [Array.length_toList]; omega)
  have hkp : Keeps w (w.setCells b (k + j) vs) (b1 ++ b2) := ⟨h6.size, fun y hy => h6.other y (k9.lt y hy) (fun hm => by simp at hm; subst hm; exact k10 hy)⟩
  refine Inv.back i hr (h4 _ [_] ⟨⟨h6.os, h6.tape, h6.output, h6.size, fun y hy hn => h6.other y hy (fun hm => hn (by simp at hm; simp [hm]))⟩, _, ⟨_, [], rfl, ⟨(cur.toList.take (k + j) ++ vs ++ cur.toList.drop (k + j + vs.length)).toArray, u1, u2, b1, b2, rfl, h5, k2, k3, ?_, ?_, ?_, k7.keep (hkp.sub fun y hy => by simp [hy]), k8.keep (hkp.sub fun y hy => by simp [hy]), ⟨k9.1, fun y hy => ?_⟩, k10⟩, rfl, by simp⟩, fun y hy => .inl (by simpa using hy)⟩)
  · simp only [List.size_toArray, List.length_append, List.length_take, List.length_drop, Array.length_toList]; omega
  · simp only []
    have e1 : cur.toList.take (k + j) = u1 ++ us.take j := by
      have := congrArg (List.take (k + j)) k5
      rw [List.take_take, Nat.min_eq_left (by omega)] at this
      rw [this, List.take_append, List.take_of_length_le (by omega), l1, hl, Nat.add_sub_cancel_left, List.take_append_of_le_length (by omega)]
    apply List.ext_getElem?
    intro q
    by_cases hq : q < m * s
    · rw [List.getElem?_take, if_pos hq, e1]
      have hcq : cur.toList[q]? = (u1 ++ (us ++ u2))[q]? := by rw [← k5, List.getElem?_take, if_pos hq]
      simp only [List.getElem?_append, List.length_append, List.length_take, List.getElem?_drop, List.getElem?_take] at hcq ⊢
      grind
    · rw [List.getElem?_eq_none (by simp; omega), List.getElem?_eq_none (by simp; omega)]
  · simp only [List.length_append, List.length_take, List.length_drop] at hk6 ⊢; omega
  · obtain ⟨h0, cur2, t2, h11⟩ := k9.2 y hy
    exact ⟨h0, cur2, t2, (hkp.2 y hy).trans h11⟩
theorem pv {l : List (Nat × Operand)} {l' : List (Nat × Value)} (h : l.map (fun x => (x.1, a.eval x.2)) = l') : (l.toArray.map fun (i, x) => (i, a.eval x)) = l'.toArray := by subst h; simp
theorem pvn : ([] : List (Nat × Operand)).map (fun x => (x.1, a.eval x.2)) = [] := rfl
theorem pvc {i : Nat} {x : Operand} {l : List (Nat × Operand)} {l' : List (Nat × Value)} (hx : a.eval x = v) (h : l.map (fun x => (x.1, a.eval x.2)) = l') : ((i, x) :: l).map (fun x => (x.1, a.eval x.2)) = (i, v) :: l' := by simp [hx, h]
theorem wrap_succ {k : Nat} (h : k + 1 ≤ 9223372036854775807) : IntKind.i64.wrap ((k : Int) + 1) = ((k + 1 : Nat) : Int) := by rw [IntWalk.i64_in _ (by omega)]; rfl
theorem ca_nil (w : World) (b o : Nat) : Go.Tr.cellsAt w b o [] := fun j u hu => by simp at hu
theorem ca_cons {b o : Nat} {us : List Value} (h : w.cell? ⟨b, o, none⟩ = some v) (hs : Go.Tr.cellsAt w b (o + 1) us) : Go.Tr.cellsAt w b o (v :: us) := fun j u hu => by
  cases j with
  | zero => simp at hu; subst hu; simpa using h
  | succ j => have := hs j u (by simpa using hu); rwa [show o + 1 + j = o + (j + 1) by omega] at this
theorem r_mkf {f : FuncId} {xs : List Operand} {vs : List Value} {dst : Option Nat} {g : Option (Nat × Bool)} (hx : xs.map a.eval = vs) : (execOp a.eval ⟨dst, .makeFunc (.func f) #[] xs.toArray, ty, pos, aft, g⟩).run P w = .ok (.value (.func (.func f) #[] vs.toArray)) w := by
  subst hx; simp [execOp, Instr.makeFunc]
theorem r_pick_t {c x y : Operand} {dst : Option Nat} {g : Option (Nat × Bool)} (hc : a.eval c = .bool true) (hx : a.eval x = v) : (execOp a.eval ⟨dst, .pick c x y, ty, pos, aft, g⟩).run P w = .ok (.value v) w := by simp [execOp, hc, hx, asBool]
theorem r_pick_f {c x y : Operand} {dst : Option Nat} {g : Option (Nat × Bool)} (hc : a.eval c = .bool false) (hx : a.eval y = v) : (execOp a.eval ⟨dst, .pick c x y, ty, pos, aft, g⟩).run P w = .ok (.value v) w := by simp [execOp, hc, hx, asBool]
theorem w_ostore {x y : Operand} {t i b o j c k s : Nat} {m : Nat} {us vs us' : List Value} {T : TypeId} {ds1 ds2 : List D} (E : Env n a l) (hx : a.eval x = .pointer (some ⟨b, o, none⟩)) (hy : a.eval y = v) (hv : v.cells = vs.toArray) (h1 : vs.all (·.oneCell') = true) (hs : (P.info? t).map (·.size) = some vs.length)
    (H : Inv w0 F0 w rs) (hi : rs[i]? = some (Opn b c T s m ds1 us ds2)) (hl : ds1.length = k) (ho : Nat.ble (j + vs.length) us.length = true) (hcs : us.take j ++ vs ++ us.drop (j + vs.length) = us') (hko : o = k + j) (hrs : rs.set i (Opn b c T s m ds1 us' ds2) = rs') (h : ∀ a' w', Env n a' l → Inv w0 F0 w' rs' → wpList P ops Q rest a' w') :
    wpList P ops Q (⟨none, .store t x y, ty, pos, aft, none⟩ :: rest) a w := by
  subst hko
  obtain ⟨cur, h2, h3⟩ := H.opn_row i hi hl
  have ho' : j + vs.length ≤ us.length := by simpa using ho
  have hst := run_storeCells_cells (P := P) b (k + j) vs 0 w (fun q hq => by
    rw [cell_of_row w b _ cur T (0, 0) h2]; simp; omega) (fun q hq => fz_of_row h2 _) (fun u hu => List.all_eq_true.1 h1 u hu)
  refine wu E (w' := w.setCells b (k + j) vs) ?_ fun a' E' => h a' _ E' (hrs ▸ H.opn_put i hi hl ho hcs)
  cases hq : P.info? t with
  | none => simp [hq] at hs
  | some ii =>
    have hs' : ii.size = vs.length := by simpa [hq] using hs
    simp only [Nat.add_zero] at hst
    simp [execOp, hx, hy, Instr.storeAt, Instr.sureAddr, storeVar, hv, sizeOf, typeInfo, hq, hs', hst]
def vb : Value → Nat
  | .pointer (some p) => p.block
  | .slice (some p) _ _ => p.block
  | _ => 0
def sA : Value → Option Addr
  | .slice A _ _ => A
  | _ => none
def sC : Value → Nat
  | .slice _ _ c => c
  | _ => 0
theorem Env.add {t : Nat} (h : Env n a l) (ht : a.tmps[t]? = some v) : Env n a ((t, v) :: l) :=
  ⟨h.size, h.defers, fun t' u hl' => by
    rw [List.lookup_cons] at hl'
    by_cases e : t' = t
    · subst e; simp at hl'; subst hl'; exact ht
    · have h1 : (t' == t) = false := by simpa using e
      rw [h1] at hl'; exact h.get t' u hl'⟩
section
variable {o : Oper} {K : Value → World → Prop}
theorem Gives.val (hw : Region.wanted o (yielded ops a.tmps) = true) (hr : (execOp a.eval o).run P w = .ok (.value v) w') (hK : K v w') : Gives P ops o a w K := .inl ⟨hw, .inl ⟨v, w', hr, hK⟩⟩
theorem Gives.skp (hw : Region.wanted o (yielded ops a.tmps) = true) (hr : (execOp a.eval o).run P w = .ok .skip w') (hK : K undef w') : Gives P ops o a w K := .inl ⟨hw, .inr (.inl ⟨w', hr, hK⟩)⟩
theorem Gives.call {f : FuncId} {args : Array Value} {R : Ending → World → Prop} (hw : Region.wanted o (yielded ops a.tmps) = true) (hr : (execOp a.eval o).run P w = .ok (.enter f args) w) (hc : Calls P f args w R) (hK : ∀ e w', R e w' → ∃ v, e = .returned v ∧ K v w') : Gives P ops o a w K :=
  .inl ⟨hw, .inr (.inr ⟨f, args, hr, hc.mono hK⟩)⟩
theorem Gives.no (hw : Region.wanted o (yielded ops a.tmps) = false) (hK : K undef w) : Gives P ops o a w K := .inr ⟨hw, hK⟩
theorem wantg {d : Option Nat} {op : Op} {ty : TypeId} {pos : String} {aft : Array Edge} {j : Nat} {b b' : Bool} (hy : yielded ops a.tmps j = some b') (hb : b' = b) : Region.wanted ⟨d, op, ty, pos, aft, some (j, b)⟩ (yielded ops a.tmps) = true := by
  subst hb; simp [Region.wanted, hy]
theorem wantn {d : Option Nat} {op : Op} {ty : TypeId} {pos : String} {aft : Array Edge} {j : Nat} {b b' : Bool} (hy : yielded ops a.tmps j = some b') (hb : (b' == b) = false) : Region.wanted ⟨d, op, ty, pos, aft, some (j, b)⟩ (yielded ops a.tmps) = false := by
  simp only [Region.wanted, hy]; cases b <;> cases b' <;> simp_all
end
theorem Inv.new_mid {R T : List Res} (H : Inv w0 F0 w (R ++ ([] ++ rs))) (hi : Inv w [] w' T) : Inv w0 F0 w' (R ++ (T ++ rs)) := by
  refine Inv.perm (Inv.new H hi) ?_
  rw [List.nil_append, ← List.append_assoc, ← List.append_assoc]
  exact List.perm_append_comm.append_right rs
/-! appending -/
theorem app_inv {tS e s q c : Nat} {ds es : List D} {us : List Value} {A : Option Addr} (hE : ElemOk P tS e s) (H : Inv w0 F0 w (Gr v e s m ds :: DatN us es :: rs)) (hsrc : Src w s A q us) (hb : m + q ≤ 1073741824) :
    ∃ v' w', (Builtin.append_ #[tS, tS] ty #[v, .slice A q c]).run P w = .ok v' w' ∧ (∃ A' c', v' = .slice A' (m + q) c') ∧ Inv w0 F0 w' (Gr v' e s (m + q) (ds ++ es) :: rs) := by
  obtain ⟨F, ⟨F1, G1, rfl, ⟨bs, ug, rfl, hg⟩, ⟨F2, G2, rfl, ⟨k1, k2⟩, rfl, _⟩, hd⟩, _, h4⟩ := Inv.frame (pre := [Gr v e s m ds, DatN us es]) (rest := rs) H
  rw [List.append_nil] at hd h4
  obtain ⟨v', w', hrun, h5, h6, h7, _⟩ := run_app_src (P := P) (ty := ty) hE 0 v m ug hg.row A q c us hsrc hb (Nat.zero_le _)
  have hdr : ∀ g, v.ownBlock = some g → g ∉ F2 := fun g hg' hm => hd g (by simp [mem_rowL, hg']) hm
  have hgr := hg.app k1 k2 (fun y hy hm => hd y (by simp [hy]) hm) hdr h5 h6 h7
  refine ⟨v', w', hrun, own_slice h5, h4 w' [_] ⟨⟨h6.os, h6.tape, h6.output, h6.size, fun b hb hn => h6.block b hb (fun e => hn (by simp [mem_rowL, ← e]))⟩, rowL v' ++ (bs ++ F2), ⟨_, [], by simp, ⟨bs ++ F2, _, rfl, hgr⟩, rfl, by simp⟩, fun b hb => ?_⟩⟩
  simp only [List.mem_append, mem_rowL] at hb ⊢
  rcases hb with hb | hb | hb
  · rcases h7 with h8 | h8
    · exact .inl (.inl (.inl (by rw [← h8]; exact hb)))
    · rw [h8] at hb; injection hb with hb; exact .inr (by omega)
  · exact .inl (.inl (.inr hb))
  · exact .inl (.inr hb)
theorem r_app {x y : Operand} {t : TypeId} {u v' : Value} {dst : Option Nat} {g : Option (Nat × Bool)} (hx : a.eval x = v) (hy : a.eval y = u) (hr : (Builtin.append_ #[t, t] ty #[v, u]).run P w = .ok v' w') :
    (execOp a.eval ⟨dst, .call { callee := .builtin .append, args := #[x, y], argTypes := #[t, t] }, ty, pos, aft, g⟩).run P w = .ok (.value v') w' := by
  simp [execOp, resolve, invoke, builtin, hx, hy, hr]
theorem w_app {x y : Operand} {tS e s q c : Nat} {ds es : List D} {us : List Value} {A : Option Addr} (E : Env n a l) (hd : Nat.blt d n = true) (hx : a.eval x = v) (hy : a.eval y = .slice A q c) (hE : ElemOk P tS e s) (H : Inv w0 F0 w (Gr v e s m ds :: DatN us es :: rs)) (hsrc : Src w s A q us) (hb : m + q ≤ 1073741824)
    (h : ∀ a' w' A' c', Env n a' ((d, .slice A' (m + q) c') :: l) → Inv w0 F0 w' (Gr (.slice A' (m + q) c') e s (m + q) (ds ++ es) :: rs) → wpList P ops Q rest a' w') :
    wpList P ops Q (⟨some d, .call { callee := .builtin .append, args := #[x, y], argTypes := #[tS, tS] }, ty, pos, aft, none⟩ :: rest) a w := by
  obtain ⟨v', w', hrun, ⟨A', c', rfl⟩, hI⟩ := app_inv (ty := ty) (c := c) hE H hsrc hb
  exact wv E hd (r_app hx hy hrun) fun a' E' => h a' w' A' c' E' hI
theorem Inv.gr_nil (h : Inv w0 F0 w rs) (t : TypeId) (s : Nat) : Inv w0 F0 w (Gr (.slice none 0 0) t s 0 [] :: rs) := h.add_emp ⟨[], [], rfl, GR.nil _ _ _ _⟩
theorem Inv.gr_new {b : Nat} (h : Inv w0 F0 w (Cel b [] t :: rs)) (s : Nat) : Inv w0 F0 w (Gr (.slice (some ⟨b, 0, none⟩) 0 0) t s 0 [] :: rs) := by
  obtain ⟨F, ⟨rfl, h1⟩, h3, _⟩ := h.take1
  exact h3 _ [b] (fun _ h => h) ⟨[], [], rfl, GR.of_row h1 (Nat.zero_le _) (by decide) (by simp)⟩
theorem Inv.gr_t1 {s : Nat} {ds : List D} (h : Inv w0 F0 w rs) (i : Nat) (hr : rs[i]? = some (Gr v t s m ds)) (hl : ds.length = m * s) : ∃ A c bs, v = .slice A m c ∧ T1 w (.sl m ds) bs (.slice A m c) := by
  obtain ⟨F, bs, us, _, hg⟩ := h.mem i hr
  obtain ⟨A, c, bs', rfl, h1, _⟩ := hg.res hl
  exact ⟨A, c, bs', rfl, h1⟩
theorem GR.resF {lo : Nat} {us : List Value} {s : Nat} {ds : List D} {bs : List Nat} (h : GR lo w t s v m ds bs us) (hl : ds.length = m * s) : ∃ A c bs', v = .slice A m c ∧ T1 w (.sl m ds) bs' (.slice A m c) ∧ Own lo w bs' ∧ ∀ b ∈ bs', b ∈ rowL v ++ bs := by
  rcases h.row.2 with ⟨rfl, rfl⟩ | ⟨g, cap, cur, rfl, hb, hgg, hnc, hcm, hcs, htk⟩
  · have hd : ds = [] := List.eq_nil_of_length_eq_zero (by simpa using hl)
    subst hd
    exact ⟨none, 0, [], rfl, T1.empty none, Own.nil _ _, by simp⟩
  · rcases Nat.eq_zero_or_pos m with rfl | hn
    · have hd : ds = [] := List.eq_nil_of_length_eq_zero (by simpa using hl)
      subst hd
      refine ⟨some ⟨g, 0, none⟩, cap, [], rfl, ?_, Own.nil _ _, by simp⟩
      unfold T1
      exact ⟨_, _, rfl, hnc, hcm, .inl ⟨rfl, rfl, rfl⟩⟩
    · have hgb : g ∉ bs := h.out g rfl
      refine ⟨some ⟨g, 0, none⟩, cap, g :: bs, rfl, ?_, ⟨List.nodup_cons.2 ⟨hgb, h.own.1⟩, fun b hb' => ?_⟩, fun b hb' => by simpa [rowL, Value.ownBlock] using hb'⟩
      · unfold T1
        refine ⟨_, _, rfl, hnc, hcm, .inr ⟨hn, g, 0, us, bs, rfl, rfl, lt_of_row hgg, fun j u hu => ?_, h.tn⟩⟩
        rw [Nat.zero_add, cell_of_row w g j cur t (0, 0) hgg]
        rw [← htk, List.getElem?_take] at hu
        split at hu
        · simpa using hu
        · cases hu
      · rcases List.mem_cons.1 hb' with rfl | hb'
        · exact ⟨hb, cur, t, hgg⟩
        · exact h.own.2 b hb'
theorem Inv.gr_dat {s : Nat} {ds : List D} (h : Inv w0 F0 w (Gr v t s m ds :: rs)) (hl : ds.length = m * s) : ∃ A c, v = .slice A m c ∧ Inv w0 F0 w (Dat (.slice A m c) m ds :: rs) := by
  obtain ⟨F, ⟨bs, us, rfl, hg⟩, h3, _⟩ := h.take1
  obtain ⟨A, c, bs', rfl, h1, h2, h5⟩ := hg.resF hl
  exact ⟨A, c, rfl, h3 _ bs' h5 ⟨h1, h2⟩⟩
theorem Inv.flat {us : List Value} (h : Inv w0 F0 w rs) (h1 : us.all (·.oneCell') = true) : Inv w0 F0 w (DatN us (us.map D.v) :: rs) := h.add_emp ⟨TN.scalars h1, Own.nil _ _⟩
theorem Inv.src {i g : Nat} {us : List Value} (h : Inv w0 F0 w rs) (hr : rs[i]? = some (Cel g us t)) {q s : Nat} (hl : Nat.beq us.length (q * s) = true) (h1 : us.all (·.oneCell') = true) : Src w s (some ⟨g, 0, none⟩) q us := Src.row (h.cel i hr) (by simpa using hl) h1
/-- Data that has no slices in it, as a source. -/
theorem Inv.flat_of {us : List Value} {ds : List D} {bs : List Nat} (h : Inv w0 F0 w rs) (ht : TN w ds bs us) (hf : ∀ d ∈ ds, ∃ x, d = .v x) : Inv w0 F0 w (DatN us ds :: rs) := h.add_emp ⟨(ht.flat hf).2 w, Own.nil _ _⟩
theorem r_ostore {x y : Operand} {t i b o j c k s : Nat} {m : Nat} {us vs : List Value} {T : TypeId} {ds1 ds2 : List D} {dst : Option Nat} {g : Option (Nat × Bool)} (hx : a.eval x = .pointer (some ⟨b, o, none⟩)) (hy : a.eval y = v) (hv : v.cells = vs.toArray) (h1 : vs.all (·.oneCell') = true) (hs : (P.info? t).map (·.size) = some vs.length)
    (H : Inv w0 F0 w rs) (hi : rs[i]? = some (Opn b c T s m ds1 us ds2)) (hl : ds1.length = k) (ho : Nat.ble (j + vs.length) us.length = true) (hko : o = k + j) : (execOp a.eval ⟨dst, .store t x y, ty, pos, aft, g⟩).run P w = .ok .skip (w.setCells b (k + j) vs) := by
  subst hko
  obtain ⟨cur, h2, h3⟩ := H.opn_row i hi hl
  have ho' : j + vs.length ≤ us.length := by simpa using ho
  have hst := run_storeCells_cells (P := P) b (k + j) vs 0 w (fun q hq => by
    rw [cell_of_row w b _ cur T (0, 0) h2]; simp; omega) (fun q hq => fz_of_row h2 _) (fun u hu => List.all_eq_true.1 h1 u hu)
  cases hq : P.info? t with
  | none => simp [hq] at hs
  | some ii =>
    have hs' : ii.size = vs.length := by simpa [hq] using hs
    simp only [Nat.add_zero] at hst
    simp [execOp, hx, hy, Instr.storeAt, Instr.sureAddr, storeVar, hv, sizeOf, typeInfo, hq, hs', hst]
theorem app_flow {tS e s q g c : Nat} {ds : List D} {us : List Value} {T : TypeId} (hE : ElemOk P tS e s) (H : Inv w0 F0 w ([Cel g us T] ++ ([Gr v e s m ds] ++ rs))) (hl : Nat.beq us.length (q * s) = true) (h1 : us.all (·.oneCell') = true) (hb : m + q ≤ 1073741824) :
    ∃ v' w', (Builtin.append_ #[tS, tS] ty #[v, .slice (some ⟨g, 0, none⟩) q c]).run P w = .ok v' w' ∧ (∃ A' c', v' = .slice A' (m + q) c') ∧ Inv w0 F0 w' ([Cel g us T] ++ ([Gr v' e s (m + q) (ds ++ us.map D.v)] ++ rs)) := by
  have hsrc := H.src (i := 0) (s := s) rfl hl h1
  have H2 : Inv w0 F0 w (Gr v e s m ds :: DatN us (us.map D.v) :: Cel g us T :: rs) := (H.flat h1).perm (by
    exact ((List.Perm.swap (Gr v e s m ds) (Cel g us T) rs).cons _).trans (List.Perm.swap (Gr v e s m ds) (DatN us (us.map D.v)) _))
  obtain ⟨v', w', hrun, h3, h4⟩ := app_inv (ty := ty) (c := c) hE H2 hsrc hb
  exact ⟨v', w', hrun, h3, h4.perm (List.Perm.swap _ _ _)⟩
theorem app_flow_ro {tS e s q c : Nat} {ds es : List D} {A : Option Addr} (hE : ElemOk P tS e s) (H : Inv w0 F0 w ([] ++ ([Gr v e s m ds] ++ rs))) (hR : Ro1 w0 F0 (.sl q es) (.slice A q c)) (hl : es.length = q * s) (hf : ∀ d ∈ es, ∃ x, d = .v x) (hb : m + q ≤ 1073741824) :
    ∃ v' w', (Builtin.append_ #[tS, tS] ty #[v, .slice A q c]).run P w = .ok v' w' ∧ (∃ A' c', v' = .slice A' (m + q) c') ∧ Inv w0 F0 w' ([] ++ ([Gr v' e s (m + q) (ds ++ es)] ++ rs)) := by
  obtain ⟨bs, hT⟩ := hR.now H
  obtain ⟨us, bt, hs, ht, -⟩ := hT.src hl
  exact app_inv (ty := ty) hE ((H.flat_of ht hf).front 1 rfl) hs hb
theorem Inv.gr_t {s : Nat} {ds : List D} (h : Inv w0 F0 w rs) (i : Nat) (hr : rs[i]? = some (Gr v t s m ds)) (hl : ds.length = m * s) : ∃ bs, T1 w (.sl m ds) bs v := by
  obtain ⟨A, c, bs, rfl, ht⟩ := h.gr_t1 i hr hl
  exact ⟨bs, ht⟩
theorem Inv.rop {b : Nat} {us : List Value} {ds : List D} {bs : List Nat} (h : Inv w0 F0 w rs) (i : Nat) (hr : rs[i]? = some (Cel b us t)) (ht : TN w ds bs us) : RoP w [] b 0 ds := ⟨lt_of_row (h.cel i hr), by simp, us, h.cellsAt i hr, bs, ht, by simp⟩
theorem all_succ {α : Type} {p : α → Bool} {xs : List α} {k : Nat} {x : α} (h : (xs.take k).all p = true) (hx : xs[k]? = some x) (hp : p x = true) : (xs.take (k + 1)).all p = true := by
  rw [List.take_add_one, List.all_append, h, hx]
  simp [hp]
theorem all_bad {α : Type} {p : α → Bool} {xs : List α} {k : Nat} {x : α} (hx : xs[k]? = some x) (hp : p x = false) : xs.all p = false := by
  rw [List.all_eq_false]
  exact ⟨x, List.mem_of_getElem? hx, by simp [hp]⟩
theorem all_full {α : Type} {p : α → Bool} {xs : List α} {k : Nat} (h : (xs.take k).all p = true) (hk : xs.length ≤ k) : xs.all p = true := by rwa [List.take_of_length_le hk] at h
theorem Inv.roc {b o : Nat} {cs : List Value} {u : Value} (h : Inv w0 F0 w rs) (i : Nat) (hr : rs[i]? = some (Cel b cs t)) (hc : cs[o]? = some u) : RoC w [] b o u := ⟨lt_of_row (h.cel i hr), by simp, h.cell i hr hc⟩
theorem Inv.dat_cell {b o c : Nat} {xs : List Int} {y : Int} (h : Inv w0 F0 w rs) (i : Nat) (hr : rs[i]? = some (Dat (.slice (some ⟨b, o, none⟩) m c) m (xs.flatMap intE))) (hm : xs.length = m) (k : Nat) (hx : xs[k]? = some y) : w.cell? ⟨b, o + k, none⟩ = some (.int .i64 y) := by
  obtain ⟨bs, ht⟩ := h.dat_t1 i hr
  have hk := (List.getElem?_eq_some_iff.1 hx)
  obtain ⟨b', off, x, hA, _, _, hx', hc⟩ := intE_at ht hm (hm ▸ hk.1)
  injection hA with hA
  injection hA with h1 h2
  subst h1 h2
  obtain rfl : x = y := Option.some.inj (hx'.symm.trans hx)
  exact hc
theorem sl1 {x lo : Operand} {tt e s b o c m : Nat} (w : World) (hx : a.eval x = .slice (some ⟨b, o, none⟩) (m + 1) c) (hlo : a.eval lo = .int .i64 1) (ht : elemOf? P tt = some (e, s)) :
    ∃ A', (∀ dst ty pos aft g, (execOp a.eval ⟨dst, .slice tt x (some lo) none none, ty, pos, aft, g⟩).run P w = .ok (.value (.slice A' m (c - 1))) w) ∧ (A' = some ⟨b, o + 1 * s, none⟩ ∨ c = 1) := by
  unfold elemOf? at ht
  split at ht
  · rename_i e' hu
    cases hie : P.info? e' with
    | none => rw [hie] at ht; simp at ht
    | some t =>
      rw [hie] at ht
      simp at ht
      obtain ⟨rfl, rfl⟩ := ht
      have hm1 : (1 : Int) ≤ (m : Int) + 1 := by omega
      have hm2 : ¬ ((m : Int) + 1 < 1) := by omega
      by_cases hc1 : c = 1
      · subst hc1
        exact ⟨some ⟨b, o, none⟩, fun _ _ _ _ _ => by simp [execOp, hx, hlo, Instr.sliceAt, run_underlying hu, Instr.slice, Instr.sliceBounds, Instr.sliceBound, asIntOf, sizeOf, typeInfo, hie, hm1, hm2], .inr rfl⟩
      · exact ⟨some ⟨b, o + 1 * t.size, none⟩, fun _ _ _ _ _ => by simp [execOp, hx, hlo, Instr.sliceAt, run_underlying hu, Instr.slice, Instr.sliceBounds, Instr.sliceBound, asIntOf, sizeOf, typeInfo, hie, Addr.add_mid, hc1, hm1, hm2], .inl rfl⟩
  · cases ht
/-- The rest of a slice of the call's own. -/
theorem Inv.dat_rest {b o c s : Nat} {A' : Option Addr} {d1 d2 : List D} (h : Inv w0 F0 w (Dat (.slice (some ⟨b, o, none⟩) (m + 1) c) (m + 1) (d1 ++ d2) :: rs)) (hs : d1.length = s) (h2 : d2.length = m * s) (hA : A' = some ⟨b, o + 1 * s, none⟩ ∨ c = 1) : Inv w0 F0 w (Dat (.slice A' m (c - 1)) m d2 :: rs) := by
  rcases hA with rfl | rfl
  · exact h.dat_tail hs h2
  · obtain ⟨F, ⟨h1, h5⟩, h3, _⟩ := h.take1
    obtain ⟨A, c', he, hn, _⟩ := h1.slice
    injection he with _ _ hc
    subst hc
    obtain rfl : m = 0 := by omega
    have e : d2 = [] := List.eq_nil_of_length_eq_zero (by simpa using h2)
    subst e
    refine h3 _ [] (by simp) ⟨?_, Own.nil _ _⟩
    unfold T1
    exact ⟨_, _, rfl, by omega, by omega, .inl ⟨rfl, rfl, rfl⟩⟩
theorem Inv.gr_dats {A : Option Addr} {n' c s : Nat} {ds : List D} (h : Inv w0 F0 w (Gr (.slice A n' c) t s m ds :: rs)) (hl : ds.length = m * s) : Inv w0 F0 w (Dat (.slice A n' c) m ds :: rs) := by
  obtain ⟨A', c', he, H⟩ := h.gr_dat hl
  rw [he]; exact H
theorem Inv.openL {α : Type} {f : α → List D} {b c s : Nat} (hs : ∀ x, (f x).length = s) {xs : List α} (h : Inv w0 F0 w (Gr (.slice (some ⟨b, 0, none⟩) m c) t s m (xs.flatMap f) :: rs)) (hm : xs.length = m) {k : Nat} (hk : k < m) :
    ∃ x us, xs[k]? = some x ∧ Inv w0 F0 w (Opn b c t s m ((xs.take k).flatMap f) us ((xs.drop (k + 1)).flatMap f) :: DatN us (f x) :: rs) := by
  obtain ⟨b', c', x, us, hv, _, hx, H⟩ := h.open_ hs hm hk
  injection hv with hA _ hc
  injection hA with hA
  injection hA with hb _
  subst hb hc
  exact ⟨x, us, hx, H⟩
theorem take_len {α : Type} (f : α → List D) (s : Nat) (hs : ∀ x, (f x).length = s) {xs : List α} {k : Nat} (hk : k < xs.length) : ((xs.take k).flatMap f).length = k * s := by
  rw [flat_len f s hs, List.length_take, Nat.min_eq_left (Nat.le_of_lt hk)]
theorem Inv.shutL {α : Type} {f : α → List D} {b c s : Nat} {xs : List α} {us : List Value} {k : Nat} {y : α} (h : Inv w0 F0 w (Opn b c t s m ((xs.take k).flatMap f) us ((xs.drop (k + 1)).flatMap f) :: DatN us (f y) :: rs)) (hk : k < xs.length) : Inv w0 F0 w (Gr (.slice (some ⟨b, 0, none⟩) m c) t s m ((xs.set k y).flatMap f) :: rs) := by
  rw [← set_flat hk]; exact h.shut
theorem Inv.shutS {α : Type} {f : α → List D} {b c s : Nat} {xs : List α} {us : List Value} {k : Nat} {y : α} (h : Inv w0 F0 w (Opn b c t s m ((xs.take k).flatMap f) us ((xs.drop (k + 1)).flatMap f) :: DatN us (f y) :: rs)) (hx : xs[k]? = some y) : Inv w0 F0 w (Gr (.slice (some ⟨b, 0, none⟩) m c) t s m (xs.flatMap f) :: rs) := by
  obtain ⟨hk, he⟩ := List.getElem?_eq_some_iff.1 hx
  have := h.shutL hk
  rwa [← he, List.set_getElem_self] at this
theorem Inv.gr_pos {s : Nat} {ds : List D} (h : Inv w0 F0 w rs) (i : Nat) (hr : rs[i]? = some (Gr v t s m ds)) (hm : 0 < m) : ∃ b c, v = .slice (some ⟨b, 0, none⟩) m c := by
  obtain ⟨F, bs, us, _, hg⟩ := h.mem i hr
  rcases hg.row.2 with ⟨_, h0⟩ | ⟨g, cap, cur, rfl, _⟩
  · omega
  · exact ⟨g, cap, rfl⟩
/-- What a call leaves as its own, for one that does not look into things. -/
theorem Inv.res {us : List Value} {ds : List D} (h : Inv w0 [] w [DatN us ds]) : ∃ q, TN w ds q us ∧ Own w0.heap.size w q := by
  obtain ⟨G, ⟨F, G', rfl, ⟨h1, h2⟩, rfl, _⟩, h3⟩ := h.sep
  exact ⟨F, h1, h2.1, fun b hb => ⟨(h3 b (by simp [hb])).elim (fun h => by simp at h) id, (h2.2 b hb).2⟩⟩
theorem Inv.dat_pos {A : Option Addr} {n' c : Nat} {ds : List D} (h : Inv w0 F0 w rs) (i : Nat) (hr : rs[i]? = some (Dat (.slice A n' c) m ds)) (hm : 0 < m) : ∃ b o, A = some ⟨b, o, none⟩ := by
  obtain ⟨bs, ht⟩ := h.dat_t1 i hr
  unfold T1 at ht
  obtain ⟨A', c', he, _, _, h1⟩ := ht
  injection he with hA
  subst hA
  rcases h1 with ⟨h0, _⟩ | ⟨_, b, off, us, bs', rfl, _⟩
  · omega
  · exact ⟨b, off, rfl⟩
/-- A row opened anywhere. -/
theorem Inv.openG {b c s : Nat} {d1 d d2 : List D} (h : Inv w0 F0 w (Gr (.slice (some ⟨b, 0, none⟩) m c) t s m (d1 ++ (d ++ d2)) :: rs)) (hm : 0 < m) :
    ∃ us, Inv w0 F0 w (Opn b c t s m d1 us d2 :: DatN us d :: rs) := by
  obtain ⟨F, ⟨bs, us, rfl, hg⟩, _, h3⟩ := h.take1
  obtain ⟨⟨hl0, hrow⟩, htn, hown, hout⟩ := hg
  rcases hrow with ⟨_, hn⟩ | ⟨g, cap, cur, hv, hlo, hgg, hnc, hcm, hcs, htk⟩
  · omega
  injection hv with hA _ hc
  injection hA with hA
  injection hA with hb _
  subst hb hc
  obtain ⟨b1, b', u1, u', rfl, rfl, t1, htn⟩ := TN.append.1 htn
  obtain ⟨b2, b3, u2, u3, rfl, rfl, t2, t3⟩ := TN.append.1 htn
  have hgb : b ∉ b1 ++ (b2 ++ b3) := hout b rfl
  have hnd := List.nodup_append.1 hown.1
  have hnd2 := List.nodup_append.1 hnd.2.1
  have hrl : rowL (.slice (some ⟨b, 0, none⟩) m c) = [b] := rfl
  refine ⟨u2, h3 _ _ (b :: (b1 ++ b3)) b2 (fun y hy => ?_) (fun y hy => by rw [hrl]; simp [hy]) (fun y hy hm2 => ?_) ⟨cur, u1, u3, b1, b3, rfl, hgg, hnc, hcm, hcs, htk, hl0, t1, t3, ⟨List.nodup_append.2 ⟨hnd.1, hnd2.2.1, fun y hy z hz e => hnd.2.2 y hy z (by simp [hz]) e⟩, fun y hy => hown.2 y (by simp at hy ⊢; rcases hy with h | h <;> simp [h])⟩, fun hm2 => hgb (by simp at hm2 ⊢; rcases hm2 with h | h <;> simp [h])⟩ ⟨t2, hnd2.1, fun y hy => hown.2 y (by simp [hy])⟩⟩
  · rw [hrl]; simp at hy ⊢; rcases hy with h | h | h <;> simp [h]
  · rcases List.mem_cons.1 hy with rfl | hy
    · exact hgb (by simp [hm2])
    · rcases List.mem_append.1 hy with hy | hy
      · exact hnd.2.2 y hy y (by simp [hm2]) rfl
      · exact hnd2.2.2 y hm2 y hy rfl
/-- Opened at raw cells. -/
theorem Inv.openR {b c s : Nat} {d1 d2 : List D} {us : List Value} (h : Inv w0 F0 w (Gr (.slice (some ⟨b, 0, none⟩) m c) t s m (d1 ++ (us.map D.v ++ d2)) :: rs)) (hm : 0 < m) : Inv w0 F0 w (Opn b c t s m d1 us d2 :: rs) := by
  obtain ⟨us', H⟩ := h.openG hm
  obtain ⟨F, hp, _⟩ := H.mem 1 rfl
  obtain ⟨_, rfl⟩ := TN.of_scalars hp
  exact H.drop 1 rfl
/-- Data as raw cells, and what is in them. -/
theorem Ro1.raw {A : Option Addr} {n n' c s : Nat} {ds : List D} (h : Ro1 w0 F0 (.sl n ds) (.slice A n' c)) (hl : ds.length = n * s) : ∃ us : List Value, (us.map D.v).length = n * s ∧ Ro1 w0 F0 (.sl n (us.map D.v)) (.slice A n' c) ∧ RoN w0 F0 ds us := by
  obtain ⟨bs, h1, h2⟩ := h
  unfold T1 at h1
  obtain ⟨A', c', he, hn, hc, h1⟩ := h1
  rcases h1 with ⟨rfl, rfl, rfl⟩ | ⟨h0, b, off, us, bs', hA, rfl, hb, hca, ht⟩
  · refine ⟨[], by simp, ⟨[], ?_, by simp⟩, ⟨[], TN.done, by simp⟩⟩
    unfold T1
    exact ⟨A', c', he, hn, hc, .inl ⟨rfl, rfl, rfl⟩⟩
  · refine ⟨us, by rw [List.length_map, ht.length, hl], ⟨[b], ?_, fun y hy => ?_⟩, ⟨bs', ht, fun y hy => h2 y (by simp [hy])⟩⟩
    · unfold T1
      exact ⟨A', c', he, hn, hc, .inr ⟨h0, b, off, us, [], hA, rfl, hb, hca, TN.scalars ht.oneC⟩⟩
    · simp at hy; subst hy; exact h2 y (by simp)
/-- The cells of element k. -/
theorem RoN.chunk {α : Type} {f : α → List D} {s : Nat} (hs : ∀ x, (f x).length = s) : ∀ {xs : List α} {us : List Value} {k : Nat} {x : α}, RoN w0 F0 (xs.flatMap f) us → xs[k]? = some x → ∃ c, RoN w0 F0 (f x) c ∧ us.drop (k * s) = c ++ us.drop ((k + 1) * s)
  | [], _, k, x, _, hx => by simp at hx
  | y :: ys, us, k, x, h, hx => by
    obtain ⟨bs, h1, h2⟩ := h
    rw [List.flatMap_cons] at h1
    obtain ⟨b1, b2, u1, u2, rfl, rfl, t1, t2⟩ := TN.append.1 h1
    have l1 : u1.length = s := t1.length.trans (hs y)
    cases k with
    | zero =>
      obtain rfl : y = x := by simpa using hx
      refine ⟨u1, ⟨b1, t1, fun b hb => h2 b (by simp [hb])⟩, ?_⟩
      rw [Nat.zero_mul, List.drop_zero, Nat.zero_add, Nat.one_mul, List.drop_append_of_le_length (by omega), ← l1, List.drop_length, List.nil_append]
    | succ k =>
      obtain ⟨c, hc, he⟩ := RoN.chunk hs (k := k) (x := x) ⟨b2, t2, fun b hb => h2 b (by simp [hb])⟩ (by simpa using hx)
      refine ⟨c, hc, ?_⟩
      have e1 : (k + 1) * s = u1.length + k * s := by rw [l1, Nat.add_mul]; omega
      have e2 : (k + 1 + 1) * s = u1.length + (k + 1) * s := by rw [l1, Nat.add_mul (k + 1)]; omega
      rw [e1, e2, List.drop_append, List.drop_append, List.drop_eq_nil_of_le (as := u1) (by omega), List.drop_eq_nil_of_le (as := u1) (by omega)]
      simpa using he
theorem r_snil {x y : Operand} {tt e u : TypeId} {ad : Addr} {n' c : Nat} {dst : Option Nat} {g : Option (Nat × Bool)} (hx : a.eval x = .slice (some ad) n' c) (hy : a.eval y = .slice none 0 0) (ht : P.underlying tt = some (.slice e)) : (execOp a.eval ⟨dst, .binOp .eql tt x y u, ty, pos, aft, g⟩).run P w = .ok (.value (.bool false)) w := by
  have he : (eqGuard .eql tt x y (.slice (some ad) n' c) (.slice none 0 0)).run P w = .ok () w := by
    unfold eqGuard
    split <;> rfl
  simp [execOp, hx, hy, he, Go.Lib.run_eql_slice_nil w tt e (some ad) n' c 0 0 ht]
theorem r_nnil {x y : Operand} {tt e u : TypeId} {n' c : Nat} {dst : Option Nat} {g : Option (Nat × Bool)} (hx : a.eval x = .slice none n' c) (hy : a.eval y = .slice none 0 0) (ht : P.underlying tt = some (.slice e)) : (execOp a.eval ⟨dst, .binOp .eql tt x y u, ty, pos, aft, g⟩).run P w = .ok (.value (.bool true)) w := by
  have he : (eqGuard .eql tt x y (.slice none n' c) (.slice none 0 0)).run P w = .ok () w := by
    unfold eqGuard
    split <;> rfl
  simp [execOp, hx, hy, he, Go.Lib.run_eql_slice_nil w tt e none n' c 0 0 ht]
theorem RoC.at_ {F : List Nat} {b o : Nat} (h : RoC w0 F0 b o v) (hi : Inv w0 F0 w rs) (hF : ∀ b ∈ F, b ∈ F0 ∨ w0.heap.size ≤ b) : RoC w F b o v :=
  ⟨Nat.lt_of_lt_of_le h.1 hi.chg.size, fun hm => (hF b hm).elim h.2.1 (fun h2 => by have := h.1; omega), (World.cell?_of_block (hi.chg.other b h.1 h.2.1)).trans h.2.2⟩
theorem b_at {a b : Bool} (h : (a && b) = true) : a = true ∧ b = true := by cases a <;> cases b <;> simp_all
theorem b_of {a b : Bool} (h : (a || b) = false) : a = false ∧ b = false := by cases a <;> cases b <;> simp_all
theorem b_af {a b : Bool} (h : (a && b) = false) : a = false ∨ (a = true ∧ b = false) := by cases a <;> cases b <;> simp_all
theorem b_ot {a b : Bool} (h : (a || b) = true) : a = true ∨ (a = false ∧ b = true) := by cases a <;> cases b <;> simp_all
theorem b_nt {a : Bool} (h : (!a) = true) : a = false := by cases a <;> simp_all
theorem b_nf {a : Bool} (h : (!a) = false) : a = true := by cases a <;> simp_all
theorem wn {j t : Nat} {o : Oper} {b b' : Bool} (E : Env n a l) (hd : Nat.blt d n = true) (hj : ops[j]? = some o) (ht : o.dst = some t) (hl : l.lookup t = some (.bool b')) (hb : (b' == b) = false) (h : ∀ a', Env n a' ((d, undef) :: l) → wpList P ops Q rest a' w) :
    wpList P ops Q (⟨some d, op, ty, pos, aft, some (j, b)⟩ :: rest) a w := wno E hd (yld E hj ht hl) hb h
theorem wnh {j t : Nat} {o : Oper} {b b' c : Bool} (E : Env n a l) (hd : Nat.blt d n = true) (hj : ops[j]? = some o) (ht : o.dst = some t) (hl : l.lookup t = some (.bool b')) (hq : b' = c) (hb : (c == b) = false) (h : ∀ a', Env n a' ((d, undef) :: l) → wpList P ops Q rest a' w) :
    wpList P ops Q (⟨some d, op, ty, pos, aft, some (j, b)⟩ :: rest) a w := wno E hd (yld E hj ht hl) (bnq hq hb) h
theorem wnu {j t : Nat} {o : Oper} {b : Bool} (E : Env n a l) (hd : Nat.blt d n = true) (hj : ops[j]? = some o) (ht : o.dst = some t) (hl : l.lookup t = some undef) (h : ∀ a', Env n a' ((d, undef) :: l) → wpList P ops Q rest a' w) :
    wpList P ops Q (⟨some d, op, ty, pos, aft, some (j, b)⟩ :: rest) a w := wnon E hd (yldn E hj ht hl) h
theorem ung {j t : Nat} {o : Oper} {b b' : Bool} {dst : Option Nat} (E : Env n a l) (hj : ops[j]? = some o) (ht : o.dst = some t) (hl : l.lookup t = some (.bool b')) (hb : b' = b) (h : wpList P ops Q (⟨dst, op, ty, pos, aft, none⟩ :: rest) a w) : wpList P ops Q (⟨dst, op, ty, pos, aft, some (j, b)⟩ :: rest) a w := unguard (yld E hj ht hl) hb h
theorem B1 (b : Bool) : (true && b) = b := rfl
theorem B2 (b : Bool) : (false && b) = false := rfl
theorem B3 (b : Bool) : (b && true) = b := by cases b <;> rfl
theorem B4 (b : Bool) : (b && false) = false := by cases b <;> rfl
theorem B5 (b : Bool) : (true || b) = true := rfl
theorem B6 (b : Bool) : (false || b) = b := rfl
theorem B7 (b : Bool) : (b || true) = true := by cases b <;> rfl
theorem B8 (b : Bool) : (b || false) = b := by cases b <;> rfl
theorem B9 : (!true) = false := rfl
theorem B10 : (!false) = true := rfl
theorem B11 {α : Type} (a b : α) : cond true a b = a := rfl
theorem B12 {α : Type} (a b : α) : cond false a b = b := rfl
theorem B13 (b : Bool) : (b && b) = b := by cases b <;> rfl
theorem B14 (b : Bool) : (b || b) = b := by cases b <;> rfl
theorem rb {x y : Bool} (hE : x = y) (H : Inv w0 [] w rs) : Ending.returned (.bool x) = Ending.returned (.bool y) ∧ Ext w0 w := ⟨congrArg (fun z => Ending.returned (Value.bool z)) hE, H.to_ext⟩
theorem vm {t : Nat} (E : Env n a l) (hd : Nat.blt d n = true) (hl : l.lookup t = some v) (h : ∀ a', Env n a' ((d, v) :: l) → wpList P ops Q rest a' w) : wpList P ops Q (⟨some d, .move (.tmp t), ty, pos, aft, none⟩ :: rest) a w := wv E hd (r_move (E.tmp hl)) h
theorem va {t : Nat} (E : Env n a l) (hd : Nat.blt d n = true) (hl : l.lookup t = some v) (h : ∀ a', Env n a' ((d, v) :: l) → wpList P ops Q rest a' w) : wpList P ops Q (⟨some d, .assign (.tmp t), ty, pos, aft, none⟩ :: rest) a w := wv E hd (r_assign (E.tmp hl)) h
end
end
end Go.Tr
