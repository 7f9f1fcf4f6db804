/- One rule for each operation: what it gives. No program in it. -/
import Derived.Test.YthciaodffkbljaaGreatSl
import Derived.Deep.MidRow
set_option linter.unusedSimpArgs false
set_option linter.unusedVariables false
namespace Go.Tr
open Go Go.RowKit
section
variable {P : Program} {ops : Array Oper} {Q : Exit → Act → World → Prop} {a : Act} {w w' : World} {rest : List Oper} {n : Nat} {l : List (Nat × Value)} {v : Value} {d : Nat} {dst : Option Nat} {op : Op} {ty : TypeId} {pos : String} {aft : Array Edge} {g : Option (Nat × Bool)}
def aggB (P : Program) (t : TypeId) : Option Bool := (P.underlying t).map fun | .struct _ | .array _ _ => true | _ => false
def fldOff (P : Program) (s i : Nat) : Option Nat := match P.underlying s with
  | some (.struct fs) => (fs[i]?).bind fun f => (P.info? f.type).bind fun t => if t.size = 0 then none else some f.offset
  | _ => none
def elemOf? (P : Program) (t : TypeId) : Option (TypeId × Nat) := match P.underlying t with
  | some (.slice e) => (P.info? e).map fun i => (e, i.size)
  | _ => none
def zeroOf (P : Program) (t : TypeId) : Option (List Value) := (P.info? t).bind fun i => i.zero.map fun z => z.cells.toList
def callOk (P : Program) (f : FuncId) : Bool := match P.funcs[f]? with
  | some fn => !(fn.name == "runtime.NumGoroutine") && fn.body.isSome
  | none => false
theorem aggB_run {t : TypeId} {b : Bool} (h : aggB P t = some b) (w : World) : (isAgg t).run P w = .ok b w := by
  unfold aggB at h
  cases hu : P.underlying t with
  | none => rw [hu] at h; simp at h
  | some d =>
    rw [hu] at h
    unfold isAgg
    rw [Sem.run_bind, run_underlying hu w]
    cases d <;> simp_all
theorem r_move {x : Operand} (hx : a.eval x = v) : (execOp a.eval ⟨dst, .move x, ty, pos, aft, g⟩).run P w = .ok (.value v) w := by simp [execOp, hx]
theorem r_assign {x : Operand} (hx : a.eval x = v) : (execOp a.eval ⟨dst, .assign x, ty, pos, aft, g⟩).run P w = .ok (.value v) w := by simp [execOp, hx]
theorem r_nil {x : Operand} {p : Addr} (hx : a.eval x = .pointer (some p)) : (execOp a.eval ⟨dst, .nilCheck x, ty, pos, aft, g⟩).run P w = .ok (.value (.pointer (some p))) w := by simp [execOp, hx]
theorem r_fa {x : Operand} {s i b o k o' : Nat} (hx : a.eval x = .pointer (some ⟨b, o, none⟩)) (hf : fldOff P s i = some k) (ho : o + k = o') :
    (execOp a.eval ⟨dst, .fieldAddr s x i, ty, pos, aft, g⟩).run P w = .ok (.value (.pointer (some ⟨b, o', none⟩))) w := by
  subst ho
  unfold fldOff at hf
  split at hf
  · rename_i fs hu
    cases hfi : fs[i]? with
    | none => rw [hfi] at hf; simp at hf
    | some f =>
      rw [hfi] at hf
      simp only [Option.bind_some] at hf
      cases hi : P.info? f.type with
      | none => rw [hi] at hf; simp at hf
      | some t =>
        rw [hi] at hf
        simp only [Option.bind_some] at hf
        split at hf
        · cases hf
        · rename_i hz
          simp at hf
          simp [execOp, Instr.fieldAt, run_underlying hu, hx, hfi, Instr.sureAddr, fieldPlace, sizeOf, typeInfo, hi, hz, Addr.add_mid, hf]
  · cases hf
theorem r_load {x : Operand} {t b o : Nat} (hx : a.eval x = .pointer (some ⟨b, o, none⟩)) (ht : aggB P t = some false) (hc : w.cell? ⟨b, o, none⟩ = some v) : (execOp a.eval ⟨dst, .load t x, ty, pos, aft, g⟩).run P w = .ok (.value v) w := by
  simp [execOp, hx, Instr.loadAt, Instr.sureAddr, loadVar, aggB_run ht, load, Sem.run, hc]
theorem r_loads {x : Operand} {t b o : Nat} {us : List Value} (hx : a.eval x = .pointer (some ⟨b, o, none⟩)) (ht : aggB P t = some true) (hs : (P.info? t).map (·.size) = some us.length) (hc : cellsAt w b o us) :
    (execOp a.eval ⟨dst, .load t x, ty, pos, aft, g⟩).run P w = .ok (.value (.agg us.toArray)) w := by
  have hl : (loadCells ⟨b, o, none⟩ us.length).run P w = .ok us.toArray w := run_loadCells_list (P := P) w ⟨b, o, none⟩ us (fun j v hv => by rw [Addr.add_mid]; exact hc j v hv)
  cases hq : P.info? t with
  | none => simp [hq] at hs
  | some i =>
    have hs' : i.size = us.length := by simpa [hq] using hs
    simp [execOp, hx, Instr.loadAt, Instr.sureAddr, loadVar, aggB_run ht, sizeOf, typeInfo, hq, hs', hl]
theorem r_store {x y : Operand} {t b o : Nat} {cs : Array Value} {T : TypeId} (hx : a.eval x = .pointer (some ⟨b, o, none⟩)) (hy : a.eval y = v) (hv : v.cells = #[v]) (h1 : v.oneCell' = true) (hs : (P.info? t).map (·.size) = some 1) (hr : w.heap[b]? = some (.cells cs T (0, 0))) (ho : o < cs.size) :
    (execOp a.eval ⟨dst, .store t x y, ty, pos, aft, g⟩).run P w = .ok .skip (w.setCells b o [v]) := by
  have := run_storeCells_cells (P := P) b o [v] 0 w (fun j hj => by
    have hj0 : j = 0 := by simpa using hj
    subst hj0
    rw [cell_of_row w b _ cs T (0, 0) hr]; simp [ho]) (fun j hj => fz_of_row hr _) (fun u hu => by simp at hu; subst hu; exact h1)
  cases hq : P.info? t with
  | none => simp [hq] at hs
  | some i =>
    have hs' : i.size = 1 := by simpa [hq] using hs
    simp only [Nat.add_zero] at this
    simp [execOp, hx, hy, Instr.storeAt, Instr.sureAddr, storeVar, hv, sizeOf, typeInfo, hq, hs', this]
theorem r_stores {x y : Operand} {t b o : Nat} {us : List Value} {cs : Array Value} {T : TypeId} (hx : a.eval x = .pointer (some ⟨b, o, none⟩)) (hy : a.eval y = .agg us.toArray) (h1 : us.all (·.oneCell') = true) (hs : (P.info? t).map (·.size) = some us.length) (hr : w.heap[b]? = some (.cells cs T (0, 0))) (ho : o + us.length ≤ cs.size) :
    (execOp a.eval ⟨dst, .store t x y, ty, pos, aft, g⟩).run P w = .ok .skip (w.setCells b o us) := by
  have := run_storeVar_mid (P := P) w b o t us.toArray (fun j hj => ⟨by
    rw [cell_of_row w b _ cs T (0, 0) hr]; simp at hj; simp; omega, fz_of_row hr _⟩) (by simpa using hs) (by simpa using h1)
  simp [execOp, hx, hy, Instr.storeAt, Instr.sureAddr, this]
/-- What a store leaves. -/
theorem setCells_row {b o : Nat} {cs us : List Value} {T : TypeId} (hr : w.heap[b]? = some (.cells cs.toArray T (0, 0))) (ho : o + us.length ≤ cs.length) :
    (w.setCells b o us).heap[b]? = some (.cells (cs.take o ++ us ++ cs.drop (o + us.length)).toArray T (0, 0)) ∧ Chg [b] w (w.setCells b o us) := by
  induction us generalizing w o cs with
  | nil => exact ⟨by simpa [World.setCells] using hr, Chg.refl _ _⟩
  | cons u us ih =>
    have h1 : (w.setCell ⟨b, o, none⟩ u).heap[b]? = some (.cells (cs.set o u).toArray T (0, 0)) := by
      have := Rows.heap_set_same (i := o) (v := u) hr
      simpa using this
    obtain ⟨h2, h3⟩ := ih (o := o + 1) h1 (by simp at ho ⊢; omega)
    rw [World.setCells]
    refine ⟨?_, ((Onl.refl [b] w).setCell (by simp) o u).chg.trans h3⟩
    rw [h2]
    simp at ho
    congr 2
    apply congrArg
    apply List.ext_getElem?
    intro j
    simp only [List.getElem?_append, List.getElem?_take, List.length_append, List.length_take, List.length_set, List.length_cons, List.getElem?_set, List.getElem?_drop]
    grind
theorem r_bin {x y : Operand} {o : BinOp} {t u : TypeId} {k : IntKind} {i j : Int} (hx : a.eval x = .int k i) (hy : a.eval y = .int k j) (hr : (binOp o t (.int k i) (.int k j)).run P w = .ok v w) :
    (execOp a.eval ⟨dst, .binOp o t x y u, ty, pos, aft, g⟩).run P w = .ok (.value v) w := by
  have he : (eqGuard o t x y (.int k i) (.int k j)).run P w = .ok () w := by
    unfold eqGuard
    split <;> rfl
  simp [execOp, hx, hy, he, hr]
theorem b_add {t : TypeId} {i j z : Int} (h : IntKind.i64.wrap (i + j) = z) : (binOp .add t (.int .i64 i) (.int .i64 j)).run P w = .ok (.int .i64 z) w := by subst h; rfl
theorem b_sub {t : TypeId} {i j z : Int} (h : IntKind.i64.wrap (i - j) = z) : (binOp .sub t (.int .i64 i) (.int .i64 j)).run P w = .ok (.int .i64 z) w := by subst h; rfl
theorem b_mul {t : TypeId} {i j z : Int} (h : IntKind.i64.wrap (i * j) = z) : (binOp .mul t (.int .i64 i) (.int .i64 j)).run P w = .ok (.int .i64 z) w := by subst h; rfl
theorem b_quo {t : TypeId} {i j z : Int} (hj : j ≠ 0) (h : IntKind.i64.wrap (i.tdiv j) = z) : (binOp .quo t (.int .i64 i) (.int .i64 j)).run P w = .ok (.int .i64 z) w := by
  subst h; simp [binOp, Op.intDiv, hj]
theorem b_rem {t : TypeId} {i j z : Int} (hj : j ≠ 0) (h : i.tmod j = z) : (binOp .rem t (.int .i64 i) (.int .i64 j)).run P w = .ok (.int .i64 z) w := by
  subst h; simp [binOp, Op.intDiv, hj]
theorem b_eql {t : TypeId} {k : IntKind} {i j : Int} {b : Bool} (h : (i == j) = b) : (binOp .eql t (.int k i) (.int k j)).run P w = .ok (.bool b) w := by subst h; simp [binOp, Op.intCmp]
theorem b_neq {t : TypeId} {k : IntKind} {i j : Int} {b : Bool} (h : (i != j) = b) : (binOp .neq t (.int k i) (.int k j)).run P w = .ok (.bool b) w := by subst h; simp [binOp, Op.intCmp]
theorem b_lss {t : TypeId} {k : IntKind} {i j : Int} {b : Bool} (h : decide (i < j) = b) : (binOp .lss t (.int k i) (.int k j)).run P w = .ok (.bool b) w := by subst h; simp [binOp, Op.intCmp]
theorem b_leq {t : TypeId} {k : IntKind} {i j : Int} {b : Bool} (h : decide (i ≤ j) = b) : (binOp .leq t (.int k i) (.int k j)).run P w = .ok (.bool b) w := by subst h; simp [binOp, Op.intCmp]
theorem b_gtr {t : TypeId} {k : IntKind} {i j : Int} {b : Bool} (h : decide (j < i) = b) : (binOp .gtr t (.int k i) (.int k j)).run P w = .ok (.bool b) w := by subst h; simp [binOp, Op.intCmp]
theorem b_geq {t : TypeId} {k : IntKind} {i j : Int} {b : Bool} (h : decide (j ≤ i) = b) : (binOp .geq t (.int k i) (.int k j)).run P w = .ok (.bool b) w := by subst h; simp [binOp, Op.intCmp]
theorem r_not {x : Operand} {t : TypeId} {b c : Bool} (hx : a.eval x = .bool b) (h : (!b) = c) : (execOp a.eval ⟨dst, .unOp .not t x, ty, pos, aft, g⟩).run P w = .ok (.value (.bool c)) w := by
  subst h; simp [execOp, hx, Op.unary]
theorem r_neg {x : Operand} {t : TypeId} {i z : Int} (hx : a.eval x = .int .i64 i) (h : IntKind.i64.wrap (0 - i) = z) : (execOp a.eval ⟨dst, .unOp .neg t x, ty, pos, aft, g⟩).run P w = .ok (.value (.int .i64 z)) w := by
  subst h; simp [execOp, hx, Op.unary, Op.intArith]
theorem r_len {x : Operand} {t e s : Nat} {A : Option Addr} {m c : Nat} (hx : a.eval x = .slice A m c) (ht : elemOf? P t = some (e, s)) : (execOp a.eval ⟨dst, .call { callee := .builtin .len, args := #[x], argTypes := #[t] }, ty, pos, aft, g⟩).run P w = .ok (.value (.int .i64 m)) w := by
  unfold elemOf? at ht
  split at ht
  · rename_i e' hu
    simp [execOp, resolve, invoke, builtin, hx, Builtin.len_, run_underlying hu, goInt]
  · cases ht
theorem r_ia {x y : Operand} {t e s b o m c k o' : Nat} {i : Int} (hx : a.eval x = .slice (some ⟨b, o, none⟩) m c) (hy : a.eval y = .int .i64 i) (hi : i = (k : Int)) (ht : elemOf? P t = some (e, s)) (hk : k < m) (ho : o + k * s = o') :
    (execOp a.eval ⟨dst, .indexAddr t x y, ty, pos, aft, g⟩).run P w = .ok (.value (.pointer (some ⟨b, o', none⟩))) w := by
  subst ho hi
  unfold elemOf? at ht
  split at ht
  · rename_i e' hu
    cases hie : P.info? e' with
    | none => rw [hie] at ht; simp at ht
    | some i =>
      rw [hie] at ht
      simp at ht
      obtain ⟨rfl, rfl⟩ := ht
      simp [execOp, hx, hy, Instr.indexAt, run_underlying hu, asIntOf, hk, sizeOf, typeInfo, hie, Addr.add_mid]
  · cases ht
theorem r_alloc {t : TypeId} {zs : List Value} (hz : zeroOf P t = some zs) : (execOp a.eval ⟨dst, .alloc t, ty, pos, aft, g⟩).run P w = .ok (.value (.pointer (some ⟨w.heap.size, 0, none⟩))) (w.alloc (.cells zs.toArray t)) := by
  unfold zeroOf at hz
  cases hi : P.info? t with
  | none => rw [hi] at hz; simp at hz
  | some i =>
    rw [hi] at hz
    simp only [Option.bind_some] at hz
    cases hzz : i.zero with
    | none => rw [hzz] at hz; simp at hz
    | some z =>
      rw [hzz] at hz
      simp at hz
      subst hz
      simp [execOp, Instr.alloc, zeroValue, typeInfo, hi, hzz, newVar, newRow]
theorem r_box {t : TypeId} {x : Operand} {us : List Value} (hx : a.eval x = v) (hv : v.cells = us.toArray) : (execOp a.eval ⟨dst, .box t x, ty, pos, aft, g⟩).run P w = .ok (.value (.pointer (some ⟨w.heap.size, 0, none⟩))) (w.alloc (.cells us.toArray t)) := by
  simp [execOp, Instr.box, hx, hv, newVar, newRow]
theorem r_build {t : TypeId} {ps : Array (Nat × Operand)} {qs : Array (Nat × Value)} (hp : (ps.map fun (i, x) => (i, a.eval x)) = qs) (hr : (Instr.build t qs).run P w = .ok v w) : (execOp a.eval ⟨dst, .build t ps, ty, pos, aft, g⟩).run P w = .ok (.value v) w := by
  subst hp
  simp only [execOp, Sem.run_bind, hr, Result.andThen_ok, Sem.run_pure]
theorem r_bslice {t m : Nat} {ps : Array (Nat × Operand)} {qs : Array (Nat × Value)} (hp : (ps.map fun (i, x) => (i, a.eval x)) = qs) (hr : (Instr.buildSlice t m qs).run P w = .ok v w') : (execOp a.eval ⟨dst, .buildSlice t m ps, ty, pos, aft, g⟩).run P w = .ok (.value v) w' := by
  subst hp
  simp only [execOp, Sem.run_bind, hr, Result.andThen_ok, Sem.run_pure]
end
end Go.Tr
