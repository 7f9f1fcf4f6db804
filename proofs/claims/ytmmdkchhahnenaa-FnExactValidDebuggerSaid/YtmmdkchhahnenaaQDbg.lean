/- Equality of structs of integers. Printed by gen_eq.py. -/
import Derived.Test.YtmmdkchhahnenaaProg
import Derived.Test.YtmmdkchhahnenaaDDbg
set_option linter.unusedSimpArgs false
set_option linter.unusedVariables false
namespace Go.Proofs.Ytmmdkchhahnenaa
open Go Go.RowKit Go.Proofs Go.Tr

theorem portP : Try.prog.stoodInHeld 286 = false := by kernel_rfl
theorem portG : Try.prog.eqGuardType Try.prog.depth 286 = false := by kernel_rfl
theorem portF : (Try.prog.fieldsOf 286).toList.map (fun f => (f.name, f.type, f.offset)) = [("Agent", 2, 0), ("Slot", 2, 1)] := by kernel_rfl
theorem portU : Try.prog.underlying 286 = some (.struct (Try.prog.fieldsOf 286)) := by kernel_rfl
theorem portB (x y : GPort) : eqInts [x.agent, x.slot] [y.agent, y.slot] = eqb x y := by
  unfold eqb; cases x; cases y; rw [Bool.eq_iff_iff]; simp [eqInts, GPort.mk.injEq]
theorem portEql (w : World) (x y : GPort) : (binOp .eql 286 (.agg #[.int .i64 x.agent, .int .i64 x.slot]) (.agg #[.int .i64 y.agent, .int .i64 y.slot])).run Try.prog w = .ok (.bool (eqb x y)) w := by
  have h := run_eqFields_ints w 9998 _ _ portU portP portF (fun t ht => by simp only [List.map_cons, List.map_nil, List.mem_cons, List.not_mem_nil, or_false, or_self] at ht; subst ht; exact Try.underlying2) [x.agent, x.slot] [y.agent, y.slot] rfl rfl
  simp only [List.map_cons, List.map_nil] at h
  rw [run_eql_struct, h, ← portB]
  simp [Result.andThen]
theorem portNeq (w : World) (x y : GPort) : (binOp .neq 286 (.agg #[.int .i64 x.agent, .int .i64 x.slot]) (.agg #[.int .i64 y.agent, .int .i64 y.slot])).run Try.prog w = .ok (.bool (!eqb x y)) w := by
  have h := run_eqFields_ints w 9998 _ _ portU portP portF (fun t ht => by simp only [List.map_cons, List.map_nil, List.mem_cons, List.not_mem_nil, or_false, or_self] at ht; subst ht; exact Try.underlying2) [x.agent, x.slot] [y.agent, y.slot] rfl rfl
  simp only [List.map_cons, List.map_nil] at h
  rw [run_neq_struct, h, ← portB]
  simp [Result.andThen]

theorem originP : Try.prog.stoodInHeld 154 = false := by kernel_rfl
theorem originG : Try.prog.eqGuardType Try.prog.depth 154 = false := by kernel_rfl
theorem originF : (Try.prog.fieldsOf 154).toList.map (fun f => (f.name, f.type, f.offset)) = [("Step", 2, 0), ("Def", 2, 1), ("Source", 2, 2)] := by kernel_rfl
theorem originU : Try.prog.underlying 154 = some (.struct (Try.prog.fieldsOf 154)) := by kernel_rfl
theorem originB (x y : GOrigin) : eqInts [x.step, x.def_, x.source] [y.step, y.def_, y.source] = eqb x y := by
  unfold eqb; cases x; cases y; rw [Bool.eq_iff_iff]; simp [eqInts, GOrigin.mk.injEq]
theorem originEql (w : World) (x y : GOrigin) : (binOp .eql 154 (.agg #[.int .i64 x.step, .int .i64 x.def_, .int .i64 x.source]) (.agg #[.int .i64 y.step, .int .i64 y.def_, .int .i64 y.source])).run Try.prog w = .ok (.bool (eqb x y)) w := by
  have h := run_eqFields_ints w 9998 _ _ originU originP originF (fun t ht => by simp only [List.map_cons, List.map_nil, List.mem_cons, List.not_mem_nil, or_false, or_self] at ht; subst ht; exact Try.underlying2) [x.step, x.def_, x.source] [y.step, y.def_, y.source] rfl rfl
  simp only [List.map_cons, List.map_nil] at h
  rw [run_eql_struct, h, ← originB]
  simp [Result.andThen]
theorem originNeq (w : World) (x y : GOrigin) : (binOp .neq 154 (.agg #[.int .i64 x.step, .int .i64 x.def_, .int .i64 x.source]) (.agg #[.int .i64 y.step, .int .i64 y.def_, .int .i64 y.source])).run Try.prog w = .ok (.bool (!eqb x y)) w := by
  have h := run_eqFields_ints w 9998 _ _ originU originP originF (fun t ht => by simp only [List.map_cons, List.map_nil, List.mem_cons, List.not_mem_nil, or_false, or_self] at ht; subst ht; exact Try.underlying2) [x.step, x.def_, x.source] [y.step, y.def_, y.source] rfl rfl
  simp only [List.map_cons, List.map_nil] at h
  rw [run_neq_struct, h, ← originB]
  simp [Result.andThen]

theorem breakP : Try.prog.stoodInHeld 142 = false := by kernel_rfl
theorem breakG : Try.prog.eqGuardType Try.prog.depth 142 = false := by kernel_rfl
theorem breakF : (Try.prog.fieldsOf 142).toList.map (fun f => (f.name, f.type, f.offset)) = [("Kind", 2, 0), ("Value", 2, 1)] := by kernel_rfl
theorem breakU : Try.prog.underlying 142 = some (.struct (Try.prog.fieldsOf 142)) := by kernel_rfl
theorem breakB (x y : GBreak) : eqInts [x.kind, x.value] [y.kind, y.value] = eqb x y := by
  unfold eqb; cases x; cases y; rw [Bool.eq_iff_iff]; simp [eqInts, GBreak.mk.injEq]
theorem breakEql (w : World) (x y : GBreak) : (binOp .eql 142 (.agg #[.int .i64 x.kind, .int .i64 x.value]) (.agg #[.int .i64 y.kind, .int .i64 y.value])).run Try.prog w = .ok (.bool (eqb x y)) w := by
  have h := run_eqFields_ints w 9998 _ _ breakU breakP breakF (fun t ht => by simp only [List.map_cons, List.map_nil, List.mem_cons, List.not_mem_nil, or_false, or_self] at ht; subst ht; exact Try.underlying2) [x.kind, x.value] [y.kind, y.value] rfl rfl
  simp only [List.map_cons, List.map_nil] at h
  rw [run_eql_struct, h, ← breakB]
  simp [Result.andThen]
theorem breakNeq (w : World) (x y : GBreak) : (binOp .neq 142 (.agg #[.int .i64 x.kind, .int .i64 x.value]) (.agg #[.int .i64 y.kind, .int .i64 y.value])).run Try.prog w = .ok (.bool (!eqb x y)) w := by
  have h := run_eqFields_ints w 9998 _ _ breakU breakP breakF (fun t ht => by simp only [List.map_cons, List.map_nil, List.mem_cons, List.not_mem_nil, or_false, or_self] at ht; subst ht; exact Try.underlying2) [x.kind, x.value] [y.kind, y.value] rfl rfl
  simp only [List.map_cons, List.map_nil] at h
  rw [run_neq_struct, h, ← breakB]
  simp [Result.andThen]

end Go.Proofs.Ytmmdkchhahnenaa
