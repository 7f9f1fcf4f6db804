/- Equality of structs of integers. Printed by gen_eq.py. -/
import Derived.Test.YtmmdkchhahnenaaGreatProg
import Derived.Test.YtmmdkchhahnenaaGreatDDbg
set_option linter.unusedSimpArgs false
set_option linter.unusedVariables false
namespace Go.Proofs.YtmmdkchhahnenaaGreat
open Go Go.RowKit Go.Proofs Go.Tr

theorem portP : Tryz.prog.stoodInHeld 188 = false := by kernel_rfl
theorem portG : Tryz.prog.eqGuardType Tryz.prog.depth 188 = false := by kernel_rfl
theorem portF : (Tryz.prog.fieldsOf 188).toList.map (fun f => (f.name, f.type, f.offset)) = [("Agent", 2, 0), ("Slot", 2, 1)] := by kernel_rfl
theorem portU : Tryz.prog.underlying 188 = some (.struct (Tryz.prog.fieldsOf 188)) := by kernel_rfl
theorem portB (x y : GPort) : eqInts [x.agent, x.slot] [y.agent, y.slot] = eqb x y := by
  unfold eqb; cases x; cases y; rw [Bool.eq_iff_iff]; simp [eqInts, GPort.mk.injEq]
theorem portEql (w : World) (x y : GPort) : (binOp .eql 188 (.agg #[.int .i64 x.agent, .int .i64 x.slot]) (.agg #[.int .i64 y.agent, .int .i64 y.slot])).run Tryz.prog w = .ok (.bool (eqb x y)) w := by
  have h := run_eqFields_ints w 9998 _ _ portU portP portF (fun t ht => by simp only [List.map_cons, List.map_nil, List.mem_cons, List.not_mem_nil, or_false, or_self] at ht; subst ht; exact Tryz.underlying2) [x.agent, x.slot] [y.agent, y.slot] rfl rfl
  simp only [List.map_cons, List.map_nil] at h
  rw [run_eql_struct, h, ← portB]
  simp [Result.andThen]
theorem portNeq (w : World) (x y : GPort) : (binOp .neq 188 (.agg #[.int .i64 x.agent, .int .i64 x.slot]) (.agg #[.int .i64 y.agent, .int .i64 y.slot])).run Tryz.prog w = .ok (.bool (!eqb x y)) w := by
  have h := run_eqFields_ints w 9998 _ _ portU portP portF (fun t ht => by simp only [List.map_cons, List.map_nil, List.mem_cons, List.not_mem_nil, or_false, or_self] at ht; subst ht; exact Tryz.underlying2) [x.agent, x.slot] [y.agent, y.slot] rfl rfl
  simp only [List.map_cons, List.map_nil] at h
  rw [run_neq_struct, h, ← portB]
  simp [Result.andThen]

theorem originP : Tryz.prog.stoodInHeld 108 = false := by kernel_rfl
theorem originG : Tryz.prog.eqGuardType Tryz.prog.depth 108 = false := by kernel_rfl
theorem originF : (Tryz.prog.fieldsOf 108).toList.map (fun f => (f.name, f.type, f.offset)) = [("Step", 2, 0), ("Def", 2, 1), ("Source", 2, 2)] := by kernel_rfl
theorem originU : Tryz.prog.underlying 108 = some (.struct (Tryz.prog.fieldsOf 108)) := by kernel_rfl
theorem originB (x y : GOrigin) : eqInts [x.step, x.def_, x.source] [y.step, y.def_, y.source] = eqb x y := by
  unfold eqb; cases x; cases y; rw [Bool.eq_iff_iff]; simp [eqInts, GOrigin.mk.injEq]
theorem originEql (w : World) (x y : GOrigin) : (binOp .eql 108 (.agg #[.int .i64 x.step, .int .i64 x.def_, .int .i64 x.source]) (.agg #[.int .i64 y.step, .int .i64 y.def_, .int .i64 y.source])).run Tryz.prog w = .ok (.bool (eqb x y)) w := by
  have h := run_eqFields_ints w 9998 _ _ originU originP originF (fun t ht => by simp only [List.map_cons, List.map_nil, List.mem_cons, List.not_mem_nil, or_false, or_self] at ht; subst ht; exact Tryz.underlying2) [x.step, x.def_, x.source] [y.step, y.def_, y.source] rfl rfl
  simp only [List.map_cons, List.map_nil] at h
  rw [run_eql_struct, h, ← originB]
  simp [Result.andThen]
theorem originNeq (w : World) (x y : GOrigin) : (binOp .neq 108 (.agg #[.int .i64 x.step, .int .i64 x.def_, .int .i64 x.source]) (.agg #[.int .i64 y.step, .int .i64 y.def_, .int .i64 y.source])).run Tryz.prog w = .ok (.bool (!eqb x y)) w := by
  have h := run_eqFields_ints w 9998 _ _ originU originP originF (fun t ht => by simp only [List.map_cons, List.map_nil, List.mem_cons, List.not_mem_nil, or_false, or_self] at ht; subst ht; exact Tryz.underlying2) [x.step, x.def_, x.source] [y.step, y.def_, y.source] rfl rfl
  simp only [List.map_cons, List.map_nil] at h
  rw [run_neq_struct, h, ← originB]
  simp [Result.andThen]

theorem breakP : Tryz.prog.stoodInHeld 200 = false := by kernel_rfl
theorem breakG : Tryz.prog.eqGuardType Tryz.prog.depth 200 = false := by kernel_rfl
theorem breakF : (Tryz.prog.fieldsOf 200).toList.map (fun f => (f.name, f.type, f.offset)) = [("Kind", 2, 0), ("Value", 2, 1)] := by kernel_rfl
theorem breakU : Tryz.prog.underlying 200 = some (.struct (Tryz.prog.fieldsOf 200)) := by kernel_rfl
theorem breakB (x y : GBreak) : eqInts [x.kind, x.value] [y.kind, y.value] = eqb x y := by
  unfold eqb; cases x; cases y; rw [Bool.eq_iff_iff]; simp [eqInts, GBreak.mk.injEq]
theorem breakEql (w : World) (x y : GBreak) : (binOp .eql 200 (.agg #[.int .i64 x.kind, .int .i64 x.value]) (.agg #[.int .i64 y.kind, .int .i64 y.value])).run Tryz.prog w = .ok (.bool (eqb x y)) w := by
  have h := run_eqFields_ints w 9998 _ _ breakU breakP breakF (fun t ht => by simp only [List.map_cons, List.map_nil, List.mem_cons, List.not_mem_nil, or_false, or_self] at ht; subst ht; exact Tryz.underlying2) [x.kind, x.value] [y.kind, y.value] rfl rfl
  simp only [List.map_cons, List.map_nil] at h
  rw [run_eql_struct, h, ← breakB]
  simp [Result.andThen]
theorem breakNeq (w : World) (x y : GBreak) : (binOp .neq 200 (.agg #[.int .i64 x.kind, .int .i64 x.value]) (.agg #[.int .i64 y.kind, .int .i64 y.value])).run Tryz.prog w = .ok (.bool (!eqb x y)) w := by
  have h := run_eqFields_ints w 9998 _ _ breakU breakP breakF (fun t ht => by simp only [List.map_cons, List.map_nil, List.mem_cons, List.not_mem_nil, or_false, or_self] at ht; subst ht; exact Tryz.underlying2) [x.kind, x.value] [y.kind, y.value] rfl rfl
  simp only [List.map_cons, List.map_nil] at h
  rw [run_neq_struct, h, ← breakB]
  simp [Result.andThen]

end Go.Proofs.YtmmdkchhahnenaaGreat
