
/- Equality of structs of integers. Printed by gen_eq.py. -/
import Derived.Test.YtjpaeopdljfjpaaGreatProg
import Derived.Test.YtjpaeopdljfjpaaGreatValid
set_option linter.unusedSimpArgs false
set_option linter.unusedVariables false
namespace Go.Proofs.YtjpaeopdljfjpaaGreat
open Go Go.RowKit Go.Proofs Go.Tr
theorem NT:Tryz.prog.stoodInHeld 92=false:=by kernel_rfl
theorem NS:Tryz.prog.eqGuardType Tryz.prog.depth 92=false:=by kernel_rfl
theorem NR : (Tryz.prog.fieldsOf 92).toList.map (fun f => (f.name, f.type, f.offset)) = [("Agent", 2, 0), ("Slot", 2, 1)] := by kernel_rfl
theorem NU:Tryz.prog.underlying 92=some (.struct (Tryz.prog.fieldsOf 92)):=by kernel_rfl
theorem NQ(x y:aC):jQ [x.agent,x.slot] [y.agent,y.slot]=kX x y:=by
 unfold kX;cases x;cases y;rw[Bool.eq_iff_iff];simp[jQ,aC.mk.injEq]
theorem Ik(w:World)(x y:aC):(binOp .eql 92 (.agg #[.int .i64 x.agent,.int .i64 x.slot]) (.agg #[.int .i64 y.agent,.int .i64 y.slot])).run Tryz.prog w=.ok (.bool (kX x y)) w:=by
 have h:=ko w 9998 _ _ NU NT NR (fun t ht=>by simp only[List.map_cons,List.map_nil,List.mem_cons,List.not_mem_nil,or_false,or_self]at ht;subst ht;exact Tryz.underlying2) [x.agent,x.slot] [y.agent,y.slot] rfl rfl;simp only[List.map_cons,List.map_nil]at h;rw[run_eql_struct,h,←NQ];simp[Result.andThen]
theorem Il(w:World)(x y:aC):(binOp .neq 92 (.agg #[.int .i64 x.agent,.int .i64 x.slot]) (.agg #[.int .i64 y.agent,.int .i64 y.slot])).run Tryz.prog w=.ok (.bool (!kX x y)) w:=by
 have h:=ko w 9998 _ _ NU NT NR (fun t ht=>by simp only[List.map_cons,List.map_nil,List.mem_cons,List.not_mem_nil,or_false,or_self]at ht;subst ht;exact Tryz.underlying2) [x.agent,x.slot] [y.agent,y.slot] rfl rfl;simp only[List.map_cons,List.map_nil]at h;rw[run_neq_struct,h,←NQ];simp[Result.andThen]
end Go.Proofs.YtjpaeopdljfjpaaGreat
