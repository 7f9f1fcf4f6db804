
/- Equality of structs of integers. Printed by gen_eq.py. -/
import Derived.Test.YtemalpelcdmemaaGreatProg
import Derived.Test.YtemalpelcdmemaaGreatValid
set_option linter.unusedSimpArgs false
set_option linter.unusedVariables false
namespace Go.Proofs.YtemalpelcdmemaaGreat
open Go Go.RowKit Go.Proofs Go.Tr
theorem Zba:Tryz.prog.stoodInHeld 104=false:=by kernel_rfl
theorem Za9:Tryz.prog.eqGuardType Tryz.prog.depth 104=false:=by kernel_rfl
theorem Za8 : (Tryz.prog.fieldsOf 104).toList.map (fun f => (f.name, f.type, f.offset)) = [("Agent", 2, 0), ("Slot", 2, 1)] := by kernel_rfl
theorem Zbb:Tryz.prog.underlying 104=some (.struct (Tryz.prog.fieldsOf 104)):=by kernel_rfl
theorem Za7(x y:aH):jH [x.agent,x.slot] [y.agent,y.slot]=xZ x y:=by
 unfold xZ;cases x;cases y;rw[Bool.eq_iff_iff];simp[jH,aH.mk.injEq]
theorem VE(w:World)(x y:aH):(binOp .eql 104 (.agg #[.int .i64 x.agent,.int .i64 x.slot]) (.agg #[.int .i64 y.agent,.int .i64 y.slot])).run Tryz.prog w=.ok (.bool (xZ x y)) w:=by
 have h:=qm w 9998 _ _ Zbb Zba Za8 (fun t ht=>by simp only[List.map_cons,List.map_nil,List.mem_cons,List.not_mem_nil,or_false,or_self]at ht;subst ht;exact Tryz.underlying2) [x.agent,x.slot] [y.agent,y.slot] rfl rfl;simp only[List.map_cons,List.map_nil]at h;rw[run_eql_struct,h,←Za7];simp[Result.andThen]
theorem VF(w:World)(x y:aH):(binOp .neq 104 (.agg #[.int .i64 x.agent,.int .i64 x.slot]) (.agg #[.int .i64 y.agent,.int .i64 y.slot])).run Tryz.prog w=.ok (.bool (!xZ x y)) w:=by
 have h:=qm w 9998 _ _ Zbb Zba Za8 (fun t ht=>by simp only[List.map_cons,List.map_nil,List.mem_cons,List.not_mem_nil,or_false,or_self]at ht;subst ht;exact Tryz.underlying2) [x.agent,x.slot] [y.agent,y.slot] rfl rfl;simp only[List.map_cons,List.map_nil]at h;rw[run_neq_struct,h,←Za7];simp[Result.andThen]
end Go.Proofs.YtemalpelcdmemaaGreat
