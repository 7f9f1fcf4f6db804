
/- Equality of structs of integers. Printed by gen_eq.py. -/
import Derived.Test.YtemalpelcdmemaaGreatProg
import Derived.Test.YtemalpelcdmemaaGreatValid
set_option linter.unusedSimpArgs false
set_option linter.unusedVariables false
namespace Go.Proofs.YtemalpelcdmemaaGreat
open Go Go.RowKit Go.Proofs Go.Tr
theorem Yd:Tryz.prog.stoodInHeld 104=false:=by kernel_rfl
theorem Yc:Tryz.prog.eqGuardType Tryz.prog.depth 104=false:=by kernel_rfl
theorem Yb : (Tryz.prog.fieldsOf 104).toList.map (fun f => (f.name, f.type, f.offset)) = [("Agent", 2, 0), ("Slot", 2, 1)] := by kernel_rfl
theorem Ye:Tryz.prog.underlying 104=some (.struct (Tryz.prog.fieldsOf 104)):=by kernel_rfl
theorem Ya(x y:aG):ig [x.agent,x.slot] [y.agent,y.slot]=eqb x y:=by
 unfold eqb;cases x;cases y;rw[Bool.eq_iff_iff];simp[ig,aG.mk.injEq]
theorem Qp(w:World)(x y:aG):(binOp .eql 104 (.agg #[.int .i64 x.agent,.int .i64 x.slot]) (.agg #[.int .i64 y.agent,.int .i64 y.slot])).run Tryz.prog w=.ok (.bool (eqb x y)) w:=by
 have h:=ow w 9998 _ _ Ye Yd Yb (fun t ht=>by simp only[List.map_cons,List.map_nil,List.mem_cons,List.not_mem_nil,or_false,or_self]at ht;subst ht;exact Tryz.underlying2) [x.agent,x.slot] [y.agent,y.slot] rfl rfl;simp only[List.map_cons,List.map_nil]at h;rw[run_eql_struct,h,←Ya];simp[Result.andThen]
theorem Qq(w:World)(x y:aG):(binOp .neq 104 (.agg #[.int .i64 x.agent,.int .i64 x.slot]) (.agg #[.int .i64 y.agent,.int .i64 y.slot])).run Tryz.prog w=.ok (.bool (!eqb x y)) w:=by
 have h:=ow w 9998 _ _ Ye Yd Yb (fun t ht=>by simp only[List.map_cons,List.map_nil,List.mem_cons,List.not_mem_nil,or_false,or_self]at ht;subst ht;exact Tryz.underlying2) [x.agent,x.slot] [y.agent,y.slot] rfl rfl;simp only[List.map_cons,List.map_nil]at h;rw[run_neq_struct,h,←Ya];simp[Result.andThen]
end Go.Proofs.YtemalpelcdmemaaGreat
