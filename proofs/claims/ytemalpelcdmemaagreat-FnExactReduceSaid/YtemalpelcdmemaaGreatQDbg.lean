
/- Equality of structs of integers. Printed by gen_eq.py. -/
import Derived.Test.YtemalpelcdmemaaGreatProg
import Derived.Test.YtemalpelcdmemaaGreatValid
set_option linter.unusedSimpArgs false
set_option linter.unusedVariables false
namespace Go.Proofs.YtemalpelcdmemaaGreat
open Go Go.RowKit Go.Proofs Go.Tr
theorem Xk:Tryz.prog.stoodInHeld 104=false:=by kernel_rfl
theorem Xj:Tryz.prog.eqGuardType Tryz.prog.depth 104=false:=by kernel_rfl
theorem Xi : (Tryz.prog.fieldsOf 104).toList.map (fun f => (f.name, f.type, f.offset)) = [("Agent", 2, 0), ("Slot", 2, 1)] := by kernel_rfl
theorem Xl:Tryz.prog.underlying 104=some (.struct (Tryz.prog.fieldsOf 104)):=by kernel_rfl
theorem Xh(x y:aG):gY [x.agent,x.slot] [y.agent,y.slot]=eqb x y:=by
 unfold eqb;cases x;cases y;rw[Bool.eq_iff_iff];simp[gY,aG.mk.injEq]
theorem Pn(w:World)(x y:aG):(binOp .eql 104 (.agg #[.int .i64 x.agent,.int .i64 x.slot]) (.agg #[.int .i64 y.agent,.int .i64 y.slot])).run Tryz.prog w=.ok (.bool (eqb x y)) w:=by
 have h:=nW w 9998 _ _ Xl Xk Xi (fun t ht=>by simp only[List.map_cons,List.map_nil,List.mem_cons,List.not_mem_nil,or_false,or_self]at ht;subst ht;exact Tryz.underlying2) [x.agent,x.slot] [y.agent,y.slot] rfl rfl;simp only[List.map_cons,List.map_nil]at h;rw[run_eql_struct,h,←Xh];simp[Result.andThen]
theorem Po(w:World)(x y:aG):(binOp .neq 104 (.agg #[.int .i64 x.agent,.int .i64 x.slot]) (.agg #[.int .i64 y.agent,.int .i64 y.slot])).run Tryz.prog w=.ok (.bool (!eqb x y)) w:=by
 have h:=nW w 9998 _ _ Xl Xk Xi (fun t ht=>by simp only[List.map_cons,List.map_nil,List.mem_cons,List.not_mem_nil,or_false,or_self]at ht;subst ht;exact Tryz.underlying2) [x.agent,x.slot] [y.agent,y.slot] rfl rfl;simp only[List.map_cons,List.map_nil]at h;rw[run_neq_struct,h,←Xh];simp[Result.andThen]
end Go.Proofs.YtemalpelcdmemaaGreat
