
/- Equality of structs of integers. Printed by gen_eq.py. -/
import Derived.Test.YtjijpkphkicoeaaGreatProg
import Derived.Test.YtjijpkphkicoeaaGreatValid
set_option linter.unusedSimpArgs false
set_option linter.unusedVariables false
namespace Go.Proofs.YtjijpkphkicoeaaGreat
open Go Go.RowKit Go.Proofs Go.Tr
theorem V7:Tryz.prog.stoodInHeld 102=false:=by kernel_rfl
theorem V6:Tryz.prog.eqGuardType Tryz.prog.depth 102=false:=by kernel_rfl
theorem V5 : (Tryz.prog.fieldsOf 102).toList.map (fun f => (f.name, f.type, f.offset)) = [("Agent", 2, 0), ("Slot", 2, 1)] := by kernel_rfl
theorem V8:Tryz.prog.underlying 102=some (.struct (Tryz.prog.fieldsOf 102)):=by kernel_rfl
theorem V4(x y:aG):gG [x.agent,x.slot] [y.agent,y.slot]=wS x y:=by
 unfold wS;cases x;cases y;rw[Bool.eq_iff_iff];simp[gG,aG.mk.injEq]
theorem Ob(w:World)(x y:aG):(binOp .eql 102 (.agg #[.int .i64 x.agent,.int .i64 x.slot]) (.agg #[.int .i64 y.agent,.int .i64 y.slot])).run Tryz.prog w=.ok (.bool (wS x y)) w:=by
 have h:=mK w 9998 _ _ V8 V7 V5 (fun t ht=>by simp only[List.map_cons,List.map_nil,List.mem_cons,List.not_mem_nil,or_false,or_self]at ht;subst ht;exact Tryz.underlying2) [x.agent,x.slot] [y.agent,y.slot] rfl rfl;simp only[List.map_cons,List.map_nil]at h;rw[run_eql_struct,h,←V4];simp[Result.andThen]
theorem Oc(w:World)(x y:aG):(binOp .neq 102 (.agg #[.int .i64 x.agent,.int .i64 x.slot]) (.agg #[.int .i64 y.agent,.int .i64 y.slot])).run Tryz.prog w=.ok (.bool (!wS x y)) w:=by
 have h:=mK w 9998 _ _ V8 V7 V5 (fun t ht=>by simp only[List.map_cons,List.map_nil,List.mem_cons,List.not_mem_nil,or_false,or_self]at ht;subst ht;exact Tryz.underlying2) [x.agent,x.slot] [y.agent,y.slot] rfl rfl;simp only[List.map_cons,List.map_nil]at h;rw[run_neq_struct,h,←V4];simp[Result.andThen]
end Go.Proofs.YtjijpkphkicoeaaGreat
