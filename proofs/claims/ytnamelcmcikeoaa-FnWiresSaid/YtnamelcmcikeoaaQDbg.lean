
/- Equality of structs of integers. Printed by gen_eq.py. -/
import Derived.Test.YtnamelcmcikeoaaProg
import Derived.Test.YtnamelcmcikeoaaValid
set_option linter.unusedSimpArgs false
set_option linter.unusedVariables false
namespace Go.Proofs.Ytnamelcmcikeoaa
open Go Go.RowKit Go.Proofs Go.Tr
theorem Oh:Try.prog.stoodInHeld 36=false:=by kernel_rfl
theorem Og:Try.prog.eqGuardType Try.prog.depth 36=false:=by kernel_rfl
theorem Oe : (Try.prog.fieldsOf 36).toList.map (fun f => (f.name, f.type, f.offset)) = [("Agent", 2, 0), ("Slot", 2, 1)] := by kernel_rfl
theorem Oi:Try.prog.underlying 36=some (.struct (Try.prog.fieldsOf 36)):=by kernel_rfl
theorem Od(x y:aR):bX [x.agent,x.slot] [y.agent,y.slot]=FX x y:=by
 unfold FX;cases x;cases y;rw[Bool.eq_iff_iff];simp[bX,aR.mk.injEq]
theorem GI(w:World)(x y:aR):(binOp .eql 36 (.agg #[.int .i64 x.agent,.int .i64 x.slot]) (.agg #[.int .i64 y.agent,.int .i64 y.slot])).run Try.prog w=.ok (.bool (FX x y)) w:=by
 have h:=iJ w 9998 _ _ Oi Oh Oe (fun t ht=>by simp only[List.map_cons,List.map_nil,List.mem_cons,List.not_mem_nil,or_false,or_self]at ht;subst ht;exact Try.underlying2) [x.agent,x.slot] [y.agent,y.slot] rfl rfl;simp only[List.map_cons,List.map_nil]at h;rw[run_eql_struct,h,←Od];simp[Result.andThen]
theorem GJ(w:World)(x y:aR):(binOp .neq 36 (.agg #[.int .i64 x.agent,.int .i64 x.slot]) (.agg #[.int .i64 y.agent,.int .i64 y.slot])).run Try.prog w=.ok (.bool (!FX x y)) w:=by
 have h:=iJ w 9998 _ _ Oi Oh Oe (fun t ht=>by simp only[List.map_cons,List.map_nil,List.mem_cons,List.not_mem_nil,or_false,or_self]at ht;subst ht;exact Try.underlying2) [x.agent,x.slot] [y.agent,y.slot] rfl rfl;simp only[List.map_cons,List.map_nil]at h;rw[run_neq_struct,h,←Od];simp[Result.andThen]
end Go.Proofs.Ytnamelcmcikeoaa
