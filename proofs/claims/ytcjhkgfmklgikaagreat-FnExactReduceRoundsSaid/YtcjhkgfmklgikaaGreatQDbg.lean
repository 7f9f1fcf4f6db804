
/- Equality of structs of integers. Printed by gen_eq.py. -/
import Derived.Test.YtcjhkgfmklgikaaGreatProg
import Derived.Test.YtcjhkgfmklgikaaGreatValid
set_option linter.unusedSimpArgs false
set_option linter.unusedVariables false
namespace Go.Proofs.YtcjhkgfmklgikaaGreat
open Go Go.RowKit Go.Proofs Go.Tr
theorem U0:Tryz.prog.stoodInHeld 86=false:=by kernel_rfl
theorem UZ:Tryz.prog.eqGuardType Tryz.prog.depth 86=false:=by kernel_rfl
theorem UY : (Tryz.prog.fieldsOf 86).toList.map (fun f => (f.name, f.type, f.offset)) = [("Agent", 2, 0), ("Slot", 2, 1)] := by kernel_rfl
theorem U1:Tryz.prog.underlying 86=some (.struct (Tryz.prog.fieldsOf 86)):=by kernel_rfl
theorem UW(x y:aF):gL [x.agent,x.slot] [y.agent,y.slot]=vF x y:=by
 unfold vF;cases x;cases y;rw[Bool.eq_iff_iff];simp[gL,aF.mk.injEq]
theorem Ni(w:World)(x y:aF):(binOp .eql 86 (.agg #[.int .i64 x.agent,.int .i64 x.slot]) (.agg #[.int .i64 y.agent,.int .i64 y.slot])).run Tryz.prog w=.ok (.bool (vF x y)) w:=by
 have h:=mK w 9998 _ _ U1 U0 UY (fun t ht=>by simp only[List.map_cons,List.map_nil,List.mem_cons,List.not_mem_nil,or_false,or_self]at ht;subst ht;exact Tryz.underlying2) [x.agent,x.slot] [y.agent,y.slot] rfl rfl;simp only[List.map_cons,List.map_nil]at h;rw[run_eql_struct,h,←UW];simp[Result.andThen]
theorem Nj(w:World)(x y:aF):(binOp .neq 86 (.agg #[.int .i64 x.agent,.int .i64 x.slot]) (.agg #[.int .i64 y.agent,.int .i64 y.slot])).run Tryz.prog w=.ok (.bool (!vF x y)) w:=by
 have h:=mK w 9998 _ _ U1 U0 UY (fun t ht=>by simp only[List.map_cons,List.map_nil,List.mem_cons,List.not_mem_nil,or_false,or_self]at ht;subst ht;exact Tryz.underlying2) [x.agent,x.slot] [y.agent,y.slot] rfl rfl;simp only[List.map_cons,List.map_nil]at h;rw[run_neq_struct,h,←UW];simp[Result.andThen]
end Go.Proofs.YtcjhkgfmklgikaaGreat
