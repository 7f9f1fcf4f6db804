
/- Equality of structs of integers. Printed by gen_eq.py. -/
import Derived.Test.YtdpclbjjmhkgiaaProg
import Derived.Test.YtdpclbjjmhkgiaaValid
set_option linter.unusedSimpArgs false
set_option linter.unusedVariables false
namespace Go.Proofs.Ytdpclbjjmhkgiaa
open Go Go.RowKit Go.Proofs Go.Tr
theorem Ti:Try.prog.stoodInHeld 60=false:=by kernel_rfl
theorem Xn:Try.prog.eqGuardType Try.prog.depth 60=false:=by kernel_rfl
theorem Tg : (Try.prog.fieldsOf 60).toList.map (fun f => (f.name, f.type, f.offset)) = [("Agent", 2, 0), ("Slot", 2, 1)] := by kernel_rfl
theorem Tj:Try.prog.underlying 60=some (.struct (Try.prog.fieldsOf 60)):=by kernel_rfl
theorem Tf(x y:aF):bV [x.agent,x.slot] [y.agent,y.slot]=rO x y:=by
 unfold rO;cases x;cases y;rw[Bool.eq_iff_iff];simp[bV,aF.mk.injEq]
theorem RI(w:World)(x y:aF):(binOp .eql 60 (.agg #[.int .i64 x.agent,.int .i64 x.slot]) (.agg #[.int .i64 y.agent,.int .i64 y.slot])).run Try.prog w=.ok (.bool (rO x y)) w:=by
 have h:=jB w 9998 _ _ Tj Ti Tg (fun t ht=>by simp only[List.map_cons,List.map_nil,List.mem_cons,List.not_mem_nil,or_false,or_self]at ht;subst ht;exact Try.underlying2) [x.agent,x.slot] [y.agent,y.slot] rfl rfl;simp only[List.map_cons,List.map_nil]at h;rw[run_eql_struct,h,←Tf];simp[Result.andThen]
theorem RJ(w:World)(x y:aF):(binOp .neq 60 (.agg #[.int .i64 x.agent,.int .i64 x.slot]) (.agg #[.int .i64 y.agent,.int .i64 y.slot])).run Try.prog w=.ok (.bool (!rO x y)) w:=by
 have h:=jB w 9998 _ _ Tj Ti Tg (fun t ht=>by simp only[List.map_cons,List.map_nil,List.mem_cons,List.not_mem_nil,or_false,or_self]at ht;subst ht;exact Try.underlying2) [x.agent,x.slot] [y.agent,y.slot] rfl rfl;simp only[List.map_cons,List.map_nil]at h;rw[run_neq_struct,h,←Tf];simp[Result.andThen]
end Go.Proofs.Ytdpclbjjmhkgiaa
