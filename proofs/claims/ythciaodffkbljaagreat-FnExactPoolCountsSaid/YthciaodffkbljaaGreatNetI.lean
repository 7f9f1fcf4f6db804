/- The program's functions on agents: what makes them valid. Printed by gen_neti.py. -/
import Derived.Test.YthciaodffkbljaaGreatProg
import Derived.Test.YthciaodffkbljaaGreatAgents
import Derived.Test.YthciaodffkbljaaGreatNet
import Derived.Test.YthciaodffkbljaaGreatQDbg
import Derived.Test.YthciaodffkbljaaGreatGrow
import Derived.BigGuardPart
import Derived.Outline
import Derived.Deep.CutBlock
set_option linter.unusedSimpArgs false
set_option linter.unusedVariables false
namespace Go.Proofs.YthciaodffkbljaaGreat
open Go Go.RowKit Go.Proofs Go.Tr
set_option maxHeartbeats 400000 in
theorem isDefIndex_any (n : Int) (w : World)  : Calls Tryz.prog 185 #[.int .i64 n] w fun e w' => e = .returned (.bool (defB n)) ∧ Ext w w' := by
  refine quiet_start fun e => ?_
  go_enter Tryz.func185, Tryz.ntmps185
  go_wp2
  all_goals go_ret
  all_goals refine ⟨?_, _, rfl⟩
  all_goals first | (simp [defB, inB, *]; done) | (simp [defB, inB, *]; omega) | (simp_all [defB, inB]; done) | (simp_all [defB, inB]; omega)

set_option maxHeartbeats 400000 in
theorem isInt_any (n : Int) (w : World)  : Calls Tryz.prog 186 #[.int .i64 n] w fun e w' => e = .returned (.bool (intB n)) ∧ Ext w w' := by
  refine quiet_start fun e => ?_
  go_enter Tryz.func186, Tryz.ntmps186
  go_wp2
  all_goals go_ret
  all_goals refine ⟨?_, _, rfl⟩
  all_goals first | (simp [intB, inB, *]; done) | (simp [intB, inB, *]; omega) | (simp_all [intB, inB]; done) | (simp_all [intB, inB]; omega)

set_option maxHeartbeats 400000 in
theorem isOperator_any (n : Int) (w : World)  : Calls Tryz.prog 187 #[.int .i64 n] w fun e w' => e = .returned (.bool (operB n)) ∧ Ext w w' := by
  refine quiet_start fun e => ?_
  go_enter Tryz.func187, Tryz.ntmps187
  go_wp2
  all_goals go_ret
  all_goals refine ⟨?_, _, rfl⟩
  all_goals first | (simp [operB, inB, *]; done) | (simp [operB, inB, *]; omega) | (simp_all [operB, inB]; done) | (simp_all [operB, inB]; omega)

set_option maxRecDepth 100000 in
set_option maxHeartbeats 4000000 in
theorem implPortsOf_any (k f : Int) (w : World)  : Calls Tryz.prog 181 #[.int .i64 k, .int .i64 f] w fun e w' => e = .returned (.int .i64 (portsOf k f)) ∧ Ext w w' := by
  refine quiet_start fun e => ?_
  have C1 : Hid (QC Tryz.prog w _ _ _) := fun W hW => (isKind_any k W).q
  cases hk : kindB k
  case false =>
    rw [hk] at C1
    have hn := inB_f hk
    have h9 : (k == 9) = false := by simp; omega
    go_enter Tryz.func181, Tryz.ntmps181
    go_wp2_with (first | (go_at_call 196; with_reducible refine (C1.out.at_ _).mono ?_; rintro _ _ ⟨rfl, e, rfl⟩))
    repeat (refine wp_region_ext0 _ (by kernel_rfl) (by kernel_rfl) ?_; (repeat (go_big_quiet_step ((first | with_reducible exact C1.out.at_ _)))); refine wpQuiet_nil ?_; intro e; go_wp2_with (first | (go_at_call 196; with_reducible refine (C1.out.at_ _).mono ?_; rintro _ _ ⟨rfl, e, rfl⟩)))
    all_goals go_ret
    all_goals refine ⟨?_, _, rfl⟩
    all_goals simp [portsOf]
    all_goals (repeat rw [if_neg (by omega)])
    all_goals (try split)
    all_goals (try rfl)
    all_goals (try omega)
  rw [hk] at C1
  have ix1 : ∀ W : World, (Instr.index 245 (.agg #[.int .i64 0, .int .i64 1, .int .i64 3, .int .i64 3, .int .i64 3, .int .i64 1, .int .i64 1, .int .i64 3, .int .i64 2, .int .i64 0, .int .i64 2, .int .i64 2, .int .i64 1]) (.int .i64 1)).run Tryz.prog W = .ok (.int .i64 1) W := fun _ => by kernel_rfl
  have ix2 : ∀ W : World, (Instr.index 245 (.agg #[.int .i64 0, .int .i64 1, .int .i64 3, .int .i64 3, .int .i64 3, .int .i64 1, .int .i64 1, .int .i64 3, .int .i64 2, .int .i64 0, .int .i64 2, .int .i64 2, .int .i64 1]) (.int .i64 2)).run Tryz.prog W = .ok (.int .i64 3) W := fun _ => by kernel_rfl
  have ix3 : ∀ W : World, (Instr.index 245 (.agg #[.int .i64 0, .int .i64 1, .int .i64 3, .int .i64 3, .int .i64 3, .int .i64 1, .int .i64 1, .int .i64 3, .int .i64 2, .int .i64 0, .int .i64 2, .int .i64 2, .int .i64 1]) (.int .i64 3)).run Tryz.prog W = .ok (.int .i64 3) W := fun _ => by kernel_rfl
  have ix4 : ∀ W : World, (Instr.index 245 (.agg #[.int .i64 0, .int .i64 1, .int .i64 3, .int .i64 3, .int .i64 3, .int .i64 1, .int .i64 1, .int .i64 3, .int .i64 2, .int .i64 0, .int .i64 2, .int .i64 2, .int .i64 1]) (.int .i64 4)).run Tryz.prog W = .ok (.int .i64 3) W := fun _ => by kernel_rfl
  have ix5 : ∀ W : World, (Instr.index 245 (.agg #[.int .i64 0, .int .i64 1, .int .i64 3, .int .i64 3, .int .i64 3, .int .i64 1, .int .i64 1, .int .i64 3, .int .i64 2, .int .i64 0, .int .i64 2, .int .i64 2, .int .i64 1]) (.int .i64 5)).run Tryz.prog W = .ok (.int .i64 1) W := fun _ => by kernel_rfl
  have ix6 : ∀ W : World, (Instr.index 245 (.agg #[.int .i64 0, .int .i64 1, .int .i64 3, .int .i64 3, .int .i64 3, .int .i64 1, .int .i64 1, .int .i64 3, .int .i64 2, .int .i64 0, .int .i64 2, .int .i64 2, .int .i64 1]) (.int .i64 6)).run Tryz.prog W = .ok (.int .i64 1) W := fun _ => by kernel_rfl
  have ix7 : ∀ W : World, (Instr.index 245 (.agg #[.int .i64 0, .int .i64 1, .int .i64 3, .int .i64 3, .int .i64 3, .int .i64 1, .int .i64 1, .int .i64 3, .int .i64 2, .int .i64 0, .int .i64 2, .int .i64 2, .int .i64 1]) (.int .i64 7)).run Tryz.prog W = .ok (.int .i64 3) W := fun _ => by kernel_rfl
  have ix8 : ∀ W : World, (Instr.index 245 (.agg #[.int .i64 0, .int .i64 1, .int .i64 3, .int .i64 3, .int .i64 3, .int .i64 1, .int .i64 1, .int .i64 3, .int .i64 2, .int .i64 0, .int .i64 2, .int .i64 2, .int .i64 1]) (.int .i64 8)).run Tryz.prog W = .ok (.int .i64 2) W := fun _ => by kernel_rfl
  have ix9 : ∀ W : World, (Instr.index 245 (.agg #[.int .i64 0, .int .i64 1, .int .i64 3, .int .i64 3, .int .i64 3, .int .i64 1, .int .i64 1, .int .i64 3, .int .i64 2, .int .i64 0, .int .i64 2, .int .i64 2, .int .i64 1]) (.int .i64 9)).run Tryz.prog W = .ok (.int .i64 0) W := fun _ => by kernel_rfl
  have ix10 : ∀ W : World, (Instr.index 245 (.agg #[.int .i64 0, .int .i64 1, .int .i64 3, .int .i64 3, .int .i64 3, .int .i64 1, .int .i64 1, .int .i64 3, .int .i64 2, .int .i64 0, .int .i64 2, .int .i64 2, .int .i64 1]) (.int .i64 10)).run Tryz.prog W = .ok (.int .i64 2) W := fun _ => by kernel_rfl
  have ix11 : ∀ W : World, (Instr.index 245 (.agg #[.int .i64 0, .int .i64 1, .int .i64 3, .int .i64 3, .int .i64 3, .int .i64 1, .int .i64 1, .int .i64 3, .int .i64 2, .int .i64 0, .int .i64 2, .int .i64 2, .int .i64 1]) (.int .i64 11)).run Tryz.prog W = .ok (.int .i64 2) W := fun _ => by kernel_rfl
  have ix12 : ∀ W : World, (Instr.index 245 (.agg #[.int .i64 0, .int .i64 1, .int .i64 3, .int .i64 3, .int .i64 3, .int .i64 1, .int .i64 1, .int .i64 3, .int .i64 2, .int .i64 0, .int .i64 2, .int .i64 2, .int .i64 1]) (.int .i64 12)).run Tryz.prog W = .ok (.int .i64 1) W := fun _ => by kernel_rfl
  rcases kind_cases hk with rfl | rfl | rfl | rfl | rfl | rfl | rfl | rfl | rfl | rfl | rfl | rfl
  all_goals clear hk
  all_goals
    go_enter Tryz.func181, Tryz.ntmps181
    go_wp2_with (first | (go_at_call 196; with_reducible refine (C1.out.at_ _).mono ?_; rintro _ _ ⟨rfl, e, rfl⟩))
    repeat (refine wp_region_ext0 _ (by kernel_rfl) (by kernel_rfl) ?_; (repeat (go_big_quiet_step ((first | with_reducible exact C1.out.at_ _)))); refine wpQuiet_nil ?_; intro e; go_wp2_with (first | (go_at_call 196; with_reducible refine (C1.out.at_ _).mono ?_; rintro _ _ ⟨rfl, e, rfl⟩)))
    all_goals go_ret
    all_goals refine ⟨?_, _, rfl⟩
    all_goals first | (simp [portsOf, inB, *]; done) | (simp [portsOf, inB, *]; omega) | (simp_all [portsOf, inB]; done) | (simp_all [portsOf, inB]; omega)
end Go.Proofs.YthciaodffkbljaaGreat
