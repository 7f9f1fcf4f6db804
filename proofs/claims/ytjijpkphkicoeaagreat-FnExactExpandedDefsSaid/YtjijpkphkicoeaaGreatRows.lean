/-
  No cell of these rows narrows 'for every input' (looked for: loops, veiled, ifaces, maps, wideKeys, modest, calm, conditions, laid).
  DERIVED. THE GIVEN ROWS OF THIS SEAT. 9 by the template 'for every input the law returns true; each argument reads behind the call as it read before'; 0 by the template 'total and deterministic' (their statements: YtjijpkphkicoeaaGreatTotals.lean).
  GIVEN WITH THE SEED: the statements are not yours to turn. If you find one false, say at which input.
  Laid BY PROGRAM, IN A SANDBOX (cutbox-rows.mjs): the forced cells as the released guide's own fill.sh prints them over the translation c2d89a98a7a1bf20… (all of the seat's roots in one cut). By AI agents, Wed Nov 11 2026. No macro, syntax, notation, axiom, sorry.
-/
import Derived.Test.YtjijpkphkicoeaaGreatChecked
import GoSem.Claim
import GoSem.ClaimJoined
import GoSem.ClaimMapViews
import Derived.JoinedTies
import Derived.KernelRfl
namespace Go.Proofs.YtjijpkphkicoeaaGreat
/- THE CELL 'sum', in the pinned program and in every row, IS THE sha256 OF THE DUMP (.gsa) THAT YtjijpkphkicoeaaGreatProg.lean LOADS. Nothing in Lean hashes anything: it is a label: what it is worth is what the hold of that sum in a sandbox is worth. -/
noncomputable def Tryz.pinned : Pinned := { name := "ytjijpkphkicoeaagreat", sum := "c2d89a98a7a1bf200b9a295c02e89a5d67876fec3149fcfe80ee5bc0f8a50095", checked := Tryz.checked }
namespace Rows
def none {H : Type} : Left H := { results := [], args := [] }

/-- 'laws.FnExactReduceRounds': WHATEVER THE INPUT: true; the input reads as it did. -/
def fnExactReduceRoundsSpec : ChangeSpec := { name := "fnExactReduceRounds", fn := fun _ => fun
  | [d1, d2, d3] => { results := [.lit (.bool true)], args := [d1, d2, d3] }
  | _ => none }
def fnExactReduceRoundsRow : OpenClaim := { program := "ytjijpkphkicoeaagreat", sum := "c2d89a98a7a1bf200b9a295c02e89a5d67876fec3149fcfe80ee5bc0f8a50095", func := "loop.example/g01074/laws.FnExactReduceRounds", spec := "fnExactReduceRounds", unfollowed := true, recurses := true, apart := false }
def FnExactReduceRoundsSaid : Prop := fnExactReduceRoundsRow.holds Tryz.pinned (OpenSpec.ofChange fnExactReduceRoundsSpec)

/-- ITS FALSE NEIGHBOUR: 'it returns false'. Refute it at one input. -/
def fnExactReduceRoundsWrong : ChangeSpec := { name := "fnExactReduceRounds", fn := fun _ => fun
  | [d1, d2, d3] => { results := [.lit (.bool false)], args := [d1, d2, d3] }
  | _ => none }
def FnExactReduceRoundsWrongFalsely : Prop := fnExactReduceRoundsRow.holds Tryz.pinned (OpenSpec.ofChange fnExactReduceRoundsWrong)

/-- 'laws.FnExactAgentCurve': WHATEVER THE INPUT: true; the input reads as it did. -/
def fnExactAgentCurveSpec : ChangeSpec := { name := "fnExactAgentCurve", fn := fun _ => fun
  | [d1, d2, d3, d4] => { results := [.lit (.bool true)], args := [d1, d2, d3, d4] }
  | _ => none }
def fnExactAgentCurveRow : OpenClaim := { program := "ytjijpkphkicoeaagreat", sum := "c2d89a98a7a1bf200b9a295c02e89a5d67876fec3149fcfe80ee5bc0f8a50095", func := "loop.example/g01074/laws.FnExactAgentCurve", spec := "fnExactAgentCurve", unfollowed := true, recurses := true, apart := false }
def FnExactAgentCurveSaid : Prop := fnExactAgentCurveRow.holds Tryz.pinned (OpenSpec.ofChange fnExactAgentCurveSpec)

/-- ITS FALSE NEIGHBOUR: 'it returns false'. Refute it at one input. -/
def fnExactAgentCurveWrong : ChangeSpec := { name := "fnExactAgentCurve", fn := fun _ => fun
  | [d1, d2, d3, d4] => { results := [.lit (.bool false)], args := [d1, d2, d3, d4] }
  | _ => none }
def FnExactAgentCurveWrongFalsely : Prop := fnExactAgentCurveRow.holds Tryz.pinned (OpenSpec.ofChange fnExactAgentCurveWrong)

/-- 'laws.FnExactExpandedDefs': WHATEVER THE INPUT: true; the input reads as it did. -/
def fnExactExpandedDefsSpec : ChangeSpec := { name := "fnExactExpandedDefs", fn := fun _ => fun
  | [d1, d2, d3, d4] => { results := [.lit (.bool true)], args := [d1, d2, d3, d4] }
  | _ => none }
def fnExactExpandedDefsRow : OpenClaim := { program := "ytjijpkphkicoeaagreat", sum := "c2d89a98a7a1bf200b9a295c02e89a5d67876fec3149fcfe80ee5bc0f8a50095", func := "loop.example/g01074/laws.FnExactExpandedDefs", spec := "fnExactExpandedDefs", unfollowed := true, recurses := true, apart := false }
def FnExactExpandedDefsSaid : Prop := fnExactExpandedDefsRow.holds Tryz.pinned (OpenSpec.ofChange fnExactExpandedDefsSpec)

/-- ITS FALSE NEIGHBOUR: 'it returns false'. Refute it at one input. -/
def fnExactExpandedDefsWrong : ChangeSpec := { name := "fnExactExpandedDefs", fn := fun _ => fun
  | [d1, d2, d3, d4] => { results := [.lit (.bool false)], args := [d1, d2, d3, d4] }
  | _ => none }
def FnExactExpandedDefsWrongFalsely : Prop := fnExactExpandedDefsRow.holds Tryz.pinned (OpenSpec.ofChange fnExactExpandedDefsWrong)

/-- 'laws.FnExactLazyTrace': WHATEVER THE INPUT: true; the input reads as it did. -/
def fnExactLazyTraceSpec : ChangeSpec := { name := "fnExactLazyTrace", fn := fun _ => fun
  | [d1, d2, d3] => { results := [.lit (.bool true)], args := [d1, d2, d3] }
  | _ => none }
def fnExactLazyTraceRow : OpenClaim := { program := "ytjijpkphkicoeaagreat", sum := "c2d89a98a7a1bf200b9a295c02e89a5d67876fec3149fcfe80ee5bc0f8a50095", func := "loop.example/g01074/laws.FnExactLazyTrace", spec := "fnExactLazyTrace", unfollowed := true, recurses := true, apart := false }
def FnExactLazyTraceSaid : Prop := fnExactLazyTraceRow.holds Tryz.pinned (OpenSpec.ofChange fnExactLazyTraceSpec)

/-- ITS FALSE NEIGHBOUR: 'it returns false'. Refute it at one input. -/
def fnExactLazyTraceWrong : ChangeSpec := { name := "fnExactLazyTrace", fn := fun _ => fun
  | [d1, d2, d3] => { results := [.lit (.bool false)], args := [d1, d2, d3] }
  | _ => none }
def FnExactLazyTraceWrongFalsely : Prop := fnExactLazyTraceRow.holds Tryz.pinned (OpenSpec.ofChange fnExactLazyTraceWrong)

/-- 'laws.FnExactRecordLazy': WHATEVER THE INPUT: true; the input reads as it did. -/
def fnExactRecordLazySpec : ChangeSpec := { name := "fnExactRecordLazy", fn := fun _ => fun
  | [d1, d2, d3] => { results := [.lit (.bool true)], args := [d1, d2, d3] }
  | _ => none }
def fnExactRecordLazyRow : OpenClaim := { program := "ytjijpkphkicoeaagreat", sum := "c2d89a98a7a1bf200b9a295c02e89a5d67876fec3149fcfe80ee5bc0f8a50095", func := "loop.example/g01074/laws.FnExactRecordLazy", spec := "fnExactRecordLazy", unfollowed := true, recurses := true, apart := false }
def FnExactRecordLazySaid : Prop := fnExactRecordLazyRow.holds Tryz.pinned (OpenSpec.ofChange fnExactRecordLazySpec)

/-- ITS FALSE NEIGHBOUR: 'it returns false'. Refute it at one input. -/
def fnExactRecordLazyWrong : ChangeSpec := { name := "fnExactRecordLazy", fn := fun _ => fun
  | [d1, d2, d3] => { results := [.lit (.bool false)], args := [d1, d2, d3] }
  | _ => none }
def FnExactRecordLazyWrongFalsely : Prop := fnExactRecordLazyRow.holds Tryz.pinned (OpenSpec.ofChange fnExactRecordLazyWrong)

/-- 'laws.FnExactReduceSteps': WHATEVER THE INPUT: true; the input reads as it did. -/
def fnExactReduceStepsSpec : ChangeSpec := { name := "fnExactReduceSteps", fn := fun _ => fun
  | [d1, d2, d3, d4] => { results := [.lit (.bool true)], args := [d1, d2, d3, d4] }
  | _ => none }
def fnExactReduceStepsRow : OpenClaim := { program := "ytjijpkphkicoeaagreat", sum := "c2d89a98a7a1bf200b9a295c02e89a5d67876fec3149fcfe80ee5bc0f8a50095", func := "loop.example/g01074/laws.FnExactReduceSteps", spec := "fnExactReduceSteps", unfollowed := true, recurses := true, apart := false }
def FnExactReduceStepsSaid : Prop := fnExactReduceStepsRow.holds Tryz.pinned (OpenSpec.ofChange fnExactReduceStepsSpec)

/-- ITS FALSE NEIGHBOUR: 'it returns false'. Refute it at one input. -/
def fnExactReduceStepsWrong : ChangeSpec := { name := "fnExactReduceSteps", fn := fun _ => fun
  | [d1, d2, d3, d4] => { results := [.lit (.bool false)], args := [d1, d2, d3, d4] }
  | _ => none }
def FnExactReduceStepsWrongFalsely : Prop := fnExactReduceStepsRow.holds Tryz.pinned (OpenSpec.ofChange fnExactReduceStepsWrong)

/-- 'laws.FnExactLazyHead': WHATEVER THE INPUT: true; the input reads as it did. -/
def fnExactLazyHeadSpec : ChangeSpec := { name := "fnExactLazyHead", fn := fun _ => fun
  | [d1, d2, d3] => { results := [.lit (.bool true)], args := [d1, d2, d3] }
  | _ => none }
def fnExactLazyHeadRow : OpenClaim := { program := "ytjijpkphkicoeaagreat", sum := "c2d89a98a7a1bf200b9a295c02e89a5d67876fec3149fcfe80ee5bc0f8a50095", func := "loop.example/g01074/laws.FnExactLazyHead", spec := "fnExactLazyHead", unfollowed := true, recurses := true, apart := false }
def FnExactLazyHeadSaid : Prop := fnExactLazyHeadRow.holds Tryz.pinned (OpenSpec.ofChange fnExactLazyHeadSpec)

/-- ITS FALSE NEIGHBOUR: 'it returns false'. Refute it at one input. -/
def fnExactLazyHeadWrong : ChangeSpec := { name := "fnExactLazyHead", fn := fun _ => fun
  | [d1, d2, d3] => { results := [.lit (.bool false)], args := [d1, d2, d3] }
  | _ => none }
def FnExactLazyHeadWrongFalsely : Prop := fnExactLazyHeadRow.holds Tryz.pinned (OpenSpec.ofChange fnExactLazyHeadWrong)

/-- 'laws.FnExactLazyReduce': WHATEVER THE INPUT: true; the input reads as it did. -/
def fnExactLazyReduceSpec : ChangeSpec := { name := "fnExactLazyReduce", fn := fun _ => fun
  | [d1, d2, d3] => { results := [.lit (.bool true)], args := [d1, d2, d3] }
  | _ => none }
def fnExactLazyReduceRow : OpenClaim := { program := "ytjijpkphkicoeaagreat", sum := "c2d89a98a7a1bf200b9a295c02e89a5d67876fec3149fcfe80ee5bc0f8a50095", func := "loop.example/g01074/laws.FnExactLazyReduce", spec := "fnExactLazyReduce", unfollowed := true, recurses := true, apart := false }
def FnExactLazyReduceSaid : Prop := fnExactLazyReduceRow.holds Tryz.pinned (OpenSpec.ofChange fnExactLazyReduceSpec)

/-- ITS FALSE NEIGHBOUR: 'it returns false'. Refute it at one input. -/
def fnExactLazyReduceWrong : ChangeSpec := { name := "fnExactLazyReduce", fn := fun _ => fun
  | [d1, d2, d3] => { results := [.lit (.bool false)], args := [d1, d2, d3] }
  | _ => none }
def FnExactLazyReduceWrongFalsely : Prop := fnExactLazyReduceRow.holds Tryz.pinned (OpenSpec.ofChange fnExactLazyReduceWrong)

/-- 'laws.FnExactLazySavings': WHATEVER THE INPUT: true; the input reads as it did. -/
def fnExactLazySavingsSpec : ChangeSpec := { name := "fnExactLazySavings", fn := fun _ => fun
  | [d1, d2, d3] => { results := [.lit (.bool true)], args := [d1, d2, d3] }
  | _ => none }
def fnExactLazySavingsRow : OpenClaim := { program := "ytjijpkphkicoeaagreat", sum := "c2d89a98a7a1bf200b9a295c02e89a5d67876fec3149fcfe80ee5bc0f8a50095", func := "loop.example/g01074/laws.FnExactLazySavings", spec := "fnExactLazySavings", unfollowed := true, recurses := true, apart := false }
def FnExactLazySavingsSaid : Prop := fnExactLazySavingsRow.holds Tryz.pinned (OpenSpec.ofChange fnExactLazySavingsSpec)

/-- ITS FALSE NEIGHBOUR: 'it returns false'. Refute it at one input. -/
def fnExactLazySavingsWrong : ChangeSpec := { name := "fnExactLazySavings", fn := fun _ => fun
  | [d1, d2, d3] => { results := [.lit (.bool false)], args := [d1, d2, d3] }
  | _ => none }
def FnExactLazySavingsWrongFalsely : Prop := fnExactLazySavingsRow.holds Tryz.pinned (OpenSpec.ofChange fnExactLazySavingsWrong)

/- THE SECOND FORM. 'bulk': how many values and letters a reading holds, each counted each time it is reached (what is shared counts as often as it is met; a slice's spare places count too). A statement '..UptoSaid' is the law's where the arguments, and the package variables that the reading takes, are together of bulk at most 1048576: NARROWER than '..Said'. Prove '..Said' where nothing that the law and all that it calls make is longer than what came in: it says more and counts as full. Else prove '..UptoSaid'. A law counts once. -/
mutual
def uptoBulk {H : Type} : DataW H → Nat
  | .lit (.string bytes) => bytes.length + 1
  | .lit _ => 1
  | .nil => 1
  | .ptr d => uptoBulk d + 1
  | .slice elems spare => uptoBulkAll elems + uptoBulkAll spare + 1
  | .agg parts => uptoBulkAll parts + 1
  | .iface _ d => uptoBulk d + 1
  | .map entries => uptoBulkEntries entries + 1
  | .held _ => 1
def uptoBulkAll {H : Type} : List (DataW H) → Nat
  | [] => 0
  | d :: r => uptoBulk d + uptoBulkAll r
def uptoBulkEntries {H : Type} : List (Lit × DataW H) → Nat
  | [] => 0
  | x :: r => uptoBulkEntry x + uptoBulkEntries r
def uptoBulkEntry {H : Type} : Lit × DataW H → Nat
  | (.string bytes, d) => bytes.length + uptoBulk d + 1
  | (_, d) => uptoBulk d + 1
 end
def uptoSmall : (H : Type) → List (DataW H) → Bool := fun _ ds => decide (uptoBulkAll ds ≤ 1048576)
def OpenSpec.upto (s : _root_.Go.ChangeSpec) : _root_.Go.OpenSpec := { _root_.Go.OpenSpec.ofChange s with cond := some uptoSmall }

/-- 'laws.FnExactReduceRounds', WHERE WHAT IT READS IS OF BULK AT MOST 1048576: true; the input reads as it did. -/
def fnExactReduceRoundsUptoRow : OpenClaim := { program := "ytjijpkphkicoeaagreat", sum := "c2d89a98a7a1bf200b9a295c02e89a5d67876fec3149fcfe80ee5bc0f8a50095", func := "loop.example/g01074/laws.FnExactReduceRounds", spec := "fnExactReduceRounds", unfollowed := true, recurses := true, apart := false, narrowed := true }
def FnExactReduceRoundsUptoSaid : Prop := fnExactReduceRoundsUptoRow.holds Tryz.pinned (OpenSpec.upto fnExactReduceRoundsSpec)

/-- 'laws.FnExactAgentCurve', WHERE WHAT IT READS IS OF BULK AT MOST 1048576: true; the input reads as it did. -/
def fnExactAgentCurveUptoRow : OpenClaim := { program := "ytjijpkphkicoeaagreat", sum := "c2d89a98a7a1bf200b9a295c02e89a5d67876fec3149fcfe80ee5bc0f8a50095", func := "loop.example/g01074/laws.FnExactAgentCurve", spec := "fnExactAgentCurve", unfollowed := true, recurses := true, apart := false, narrowed := true }
def FnExactAgentCurveUptoSaid : Prop := fnExactAgentCurveUptoRow.holds Tryz.pinned (OpenSpec.upto fnExactAgentCurveSpec)

/-- 'laws.FnExactExpandedDefs', WHERE WHAT IT READS IS OF BULK AT MOST 1048576: true; the input reads as it did. -/
def fnExactExpandedDefsUptoRow : OpenClaim := { program := "ytjijpkphkicoeaagreat", sum := "c2d89a98a7a1bf200b9a295c02e89a5d67876fec3149fcfe80ee5bc0f8a50095", func := "loop.example/g01074/laws.FnExactExpandedDefs", spec := "fnExactExpandedDefs", unfollowed := true, recurses := true, apart := false, narrowed := true }
def FnExactExpandedDefsUptoSaid : Prop := fnExactExpandedDefsUptoRow.holds Tryz.pinned (OpenSpec.upto fnExactExpandedDefsSpec)

/-- 'laws.FnExactLazyTrace', WHERE WHAT IT READS IS OF BULK AT MOST 1048576: true; the input reads as it did. -/
def fnExactLazyTraceUptoRow : OpenClaim := { program := "ytjijpkphkicoeaagreat", sum := "c2d89a98a7a1bf200b9a295c02e89a5d67876fec3149fcfe80ee5bc0f8a50095", func := "loop.example/g01074/laws.FnExactLazyTrace", spec := "fnExactLazyTrace", unfollowed := true, recurses := true, apart := false, narrowed := true }
def FnExactLazyTraceUptoSaid : Prop := fnExactLazyTraceUptoRow.holds Tryz.pinned (OpenSpec.upto fnExactLazyTraceSpec)

/-- 'laws.FnExactRecordLazy', WHERE WHAT IT READS IS OF BULK AT MOST 1048576: true; the input reads as it did. -/
def fnExactRecordLazyUptoRow : OpenClaim := { program := "ytjijpkphkicoeaagreat", sum := "c2d89a98a7a1bf200b9a295c02e89a5d67876fec3149fcfe80ee5bc0f8a50095", func := "loop.example/g01074/laws.FnExactRecordLazy", spec := "fnExactRecordLazy", unfollowed := true, recurses := true, apart := false, narrowed := true }
def FnExactRecordLazyUptoSaid : Prop := fnExactRecordLazyUptoRow.holds Tryz.pinned (OpenSpec.upto fnExactRecordLazySpec)

/-- 'laws.FnExactReduceSteps', WHERE WHAT IT READS IS OF BULK AT MOST 1048576: true; the input reads as it did. -/
def fnExactReduceStepsUptoRow : OpenClaim := { program := "ytjijpkphkicoeaagreat", sum := "c2d89a98a7a1bf200b9a295c02e89a5d67876fec3149fcfe80ee5bc0f8a50095", func := "loop.example/g01074/laws.FnExactReduceSteps", spec := "fnExactReduceSteps", unfollowed := true, recurses := true, apart := false, narrowed := true }
def FnExactReduceStepsUptoSaid : Prop := fnExactReduceStepsUptoRow.holds Tryz.pinned (OpenSpec.upto fnExactReduceStepsSpec)

/-- 'laws.FnExactLazyHead', WHERE WHAT IT READS IS OF BULK AT MOST 1048576: true; the input reads as it did. -/
def fnExactLazyHeadUptoRow : OpenClaim := { program := "ytjijpkphkicoeaagreat", sum := "c2d89a98a7a1bf200b9a295c02e89a5d67876fec3149fcfe80ee5bc0f8a50095", func := "loop.example/g01074/laws.FnExactLazyHead", spec := "fnExactLazyHead", unfollowed := true, recurses := true, apart := false, narrowed := true }
def FnExactLazyHeadUptoSaid : Prop := fnExactLazyHeadUptoRow.holds Tryz.pinned (OpenSpec.upto fnExactLazyHeadSpec)

/-- 'laws.FnExactLazyReduce', WHERE WHAT IT READS IS OF BULK AT MOST 1048576: true; the input reads as it did. -/
def fnExactLazyReduceUptoRow : OpenClaim := { program := "ytjijpkphkicoeaagreat", sum := "c2d89a98a7a1bf200b9a295c02e89a5d67876fec3149fcfe80ee5bc0f8a50095", func := "loop.example/g01074/laws.FnExactLazyReduce", spec := "fnExactLazyReduce", unfollowed := true, recurses := true, apart := false, narrowed := true }
def FnExactLazyReduceUptoSaid : Prop := fnExactLazyReduceUptoRow.holds Tryz.pinned (OpenSpec.upto fnExactLazyReduceSpec)

/-- 'laws.FnExactLazySavings', WHERE WHAT IT READS IS OF BULK AT MOST 1048576: true; the input reads as it did. -/
def fnExactLazySavingsUptoRow : OpenClaim := { program := "ytjijpkphkicoeaagreat", sum := "c2d89a98a7a1bf200b9a295c02e89a5d67876fec3149fcfe80ee5bc0f8a50095", func := "loop.example/g01074/laws.FnExactLazySavings", spec := "fnExactLazySavings", unfollowed := true, recurses := true, apart := false, narrowed := true }
def FnExactLazySavingsUptoSaid : Prop := fnExactLazySavingsUptoRow.holds Tryz.pinned (OpenSpec.upto fnExactLazySavingsSpec)

end Rows
end Go.Proofs.YtjijpkphkicoeaaGreat
