/-
  No cell of these rows narrows 'for every input' (looked for: loops, veiled, ifaces, maps, wideKeys, modest, calm, conditions, laid).
  DERIVED. THE GIVEN ROWS OF THIS SEAT. 12 by the template 'for every input the law returns true; each argument reads behind the call as it read before'; 0 by the template 'total and deterministic' (their statements: YtemalpelcdmemaaGreatTotals.lean).
  GIVEN WITH THE SEED: the statements are not yours to turn. If you find one false, say at which input.
  Laid BY PROGRAM, IN A SANDBOX (cutbox-rows.mjs): the forced cells as the released guide's own fill.sh prints them over the translation 9b77cb7951da2d78… (all of the seat's roots in one cut). By AI agents, Wed Nov 11 2026. No macro, syntax, notation, axiom, sorry.
-/
import Derived.Test.YtemalpelcdmemaaGreatChecked
import GoSem.Claim
import GoSem.ClaimJoined
import GoSem.ClaimMapViews
import Derived.JoinedTies
import Derived.KernelRfl
namespace Go.Proofs.YtemalpelcdmemaaGreat
/- THE CELL 'sum', in the pinned program and in every row, IS THE sha256 OF THE DUMP (.gsa) THAT YtemalpelcdmemaaGreatProg.lean LOADS. Nothing in Lean hashes anything: it is a label: what it is worth is what the hold of that sum in a sandbox is worth. -/
noncomputable def Tryz.pinned : Pinned := { name := "ytemalpelcdmemaagreat", sum := "9b77cb7951da2d783d987fdd807524e2665f2034a0cceedb8eb237f748743fc5", checked := Tryz.checked }
namespace Rows
def none {H : Type} : Left H := { results := [], args := [] }

/-- 'laws.FnExactTraceWithin': WHATEVER THE INPUT: true; the input reads as it did. -/
def fnExactTraceWithinSpec : ChangeSpec := { name := "fnExactTraceWithin", fn := fun _ => fun
  | [d1, d2, d3, d4] => { results := [.lit (.bool true)], args := [d1, d2, d3, d4] }
  | _ => none }
def fnExactTraceWithinRow : OpenClaim := { program := "ytemalpelcdmemaagreat", sum := "9b77cb7951da2d783d987fdd807524e2665f2034a0cceedb8eb237f748743fc5", func := "loop.example/g01074/laws.FnExactTraceWithin", spec := "fnExactTraceWithin", unfollowed := true, recurses := true, apart := false }
def FnExactTraceWithinSaid : Prop := fnExactTraceWithinRow.holds Tryz.pinned (OpenSpec.ofChange fnExactTraceWithinSpec)

/-- ITS FALSE NEIGHBOUR: 'it returns false'. Refute it at one input. -/
def fnExactTraceWithinWrong : ChangeSpec := { name := "fnExactTraceWithin", fn := fun _ => fun
  | [d1, d2, d3, d4] => { results := [.lit (.bool false)], args := [d1, d2, d3, d4] }
  | _ => none }
def FnExactTraceWithinWrongFalsely : Prop := fnExactTraceWithinRow.holds Tryz.pinned (OpenSpec.ofChange fnExactTraceWithinWrong)

/-- 'laws.FnExactCheckTrace': WHATEVER THE INPUT: true; the input reads as it did. -/
def fnExactCheckTraceSpec : ChangeSpec := { name := "fnExactCheckTrace", fn := fun _ => fun
  | [d1, d2, d3] => { results := [.lit (.bool true)], args := [d1, d2, d3] }
  | _ => none }
def fnExactCheckTraceRow : OpenClaim := { program := "ytemalpelcdmemaagreat", sum := "9b77cb7951da2d783d987fdd807524e2665f2034a0cceedb8eb237f748743fc5", func := "loop.example/g01074/laws.FnExactCheckTrace", spec := "fnExactCheckTrace", unfollowed := true, recurses := true, apart := false }
def FnExactCheckTraceSaid : Prop := fnExactCheckTraceRow.holds Tryz.pinned (OpenSpec.ofChange fnExactCheckTraceSpec)

/-- ITS FALSE NEIGHBOUR: 'it returns false'. Refute it at one input. -/
def fnExactCheckTraceWrong : ChangeSpec := { name := "fnExactCheckTrace", fn := fun _ => fun
  | [d1, d2, d3] => { results := [.lit (.bool false)], args := [d1, d2, d3] }
  | _ => none }
def FnExactCheckTraceWrongFalsely : Prop := fnExactCheckTraceRow.holds Tryz.pinned (OpenSpec.ofChange fnExactCheckTraceWrong)

/-- 'laws.FnExactRecordTrace': WHATEVER THE INPUT: true; the input reads as it did. -/
def fnExactRecordTraceSpec : ChangeSpec := { name := "fnExactRecordTrace", fn := fun _ => fun
  | [d1, d2, d3, d4] => { results := [.lit (.bool true)], args := [d1, d2, d3, d4] }
  | _ => none }
def fnExactRecordTraceRow : OpenClaim := { program := "ytemalpelcdmemaagreat", sum := "9b77cb7951da2d783d987fdd807524e2665f2034a0cceedb8eb237f748743fc5", func := "loop.example/g01074/laws.FnExactRecordTrace", spec := "fnExactRecordTrace", unfollowed := true, recurses := true, apart := false }
def FnExactRecordTraceSaid : Prop := fnExactRecordTraceRow.holds Tryz.pinned (OpenSpec.ofChange fnExactRecordTraceSpec)

/-- ITS FALSE NEIGHBOUR: 'it returns false'. Refute it at one input. -/
def fnExactRecordTraceWrong : ChangeSpec := { name := "fnExactRecordTrace", fn := fun _ => fun
  | [d1, d2, d3, d4] => { results := [.lit (.bool false)], args := [d1, d2, d3, d4] }
  | _ => none }
def FnExactRecordTraceWrongFalsely : Prop := fnExactRecordTraceRow.holds Tryz.pinned (OpenSpec.ofChange fnExactRecordTraceWrong)

/-- 'laws.FnExactRecordLazy': WHATEVER THE INPUT: true; the input reads as it did. -/
def fnExactRecordLazySpec : ChangeSpec := { name := "fnExactRecordLazy", fn := fun _ => fun
  | [d1, d2, d3] => { results := [.lit (.bool true)], args := [d1, d2, d3] }
  | _ => none }
def fnExactRecordLazyRow : OpenClaim := { program := "ytemalpelcdmemaagreat", sum := "9b77cb7951da2d783d987fdd807524e2665f2034a0cceedb8eb237f748743fc5", func := "loop.example/g01074/laws.FnExactRecordLazy", spec := "fnExactRecordLazy", unfollowed := true, recurses := true, apart := false }
def FnExactRecordLazySaid : Prop := fnExactRecordLazyRow.holds Tryz.pinned (OpenSpec.ofChange fnExactRecordLazySpec)

/-- ITS FALSE NEIGHBOUR: 'it returns false'. Refute it at one input. -/
def fnExactRecordLazyWrong : ChangeSpec := { name := "fnExactRecordLazy", fn := fun _ => fun
  | [d1, d2, d3] => { results := [.lit (.bool false)], args := [d1, d2, d3] }
  | _ => none }
def FnExactRecordLazyWrongFalsely : Prop := fnExactRecordLazyRow.holds Tryz.pinned (OpenSpec.ofChange fnExactRecordLazyWrong)

/-- 'laws.FnExactExchangeEvents': WHATEVER THE INPUT: true; the input reads as it did. -/
def fnExactExchangeEventsSpec : ChangeSpec := { name := "fnExactExchangeEvents", fn := fun _ => fun
  | [d1, d2, d3, d4] => { results := [.lit (.bool true)], args := [d1, d2, d3, d4] }
  | _ => none }
def fnExactExchangeEventsRow : OpenClaim := { program := "ytemalpelcdmemaagreat", sum := "9b77cb7951da2d783d987fdd807524e2665f2034a0cceedb8eb237f748743fc5", func := "loop.example/g01074/laws.FnExactExchangeEvents", spec := "fnExactExchangeEvents", unfollowed := true, recurses := true, apart := false }
def FnExactExchangeEventsSaid : Prop := fnExactExchangeEventsRow.holds Tryz.pinned (OpenSpec.ofChange fnExactExchangeEventsSpec)

/-- ITS FALSE NEIGHBOUR: 'it returns false'. Refute it at one input. -/
def fnExactExchangeEventsWrong : ChangeSpec := { name := "fnExactExchangeEvents", fn := fun _ => fun
  | [d1, d2, d3, d4] => { results := [.lit (.bool false)], args := [d1, d2, d3, d4] }
  | _ => none }
def FnExactExchangeEventsWrongFalsely : Prop := fnExactExchangeEventsRow.holds Tryz.pinned (OpenSpec.ofChange fnExactExchangeEventsWrong)

/-- 'laws.FnExactClassTrace': WHATEVER THE INPUT: true; the input reads as it did. -/
def fnExactClassTraceSpec : ChangeSpec := { name := "fnExactClassTrace", fn := fun _ => fun
  | [d1, d2, d3, d4] => { results := [.lit (.bool true)], args := [d1, d2, d3, d4] }
  | _ => none }
def fnExactClassTraceRow : OpenClaim := { program := "ytemalpelcdmemaagreat", sum := "9b77cb7951da2d783d987fdd807524e2665f2034a0cceedb8eb237f748743fc5", func := "loop.example/g01074/laws.FnExactClassTrace", spec := "fnExactClassTrace", unfollowed := true, recurses := true, apart := false }
def FnExactClassTraceSaid : Prop := fnExactClassTraceRow.holds Tryz.pinned (OpenSpec.ofChange fnExactClassTraceSpec)

/-- ITS FALSE NEIGHBOUR: 'it returns false'. Refute it at one input. -/
def fnExactClassTraceWrong : ChangeSpec := { name := "fnExactClassTrace", fn := fun _ => fun
  | [d1, d2, d3, d4] => { results := [.lit (.bool false)], args := [d1, d2, d3, d4] }
  | _ => none }
def FnExactClassTraceWrongFalsely : Prop := fnExactClassTraceRow.holds Tryz.pinned (OpenSpec.ofChange fnExactClassTraceWrong)

/-- 'laws.FnExactPeakAgents': WHATEVER THE INPUT: true; the input reads as it did. -/
def fnExactPeakAgentsSpec : ChangeSpec := { name := "fnExactPeakAgents", fn := fun _ => fun
  | [d1, d2, d3, d4] => { results := [.lit (.bool true)], args := [d1, d2, d3, d4] }
  | _ => none }
def fnExactPeakAgentsRow : OpenClaim := { program := "ytemalpelcdmemaagreat", sum := "9b77cb7951da2d783d987fdd807524e2665f2034a0cceedb8eb237f748743fc5", func := "loop.example/g01074/laws.FnExactPeakAgents", spec := "fnExactPeakAgents", unfollowed := true, recurses := true, apart := false }
def FnExactPeakAgentsSaid : Prop := fnExactPeakAgentsRow.holds Tryz.pinned (OpenSpec.ofChange fnExactPeakAgentsSpec)

/-- ITS FALSE NEIGHBOUR: 'it returns false'. Refute it at one input. -/
def fnExactPeakAgentsWrong : ChangeSpec := { name := "fnExactPeakAgents", fn := fun _ => fun
  | [d1, d2, d3, d4] => { results := [.lit (.bool false)], args := [d1, d2, d3, d4] }
  | _ => none }
def FnExactPeakAgentsWrongFalsely : Prop := fnExactPeakAgentsRow.holds Tryz.pinned (OpenSpec.ofChange fnExactPeakAgentsWrong)

/-- 'laws.FnExactReduceSteps': WHATEVER THE INPUT: true; the input reads as it did. -/
def fnExactReduceStepsSpec : ChangeSpec := { name := "fnExactReduceSteps", fn := fun _ => fun
  | [d1, d2, d3, d4] => { results := [.lit (.bool true)], args := [d1, d2, d3, d4] }
  | _ => none }
def fnExactReduceStepsRow : OpenClaim := { program := "ytemalpelcdmemaagreat", sum := "9b77cb7951da2d783d987fdd807524e2665f2034a0cceedb8eb237f748743fc5", func := "loop.example/g01074/laws.FnExactReduceSteps", spec := "fnExactReduceSteps", unfollowed := true, recurses := true, apart := false }
def FnExactReduceStepsSaid : Prop := fnExactReduceStepsRow.holds Tryz.pinned (OpenSpec.ofChange fnExactReduceStepsSpec)

/-- ITS FALSE NEIGHBOUR: 'it returns false'. Refute it at one input. -/
def fnExactReduceStepsWrong : ChangeSpec := { name := "fnExactReduceSteps", fn := fun _ => fun
  | [d1, d2, d3, d4] => { results := [.lit (.bool false)], args := [d1, d2, d3, d4] }
  | _ => none }
def FnExactReduceStepsWrongFalsely : Prop := fnExactReduceStepsRow.holds Tryz.pinned (OpenSpec.ofChange fnExactReduceStepsWrong)

/-- 'laws.FnExactReduce': WHATEVER THE INPUT: true; the input reads as it did. -/
def fnExactReduceSpec : ChangeSpec := { name := "fnExactReduce", fn := fun _ => fun
  | [d1, d2, d3, d4] => { results := [.lit (.bool true)], args := [d1, d2, d3, d4] }
  | _ => none }
def fnExactReduceRow : OpenClaim := { program := "ytemalpelcdmemaagreat", sum := "9b77cb7951da2d783d987fdd807524e2665f2034a0cceedb8eb237f748743fc5", func := "loop.example/g01074/laws.FnExactReduce", spec := "fnExactReduce", unfollowed := true, recurses := true, apart := false }
def FnExactReduceSaid : Prop := fnExactReduceRow.holds Tryz.pinned (OpenSpec.ofChange fnExactReduceSpec)

/-- ITS FALSE NEIGHBOUR: 'it returns false'. Refute it at one input. -/
def fnExactReduceWrong : ChangeSpec := { name := "fnExactReduce", fn := fun _ => fun
  | [d1, d2, d3, d4] => { results := [.lit (.bool false)], args := [d1, d2, d3, d4] }
  | _ => none }
def FnExactReduceWrongFalsely : Prop := fnExactReduceRow.holds Tryz.pinned (OpenSpec.ofChange fnExactReduceWrong)

/-- 'laws.FnExactReduceRounds': WHATEVER THE INPUT: true; the input reads as it did. -/
def fnExactReduceRoundsSpec : ChangeSpec := { name := "fnExactReduceRounds", fn := fun _ => fun
  | [d1, d2, d3] => { results := [.lit (.bool true)], args := [d1, d2, d3] }
  | _ => none }
def fnExactReduceRoundsRow : OpenClaim := { program := "ytemalpelcdmemaagreat", sum := "9b77cb7951da2d783d987fdd807524e2665f2034a0cceedb8eb237f748743fc5", func := "loop.example/g01074/laws.FnExactReduceRounds", spec := "fnExactReduceRounds", unfollowed := true, recurses := true, apart := false }
def FnExactReduceRoundsSaid : Prop := fnExactReduceRoundsRow.holds Tryz.pinned (OpenSpec.ofChange fnExactReduceRoundsSpec)

/-- ITS FALSE NEIGHBOUR: 'it returns false'. Refute it at one input. -/
def fnExactReduceRoundsWrong : ChangeSpec := { name := "fnExactReduceRounds", fn := fun _ => fun
  | [d1, d2, d3] => { results := [.lit (.bool false)], args := [d1, d2, d3] }
  | _ => none }
def FnExactReduceRoundsWrongFalsely : Prop := fnExactReduceRoundsRow.holds Tryz.pinned (OpenSpec.ofChange fnExactReduceRoundsWrong)

/-- 'laws.FnExactAgentCurve': WHATEVER THE INPUT: true; the input reads as it did. -/
def fnExactAgentCurveSpec : ChangeSpec := { name := "fnExactAgentCurve", fn := fun _ => fun
  | [d1, d2, d3, d4] => { results := [.lit (.bool true)], args := [d1, d2, d3, d4] }
  | _ => none }
def fnExactAgentCurveRow : OpenClaim := { program := "ytemalpelcdmemaagreat", sum := "9b77cb7951da2d783d987fdd807524e2665f2034a0cceedb8eb237f748743fc5", func := "loop.example/g01074/laws.FnExactAgentCurve", spec := "fnExactAgentCurve", unfollowed := true, recurses := true, apart := false }
def FnExactAgentCurveSaid : Prop := fnExactAgentCurveRow.holds Tryz.pinned (OpenSpec.ofChange fnExactAgentCurveSpec)

/-- ITS FALSE NEIGHBOUR: 'it returns false'. Refute it at one input. -/
def fnExactAgentCurveWrong : ChangeSpec := { name := "fnExactAgentCurve", fn := fun _ => fun
  | [d1, d2, d3, d4] => { results := [.lit (.bool false)], args := [d1, d2, d3, d4] }
  | _ => none }
def FnExactAgentCurveWrongFalsely : Prop := fnExactAgentCurveRow.holds Tryz.pinned (OpenSpec.ofChange fnExactAgentCurveWrong)

/-- 'laws.FnExactExpandedDefs': WHATEVER THE INPUT: true; the input reads as it did. -/
def fnExactExpandedDefsSpec : ChangeSpec := { name := "fnExactExpandedDefs", fn := fun _ => fun
  | [d1, d2, d3, d4] => { results := [.lit (.bool true)], args := [d1, d2, d3, d4] }
  | _ => none }
def fnExactExpandedDefsRow : OpenClaim := { program := "ytemalpelcdmemaagreat", sum := "9b77cb7951da2d783d987fdd807524e2665f2034a0cceedb8eb237f748743fc5", func := "loop.example/g01074/laws.FnExactExpandedDefs", spec := "fnExactExpandedDefs", unfollowed := true, recurses := true, apart := false }
def FnExactExpandedDefsSaid : Prop := fnExactExpandedDefsRow.holds Tryz.pinned (OpenSpec.ofChange fnExactExpandedDefsSpec)

/-- ITS FALSE NEIGHBOUR: 'it returns false'. Refute it at one input. -/
def fnExactExpandedDefsWrong : ChangeSpec := { name := "fnExactExpandedDefs", fn := fun _ => fun
  | [d1, d2, d3, d4] => { results := [.lit (.bool false)], args := [d1, d2, d3, d4] }
  | _ => none }
def FnExactExpandedDefsWrongFalsely : Prop := fnExactExpandedDefsRow.holds Tryz.pinned (OpenSpec.ofChange fnExactExpandedDefsWrong)

/- THE SECOND FORM. 'bulk': how many values and letters a reading holds, each counted each time it is reached (what is shared counts as often as it is met; a slice's spare places count too). A statement '..UptoSaid' is the law's where the arguments, and the package variables that the reading takes, are together of bulk at most 1048576: NARROWER than '..Said'. Prove '..Said' where nothing that the law and all that it calls make is longer than what came in: it says more and counts as full. Else prove '..UptoSaid'. A law counts once. -/
mutual
def uptoBulk {H : Type} : DataW H → Nat
  | .lit (.string bytes) => bytes.length + 1
  | .lit _ => 1
  | .nil => 1
  | .ptr d => uptoBulk d + 1
  | .slice elems spare => uptoBulkAll elems + uptoBulkAll spare + 1
  | .agg parts => uptoBulkAll parts + 1
  | .iface _ d => uptoBulk d + 1
  | .map entries => uptoBulkEntries entries + 1
  | .held _ => 1
def uptoBulkAll {H : Type} : List (DataW H) → Nat
  | [] => 0
  | d :: r => uptoBulk d + uptoBulkAll r
def uptoBulkEntries {H : Type} : List (Lit × DataW H) → Nat
  | [] => 0
  | x :: r => uptoBulkEntry x + uptoBulkEntries r
def uptoBulkEntry {H : Type} : Lit × DataW H → Nat
  | (.string bytes, d) => bytes.length + uptoBulk d + 1
  | (_, d) => uptoBulk d + 1
 end
def uptoSmall : (H : Type) → List (DataW H) → Bool := fun _ ds => decide (uptoBulkAll ds ≤ 1048576)
def OpenSpec.upto (s : _root_.Go.ChangeSpec) : _root_.Go.OpenSpec := { _root_.Go.OpenSpec.ofChange s with cond := some uptoSmall }

/-- 'laws.FnExactTraceWithin', WHERE WHAT IT READS IS OF BULK AT MOST 1048576: true; the input reads as it did. -/
def fnExactTraceWithinUptoRow : OpenClaim := { program := "ytemalpelcdmemaagreat", sum := "9b77cb7951da2d783d987fdd807524e2665f2034a0cceedb8eb237f748743fc5", func := "loop.example/g01074/laws.FnExactTraceWithin", spec := "fnExactTraceWithin", unfollowed := true, recurses := true, apart := false, narrowed := true }
def FnExactTraceWithinUptoSaid : Prop := fnExactTraceWithinUptoRow.holds Tryz.pinned (OpenSpec.upto fnExactTraceWithinSpec)

/-- 'laws.FnExactCheckTrace', WHERE WHAT IT READS IS OF BULK AT MOST 1048576: true; the input reads as it did. -/
def fnExactCheckTraceUptoRow : OpenClaim := { program := "ytemalpelcdmemaagreat", sum := "9b77cb7951da2d783d987fdd807524e2665f2034a0cceedb8eb237f748743fc5", func := "loop.example/g01074/laws.FnExactCheckTrace", spec := "fnExactCheckTrace", unfollowed := true, recurses := true, apart := false, narrowed := true }
def FnExactCheckTraceUptoSaid : Prop := fnExactCheckTraceUptoRow.holds Tryz.pinned (OpenSpec.upto fnExactCheckTraceSpec)

/-- 'laws.FnExactRecordTrace', WHERE WHAT IT READS IS OF BULK AT MOST 1048576: true; the input reads as it did. -/
def fnExactRecordTraceUptoRow : OpenClaim := { program := "ytemalpelcdmemaagreat", sum := "9b77cb7951da2d783d987fdd807524e2665f2034a0cceedb8eb237f748743fc5", func := "loop.example/g01074/laws.FnExactRecordTrace", spec := "fnExactRecordTrace", unfollowed := true, recurses := true, apart := false, narrowed := true }
def FnExactRecordTraceUptoSaid : Prop := fnExactRecordTraceUptoRow.holds Tryz.pinned (OpenSpec.upto fnExactRecordTraceSpec)

/-- 'laws.FnExactRecordLazy', WHERE WHAT IT READS IS OF BULK AT MOST 1048576: true; the input reads as it did. -/
def fnExactRecordLazyUptoRow : OpenClaim := { program := "ytemalpelcdmemaagreat", sum := "9b77cb7951da2d783d987fdd807524e2665f2034a0cceedb8eb237f748743fc5", func := "loop.example/g01074/laws.FnExactRecordLazy", spec := "fnExactRecordLazy", unfollowed := true, recurses := true, apart := false, narrowed := true }
def FnExactRecordLazyUptoSaid : Prop := fnExactRecordLazyUptoRow.holds Tryz.pinned (OpenSpec.upto fnExactRecordLazySpec)

/-- 'laws.FnExactExchangeEvents', WHERE WHAT IT READS IS OF BULK AT MOST 1048576: true; the input reads as it did. -/
def fnExactExchangeEventsUptoRow : OpenClaim := { program := "ytemalpelcdmemaagreat", sum := "9b77cb7951da2d783d987fdd807524e2665f2034a0cceedb8eb237f748743fc5", func := "loop.example/g01074/laws.FnExactExchangeEvents", spec := "fnExactExchangeEvents", unfollowed := true, recurses := true, apart := false, narrowed := true }
def FnExactExchangeEventsUptoSaid : Prop := fnExactExchangeEventsUptoRow.holds Tryz.pinned (OpenSpec.upto fnExactExchangeEventsSpec)

/-- 'laws.FnExactClassTrace', WHERE WHAT IT READS IS OF BULK AT MOST 1048576: true; the input reads as it did. -/
def fnExactClassTraceUptoRow : OpenClaim := { program := "ytemalpelcdmemaagreat", sum := "9b77cb7951da2d783d987fdd807524e2665f2034a0cceedb8eb237f748743fc5", func := "loop.example/g01074/laws.FnExactClassTrace", spec := "fnExactClassTrace", unfollowed := true, recurses := true, apart := false, narrowed := true }
def FnExactClassTraceUptoSaid : Prop := fnExactClassTraceUptoRow.holds Tryz.pinned (OpenSpec.upto fnExactClassTraceSpec)

/-- 'laws.FnExactPeakAgents', WHERE WHAT IT READS IS OF BULK AT MOST 1048576: true; the input reads as it did. -/
def fnExactPeakAgentsUptoRow : OpenClaim := { program := "ytemalpelcdmemaagreat", sum := "9b77cb7951da2d783d987fdd807524e2665f2034a0cceedb8eb237f748743fc5", func := "loop.example/g01074/laws.FnExactPeakAgents", spec := "fnExactPeakAgents", unfollowed := true, recurses := true, apart := false, narrowed := true }
def FnExactPeakAgentsUptoSaid : Prop := fnExactPeakAgentsUptoRow.holds Tryz.pinned (OpenSpec.upto fnExactPeakAgentsSpec)

/-- 'laws.FnExactReduceSteps', WHERE WHAT IT READS IS OF BULK AT MOST 1048576: true; the input reads as it did. -/
def fnExactReduceStepsUptoRow : OpenClaim := { program := "ytemalpelcdmemaagreat", sum := "9b77cb7951da2d783d987fdd807524e2665f2034a0cceedb8eb237f748743fc5", func := "loop.example/g01074/laws.FnExactReduceSteps", spec := "fnExactReduceSteps", unfollowed := true, recurses := true, apart := false, narrowed := true }
def FnExactReduceStepsUptoSaid : Prop := fnExactReduceStepsUptoRow.holds Tryz.pinned (OpenSpec.upto fnExactReduceStepsSpec)

/-- 'laws.FnExactReduce', WHERE WHAT IT READS IS OF BULK AT MOST 1048576: true; the input reads as it did. -/
def fnExactReduceUptoRow : OpenClaim := { program := "ytemalpelcdmemaagreat", sum := "9b77cb7951da2d783d987fdd807524e2665f2034a0cceedb8eb237f748743fc5", func := "loop.example/g01074/laws.FnExactReduce", spec := "fnExactReduce", unfollowed := true, recurses := true, apart := false, narrowed := true }
def FnExactReduceUptoSaid : Prop := fnExactReduceUptoRow.holds Tryz.pinned (OpenSpec.upto fnExactReduceSpec)

/-- 'laws.FnExactReduceRounds', WHERE WHAT IT READS IS OF BULK AT MOST 1048576: true; the input reads as it did. -/
def fnExactReduceRoundsUptoRow : OpenClaim := { program := "ytemalpelcdmemaagreat", sum := "9b77cb7951da2d783d987fdd807524e2665f2034a0cceedb8eb237f748743fc5", func := "loop.example/g01074/laws.FnExactReduceRounds", spec := "fnExactReduceRounds", unfollowed := true, recurses := true, apart := false, narrowed := true }
def FnExactReduceRoundsUptoSaid : Prop := fnExactReduceRoundsUptoRow.holds Tryz.pinned (OpenSpec.upto fnExactReduceRoundsSpec)

/-- 'laws.FnExactAgentCurve', WHERE WHAT IT READS IS OF BULK AT MOST 1048576: true; the input reads as it did. -/
def fnExactAgentCurveUptoRow : OpenClaim := { program := "ytemalpelcdmemaagreat", sum := "9b77cb7951da2d783d987fdd807524e2665f2034a0cceedb8eb237f748743fc5", func := "loop.example/g01074/laws.FnExactAgentCurve", spec := "fnExactAgentCurve", unfollowed := true, recurses := true, apart := false, narrowed := true }
def FnExactAgentCurveUptoSaid : Prop := fnExactAgentCurveUptoRow.holds Tryz.pinned (OpenSpec.upto fnExactAgentCurveSpec)

/-- 'laws.FnExactExpandedDefs', WHERE WHAT IT READS IS OF BULK AT MOST 1048576: true; the input reads as it did. -/
def fnExactExpandedDefsUptoRow : OpenClaim := { program := "ytemalpelcdmemaagreat", sum := "9b77cb7951da2d783d987fdd807524e2665f2034a0cceedb8eb237f748743fc5", func := "loop.example/g01074/laws.FnExactExpandedDefs", spec := "fnExactExpandedDefs", unfollowed := true, recurses := true, apart := false, narrowed := true }
def FnExactExpandedDefsUptoSaid : Prop := fnExactExpandedDefsUptoRow.holds Tryz.pinned (OpenSpec.upto fnExactExpandedDefsSpec)

end Rows
end Go.Proofs.YtemalpelcdmemaaGreat
