/-
  No cell of these rows narrows 'for every input' (looked for: loops, veiled, ifaces, maps, wideKeys, modest, calm, conditions, laid).
  DERIVED. THE GIVEN ROWS OF THIS SEAT. 5 by the template 'for every input the law returns true; each argument reads behind the call as it read before'; 0 by the template 'total and deterministic' (their statements: YtbdimbjclhmeoaaGreatTotals.lean).
  GIVEN WITH THE SEED: the statements are not yours to turn. If you find one false, say at which input.
  Laid BY PROGRAM, IN A SANDBOX (cutbox-rows.mjs): the forced cells as the released guide's own fill.sh prints them over the translation a498d8aa412108d0… (all of the seat's roots in one cut). By AI agents, Wed Nov 11 2026. No macro, syntax, notation, axiom, sorry.
-/
import Derived.Test.YtbdimbjclhmeoaaGreatChecked
import GoSem.Claim
import GoSem.ClaimJoined
import GoSem.ClaimMapViews
import Derived.JoinedTies
import Derived.KernelRfl
namespace Go.Proofs.YtbdimbjclhmeoaaGreat
/- THE CELL 'sum', in the pinned program and in every row, IS THE sha256 OF THE DUMP (.gsa) THAT YtbdimbjclhmeoaaGreatProg.lean LOADS. Nothing in Lean hashes anything: it is a label: what it is worth is what the hold of that sum in a sandbox is worth. -/
noncomputable def Tryz.pinned : Pinned := { name := "ytbdimbjclhmeoaagreat", sum := "a498d8aa412108d0bc3be672b2292622585c2bb7fd9be70e2599d3b03793b64d", checked := Tryz.checked }
namespace Rows
def none {H : Type} : Left H := { results := [], args := [] }

/-- 'laws.FnExactExchangeEvents': WHATEVER THE INPUT: true; the input reads as it did. -/
def fnExactExchangeEventsSpec : ChangeSpec := { name := "fnExactExchangeEvents", fn := fun _ => fun
  | [d1, d2, d3, d4] => { results := [.lit (.bool true)], args := [d1, d2, d3, d4] }
  | _ => none }
def fnExactExchangeEventsRow : OpenClaim := { program := "ytbdimbjclhmeoaagreat", sum := "a498d8aa412108d0bc3be672b2292622585c2bb7fd9be70e2599d3b03793b64d", func := "loop.example/g01074/laws.FnExactExchangeEvents", spec := "fnExactExchangeEvents", unfollowed := true, recurses := true, apart := false }
def FnExactExchangeEventsSaid : Prop := fnExactExchangeEventsRow.holds Tryz.pinned (OpenSpec.ofChange fnExactExchangeEventsSpec)

/-- ITS FALSE NEIGHBOUR: 'it returns false'. Refute it at one input. -/
def fnExactExchangeEventsWrong : ChangeSpec := { name := "fnExactExchangeEvents", fn := fun _ => fun
  | [d1, d2, d3, d4] => { results := [.lit (.bool false)], args := [d1, d2, d3, d4] }
  | _ => none }
def FnExactExchangeEventsWrongFalsely : Prop := fnExactExchangeEventsRow.holds Tryz.pinned (OpenSpec.ofChange fnExactExchangeEventsWrong)

/-- 'laws.FnExactReduce': WHATEVER THE INPUT: true; the input reads as it did. -/
def fnExactReduceSpec : ChangeSpec := { name := "fnExactReduce", fn := fun _ => fun
  | [d1, d2, d3, d4] => { results := [.lit (.bool true)], args := [d1, d2, d3, d4] }
  | _ => none }
def fnExactReduceRow : OpenClaim := { program := "ytbdimbjclhmeoaagreat", sum := "a498d8aa412108d0bc3be672b2292622585c2bb7fd9be70e2599d3b03793b64d", func := "loop.example/g01074/laws.FnExactReduce", spec := "fnExactReduce", unfollowed := true, recurses := true, apart := false }
def FnExactReduceSaid : Prop := fnExactReduceRow.holds Tryz.pinned (OpenSpec.ofChange fnExactReduceSpec)

/-- ITS FALSE NEIGHBOUR: 'it returns false'. Refute it at one input. -/
def fnExactReduceWrong : ChangeSpec := { name := "fnExactReduce", fn := fun _ => fun
  | [d1, d2, d3, d4] => { results := [.lit (.bool false)], args := [d1, d2, d3, d4] }
  | _ => none }
def FnExactReduceWrongFalsely : Prop := fnExactReduceRow.holds Tryz.pinned (OpenSpec.ofChange fnExactReduceWrong)

/-- 'laws.FnExactEquivalentTraces': WHATEVER THE INPUT: true; the input reads as it did. -/
def fnExactEquivalentTracesSpec : ChangeSpec := { name := "fnExactEquivalentTraces", fn := fun _ => fun
  | [d1, d2, d3, d4] => { results := [.lit (.bool true)], args := [d1, d2, d3, d4] }
  | _ => none }
def fnExactEquivalentTracesRow : OpenClaim := { program := "ytbdimbjclhmeoaagreat", sum := "a498d8aa412108d0bc3be672b2292622585c2bb7fd9be70e2599d3b03793b64d", func := "loop.example/g01074/laws.FnExactEquivalentTraces", spec := "fnExactEquivalentTraces", unfollowed := true, recurses := true, apart := false }
def FnExactEquivalentTracesSaid : Prop := fnExactEquivalentTracesRow.holds Tryz.pinned (OpenSpec.ofChange fnExactEquivalentTracesSpec)

/-- ITS FALSE NEIGHBOUR: 'it returns false'. Refute it at one input. -/
def fnExactEquivalentTracesWrong : ChangeSpec := { name := "fnExactEquivalentTraces", fn := fun _ => fun
  | [d1, d2, d3, d4] => { results := [.lit (.bool false)], args := [d1, d2, d3, d4] }
  | _ => none }
def FnExactEquivalentTracesWrongFalsely : Prop := fnExactEquivalentTracesRow.holds Tryz.pinned (OpenSpec.ofChange fnExactEquivalentTracesWrong)

/-- 'laws.FnExactEventDepths': WHATEVER THE INPUT: true; the input reads as it did. -/
def fnExactEventDepthsSpec : ChangeSpec := { name := "fnExactEventDepths", fn := fun _ => fun
  | [d1, d2, d3] => { results := [.lit (.bool true)], args := [d1, d2, d3] }
  | _ => none }
def fnExactEventDepthsRow : OpenClaim := { program := "ytbdimbjclhmeoaagreat", sum := "a498d8aa412108d0bc3be672b2292622585c2bb7fd9be70e2599d3b03793b64d", func := "loop.example/g01074/laws.FnExactEventDepths", spec := "fnExactEventDepths", unfollowed := true, recurses := true, apart := false }
def FnExactEventDepthsSaid : Prop := fnExactEventDepthsRow.holds Tryz.pinned (OpenSpec.ofChange fnExactEventDepthsSpec)

/-- ITS FALSE NEIGHBOUR: 'it returns false'. Refute it at one input. -/
def fnExactEventDepthsWrong : ChangeSpec := { name := "fnExactEventDepths", fn := fun _ => fun
  | [d1, d2, d3] => { results := [.lit (.bool false)], args := [d1, d2, d3] }
  | _ => none }
def FnExactEventDepthsWrongFalsely : Prop := fnExactEventDepthsRow.holds Tryz.pinned (OpenSpec.ofChange fnExactEventDepthsWrong)

/-- 'laws.FnExactStandardTrace': WHATEVER THE INPUT: true; the input reads as it did. -/
def fnExactStandardTraceSpec : ChangeSpec := { name := "fnExactStandardTrace", fn := fun _ => fun
  | [d1, d2, d3] => { results := [.lit (.bool true)], args := [d1, d2, d3] }
  | _ => none }
def fnExactStandardTraceRow : OpenClaim := { program := "ytbdimbjclhmeoaagreat", sum := "a498d8aa412108d0bc3be672b2292622585c2bb7fd9be70e2599d3b03793b64d", func := "loop.example/g01074/laws.FnExactStandardTrace", spec := "fnExactStandardTrace", unfollowed := true, recurses := true, apart := false }
def FnExactStandardTraceSaid : Prop := fnExactStandardTraceRow.holds Tryz.pinned (OpenSpec.ofChange fnExactStandardTraceSpec)

/-- ITS FALSE NEIGHBOUR: 'it returns false'. Refute it at one input. -/
def fnExactStandardTraceWrong : ChangeSpec := { name := "fnExactStandardTrace", fn := fun _ => fun
  | [d1, d2, d3] => { results := [.lit (.bool false)], args := [d1, d2, d3] }
  | _ => none }
def FnExactStandardTraceWrongFalsely : Prop := fnExactStandardTraceRow.holds Tryz.pinned (OpenSpec.ofChange fnExactStandardTraceWrong)

/- THE SECOND FORM. 'bulk': how many values and letters a reading holds, each counted each time it is reached (what is shared counts as often as it is met; a slice's spare places count too). A statement '..UptoSaid' is the law's where the arguments, and the package variables that the reading takes, are together of bulk at most 1048576: NARROWER than '..Said'. Prove '..Said' where nothing that the law and all that it calls make is longer than what came in: it says more and counts as full. Else prove '..UptoSaid'. A law counts once. -/
mutual
def uptoBulk {H : Type} : DataW H → Nat
  | .lit (.string bytes) => bytes.length + 1
  | .lit _ => 1
  | .nil => 1
  | .ptr d => uptoBulk d + 1
  | .slice elems spare => uptoBulkAll elems + uptoBulkAll spare + 1
  | .agg parts => uptoBulkAll parts + 1
  | .iface _ d => uptoBulk d + 1
  | .map entries => uptoBulkEntries entries + 1
  | .held _ => 1
def uptoBulkAll {H : Type} : List (DataW H) → Nat
  | [] => 0
  | d :: r => uptoBulk d + uptoBulkAll r
def uptoBulkEntries {H : Type} : List (Lit × DataW H) → Nat
  | [] => 0
  | x :: r => uptoBulkEntry x + uptoBulkEntries r
def uptoBulkEntry {H : Type} : Lit × DataW H → Nat
  | (.string bytes, d) => bytes.length + uptoBulk d + 1
  | (_, d) => uptoBulk d + 1
 end
def uptoSmall : (H : Type) → List (DataW H) → Bool := fun _ ds => decide (uptoBulkAll ds ≤ 1048576)
def OpenSpec.upto (s : _root_.Go.ChangeSpec) : _root_.Go.OpenSpec := { _root_.Go.OpenSpec.ofChange s with cond := some uptoSmall }

/-- 'laws.FnExactExchangeEvents', WHERE WHAT IT READS IS OF BULK AT MOST 1048576: true; the input reads as it did. -/
def fnExactExchangeEventsUptoRow : OpenClaim := { program := "ytbdimbjclhmeoaagreat", sum := "a498d8aa412108d0bc3be672b2292622585c2bb7fd9be70e2599d3b03793b64d", func := "loop.example/g01074/laws.FnExactExchangeEvents", spec := "fnExactExchangeEvents", unfollowed := true, recurses := true, apart := false, narrowed := true }
def FnExactExchangeEventsUptoSaid : Prop := fnExactExchangeEventsUptoRow.holds Tryz.pinned (OpenSpec.upto fnExactExchangeEventsSpec)

/-- 'laws.FnExactReduce', WHERE WHAT IT READS IS OF BULK AT MOST 1048576: true; the input reads as it did. -/
def fnExactReduceUptoRow : OpenClaim := { program := "ytbdimbjclhmeoaagreat", sum := "a498d8aa412108d0bc3be672b2292622585c2bb7fd9be70e2599d3b03793b64d", func := "loop.example/g01074/laws.FnExactReduce", spec := "fnExactReduce", unfollowed := true, recurses := true, apart := false, narrowed := true }
def FnExactReduceUptoSaid : Prop := fnExactReduceUptoRow.holds Tryz.pinned (OpenSpec.upto fnExactReduceSpec)

/-- 'laws.FnExactEquivalentTraces', WHERE WHAT IT READS IS OF BULK AT MOST 1048576: true; the input reads as it did. -/
def fnExactEquivalentTracesUptoRow : OpenClaim := { program := "ytbdimbjclhmeoaagreat", sum := "a498d8aa412108d0bc3be672b2292622585c2bb7fd9be70e2599d3b03793b64d", func := "loop.example/g01074/laws.FnExactEquivalentTraces", spec := "fnExactEquivalentTraces", unfollowed := true, recurses := true, apart := false, narrowed := true }
def FnExactEquivalentTracesUptoSaid : Prop := fnExactEquivalentTracesUptoRow.holds Tryz.pinned (OpenSpec.upto fnExactEquivalentTracesSpec)

/-- 'laws.FnExactEventDepths', WHERE WHAT IT READS IS OF BULK AT MOST 1048576: true; the input reads as it did. -/
def fnExactEventDepthsUptoRow : OpenClaim := { program := "ytbdimbjclhmeoaagreat", sum := "a498d8aa412108d0bc3be672b2292622585c2bb7fd9be70e2599d3b03793b64d", func := "loop.example/g01074/laws.FnExactEventDepths", spec := "fnExactEventDepths", unfollowed := true, recurses := true, apart := false, narrowed := true }
def FnExactEventDepthsUptoSaid : Prop := fnExactEventDepthsUptoRow.holds Tryz.pinned (OpenSpec.upto fnExactEventDepthsSpec)

/-- 'laws.FnExactStandardTrace', WHERE WHAT IT READS IS OF BULK AT MOST 1048576: true; the input reads as it did. -/
def fnExactStandardTraceUptoRow : OpenClaim := { program := "ytbdimbjclhmeoaagreat", sum := "a498d8aa412108d0bc3be672b2292622585c2bb7fd9be70e2599d3b03793b64d", func := "loop.example/g01074/laws.FnExactStandardTrace", spec := "fnExactStandardTrace", unfollowed := true, recurses := true, apart := false, narrowed := true }
def FnExactStandardTraceUptoSaid : Prop := fnExactStandardTraceUptoRow.holds Tryz.pinned (OpenSpec.upto fnExactStandardTraceSpec)

end Rows
end Go.Proofs.YtbdimbjclhmeoaaGreat
