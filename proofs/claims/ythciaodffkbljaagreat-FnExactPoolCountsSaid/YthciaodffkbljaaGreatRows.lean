/-
  No cell of these rows narrows 'for every input' (looked for: loops, veiled, ifaces, maps, wideKeys, modest, calm, conditions, laid).
  DERIVED. THE GIVEN ROWS OF THIS SEAT. 4 by the template 'for every input the law returns true; each argument reads behind the call as it read before'; 0 by the template 'total and deterministic' (their statements: YthciaodffkbljaaGreatTotals.lean).
  GIVEN WITH THE SEED: the statements are not yours to turn. If you find one false, say at which input.
  Laid BY PROGRAM, IN A SANDBOX (cutbox-rows.mjs): the forced cells as the released guide's own fill.sh prints them over the translation f678d1846c3ed64c… (all of the seat's roots in one cut). By AI agents, Wed Nov 11 2026. No macro, syntax, notation, axiom, sorry.
-/
import Derived.Test.YthciaodffkbljaaGreatChecked
import GoSem.Claim
import GoSem.ClaimJoined
import GoSem.ClaimMapViews
import Derived.JoinedTies
import Derived.KernelRfl
namespace Go.Proofs.YthciaodffkbljaaGreat
/- THE CELL 'sum', in the pinned program and in every row, IS THE sha256 OF THE DUMP (.gsa) THAT YthciaodffkbljaaGreatProg.lean LOADS. Nothing in Lean hashes anything: it is a label: what it is worth is what the hold of that sum in a sandbox is worth. -/
noncomputable def Tryz.pinned : Pinned := { name := "ythciaodffkbljaagreat", sum := "f678d1846c3ed64cc7feffa4417f41d1ad454485de5c9cd962023d8e00e14cee", checked := Tryz.checked }
namespace Rows
def none {H : Type} : Left H := { results := [], args := [] }

/-- 'laws.FnExactValidPool': WHATEVER THE INPUT: true; the input reads as it did. -/
def fnExactValidPoolSpec : ChangeSpec := { name := "fnExactValidPool", fn := fun _ => fun
  | [d] => { results := [.lit (.bool true)], args := [d] }
  | _ => none }
def fnExactValidPoolRow : OpenClaim := { program := "ythciaodffkbljaagreat", sum := "f678d1846c3ed64cc7feffa4417f41d1ad454485de5c9cd962023d8e00e14cee", func := "loop.example/g01074/laws.FnExactValidPool", spec := "fnExactValidPool", unfollowed := true, recurses := true, apart := false }
def FnExactValidPoolSaid : Prop := fnExactValidPoolRow.holds Tryz.pinned (OpenSpec.ofChange fnExactValidPoolSpec)

/-- ITS FALSE NEIGHBOUR: 'it returns false'. Refute it at one input. -/
def fnExactValidPoolWrong : ChangeSpec := { name := "fnExactValidPool", fn := fun _ => fun
  | [d] => { results := [.lit (.bool false)], args := [d] }
  | _ => none }
def FnExactValidPoolWrongFalsely : Prop := fnExactValidPoolRow.holds Tryz.pinned (OpenSpec.ofChange fnExactValidPoolWrong)

/-- 'laws.FnExactIsPoolDone': WHATEVER THE INPUT: true; the input reads as it did. -/
def fnExactIsPoolDoneSpec : ChangeSpec := { name := "fnExactIsPoolDone", fn := fun _ => fun
  | [d] => { results := [.lit (.bool true)], args := [d] }
  | _ => none }
def fnExactIsPoolDoneRow : OpenClaim := { program := "ythciaodffkbljaagreat", sum := "f678d1846c3ed64cc7feffa4417f41d1ad454485de5c9cd962023d8e00e14cee", func := "loop.example/g01074/laws.FnExactIsPoolDone", spec := "fnExactIsPoolDone", unfollowed := true, recurses := true, apart := false }
def FnExactIsPoolDoneSaid : Prop := fnExactIsPoolDoneRow.holds Tryz.pinned (OpenSpec.ofChange fnExactIsPoolDoneSpec)

/-- ITS FALSE NEIGHBOUR: 'it returns false'. Refute it at one input. -/
def fnExactIsPoolDoneWrong : ChangeSpec := { name := "fnExactIsPoolDone", fn := fun _ => fun
  | [d] => { results := [.lit (.bool false)], args := [d] }
  | _ => none }
def FnExactIsPoolDoneWrongFalsely : Prop := fnExactIsPoolDoneRow.holds Tryz.pinned (OpenSpec.ofChange fnExactIsPoolDoneWrong)

/-- 'laws.FnExactNewDebugger': WHATEVER THE INPUT: true; the input reads as it did. -/
def fnExactNewDebuggerSpec : ChangeSpec := { name := "fnExactNewDebugger", fn := fun _ => fun
  | [d1, d2, d3, d4] => { results := [.lit (.bool true)], args := [d1, d2, d3, d4] }
  | _ => none }
def fnExactNewDebuggerRow : OpenClaim := { program := "ythciaodffkbljaagreat", sum := "f678d1846c3ed64cc7feffa4417f41d1ad454485de5c9cd962023d8e00e14cee", func := "loop.example/g01074/laws.FnExactNewDebugger", spec := "fnExactNewDebugger", unfollowed := true, recurses := true, apart := false }
def FnExactNewDebuggerSaid : Prop := fnExactNewDebuggerRow.holds Tryz.pinned (OpenSpec.ofChange fnExactNewDebuggerSpec)

/-- ITS FALSE NEIGHBOUR: 'it returns false'. Refute it at one input. -/
def fnExactNewDebuggerWrong : ChangeSpec := { name := "fnExactNewDebugger", fn := fun _ => fun
  | [d1, d2, d3, d4] => { results := [.lit (.bool false)], args := [d1, d2, d3, d4] }
  | _ => none }
def FnExactNewDebuggerWrongFalsely : Prop := fnExactNewDebuggerRow.holds Tryz.pinned (OpenSpec.ofChange fnExactNewDebuggerWrong)

/-- 'laws.FnExactPoolCounts': WHATEVER THE INPUT: true; the input reads as it did. -/
def fnExactPoolCountsSpec : ChangeSpec := { name := "fnExactPoolCounts", fn := fun _ => fun
  | [d] => { results := [.lit (.bool true)], args := [d] }
  | _ => none }
def fnExactPoolCountsRow : OpenClaim := { program := "ythciaodffkbljaagreat", sum := "f678d1846c3ed64cc7feffa4417f41d1ad454485de5c9cd962023d8e00e14cee", func := "loop.example/g01074/laws.FnExactPoolCounts", spec := "fnExactPoolCounts", unfollowed := true, recurses := true, apart := false }
def FnExactPoolCountsSaid : Prop := fnExactPoolCountsRow.holds Tryz.pinned (OpenSpec.ofChange fnExactPoolCountsSpec)

/-- ITS FALSE NEIGHBOUR: 'it returns false'. Refute it at one input. -/
def fnExactPoolCountsWrong : ChangeSpec := { name := "fnExactPoolCounts", fn := fun _ => fun
  | [d] => { results := [.lit (.bool false)], args := [d] }
  | _ => none }
def FnExactPoolCountsWrongFalsely : Prop := fnExactPoolCountsRow.holds Tryz.pinned (OpenSpec.ofChange fnExactPoolCountsWrong)

/- THE SECOND FORM. 'bulk': how many values and letters a reading holds, each counted each time it is reached (what is shared counts as often as it is met; a slice's spare places count too). A statement '..UptoSaid' is the law's where the arguments, and the package variables that the reading takes, are together of bulk at most 1048576: NARROWER than '..Said'. Prove '..Said' where nothing that the law and all that it calls make is longer than what came in: it says more and counts as full. Else prove '..UptoSaid'. A law counts once. -/
mutual
def uptoBulk {H : Type} : DataW H → Nat
  | .lit (.string bytes) => bytes.length + 1
  | .lit _ => 1
  | .nil => 1
  | .ptr d => uptoBulk d + 1
  | .slice elems spare => uptoBulkAll elems + uptoBulkAll spare + 1
  | .agg parts => uptoBulkAll parts + 1
  | .iface _ d => uptoBulk d + 1
  | .map entries => uptoBulkEntries entries + 1
  | .held _ => 1
def uptoBulkAll {H : Type} : List (DataW H) → Nat
  | [] => 0
  | d :: r => uptoBulk d + uptoBulkAll r
def uptoBulkEntries {H : Type} : List (Lit × DataW H) → Nat
  | [] => 0
  | x :: r => uptoBulkEntry x + uptoBulkEntries r
def uptoBulkEntry {H : Type} : Lit × DataW H → Nat
  | (.string bytes, d) => bytes.length + uptoBulk d + 1
  | (_, d) => uptoBulk d + 1
 end
def uptoSmall : (H : Type) → List (DataW H) → Bool := fun _ ds => decide (uptoBulkAll ds ≤ 1048576)
def OpenSpec.upto (s : _root_.Go.ChangeSpec) : _root_.Go.OpenSpec := { _root_.Go.OpenSpec.ofChange s with cond := some uptoSmall }

/-- 'laws.FnExactValidPool', WHERE WHAT IT READS IS OF BULK AT MOST 1048576: true; the input reads as it did. -/
def fnExactValidPoolUptoRow : OpenClaim := { program := "ythciaodffkbljaagreat", sum := "f678d1846c3ed64cc7feffa4417f41d1ad454485de5c9cd962023d8e00e14cee", func := "loop.example/g01074/laws.FnExactValidPool", spec := "fnExactValidPool", unfollowed := true, recurses := true, apart := false, narrowed := true }
def FnExactValidPoolUptoSaid : Prop := fnExactValidPoolUptoRow.holds Tryz.pinned (OpenSpec.upto fnExactValidPoolSpec)

/-- 'laws.FnExactIsPoolDone', WHERE WHAT IT READS IS OF BULK AT MOST 1048576: true; the input reads as it did. -/
def fnExactIsPoolDoneUptoRow : OpenClaim := { program := "ythciaodffkbljaagreat", sum := "f678d1846c3ed64cc7feffa4417f41d1ad454485de5c9cd962023d8e00e14cee", func := "loop.example/g01074/laws.FnExactIsPoolDone", spec := "fnExactIsPoolDone", unfollowed := true, recurses := true, apart := false, narrowed := true }
def FnExactIsPoolDoneUptoSaid : Prop := fnExactIsPoolDoneUptoRow.holds Tryz.pinned (OpenSpec.upto fnExactIsPoolDoneSpec)

/-- 'laws.FnExactNewDebugger', WHERE WHAT IT READS IS OF BULK AT MOST 1048576: true; the input reads as it did. -/
def fnExactNewDebuggerUptoRow : OpenClaim := { program := "ythciaodffkbljaagreat", sum := "f678d1846c3ed64cc7feffa4417f41d1ad454485de5c9cd962023d8e00e14cee", func := "loop.example/g01074/laws.FnExactNewDebugger", spec := "fnExactNewDebugger", unfollowed := true, recurses := true, apart := false, narrowed := true }
def FnExactNewDebuggerUptoSaid : Prop := fnExactNewDebuggerUptoRow.holds Tryz.pinned (OpenSpec.upto fnExactNewDebuggerSpec)

/-- 'laws.FnExactPoolCounts', WHERE WHAT IT READS IS OF BULK AT MOST 1048576: true; the input reads as it did. -/
def fnExactPoolCountsUptoRow : OpenClaim := { program := "ythciaodffkbljaagreat", sum := "f678d1846c3ed64cc7feffa4417f41d1ad454485de5c9cd962023d8e00e14cee", func := "loop.example/g01074/laws.FnExactPoolCounts", spec := "fnExactPoolCounts", unfollowed := true, recurses := true, apart := false, narrowed := true }
def FnExactPoolCountsUptoSaid : Prop := fnExactPoolCountsUptoRow.holds Tryz.pinned (OpenSpec.upto fnExactPoolCountsSpec)

end Rows
end Go.Proofs.YthciaodffkbljaaGreat
