/-
  No cell of these rows narrows 'for every input' (looked for: loops, veiled, ifaces, maps, wideKeys, modest, calm, conditions, laid).
  DERIVED. THE GIVEN ROWS OF THIS SEAT. 2 by the template 'for every input the law returns true; each argument reads behind the call as it read before'; 0 by the template 'total and deterministic' (their statements: YtbakpddomlgjbaaTotals.lean).
  GIVEN WITH THE SEED: the statements are not yours to turn. If you find one false, say at which input.
  Laid BY PROGRAM, IN A SANDBOX (cutbox-rows.mjs): the forced cells as the released guide's own fill.sh prints them over the translation 5dc62b48beec19f1… (all of the seat's roots in one cut). By AI agents, Wed Nov 11 2026. No macro, syntax, notation, axiom, sorry.
-/
import Derived.Test.YtbakpddomlgjbaaChecked
import GoSem.Claim
import GoSem.ClaimJoined
import GoSem.ClaimMapViews
import Derived.JoinedTies
import Derived.KernelRfl
namespace Go.Proofs.Ytbakpddomlgjbaa
/- THE CELL 'sum', in the pinned program and in every row, IS THE sha256 OF THE DUMP (.gsa) THAT YtbakpddomlgjbaaProg.lean LOADS. Nothing in Lean hashes anything: it is a label: what it is worth is what the hold of that sum in a sandbox is worth. -/
noncomputable def Try.pinned : Pinned := { name := "ytbakpddomlgjbaa", sum := "5dc62b48beec19f184314f51ebc130b3a14a2ae6b5ab856463a31c4f894b50bc", checked := Try.checked }
namespace Rows
def none {H : Type} : Left H := { results := [], args := [] }

/-- 'laws.FnChannelEvents': WHATEVER THE INPUT: true; the input reads as it did. -/
def fnChannelEventsSpec : ChangeSpec := { name := "fnChannelEvents", fn := fun _ => fun
  | [d] => { results := [.lit (.bool true)], args := [d] }
  | _ => none }
def fnChannelEventsRow : OpenClaim := { program := "ytbakpddomlgjbaa", sum := "5dc62b48beec19f184314f51ebc130b3a14a2ae6b5ab856463a31c4f894b50bc", func := "loop.example/g01074/laws.FnChannelEvents", spec := "fnChannelEvents", inPlace := ["slices.overlaps[loop.example/g01074/impl.Packet]"], unfollowed := true, recurses := true, apart := false }
def FnChannelEventsSaid : Prop := fnChannelEventsRow.holds Try.pinned (OpenSpec.ofChange fnChannelEventsSpec)

/-- ITS FALSE NEIGHBOUR: 'it returns false'. Refute it at one input. -/
def fnChannelEventsWrong : ChangeSpec := { name := "fnChannelEvents", fn := fun _ => fun
  | [d] => { results := [.lit (.bool false)], args := [d] }
  | _ => none }
def FnChannelEventsWrongFalsely : Prop := fnChannelEventsRow.holds Try.pinned (OpenSpec.ofChange fnChannelEventsWrong)

/-- 'laws.FnChannel': WHATEVER THE INPUT: true; the input reads as it did. -/
def fnChannelSpec : ChangeSpec := { name := "fnChannel", fn := fun _ => fun
  | [d1, d2] => { results := [.lit (.bool true)], args := [d1, d2] }
  | _ => none }
def fnChannelRow : OpenClaim := { program := "ytbakpddomlgjbaa", sum := "5dc62b48beec19f184314f51ebc130b3a14a2ae6b5ab856463a31c4f894b50bc", func := "loop.example/g01074/laws.FnChannel", spec := "fnChannel", inPlace := ["slices.overlaps[loop.example/g01074/impl.Packet]"], unfollowed := true, recurses := true, apart := false }
def FnChannelSaid : Prop := fnChannelRow.holds Try.pinned (OpenSpec.ofChange fnChannelSpec)

/-- ITS FALSE NEIGHBOUR: 'it returns false'. Refute it at one input. -/
def fnChannelWrong : ChangeSpec := { name := "fnChannel", fn := fun _ => fun
  | [d1, d2] => { results := [.lit (.bool false)], args := [d1, d2] }
  | _ => none }
def FnChannelWrongFalsely : Prop := fnChannelRow.holds Try.pinned (OpenSpec.ofChange fnChannelWrong)

/- THE SECOND FORM. 'bulk': how many values and letters a reading holds, each counted each time it is reached (what is shared counts as often as it is met; a slice's spare places count too). A statement '..UptoSaid' is the law's where the arguments, and the package variables that the reading takes, are together of bulk at most 1048576: NARROWER than '..Said'. Prove '..Said' where nothing that the law and all that it calls make is longer than what came in: it says more and counts as full. Else prove '..UptoSaid'. A law counts once. -/
mutual
def uptoBulk {H : Type} : DataW H → Nat
  | .lit (.string bytes) => bytes.length + 1
  | .lit _ => 1
  | .nil => 1
  | .ptr d => uptoBulk d + 1
  | .slice elems spare => uptoBulkAll elems + uptoBulkAll spare + 1
  | .agg parts => uptoBulkAll parts + 1
  | .iface _ d => uptoBulk d + 1
  | .map entries => uptoBulkEntries entries + 1
  | .held _ => 1
def uptoBulkAll {H : Type} : List (DataW H) → Nat
  | [] => 0
  | d :: r => uptoBulk d + uptoBulkAll r
def uptoBulkEntries {H : Type} : List (Lit × DataW H) → Nat
  | [] => 0
  | x :: r => uptoBulkEntry x + uptoBulkEntries r
def uptoBulkEntry {H : Type} : Lit × DataW H → Nat
  | (.string bytes, d) => bytes.length + uptoBulk d + 1
  | (_, d) => uptoBulk d + 1
 end
def uptoSmall : (H : Type) → List (DataW H) → Bool := fun _ ds => decide (uptoBulkAll ds ≤ 1048576)
def OpenSpec.upto (s : _root_.Go.ChangeSpec) : _root_.Go.OpenSpec := { _root_.Go.OpenSpec.ofChange s with cond := some uptoSmall }

/-- 'laws.FnChannelEvents', WHERE WHAT IT READS IS OF BULK AT MOST 1048576: true; the input reads as it did. -/
def fnChannelEventsUptoRow : OpenClaim := { program := "ytbakpddomlgjbaa", sum := "5dc62b48beec19f184314f51ebc130b3a14a2ae6b5ab856463a31c4f894b50bc", func := "loop.example/g01074/laws.FnChannelEvents", spec := "fnChannelEvents", inPlace := ["slices.overlaps[loop.example/g01074/impl.Packet]"], unfollowed := true, recurses := true, apart := false, narrowed := true }
def FnChannelEventsUptoSaid : Prop := fnChannelEventsUptoRow.holds Try.pinned (OpenSpec.upto fnChannelEventsSpec)

/-- 'laws.FnChannel', WHERE WHAT IT READS IS OF BULK AT MOST 1048576: true; the input reads as it did. -/
def fnChannelUptoRow : OpenClaim := { program := "ytbakpddomlgjbaa", sum := "5dc62b48beec19f184314f51ebc130b3a14a2ae6b5ab856463a31c4f894b50bc", func := "loop.example/g01074/laws.FnChannel", spec := "fnChannel", inPlace := ["slices.overlaps[loop.example/g01074/impl.Packet]"], unfollowed := true, recurses := true, apart := false, narrowed := true }
def FnChannelUptoSaid : Prop := fnChannelUptoRow.holds Try.pinned (OpenSpec.upto fnChannelSpec)

end Rows
end Go.Proofs.Ytbakpddomlgjbaa
