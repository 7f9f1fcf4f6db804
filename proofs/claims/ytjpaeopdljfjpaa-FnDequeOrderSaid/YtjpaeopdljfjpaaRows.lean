/-
  No cell of these rows narrows 'for every input' (looked for: loops, veiled, ifaces, maps, wideKeys, modest, calm, conditions, laid).
  DERIVED. THE GIVEN ROWS OF THIS SEAT. 3 by the template 'for every input the law returns true; each argument reads behind the call as it read before'; 0 by the template 'total and deterministic' (their statements: YtjpaeopdljfjpaaTotals.lean).
  GIVEN WITH THE SEED: the statements are not yours to turn. If you find one false, say at which input.
  Laid BY PROGRAM, IN A SANDBOX (cutbox-rows.mjs): the forced cells as the released guide's own fill.sh prints them over the translation 442262af42794c54… (all of the seat's roots in one cut). By AI agents, Wed Nov 11 2026. No macro, syntax, notation, axiom, sorry.
-/
import Derived.Test.YtjpaeopdljfjpaaChecked
import GoSem.Claim
import GoSem.ClaimJoined
import GoSem.ClaimMapViews
import Derived.JoinedTies
import Derived.KernelRfl
namespace Go.Proofs.Ytjpaeopdljfjpaa
/- THE CELL 'sum', in the pinned program and in every row, IS THE sha256 OF THE DUMP (.gsa) THAT YtjpaeopdljfjpaaProg.lean LOADS. Nothing in Lean hashes anything: it is a label: what it is worth is what the hold of that sum in a sandbox is worth. -/
noncomputable def Try.pinned : Pinned := { name := "ytjpaeopdljfjpaa", sum := "442262af42794c54b5003a0ab0b3d75e08e466bd4ad6e818b561342faf1b82c5", checked := Try.checked }
namespace Rows
def none {H : Type} : Left H := { results := [], args := [] }

/-- 'laws.FnDequeOrder': WHATEVER THE INPUT: true; the input reads as it did. -/
def fnDequeOrderSpec : ChangeSpec := { name := "fnDequeOrder", fn := fun _ => fun
  | [d] => { results := [.lit (.bool true)], args := [d] }
  | _ => none }
def fnDequeOrderRow : OpenClaim := { program := "ytjpaeopdljfjpaa", sum := "442262af42794c54b5003a0ab0b3d75e08e466bd4ad6e818b561342faf1b82c5", func := "loop.example/g01074/laws.FnDequeOrder", spec := "fnDequeOrder", unfollowed := true, recurses := true, apart := false }
def FnDequeOrderSaid : Prop := fnDequeOrderRow.holds Try.pinned (OpenSpec.ofChange fnDequeOrderSpec)

/-- ITS FALSE NEIGHBOUR: 'it returns false'. Refute it at one input. -/
def fnDequeOrderWrong : ChangeSpec := { name := "fnDequeOrder", fn := fun _ => fun
  | [d] => { results := [.lit (.bool false)], args := [d] }
  | _ => none }
def FnDequeOrderWrongFalsely : Prop := fnDequeOrderRow.holds Try.pinned (OpenSpec.ofChange fnDequeOrderWrong)

/-- 'laws.FnExactStepDeque': WHATEVER THE INPUT: true; the input reads as it did. -/
def fnExactStepDequeSpec : ChangeSpec := { name := "fnExactStepDeque", fn := fun _ => fun
  | [d1, d2] => { results := [.lit (.bool true)], args := [d1, d2] }
  | _ => none }
def fnExactStepDequeRow : OpenClaim := { program := "ytjpaeopdljfjpaa", sum := "442262af42794c54b5003a0ab0b3d75e08e466bd4ad6e818b561342faf1b82c5", func := "loop.example/g01074/laws.FnExactStepDeque", spec := "fnExactStepDeque", unfollowed := true, recurses := true, apart := false }
def FnExactStepDequeSaid : Prop := fnExactStepDequeRow.holds Try.pinned (OpenSpec.ofChange fnExactStepDequeSpec)

/-- ITS FALSE NEIGHBOUR: 'it returns false'. Refute it at one input. -/
def fnExactStepDequeWrong : ChangeSpec := { name := "fnExactStepDeque", fn := fun _ => fun
  | [d1, d2] => { results := [.lit (.bool false)], args := [d1, d2] }
  | _ => none }
def FnExactStepDequeWrongFalsely : Prop := fnExactStepDequeRow.holds Try.pinned (OpenSpec.ofChange fnExactStepDequeWrong)

/-- 'laws.FnExactRunDeque': WHATEVER THE INPUT: true; the input reads as it did. -/
def fnExactRunDequeSpec : ChangeSpec := { name := "fnExactRunDeque", fn := fun _ => fun
  | [d1, d2] => { results := [.lit (.bool true)], args := [d1, d2] }
  | _ => none }
def fnExactRunDequeRow : OpenClaim := { program := "ytjpaeopdljfjpaa", sum := "442262af42794c54b5003a0ab0b3d75e08e466bd4ad6e818b561342faf1b82c5", func := "loop.example/g01074/laws.FnExactRunDeque", spec := "fnExactRunDeque", unfollowed := true, recurses := true, apart := false }
def FnExactRunDequeSaid : Prop := fnExactRunDequeRow.holds Try.pinned (OpenSpec.ofChange fnExactRunDequeSpec)

/-- ITS FALSE NEIGHBOUR: 'it returns false'. Refute it at one input. -/
def fnExactRunDequeWrong : ChangeSpec := { name := "fnExactRunDeque", fn := fun _ => fun
  | [d1, d2] => { results := [.lit (.bool false)], args := [d1, d2] }
  | _ => none }
def FnExactRunDequeWrongFalsely : Prop := fnExactRunDequeRow.holds Try.pinned (OpenSpec.ofChange fnExactRunDequeWrong)

/- THE SECOND FORM. 'bulk': how many values and letters a reading holds, each counted each time it is reached (what is shared counts as often as it is met; a slice's spare places count too). A statement '..UptoSaid' is the law's where the arguments, and the package variables that the reading takes, are together of bulk at most 1048576: NARROWER than '..Said'. Prove '..Said' where nothing that the law and all that it calls make is longer than what came in: it says more and counts as full. Else prove '..UptoSaid'. A law counts once. -/
mutual
def uptoBulk {H : Type} : DataW H → Nat
  | .lit (.string bytes) => bytes.length + 1
  | .lit _ => 1
  | .nil => 1
  | .ptr d => uptoBulk d + 1
  | .slice elems spare => uptoBulkAll elems + uptoBulkAll spare + 1
  | .agg parts => uptoBulkAll parts + 1
  | .iface _ d => uptoBulk d + 1
  | .map entries => uptoBulkEntries entries + 1
  | .held _ => 1
def uptoBulkAll {H : Type} : List (DataW H) → Nat
  | [] => 0
  | d :: r => uptoBulk d + uptoBulkAll r
def uptoBulkEntries {H : Type} : List (Lit × DataW H) → Nat
  | [] => 0
  | x :: r => uptoBulkEntry x + uptoBulkEntries r
def uptoBulkEntry {H : Type} : Lit × DataW H → Nat
  | (.string bytes, d) => bytes.length + uptoBulk d + 1
  | (_, d) => uptoBulk d + 1
 end
def uptoSmall : (H : Type) → List (DataW H) → Bool := fun _ ds => decide (uptoBulkAll ds ≤ 1048576)
def OpenSpec.upto (s : _root_.Go.ChangeSpec) : _root_.Go.OpenSpec := { _root_.Go.OpenSpec.ofChange s with cond := some uptoSmall }

/-- 'laws.FnDequeOrder', WHERE WHAT IT READS IS OF BULK AT MOST 1048576: true; the input reads as it did. -/
def fnDequeOrderUptoRow : OpenClaim := { program := "ytjpaeopdljfjpaa", sum := "442262af42794c54b5003a0ab0b3d75e08e466bd4ad6e818b561342faf1b82c5", func := "loop.example/g01074/laws.FnDequeOrder", spec := "fnDequeOrder", unfollowed := true, recurses := true, apart := false, narrowed := true }
def FnDequeOrderUptoSaid : Prop := fnDequeOrderUptoRow.holds Try.pinned (OpenSpec.upto fnDequeOrderSpec)

/-- 'laws.FnExactStepDeque', WHERE WHAT IT READS IS OF BULK AT MOST 1048576: true; the input reads as it did. -/
def fnExactStepDequeUptoRow : OpenClaim := { program := "ytjpaeopdljfjpaa", sum := "442262af42794c54b5003a0ab0b3d75e08e466bd4ad6e818b561342faf1b82c5", func := "loop.example/g01074/laws.FnExactStepDeque", spec := "fnExactStepDeque", unfollowed := true, recurses := true, apart := false, narrowed := true }
def FnExactStepDequeUptoSaid : Prop := fnExactStepDequeUptoRow.holds Try.pinned (OpenSpec.upto fnExactStepDequeSpec)

/-- 'laws.FnExactRunDeque', WHERE WHAT IT READS IS OF BULK AT MOST 1048576: true; the input reads as it did. -/
def fnExactRunDequeUptoRow : OpenClaim := { program := "ytjpaeopdljfjpaa", sum := "442262af42794c54b5003a0ab0b3d75e08e466bd4ad6e818b561342faf1b82c5", func := "loop.example/g01074/laws.FnExactRunDeque", spec := "fnExactRunDeque", unfollowed := true, recurses := true, apart := false, narrowed := true }
def FnExactRunDequeUptoSaid : Prop := fnExactRunDequeUptoRow.holds Try.pinned (OpenSpec.upto fnExactRunDequeSpec)

end Rows
end Go.Proofs.Ytjpaeopdljfjpaa
