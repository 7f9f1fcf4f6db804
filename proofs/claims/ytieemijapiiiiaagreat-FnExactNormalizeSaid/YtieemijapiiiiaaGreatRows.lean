/-
  NARROWER THAN 'FOR EVERY INPUT', by the rows' own cells (each row's printed sentence says how): FnExactStepCore: loops · FnExactNormalize: loops.
  DERIVED. THE GIVEN ROWS OF THIS SEAT. 2 by the template 'for every input the law returns true; each argument reads behind the call as it read before'; 0 by the template 'total and deterministic' (their statements: YtieemijapiiiiaaGreatTotals.lean).
  GIVEN WITH THE SEED: the statements are not yours to turn. If you find one false, say at which input.
  Laid BY PROGRAM, IN A SANDBOX (cutbox-rows.mjs): the forced cells as the released guide's own fill.sh prints them over the translation e8294752006bfb21… (all of the seat's roots in one cut). By AI agents, Wed Nov 11 2026. No macro, syntax, notation, axiom, sorry.
-/
import Derived.Test.YtieemijapiiiiaaGreatChecked
import GoSem.Claim
import GoSem.ClaimJoined
import GoSem.ClaimMapViews
import Derived.JoinedTies
import Derived.KernelRfl
namespace Go.Proofs.YtieemijapiiiiaaGreat
/- THE CELL 'sum', in the pinned program and in every row, IS THE sha256 OF THE DUMP (.gsa) THAT YtieemijapiiiiaaGreatProg.lean LOADS. Nothing in Lean hashes anything: it is a label: what it is worth is what the hold of that sum in a sandbox is worth. -/
noncomputable def Tryz.pinned : Pinned := { name := "ytieemijapiiiiaagreat", sum := "e8294752006bfb210ce6afee126807ff79148e693947ac41447c8819e78bd57d", checked := Tryz.checked }
namespace Rows
def none {H : Type} : Left H := { results := [], args := [] }

/-- 'laws.FnExactStepCore': WHATEVER THE INPUT: true; the input reads as it did. -/
def fnExactStepCoreSpec : ChangeSpec := { name := "fnExactStepCore", fn := fun _ => fun
  | [d1, d2] => { results := [.lit (.bool true)], args := [d1, d2] }
  | _ => none }
def fnExactStepCoreRow : OpenClaim := { program := "ytieemijapiiiiaagreat", sum := "e8294752006bfb210ce6afee126807ff79148e693947ac41447c8819e78bd57d", func := "loop.example/g01074/laws.FnExactStepCore", spec := "fnExactStepCore", unfollowed := true, recurses := true, loops := true, apart := false }
def FnExactStepCoreSaid : Prop := fnExactStepCoreRow.holds Tryz.pinned (OpenSpec.ofChange fnExactStepCoreSpec)

/-- ITS FALSE NEIGHBOUR: 'it returns false'. Refute it at one input. -/
def fnExactStepCoreWrong : ChangeSpec := { name := "fnExactStepCore", fn := fun _ => fun
  | [d1, d2] => { results := [.lit (.bool false)], args := [d1, d2] }
  | _ => none }
def FnExactStepCoreWrongFalsely : Prop := fnExactStepCoreRow.holds Tryz.pinned (OpenSpec.ofChange fnExactStepCoreWrong)

/-- 'laws.FnExactNormalize': WHATEVER THE INPUT: true; the input reads as it did. -/
def fnExactNormalizeSpec : ChangeSpec := { name := "fnExactNormalize", fn := fun _ => fun
  | [d1, d2, d3] => { results := [.lit (.bool true)], args := [d1, d2, d3] }
  | _ => none }
def fnExactNormalizeRow : OpenClaim := { program := "ytieemijapiiiiaagreat", sum := "e8294752006bfb210ce6afee126807ff79148e693947ac41447c8819e78bd57d", func := "loop.example/g01074/laws.FnExactNormalize", spec := "fnExactNormalize", unfollowed := true, recurses := true, loops := true, apart := false }
def FnExactNormalizeSaid : Prop := fnExactNormalizeRow.holds Tryz.pinned (OpenSpec.ofChange fnExactNormalizeSpec)

/-- ITS FALSE NEIGHBOUR: 'it returns false'. Refute it at one input. -/
def fnExactNormalizeWrong : ChangeSpec := { name := "fnExactNormalize", fn := fun _ => fun
  | [d1, d2, d3] => { results := [.lit (.bool false)], args := [d1, d2, d3] }
  | _ => none }
def FnExactNormalizeWrongFalsely : Prop := fnExactNormalizeRow.holds Tryz.pinned (OpenSpec.ofChange fnExactNormalizeWrong)

/- THE SECOND FORM. 'bulk': how many values and letters a reading holds, each counted each time it is reached (what is shared counts as often as it is met; a slice's spare places count too). A statement '..UptoSaid' is the law's where the arguments, and the package variables that the reading takes, are together of bulk at most 1048576: NARROWER than '..Said'. Prove '..Said' where nothing that the law and all that it calls make is longer than what came in: it says more and counts as full. Else prove '..UptoSaid'. A law counts once. -/
mutual
def uptoBulk {H : Type} : DataW H → Nat
  | .lit (.string bytes) => bytes.length + 1
  | .lit _ => 1
  | .nil => 1
  | .ptr d => uptoBulk d + 1
  | .slice elems spare => uptoBulkAll elems + uptoBulkAll spare + 1
  | .agg parts => uptoBulkAll parts + 1
  | .iface _ d => uptoBulk d + 1
  | .map entries => uptoBulkEntries entries + 1
  | .held _ => 1
def uptoBulkAll {H : Type} : List (DataW H) → Nat
  | [] => 0
  | d :: r => uptoBulk d + uptoBulkAll r
def uptoBulkEntries {H : Type} : List (Lit × DataW H) → Nat
  | [] => 0
  | x :: r => uptoBulkEntry x + uptoBulkEntries r
def uptoBulkEntry {H : Type} : Lit × DataW H → Nat
  | (.string bytes, d) => bytes.length + uptoBulk d + 1
  | (_, d) => uptoBulk d + 1
 end
def uptoSmall : (H : Type) → List (DataW H) → Bool := fun _ ds => decide (uptoBulkAll ds ≤ 1048576)
def OpenSpec.upto (s : _root_.Go.ChangeSpec) : _root_.Go.OpenSpec := { _root_.Go.OpenSpec.ofChange s with cond := some uptoSmall }

/-- 'laws.FnExactStepCore', WHERE WHAT IT READS IS OF BULK AT MOST 1048576: true; the input reads as it did. -/
def fnExactStepCoreUptoRow : OpenClaim := { program := "ytieemijapiiiiaagreat", sum := "e8294752006bfb210ce6afee126807ff79148e693947ac41447c8819e78bd57d", func := "loop.example/g01074/laws.FnExactStepCore", spec := "fnExactStepCore", unfollowed := true, recurses := true, loops := true, apart := false, narrowed := true }
def FnExactStepCoreUptoSaid : Prop := fnExactStepCoreUptoRow.holds Tryz.pinned (OpenSpec.upto fnExactStepCoreSpec)

/-- 'laws.FnExactNormalize', WHERE WHAT IT READS IS OF BULK AT MOST 1048576: true; the input reads as it did. -/
def fnExactNormalizeUptoRow : OpenClaim := { program := "ytieemijapiiiiaagreat", sum := "e8294752006bfb210ce6afee126807ff79148e693947ac41447c8819e78bd57d", func := "loop.example/g01074/laws.FnExactNormalize", spec := "fnExactNormalize", unfollowed := true, recurses := true, loops := true, apart := false, narrowed := true }
def FnExactNormalizeUptoSaid : Prop := fnExactNormalizeUptoRow.holds Tryz.pinned (OpenSpec.upto fnExactNormalizeSpec)

end Rows
end Go.Proofs.YtieemijapiiiiaaGreat
