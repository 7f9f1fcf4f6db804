
/- Draws: one of some, an element of a list. -/
import Derived.Test.YtnamelcmcikeoaaShort
import Derived.Test.YtnamelcmcikeoaaLa
set_option linter.unusedSimpArgs false
set_option linter.unusedVariables false
namespace Go.Proofs.Ytnamelcmcikeoaa
open Go Go.RowKit Go.Proofs Go.Tr
section
variable (code:List Int)(d:DS)
theorem KG(hb:Bytes code)(hk:d.k≤99999999)(n:Int):aH Try.prog 29 [.ptr 10000 0,.int .i64 n] (kE code d) (.bool ((pk code d n).1==0)) (kE code (pk code d n).2):=by
 refine aH.intro (nt:=9) aS mixed (by kernel_rfl) Try.func29 rfl rfl rfl rfl rfl rfl ?_;refine Or.inr (eI _ (eI _ (aI (bC code d hb hk n) ?_)));refine fin [] (aI rfl ?_);exact⟨trivial,⟨rfl,⟨rfl,rfl⟩,⟨rfl,rfl⟩,trivial⟩,trivial⟩
theorem tZ(hb:Bytes code)(hk:d.k≤99999999)(xs:List (El (.int .i64)))(h1:1≤xs.length)(h2:xs.length≤1000000):aH Try.prog 60 [.ptr 10000 0,.sl 10001] (kE code d++[.row 10001 2 1 (.int .i64) xs []]) (.int .i64 (elt (0:Int) xs (pk code d (xs.length:Nat)).1)) (kE code (pk code d (xs.length:Nat)).2++[.row 10001 2 1 (.int .i64) xs []]):=by
 refine aH.intro (nt:=12) aS mixed (by kernel_rfl) Try.func60 rfl rfl rfl rfl rfl rfl ?_;refine Or.inr (eI _ (eI _ (aI (bC code d hb hk (xs.length:Nat)) ?_)));have h3:=iy hb d (xs.length:Nat);have h4:=dP hb d (n:=(xs.length:Nat)) (by omega);refine aI (show 0≤(pk code d (xs.length:Nat)).1∧(pk code d (xs.length:Nat)).1<(xs.length:Nat) from⟨h3,h4⟩) ?_;refine fin [] (aI ⟨rfl,rfl⟩ ?_);exact⟨trivial,⟨rfl,⟨rfl,rfl⟩,⟨rfl,rfl⟩,trivial⟩,⟨rfl,nP⟩,trivial⟩
end
end Go.Proofs.Ytnamelcmcikeoaa
