
/- Draws: one of some, an element of a list. -/
import Derived.Test.YtbakpddomlgjbaaLa
set_option linter.unusedSimpArgs false
set_option linter.unusedVariables false
namespace Go.Proofs.Ytbakpddomlgjbaa
open Go Go.RowKit Go.Proofs Go.Tr
section
variable (code:List Int)(d:DS)
theorem JU(hb:Bytes code)(hk:d.k<=99999999)(n:Int):au Try.prog 54 [.ptr 10000 0,.int .i64 n] (iX code d) (.bool ((pk code d n).1==0)) (iX code (pk code d n).2):=by
 refine au.intro (nt:=9) aC mixed (by kernel_rfl) Try.func54 rfl rfl rfl rfl rfl rfl ?_;refine oY (fB code d hb hk n) ?_;refine fin [] (aI rfl ?_);exact⟨trivial,⟨rfl,⟨rfl,rfl⟩,⟨rfl,rfl⟩,trivial⟩,trivial⟩
theorem Lm(hb:Bytes code)(hk:d.k<=99999999)(xs:List (El (.int .i64)))(h1:1<=xs.length)(h2:xs.length<=1000000):au Try.prog 72 [.ptr 10000 0,.sl 10001] (iX code d++[.row 10001 2 1 (.int .i64) xs []]) (.int .i64 (elt (0:Int) xs (pk code d (xs.length:Nat)).1)) (iX code (pk code d (xs.length:Nat)).2++[.row 10001 2 1 (.int .i64) xs []]):=by
 refine au.intro (nt:=12) aC mixed (by kernel_rfl) Try.func72 rfl rfl rfl rfl rfl rfl ?_;refine oY (fB code d hb hk (xs.length:Nat)) ?_;have h3:=pW hb d (xs.length:Nat);have h4:=jI hb d (n:=(xs.length:Nat)) (by omega);refine aI (show 0<=(pk code d (xs.length:Nat)).1/\(pk code d (xs.length:Nat)).1<(xs.length:Nat) from⟨h3,h4⟩) ?_;refine fin [] (aI ⟨rfl,rfl⟩ ?_);exact⟨trivial,⟨rfl,⟨rfl,rfl⟩,⟨rfl,rfl⟩,trivial⟩,⟨rfl,nP⟩,trivial⟩
end
end Go.Proofs.Ytbakpddomlgjbaa
