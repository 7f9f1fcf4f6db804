
/- Draws: one of some, an element of a list. -/
import Derived.Test.YtpdipfohnpopmaaDoorLa
set_option linter.unusedSimpArgs false
set_option linter.unusedVariables false
namespace Go.Proofs.YtpdipfohnpopmaaDoor
open Go Go.RowKit Go.Proofs Go.Tr
section
variable (code:List Int)(d:DS)
theorem wT(hb:Bytes code)(hk:d.k<=99999999)(n:Int):bD Tryd.prog 16 [.ptr 10000 0,.int .i64 n] (gY code d) (.bool ((pk code d n).1==0)) (gY code (pk code d n).2):=by
 refine bD.intro (nt:=9) aZ mixed (by kernel_rfl) Tryd.func16 rfl rfl rfl rfl rfl rfl ?_;refine oY (sO code d hb hk n) ?_;refine fin [] (aI rfl ?_);exact⟨trivial,⟨rfl,⟨rfl,rfl⟩,⟨rfl,rfl⟩,trivial⟩,trivial⟩
theorem xL(hb:Bytes code)(hk:d.k<=99999999)(xs:List (El (.int .i64)))(h1:1<=xs.length)(h2:xs.length<=1000000):bD Tryd.prog 35 [.ptr 10000 0,.sl 10001] (gY code d++[.row 10001 2 1 (.int .i64) xs []]) (.int .i64 (elt (0:Int) xs (pk code d (xs.length:Nat)).1)) (gY code (pk code d (xs.length:Nat)).2++[.row 10001 2 1 (.int .i64) xs []]):=by
 refine bD.intro (nt:=12) aZ mixed (by kernel_rfl) Tryd.func35 rfl rfl rfl rfl rfl rfl ?_;refine oY (sO code d hb hk (xs.length:Nat)) ?_;have h3:=sP hb d (xs.length:Nat);have h4:=kM hb d (n:=(xs.length:Nat)) (by omega);refine aI (show 0<=(pk code d (xs.length:Nat)).1/\(pk code d (xs.length:Nat)).1<(xs.length:Nat) from⟨h3,h4⟩) ?_;refine fin [] (aI ⟨rfl,rfl⟩ ?_);exact⟨trivial,⟨rfl,⟨rfl,rfl⟩,⟨rfl,rfl⟩,trivial⟩,⟨rfl,nP⟩,trivial⟩
end
end Go.Proofs.YtpdipfohnpopmaaDoor
