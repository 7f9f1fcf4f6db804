
/- Lazy reductions: the reference's loop. Printed by gen_hl.py. -/
import Derived.Test.YtcjhkgfmklgikaaGreatHk
set_option linter.unusedSimpArgs false
set_option linter.unusedVariables false
set_option linter.unusedSectionVars false
namespace Go.Proofs.YtcjhkgfmklgikaaGreat
open Go Go.RowKit Go.Proofs Go.Tr
theorem aN.yh{P:Program}{f:Nat}{a b:List SV}{e:U}{r:SV}(h:aN P f (a++.rsl e []::b) r):aN P f (a++.raw (.slice none 0 0)::b) r:=
 ⟨h.1,fun cx β w fr vs hI hd=>h.2 cx β w fr vs hI (zY hd)⟩
theorem JK{P:List aj}(h:dH P):∀a:Int,0≤a→a<(P.length:Nat)→(ah P a).2.2.2.2.length≤1048576:=fun a h0 _=>by
 have:=(h.2 a.toNat).2;rw[show((a.toNat:Nat):Int)=a by omega]at this;exact this
theorem QM{A:List aj}{r:Bool×aD}(h:r.1=true):jK A r=((0,0),3):=by unfold jK;rw[h];rfl
theorem Ou{A:List aj}{r:Bool×aD}(h:r.1=false)(n:fU A (au A r.2)=none):jK A r=((0,0),5):=by unfold jK xO;rw[h,n];rfl
theorem wI{A:List aj}{r:Bool×aD}{X:Int×Int}(h:r.1=false)(n:fU A (au A r.2)=some X):jK A r=(OX X,0):=by unfold jK xO;rw[h,n];rfl
section
variable {P P':List aj}(er:P'=P)
include er
end
section
variable (bk:List (List aj))(xs:List aj)(st:Int)
end
end Go.Proofs.YtcjhkgfmklgikaaGreat
