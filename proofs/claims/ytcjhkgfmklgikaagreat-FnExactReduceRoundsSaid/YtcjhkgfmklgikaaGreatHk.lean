
/- Lazy reductions: the program's loop. Printed by gen_hk.py. -/
import Derived.Test.YtcjhkgfmklgikaaGreatHj
import Derived.Test.YtcjhkgfmklgikaaGreatYr
set_option linter.unusedSimpArgs false
set_option linter.unusedVariables false
namespace Go.Proofs.YtcjhkgfmklgikaaGreat
open Go Go.RowKit Go.Proofs Go.Tr
theorem zY{cx:Cx}{β:Nat→Value}{e:U}{b:List SV}:∀{a:List SV} {vs:List Value},aM cx β (a++.raw (.slice none 0 0)::b) vs→aM cx β (a++.rsl e []::b) vs
 |[],vs,hd=>by
  obtain⟨v,vs',rfl,h1,h2⟩:=hd;refine⟨v,vs',rfl,?_,h2⟩;unfold Den at h1 ⊢;rw[h1.1];exact⟨[],T1.empty none,by simp⟩
 |x::a,vs,hd=>by
  obtain⟨v,vs',rfl,h1,h2⟩:=hd;exact⟨v,vs',rfl,h1,zY (a:=a) h2⟩
theorem aA.yh{P:Program}{f:Nat}{a b:List SV}{e:U}{ts ts':List Tok}{r:SV}(h:aA P f (a++.rsl e []::b) ts r ts'):aA P f (a++.raw (.slice none 0 0)::b) ts r ts':=
 ⟨h.1,fun cx β w fr vs hI hd=>h.2 cx β w fr vs hI (zY hd)⟩
section
variable (fl:Bool)(F:Nat)(bk:List (List aj))(xs:List aj)(st:Int)
end
end Go.Proofs.YtcjhkgfmklgikaaGreat
