
/- The reference's nets: wires, new agents, holes. -/
import Derived.Test.YtjpaeopdljfjpaaGreatShort
import Derived.Test.YtjpaeopdljfjpaaGreatProg
import Derived.Test.YtjpaeopdljfjpaaGreatVti
import Derived.Test.YtjpaeopdljfjpaaGreatNz
import Derived.Test.YtjpaeopdljfjpaaGreatIo
import Derived.Test.YtjpaeopdljfjpaaGreatVV
set_option linter.unusedSimpArgs false
set_option linter.unusedVariables false
set_option linter.unusedSectionVars false
namespace Go.Proofs.YtjpaeopdljfjpaaGreat
open Go Go.RowKit Go.Proofs Go.Tr
theorem Qq(xs:List Int)(hx:xs.length≤1048576):bg Tryz.prog 50 [.rsl (.int .i64) xs] [] (.sl 10000) [.row 10000 2 1 (.int .i64) xs []]:=by
 refine bg.intro (nt:=6) fJ mixed (by kernel_rfl) Tryz.func50 rfl rfl rfl rfl rfl rfl ?_;refine aI (by show 0+xs.length≤_;omega) ?_;refine fin [(10000,5)] (aI rfl ?_);exact⟨⟨rfl,nP⟩,trivial⟩
set_option maxRecDepth 100000 in
theorem Pb(x:ah)(h1:x.2.2.2.1.length≤1048576)(h2:x.2.2.2.2.length≤1048576):bg Tryz.prog 76 [.rp bf x] [] (.agg [.int .i64 x.1,.int .i64 x.2.1,.int .i64 x.2.2.1,.sl 10000,.sl 10001]) [.row 10000 2 1 (.int .i64) x.2.2.2.1 [],.row 10001 92 2 iO x.2.2.2.2 []]:=by
 refine bg.intro (nt:=27) fJ mixed (by kernel_rfl) Tryz.func76 rfl rfl rfl rfl rfl rfl ?_;refine Or.inr (eI _ (eI _ (aI (Qq _ h1) ?_)));refine aI (by show 0+x.2.2.2.2.length≤_;omega) ?_;refine aI (by kernel_rfl) ?_;refine fin [(10000,19),(10001,25)] (aI rfl ?_);exact⟨⟨rfl,nP⟩,⟨rfl,nP⟩,trivial⟩
section
variable (bk:List (List ah))(xs:List ah)(us:List Value)(a b:Int)(ha:0≤a∧a<(xs.length:Nat))(hb:0≤b∧b<(xs.length:Nat))(hs:∀i:Nat,fO (fP bk i))(hlx:xs.length≤800000)(hv:J5 (au xs (oQ xs a b).1) (au xs (oQ xs a b).2)=7→0≤(au xs (oQ xs a b).1).2.2.1)
include ha hb hs hlx hv
end
section
variable (bk:List (List ah))(xs:List ah)(us:List Value)(pk:Int)(tr:List Int)(a b:Int)(ha:0≤a∧a<(xs.length:Nat))(hb:0≤b∧b<(xs.length:Nat))(hs:∀i:Nat,fO (fP bk i))(hlx:xs.length≤800000)(hv:J5 (au xs (oQ xs a b).1) (au xs (oQ xs a b).2)=7→0≤(au xs (oQ xs a b).1).2.2.1)
include ha hb hs hlx hv
end
end Go.Proofs.YtjpaeopdljfjpaaGreat
namespace Go.Proofs.YtjpaeopdljfjpaaGreat
open Go Go.RowKit Go.Proofs Go.Tr
def Ls(xs:List ah)(k:Int):Bool:=bif cB k 0 ((xs.length:Int)-1)then(au xs k).1 !=0 else false
def Mf(xs:List ah)(a b:Int):Bool:=
 bif (bif decide (0<a)then decide (a<b)else false)then jQ [(elt (dflt iO) (au xs a).2.2.2.2 0).1,(elt (dflt iO) (au xs a).2.2.2.2 0).2] [b,0]else false
section
variable (bk:List (List ah))(xs:List ah)(us:List Value)(a b:Int)(ha:0≤a∧a<(xs.length:Nat))(hb:0≤b∧b<(xs.length:Nat))
include ha hb
end
end Go.Proofs.YtjpaeopdljfjpaaGreat
namespace Go.Proofs.YtjpaeopdljfjpaaGreat
open Go Go.RowKit Go.Proofs Go.Tr
section
variable (bk:List (List ah))(xs:List ah)(us:List Value)(e:tV)(hl:xs.length≤1000000)
include hl
variable (ha:Ls xs e.1=true)(hb:Ls xs e.2.1=true)(hp:0<(au xs e.1).2.2.2.2.length)
include ha hb hp
variable (h:Mf xs e.1 e.2.1=true)
include h
end
end Go.Proofs.YtjpaeopdljfjpaaGreat
