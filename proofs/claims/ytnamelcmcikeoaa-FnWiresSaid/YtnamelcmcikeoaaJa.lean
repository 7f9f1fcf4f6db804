
/- The reference's nets: wires, new agents, holes. -/
import Derived.Test.YtnamelcmcikeoaaShort
import Derived.Test.YtnamelcmcikeoaaProg
import Derived.Test.YtnamelcmcikeoaaVti
import Derived.Test.YtnamelcmcikeoaaNw
set_option linter.unusedSimpArgs false
set_option linter.unusedVariables false
namespace Go.Proofs.Ytnamelcmcikeoaa
open Go Go.RowKit Go.Proofs Go.Tr
theorem Gu:bS Try.prog 42=true:=by kernel_rfl
theorem Gw:bS Try.prog 61=true:=by kernel_rfl
set_option maxRecDepth 100000 in
theorem Rb(xs:List ah)(p:aC)(hp:aj xs p):aP Try.prog 61 [.rp BD xs,vP p] (vP (aB xs p)):=by
 obtain⟨p1,p2,p3,p4⟩:=hp;refine aP.intro (nt:=18) aS mixed Gw Try.func61 rfl rfl rfl rfl rfl ?_;refine aI ⟨p1,p2⟩ ?_;refine aI ⟨p3,p4⟩ ?_;refine aI (by kernel_rfl) ?_;exact rfl
abbrev tA(xs:List ah)(us:List Value):List Tok:=[.aN 10000 26 [.sl 10001],.row 10001 34 5 aL xs us]
set_option maxRecDepth 100000 in
theorem mG(xs:List ah)(us:List Value)(p q:aC)(hp:aj xs p)(hq:aj xs q):aH Try.prog 42 [.ptr 10000 0,vP p,vP q] (tA xs us) (.tup []) (tA (aT xs p q) us):=by
 refine aH.expose Gu ?_;intro us' hpre hlen
 skip
 have hq':aj (aG xs p q) q:=hq.set;obtain⟨p1,p2,p3,p4⟩:=hp;obtain⟨q1,q2,q3,q4⟩:=hq';have q2':q.1<(xs.length:Nat):=by rwa[dF]at q2
 refine aH.intro (nt:=32) aS mixed Gu Try.func42 rfl rfl rfl rfl rfl rfl ?_;refine aI ⟨p1,p2⟩ ?_;refine aI (vM hlen p1 p2) ?_;refine aI ⟨p3,p4⟩ ?_;refine eI 10001 (aI ⟨⟨p1,p2,BF hlen p1 p2 (by decide)⟩,p3,p4⟩ ?_);refine aI (by kernel_rfl) ?_;refine aI ⟨q1,q2⟩ ?_;refine aI (vM hlen q1 q2') ?_;refine aI ⟨q3,q4⟩ ?_;refine eI 10001 (aI ⟨⟨q1,q2,BF hlen q1 q2' (by decide)⟩,q3,q4⟩ ?_);refine aI (by kernel_rfl) ?_;refine fin [] (aI rfl ?_);exact⟨trivial,⟨rfl,trivial⟩,⟨rfl,hpre⟩,trivial⟩
theorem Oc(xs:List ah)(us:List Value)(p:aC)(hp:aj xs p):aH Try.prog 61 [.ptr 10000 0,vP p] (tA xs us) (vP (aB xs p)) (tA xs us):=
 aH.IJ aS [54,0] Gw (Rb xs p hp) rfl
end Go.Proofs.Ytnamelcmcikeoaa
