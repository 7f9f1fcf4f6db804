
/- The reference's nets: wires, new agents, holes. -/
import Derived.Test.YtdpclbjjmhkgiaaShort
import Derived.Test.YtdpclbjjmhkgiaaProg
import Derived.Test.YtdpclbjjmhkgiaaVti
import Derived.Test.YtdpclbjjmhkgiaaNw
set_option linter.unusedSimpArgs false
set_option linter.unusedVariables false
namespace Go.Proofs.Ytdpclbjjmhkgiaa
open Go Go.RowKit Go.Proofs Go.Tr
theorem Ld:bY Try.prog 37=true:=by kernel_rfl
theorem Le:bY Try.prog 36=true:=by kernel_rfl
set_option maxRecDepth 100000 in
theorem Xm(xs:List ah)(p:aB)(hp:aj xs p):bg Try.prog 36 [.rp kX xs,vP p] (vP (aD xs p)):=by
 obtain⟨p1,p2,p3,p4⟩:=hp;refine bg.intro (nt:=18) aS mixed Le Try.func36 rfl rfl rfl rfl rfl ?_;refine aI ⟨p1,p2⟩ ?_;refine aI ⟨p3,p4⟩ ?_;refine aI (by kernel_rfl) ?_;exact rfl
abbrev tA(xs:List ah)(us:List Value):List Tok:=[.bT 10000 25 [.sl 10001],.row 10001 64 5 aV xs us]
set_option maxRecDepth 100000 in
theorem Xa(xs:List ah)(us:List Value)(p q:aB)(hp:aj xs p)(hq:aj xs q):aC Try.prog 37 [.ptr 10000 0,vP p,vP q] (tA xs us) (.tup []) (tA (bf xs p q) us):=by
 refine aC.expose Ld ?_;intro us' hpre hlen
 skip
 have hq':aj (aO xs p q) q:=hq.set;obtain⟨p1,p2,p3,p4⟩:=hp;obtain⟨q1,q2,q3,q4⟩:=hq';have q2':q.1<(xs.length:Nat):=by rwa[dV]at q2
 refine aC.intro (nt:=32) aS mixed Ld Try.func37 rfl rfl rfl rfl rfl rfl ?_;refine aI ⟨p1,p2⟩ ?_;refine aI (Dn hlen p1 p2) ?_;refine aI ⟨p3,p4⟩ ?_;refine eI 10001 (aI ⟨⟨p1,p2,BL hlen p1 p2 (by decide)⟩,p3,p4⟩ ?_);refine aI (by kernel_rfl) ?_;refine aI ⟨q1,q2⟩ ?_;refine aI (Dn hlen q1 q2') ?_;refine aI ⟨q3,q4⟩ ?_;refine eI 10001 (aI ⟨⟨q1,q2,BL hlen q1 q2' (by decide)⟩,q3,q4⟩ ?_);refine aI (by kernel_rfl) ?_;refine fin [] (aI rfl ?_);exact⟨trivial,⟨rfl,trivial⟩,⟨rfl,hpre⟩,trivial⟩
theorem Xk(xs:List ah)(us:List Value)(p:aB)(hp:aj xs p):aC Try.prog 36 [.ptr 10000 0,vP p] (tA xs us) (vP (aD xs p)) (tA xs us):=
 aC.Cg aS [69,0] Le (Xm xs p hp) rfl
end Go.Proofs.Ytdpclbjjmhkgiaa
