
/- A net is made again of its wires: the program's FromWires, walked. -/
import Derived.Test.YtdpclbjjmhkgiaaShort
import Derived.Test.YtdpclbjjmhkgiaaBk
import Derived.Test.YtdpclbjjmhkgiaaRa
import Derived.Test.YtdpclbjjmhkgiaaOa
set_option linter.unusedSimpArgs false
set_option linter.unusedVariables false
set_option linter.unusedSectionVars false
namespace Go.Proofs.Ytdpclbjjmhkgiaa
open Go Go.RowKit Go.Proofs Go.Tr
def IB(l:List aB):List ((Int×Int)×Bool):=l.map fun p=>(p,true)
theorem Bh(q:aB):∀l:List aB,tH (IB l) q=decide (q∈l)
 |[]=>rfl
 |p::l=>by
  have ih:=Bh q l;show(bif p.1==q.1&&p.2==q.2 then true else tH (IB l) q)=_;rw[ih]
  by_cases h:p=q
  ·subst h;simp
  ·have e:(p.1==q.1&&p.2==q.2)=false:=by
    rw[←Bool.not_eq_true,Bool.and_eq_true,beq_iff_eq,beq_iff_eq];exact fun⟨a,b⟩=>h (Prod.ext a b)
   rw[e];simp[Ne.symm h]
theorem Bj(q:aB):∀l:List aB,q∉l→xg (IB l) q true=IB (l++[q])
 |[],_=>rfl
 |p::l,h=>by
  rw[List.mem_cons,not_or]at h;have ih:=Bj q l h.2;show(bif p.1==q.1&&p.2==q.2 then(p,true)::IB l else(p,true)::xg (IB l) q true)=_
  have e:(p.1==q.1&&p.2==q.2)=false:=by
   rw[←Bool.not_eq_true,Bool.and_eq_true,beq_iff_eq,beq_iff_eq];exact fun⟨a,b⟩=>h.1 (Prod.ext a.symm b.symm)
  rw[e,ih];rfl
section
variable {xs:List ah}{m:List SC}(h:fE (fun p=>aj xs p) xs)(hm:WOk xs m)
include h hm
end
theorem G6:bY Try.prog 66=true:=by kernel_rfl
set_option maxRecDepth 100000 in
theorem Vp(xs:List ah)(us:List Value)(p q:aB)(hp:aj xs p)(hq:aj xs q):aC Try.prog 66 [.ptr 10000 0,vP p,vP q] (tA xs us) (.tup []) (tA (bf xs p q) us):=by
 refine aC.expose G6 ?_;intro us' hpre hlen
 skip
 have hq':aj (aO xs p q) q:=hq.set;obtain⟨p1,p2,p3,p4⟩:=hp;obtain⟨q1,q2,q3,q4⟩:=hq';have q2':q.1<(xs.length:Nat):=by rwa[dV]at q2
 refine aC.intro (nt:=32) aS mixed G6 Try.func66 rfl rfl rfl rfl rfl rfl ?_;refine aI ⟨p1,p2⟩ ?_;refine aI (Dn hlen p1 p2) ?_;refine aI ⟨p3,p4⟩ ?_;refine eI 10001 (aI ⟨⟨p1,p2,BL hlen p1 p2 (by decide)⟩,p3,p4⟩ ?_);refine aI (by kernel_rfl) ?_;refine aI ⟨q1,q2⟩ ?_;refine aI (Dn hlen q1 q2') ?_;refine aI ⟨q3,q4⟩ ?_;refine eI 10001 (aI ⟨⟨q1,q2,BL hlen q1 q2' (by decide)⟩,q3,q4⟩ ?_);refine aI (by kernel_rfl) ?_;refine fin [] (aI rfl ?_);exact⟨trivial,⟨rfl,trivial⟩,⟨rfl,hpre⟩,trivial⟩
theorem Vz{xs:List ah}(h:uQ xs)(us:List Value):aC Try.prog 63 [.ptr 10000 0] (tA xs us) (.sl 10002) (.row 10002 60 2 aQ (bF xs) []::tA xs us):=
 aC.Jo (r2:=.sl 10002) (ts2:=[.row 10002 60 2 aQ (bF xs) []]) aS [69] EU (Px xs h) rfl rfl rfl
end Go.Proofs.Ytdpclbjjmhkgiaa
