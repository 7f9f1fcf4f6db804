
/- Known values, and the pair on which a value waits, on both sides. Printed by gen_hc.py. -/
import Derived.Test.YtcjhkgfmklgikaaGreatShort
import Derived.Test.YtcjhkgfmklgikaaGreatHb
import Derived.Test.YtcjhkgfmklgikaaGreatIp
import Derived.Test.YtcjhkgfmklgikaaGreatJh
set_option linter.unusedSimpArgs false
set_option linter.unusedVariables false
namespace Go.Tr
open Go Go.RowKit
def Dn(A:List aj):Nat→Int→List Int
 |0,_=>[]
 |n+1,a=>a::(bif (au A (a,0)).2==0 then[]else Dn A n (au A (a,0)).1)
def fU(A:List aj)(q:aD):Option (Int×Int):=bif q.2==0 then none else gF A A.length q.1
def way(A:List aj)(q:aD):List Int:=bif q.2==0 then[]else Dn A A.length q.1
def vW(A:List aj)(q:aD)(last:Int)(m:Nat):Option (Int×Int):=bif q.2==0 then(bif q.1==0 then none else some (last,q.1))else gF A m q.1
theorem ES(A:List aj)(q:aD)(last:Int)(m:Nat)(h:(q.2==0)=false):vW A q last (m+1)=vW A (au A (q.1,0)) q.1 m:=by
 unfold vW;rw[h];rfl
theorem Ka(A:List aj)(q:aD)(m:Nat)(h:(q.2==0)=false):(bif q.2==0 then[]else Dn A (m+1) q.1)=q.1::(bif (au A (q.1,0)).2==0 then[]else Dn A m (au A (q.1,0)).1):=by
 rw[h];rfl
end Go.Tr
namespace Go.Proofs.YtcjhkgfmklgikaaGreat
open Go Go.RowKit Go.Proofs Go.Tr
theorem Hg:bK Tryz.prog 86=true:=by kernel_rfl
theorem zy:bK Tryz.prog 48=true:=by kernel_rfl
set_option maxRecDepth 100000 in
theorem Qo(A:List aj)(p:aD)(hp:ak A p)(hq:ak A (au A p)):aN Tryz.prog 94 [.rp bO A,vP p] (.bool (fE A p)):=by
 refine aN.intro (nt:=26) aJ mixed (by kernel_rfl) Tryz.func94 rfl rfl rfl rfl rfl ?_;refine Or.inl (eI _ (aI (Bg A p hp) ?_));refine aI (show 0≤(au A p).1∧(au A p).1<(A.length:Nat) from⟨hq.1,hq.2.1⟩) ?_;refine aI (by kernel_rfl) ?_;refine aI (fun k0=> ?_) (fun k0=> ?_)
 ·refine aI (fun z0=> ?_) (fun z0=> ?_)
  ·have y0:((ah A (au A p).1).1==2)=true:=k0;have e:nD (ah A (au A p).1).1=true:=by unfold nD;rw[y0];rfl
   have e2:((au A p).2==0)=fE A p:=by unfold fE;rw[e];rfl
   exact e2
  ·exfalso;have y0:((ah A (au A p).1).1==2)=true:=k0;have w0:((ah A (au A p).1).1==2)=false:=z0;rw[y0]at w0;cases w0
 ·have y0:((ah A (au A p).1).1==2)=false:=k0;refine aI (fun k1=> ?_) (fun k1=> ?_)
  ·refine aI (fun z1=> ?_) (fun z1=> ?_)
   ·have y1:((ah A (au A p).1).1==6)=true:=k1;have e:nD (ah A (au A p).1).1=true:=by unfold nD;rw[y0,y1];rfl
    have e2:((au A p).2==0)=fE A p:=by unfold fE;rw[e];rfl
    exact e2
   ·exfalso;have y1:((ah A (au A p).1).1==6)=true:=k1;have w1:((ah A (au A p).1).1==6)=false:=z1;rw[y1]at w1;cases w1
  ·have y1:((ah A (au A p).1).1==6)=false:=k1;refine aI (fun k2=> ?_) (fun k2=> ?_)
   ·refine aI (fun z2=> ?_) (fun z2=> ?_)
    ·have y2:((ah A (au A p).1).1==9)=true:=k2;have e:nD (ah A (au A p).1).1=true:=by unfold nD;rw[y0,y1,y2];rfl
     have e2:((au A p).2==0)=fE A p:=by unfold fE;rw[e];rfl
     exact e2
    ·exfalso;have y2:((ah A (au A p).1).1==9)=true:=k2;have w2:((ah A (au A p).1).1==9)=false:=z2;rw[y2]at w2;cases w2
   ·have y2:((ah A (au A p).1).1==9)=false:=k2;refine aI (fun k3=> ?_) (fun k3=> ?_)
    ·have y3:((ah A (au A p).1).1==12)=true:=k3;have e:nD (ah A (au A p).1).1=true:=by unfold nD;rw[y0,y1,y2,y3];rfl
     have e2:((au A p).2==0)=fE A p:=by unfold fE;rw[e];rfl
     exact e2
    ·have y3:((ah A (au A p).1).1==12)=false:=k3;have e:nD (ah A (au A p).1).1=false:=by unfold nD;rw[y0,y1,y2,y3];rfl
     have e2:false=fE A p:=by unfold fE;rw[e];rfl
     exact e2
set_option maxRecDepth 100000 in
theorem Wz(A:List aj)(p:aD)(hp:ak A p)(hq:ak A (au A p)):aN Tryz.prog 136 [.rp bO A,vP p] (.bool (fE A p)):=by
 refine aN.intro (nt:=26) aJ mixed (by kernel_rfl) Tryz.func136 rfl rfl rfl rfl rfl ?_;refine Or.inl (eI _ (aI (Bh A p hp) ?_));refine aI (fun q0=> ?_) (fun q0=> ?_)
 ·have h0:((au A p).2 !=0)=true:=q0;have h1:((au A p).2==0)=false:=by simpa using h0
  have e2:false=fE A p:=by unfold fE;rw[h1];cases nD (ah A (au A p).1).1<;>rfl
  exact e2
 have h00:((au A p).2 !=0)=false:=q0;have h0:((au A p).2==0)=true:=by simpa using h00
 refine aI (show 0≤(au A p).1∧(au A p).1<(A.length:Nat) from⟨hq.1,hq.2.1⟩) ?_;refine aI (by kernel_rfl) ?_;refine aI (fun k0=> ?_) (fun k0=> ?_)
 ·refine aI (fun z0=> ?_) (fun z0=> ?_)
  ·have y0:((ah A (au A p).1).1==2)=true:=k0;have e:nD (ah A (au A p).1).1=true:=by unfold nD;rw[y0];rfl
   have e2:true=fE A p:=by unfold fE;rw[e,h0];rfl
   exact e2
  ·exfalso;have y0:((ah A (au A p).1).1==2)=true:=k0;have w0:((ah A (au A p).1).1==2)=false:=z0;rw[y0]at w0;cases w0
 ·have y0:((ah A (au A p).1).1==2)=false:=k0;refine aI (fun k1=> ?_) (fun k1=> ?_)
  ·refine aI (fun z1=> ?_) (fun z1=> ?_)
   ·have y1:((ah A (au A p).1).1==6)=true:=k1;have e:nD (ah A (au A p).1).1=true:=by unfold nD;rw[y0,y1];rfl
    have e2:true=fE A p:=by unfold fE;rw[e,h0];rfl
    exact e2
   ·exfalso;have y1:((ah A (au A p).1).1==6)=true:=k1;have w1:((ah A (au A p).1).1==6)=false:=z1;rw[y1]at w1;cases w1
  ·have y1:((ah A (au A p).1).1==6)=false:=k1;refine aI (fun k2=> ?_) (fun k2=> ?_)
   ·refine aI (fun z2=> ?_) (fun z2=> ?_)
    ·have y2:((ah A (au A p).1).1==9)=true:=k2;have e:nD (ah A (au A p).1).1=true:=by unfold nD;rw[y0,y1,y2];rfl
     have e2:true=fE A p:=by unfold fE;rw[e,h0];rfl
     exact e2
    ·exfalso;have y2:((ah A (au A p).1).1==9)=true:=k2;have w2:((ah A (au A p).1).1==9)=false:=z2;rw[y2]at w2;cases w2
   ·have y2:((ah A (au A p).1).1==9)=false:=k2;refine aI (fun k3=> ?_) (fun k3=> ?_)
    ·have y3:((ah A (au A p).1).1==12)=true:=k3;have e:nD (ah A (au A p).1).1=true:=by unfold nD;rw[y0,y1,y2,y3];rfl
     have e2:true=fE A p:=by unfold fE;rw[e,h0];rfl
     exact e2
    ·have y3:((ah A (au A p).1).1==12)=false:=k3;have e:nD (ah A (au A p).1).1=false:=by unfold nD;rw[y0,y1,y2,y3];rfl
     have e2:false=fE A p:=by unfold fE;rw[e];rfl
     exact e2
end Go.Proofs.YtcjhkgfmklgikaaGreat
