
/- Known values, and the pair on which a value waits, on both sides. Printed by gen_hc.py. -/
import Derived.Test.YtjijpkphkicoeaaGreatShort
import Derived.Test.YtjijpkphkicoeaaGreatHb
import Derived.Test.YtjijpkphkicoeaaGreatIo
import Derived.Test.YtjijpkphkicoeaaGreatJh
set_option linter.unusedSimpArgs false
set_option linter.unusedVariables false
namespace Go.Tr
open Go Go.RowKit
def DC(A:List aj):Nat→Int→List Int
 |0,_=>[]
 |n+1,a=>a::(bif (au A (a,0)).2==0 then[]else DC A n (au A (a,0)).1)
def fF(A:List aj)(q:aF):Option (Int×Int):=bif q.2==0 then none else fV A A.length q.1
def way(A:List aj)(q:aF):List Int:=bif q.2==0 then[]else DC A A.length q.1
def vS(A:List aj)(q:aF)(last:Int)(m:Nat):Option (Int×Int):=bif q.2==0 then(bif q.1==0 then none else some (last,q.1))else fV A m q.1
theorem Fy(A:List aj)(q:aF)(last:Int)(m:Nat)(h:(q.2==0)=false):vS A q last (m+1)=vS A (au A (q.1,0)) q.1 m:=by
 unfold vS;rw[h];rfl
theorem K3(A:List aj)(q:aF)(m:Nat)(h:(q.2==0)=false):(bif q.2==0 then[]else DC A (m+1) q.1)=q.1::(bif (au A (q.1,0)).2==0 then[]else DC A m (au A (q.1,0)).1):=by
 rw[h];rfl
end Go.Tr
namespace Go.Proofs.YtjijpkphkicoeaaGreat
open Go Go.RowKit Go.Proofs Go.Tr
theorem Iy:bH Tryz.prog 120=true:=by kernel_rfl
theorem zH:bH Tryz.prog 74=true:=by kernel_rfl
set_option maxRecDepth 100000 in
theorem Rm(A:List aj)(p:aF)(hp:ak A p)(hq:ak A (au A p)):aO Tryz.prog 81 [.rp aR A,vP p] (.bool (eU A p)):=by
 refine aO.intro (nt:=26) aH mixed (by kernel_rfl) Tryz.func81 rfl rfl rfl rfl rfl ?_;refine Or.inl (eI _ (aI (Bp A p hp) ?_));refine aI (show 0≤(au A p).1∧(au A p).1<(A.length:Nat) from⟨hq.1,hq.2.1⟩) ?_;refine aI (by kernel_rfl) ?_;refine aI (fun k0=> ?_) (fun k0=> ?_)
 ·refine aI (fun z0=> ?_) (fun z0=> ?_)
  ·have y0:((ah A (au A p).1).1==2)=true:=k0;have e:nk (ah A (au A p).1).1=true:=by unfold nk;rw[y0];rfl
   have e2:((au A p).2==0)=eU A p:=by unfold eU;rw[e];rfl
   exact e2
  ·exfalso;have y0:((ah A (au A p).1).1==2)=true:=k0;have w0:((ah A (au A p).1).1==2)=false:=z0;rw[y0]at w0;cases w0
 ·have y0:((ah A (au A p).1).1==2)=false:=k0;refine aI (fun k1=> ?_) (fun k1=> ?_)
  ·refine aI (fun z1=> ?_) (fun z1=> ?_)
   ·have y1:((ah A (au A p).1).1==6)=true:=k1;have e:nk (ah A (au A p).1).1=true:=by unfold nk;rw[y0,y1];rfl
    have e2:((au A p).2==0)=eU A p:=by unfold eU;rw[e];rfl
    exact e2
   ·exfalso;have y1:((ah A (au A p).1).1==6)=true:=k1;have w1:((ah A (au A p).1).1==6)=false:=z1;rw[y1]at w1;cases w1
  ·have y1:((ah A (au A p).1).1==6)=false:=k1;refine aI (fun k2=> ?_) (fun k2=> ?_)
   ·refine aI (fun z2=> ?_) (fun z2=> ?_)
    ·have y2:((ah A (au A p).1).1==9)=true:=k2;have e:nk (ah A (au A p).1).1=true:=by unfold nk;rw[y0,y1,y2];rfl
     have e2:((au A p).2==0)=eU A p:=by unfold eU;rw[e];rfl
     exact e2
    ·exfalso;have y2:((ah A (au A p).1).1==9)=true:=k2;have w2:((ah A (au A p).1).1==9)=false:=z2;rw[y2]at w2;cases w2
   ·have y2:((ah A (au A p).1).1==9)=false:=k2;refine aI (fun k3=> ?_) (fun k3=> ?_)
    ·have y3:((ah A (au A p).1).1==12)=true:=k3;have e:nk (ah A (au A p).1).1=true:=by unfold nk;rw[y0,y1,y2,y3];rfl
     have e2:((au A p).2==0)=eU A p:=by unfold eU;rw[e];rfl
     exact e2
    ·have y3:((ah A (au A p).1).1==12)=false:=k3;have e:nk (ah A (au A p).1).1=false:=by unfold nk;rw[y0,y1,y2,y3];rfl
     have e2:false=eU A p:=by unfold eU;rw[e];rfl
     exact e2
set_option maxRecDepth 100000 in
theorem X3(A:List aj)(p:aF)(hp:ak A p)(hq:ak A (au A p)):aO Tryz.prog 169 [.rp aR A,vP p] (.bool (eU A p)):=by
 refine aO.intro (nt:=26) aH mixed (by kernel_rfl) Tryz.func169 rfl rfl rfl rfl rfl ?_;refine Or.inl (eI _ (aI (Bq A p hp) ?_));refine aI (fun q0=> ?_) (fun q0=> ?_)
 ·have h0:((au A p).2 !=0)=true:=q0;have h1:((au A p).2==0)=false:=by simpa using h0
  have e2:false=eU A p:=by unfold eU;rw[h1];cases nk (ah A (au A p).1).1<;>rfl
  exact e2
 have h00:((au A p).2 !=0)=false:=q0;have h0:((au A p).2==0)=true:=by simpa using h00
 refine aI (show 0≤(au A p).1∧(au A p).1<(A.length:Nat) from⟨hq.1,hq.2.1⟩) ?_;refine aI (by kernel_rfl) ?_;refine aI (fun k0=> ?_) (fun k0=> ?_)
 ·refine aI (fun z0=> ?_) (fun z0=> ?_)
  ·have y0:((ah A (au A p).1).1==2)=true:=k0;have e:nk (ah A (au A p).1).1=true:=by unfold nk;rw[y0];rfl
   have e2:true=eU A p:=by unfold eU;rw[e,h0];rfl
   exact e2
  ·exfalso;have y0:((ah A (au A p).1).1==2)=true:=k0;have w0:((ah A (au A p).1).1==2)=false:=z0;rw[y0]at w0;cases w0
 ·have y0:((ah A (au A p).1).1==2)=false:=k0;refine aI (fun k1=> ?_) (fun k1=> ?_)
  ·refine aI (fun z1=> ?_) (fun z1=> ?_)
   ·have y1:((ah A (au A p).1).1==6)=true:=k1;have e:nk (ah A (au A p).1).1=true:=by unfold nk;rw[y0,y1];rfl
    have e2:true=eU A p:=by unfold eU;rw[e,h0];rfl
    exact e2
   ·exfalso;have y1:((ah A (au A p).1).1==6)=true:=k1;have w1:((ah A (au A p).1).1==6)=false:=z1;rw[y1]at w1;cases w1
  ·have y1:((ah A (au A p).1).1==6)=false:=k1;refine aI (fun k2=> ?_) (fun k2=> ?_)
   ·refine aI (fun z2=> ?_) (fun z2=> ?_)
    ·have y2:((ah A (au A p).1).1==9)=true:=k2;have e:nk (ah A (au A p).1).1=true:=by unfold nk;rw[y0,y1,y2];rfl
     have e2:true=eU A p:=by unfold eU;rw[e,h0];rfl
     exact e2
    ·exfalso;have y2:((ah A (au A p).1).1==9)=true:=k2;have w2:((ah A (au A p).1).1==9)=false:=z2;rw[y2]at w2;cases w2
   ·have y2:((ah A (au A p).1).1==9)=false:=k2;refine aI (fun k3=> ?_) (fun k3=> ?_)
    ·have y3:((ah A (au A p).1).1==12)=true:=k3;have e:nk (ah A (au A p).1).1=true:=by unfold nk;rw[y0,y1,y2,y3];rfl
     have e2:true=eU A p:=by unfold eU;rw[e,h0];rfl
     exact e2
    ·have y3:((ah A (au A p).1).1==12)=false:=k3;have e:nk (ah A (au A p).1).1=false:=by unfold nk;rw[y0,y1,y2,y3];rfl
     have e2:false=eU A p:=by unfold eU;rw[e];rfl
     exact e2
end Go.Proofs.YtjijpkphkicoeaaGreat
