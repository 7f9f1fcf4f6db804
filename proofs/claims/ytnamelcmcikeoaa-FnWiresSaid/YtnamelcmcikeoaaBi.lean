
/- Wires of a net, walked: the small functions of both sides. -/
import Derived.Test.YtnamelcmcikeoaaShort
import Derived.Test.YtnamelcmcikeoaaBh
import Derived.Test.YtnamelcmcikeoaaBj
set_option maxRecDepth 100000
set_option linter.unusedSimpArgs false
set_option linter.unusedVariables false
namespace Go.Proofs.Ytnamelcmcikeoaa
open Go Go.RowKit Go.Proofs Go.Tr
theorem R4(p q:aC):aP Try.prog 17 [vP p,vP q] (.bool (DZ p q)):=by
 refine aP.intro (nt:=24) aS mixed (by kernel_rfl) Try.func17 rfl rfl rfl rfl rfl ?_;show(bif decide (p.1<q.1)then true else(bif p.1==q.1 then decide (p.2<q.2)else false))=_;rw[jo,D5];rfl
theorem R5(p q:aC):aP Try.prog 34 [vP p,vP q] (.bool (DZ p q)):=by
 refine aP.intro (nt:=24) aS mixed (by kernel_rfl) Try.func34 rfl rfl rfl rfl rfl ?_;show(bif decide (p.1<q.1)then true else(bif p.1==q.1 then decide (p.2<q.2)else false))=_;rw[jo,D5];rfl
def hasB(xs:List ah)(p:aC):Bool:=decide (0≤p.1)&&decide (p.1<(xs.length:Nat))&&decide (0≤p.2)&&decide (p.2<((ak xs p.1).2.2.2.2.length:Nat))
theorem xA{xs:List ah}{p:aC}:hasB xs p=true↔aj xs p:=by
 unfold hasB aj;simp only[Bool.and_eq_true,decide_eq_true_eq,and_assoc]
theorem J9(xs:List ah)(p:aC):aP Try.prog 20 [.rsl aL xs,vP p] (.bool (hasB xs p)):=by
 refine aP.intro (nt:=32) aS mixed (by kernel_rfl) Try.func20 rfl rfl rfl rfl rfl ?_;refine aI (fun q=> ?_) ?_
 ·have q':(bif bif decide (0≤p.1)then decide (p.1<(xs.length:Nat))else false then decide (0≤p.2)else false)=true:=q;rw[jo,jo,Bool.and_eq_true,Bool.and_eq_true,decide_eq_true_eq,decide_eq_true_eq]at q';exact q'.1
 refine aI (by kernel_rfl) ?_;show(bif bif bif decide (0≤p.1)then decide (p.1<(xs.length:Nat))else false then decide (0≤p.2)else false then decide (p.2<((ak xs p.1).2.2.2.2.length:Nat))else false)=hasB xs p;rw[jo,jo,jo];rfl
def Hu(xs:List ah):Prop:=xs.length≤1000000∧∀i:Nat,i<xs.length→(ak xs (i:Nat)).2.2.2.2.length≤4
theorem Ba:bS Try.prog 15=true:=by kernel_rfl
theorem KL(xs:List ah)(hx:Hu xs):aH Try.prog 15 [.rp BD xs] [] (.sl 10000) [.row 10000 36 2 aO (fP xs) []]:=by
 obtain⟨hl,hp⟩:=hx;have hlen:=iW (pb:=fun _=>false) hp;refine aH.intro (nt:=32) aS mixed Ba Try.func15 rfl rfl rfl rfl rfl rfl ?_;refine lp Nat (fun i=>[(3,.sl 20000),(12,.int .i64 (i:Nat))]) (fun i=>[.row 20000 36 2 aO (eB (fun _=>false) xs i) []]) (fun i=>xs.length-i) (fun i=>i≤xs.length) 0 (Nat.zero_le _) ?_ ?_
 ·exact SC [⟨3,30000,36,2,aO⟩] [(20000,30000)] rfl (aI ⟨rfl,⟨rfl,rfl⟩,trivial⟩ ⟨⟨rfl,nP⟩,trivial⟩)
 intro i hi;refine aI (fun q1=> ?_) (fun q1=> ?_)
 ·have hlt:=yX q1;have hpi:=hp i hlt;have hli:=hlen i hi;refine aI ⟨by omega,by omega⟩ ?_;refine lp Nat (fun k=>[(3,.sl 21000),(20,.int .i64 (k:Nat))]) (fun k=>[.aN 5 34 [.int .i64 (ak xs (i:Nat)).1,.int .i64 (ak xs (i:Nat)).2.1,.int .i64 (ak xs (i:Nat)).2.2.1,.rsl (.int .i64) (ak xs (i:Nat)).2.2.2.1,.rsl aO (ak xs (i:Nat)).2.2.2.2],.row 21000 36 2 aO (fJ (fun _=>false) i k (eB (fun _=>false) xs i)) []]) (fun k=>(ak xs (i:Nat)).2.2.2.2.length-k) (fun k=>k≤(ak xs (i:Nat)).2.2.2.2.length) 0 (Nat.zero_le _) ?_ ?_
  ·refine hd [(21000,20000)] rfl (aI rfl ⟨⟨rfl,rfl⟩,trivial⟩) ?_;exact⟨trivial,⟨⟨rfl,rfl⟩,⟨rfl,rfl⟩,⟨rfl,rfl⟩,rfl,rfl,trivial⟩,⟨rfl,nP⟩,trivial⟩
  intro k hk;refine aI (fun q2=> ?_) (fun q2=> ?_)
  ·have hk2:k<(ak xs (i:Nat)).2.2.2.2.length:=yX q2;have hkl:=Ep i k (eB (fun _=>false) xs i);have hll:=mF (fun _=>false) i (eB (fun _=>false) xs i) k;refine aI (by show(fJ (fun _=>false) i k (eB (fun _=>false) xs i)).length+1≤_;omega) ?_;refine aJ (k+1) hk2 ?_ (by show(ak xs (i:Nat)).2.2.2.2.length-(k+1)<(ak xs (i:Nat)).2.2.2.2.length-k;omega);rw[hkl];refine hd [(21000,28)] rfl (aI rfl ⟨⟨eu (by omega),rfl⟩,trivial⟩) ?_;exact⟨trivial,⟨⟨rfl,rfl⟩,⟨rfl,rfl⟩,⟨rfl,rfl⟩,rfl,rfl,trivial⟩,⟨rfl,nP⟩,trivial⟩
  have hk2:(ak xs (i:Nat)).2.2.2.2.length≤k:=Cu q2;have hke:k=(ak xs (i:Nat)).2.2.2.2.length:=Nat.le_antisymm hk hk2;subst hke;refine aJ (i+1) hlt ?_ (by show xs.length-(i+1)<xs.length-i;omega);exact hd [(20000,21000)] rfl (aI rfl ⟨⟨eu (by omega),rfl⟩,trivial⟩) ⟨⟨rfl,nP⟩,trivial⟩
 have hge:i=xs.length:=Nat.le_antisymm hi (Cu q1);subst hge;exact fin [(10000,20000)] (aI rfl ⟨⟨rfl,nP⟩,trivial⟩)
end Go.Proofs.Ytnamelcmcikeoaa
