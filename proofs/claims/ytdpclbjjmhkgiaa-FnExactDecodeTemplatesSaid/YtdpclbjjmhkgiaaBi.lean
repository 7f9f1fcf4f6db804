
/- Wires of a net, walked: the small functions of both sides. -/
import Derived.Test.YtdpclbjjmhkgiaaShort
import Derived.Test.YtdpclbjjmhkgiaaBh
import Derived.Test.YtdpclbjjmhkgiaaBj
set_option maxRecDepth 100000
set_option linter.unusedSimpArgs false
set_option linter.unusedVariables false
namespace Go.Proofs.Ytdpclbjjmhkgiaa
open Go Go.RowKit Go.Proofs Go.Tr
theorem Uk(p q:aB):bg Try.prog 64 [vP p,vP q] (.bool (jq p q)):=by
 refine bg.intro (nt:=24) aS mixed (by kernel_rfl) Try.func64 rfl rfl rfl rfl rfl ?_;show(bif decide (p.1<q.1)then true else(bif p.1==q.1 then decide (p.2<q.2)else false))=_;rw[aY,gG];rfl
def hasB(xs:List ah)(p:aB):Bool:=decide (0≤p.1)&&decide (p.1<(xs.length:Nat))&&decide (0≤p.2)&&decide (p.2<((ak xs p.1).2.2.2.2.length:Nat))
theorem sH{xs:List ah}{p:aB}:hasB xs p=true↔aj xs p:=by
 unfold hasB aj;simp only[Bool.and_eq_true,decide_eq_true_eq,and_assoc]
theorem Pn:bY Try.prog 65=true:=by kernel_rfl
theorem WU(xs:List ah)(p:aB):bg Try.prog 65 [.rsl aV xs,vP p] (.bool (hasB xs p)):=by
 refine bg.intro (nt:=32) aS mixed Pn Try.func65 rfl rfl rfl rfl rfl ?_;refine aI (fun q=> ?_) ?_
 ·have q':(bif bif decide (0≤p.1)then decide (p.1<(xs.length:Nat))else false then decide (0≤p.2)else false)=true:=q;rw[aY,aY,Bool.and_eq_true,Bool.and_eq_true,decide_eq_true_eq,decide_eq_true_eq]at q';exact q'.1
 refine aI (by kernel_rfl) ?_;show(bif bif bif decide (0≤p.1)then decide (p.1<(xs.length:Nat))else false then decide (0≤p.2)else false then decide (p.2<((ak xs p.1).2.2.2.2.length:Nat))else false)=hasB xs p;rw[aY,aY,aY];rfl
def uQ(xs:List ah):Prop:=xs.length≤1000000∧∀i:Nat,i<xs.length→(ak xs (i:Nat)).2.2.2.2.length≤4
theorem Lf:bY Try.prog 35=true:=by kernel_rfl
theorem Xo(xs:List ah)(hx:uQ xs)(p:aB):bg Try.prog 35 [.rsl aV xs,vP p] (.bool (hasB xs p)):=by
 obtain⟨hl,hp⟩:=hx
 have e1:iy p.1 0 (IntKind.i64.wrap (((xs.length:Nat):Int)-1))=(decide (0≤p.1)&&decide (p.1<(xs.length:Nat))):=by
  rw[IntWalk.i64_in _ (by omega)];unfold iy;rw[Bool.eq_iff_iff];simp only[Bool.and_eq_true,decide_eq_true_eq];omega
 refine bg.intro (nt:=24) aS mixed Lf Try.func35 rfl rfl rfl rfl rfl ?_;refine Or.inl (eI _ (aI (Ew _ _ _) ?_));refine aI (fun q=> ?_) ?_
 ·have q':iy p.1 0 (IntKind.i64.wrap (((xs.length:Nat):Int)-1))=true:=q;rw[e1,Bool.and_eq_true,decide_eq_true_eq,decide_eq_true_eq]at q';exact q'
 refine Or.inl (eI _ (aI (fun gg=>Ew _ _ _) ?_));refine aI (by kernel_rfl) ?_;show(bif iy p.1 0 (IntKind.i64.wrap (((xs.length:Nat):Int)-1))then iy p.2 0 (IntKind.i64.wrap ((((ak xs p.1).2.2.2.2.length:Nat):Int)-1))else false)=hasB xs p;rw[aY,e1];unfold hasB
 by_cases h:0≤p.1∧p.1<(xs.length:Nat)
 ·have h4:=hp p.1.toNat (by omega);rw[show((p.1.toNat:Nat):Int)=p.1 by omega]at h4;rw[IntWalk.i64_in _ (by omega),Bool.and_assoc (decide (0≤p.1)&&_)]
  congr 1
  unfold iy;rw[Bool.eq_iff_iff];simp only[Bool.and_eq_true,decide_eq_true_eq];omega
 ·have e:(decide (0≤p.1)&&decide (p.1<(xs.length:Nat)))=false:=by
   rw[←Bool.not_eq_true,Bool.and_eq_true,decide_eq_true_eq,decide_eq_true_eq];exact h
  rw[e];rfl
theorem EU:bY Try.prog 63=true:=by kernel_rfl
theorem Px(xs:List ah)(hx:uQ xs):aC Try.prog 63 [.rp kX xs] [] (.sl 10000) [.row 10000 60 2 aQ (bF xs) []]:=by
 obtain⟨hl,hp⟩:=hx;have hlen:=uD (pb:=fun _=>false) hp;refine aC.intro (nt:=32) aS mixed EU Try.func63 rfl rfl rfl rfl rfl rfl ?_;refine lp Nat (fun i=>[(3,.sl 20000),(12,.int .i64 (i:Nat))]) (fun i=>[.row 20000 60 2 aQ (sG (fun _=>false) xs i) []]) (fun i=>xs.length-i) (fun i=>i≤xs.length) 0 (Nat.zero_le _) ?_ ?_
 ·exact vo [⟨3,30000,60,2,aQ⟩] [(20000,30000)] rfl (aI ⟨rfl,⟨rfl,rfl⟩,trivial⟩ ⟨⟨rfl,nP⟩,trivial⟩)
 intro i hi;refine aI (fun q1=> ?_) (fun q1=> ?_)
 ·have hlt:=qM q1;have hpi:=hp i hlt;have hli:=hlen i hi;refine aI ⟨by omega,by omega⟩ ?_;refine lp Nat (fun k=>[(3,.sl 21000),(20,.int .i64 (k:Nat))]) (fun k=>[.bT 5 64 [.int .i64 (ak xs (i:Nat)).1,.int .i64 (ak xs (i:Nat)).2.1,.int .i64 (ak xs (i:Nat)).2.2.1,.rsl (.int .i64) (ak xs (i:Nat)).2.2.2.1,.rsl aQ (ak xs (i:Nat)).2.2.2.2],.row 21000 60 2 aQ (zK (fun _=>false) i k (sG (fun _=>false) xs i)) []]) (fun k=>(ak xs (i:Nat)).2.2.2.2.length-k) (fun k=>k≤(ak xs (i:Nat)).2.2.2.2.length) 0 (Nat.zero_le _) ?_ ?_
  ·refine hd [(21000,20000)] rfl (aI rfl ⟨⟨rfl,rfl⟩,trivial⟩) ?_;exact⟨trivial,⟨⟨rfl,rfl⟩,⟨rfl,rfl⟩,⟨rfl,rfl⟩,rfl,rfl,trivial⟩,⟨rfl,nP⟩,trivial⟩
  intro k hk;refine aI (fun q2=> ?_) (fun q2=> ?_)
  ·have hk2:k<(ak xs (i:Nat)).2.2.2.2.length:=qM q2;have hkl:=Ef i k (sG (fun _=>false) xs i);have hll:=Ed (fun _=>false) i (sG (fun _=>false) xs i) k;refine aI (by show(zK (fun _=>false) i k (sG (fun _=>false) xs i)).length+1≤_;omega) ?_;refine aK (k+1) hk2 ?_ (by show(ak xs (i:Nat)).2.2.2.2.length-(k+1)<(ak xs (i:Nat)).2.2.2.2.length-k;omega);rw[hkl];refine hd [(21000,28)] rfl (aI rfl ⟨⟨bD (by omega),rfl⟩,trivial⟩) ?_;exact⟨trivial,⟨⟨rfl,rfl⟩,⟨rfl,rfl⟩,⟨rfl,rfl⟩,rfl,rfl,trivial⟩,⟨rfl,nP⟩,trivial⟩
  have hk2:(ak xs (i:Nat)).2.2.2.2.length≤k:=qI q2;have hke:k=(ak xs (i:Nat)).2.2.2.2.length:=Nat.le_antisymm hk hk2;subst hke;refine aK (i+1) hlt ?_ (by show xs.length-(i+1)<xs.length-i;omega);exact hd [(20000,21000)] rfl (aI rfl ⟨⟨bD (by omega),rfl⟩,trivial⟩) ⟨⟨rfl,nP⟩,trivial⟩
 have hge:i=xs.length:=Nat.le_antisymm hi (qI q1);subst hge;exact fin [(10000,20000)] (aI rfl ⟨⟨rfl,nP⟩,trivial⟩)
end Go.Proofs.Ytdpclbjjmhkgiaa
