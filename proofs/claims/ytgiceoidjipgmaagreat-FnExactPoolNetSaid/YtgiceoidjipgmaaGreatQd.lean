
/- A pool's memory: two words are connected; by the program and by the reference. -/
import Derived.Test.YtgiceoidjipgmaaGreatShort
import Derived.Test.YtgiceoidjipgmaaGreatQc
set_option linter.unusedSimpArgs false
set_option linter.unusedVariables false
namespace Go.Proofs.YtgiceoidjipgmaaGreat
open Go Go.RowKit Go.Proofs Go.Tr
theorem qY(a b:Bool):(bif a then b else false)=(a&&b):=by cases a<;>rfl
theorem EL(x y:ay):jd [x.1,x.2] [y.1,y.2]=Kh x y:=by
 unfold Kh;simp[jd]
set_option maxHeartbeats 1000000 in
set_option maxRecDepth 100000 in
theorem Nt{xs:List ah}(m:bE)(us:List Value)(a b:ay)(h:lY xs m)(ha:bH xs a=true)(hb:bH xs b=true)(hr:m.2.2.2.length≤1000000):aC Tryz.prog 50 [.ptr 10000 0,vP a,vP b] (CY m us) (.tup []) (OG 10003 (vV m a b) []):=by
 obtain⟨h1,a1,g1⟩:=pJ h ha;obtain⟨h2,b1,g2⟩:=pJ h1 hb;have f1:=Ny m us a h ha;have f2:=Ny (fB m a).1 [] b h1 hb;have hr2:(fB (fB m a).1 b).1.2.2.2=m.2.2.2:=by rw[kM,kM]
 rw[show vV m a b=iJ (fB (fB m a).1 b).1 (fB m a).2 (fB (fB m a).1 b).2 from rfl];obtain⟨n,hn⟩:∃n,n=(fB (fB m a).1 b).1:=⟨_,rfl⟩;obtain⟨y,hy⟩:∃y,y=(fB (fB m a).1 b).2:=⟨_,rfl⟩;obtain⟨x,hx⟩:∃x,x=(fB m a).2:=⟨_,rfl⟩;rw[←hn]at h2 hr2 g2 f2 ⊢;rw[←hy]at b1 g2 f2 ⊢;rw[←hx]at a1 f1 ⊢;have ix:=dD (show bH n.1 x=true by rw[h2.same.word];exact a1);have iy:=dD (show bH n.1 y=true by rw[h2.same.word];exact b1);refine aC.intro (nt:=59) aQ mixed (by kernel_rfl) Tryz.func50 rfl rfl rfl rfl rfl rfl ?_;refine Or.inr (eI _ (eI _ (aI f1 ?_)))
 refine Or.inr (eI _ (eI _ (aI f2 ?_)))
 conv=>whnf
 cases hab:(x.1==1)&&(y.1==1)with
 |true=>
  rw[show iJ n x y=I5 n x.2 y.2 by unfold iJ;rw[hab];rfl];refine aI (fun _=> ?_) (fun q=>by have q:(bif x.1==1 then y.1==1 else false)=false:=q;rw[qY,hab]at q;cases q);refine Or.inr (eI _ (eI _ (aI (PE n [] x.2 y.2 (by rw[hr2];exact hr)) ?_)));refine fin [(10003,36)] (aI rfl ?_);exact⟨trivial,⟨rfl,⟨rfl,rfl⟩,⟨rfl,rfl⟩,⟨rfl,rfl⟩,rfl,trivial⟩,⟨rfl,nP⟩,⟨rfl,nP⟩,trivial⟩
 |false=>
  refine aI (fun q=>by have q:(bif x.1==1 then y.1==1 else false)=true:=q;rw[qY,hab]at q;cases q) (fun _=> ?_);refine aI ⟨by kernel_rfl,rfl⟩ ?_;cases he:Kh x y with
  |true=>
   rw[show iJ n x y=tQ n x.2 by unfold iJ;rw[hab,he];rfl];refine aI (fun _=> ?_) (fun q=>by have q:jd [x.1,x.2] [y.1,y.2]=false:=q;rw[EL,he]at q;cases q);refine Or.inr (eI _ (eI _ (aI (Oa n [] x.2 ix) ?_)));refine fin [(10003,10002)] (aI rfl ?_);exact⟨trivial,⟨rfl,⟨rfl,rfl⟩,⟨rfl,rfl⟩,⟨rfl,rfl⟩,rfl,trivial⟩,⟨rfl,nP⟩,⟨rfl,nP⟩,trivial⟩
  |false=>
   refine aI (fun q=>by have q:jd [x.1,x.2] [y.1,y.2]=true:=q;rw[EL,he]at q;cases q) (fun _=> ?_);cases ht:x.1==2 with
   |true=>
    rw[show iJ n x y=Ej n x.2 y by unfold iJ;rw[hab,he,ht];rfl];refine aI (fun _=> ?_) (fun q=>by have q:(x.1==2)=false:=q;rw[ht]at q;cases q)
    conv=>whnf
    refine aI ix ?_;refine aI (by kernel_rfl) ?_;refine fin [(10003,10002)] (aI rfl ?_);exact⟨trivial,⟨rfl,⟨rfl,rfl⟩,⟨rfl,rfl⟩,⟨rfl,rfl⟩,rfl,trivial⟩,⟨rfl,nP⟩,⟨rfl,nP⟩,trivial⟩
   |false=>
    rw[show iJ n x y=Ej n y.2 x by unfold iJ;rw[hab,he,ht];rfl];refine aI (fun q=>by have q:(x.1==2)=true:=q;rw[ht]at q;cases q) (fun _=> ?_)
    conv=>whnf
    refine aI iy ?_;refine aI (by kernel_rfl) ?_;refine fin [(10003,10002)] (aI rfl ?_);exact⟨trivial,⟨rfl,⟨rfl,rfl⟩,⟨rfl,rfl⟩,⟨rfl,rfl⟩,rfl,trivial⟩,⟨rfl,nP⟩,⟨rfl,nP⟩,trivial⟩
set_option maxHeartbeats 1000000 in
set_option maxRecDepth 100000 in
theorem Pj{xs:List ah}(m:bE)(us:List Value)(a b:ay)(h:lY xs m)(ha:bH xs a=true)(hb:bH xs b=true)(hr:m.2.2.2.length≤1000000):aC Tryz.prog 74 [.ptr 10000 0,vP a,vP b] (CY m us) (.tup []) (OG 10003 (vV m a b) []):=by
 obtain⟨h1,a1,g1⟩:=pJ h ha;obtain⟨h2,b1,g2⟩:=pJ h1 hb;have f1:=Nz m us a h ha;have f2:=Nz (fB m a).1 [] b h1 hb;have hr2:(fB (fB m a).1 b).1.2.2.2=m.2.2.2:=by rw[kM,kM]
 rw[show vV m a b=iJ (fB (fB m a).1 b).1 (fB m a).2 (fB (fB m a).1 b).2 from rfl];obtain⟨n,hn⟩:∃n,n=(fB (fB m a).1 b).1:=⟨_,rfl⟩;obtain⟨y,hy⟩:∃y,y=(fB (fB m a).1 b).2:=⟨_,rfl⟩;obtain⟨x,hx⟩:∃x,x=(fB m a).2:=⟨_,rfl⟩;rw[←hn]at h2 hr2 g2 f2 ⊢;rw[←hy]at b1 g2 f2 ⊢;rw[←hx]at a1 f1 ⊢;have ix:=dD (show bH n.1 x=true by rw[h2.same.word];exact a1);have iy:=dD (show bH n.1 y=true by rw[h2.same.word];exact b1);refine aC.intro (nt:=59) aQ mixed (by kernel_rfl) Tryz.func74 rfl rfl rfl rfl rfl rfl ?_;refine Or.inr (eI _ (eI _ (aI f1 ?_)))
 refine Or.inr (eI _ (eI _ (aI f2 ?_)))
 conv=>whnf
 cases hab:(x.1==1)&&(y.1==1)with
 |true=>
  rw[show iJ n x y=I5 n x.2 y.2 by unfold iJ;rw[hab];rfl];refine aI (fun _=> ?_) (fun q=>by have q:(bif x.1==1 then y.1==1 else false)=false:=q;rw[qY,hab]at q;cases q);refine Or.inr (eI _ (eI _ (aI (PG n [] x.2 y.2 (by rw[hr2];exact hr)) ?_)));refine fin [(10003,36)] (aI rfl ?_);exact⟨trivial,⟨rfl,⟨rfl,rfl⟩,⟨rfl,rfl⟩,⟨rfl,rfl⟩,rfl,trivial⟩,⟨rfl,nP⟩,⟨rfl,nP⟩,trivial⟩
 |false=>
  refine aI (fun q=>by have q:(bif x.1==1 then y.1==1 else false)=true:=q;rw[qY,hab]at q;cases q) (fun _=> ?_);refine aI ⟨by kernel_rfl,rfl⟩ ?_;cases he:Kh x y with
  |true=>
   rw[show iJ n x y=tQ n x.2 by unfold iJ;rw[hab,he];rfl];refine aI (fun _=> ?_) (fun q=>by have q:jd [x.1,x.2] [y.1,y.2]=false:=q;rw[EL,he]at q;cases q);refine Or.inr (eI _ (eI _ (aI (Ob n [] x.2 ix) ?_)));refine fin [(10003,10002)] (aI rfl ?_);exact⟨trivial,⟨rfl,⟨rfl,rfl⟩,⟨rfl,rfl⟩,⟨rfl,rfl⟩,rfl,trivial⟩,⟨rfl,nP⟩,⟨rfl,nP⟩,trivial⟩
  |false=>
   refine aI (fun q=>by have q:jd [x.1,x.2] [y.1,y.2]=true:=q;rw[EL,he]at q;cases q) (fun _=> ?_);cases ht:x.1==2 with
   |true=>
    rw[show iJ n x y=Ej n x.2 y by unfold iJ;rw[hab,he,ht];rfl];refine aI (fun _=> ?_) (fun q=>by have q:(x.1==2)=false:=q;rw[ht]at q;cases q)
    conv=>whnf
    refine aI ix ?_;refine aI (by kernel_rfl) ?_;refine fin [(10003,10002)] (aI rfl ?_);exact⟨trivial,⟨rfl,⟨rfl,rfl⟩,⟨rfl,rfl⟩,⟨rfl,rfl⟩,rfl,trivial⟩,⟨rfl,nP⟩,⟨rfl,nP⟩,trivial⟩
   |false=>
    rw[show iJ n x y=Ej n y.2 x by unfold iJ;rw[hab,he,ht];rfl];refine aI (fun q=>by have q:(x.1==2)=true:=q;rw[ht]at q;cases q) (fun _=> ?_)
    conv=>whnf
    refine aI iy ?_;refine aI (by kernel_rfl) ?_;refine fin [(10003,10002)] (aI rfl ?_);exact⟨trivial,⟨rfl,⟨rfl,rfl⟩,⟨rfl,rfl⟩,⟨rfl,rfl⟩,rfl,trivial⟩,⟨rfl,nP⟩,⟨rfl,nP⟩,trivial⟩
end Go.Proofs.YtgiceoidjipgmaaGreat
