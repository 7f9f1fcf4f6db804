
/- Lazy reductions: the reference's next pair. Printed by gen_hg.py. -/
import Derived.Test.YtcjhkgfmklgikaaGreatShort
import Derived.Test.YtcjhkgfmklgikaaGreatHe
import Derived.Test.YtcjhkgfmklgikaaGreatHf
set_option linter.unusedSimpArgs false
set_option linter.unusedVariables false
set_option linter.unusedSectionVars false
namespace Go.Tr
open Go Go.RowKit
def xO(A:List aj)(q:aD):aD×Int:=match fU A (au A q)with
 |none=>((0,0),5)
 |some (a,b)=>((min a b,max a b),0)
def jK(A:List aj)(r:Bool×aD):aD×Int:=bif r.1 then((0,0),3)else xO A r.2
theorem CZ(A:List aj)(q:aD):(xO A q).2≠3:=by
 unfold xO;split
 ·show(5:Int)≠3
  decide
 ·show(0:Int)≠3
  decide
end Go.Tr
namespace Go.Proofs.YtcjhkgfmklgikaaGreat
open Go Go.RowKit Go.Proofs Go.Tr
theorem M8:bK Tryz.prog 44=true:=by kernel_rfl
section
variable (A:List aj)(D:Int→Prop)(W:Wd A D)(hA:bf A)(hl:A.length≤1000000)(hk9:∀a:Int,0≤a→a<(A.length:Nat)→(ah A a).2.2.2.2.length≤1048576)
include W hA hl in
theorem Uv(p:aD)(hp:Live D A p):∃path:List Int,aA Tryz.prog 86 [.rp bO A,vP p] [] (.tup [.sl 10000,vP (jK A (fE A p,p)).1,.int .i64 (jK A (fE A p,p)).2]) [.row 10000 2 1 (.int .i64) path []]:=by
 cases hv:fE A p with
 |true=>exact⟨[],Uw A D p W hA hp hl hv⟩
 |false=>
  have e:jK A (false,p)=xO A p:=rfl;rw[e];unfold xO;cases hn:fU A (au A p)with
  |none=>exact⟨_,R9 A D p W hA hp hl hv hn⟩
  |some r=>exact⟨_,Sb A D p W hA hp hl hv hn⟩
set_option maxRecDepth 100000 in
set_option maxHeartbeats 4000000 in
include W hA hl hk9 in
theorem UO:∀(m:Nat) (l:List Int) (p:aD),Ij A D l p→A.length+1≤l.length+m→aA Tryz.prog 44 [.rp bO A,vP p] [] (.tup [vP (jK A (gJ A m p)).1,.int .i64 (jK A (gJ A m p)).2]) []
 |0,l,p,h,hm=>by have:=h.len W;omega
 |m+1,l,p,h,hm=>by
  have hll:=h.len W;have hlv:=(h.ok W).lv;obtain⟨_,w2,_,_⟩:=W.wi p hlv;have hp:=hlv.1;have hq:=w2.1;obtain⟨path,hw⟩:=Uv A D W hA hl p hlv;have ed:gJ A (m+1) p=bif fE A p then(bif (ah A (au A p).1).1==9 then dB (gJ A m) (au A p).1 p ((ah A (au A p).1).2.2.2.2.length-1)else(true,p))else(false,p):=rfl
  refine aA.intro (nt:=62) aJ mixed M8 Tryz.func44 rfl rfl rfl rfl rfl rfl ?_;refine Or.inr (eI _ (eI _ (aI hw ?_)));refine aI (fun q1=> ?_) (fun q1=> ?_)
  ·have q2:((jK A (fE A p,p)).2 !=3)=true:=q1
   have hv:fE A p=false:=by
    cases hv:fE A p with
    |false=>rfl
    |true=>rw[hv]at q2;cases q2
   rw[ed,hv];exact fin [] (aI rfl trivial)
  have q2:((jK A (fE A p,p)).2 !=3)=false:=q1
  have hv:fE A p=true:=by
   cases hv:fE A p with
   |true=>rfl
   |false=>
    rw[hv]at q2;have e:jK A (false,p)=xO A p:=rfl;rw[e]at q2;have q3:(xO A p).2=3:=by simpa using q2
    exact absurd q3 (CZ A p)
  refine Or.inl (eI _ (aI (Bh A p hp) ?_));refine eI 0 (aI (show Tp Tryz.prog 86 0 0=true by kernel_rfl) (eI _ (aI rfl ?_)));refine aI (show 0≤(au A p).1∧(au A p).1<(A.length:Nat) from⟨hq.1,hq.2.1⟩) ?_;refine aI (fun q2=> ?_) (fun q2=> ?_)
  ·have q3:((ah A (au A p).1).1 !=9)=true:=q2;have q4:((ah A (au A p).1).1==9)=false:=by simpa using q3
   rw[ed,hv,q4];exact fin [] (aI rfl trivial)
  have q3:((ah A (au A p).1).1 !=9)=false:=q2;have q4:((ah A (au A p).1).1==9)=true:=by simpa using q3
  rw[ed,hv,q4,qG,qG];have hn9:=hk9 _ hq.1 hq.2.1
  have h0:(au A p).2=0:=by
   have hv2:=hv;unfold fE at hv2;cases hkb:nD (ah A (au A p).1).1 with
   |false=>rw[hkb]at hv2;cases hv2
   |true=>rw[hkb]at hv2;simpa using hv2
  generalize en:(ah A (au A p).1).2.2.2.2.length=n at hn9 ⊢;refine lp (Nat×aD) (fun s=>[(10,.int .i64 ((s.1+1:Nat):Int)),(8,.int .i64 3)]) (fun s=>[.dD 7 62 [.int .i64 s.2.1,.int .i64 s.2.2],.dD 4 62 [.int .i64 0,.int .i64 0]]) (fun s=>n-s.1) (fun s=>s.1≤n-1∧(dB (gJ A m) (au A p).1 p s.1).1=true) (0,(0,0)) ⟨Nat.zero_le _,rfl⟩ ?_ ?_
  ·exact hd [] rfl (aI (aI rfl rfl) (aI (aI rfl rfl) trivial)) (by repeat' (first|exact trivial|exact rfl|constructor))
  rintro⟨i,a⟩ ⟨hi,hs⟩;have hi:i≤n-1:=hi;have hs:(dB (gJ A m) (au A p).1 p i).1=true:=hs;refine aI (show 0≤(au A p).1∧(au A p).1<(A.length:Nat) from⟨hq.1,hq.2.1⟩) ?_;refine aI (fun q5=> ?_) (fun q5=> ?_)
  ·have q6:decide (((i+1:Nat):Int)<((ah A (au A p).1).2.2.2.2.length:Nat))=true:=q5;rw[qQ,en]at q6;have hA2:Ij A D ((au A p).1 ::l) ((au A p).1,((i+1:Nat):Int)):=.step h h0 (by simpa using q4) _ (by omega) (by rw[en];exact q6);have ih:=UO m _ _ hA2 (by rw[qI];omega)
   have es:dB (gJ A m) (au A p).1 p (i+1)=gJ A m ((au A p).1,((i+1:Nat):Int)):=by
    show(bif (dB (gJ A m) (au A p).1 p i).1 then _ else _)=_;rw[hs];rfl
   rw[←es]at ih;refine Or.inl (eI _ (aI (bM (au A p).1 ((i+1:Nat):Int)) ?_));refine Or.inr (eI _ (eI _ (aI ih ?_)));refine aI (fun q7=> ?_) (fun q7=> ?_)
   ·have q8:(dB (gJ A m) (au A p).1 p (i+1)).1=false:=by
     cases hb:(dB (gJ A m) (au A p).1 p (i+1)).1 with
     |false=>rfl
     |true=>
      have q9:((jK A (dB (gJ A m) (au A p).1 p (i+1))).2 !=3)=true:=q7;unfold jK at q9;rw[hb]at q9;cases q9
    rw[wM q8 (n:=n-1) (by omega)];exact fin [] (aI rfl trivial)
   ·have q8:(dB (gJ A m) (au A p).1 p (i+1)).1=true:=by
     cases hb:(dB (gJ A m) (au A p).1 p (i+1)).1 with
     |true=>rfl
     |false=>
      have q9:((jK A (dB (gJ A m) (au A p).1 p (i+1))).2 !=3)=false:=q7;unfold jK at q9;rw[hb]at q9;have q3:(xO A (dB (gJ A m) (au A p).1 p (i+1)).2).2=3:=by simpa using q9
      exact absurd q3 (CZ A _)
    have e3:jK A (dB (gJ A m) (au A p).1 p (i+1))=((0,0),3):=by unfold jK;rw[q8];rfl
    rw[e3];refine bB (i+1,(0,0)) ⟨by show i+1≤n-1;omega,q8⟩ ?_ ?_
    ·exact hd [] rfl (aI (aI (eB (by omega)) rfl) (aI (aI rfl rfl) trivial)) (by repeat' (first|exact trivial|exact rfl|constructor))
    ·show n-(i+1)<n-i;omega
  ·have q6:decide (((i+1:Nat):Int)<((ah A (au A p).1).2.2.2.2.length:Nat))=false:=q5;rw[qP,en]at q6;obtain rfl:i=n-1:=by omega
   have e3:jK A (dB (gJ A m) (au A p).1 p (n-1))=((0,0),3):=by unfold jK;rw[hs];rfl
   rw[e3];exact fin [] (aI rfl trivial)
end
end Go.Proofs.YtcjhkgfmklgikaaGreat
