
/- Lazy reductions: the reference's next pair. Printed by gen_hg.py. -/
import Derived.Test.YtjijpkphkicoeaaGreatShort
import Derived.Test.YtjijpkphkicoeaaGreatHe
import Derived.Test.YtjijpkphkicoeaaGreatHf
set_option linter.unusedSimpArgs false
set_option linter.unusedVariables false
set_option linter.unusedSectionVars false
namespace Go.Tr
open Go Go.RowKit
def xR(A:List aj)(q:aF):aF×Int:=match fF A (au A q)with
 |none=>((0,0),5)
 |some (a,b)=>((min a b,max a b),0)
def jI(A:List aj)(r:Bool×aF):aF×Int:=bif r.1 then((0,0),3)else xR A r.2
theorem Dj(A:List aj)(q:aF):(xR A q).2≠3:=by
 unfold xR;split
 ·show(5:Int)≠3
  decide
 ·show(0:Int)≠3
  decide
end Go.Tr
namespace Go.Proofs.YtjijpkphkicoeaaGreat
open Go Go.RowKit Go.Proofs Go.Tr
theorem NV:bH Tryz.prog 71=true:=by kernel_rfl
section
variable (A:List aj)(D:Int→Prop)(W:Wd A D)(hA:aW A)(hl:A.length≤1000000)(hk9:∀a:Int,0≤a→a<(A.length:Nat)→(ah A a).2.2.2.2.length≤1048576)
include W hA hl in
theorem Vs(p:aF)(hp:Live D A p):∃path:List Int,aA Tryz.prog 120 [.rp aR A,vP p] [] (.tup [.sl 10000,vP (jI A (eU A p,p)).1,.int .i64 (jI A (eU A p,p)).2]) [.row 10000 2 1 (.int .i64) path []]:=by
 cases hv:eU A p with
 |true=>exact⟨[],Vt A D p W hA hp hl hv⟩
 |false=>
  have e:jI A (false,p)=xR A p:=rfl;rw[e];unfold xR;cases hn:fF A (au A p)with
  |none=>exact⟨_,Tq A D p W hA hp hl hv hn⟩
  |some r=>exact⟨_,Tt A D p W hA hp hl hv hn⟩
set_option maxRecDepth 100000 in
set_option maxHeartbeats 4000000 in
include W hA hl hk9 in
theorem VR:∀(m:Nat) (l:List Int) (p:aF),I9 A D l p→A.length+1≤l.length+m→aA Tryz.prog 71 [.rp aR A,vP p] [] (.tup [vP (jI A (gD A m p)).1,.int .i64 (jI A (gD A m p)).2]) []
 |0,l,p,h,hm=>by have:=h.len W;omega
 |m+1,l,p,h,hm=>by
  have hll:=h.len W;have hlv:=(h.ok W).lv;obtain⟨_,w2,_,_⟩:=W.wi p hlv;have hp:=hlv.1;have hq:=w2.1;obtain⟨path,hw⟩:=Vs A D W hA hl p hlv;have ed:gD A (m+1) p=bif eU A p then(bif (ah A (au A p).1).1==9 then dH (gD A m) (au A p).1 p ((ah A (au A p).1).2.2.2.2.length-1)else(true,p))else(false,p):=rfl
  refine aA.intro (nt:=62) aH mixed NV Tryz.func71 rfl rfl rfl rfl rfl rfl ?_;refine Or.inr (eI _ (eI _ (aI hw ?_)));refine aI (fun q1=> ?_) (fun q1=> ?_)
  ·have q2:((jI A (eU A p,p)).2 !=3)=true:=q1
   have hv:eU A p=false:=by
    cases hv:eU A p with
    |false=>rfl
    |true=>rw[hv]at q2;cases q2
   rw[ed,hv];exact fin [] (aI rfl trivial)
  have q2:((jI A (eU A p,p)).2 !=3)=false:=q1
  have hv:eU A p=true:=by
   cases hv:eU A p with
   |true=>rfl
   |false=>
    rw[hv]at q2;have e:jI A (false,p)=xR A p:=rfl;rw[e]at q2;have q3:(xR A p).2=3:=by simpa using q2
    exact absurd q3 (Dj A p)
  refine Or.inl (eI _ (aI (Bq A p hp) ?_));refine eI 0 (aI (show Uu Tryz.prog 102 0 0=true by kernel_rfl) (eI _ (aI rfl ?_)));refine aI (show 0≤(au A p).1∧(au A p).1<(A.length:Nat) from⟨hq.1,hq.2.1⟩) ?_;refine aI (fun q2=> ?_) (fun q2=> ?_)
  ·have q3:((ah A (au A p).1).1 !=9)=true:=q2;have q4:((ah A (au A p).1).1==9)=false:=by simpa using q3
   rw[ed,hv,q4];exact fin [] (aI rfl trivial)
  have q3:((ah A (au A p).1).1 !=9)=false:=q2;have q4:((ah A (au A p).1).1==9)=true:=by simpa using q3
  rw[ed,hv,q4,qG,qG];have hn9:=hk9 _ hq.1 hq.2.1
  have h0:(au A p).2=0:=by
   have hv2:=hv;unfold eU at hv2;cases hkb:nk (ah A (au A p).1).1 with
   |false=>rw[hkb]at hv2;cases hv2
   |true=>rw[hkb]at hv2;simpa using hv2
  generalize en:(ah A (au A p).1).2.2.2.2.length=n at hn9 ⊢;refine lp (Nat×aF) (fun s=>[(10,.int .i64 ((s.1+1:Nat):Int)),(8,.int .i64 3)]) (fun s=>[.bV 7 71 [.int .i64 s.2.1,.int .i64 s.2.2],.bV 4 71 [.int .i64 0,.int .i64 0]]) (fun s=>n-s.1) (fun s=>s.1≤n-1∧(dH (gD A m) (au A p).1 p s.1).1=true) (0,(0,0)) ⟨Nat.zero_le _,rfl⟩ ?_ ?_
  ·exact hd [] rfl (aI (aI rfl rfl) (aI (aI rfl rfl) trivial)) (by repeat' (first|exact trivial|exact rfl|constructor))
  rintro⟨i,a⟩ ⟨hi,hs⟩;have hi:i≤n-1:=hi;have hs:(dH (gD A m) (au A p).1 p i).1=true:=hs;refine aI (show 0≤(au A p).1∧(au A p).1<(A.length:Nat) from⟨hq.1,hq.2.1⟩) ?_;refine aI (fun q5=> ?_) (fun q5=> ?_)
  ·have q6:decide (((i+1:Nat):Int)<((ah A (au A p).1).2.2.2.2.length:Nat))=true:=q5;rw[qQ,en]at q6;have hA2:I9 A D ((au A p).1 ::l) ((au A p).1,((i+1:Nat):Int)):=.step h h0 (by simpa using q4) _ (by omega) (by rw[en];exact q6);have ih:=VR m _ _ hA2 (by rw[qI];omega)
   have es:dH (gD A m) (au A p).1 p (i+1)=gD A m ((au A p).1,((i+1:Nat):Int)):=by
    show(bif (dH (gD A m) (au A p).1 p i).1 then _ else _)=_;rw[hs];rfl
   rw[←es]at ih;refine Or.inl (eI _ (aI (bN (au A p).1 ((i+1:Nat):Int)) ?_));refine Or.inr (eI _ (eI _ (aI ih ?_)));refine aI (fun q7=> ?_) (fun q7=> ?_)
   ·have q8:(dH (gD A m) (au A p).1 p (i+1)).1=false:=by
     cases hb:(dH (gD A m) (au A p).1 p (i+1)).1 with
     |false=>rfl
     |true=>
      have q9:((jI A (dH (gD A m) (au A p).1 p (i+1))).2 !=3)=true:=q7;unfold jI at q9;rw[hb]at q9;cases q9
    rw[wG q8 (n:=n-1) (by omega)];exact fin [] (aI rfl trivial)
   ·have q8:(dH (gD A m) (au A p).1 p (i+1)).1=true:=by
     cases hb:(dH (gD A m) (au A p).1 p (i+1)).1 with
     |true=>rfl
     |false=>
      have q9:((jI A (dH (gD A m) (au A p).1 p (i+1))).2 !=3)=false:=q7;unfold jI at q9;rw[hb]at q9;have q3:(xR A (dH (gD A m) (au A p).1 p (i+1)).2).2=3:=by simpa using q9
      exact absurd q3 (Dj A _)
    have e3:jI A (dH (gD A m) (au A p).1 p (i+1))=((0,0),3):=by unfold jI;rw[q8];rfl
    rw[e3];refine aP (i+1,(0,0)) ⟨by show i+1≤n-1;omega,q8⟩ ?_ ?_
    ·exact hd [] rfl (aI (aI (dB (by omega)) rfl) (aI (aI rfl rfl) trivial)) (by repeat' (first|exact trivial|exact rfl|constructor))
    ·show n-(i+1)<n-i;omega
  ·have q6:decide (((i+1:Nat):Int)<((ah A (au A p).1).2.2.2.2.length:Nat))=false:=q5;rw[decide_eq_false_iff_not,en]at q6;obtain rfl:i=n-1:=by omega
   have e3:jI A (dH (gD A m) (au A p).1 p (n-1))=((0,0),3):=by unfold jI;rw[hs];rfl
   rw[e3];exact fin [] (aI rfl trivial)
end
end Go.Proofs.YtjijpkphkicoeaaGreat
