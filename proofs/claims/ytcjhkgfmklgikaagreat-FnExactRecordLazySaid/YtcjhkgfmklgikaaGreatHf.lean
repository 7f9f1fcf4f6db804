
/- Lazy reductions: the program's search through the demanded ports. Printed by gen_hf.py. -/
import Derived.Test.YtcjhkgfmklgikaaGreatShort
import Derived.Test.YtcjhkgfmklgikaaGreatHb
import Derived.Test.YtcjhkgfmklgikaaGreatHd
set_option maxRecDepth 100000
set_option linter.unusedSimpArgs false
set_option linter.unusedVariables false
set_option linter.unusedSectionVars false
namespace Go.Proofs.YtcjhkgfmklgikaaGreat
open Go Go.RowKit Go.Proofs Go.Tr
theorem UU:bK Tryz.prog 47=true:=by kernel_rfl
def WW(A:List aj)(a:aD):List Tok:=[.dD 10000 86 [.int .i64 a.1,.int .i64 a.2],.dD 10001 51 [.rp bO A]]
theorem X5:aN Tryz.prog 92 [] (vP (0,0)):=by
 refine aN.intro (nt:=2) aJ mixed (by kernel_rfl) Tryz.func92 rfl rfl rfl rfl rfl ?_;exact rfl
theorem YK(A:List aj)(p a:aD)(z:Int)(hp:ak A p)(hq:ak A (au A p)):aA Tryz.prog 93 [vP p,.int .i64 z,.ptr 10000 0,.ptr 10001 0] (WW A a) (.bool (fE A p)) (WW A p):=by
 refine aA.intro (nt:=11) aJ mixed (by kernel_rfl) Tryz.func93 rfl rfl rfl rfl rfl rfl ?_;refine Or.inl (eI _ (aI (Qo A p hp hq) ?_));exact fin [(10000,10000),(10001,10001)] (aI rfl (by repeat' (first|exact trivial|exact rfl|constructor)))
theorem wM{g:aD→Bool×aD}{c:Int}{p:aD}{i:Nat}(h:(dB g c p i).1=false):∀{n:Nat},i≤n→dB g c p n=dB g c p i
 |0,hn=>by(obtain rfl:i=0:=by omega);rfl
 |n+1,hn=>by
  by_cases e:i=n+1
  ·subst e;rfl
  ·have k:=wM h (n:=n) (by omega);show(bif (dB g c p n).1 then g (c,((n+1:Nat):Int))else dB g c p n)=_;rw[k,h];rfl
section
variable (A:List aj)(D:Int→Prop)(W:Wd A D)(hl:A.length≤1000000)(hk9:∀a:Int,0≤a→a<(A.length:Nat)→(ah A a).2.2.2.2.length≤1048576)
set_option maxHeartbeats 4000000 in
include W hl hk9 in
theorem Xp:∀(m:Nat) (l:List Int) (p:aD),Ij A D l p→A.length+1≤l.length+m→∀(a:aD),aA Tryz.prog 91 [.rp bO A,vP p,.int .i64 ((l.length+1:Nat):Int),.fn 93 [.ptr 10000 0,.ptr 10001 0]] (WW A a) (.bool (gJ A m p).1) (WW A (gJ A m p).2)
 |0,l,p,h,hm,a=>by have:=h.len W;omega
 |m+1,l,p,h,hm,a=>by
  have hll:=h.len W;have hlv:=(h.ok W).lv;obtain⟨_,w2,_,_⟩:=W.wi p hlv;have hp:=hlv.1;have hq:=w2.1;refine aA.intro (nt:=59) aJ mixed (by kernel_rfl) Tryz.func91 rfl rfl rfl rfl rfl rfl ?_;refine Or.inr (eI _ (eI _ (aI (YK A p a _ hp hq) ?_)));have ed:gJ A (m+1) p=bif fE A p then(bif (ah A (au A p).1).1==9 then dB (gJ A m) (au A p).1 p ((ah A (au A p).1).2.2.2.2.length-1)else(true,p))else(false,p):=rfl
  refine aI (fun q1=> ?_) (fun q1=> ?_)
  ·have hv:fE A p=false:=by simpa using q1
   rw[ed,hv];exact fin [(10000,10000),(10001,10001)] (aI rfl (by repeat' (first|exact trivial|exact rfl|constructor)))
  have hv:fE A p=true:=by simpa using q1
  refine Or.inl (eI _ (aI (Bg A p hp) ?_));refine Or.inl (eI _ (aI (Qo A p hp hq) ?_));refine aI (fun _=>⟨hq.1,hq.2.1⟩) ?_;refine aI (by kernel_rfl) ?_;refine aI (fun q2=> ?_) (fun q2=> ?_)
  ·have q3:(bif !(fE A p)then true else(ah A (au A p).1).1 !=9)=true:=q2;rw[hv]at q3;have q4:((ah A (au A p).1).1==9)=false:=by simpa using q3
   rw[ed,hv,q4];exact fin [(10000,10000),(10001,10001)] (aI rfl (by repeat' (first|exact trivial|exact rfl|constructor)))
  have q3:(bif !(fE A p)then true else(ah A (au A p).1).1 !=9)=false:=q2;rw[hv]at q3;have q4:((ah A (au A p).1).1==9)=true:=by simpa using q3
  rw[ed,hv,q4,qG,qG];have hn9:=hk9 _ hq.1 hq.2.1
  have h0:(au A p).2=0:=by
   have hv2:=hv;unfold fE at hv2;cases hkb:nD (ah A (au A p).1).1 with
   |false=>rw[hkb]at hv2;cases hv2
   |true=>rw[hkb]at hv2;simpa using hv2
  generalize en:(ah A (au A p).1).2.2.2.2.length=n at hn9 ⊢;refine lp Nat (fun i=>[(10,.int .i64 ((i+1:Nat):Int))]) (fun i=>[.dD 5 86 [.int .i64 p.1,.int .i64 p.2],.dD 9 86 [.int .i64 (au A p).1,.int .i64 (au A p).2]]++WW A (dB (gJ A m) (au A p).1 p i).2) (fun i=>n-i) (fun i=>i≤n-1∧(dB (gJ A m) (au A p).1 p i).1=true) 0 ⟨Nat.zero_le _,rfl⟩ ?_ ?_
  ·exact hd [] rfl (aI (aI rfl rfl) trivial) (by repeat' (first|exact trivial|exact rfl|constructor))
  rintro i ⟨hi,hs⟩;refine aI ⟨hq.1,hq.2.1⟩ ?_;refine aI (by kernel_rfl) ?_;refine aI (fun q5=> ?_) (fun q5=> ?_)
  ·have q6:decide (((i+1:Nat):Int)<((ah A (au A p).1).2.2.2.2.length:Nat))=true:=q5;rw[qQ,en]at q6;have hA2:Ij A D ((au A p).1 ::l) ((au A p).1,((i+1:Nat):Int)):=.step h h0 (by simpa using q4) _ (by omega) (by rw[en];exact q6);have ih:=Xp m _ _ hA2 (by rw[qI];omega) (dB (gJ A m) (au A p).1 p i).2;have hw:IntKind.i64.wrap (((l.length+1:Nat):Int)+1)=(((((au A p).1 ::l).length+1:Nat)):Int):=by rw[qO _ (by omega),qI];rfl
   rw[←hw]at ih
   have es:dB (gJ A m) (au A p).1 p (i+1)=gJ A m ((au A p).1,((i+1:Nat):Int)):=by
    show(bif (dB (gJ A m) (au A p).1 p i).1 then _ else _)=_;rw[hs];rfl
   refine Or.inr (eI _ (eI _ (aI ih ?_)));refine aI (fun q7=> ?_) (fun q7=> ?_)
   ·have q8:(gJ A m ((au A p).1,((i+1:Nat):Int))).1=false:=by simpa using q7
    rw[←es]at q8 ⊢;rw[wM q8 (n:=n-1) (by omega),q8];exact fin [(10000,10000),(10001,10001)] (aI rfl (by repeat' (first|exact trivial|exact rfl|constructor)))
   ·have q8:(gJ A m ((au A p).1,((i+1:Nat):Int))).1=true:=by simpa using q7
    rw[←es]at q8 ⊢;refine bB (i+1) ⟨by omega,q8⟩ ?_ ?_
    ·exact hd [] rfl (aI (aI (eB (by omega)) rfl) trivial) (by repeat' (first|exact trivial|exact rfl|constructor))
    ·show n-(i+1)<n-i;omega
  ·have q6:decide (((i+1:Nat):Int)<((ah A (au A p).1).2.2.2.2.length:Nat))=false:=q5;rw[qP,en]at q6;obtain rfl:i=n-1:=by omega
   rw[hs];exact fin [(10000,10000),(10001,10001)] (aI rfl (by repeat' (first|exact trivial|exact rfl|constructor)))
set_option maxHeartbeats 4000000 in
include W hl hk9 in
theorem ZJ:aA Tryz.prog 47 [.rp bO A] [] (.tup [vP (gJ A (A.length+1) (0,0)).2,.bool (!(gJ A (A.length+1) (0,0)).1)]) []:=by
 have hd:=Xp A D W hl hk9 (A.length+1) [] (0,0) .root (Nat.le_add_left _ _) (0,0);refine aA.intro (nt:=13) aJ mixed UU Tryz.func47 rfl rfl rfl rfl rfl rfl ?_;refine Or.inl (eI _ (aI X5 ?_));refine Or.inr (eI _ (eI _ (aI hd ?_)));refine aI (by kernel_rfl) ?_;exact fin [] (aI rfl trivial)
end
end Go.Proofs.YtcjhkgfmklgikaaGreat
