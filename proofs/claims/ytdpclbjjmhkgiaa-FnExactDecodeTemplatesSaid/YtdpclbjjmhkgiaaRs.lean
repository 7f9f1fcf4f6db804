
/- The reference's tests of nets and books, by the symbolic machine. -/
import Derived.Test.YtdpclbjjmhkgiaaShort
import Derived.Test.YtdpclbjjmhkgiaaRa
import Derived.Test.YtdpclbjjmhkgiaaNw
set_option linter.unusedSimpArgs false
set_option linter.unusedVariables false
namespace Go.Tr
open Go Go.RowKit
def FL(xs:List ah):Prop:=xs.length≤9223372036854775807∧∀i:Nat,i<xs.length→(ak xs i).2.2.2.2.length≤9223372036854775807
theorem mO.aH{w0:World}{F0:List Nat}{b o:Nat}{a:ah}(h:mO w0 F0 b o (enc aV a)):a.2.2.2.2.length≤9223372036854775807:=by
 obtain⟨_,_,_,h⟩:=mO.sl (mO.vv (mO.vv (mO.vv h).2).2).2;obtain⟨_,_,h⟩:=h;exact(mO.sl h).choose_spec.choose_spec.2.2.1
theorem iD.lens{w0:World}{F0:List Nat}{xs:List ah}{v:Value}(h:iD w0 F0 (.sl xs.length (xs.flatMap (enc aV))) v):FL xs:=by
 obtain⟨A,c,rfl⟩:=h.slice;refine⟨h.vU,fun i hi=> ?_⟩;obtain⟨b,off,x,_,hx,hp⟩:=iD.elem (fun x=>aZ aV x) h rfl hi;have:ak xs i=x:=by rw[wC hi];rw[List.getElem?_eq_getElem hi]at hx;injection hx
 rw[this];exact hp.aH
theorem iD.net{w0:World}{F0:List Nat}{b o:Nat}{xs:List ah}(h:mO w0 F0 b o (enc kX xs)):FL xs:=by
 obtain⟨_,_,_,h,_⟩:=mO.sl h;exact iD.lens h
end Go.Tr
namespace Go.Proofs.Ytdpclbjjmhkgiaa
open Go Go.RowKit Go.Proofs Go.Tr
theorem ltD{k n:Nat}(h:decide (((k:Nat):Int)<((n:Nat):Int))=true):k<n:=by simp only[decide_eq_true_eq]at h;omega
theorem geD{k n:Nat}(h:decide (((k:Nat):Int)<((n:Nat):Int))=false):n≤k:=by simp only[decide_eq_false_iff_not]at h;omega
theorem Yy(k f:Int):bg Try.prog 56 [.int .i64 k,.int .i64 f] (.int .i64 (aL k f)):=by
 refine bg.intro (nt:=28) aS mixed (by kernel_rfl) Try.func56 rfl rfl rfl rfl rfl ?_;refine aI (fun q=> ?_) (fun q=> ?_)
 ·have q:k=9:=by have q:(k==9)=true:=q;simpa using q
  refine Or.inl (eI _ (aI (Ew f 0 3) ?_));refine aI (fun q2=> ?_) (fun q2=> ?_)
  ·have q2:iy f 0 3=true:=q2;have:=jl q2;refine aI (Eq.trans (IntWalk.i64_in _ (by omega)) ?_) rfl;simp only[aL,q,q2,if_true];omega
  ·have q2:iy f 0 3=false:=q2;refine aI (Eq.trans (Eq.refl _) ?_) rfl;simp[aL,q,q2]
 have q:¬k=9:=by have q:(k==9)=false:=q;simpa using q
 refine aI (fun q2=> ?_) (fun q2=> ?_)
 ·refine aI (Eq.trans (Eq.refl _) ?_) rfl;have q2:¬f=0:=by have q2:(f !=0)=true:=q2;simpa using q2
  simp[aL,q,q2]
 have q2:f=0:=by have q2:(f !=0)=false:=q2;simpa using q2
 repeat' (refine aI ?_ ?_<;>intro _)
 all_goals (refine aI (Eq.trans (Eq.refl _) ?_) rfl)
 all_goals (simp_all [aL])
theorem D9(a:ah)(h:a.2.2.2.2.length≤9223372036854775807):bg Try.prog 77 [.rp aV a] (.int .i64 (dH a.1 a.2.2.2.2.length)):=by
 refine bg.intro (nt:=14) aS mixed (by kernel_rfl) Try.func77 rfl rfl rfl rfl rfl ?_;refine aI (fun q=> ?_) (fun q=> ?_)
 ·refine aI (Eq.trans (IntWalk.i64_in _ (by omega)) ?_) rfl;have q:(a.1==9)=true:=q;simp only[dH,q,if_true]
 ·refine aI (Eq.trans (Eq.refl _) ?_) rfl;have q:(a.1==9)=false:=q;simp only[dH,q];rfl
set_option maxRecDepth 100000 in
theorem agS(a:ah)(h:a.2.2.2.2.length≤9223372036854775807):bg Try.prog 57 [.rp aV a] (.bool (eO (gA a))):=by
 refine bg.intro (nt:=37) aS mixed (by kernel_rfl) Try.func57 rfl rfl rfl rfl rfl ?_;refine Or.inl (eI _ (aI (D9 a h) ?_));refine Or.inl (eI _ (aI (Yy a.1 _) ?_));refine aI (by kernel_rfl) ?_;refine Or.inl (eI _ (aI (fun _=>Uh a.1 a.2.1) ?_));refine Or.inl (eI _ (aI (fun _=>NV a) ?_));refine aI (by kernel_rfl) ?_;refine Eq.trans (Eq.refl _) ?_;have e:(gA a).aH.length=a.2.2.2.2.length:=List.length_map _;simp only[aY];unfold eO fieldsOf;rw[e];rfl
theorem Pg:bY Try.prog 33=true:=by kernel_rfl
set_option maxRecDepth 100000 in
theorem X9(xs:List ah)(h:FL xs):bg Try.prog 33 [.rsl aV xs] (.bool (bP (gN xs).agents)):=by
 have hl:(gN xs).agents.length=xs.length:=List.length_map _
 have hA:∀i:Nat,i<xs.length→eP (gN xs).agents i=(eO (gA (ak xs i))&&((ak xs i).1==1)==((i:Int)==0)):=fun i hi=>by
  have e:gF (gN xs).agents i=gA (ak xs i):=by
   rw[wC hi];unfold gF gN;simp[List.getD_eq_getElem?_getD,hi]
  unfold eP;rw[e];rfl
 refine bg.intro (nt:=30) aS mixed Pg Try.func33 rfl rfl rfl rfl rfl ?_;refine Or.inl (eI _ (aI (Ew xs.length 1 600) ?_));refine aI (fun q=> ?_) (fun q=> ?_)
 ·refine Eq.trans (Eq.refl _) ?_;have q:(!iy xs.length 1 600)=true:=q;unfold bP;rw[hl];revert q;cases iy xs.length 1 600<;>simp
 have q:iy xs.length 1 600=true:=by have q:(!iy xs.length 1 600)=false:=q;simpa using q
 have hb:=jl q;have hE:bP (gN xs).agents=dZ xs.length (eP (gN xs).agents):=by unfold bP;rw[hl,q,Bool.true_and]
 rw[hE];refine lp Nat (fun i=>[(3,.int .i64 (i:Nat))]) (fun _=>[]) (fun i=>xs.length-i) (fun i=>i≤xs.length∧dZ i (eP (gN xs).agents)=true) 0 ⟨Nat.zero_le _,rfl⟩ ?_ ?_
 ·exact hd [] rfl (aI (aI rfl rfl) trivial) trivial
 rintro i ⟨hi,ha⟩;refine aI (fun p1=> ?_) (fun p1=> ?_)
 ·have hlt:i<xs.length:=ltD p1;have hk:0≤((i:Nat):Int)∧((i:Nat):Int)<(xs.length:Nat):=by omega
  refine aI hk ?_;refine Or.inl (eI _ (aI (agS _ (h.2 i hlt)) ?_));refine aI (fun _=>hk) ?_;have e:=hA i hlt;refine aI (fun p2=> ?_) (fun p2=> ?_)
  ·refine Eq.trans (Eq.refl _) ?_;have p2:(bif !eO (gA (ak xs i))then true else(((ak xs i).1==1) !=((i:Int)==0)))=true:=p2;refine(uy hlt ?_).symm;rw[e];revert p2;cases eO (gA (ak xs i))<;>simp
  ·have p2:(bif !eO (gA (ak xs i))then true else(((ak xs i).1==1) !=((i:Int)==0)))=false:=p2;refine aK (i+1) ⟨hlt,?_⟩ ?_ ?_
   ·rw[rU,ha,e,Bool.true_and];revert p2;cases eO (gA (ak xs i))<;>simp
   ·exact hd [] rfl (aI (aI (bD (by omega)) rfl) trivial) trivial
   ·show xs.length-(i+1)<xs.length-i;omega
 ·have hge:xs.length≤i:=geD p1;obtain rfl:i=xs.length:=by omega
  refine Eq.trans (Eq.refl _) ?_;exact ha.symm
end Go.Proofs.Ytdpclbjjmhkgiaa
