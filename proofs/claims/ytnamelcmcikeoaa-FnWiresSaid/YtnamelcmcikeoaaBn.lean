
/- The law of wires, walked. -/
import Derived.Test.YtnamelcmcikeoaaShort
import Derived.Test.YtnamelcmcikeoaaBm
set_option linter.unusedSimpArgs false
set_option linter.unusedVariables false
namespace Go.Proofs.Ytnamelcmcikeoaa
open Go Go.RowKit Go.Proofs Go.Tr
def yM(m:List iD)(ps:List Int):Nat→List iD
 |0=>m
 |i+1=>Dy (yM m ps i) i (elt 0 ps ((i:Nat):Int)).toNat
theorem wJ(m:List iD)(ps:List Int):∀i,(yM m ps i).length=m.length
 |0=>rfl
 |i+1=>by rw[yM,Dz,wJ m ps i]
theorem K4{xs:List ah}{m:List iD}{ps:List Int}(h:dX (fun p=>aj xs p) xs)(hm:NH xs m)(hp:ps.length=m.length)(hx:∀x∈ps,0≤x∧x<(m.length:Nat)):∀i,i≤m.length→NH xs (yM m ps i)
 |0,_=>hm
 |i+1,hi=>by
  have h1:=K4 h hm hp hx i (by omega);have hl:=wJ m ps i;obtain⟨p0,p1⟩:=hx _ (QH (d:=(0:Int)) (l:=ps) (i:=i) (by omega));exact h1.shu h (by omega) (by omega)
set_option maxHeartbeats 4000000 in
set_option maxRecDepth 100000 in
theorem P7(code more:List Int)(hr:∀x∈code,0≤x∧x≤255)(hs:∀x∈more,0≤x∧x≤255):iK Try.prog 3 [.rsl aU code,.rsl aU more] [] (.bool true) []:=by
 refine iK.intro (nt:=192) aS mixed (by kernel_rfl) Try.func3 rfl rfl rfl rfl rfl rfl ?_;refine Or.inl (eI _ (aI (Qr code) ?_));refine Or.inl (eI _ (aI (fun _=>Qr more) ?_));refine aI (fun _=> ?_) (fun q0=> ?_)
 ·refine fin [] (aI rfl ?_);exact trivial
 have q0':(bif decide ((4096:Int)<(code.length:Nat))then true else decide ((4096:Int)<(more.length:Nat)))=false:=q0
 have hb1:code.length≤4096∧more.length≤4096:=by
  by_cases h1:(4096:Int)<(code.length:Nat)
  ·rw[decide_eq_true h1]at q0';cases q0'
  ·rw[decide_eq_false h1]at q0';have:=of_decide_eq_false q0';omega
 have hbc:Bytes code:=⟨by omega,hr⟩;have hbm:Bytes more:=⟨by omega,hs⟩;clear q0 q0';obtain⟨xs,hok,hG⟩:=MG code hbc;have hsm:=Gn hok;have hl2:=hok.l2;have hl4:(fP xs).length≤4*xs.length:=iW (pb:=fun _=>false) hsm.2 xs.length (Nat.le_refl _);have hhalf:=Fj hok.wi;have hwok:=Nw hok.wi;refine Or.inr (Or.inr (eI _ (eI _ (aI hG ?_))));refine Or.inr (Or.inl (eI _ (eI _ (aI (P8 xs hok) ?_))));refine Or.inr (Or.inl (eI _ (eI _ (aI (P9 xs hok) ?_))))
 have hne:1≤(bP xs).length:=by
  have h1:=hok.l1;have h2:aj xs (((0:Nat):Int),0):=dw (i:=0) (by omega) (hok.wf _ (by omega) (by omega));rw[←kN]at h2;have h3:=List.length_pos_of_mem h2;omega
 refine aI (fun q=> ?_) (fun _=> ?_)
 ·have q':(bif (bif ((0:Int) !=0)then true else(((bP xs).length:Nat):Int) !=(((bP xs).length:Nat):Int))then true else(((bP xs).length:Nat):Int)==0)=true:=q;simp at q';rw[q']at hne;simp at hne
 refine lp Nat (fun i=>[(10,.int .i64 ((eB (fun _=>false) xs i).length:Nat)),(11,.int .i64 (i:Nat))]) (fun i=>[.aN 5 26 [.rsl aL xs],.row 32 38 4 bW (bP xs) [],.row 37 38 4 bW (bP xs) []]) (fun i=>xs.length-i) (fun i=>i≤xs.length) 0 (Nat.zero_le _) ?_ ?_
 ·refine hd [] rfl (aI ⟨rfl,rfl⟩ ⟨⟨rfl,rfl⟩,trivial⟩) ?_;exact⟨trivial,⟨rfl,trivial⟩,⟨rfl,nP⟩,⟨rfl,nP⟩,trivial⟩
 intro i hi;refine aI (fun q1=> ?_) (fun q1=> ?_)
 ·have hlt:i<xs.length:=yX q1;have hi3:(0:Int)≤((i:Nat):Int)∧((i:Nat):Int)<(xs.length:Nat):=⟨by omega,by omega⟩;have hnl:=Eo xs i;have hfl:=iW (pb:=fun _=>false) hsm.2 (i+1) (by omega);refine aI hi3 ?_;refine aJ (i+1) hlt ?_ (by show xs.length-(i+1)<xs.length-i;omega);refine hd [] rfl (aI ⟨?_,rfl⟩ ⟨⟨eu (by omega),rfl⟩,trivial⟩) ?_
  ·show IntKind.i64.wrap ((((eB (fun _=>false) xs i).length:Nat):Int)+(((ak xs (i:Nat)).2.2.2.2.length:Nat):Int))=_;rw[hnl,IntWalk.i64_in _ (by omega)];omega
  exact⟨trivial,⟨rfl,trivial⟩,⟨rfl,nP⟩,⟨rfl,nP⟩,trivial⟩
 have hge:i=xs.length:=Nat.le_antisymm hi (Cu q1);subst hge;refine aI (fun q=> ?_) (fun _=> ?_)
 ·have q':((((fP xs).length:Nat):Int) !=IntKind.i64.wrap (2*(((bP xs).length:Nat):Int)))=true:=q;rw[IntWalk.i64_in _ (by omega)]at q';simp at q';omega
 refine lp Nat (fun i=>[(12,.int .i64 (i:Nat))]) (fun i=>[.aN 5 26 [.rsl aL xs],.row 32 38 4 bW (bP xs) [],.row 37 38 4 bW (bP xs) []]) (fun i=>(bP xs).length-i) (fun i=>i≤(bP xs).length) 0 (Nat.zero_le _) ?_ ?_
 ·refine hd [] rfl (aI ⟨rfl,rfl⟩ trivial) ?_;exact⟨trivial,⟨rfl,trivial⟩,⟨rfl,nP⟩,⟨rfl,nP⟩,trivial⟩
 intro i hi;refine aI (fun q1=> ?_) (fun q1=> ?_)
 ·have hlt:i<(bP xs).length:=yX q1;have hi3:(0:Int)≤((i:Nat):Int)∧((i:Nat):Int)<((bP xs).length:Nat):=⟨by omega,by omega⟩;obtain⟨a1,a2⟩:aj xs (elt (dflt bW) (bP xs) ((i:Nat):Int)).1∧(elt (dflt bW) (bP xs) ((i:Nat):Int)).2=aB xs (elt (dflt bW) (bP xs) ((i:Nat):Int)).1:=by rw[QI];exact hwok.ok i hlt
  have b1:aj xs (elt (dflt bW) (bP xs) ((i:Nat):Int)).2:=by rw[a2];exact(hok.wi _ a1).2.1
  have b2:aB xs (elt (dflt bW) (bP xs) ((i:Nat):Int)).2=(elt (dflt bW) (bP xs) ((i:Nat):Int)).1:=by rw[a2];exact(hok.wi _ a1).2.2.1
  refine aI hi3 ?_;refine aI hi3 ?_;refine aI ⟨by kernel_rfl,rfl⟩ ?_;refine aI (by kernel_rfl) ?_;refine aI (fun q=> ?_) (fun _=> ?_)
  ·have q':(!bX [(elt (dflt bW) (bP xs) ((i:Nat):Int)).1.1,(elt (dflt bW) (bP xs) ((i:Nat):Int)).1.2,(elt (dflt bW) (bP xs) ((i:Nat):Int)).2.1,(elt (dflt bW) (bP xs) ((i:Nat):Int)).2.2] [(elt (dflt bW) (bP xs) ((i:Nat):Int)).1.1,(elt (dflt bW) (bP xs) ((i:Nat):Int)).1.2,(elt (dflt bW) (bP xs) ((i:Nat):Int)).2.1,(elt (dflt bW) (bP xs) ((i:Nat):Int)).2.2])=true:=q;simp[bX]at q'
  refine aI hi3 ?_;refine Or.inl (eI _ (aI (GD xs hok _ a1) ?_));refine aI (by kernel_rfl) ?_;refine aI hi3 ?_;refine Or.inl (eI _ (aI (GD xs hok _ b1) ?_));refine aI (by kernel_rfl) ?_;refine aI (fun _=>hi3) ?_;refine aI (fun _=>⟨by kernel_rfl,rfl⟩) ?_;refine aI (fun _=>hi3) ?_;refine aI (fun _=>⟨by kernel_rfl,rfl⟩) ?_;refine aI (by kernel_rfl) ?_;refine aI (fun q=> ?_) (fun _=> ?_)
  ·have k1:aB xs (elt (dflt bW) (bP xs) ((i:Nat):Int)).1=(elt (dflt bW) (bP xs) ((i:Nat):Int)).2:=a2.symm;have q':(bif (bif (bif ((0:Int) !=0)then true else((0:Int) !=0))then true else !bX [(aB xs (elt (dflt bW) (bP xs) ((i:Nat):Int)).1).1,(aB xs (elt (dflt bW) (bP xs) ((i:Nat):Int)).1).2] [(elt (dflt bW) (bP xs) ((i:Nat):Int)).2.1,(elt (dflt bW) (bP xs) ((i:Nat):Int)).2.2])then true else !bX [(aB xs (elt (dflt bW) (bP xs) ((i:Nat):Int)).2).1,(aB xs (elt (dflt bW) (bP xs) ((i:Nat):Int)).2).2] [(elt (dflt bW) (bP xs) ((i:Nat):Int)).1.1,(elt (dflt bW) (bP xs) ((i:Nat):Int)).1.2])=true:=q
   rw[k1,b2]at q';simp[bX]at q'
  refine aJ (i+1) hlt ?_ (by show(bP xs).length-(i+1)<(bP xs).length-i;omega);refine hd [] rfl (aI ⟨eu (by omega),rfl⟩ trivial) ?_;exact⟨trivial,⟨rfl,trivial⟩,⟨rfl,nP⟩,⟨rfl,nP⟩,trivial⟩
 have hge:i=(bP xs).length:=Nat.le_antisymm hi (Cu q1);subst hge;obtain⟨ps,hps⟩:∃ps,ps=Je more ((bP xs).length:Nat) (bP xs).length ⟨0,0⟩:=⟨_,rfl⟩;have hpl:ps.length=(bP xs).length:=by rw[hps,Bf]
 have hpi:∀x∈ps,0≤x∧x<((bP xs).length:Nat):=by rw[hps];exact KI hbm (by omega) _ _
 have hpc:=Il more hbm (bP xs).length (by omega) ((bP xs).length:Nat);rw[←hps]at hpc;refine Or.inr (Or.inl (eI _ (eI _ (aI hpc ?_))));refine QU Nat (fun i=>[(18,.int .i64 (i:Nat))]) (fun i=>[.aN 5 26 [.rsl aL xs],.row 37 38 4 bW (yM (bP xs) ps i) [],.row 140 2 1 (.int .i64) ps []]) (fun i=>(bP xs).length-i) (fun i=>i≤(bP xs).length) 0 (fun i=>dQ 37 ([.aN 5 26 [.rsl aL xs],.row 37 38 4 bW (yM (bP xs) ps i) [],.row 140 2 1 (.int .i64) ps []])) (QK 37 (fun i=>[.aN 5 26 [.rsl aL xs],.row 37 38 4 bW (yM (bP xs) ps i) [],.row 140 2 1 (.int .i64) ps []])) (Nat.zero_le _) ?_ ?_
 ·refine hd [] rfl (aI ⟨rfl,rfl⟩ trivial) ?_;exact⟨trivial,⟨rfl,trivial⟩,⟨rfl,nP⟩,⟨rfl,nP⟩,trivial⟩
 intro i hi;have hi:i≤(bP xs).length:=hi;refine aI (fun _=> ?_) (fun e=>absurd rfl e);intro us _ hus;refine aI (fun e=>by cases e) (fun _=> ?_);have hsl:=wJ (bP xs) ps i;have hus:us.length=(yM (bP xs) ps i).length*4:=hus;refine aI (fun q1=> ?_) (fun q1=> ?_)
 ·have hlt:i<ps.length:=yX q1;have hi3:(0:Int)≤((i:Nat):Int)∧((i:Nat):Int)<((yM (bP xs) ps i).length:Nat):=⟨by omega,by omega⟩;have hi4:(0:Int)≤((i:Nat):Int)∧((i:Nat):Int)<(ps.length:Nat):=⟨by omega,by omega⟩;have hx:=hpi _ (QH (d:=(0:Int)) hlt);have hx3:(0:Int)≤elt 0 ps ((i:Nat):Int)∧elt 0 ps ((i:Nat):Int)<((yM (bP xs) ps i).length:Nat):=by rw[hsl];exact hx
  refine aI hi3 ?_;refine aI hi4 ?_;refine aI hx3 ?_;refine aI hi4 ?_;refine aI hx3 ?_;refine aI hi3 ?_;refine aI (by kernel_rfl) ?_;refine aI hi4 ?_;refine aI (by rw[List.length_set];exact hx3) ?_;refine aI (by kernel_rfl) ?_;refine dY (i+1) (by show i+1≤(bP xs).length;omega) ?_ (show(bP xs).length-(i+1)<(bP xs).length-i by omega);refine hd [] rfl (aI ⟨eu (by omega),rfl⟩ trivial) ?_;exact⟨trivial,⟨rfl,trivial⟩,⟨rfl,nP⟩,⟨rfl,nP⟩,trivial⟩
 have hge:i=(bP xs).length:=Nat.le_antisymm hi (by rw[←hpl];exact Cu q1);subst hge;have hfok:=K4 hok.wi hwok hpl hpi (bP xs).length (Nat.le_refl _);have hfl:=wJ (bP xs) ps (bP xs).length;have hfr:=Si xs (yM (bP xs) ps (bP xs).length) hok hfok (by rw[hfl];exact hhalf)
 have hfw:aH Try.prog 10 [.rsl aL xs,.sl 10000] [.row 10000 38 4 bW (yM (bP xs) ps (bP xs).length) us] (.tup [.agg [.sl 10001],.int .i64 0]) [.row 10001 34 5 aL xs [],.row 10000 38 4 bW (yM (bP xs) ps (bP xs).length) us]:=
  aH.MQ (r2:=.tup [.agg [.sl 10001],.int .i64 0]) (ts2:=[.row 10001 34 5 aL xs []]) aS [0,0] Oa hfr rfl rfl rfl
 refine Or.inr (Or.inl (eI _ (eI _ (aI hfw ?_))))
 have hsn:aH Try.prog 11 [.agg [.sl 10000],.agg [.rsl aL xs]] [.row 10000 34 5 aL xs []] (.bool true) [.row 10000 34 5 aL xs []]:=
  aH.IJ aS [26,26] CZ (M9 xs (Ku hok)) rfl
 refine Or.inr (aI (fun _=> ?_) (fun gg=>absurd (show(true:Bool)=false from gg) (by decide)));refine eI _ (eI _ (aI hsn ?_));refine fin [] (aI rfl ?_);exact trivial
theorem QS(code:List Int)(hr:∀x∈code,0≤x∧x≤255)(more:List Int)(hs:∀x∈more,0≤x∧x≤255):aP Try.prog 3 [.rsl aU code,.rsl aU more] (.bool true):=(P7 code more hr hs).q rfl
end Go.Proofs.Ytnamelcmcikeoaa
