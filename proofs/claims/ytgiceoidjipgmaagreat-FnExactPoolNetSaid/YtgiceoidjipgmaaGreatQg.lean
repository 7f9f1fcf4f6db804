
/- A pool's memory: its net, by the program. -/
import Derived.Test.YtgiceoidjipgmaaGreatShort
import Derived.Test.YtgiceoidjipgmaaGreatQe
import Derived.Test.YtgiceoidjipgmaaGreatQf
import Derived.Test.YtgiceoidjipgmaaGreatPoolC
import Derived.Test.YtgiceoidjipgmaaGreatJa
set_option maxRecDepth 100000
set_option linter.unusedSimpArgs false
set_option linter.unusedVariables false
namespace Go.Proofs.YtgiceoidjipgmaaGreat
open Go Go.RowKit Go.Proofs Go.Tr
theorem I8(m:bE)(w:ay)(hl:m.1.length≤1048576)(hv:∀c∈m.1,∀x∈bA c,bH m.1 x=true)(hw:bH m.1 w=true):aF Tryz.prog 71 [.rp gK m,vP w] (.tup [vP (bF m.1 (m.1.length+1) w).1,.bool (bF m.1 (m.1.length+1) w).2]):=by
 refine aF.intro (nt:=45) aQ mixed Fh Tryz.func71 rfl rfl rfl rfl rfl ?_;refine lp (Nat×ay) (fun s=>[(6,.int .i64 ((m.1.length:Nat)-(s.1:Nat)))]) (fun s=>[.bY 3 38 [.int .i64 s.2.1,.int .i64 s.2.2],.bY 4 38 [.int .i64 0,.int .i64 0]]) (fun s=>m.1.length+1-s.1) (fun s=>s.1≤m.1.length+1∧bH m.1 s.2=true∧bF m.1 (m.1.length+1) w=bF m.1 (m.1.length+1-s.1) s.2) (0,w) ⟨Nat.zero_le _,hw,rfl⟩ ?_ ?_
 ·exact hd [] rfl (aI (aI (Int.sub_zero _).symm rfl) trivial) ⟨trivial,⟨⟨rfl,rfl⟩,⟨rfl,rfl⟩,trivial⟩,trivial,⟨⟨rfl,rfl⟩,⟨rfl,rfl⟩,trivial⟩,trivial⟩
 rintro⟨j,x⟩ ⟨hj,hx,he⟩;refine aI (fun q1=> ?_) (fun q1=> ?_)
 ·have hlt:j≤m.1.length:=by have q2:decide ((0:Int)≤(m.1.length:Nat)-(j:Nat))=true:=q1;simp only[decide_eq_true_eq]at q2;omega
  have hin:=dD hx;refine aI (fun _=>hin) ?_;refine aI (by kernel_rfl) ?_;have ek:m.1.length+1-j=(m.1.length-j)+1:=by omega
  have hee:bF m.1 (m.1.length+1) w=bF m.1 ((m.1.length-j)+1) x:=by rw[←ek];exact he
  have hcond:(bif x.1 !=2 then true else(((aj m.1 x.2).2.2.2.2.length:Nat):Int)==0)=((x.1 !=2)||(aj m.1 x.2).2.2.2.2.length==0):=by rw[iK];cases x.1 !=2<;>rfl
  refine aI (fun q2=> ?_) (fun q2=> ?_)
  ·have q3:((x.1 !=2)||(aj m.1 x.2).2.2.2.2.length==0)=true:=by rw[←hcond];exact q2
   have e:bF m.1 (m.1.length+1) w=(x,true):=by rw[hee];unfold bF;rw[q3];rfl
   rw[e];exact rfl
  ·have q3:((x.1 !=2)||(aj m.1 x.2).2.2.2.2.length==0)=false:=by rw[←hcond];exact q2
   have q4:0<(aj m.1 x.2).2.2.2.2.length:=by rw[Bool.or_eq_false_iff,beq_eq_false_iff_ne]at q3;omega
   have e:bF m.1 (m.1.length+1) w=bF m.1 (m.1.length-j) ((aj m.1 x.2).2.2.2.2.getD 0 (0,0)):=by
    rw[hee]
    conv=>lhs;unfold bF
    rw[q3];rfl
   refine aI hin ?_;refine aI (show(0:Int)≤0∧(0:Int)<((aj m.1 x.2).2.2.2.2.length:Nat) by omega) ?_;refine aI (by kernel_rfl) ?_;refine aM (j+1,(aj m.1 x.2).2.2.2.2.getD 0 (0,0)) ⟨by show j+1≤_;omega,?_,?_⟩ ?_ ?_
   ·refine qU (p:=fun c=>∀x∈bA c,bH m.1 x=true) hv hin.1 hin.2 _ ?_;rw[List.getD_eq_getElem?_getD,List.getElem?_eq_getElem q4];exact List.getElem_mem q4
   ·rw[e,show m.1.length+1-(j+1)=m.1.length-j by omega]
   ·refine hd [] rfl (aI (aI ?_ rfl) trivial) ⟨trivial,⟨⟨rfl,rfl⟩,⟨rfl,rfl⟩,trivial⟩,trivial,⟨⟨rfl,rfl⟩,⟨rfl,rfl⟩,trivial⟩,trivial⟩;show IntKind.i64.wrap ((m.1.length:Nat)-(j:Nat)-1)=(m.1.length:Nat)-((j+1:Nat):Int);rw[IntWalk.i64_in _ (by omega)];omega
   ·show m.1.length+1-(j+1)<m.1.length+1-j;omega
 ·have hge:j=m.1.length+1:=by
   have q2:decide ((0:Int)≤(m.1.length:Nat)-(j:Nat))=false:=q1;simp only[decide_eq_false_iff_not]at q2;have hj':j≤m.1.length+1:=hj;omega
  subst hge;have e:bF m.1 (m.1.length+1) w=(x,false):=by refine he.trans ?_;show bF m.1 (m.1.length+1-(m.1.length+1)) x=_;rw[Nat.sub_self];rfl
  rw[e];exact rfl
theorem Oe(m:bE)(w:ay)(hl:m.1.length≤1048576)(hv:∀c∈m.1,∀x∈bA c,bH m.1 x=true)(hw:bH m.1 w=true):aF Tryz.prog 96 [.rp gK m,vP w] (.tup [vP (bif (bF m.1 (m.1.length+1) w).2 then(bF m.1 (m.1.length+1) w).1 else(0,0)),.bool (bF m.1 (m.1.length+1) w).2]):=by
 refine aF.intro (nt:=44) aQ mixed IC Tryz.func96 rfl rfl rfl rfl rfl ?_;have hw1:IntKind.i64.wrap ((m.1.length:Int)+1)=((m.1.length+1:Nat):Int):=bD (by omega);refine lp (Nat×ay) (fun s=>[(12,.int .i64 (s.1:Nat))]) (fun s=>[.bY 3 38 [.int .i64 s.2.1,.int .i64 s.2.2],.bY 4 38 [.int .i64 0,.int .i64 0]]) (fun s=>m.1.length+1-s.1) (fun s=>s.1≤m.1.length+1∧bH m.1 s.2=true∧bF m.1 (m.1.length+1) w=bF m.1 (m.1.length+1-s.1) s.2) (0,w) ⟨Nat.zero_le _,hw,rfl⟩ ?_ ?_
 ·exact hd [] rfl (aI (aI rfl rfl) trivial) ⟨trivial,⟨⟨rfl,rfl⟩,⟨rfl,rfl⟩,trivial⟩,trivial,⟨⟨rfl,rfl⟩,⟨rfl,rfl⟩,trivial⟩,trivial⟩
 rintro⟨j,x⟩ ⟨hj,hx,he⟩;have q0:∀b,decide (((j:Nat):Int)<IntKind.i64.wrap ((m.1.length:Int)+1))=b→decide (((j:Nat):Int)<((m.1.length+1:Nat):Int))=b:=fun b h=>by rw[hw1]at h;exact h
 refine aI (fun q1=> ?_) (fun q1=> ?_)
 ·have hlt:j≤m.1.length:=Nat.lt_succ_iff.1 (dX (q0 _ q1));have hin:=dD hx;refine aI (fun _=>hin) ?_;refine aI (by kernel_rfl) ?_;have ek:m.1.length+1-j=(m.1.length-j)+1:=by omega
  have hee:bF m.1 (m.1.length+1) w=bF m.1 ((m.1.length-j)+1) x:=by rw[←ek];exact he
  have hcond:(bif x.1==1 then true else(((aj m.1 x.2).2.2.2.2.length:Nat):Int)==0)=((x.1 !=2)||(aj m.1 x.2).2.2.2.2.length==0):=by rw[iK,(show(x.1==1)=(x.1 !=2) from qb hx)];cases x.1 !=2<;>rfl
  refine aI (fun q2=> ?_) (fun q2=> ?_)
  ·have q3:((x.1 !=2)||(aj m.1 x.2).2.2.2.2.length==0)=true:=by rw[←hcond];exact q2
   have e:bF m.1 (m.1.length+1) w=(x,true):=by rw[hee];unfold bF;rw[q3];rfl
   rw[e];exact rfl
  ·have q3:((x.1 !=2)||(aj m.1 x.2).2.2.2.2.length==0)=false:=by rw[←hcond];exact q2
   have q4:0<(aj m.1 x.2).2.2.2.2.length:=by rw[Bool.or_eq_false_iff,beq_eq_false_iff_ne]at q3;omega
   have e:bF m.1 (m.1.length+1) w=bF m.1 (m.1.length-j) ((aj m.1 x.2).2.2.2.2.getD 0 (0,0)):=by
    rw[hee]
    conv=>lhs;unfold bF
    rw[q3];rfl
   refine aI hin ?_;refine aI (show(0:Int)≤0∧(0:Int)<((aj m.1 x.2).2.2.2.2.length:Nat) by omega) ?_;refine aI (by kernel_rfl) ?_;refine aM (j+1,(aj m.1 x.2).2.2.2.2.getD 0 (0,0)) ⟨by show j+1≤_;omega,?_,?_⟩ ?_ ?_
   ·refine qU (p:=fun c=>∀x∈bA c,bH m.1 x=true) hv hin.1 hin.2 _ ?_;rw[List.getD_eq_getElem?_getD,List.getElem?_eq_getElem q4];exact List.getElem_mem q4
   ·rw[e,show m.1.length+1-(j+1)=m.1.length-j by omega]
   ·exact hd [] rfl (aI (aI (bD (by omega)) rfl) trivial) ⟨trivial,⟨⟨rfl,rfl⟩,⟨rfl,rfl⟩,trivial⟩,trivial,⟨⟨rfl,rfl⟩,⟨rfl,rfl⟩,trivial⟩,trivial⟩
   ·show m.1.length+1-(j+1)<m.1.length+1-j;omega
 ·have hge:m.1.length+1≤j:=dR (q0 _ q1);have hj':j≤m.1.length+1:=hj;have hje:j=m.1.length+1:=by omega
  subst hje;have e:bF m.1 (m.1.length+1) w=(x,false):=by refine he.trans ?_;show bF m.1 (m.1.length+1-(m.1.length+1)) x=_;rw[Nat.sub_self];rfl
  rw[e];exact rfl
theorem Fa:dA Tryz.prog 105=true:=by kernel_rfl
theorem DI(xs:List ah)(us:List Value)(p q:bX)(hp:bq xs p)(hq:bq xs q):aC Tryz.prog 105 [.ptr 10000 0,vP p,vP q] (tA xs us) (.tup []) (tA (gG xs p q) us):=by
 refine aC.expose Fa ?_;intro us' hpre hlen
 skip
 have hq':bq (gI xs p q) q:=hq.set;obtain⟨p1,p2,p3,p4⟩:=hp;obtain⟨q1,q2,q3,q4⟩:=hq';have q2':q.1<(xs.length:Nat):=by rwa[iU]at q2
 refine aC.intro (nt:=32) aQ mixed Fa Tryz.func105 rfl rfl rfl rfl rfl rfl ?_;refine aI ⟨p1,p2⟩ ?_;refine aI (uN hlen p1 p2) ?_;refine aI ⟨p3,p4⟩ ?_;refine eI 10001 (aI ⟨⟨p1,p2,tZ hlen p1 p2 (by decide)⟩,p3,p4⟩ ?_);refine aI (by kernel_rfl) ?_;refine aI ⟨q1,q2⟩ ?_;refine aI (uN hlen q1 q2') ?_;refine aI ⟨q3,q4⟩ ?_;refine eI 10001 (aI ⟨⟨q1,q2,tZ hlen q1 q2' (by decide)⟩,q3,q4⟩ ?_);refine aI (by kernel_rfl) ?_;refine fin [] (aI rfl ?_);exact⟨trivial,⟨rfl,trivial⟩,⟨rfl,hpre⟩,trivial⟩
abbrev Om(m:bE)(A:List ah)(us:List Value)(tv:List (Int×Int))(kv:List (Int×bX)):List Tok:=[.bY 10000 81 [.rp gK m],.bY 10001 34 [.sl 10002],.row 10002 105 5 aL A us,.bY 10003 157 [.mp 10004],.map 10004 (.int .i64) tv,.bY 10005 158 [.mp 10006],.map 10006 aR kv]
set_option maxHeartbeats 1000000 in
theorem NS{xs:List ah}(m:bE)(h:lY xs m)(hl:m.1.length≤1048576)(s:yg)(us:List Value)(tv:List (Int×Int))(hto:∀i:Nat,i<m.1.length→aZ (aj m.1 (i:Nat)).1=true→dI 0 tv (i:Nat)=vo m.1 (i:Nat))(hs:qP m.1 s)(p:bX)(hp:bq (bI m.1 m.1.length) p)(w:ay)(hw:bH m.1 w=true):
  aC Tryz.prog 104 [vP p,vP w,.ptr 10000 0,.ptr 10001 0,.ptr 10003 0,.ptr 10005 0] (Om m s.1 us tv s.2) (.tup []) (Om m (rX m.1 s p w).1 [] tv (rX m.1 s p w).2):=by
 obtain⟨he,hr⟩:=h.res hw;have hq:=Oe m w hl h.words hw;rw[he]at hq;unfold rX;obtain⟨x,hx⟩:∃x,x=(bF m.1 (m.1.length+1) w).1:=⟨_,rfl⟩;rw[←hx]at hr hq ⊢;have hin:=dD hr;refine aC.intro (nt:=41) aQ mixed (by kernel_rfl) Tryz.func104 rfl rfl rfl rfl rfl rfl ?_;refine Or.inl (eI _ (aI hq ?_));cases ht:x.1==1 with
 |true=>
  have e:dI 0 tv x.2=vo m.1 x.2:=by
   have ha:=(mW hr).1;rw[ht]at ha;obtain⟨i,hi⟩:∃i:Nat,x.2=(i:Nat):=⟨x.2.toNat,by omega⟩;rw[hi]at ha ⊢;exact hto i (by omega) ha.symm
  have hq2:bq s.1 (dI 0 tv x.2,0):=by rw[e];exact hs.port (tO hr ht)
  refine aI (fun _=> ?_) (fun q=>by have q:(x.1==1)=false:=q;rw[ht]at q;cases q);refine Or.inr (eI _ (eI _ (aI (DI s.1 us p (dI 0 tv x.2,0) (hs.port hp) hq2) ?_)));rw[←e];refine fin [] (aI rfl ?_);exact⟨trivial,⟨rfl,trivial⟩,trivial,⟨rfl,trivial⟩,⟨rfl,nP⟩,trivial,⟨rfl,trivial⟩,rfl,trivial,⟨rfl,trivial⟩,rfl,trivial⟩
 |false=>
  refine aI (fun q=>by have q:(x.1==1)=true:=q;rw[ht]at q;cases q) (fun _=> ?_)
  conv=>whnf
  cases hk:gF s.2 x.2 with
  |true=>
   refine aI (fun _=> ?_) (fun q=>by have q:gF s.2 x.2=false:=q;rw[hk]at q;cases q);refine Or.inr (eI _ (eI _ (aI (DI s.1 us p (dI (0,0) s.2 x.2) (hs.port hp) (hs.port (hs.kv _ hk))) ?_)));refine fin [] (aI rfl ?_);exact⟨trivial,⟨rfl,trivial⟩,trivial,⟨rfl,trivial⟩,⟨rfl,nP⟩,trivial,⟨rfl,trivial⟩,rfl,trivial,⟨rfl,trivial⟩,rfl,trivial⟩
  |false=>
   refine aI (fun q=>by have q:gF s.2 x.2=true:=q;rw[hk]at q;cases q) (fun _=> ?_);refine fin [] (aI rfl ?_);exact⟨trivial,⟨rfl,trivial⟩,trivial,⟨rfl,trivial⟩,⟨rfl,nP⟩,trivial,⟨rfl,trivial⟩,rfl,trivial,⟨rfl,trivial⟩,rfl,trivial⟩
end Go.Proofs.YtgiceoidjipgmaaGreat
