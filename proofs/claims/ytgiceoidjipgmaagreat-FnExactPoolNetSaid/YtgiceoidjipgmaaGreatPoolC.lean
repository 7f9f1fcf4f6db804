
/- The reference's memories and pools: the small functions. -/
import Derived.Test.YtgiceoidjipgmaaGreatShort
import Derived.Test.YtgiceoidjipgmaaGreatProg
import Derived.Test.YtgiceoidjipgmaaGreatVti
import Derived.Test.YtgiceoidjipgmaaGreatVV
import Derived.Test.YtgiceoidjipgmaaGreatNetS
import Derived.Test.YtgiceoidjipgmaaGreatNn
import Derived.Test.YtgiceoidjipgmaaGreatDPool
import Derived.Test.YtgiceoidjipgmaaGreatSc
set_option maxHeartbeats 4000000
set_option maxRecDepth 100000
set_option linter.unusedSimpArgs false
set_option linter.unusedVariables false
namespace Go.Proofs.YtgiceoidjipgmaaGreat
open Go Go.RowKit Go.Proofs Go.Tr
theorem vG(n:Nat)(k:Nat):((n:Int)==(k:Int))=(n==k):=by rw[Bool.eq_iff_iff];simp only[beq_iff_eq];omega
theorem iK(n:Nat):((n:Int)==0)=(n==0):=by rw[Bool.eq_iff_iff];simp only[beq_iff_eq];omega
theorem dX{k n:Nat}(h:decide (((k:Nat):Int)<((n:Nat):Int))=true):k<n:=by simp only[decide_eq_true_eq]at h;omega
theorem dR{k n:Nat}(h:decide (((k:Nat):Int)<((n:Nat):Int))=false):n≤k:=by simp only[decide_eq_false_iff_not]at h;omega
theorem Ih(n lo hi:Int):aF Tryz.prog 31 [.int .i64 n,.int .i64 lo,.int .i64 hi] (.bool (bJ n lo hi)):=aF.ints (l:=[n,lo,hi]) (by kernel_rfl) (pO n lo hi) fun _ _=>yV _
theorem NK:dA Tryz.prog 115=true:=by kernel_rfl
theorem LA(a:ah):aF Tryz.prog 115 [.rp aL a] (.bool (dz (gA a))):=aF.Mt NK (fun w b o bs h=>Av (gA a) b o bs w (by rw[Ak];exact h)) fun _ _=>yV _
theorem J4(l:List Int)(hl:l.length≤1048576):aF Tryz.prog 32 [.rsl (.int .i64) l] (.bool (iP l)):=by
 refine aF.intro (nt:=19) aQ mixed (by kernel_rfl) Tryz.func32 rfl rfl rfl rfl rfl ?_;refine lp Nat (fun i=>[(3,.int .i64 (i:Nat))]) (fun _=>[]) (fun i=>l.length-i) (fun i=>i≤l.length∧dM i (fun k=>bJ (l.getD k 0) 0 1000000000)=true) 0 ⟨Nat.zero_le _,rfl⟩ ?_ ?_
 ·exact hd [] rfl (aI (aI rfl rfl) trivial) trivial
 rintro i ⟨hi,ha⟩;refine aI (fun q1=> ?_) (fun q1=> ?_)
 ·have hlt:i<l.length:=by simpa using q1
  refine aI (show 0≤((i:Nat):Int)∧((i:Nat):Int)<(l.length:Nat) by omega) ?_;refine Or.inl (eI _ (aI (Ih _ _ _) ?_));refine aI (fun q2=> ?_) (fun q2=> ?_)
  ·have q3:bJ (l.getD i 0) 0 1000000000=false:=by have q4:(!bJ (l.getD i 0) 0 1000000000)=true:=q2;simpa using q4
   have e:iP l=false:=by unfold iP;rw[lM hlt q3];rfl
   rw[e];exact rfl
  ·have q3:bJ (l.getD i 0) 0 1000000000=true:=by have q4:(!bJ (l.getD i 0) 0 1000000000)=false:=q2;simpa using q4
   refine aM (i+1) ⟨hlt,by rw[gN];simp only[ha,q3,Bool.and_true]⟩ ?_ ?_
   ·exact hd [] rfl (aI (aI (bD (by omega)) rfl) trivial) trivial
   ·show l.length-(i+1)<l.length-i;omega
 ·have hge:l.length≤i:=by simpa using q1
  have hie:i=l.length:=by omega
  subst hie;refine Eq.trans (Eq.refl _) ?_;unfold iP;rw[ha];have e:((l.length:Int)==7)=(l.length==7):=by rw[Bool.eq_iff_iff];simp only[beq_iff_eq];omega
  simpa using e
theorem JF(w:dn):aF Tryz.prog 33 [.rp aV w] (.bool (eF w)):=by
 refine aF.intro (nt:=15) aQ mixed (by kernel_rfl) Tryz.func33 rfl rfl rfl rfl rfl ?_;refine Eq.trans (Eq.refl _) ?_;unfold eF;cases w.1==1<;>rfl
theorem uG(c:ah):aF Tryz.prog 70 [.rp aL c] (.bool (aZ c.1)):=by
 refine aF.intro (nt:=8) aQ mixed (by kernel_rfl) Tryz.func70 rfl rfl rfl rfl rfl ?_;refine Or.inl (eI _ (aI (Ih _ _ _) ?_));exact rfl
theorem JH(c:ah)(hl:c.2.2.2.2.length≤1048576):aC Tryz.prog 114 [.rp aL c] [] (.agg [.int .i64 c.1,.int .i64 c.2.1,.int .i64 c.2.2.1,.rsl (.int .i64) c.2.2.2.1,.sl 10000]) [.row 10000 137 2 aR (List.replicate (c.2.2.2.2.length+1) (0,0)) []]:=by
 refine aC.intro (nt:=40) aQ mixed (by kernel_rfl) Tryz.func114 rfl rfl rfl rfl rfl rfl ?_;refine aI (by kernel_rfl) ?_;refine lp Nat (fun i=>[(4,.int .i64 (i:Nat))]) (fun i=>[.bY 2 105 [.int .i64 0,.int .i64 0,.int .i64 0,.raw (.slice none 0 0),.raw (.slice none 0 0)],.bY 3 105 [.int .i64 c.1,.int .i64 c.2.1,.int .i64 c.2.2.1,.rsl (.int .i64) c.2.2.2.1,.sl 20000],.row 20000 137 2 aR (List.replicate (i+1) (0,0)) []]) (fun i=>c.2.2.2.2.length-i) (fun i=>i≤c.2.2.2.2.length) 0 (Nat.zero_le _) ?_ ?_
 ·exact hd [(20000,22)] rfl (aI (aI rfl rfl) trivial) ⟨trivial,⟨⟨rfl,rfl⟩,⟨rfl,rfl⟩,⟨rfl,rfl⟩,rfl,rfl,trivial⟩,trivial,⟨⟨rfl,rfl⟩,⟨rfl,rfl⟩,⟨rfl,rfl⟩,rfl,rfl,trivial⟩,⟨rfl,nP⟩,trivial⟩
 intro i hi;refine aI (fun q1=> ?_) (fun q1=> ?_)
 ·have hlt:i<c.2.2.2.2.length:=by simpa using q1
  refine aI (show(List.replicate (i+1) ((0:Int),(0:Int))).length+1≤1073741824 by rw[List.length_replicate];omega) ?_;refine aM (i+1) hlt ?_ ?_
  ·refine hd [(20000,37)] rfl (aI (aI (bD (by omega)) rfl) trivial) ⟨trivial,⟨⟨rfl,rfl⟩,⟨rfl,rfl⟩,⟨rfl,rfl⟩,rfl,rfl,trivial⟩,trivial,⟨⟨rfl,rfl⟩,⟨rfl,rfl⟩,⟨rfl,rfl⟩,rfl,rfl,trivial⟩,⟨?_,nP⟩,trivial⟩;exact(List.replicate_succ' (n:=i+1) (a:=((0:Int),(0:Int)))).symm
  ·show c.2.2.2.2.length-(i+1)<c.2.2.2.2.length-i;omega
 ·have hge:c.2.2.2.2.length≤i:=by simpa using q1
  have hie:i=c.2.2.2.2.length:=by omega
  subst hie;refine fin [(10000,20000)] (aI rfl ?_);exact⟨⟨rfl,nP⟩,trivial⟩
theorem LQ(c:ah)(n:Int)(hl:c.2.2.2.2.length≤1048576)(hn:0≤n∧n≤1048576):aF Tryz.prog 67 [.rp aL c,.int .i64 n] (.bool (cellS c n)):=by
 refine aF.intro (nt:=82) aQ mixed (by kernel_rfl) Tryz.func67 rfl rfl rfl rfl rfl ?_;have hw:IntKind.i64.wrap (n-1)=n-1:=IntWalk.i64_in _ (by omega);refine aI (fun q1=> ?_) (fun q1=> ?_)
 ·refine Or.inl (eI _ (aI (fun _=>Ih _ _ _) ?_));refine Eq.trans (Eq.refl _) ?_;have e:cellS c n=(((c.2.1==0&&c.2.2.2.1.length==0)&&c.2.2.2.2.length==0)&&bJ c.2.2.1 (-1) (n-1)):=by unfold cellS;rw[show(c.1==0)=true from q1];rfl
  rw[e,hw];rw[show(c.2.2.2.1.length==0)=((c.2.2.2.1.length:Int)==0) from(vG _ _).symm,show(c.2.2.2.2.length==0)=((c.2.2.2.2.length:Int)==0) from(vG _ _).symm];cases c.2.1==0<;>cases ((c.2.2.2.1.length:Int)==0)<;>cases ((c.2.2.2.2.length:Int)==0)<;>rfl
 refine aI (fun q2=> ?_) (fun q2=> ?_)
 ·refine Eq.trans (Eq.refl _) ?_;have e:cellS c n=(((c.2.1==0&&c.2.2.1==0)&&c.2.2.2.1.length==0)&&decide (c.2.2.2.2.length<2)):=by unfold cellS;rw[show(c.1==0)=false from q1,show(c.1==13)=true from q2];rfl
  rw[e];rw[show(c.2.2.2.1.length==0)=((c.2.2.2.1.length:Int)==0) from(vG _ _).symm,show decide (c.2.2.2.2.length<2)=decide ((c.2.2.2.2.length:Int)<2) from decide_eq_decide.2 (by omega)];cases c.2.1==0<;>cases c.2.2.1==0<;>cases ((c.2.2.2.1.length:Int)==0)<;>rfl
 refine Or.inl (eI _ (aI (uG _) ?_));have e:cellS c n=(aZ c.1&&dz (gA (oF c))):=by unfold cellS;rw[show(c.1==0)=false from q1,show(c.1==13)=false from q2];rfl
 refine aI (fun q3=> ?_) (fun q3=> ?_)
 ·refine Or.inr (eI _ (eI _ (aI (JH c hl) ?_)));refine Or.inr (eI _ (eI _ (aI (aC.DW aQ [172] NK (LA (oF c)) rfl) ?_)));rw[e,show aZ c.1=true from q3];exact rfl
 ·rw[e,show aZ c.1=false from q3];exact rfl
theorem KY(m:bE)(hl:m.1.length≤1048576)(hb:(dG m).length≤1048576):aC Tryz.prog 68 [.rp gK m] [] (.sl 10000) [.row 10000 38 2 aR (dG m) []]:=by
 refine aC.intro (nt:=30) aQ mixed (by kernel_rfl) Tryz.func68 rfl rfl rfl rfl rfl rfl ?_;refine lp Nat (fun i=>[(4,.int .i64 (i:Nat)),(3,.sl 20000)]) (fun i=>[.row 20000 38 2 aR (m.2.2.1::(m.1.take i).flatMap fun c=>c.2.2.2.2) []]) (fun i=>m.1.length-i) (fun i=>i≤m.1.length) 0 (Nat.zero_le _) ?_ ?_
 ·exact hd [(20000,9)] rfl (aI (aI rfl rfl) (aI rfl trivial)) ⟨⟨rfl,nP⟩,trivial⟩
 intro i hi;refine aI (fun q1=> ?_) (fun q1=> ?_)
 ·have hlt:i<m.1.length:=by simpa using q1
  have e:=jo (fun c:ah=>c.2.2.2.2) (dflt aL) m.1 hlt;have hle:=lQ (fun c:ah=>c.2.2.2.2) m.1 (i+1);rw[e,List.length_append]at hle;refine aI (show 0≤((i:Nat):Int)∧((i:Nat):Int)<(m.1.length:Nat) by omega) ?_;refine aI ?_ ?_
  ·show(m.2.2.1::(m.1.take i).flatMap fun c=>c.2.2.2.2).length+(m.1.getD i (dflt aL)).2.2.2.2.length≤1073741824;have:(dG m).length=(m.1.flatMap fun c=>c.2.2.2.2).length+1:=rfl;rw[List.length_cons];omega
  refine aM (i+1) hlt ?_ ?_
  ·refine hd [(20000,28)] rfl (aI (aI (bD (by omega)) rfl) (aI rfl trivial)) ⟨⟨?_,nP⟩,trivial⟩;show _=m.2.2.1::(m.1.take (i+1)).flatMap fun c=>c.2.2.2.2
   rw[e];rfl
  ·show m.1.length-(i+1)<m.1.length-i;omega
 ·have hge:m.1.length≤i:=by simpa using q1
  have hie:i=m.1.length:=by omega
  subst hie;refine fin [(10000,20000)] (aI rfl ?_);refine⟨⟨?_,nP⟩,trivial⟩;show(m.2.2.1::(m.1.take m.1.length).flatMap fun c=>c.2.2.2.2)=dG m;rw[List.take_length];rfl
theorem mX{n:Nat}(h:n≤1048576):IntKind.i64.wrap ((n:Int)-1)=(n:Int)-1:=IntWalk.i64_in _ (by omega)
theorem M4(m:bE)(w:ay)(hl:m.1.length≤1048576):aF Tryz.prog 69 [.rp gK m,vP w] (.bool (dJ m.1 w)):=by
 refine aF.intro (nt:=42) aQ mixed (by kernel_rfl) Tryz.func69 rfl rfl rfl rfl rfl ?_;refine Or.inl (eI _ (aI (Ih _ _ _) ?_));refine aI (by kernel_rfl) ?_;refine aI (fun q1=> ?_) (fun q1=> ?_)
 ·have q2:bJ w.2 0 ((m.1.length:Int)-1)=false:=by have q3:(!bJ w.2 0 (IntKind.i64.wrap ((m.1.length:Int)-1)))=true:=q1;rw[mX hl]at q3;simpa using q3
  have e:dJ m.1 w=false:=by unfold dJ;rw[q2];rfl
  rw[e];exact rfl
 ·have q2:bJ w.2 0 ((m.1.length:Int)-1)=true:=by have q3:(!bJ w.2 0 (IntKind.i64.wrap ((m.1.length:Int)-1)))=false:=q1;rw[mX hl]at q3;simpa using q3
  have q4:0≤w.2∧w.2<(m.1.length:Nat):=by simp only[bJ,Bool.and_eq_true,decide_eq_true_eq]at q2;omega
  refine aI q4 ?_;refine aI (by kernel_rfl) ?_;refine Or.inl (eI _ (aI (fun _=>uG _) ?_));refine Eq.trans (Eq.refl _) ?_;unfold dJ;rw[q2,Bool.true_and];show _=((w.1==1&&aZ (aj m.1 w.2).1)||(w.1==2&&(aj m.1 w.2).1==13));unfold aj;cases w.1==1<;>cases w.1==2<;>cases aZ (elt (dflt aL) m.1 w.2).1<;>rfl
theorem vL{xs:List ah}{w:ay}(h:dJ xs w=true):0≤w.2∧w.2<(xs.length:Nat):=by
 unfold dJ at h;simp only[bJ,Bool.and_eq_true,decide_eq_true_eq]at h;omega
theorem qU{xs:List ah}{p:ah→Prop}(h:∀c∈xs,p c){i:Int}(h0:0≤i)(h1:i<(xs.length:Nat)):p (aj xs i):=by
 have e:aj xs i=aj xs (i.toNat:Nat):=oz (by omega);rw[e];exact h _ (bR (by omega))
theorem Fh:dA Tryz.prog 71=true:=by kernel_rfl
theorem Oc(m:bE)(w:ay)(hl:m.1.length≤1048576)(hv:∀c∈m.1,∀x∈c.2.2.2.2,dJ m.1 x=true)(hw:dJ m.1 w=true):aF Tryz.prog 71 [.rp gK m,vP w] (.tup [vP (bF m.1 (m.1.length+1) w).1,.bool (bF m.1 (m.1.length+1) w).2]):=by
 refine aF.intro (nt:=45) aQ mixed Fh Tryz.func71 rfl rfl rfl rfl rfl ?_;refine lp (Nat×ay) (fun s=>[(6,.int .i64 ((m.1.length:Nat)-(s.1:Nat)))]) (fun s=>[.bY 3 38 [.int .i64 s.2.1,.int .i64 s.2.2],.bY 4 38 [.int .i64 0,.int .i64 0]]) (fun s=>m.1.length+1-s.1) (fun s=>s.1≤m.1.length+1∧dJ m.1 s.2=true∧bF m.1 (m.1.length+1) w=bF m.1 (m.1.length+1-s.1) s.2) (0,w) ⟨Nat.zero_le _,hw,rfl⟩ ?_ ?_
 ·exact hd [] rfl (aI (aI (Int.sub_zero _).symm rfl) trivial) ⟨trivial,⟨⟨rfl,rfl⟩,⟨rfl,rfl⟩,trivial⟩,trivial,⟨⟨rfl,rfl⟩,⟨rfl,rfl⟩,trivial⟩,trivial⟩
 rintro⟨j,x⟩ ⟨hj,hx,he⟩;refine aI (fun q1=> ?_) (fun q1=> ?_)
 ·have hlt:j≤m.1.length:=by have q2:decide ((0:Int)≤(m.1.length:Nat)-(j:Nat))=true:=q1;simp only[decide_eq_true_eq]at q2;omega
  have hin:=vL hx;refine aI (fun _=>hin) ?_;refine aI (by kernel_rfl) ?_;have ek:m.1.length+1-j=(m.1.length-j)+1:=by omega
  have hee:bF m.1 (m.1.length+1) w=bF m.1 ((m.1.length-j)+1) x:=by rw[←ek];exact he
  have hcond:(bif x.1 !=2 then true else(((aj m.1 x.2).2.2.2.2.length:Nat):Int)==0)=((x.1 !=2)||(aj m.1 x.2).2.2.2.2.length==0):=by rw[iK];cases x.1 !=2<;>rfl
  refine aI (fun q2=> ?_) (fun q2=> ?_)
  ·have q3:((x.1 !=2)||(aj m.1 x.2).2.2.2.2.length==0)=true:=by rw[←hcond];exact q2
   have e:bF m.1 (m.1.length+1) w=(x,true):=by rw[hee];unfold bF;rw[q3];rfl
   rw[e];exact rfl
  ·have q3:((x.1 !=2)||(aj m.1 x.2).2.2.2.2.length==0)=false:=by rw[←hcond];exact q2
   have q4:0<(aj m.1 x.2).2.2.2.2.length:=by rw[Bool.or_eq_false_iff,beq_eq_false_iff_ne]at q3;omega
   have e:bF m.1 (m.1.length+1) w=bF m.1 (m.1.length-j) ((aj m.1 x.2).2.2.2.2.getD 0 (0,0)):=by
    rw[hee]
    conv=>lhs;unfold bF
    rw[q3];rfl
   refine aI hin ?_;refine aI (show(0:Int)≤0∧(0:Int)<((aj m.1 x.2).2.2.2.2.length:Nat) by omega) ?_;refine aI (by kernel_rfl) ?_;refine aM (j+1,(aj m.1 x.2).2.2.2.2.getD 0 (0,0)) ⟨by show j+1≤_;omega,?_,?_⟩ ?_ ?_
   ·refine qU (p:=fun c=>∀x∈c.2.2.2.2,dJ m.1 x=true) hv hin.1 hin.2 _ ?_;rw[List.getD_eq_getElem?_getD,List.getElem?_eq_getElem q4];exact List.getElem_mem q4
   ·rw[e,show m.1.length+1-(j+1)=m.1.length-j by omega]
   ·refine hd [] rfl (aI (aI ?_ rfl) trivial) ⟨trivial,⟨⟨rfl,rfl⟩,⟨rfl,rfl⟩,trivial⟩,trivial,⟨⟨rfl,rfl⟩,⟨rfl,rfl⟩,trivial⟩,trivial⟩;show IntKind.i64.wrap ((m.1.length:Nat)-(j:Nat)-1)=(m.1.length:Nat)-((j+1:Nat):Int);rw[IntWalk.i64_in _ (by omega)];omega
   ·show m.1.length+1-(j+1)<m.1.length+1-j;omega
 ·have hge:j=m.1.length+1:=by
   have q2:decide ((0:Int)≤(m.1.length:Nat)-(j:Nat))=false:=q1;simp only[decide_eq_false_iff_not]at q2;have hj':j≤m.1.length+1:=hj;omega
  subst hge;have e:bF m.1 (m.1.length+1) w=(x,false):=by refine he.trans ?_;show bF m.1 (m.1.length+1-(m.1.length+1)) x=_;rw[Nat.sub_self];rfl
  rw[e];exact rfl
theorem qC(xs:List ah){i:Nat}(h:i<xs.length):bK (xs.take (i+1))=bK (xs.take i)+(bif (aj xs i).1==0 then 1 else 0):=by
 unfold bK;rw[oH _ (dflt aL) xs h,dQ]
theorem rG(xs:List ah)(i:Nat):bK (xs.take i)≤xs.length:=by
 unfold bK;refine Nat.le_trans List.countP_le_length ?_;rw[List.length_take];omega
theorem JR(m:bE)(hl:m.1.length≤1048576):aF Tryz.prog 72 [.rp gK m] (.bool (bW m.1 (bK m.1) m.2.1)):=by
 refine aF.intro (nt:=64) aQ mixed (by kernel_rfl) Tryz.func72 rfl rfl rfl rfl rfl ?_;refine lp Nat (fun i=>[(4,.int .i64 (i:Nat)),(3,.int .i64 (bK (m.1.take i):Nat))]) (fun _=>[]) (fun i=>m.1.length-i) (fun i=>i≤m.1.length) 0 (Nat.zero_le _) ?_ ?_
 ·exact hd [] rfl (aI (aI rfl rfl) (aI (aI rfl rfl) trivial)) trivial
 intro i hi;refine aI (fun q1=> ?_) (fun q1=> ?_)
 ·have hlt:i<m.1.length:=by simpa using q1
  have hf:=rG m.1 i;refine aI (show 0≤((i:Nat):Int)∧((i:Nat):Int)<(m.1.length:Nat) by omega) ?_;refine aI (fun q2=> ?_) (fun q2=> ?_)
  ·refine aM (i+1) hlt ?_ ?_
   ·refine hd [] rfl (aI (aI (bD (by omega)) rfl) (aI (aI ?_ rfl) trivial)) trivial;rw[qC m.1 hlt,show((aj m.1 (i:Nat)).1==0)=true from q2];exact bD (by omega)
   ·show m.1.length-(i+1)<m.1.length-i;omega
  ·refine aM (i+1) hlt ?_ ?_
   ·refine hd [] rfl (aI (aI (bD (by omega)) rfl) (aI (aI ?_ rfl) trivial)) trivial;rw[qC m.1 hlt,show((aj m.1 (i:Nat)).1==0)=false from q2];rfl
   ·show m.1.length-(i+1)<m.1.length-i;omega
 have hge:m.1.length≤i:=by simpa using q1
 have hie:i=m.1.length:=by omega
 subst hie;have hn:bK (m.1.take m.1.length)=bK m.1:=by rw[List.take_length]
 have hf:=rG m.1 m.1.length;rw[hn]at hf;refine lp (Nat×Int) (fun s=>[(3,.int .i64 ((bK m.1:Nat)-(s.1:Nat))),(5,.int .i64 s.2)]) (fun _=>[]) (fun s=>bK m.1-s.1) (fun s=>s.1≤bK m.1∧bW m.1 (bK m.1) m.2.1=bW m.1 (bK m.1-s.1) s.2) (0,m.2.1) ⟨Nat.zero_le _,rfl⟩ ?_ ?_
 ·refine hd [] rfl (aI (aI ?_ rfl) (aI (aI rfl rfl) trivial)) trivial;rw[hn];exact(Int.sub_zero _).symm
 rintro⟨j,a⟩ ⟨hj,he⟩;refine aI (fun q1=> ?_) (fun q1=> ?_)
 ·have hlt:j<bK m.1:=by have q2:decide ((0:Int)<(bK m.1:Nat)-(j:Nat))=true:=q1;simp only[decide_eq_true_eq]at q2;omega
  have ek:bK m.1-j=(bK m.1-(j+1))+1:=by omega
  rw[ek]at he;refine Or.inl (eI _ (aI (Ih _ _ _) ?_));refine aI (fun q2=> ?_) ?_
  ·have q3:bJ a 0 ((m.1.length:Int)-1)=true:=by
    have q4:(!bJ a 0 (IntKind.i64.wrap ((m.1.length:Int)-1)))=false:=by simpa using q2
    rw[mX hl]at q4;simpa using q4
   simp only[bJ,Bool.and_eq_true,decide_eq_true_eq]at q3;show 0≤a∧a<(m.1.length:Nat);omega
  have hcond:(bif !bJ a 0 (IntKind.i64.wrap ((m.1.length:Int)-1))then true else((aj m.1 a).1 !=0))= !(bJ a 0 ((m.1.length:Int)-1)&&(aj m.1 a).1==0):=by rw[mX hl];cases bJ a 0 ((m.1.length:Int)-1)<;>rfl
  refine aI (fun q2=> ?_) (fun q2=> ?_)
  ·have q3:(bJ a 0 ((m.1.length:Int)-1)&&(aj m.1 a).1==0)=false:=Eq.mp (Bool.not_eq_true' _) (hcond.symm.trans q2);have e:bW m.1 (bK m.1) m.2.1=false:=by refine he.trans ?_;show bW m.1 ((bK m.1-(j+1))+1) a=false;unfold bW;rw[q3];rfl
   rw[e];exact rfl
  ·have q3:(bJ a 0 ((m.1.length:Int)-1)&&(aj m.1 a).1==0)=true:=Eq.mp (Bool.not_eq_false' _) (hcond.symm.trans q2)
   have e:bW m.1 (bK m.1) m.2.1=bW m.1 (bK m.1-(j+1)) (aj m.1 a).2.2.1:=by
    refine he.trans ?_;show bW m.1 ((bK m.1-(j+1))+1) a=_
    conv=>lhs;unfold bW
    rw[q3];rfl
   have q4:0≤a∧a<(m.1.length:Nat):=by simp only[bJ,Bool.and_eq_true,decide_eq_true_eq]at q3;omega
   refine aI q4 ?_;refine aM (j+1,(aj m.1 a).2.2.1) ⟨hlt,e⟩ ?_ ?_
   ·refine hd [] rfl (aI (aI ?_ rfl) (aI (aI rfl rfl) trivial)) trivial;show IntKind.i64.wrap ((bK m.1:Nat)-(j:Nat)-1)=(bK m.1:Nat)-((j+1:Nat):Int);rw[IntWalk.i64_in _ (by omega)];omega
   ·show bK m.1-(j+1)<bK m.1-j;omega
 ·have hge:j=bK m.1:=by
   have q2:decide ((0:Int)<(bK m.1:Nat)-(j:Nat))=false:=q1;simp only[decide_eq_false_iff_not]at q2;have hj':j≤bK m.1:=hj;omega
  subst hge;have e:bW m.1 (bK m.1) m.2.1=(a== -1):=by refine he.trans ?_;show bW m.1 (bK m.1-bK m.1) a=_;rw[Nat.sub_self];rfl
  rw[e];exact rfl
abbrev jy(ws:List dn)(i:Nat):dn:=ws.getD i (dflt aV)
theorem Md(p:fA)(hl:p.2.1.length≤1048576)(hb:(dN p.2.1).length≤1048576):aC Tryz.prog 35 [.rp qm p] [] (.sl 10000) [.row 10000 38 2 aR (dN p.2.1) []]:=by
 refine aC.intro (nt:=57) aQ mixed (by kernel_rfl) Tryz.func35 rfl rfl rfl rfl rfl rfl ?_;refine lp Nat (fun i=>[(4,.int .i64 (i:Nat)),(3,.sl 20000)]) (fun i=>[.row 20000 38 2 aR (dN (p.2.1.take i)) []]) (fun i=>p.2.1.length-i) (fun i=>i≤p.2.1.length) 0 (Nat.zero_le _) ?_ ?_
 ·exact hd [(20000,6)] rfl (aI (aI rfl rfl) (aI rfl trivial)) ⟨⟨rfl,nP⟩,trivial⟩
 intro i hi;refine aI (fun q1=> ?_) (fun q1=> ?_)
 ·have hlt:i<p.2.1.length:=by simpa using q1
  have hii:0≤((i:Nat):Int)∧((i:Nat):Int)<(p.2.1.length:Nat):=by omega
  have e:dN (p.2.1.take (i+1))=dN (p.2.1.take i)++(jy p.2.1 i).2.2.2.1.flatMap fun l:ay×ay=>[l.1,l.2]:=jo (fun w:dn=>w.2.2.2.1.flatMap fun l:ay×ay=>[l.1,l.2]) (dflt aV) p.2.1 hlt
  have hle:(dN (p.2.1.take (i+1))).length≤(dN p.2.1).length:=lQ (fun w:dn=>w.2.2.2.1.flatMap fun l:ay×ay=>[l.1,l.2]) p.2.1 (i+1)
  have hfl:((jy p.2.1 i).2.2.2.1.flatMap fun l:ay×ay=>[l.1,l.2]).length=2*(jy p.2.1 i).2.2.2.1.length:=by
   induction (jy p.2.1 i).2.2.2.1 with
   |nil=>rfl
   |cons x l ih=>rw[List.flatMap_cons,List.length_append,ih];simp only[List.length_cons,List.length_nil];omega
  rw[e,List.length_append]at hle;refine lp Nat (fun k=>[(5,.int .i64 (k:Nat)),(3,.sl 21000)]) (fun k=>[.row 21000 38 2 aR (dN (p.2.1.take i)++((jy p.2.1 i).2.2.2.1.take k).flatMap fun l:ay×ay=>[l.1,l.2]) []]) (fun k=>(jy p.2.1 i).2.2.2.1.length-k) (fun k=>k≤(jy p.2.1 i).2.2.2.1.length) 0 (Nat.zero_le _) ?_ ?_
  ·exact hd [(21000,20000)] rfl (aI (aI rfl rfl) (aI rfl trivial)) ⟨⟨(List.append_nil _).symm,nP⟩,trivial⟩
  intro k hk;refine aI hii ?_;refine aI (fun q2=> ?_) (fun q2=> ?_)
  ·have hkt:k<(jy p.2.1 i).2.2.2.1.length:=dX q2;have hkk:0≤((k:Nat):Int)∧((k:Nat):Int)<((jy p.2.1 i).2.2.2.1.length:Nat):=by omega
   have e2:=jo (fun l:ay×ay=>[l.1,l.2]) ((0,0),(0,0)) (jy p.2.1 i).2.2.2.1 hkt;have hle2:=lQ (fun l:ay×ay=>[l.1,l.2]) (jy p.2.1 i).2.2.2.1 (k+1);rw[e2,List.length_append]at hle2;refine aI hii ?_;refine aI hkk ?_;refine aI hii ?_;refine aI hkk ?_;refine aI ?_ ?_
   ·show(dN (p.2.1.take i)++((jy p.2.1 i).2.2.2.1.take k).flatMap fun l:ay×ay=>[l.1,l.2]).length+2≤1073741824;have h3:([((jy p.2.1 i).2.2.2.1.getD k ((0,0),(0,0))).1,((jy p.2.1 i).2.2.2.1.getD k ((0,0),(0,0))).2]:List ay).length=2:=rfl;rw[List.length_append];omega
   refine aI (by kernel_rfl) ?_;refine aM (k+1) hkt ?_ ?_
   ·refine hd [(21000,55)] rfl (aI (aI (bD (by omega)) rfl) (aI rfl trivial)) ⟨⟨?_,nP⟩,trivial⟩;show(dN (p.2.1.take i)++((jy p.2.1 i).2.2.2.1.take k).flatMap fun l:ay×ay=>[l.1,l.2])++_=dN (p.2.1.take i)++((jy p.2.1 i).2.2.2.1.take (k+1)).flatMap fun l:ay×ay=>[l.1,l.2]
    rw[e2,List.append_assoc];rfl
   ·show(jy p.2.1 i).2.2.2.1.length-(k+1)<(jy p.2.1 i).2.2.2.1.length-k;omega
  ·have hge:(jy p.2.1 i).2.2.2.1.length≤k:=dR q2;have hke:k=(jy p.2.1 i).2.2.2.1.length:=by omega
   subst hke;refine aM (i+1) hlt ?_ ?_
   ·refine hd [(20000,21000)] rfl (aI (aI (bD (by omega)) rfl) (aI rfl trivial)) ⟨⟨?_,nP⟩,trivial⟩;show dN (p.2.1.take i)++((jy p.2.1 i).2.2.2.1.take (jy p.2.1 i).2.2.2.1.length).flatMap _=dN (p.2.1.take (i+1));rw[e,List.take_length]
   ·show p.2.1.length-(i+1)<p.2.1.length-i;omega
 ·have hge:p.2.1.length≤i:=by simpa using q1
  have hie:i=p.2.1.length:=by omega
  subst hie;refine fin [(10000,20000)] (aI rfl ?_);refine⟨⟨?_,nP⟩,trivial⟩;show dN (p.2.1.take p.2.1.length)=dN p.2.1;rw[List.take_length]
theorem I6(p:fA)(hl:p.2.1.length≤1048576)(hb:(dY p.2.1).length≤16777216):aC Tryz.prog 36 [.rp qm p] [] (.sl 10000) [.row 10000 127 2 aR (dY p.2.1) []]:=by
 refine aC.intro (nt:=26) aQ mixed (by kernel_rfl) Tryz.func36 rfl rfl rfl rfl rfl rfl ?_;refine lp Nat (fun i=>[(4,.int .i64 (i:Nat)),(3,.sl 20000)]) (fun i=>[.row 20000 127 2 aR (dY (p.2.1.take i)) []]) (fun i=>p.2.1.length-i) (fun i=>i≤p.2.1.length) 0 (Nat.zero_le _) ?_ ?_
 ·exact hd [(20000,5)] rfl (aI (aI rfl rfl) (aI rfl trivial)) ⟨⟨rfl,nP⟩,trivial⟩
 intro i hi;refine aI (fun q1=> ?_) (fun q1=> ?_)
 ·have hlt:i<p.2.1.length:=by simpa using q1
  have e:dY (p.2.1.take (i+1))=dY (p.2.1.take i)++(jy p.2.1 i).2.2.1:=jo (fun w:dn=>w.2.2.1) (dflt aV) p.2.1 hlt;have hle:(dY (p.2.1.take (i+1))).length≤(dY p.2.1).length:=lQ (fun w:dn=>w.2.2.1) p.2.1 (i+1);rw[e,List.length_append]at hle;refine aI (show 0≤((i:Nat):Int)∧((i:Nat):Int)<(p.2.1.length:Nat) by omega) ?_;refine aI (show(dY (p.2.1.take i)).length+(jy p.2.1 i).2.2.1.length≤1073741824 by omega) ?_;refine aM (i+1) hlt ?_ ?_
  ·refine hd [(20000,24)] rfl (aI (aI (bD (by omega)) rfl) (aI rfl trivial)) ⟨⟨?_,nP⟩,trivial⟩;show _=dY (p.2.1.take (i+1));rw[e];rfl
  ·show p.2.1.length-(i+1)<p.2.1.length-i;omega
 ·have hge:p.2.1.length≤i:=by simpa using q1
  have hie:i=p.2.1.length:=by omega
  subst hie;refine fin [(10000,20000)] (aI rfl ?_);refine⟨⟨?_,nP⟩,trivial⟩;show dY (p.2.1.take p.2.1.length)=dY p.2.1;rw[List.take_length]
theorem Me(xs:List (Int))(f:Nat)(g:Int→Bool)(hl:xs.length≤1048576)(hf:∀i:Nat,i<xs.length→aF Tryz.prog f [.int .i64 (xs.getD i 0)] (.bool (g (xs.getD i 0)))):aF Tryz.prog 140 [.rsl (.int .i64) xs,.fn f []] (.int .i64 (jR g xs 0)):=by
 refine aF.intro (nt:=19) aQ mixed (by kernel_rfl) Tryz.func140 rfl rfl rfl rfl rfl ?_;refine lp Nat (fun i=>[(8,.int .i64 (i:Nat))]) (fun _=>[]) (fun i=>xs.length-i) (fun i=>i≤xs.length∧jR g xs 0=jR g (xs.drop i) i) 0 ⟨Nat.zero_le _,rfl⟩ ?_ ?_
 ·exact hd [] rfl (aI (aI rfl rfl) trivial) trivial
 rintro i ⟨hi,he⟩;refine aI (fun q1=> ?_) (fun q1=> ?_)
 ·have hlt:i<xs.length:=dX q1;refine aI (show 0≤((i:Nat):Int)∧((i:Nat):Int)<(xs.length:Nat) by omega) ?_;refine Or.inl (eI _ (aI (hf i hlt) ?_));rw[zV 0 hlt]at he;refine aI (fun q2=> ?_) (fun q2=> ?_)
  ·rw[he,show jR g (xs.getD i 0::xs.drop (i+1)) i=i by unfold jR;rw[show g (xs.getD i 0)=true from q2];rfl];exact⟨rfl,rfl⟩
  ·refine aM (i+1) ⟨hlt,?_⟩ ?_ ?_
   ·rw[he]
    conv=>lhs;unfold jR
    rw[show g (xs.getD i 0)=false from q2];rfl
   ·exact hd [] rfl (aI (aI (bD (by omega)) rfl) trivial) trivial
   ·show xs.length-(i+1)<xs.length-i;omega
 ·have hge:xs.length≤i:=dR q1;have hie:i=xs.length:=by omega
  subst hie;rw[he,List.drop_length];exact⟨rfl,rfl⟩
theorem LV(xs:List (Int))(f:Nat)(g:Int→Bool)(hl:xs.length≤1048576)(hf:∀i:Nat,i<xs.length→aF Tryz.prog f [.int .i64 (xs.getD i 0)] (.bool (g (xs.getD i 0)))):aF Tryz.prog 123 [.rsl (.int .i64) xs,.fn f []] (.bool (xs.any g)):=by
 refine aF.intro (nt:=9) aQ mixed (by kernel_rfl) Tryz.func123 rfl rfl rfl rfl rfl ?_;refine Or.inl (eI _ (aI (Me xs f g hl hf) ?_));rw[←oL g xs 0 (by omega)];exact rfl
theorem Kq(xs:List (ah))(f:Nat)(g:ah→Bool)(hl:xs.length≤1048576)(hf:∀i:Nat,i<xs.length→aF Tryz.prog f [.agg [.int .i64 (xs.getD i (dflt aL)).1,.int .i64 (xs.getD i (dflt aL)).2.1,.int .i64 (xs.getD i (dflt aL)).2.2.1,.rsl (.int .i64) (xs.getD i (dflt aL)).2.2.2.1,.rsl aR (xs.getD i (dflt aL)).2.2.2.2]] (.bool (g (xs.getD i (dflt aL))))):aF Tryz.prog 125 [.rsl aL xs,.fn f []] (.int .i64 (jR g xs 0)):=by
 refine aF.intro (nt:=19) aQ mixed (by kernel_rfl) Tryz.func125 rfl rfl rfl rfl rfl ?_;refine lp Nat (fun i=>[(8,.int .i64 (i:Nat))]) (fun _=>[]) (fun i=>xs.length-i) (fun i=>i≤xs.length∧jR g xs 0=jR g (xs.drop i) i) 0 ⟨Nat.zero_le _,rfl⟩ ?_ ?_
 ·exact hd [] rfl (aI (aI rfl rfl) trivial) trivial
 rintro i ⟨hi,he⟩;refine aI (fun q1=> ?_) (fun q1=> ?_)
 ·have hlt:i<xs.length:=dX q1;refine aI (show 0≤((i:Nat):Int)∧((i:Nat):Int)<(xs.length:Nat) by omega) ?_;refine Or.inl (eI _ (aI (hf i hlt) ?_));rw[zV (dflt aL) hlt]at he;refine aI (fun q2=> ?_) (fun q2=> ?_)
  ·rw[he,show jR g (xs.getD i (dflt aL)::xs.drop (i+1)) i=i by unfold jR;rw[show g (xs.getD i (dflt aL))=true from q2];rfl];exact⟨rfl,rfl⟩
  ·refine aM (i+1) ⟨hlt,?_⟩ ?_ ?_
   ·rw[he]
    conv=>lhs;unfold jR
    rw[show g (xs.getD i (dflt aL))=false from q2];rfl
   ·exact hd [] rfl (aI (aI (bD (by omega)) rfl) trivial) trivial
   ·show xs.length-(i+1)<xs.length-i;omega
 ·have hge:xs.length≤i:=dR q1;have hie:i=xs.length:=by omega
  subst hie;rw[he,List.drop_length];exact⟨rfl,rfl⟩
theorem JX(xs:List (ah))(f:Nat)(g:ah→Bool)(hl:xs.length≤1048576)(hf:∀i:Nat,i<xs.length→aF Tryz.prog f [.agg [.int .i64 (xs.getD i (dflt aL)).1,.int .i64 (xs.getD i (dflt aL)).2.1,.int .i64 (xs.getD i (dflt aL)).2.2.1,.rsl (.int .i64) (xs.getD i (dflt aL)).2.2.2.1,.rsl aR (xs.getD i (dflt aL)).2.2.2.2]] (.bool (g (xs.getD i (dflt aL))))):aF Tryz.prog 83 [.rsl aL xs,.fn f []] (.bool (xs.any g)):=by
 refine aF.intro (nt:=9) aQ mixed (by kernel_rfl) Tryz.func83 rfl rfl rfl rfl rfl ?_;refine Or.inl (eI _ (aI (Kq xs f g hl hf) ?_));rw[←oL g xs 0 (by omega)];exact rfl
theorem Kt(m:bE)(xs:List (ay))(f:Nat)(g:ay→Bool)(hl:xs.length≤2097152)(hf:∀i:Nat,i<xs.length→aC Tryz.prog f [vP (xs.getD i (0,0)),.ptr 10000 0] [.bY 10000 81 [.rp gK m]] (.bool (g (xs.getD i (0,0)))) [.bY 10000 81 [.rp gK m]]):aC Tryz.prog 128 [.sl 10000,.fn f [.ptr 10001 0]] [.row 10000 38 2 aR xs [],.bY 10001 81 [.rp gK m]] (.int .i64 (jR g xs 0)) [.row 10000 38 2 aR xs [],.bY 10001 81 [.rp gK m]]:=by
 refine aC.intro (nt:=19) aQ mixed (by kernel_rfl) Tryz.func128 rfl rfl rfl rfl rfl rfl ?_;refine lp Nat (fun i=>[(8,.int .i64 (i:Nat))]) (fun _=>[.row 10000 38 2 aR xs [],.bY 10001 81 [.rp gK m]]) (fun i=>xs.length-i) (fun i=>i≤xs.length∧jR g xs 0=jR g (xs.drop i) i) 0 ⟨Nat.zero_le _,rfl⟩ ?_ ?_
 ·exact hd [] rfl (aI (aI rfl rfl) trivial) ⟨⟨rfl,nP⟩,trivial,⟨rfl,trivial⟩,trivial⟩
 rintro i ⟨hi,he⟩;refine aI (fun q1=> ?_) (fun q1=> ?_)
 ·have hlt:i<xs.length:=dX q1;refine aI (show 0≤((i:Nat):Int)∧((i:Nat):Int)<(xs.length:Nat) by omega) ?_;refine Or.inr (eI _ (eI _ (aI (hf i hlt) ?_)));rw[zV (0,0) hlt]at he;refine aI (fun q2=> ?_) (fun q2=> ?_)
  ·rw[he,show jR g (xs.getD i (0,0)::xs.drop (i+1)) i=i by unfold jR;rw[show g (xs.getD i (0,0))=true from q2];rfl];exact fin [] (aI ⟨rfl,rfl⟩ ⟨⟨rfl,nP⟩,trivial,⟨rfl,trivial⟩,trivial⟩)
  ·refine aM (i+1) ⟨hlt,?_⟩ ?_ ?_
   ·rw[he]
    conv=>lhs;unfold jR
    rw[show g (xs.getD i (0,0))=false from q2];rfl
   ·exact hd [] rfl (aI (aI (bD (by omega)) rfl) trivial) ⟨⟨rfl,nP⟩,trivial,⟨rfl,trivial⟩,trivial⟩
   ·show xs.length-(i+1)<xs.length-i;omega
 ·have hge:xs.length≤i:=dR q1;have hie:i=xs.length:=by omega
  subst hie;rw[he,List.drop_length];exact fin [] (aI ⟨rfl,rfl⟩ ⟨⟨rfl,nP⟩,trivial,⟨rfl,trivial⟩,trivial⟩)
theorem JZ(m:bE)(xs:List (ay))(f:Nat)(g:ay→Bool)(hl:xs.length≤2097152)(hf:∀i:Nat,i<xs.length→aC Tryz.prog f [vP (xs.getD i (0,0)),.ptr 10000 0] [.bY 10000 81 [.rp gK m]] (.bool (g (xs.getD i (0,0)))) [.bY 10000 81 [.rp gK m]]):aC Tryz.prog 86 [.sl 10000,.fn f [.ptr 10001 0]] [.row 10000 38 2 aR xs [],.bY 10001 81 [.rp gK m]] (.bool (xs.any g)) [.row 10000 38 2 aR xs [],.bY 10001 81 [.rp gK m]]:=by
 refine aC.intro (nt:=9) aQ mixed (by kernel_rfl) Tryz.func86 rfl rfl rfl rfl rfl rfl ?_;refine Or.inr (eI _ (eI _ (aI (Kt m xs f g hl hf) ?_)));rw[←oL g xs 0 (by omega)];exact fin [] (aI rfl ⟨⟨rfl,nP⟩,trivial,⟨rfl,trivial⟩,trivial⟩)
theorem Kr(m:bE)(xs:List (ay))(f:Nat)(g:ay→Bool)(hl:xs.length≤2097152)(hf:∀i:Nat,i<xs.length→aC Tryz.prog f [vP (xs.getD i (0,0)),.ptr 10000 0] [.bY 10000 81 [.rp gK m]] (.bool (g (xs.getD i (0,0)))) [.bY 10000 81 [.rp gK m]]):aC Tryz.prog 130 [.rsl aR xs,.fn f [.ptr 10000 0]] [.bY 10000 81 [.rp gK m]] (.int .i64 (jR g xs 0)) [.bY 10000 81 [.rp gK m]]:=by
 refine aC.intro (nt:=19) aQ mixed (by kernel_rfl) Tryz.func130 rfl rfl rfl rfl rfl rfl ?_;refine lp Nat (fun i=>[(8,.int .i64 (i:Nat))]) (fun _=>[.bY 10000 81 [.rp gK m]]) (fun i=>xs.length-i) (fun i=>i≤xs.length∧jR g xs 0=jR g (xs.drop i) i) 0 ⟨Nat.zero_le _,rfl⟩ ?_ ?_
 ·exact hd [] rfl (aI (aI rfl rfl) trivial) ⟨trivial,⟨rfl,trivial⟩,trivial⟩
 rintro i ⟨hi,he⟩;refine aI (fun q1=> ?_) (fun q1=> ?_)
 ·have hlt:i<xs.length:=dX q1;refine aI (show 0≤((i:Nat):Int)∧((i:Nat):Int)<(xs.length:Nat) by omega) ?_;refine Or.inr (eI _ (eI _ (aI (hf i hlt) ?_)));rw[zV (0,0) hlt]at he;refine aI (fun q2=> ?_) (fun q2=> ?_)
  ·rw[he,show jR g (xs.getD i (0,0)::xs.drop (i+1)) i=i by unfold jR;rw[show g (xs.getD i (0,0))=true from q2];rfl];exact fin [] (aI ⟨rfl,rfl⟩ ⟨trivial,⟨rfl,trivial⟩,trivial⟩)
  ·refine aM (i+1) ⟨hlt,?_⟩ ?_ ?_
   ·rw[he]
    conv=>lhs;unfold jR
    rw[show g (xs.getD i (0,0))=false from q2];rfl
   ·exact hd [] rfl (aI (aI (bD (by omega)) rfl) trivial) ⟨trivial,⟨rfl,trivial⟩,trivial⟩
   ·show xs.length-(i+1)<xs.length-i;omega
 ·have hge:xs.length≤i:=dR q1;have hie:i=xs.length:=by omega
  subst hie;rw[he,List.drop_length];exact fin [] (aI ⟨rfl,rfl⟩ ⟨trivial,⟨rfl,trivial⟩,trivial⟩)
theorem JY(m:bE)(xs:List (ay))(f:Nat)(g:ay→Bool)(hl:xs.length≤2097152)(hf:∀i:Nat,i<xs.length→aC Tryz.prog f [vP (xs.getD i (0,0)),.ptr 10000 0] [.bY 10000 81 [.rp gK m]] (.bool (g (xs.getD i (0,0)))) [.bY 10000 81 [.rp gK m]]):aC Tryz.prog 90 [.rsl aR xs,.fn f [.ptr 10000 0]] [.bY 10000 81 [.rp gK m]] (.bool (xs.any g)) [.bY 10000 81 [.rp gK m]]:=by
 refine aC.intro (nt:=9) aQ mixed (by kernel_rfl) Tryz.func90 rfl rfl rfl rfl rfl rfl ?_;refine Or.inr (eI _ (eI _ (aI (Kr m xs f g hl hf) ?_)));rw[←oL g xs 0 (by omega)];exact fin [] (aI rfl ⟨trivial,⟨rfl,trivial⟩,trivial⟩)
abbrev zG(c:ah):SV:=.agg [.int .i64 c.1,.int .i64 c.2.1,.int .i64 c.2.2.1,.rsl (.int .i64) c.2.2.2.1,.rsl aR c.2.2.2.2]
abbrev Ou(w:dn):SV:=.agg [.int .i64 w.1,.int .i64 w.2.1,.rsl aR w.2.2.1,.rsl Dh w.2.2.2.1,.rsl (.int .i64) w.2.2.2.2]
theorem Jl(b:Bool):aF Tryz.prog 44 [.bool b] (.int .i64 (bif b then 1 else 0)):=by
 refine aF.intro (nt:=4) aQ mixed (by kernel_rfl) Tryz.func44 rfl rfl rfl rfl rfl ?_;refine aI (fun q=> ?_) (fun q=> ?_)
 ·subst q;exact⟨rfl,rfl⟩
 ·subst q;exact⟨rfl,rfl⟩
theorem NM:dA Tryz.prog 126=true:=by kernel_rfl
theorem Ov(a:ah):aF Tryz.prog 126 [zG a] (.bool (dz (gA a))):=
 aF.Ms (u:=aL) (x:=a) NM (fun w bs us h=>xS (gA a) w (by rw[Ak];exact h)) (fun _ _=>yV _) fun _ _ _ _ _ h1 h2=>MR h1 h2
theorem zi(c:ah):aF Tryz.prog 103 [zG c] (.bool (aZ c.1)):=by
 refine aF.intro (nt:=11) aQ mixed (by kernel_rfl) Tryz.func103 rfl rfl rfl rfl rfl ?_;refine Eq.trans (Eq.refl _) ?_;show(bif decide ((2:Int)≤c.1)then decide (c.1≤12)else false)=_;unfold aZ bJ;cases decide ((2:Int)≤c.1)<;>rfl
theorem Ar(c:ah):aF Tryz.prog 95 [zG c] (.bool (c.1==13)):=by
 refine aF.intro (nt:=6) aQ mixed (by kernel_rfl) Tryz.func95 rfl rfl rfl rfl rfl ?_;exact rfl
theorem vF(c:ah):aF Tryz.prog 127 [zG c] (.bool (c.1==0)):=by
 refine aF.intro (nt:=6) aQ mixed (by kernel_rfl) Tryz.func127 rfl rfl rfl rfl rfl ?_;exact rfl
theorem Km(m:bE)(k:Int):aF Tryz.prog 129 [.rp gK m,.int .i64 k] (.bool (bJ k 0 ((m.1.length:Int)-1))):=by
 refine aF.intro (nt:=16) aQ mixed (by kernel_rfl) Tryz.func129 rfl rfl rfl rfl rfl ?_;refine Eq.trans (Eq.refl _) ?_;show(bif decide ((0:Int)≤k)then decide (k<(m.1.length:Nat))else false)=_;unfold bJ;rw[show decide (k<((m.1.length:Nat):Int))=decide (k≤(m.1.length:Int)-1) from decide_eq_decide.2 (by omega)];cases decide ((0:Int)≤k)<;>rfl
theorem Es(c:ah)(hl:c.2.2.2.2.length≤1048576):aF Tryz.prog 85 [zG c] (.bool (gV c)):=by
 refine aF.intro (nt:=63) aQ mixed (by kernel_rfl) Tryz.func85 rfl rfl rfl rfl rfl ?_;refine Or.inl (eI _ (aI (zi c) ?_));refine aI (fun q1=> ?_) (fun q1=> ?_)
 ·have hw:IntKind.i64.wrap ((c.2.2.2.2.length:Int)+1)=((c.2.2.2.2.length+1:Nat):Int):=bD (by omega);refine aI (show 0≤IntKind.i64.wrap ((c.2.2.2.2.length:Int)+1)∧IntKind.i64.wrap ((c.2.2.2.2.length:Int)+1)≤IntKind.i64.wrap ((c.2.2.2.2.length:Int)+1)∧IntKind.i64.wrap ((c.2.2.2.2.length:Int)+1)≤2097152 by rw[hw];omega) ?_;refine Or.inr (eI _ (eI _ (aI (aC.DW aQ [105] NM (Ov (c.1,c.2.1,c.2.2.1,c.2.2.2.1,List.replicate (IntKind.i64.wrap ((c.2.2.2.2.length:Int)+1)).toNat (0,0))) rfl) ?_)));refine aI (by kernel_rfl) ?_
  have e:gV c=dz (gA (c.1,c.2.1,c.2.2.1,c.2.2.2.1,List.replicate (IntKind.i64.wrap ((c.2.2.2.2.length:Int)+1)).toNat (0,0))):=by
   unfold gV;rw[show aZ c.1=true from q1,hw];rfl
  rw[e];exact rfl
 refine Or.inl (eI _ (aI (Ar c) ?_));refine aI (fun q2=> ?_) (fun q2=> ?_)
 ·refine Eq.trans (Eq.refl _) ?_;have e:gV c=(((c.2.1==0&&c.2.2.1==0)&&c.2.2.2.1.length==0)&&decide (c.2.2.2.2.length≤1)):=by unfold gV;rw[show aZ c.1=false from q1,show(c.1==13)=true from q2];rfl
  rw[e];rw[show(c.2.2.2.1.length==0)=((c.2.2.2.1.length:Int)==0) from(iK _).symm,show decide (c.2.2.2.2.length≤1)=decide ((c.2.2.2.2.length:Int)≤1) from decide_eq_decide.2 (by omega)];cases c.2.1==0<;>cases c.2.2.1==0<;>cases ((c.2.2.2.1.length:Int)==0)<;>rfl
 refine Or.inl (eI _ (aI (vF c) ?_));refine Eq.trans (Eq.refl _) ?_;have e:gV c=(((c.1==0&&c.2.1==0)&&c.2.2.2.1.length==0)&&c.2.2.2.2.length==0):=by unfold gV;rw[show aZ c.1=false from q1,show(c.1==13)=false from q2];rfl
 rw[e];rw[show(c.2.2.2.1.length==0)=((c.2.2.2.1.length:Int)==0) from(iK _).symm,show(c.2.2.2.2.length==0)=((c.2.2.2.2.length:Int)==0) from(iK _).symm];cases c.1==0<;>cases c.2.1==0<;>cases ((c.2.2.2.1.length:Int)==0)<;>rfl
theorem MU(c:ah)(hl:c.2.2.2.2.length≤1048576):aF Tryz.prog 84 [zG c] (.bool (!gV c)):=by
 refine aF.intro (nt:=6) aQ mixed (by kernel_rfl) Tryz.func84 rfl rfl rfl rfl rfl ?_;refine Or.inl (eI _ (aI (Es c hl) ?_));exact rfl
theorem Oy(m:bE)(w:ay):aF Tryz.prog 89 [.rp gK m,vP w] (.bool (dJ m.1 w)):=by
 refine aF.intro (nt:=35) aQ mixed (by kernel_rfl) Tryz.func89 rfl rfl rfl rfl rfl ?_;refine Or.inl (eI _ (aI (Km m w.2) ?_));refine aI (fun q1=> ?_) (fun q1=> ?_)
 ·have q2:bJ w.2 0 ((m.1.length:Int)-1)=false:=Eq.mp (Bool.not_eq_true' _) q1;have e:dJ m.1 w=false:=by unfold dJ;rw[q2];rfl
  rw[e];exact rfl
 have q2:bJ w.2 0 ((m.1.length:Int)-1)=true:=Eq.mp (Bool.not_eq_false' _) q1;have q4:0≤w.2∧w.2<(m.1.length:Nat):=by simp only[bJ,Bool.and_eq_true,decide_eq_true_eq]at q2;omega
 refine aI q4 ?_;refine aI (by kernel_rfl) ?_;refine Or.inl (eI _ (aI (fun _=>zi _) ?_));refine Or.inl (eI _ (aI (fun _=>Ar _) ?_));refine Eq.trans (Eq.refl _) ?_;unfold dJ;rw[q2,Bool.true_and];show _=((w.1==1&&aZ (aj m.1 w.2).1)||(w.1==2&&(aj m.1 w.2).1==13));unfold aj;cases w.1==1<;>cases w.1==2<;>cases aZ (elt (dflt aL) m.1 w.2).1<;>rfl
theorem MJ(m:bE)(p:ay):aF Tryz.prog 92 [.rp gK m,vP p] (.bool (gq m.1 p)):=by
 refine aF.intro (nt:=44) aQ mixed (by kernel_rfl) Tryz.func92 rfl rfl rfl rfl rfl ?_;refine Or.inl (eI _ (aI (fun _=>Km m p.1) ?_));refine Or.inl (eI _ (aI (fun _=>Km m p.2) ?_))
 have hpre:(bif (bif decide (p.1<p.2)then bJ p.1 0 ((m.1.length:Int)-1)else false)then bJ p.2 0 ((m.1.length:Int)-1)else false)=(bJ p.2 1 ((m.1.length:Int)-1)&&bJ p.1 0 (p.2-1)):=by
  have c:∀a b:Bool,(bif a then b else false)=(a&&b):=fun a b=>by cases a<;>rfl
  rw[c,c,Bool.eq_iff_iff];simp only[bJ,Bool.and_eq_true,decide_eq_true_eq];omega
 have hin:(bif (bif decide (p.1<p.2)then bJ p.1 0 ((m.1.length:Int)-1)else false)then bJ p.2 0 ((m.1.length:Int)-1)else false)=true→(0≤p.1∧p.1<(m.1.length:Nat))∧(0≤p.2∧p.2<(m.1.length:Nat)):=fun h=>by
  rw[hpre]at h;simp only[bJ,Bool.and_eq_true,decide_eq_true_eq]at h;omega
 refine aI (fun g=>(hin g).1) ?_;refine Or.inl (eI _ (aI (fun _=>zi _) ?_))
 refine aI (fun g=>(hin (by
  have g2:(bif (bif (bif decide (p.1<p.2)then bJ p.1 0 ((m.1.length:Int)-1)else false)then bJ p.2 0 ((m.1.length:Int)-1)else false)then aZ (aj m.1 p.1).1 else false)=true:=g;cases h:(bif (bif decide (p.1<p.2)then bJ p.1 0 ((m.1.length:Int)-1)else false)then bJ p.2 0 ((m.1.length:Int)-1)else false)with
  |true=>rfl
  |false=>rw[h]at g2;exact g2)).2) ?_
 refine Or.inl (eI _ (aI (fun _=>zi _) ?_));refine aI (by kernel_rfl) ?_
 have e:gq m.1 p=(bif (bif (bif (bif decide (p.1<p.2)then bJ p.1 0 ((m.1.length:Int)-1)else false)then bJ p.2 0 ((m.1.length:Int)-1)else false)then aZ (aj m.1 p.1).1 else false)then aZ (aj m.1 p.2).1 else false):=by
  rw[hpre];unfold gq;cases (bJ p.2 1 ((m.1.length:Int)-1)&&bJ p.1 0 (p.2-1))<;>cases aZ (aj m.1 p.1).1<;>rfl
 rw[e];exact rfl
abbrev tM(m:bE):List Tok:=[.bY 10000 81 [.rp gK m]]
theorem MV(m:bE)(w:ay):aC Tryz.prog 88 [vP w,.ptr 10000 0] (tM m) (.bool (!dJ m.1 w)) (tM m):=by
 refine aC.intro (nt:=8) aQ mixed (by kernel_rfl) Tryz.func88 rfl rfl rfl rfl rfl rfl ?_;refine Or.inl (eI _ (aI (Oy m w) ?_));exact fin [] (aI rfl ⟨trivial,⟨rfl,trivial⟩,trivial⟩)
theorem MW(m:bE)(w:ay):aC Tryz.prog 91 [vP w,.ptr 10000 0] (tM m) (.bool (!gq m.1 w)) (tM m):=by
 refine aC.intro (nt:=8) aQ mixed (by kernel_rfl) Tryz.func91 rfl rfl rfl rfl rfl rfl ?_;refine Or.inl (eI _ (aI (MJ m w) ?_));exact fin [] (aI rfl ⟨trivial,⟨rfl,trivial⟩,trivial⟩)
theorem JE(w:dn):aF Tryz.prog 45 [Ou w] (.bool (eF w)):=by
 refine aF.intro (nt:=11) aQ mixed (by kernel_rfl) Tryz.func45 rfl rfl rfl rfl rfl ?_;refine Eq.trans (Eq.refl _) ?_;unfold eF;cases w.1==1<;>rfl
theorem J2(k:Int):aF Tryz.prog 124 [.int .i64 k] (.bool (!bJ k 0 1000000000)):=by
 refine aF.intro (nt:=9) aQ mixed (by kernel_rfl) Tryz.func124 rfl rfl rfl rfl rfl ?_;refine Eq.trans (Eq.refl _) ?_;show(bif decide (k<0)then true else decide (1000000000<k))=_;unfold bJ;rw[show decide (k<0)= !decide (0≤k) by rw[←decide_not];exact decide_eq_decide.2 (by omega),show decide (1000000000<k)= !decide (k≤1000000000) by rw[←decide_not];exact decide_eq_decide.2 (by omega)];cases decide (0≤k)<;>cases decide (k≤1000000000)<;>rfl
theorem BG(l:List Int):iP l=(bif (l.length:Int)==7 then !(l.any fun k=> !bJ k 0 1000000000)else false):=by
 unfold iP;rw[show((l.length:Int)==7)=(l.length==7) from vG _ 7]
 have e:dM l.length (fun k=>bJ (l.getD k 0) 0 1000000000)= !(l.any fun k=> !bJ k 0 1000000000):=by
  rw[←List.all_eq_not_any_not,Bool.eq_iff_iff,vg,List.all_eq_true];constructor
  ·intro h x hx;obtain⟨i,hi,rfl⟩:=List.mem_iff_getElem.1 hx;have:=h i hi
   rwa[List.getD_eq_getElem?_getD,List.getElem?_eq_getElem hi]at this
  ·intro h i hi;rw[List.getD_eq_getElem?_getD,List.getElem?_eq_getElem hi];exact h _ (List.getElem_mem hi)
 rw[e];cases l.length==7<;>cases (l.any fun k=> !bJ k 0 1000000000)<;>rfl
theorem J3(l:List Int)(hl:l.length≤1048576):aF Tryz.prog 82 [.rsl (.int .i64) l] (.bool (iP l)):=by
 refine aF.intro (nt:=11) aQ mixed (by kernel_rfl) Tryz.func82 rfl rfl rfl rfl rfl ?_;refine Or.inl (eI _ (aI (fun _=>LV l _ (fun k=> !bJ k 0 1000000000) hl fun i _=>J2 _) ?_));rw[BG];exact rfl
theorem KZ(w:dn)(n:Nat)(hl:w.2.2.2.2.length≤1048576):aF Tryz.prog 43 [Ou w,.int .i64 (n:Nat)] (.bool (fG n w)):=by
 refine aF.intro (nt:=51) aQ mixed (by kernel_rfl) Tryz.func43 rfl rfl rfl rfl rfl ?_;refine Or.inl (eI _ (aI (fun _=>J3 _ hl) ?_))
 have hA:(bif (bif (bif decide (w.1<1)then true else decide (4<w.1))then true else decide (w.2.1<0))then true else decide (((n:Nat):Int)≤w.2.1))= !(bJ w.1 1 4&&bJ w.2.1 0 ((n:Int)-1)):=by
  unfold bJ;rw[show decide (w.1<1)= !decide (1≤w.1) by rw[←decide_not];exact decide_eq_decide.2 (by omega),show decide (4<w.1)= !decide (w.1≤4) by rw[←decide_not];exact decide_eq_decide.2 (by omega),show decide (w.2.1<0)= !decide (0≤w.2.1) by rw[←decide_not];exact decide_eq_decide.2 (by omega),show decide (((n:Nat):Int)≤w.2.1)= !decide (w.2.1≤(n:Int)-1) by rw[←decide_not];exact decide_eq_decide.2 (by omega)];cases decide (1≤w.1)<;>cases decide (w.1≤4)<;>cases decide (0≤w.2.1)<;>cases decide (w.2.1≤(n:Int)-1)<;>rfl
 have hB:(bif (bif (bif (bif (bif decide (w.1<1)then true else decide (4<w.1))then true else decide (w.2.1<0))then true else decide (((n:Nat):Int)≤w.2.1))then true else !iP w.2.2.2.2)then true else decide ((1500:Int)<(w.2.2.2.1.length:Nat)))= !(((bJ w.1 1 4&&bJ w.2.1 0 ((n:Int)-1))&&iP w.2.2.2.2)&&decide (w.2.2.2.1.length≤1500)):=by
  rw[hA,show decide ((1500:Int)<(w.2.2.2.1.length:Nat))= !decide (w.2.2.2.1.length≤1500) by rw[←decide_not];exact decide_eq_decide.2 (by omega)];cases (bJ w.1 1 4&&bJ w.2.1 0 ((n:Int)-1))<;>cases iP w.2.2.2.2<;>cases decide (w.2.2.2.1.length≤1500)<;>rfl
 refine aI (fun q1=> ?_) (fun q1=> ?_)
 ·have q2:=Eq.mp (Bool.not_eq_true' _) (hB.symm.trans q1);have e:fG n w=false:=by unfold fG;rw[q2];rfl
  rw[e];exact rfl
 ·have q2:=Eq.mp (Bool.not_eq_false' _) (hB.symm.trans q1);refine Eq.trans (Eq.refl _) ?_;unfold fG;rw[q2,Bool.true_and,←iK,←iK];cases w.1==1<;>cases ((w.2.2.1.length:Int)==0)<;>cases ((w.2.2.2.1.length:Int)==0)<;>rfl
theorem CB{c:ah}(h:dz (gA (oF c))=true):c.2.2.2.2.length≤4:=by
 unfold dz at h;simp only[Bool.and_eq_true,beq_iff_eq]at h;have h1:=h.1.1.2;have e:((gA (oF c)).aH.length:Int)=((c.2.2.2.2.length+1:Nat):Int):=by simp[gA,oF]
 rw[e]at h1
 have h2:dw (gA (oF c)).kind (fieldsOf (gA (oF c)))≤4:=by
  unfold dw
  repeat' split
  all_goals first|omega|(rename_i h3;have:=EU h3;omega)
 omega
theorem vR{c:ah}{n:Int}(h:cellS c n=true):c.2.2.2.2.length≤4:=by
 unfold cellS at h;cases h0:c.1==0 with
 |true=>rw[h0]at h;simp only[cond_true,Bool.and_eq_true,beq_iff_eq]at h;omega
 |false=>
  rw[h0]at h;cases h1:c.1==13 with
  |true=>rw[h1]at h;simp only[cond_true,cond_false,Bool.and_eq_true,decide_eq_true_eq]at h;omega
  |false=>rw[h1]at h;simp only[cond_false,Bool.and_eq_true]at h;exact CB h.2
theorem jO{α β:Type}(f:α→List β)(k:Nat):∀(xs:List α),(∀x∈xs,(f x).length≤k)→(xs.flatMap f).length≤k*xs.length
 |[],_=>by simp
 |x::xs,h=>by
  rw[List.flatMap_cons,List.length_append,List.length_cons,Nat.mul_add];have h1:=h x (by simp);have h2:=jO f k xs fun y hy=>h y (by simp[hy])
  omega
theorem Dk{m:bE}{n:Int}(h:m.1.all (fun c=>cellS c n)=true)(hl:m.1.length≤1500):(dG m).length≤6001:=by
 have h1:=jO (fun c:ah=>c.2.2.2.2) 4 m.1 fun c hc=>vR (mZ h hc)
 have h2:(dG m).length=(m.1.flatMap fun c=>c.2.2.2.2).length+1:=rfl;omega
theorem IG:dA Tryz.prog 34=true:=by kernel_rfl
theorem M0(m:bE)(held rs:List ay)(hl:m.1.length≤1048576)(hc:∀c∈m.1,c.2.2.2.2.length≤1048576)(hh:held.length≤1048576)(hr:rs.length≤16777216):aF Tryz.prog 34 [.rp gK m,.rsl aR held,.rsl aR rs] (.bool (mF m held rs)):=by
 refine aF.intro (nt:=202) aQ mixed IG Tryz.func34 rfl rfl rfl rfl rfl ?_;refine Or.inl (eI _ (aI (Ih _ _ _) ?_))
 have hcond0:(bif !bJ (m.1.length:Nat) 1 1500 then true else decide (((m.1.length:Nat):Int)<((rs.length:Nat):Int)))= !(bJ m.1.length 1 1500&&decide (rs.length≤m.1.length)):=by
  have e:decide (((m.1.length:Nat):Int)<((rs.length:Nat):Int))= !decide (rs.length≤m.1.length):=by rw[←decide_not];exact decide_eq_decide.2 (by omega)
  rw[e];cases bJ (m.1.length:Nat) 1 1500<;>rfl
 refine aI (fun q1=> ?_) (fun q1=> ?_)
 ·have a1:(bJ m.1.length 1 1500&&decide (rs.length≤m.1.length))=false:=Eq.mp (Bool.not_eq_true' _) (hcond0.symm.trans q1);have e:mF m held rs=false:=by unfold mF;rw[a1];rfl
  rw[e];exact rfl
 have a1:(bJ m.1.length 1 1500&&decide (rs.length≤m.1.length))=true:=Eq.mp (Bool.not_eq_false' _) (hcond0.symm.trans q1);have hn:m.1.length≤1500∧rs.length≤m.1.length:=by simp only[bJ,Bool.and_eq_true,decide_eq_true_eq]at a1;omega
 refine lp Nat (fun i=>[(9,.int .i64 (i:Nat)),(8,.sl 20000)]) (fun i=>[.row 20000 2 1 (.int .i64) (List.replicate i 0) []]) (fun i=>m.1.length-i) (fun i=>i≤m.1.length∧(m.1.take i).all (fun c=>cellS c m.1.length)=true) 0 ⟨Nat.zero_le _,rfl⟩ ?_ ?_
 ·exact hd [(20000,32)] rfl (aI (aI rfl rfl) (aI rfl trivial)) ⟨⟨rfl,nP⟩,trivial⟩
 rintro i ⟨hi,ha⟩;refine aI (fun q2=> ?_) (fun q2=> ?_)
 ·have hlt:i<m.1.length:=dX q2;refine aI (show 0≤((i:Nat):Int)∧((i:Nat):Int)<(m.1.length:Nat) by omega) ?_;refine Or.inl (eI _ (aI (LQ (aj m.1 (i:Nat)) _ (hc _ (bR hlt)) ⟨by omega,by omega⟩) ?_));refine aI (fun q3=> ?_) (fun q3=> ?_)
  ·have q4:cellS (aj m.1 (i:Nat)) m.1.length=false:=Eq.mp (Bool.not_eq_true' _) q3;have b1:m.1.all (fun c=>cellS c m.1.length)=false:=Bq _ (dflt aL) m.1 hlt (by rw[←dQ];exact q4);have e:mF m held rs=false:=by unfold mF;rw[b1];simp
   rw[e];exact rfl
  have q4:cellS (aj m.1 (i:Nat)) m.1.length=true:=Eq.mp (Bool.not_eq_false' _) q3;refine aI (show(List.replicate i (0:Int)).length+1≤1073741824 by rw[List.length_replicate];omega) ?_;refine aM (i+1) ⟨hlt,?_⟩ ?_ ?_
  ·rw[l8 _ (dflt aL) m.1 hlt,ha,←dQ,q4];rfl
  ·refine hd [(20000,53)] rfl (aI (aI (bD (by omega)) rfl) (aI rfl trivial)) ⟨⟨?_,nP⟩,trivial⟩;exact(List.replicate_succ' (n:=i) (a:=(0:Int))).symm
  ·show m.1.length-(i+1)<m.1.length-i;omega
 have hge:m.1.length≤i:=dR q2;have hie:i=m.1.length:=by omega
 subst hie;rw[List.take_length]at ha;have hwb:=Dk ha hn.1;refine Or.inr (eI _ (eI _ (aI (KY m hl (by omega)) ?_)));refine aI (show(dG m).length+held.length≤1073741824 by omega) ?_;generalize hW:dG m++held=ws;have hwl:ws.length≤1054577:=by rw[←hW,List.length_append];omega
 refine lp Nat (fun i=>[(11,.int .i64 (i:Nat)),(8,.sl 20000),(10,.sl 20001)]) (fun i=>[.row 20000 2 1 (.int .i64) (jv (List.replicate m.1.length 0) (ws.take i)) [],.row 20001 38 2 aR ws []]) (fun i=>ws.length-i) (fun i=>i≤ws.length∧(ws.take i).all (dJ m.1)=true) 0 ⟨Nat.zero_le _,rfl⟩ ?_ ?_
 ·exact hd [(20000,20000),(20001,57)] rfl (aI (aI rfl rfl) (aI rfl (aI rfl trivial))) ⟨⟨rfl,nP⟩,⟨hW,nP⟩,trivial⟩
 rintro i ⟨hi,hb⟩;refine aI (fun q3=> ?_) (fun q3=> ?_)
 ·have hlt:i<ws.length:=dX q3;have hii:0≤((i:Nat):Int)∧((i:Nat):Int)<(ws.length:Nat):=by omega
  refine aI hii ?_;refine Or.inl (eI _ (aI (M4 m (ws.getD i (0,0)) hl) ?_));refine aI (fun q4=> ?_) (fun q4=> ?_)
  ·have q5:dJ m.1 (ws.getD i (0,0))=false:=Eq.mp (Bool.not_eq_true' _) q4;have b1:ws.all (dJ m.1)=false:=Bq _ (0,0) ws hlt q5;have e:mF m held rs=false:=by unfold mF;rw[hW,b1];simp
   rw[e];exact rfl
  have q5:dJ m.1 (ws.getD i (0,0))=true:=Eq.mp (Bool.not_eq_false' _) q4;have hin:=vL q5;have hul:(jv (List.replicate m.1.length 0) (ws.take i)).length=m.1.length:=by rw[p9,List.length_replicate]
  have hin':0≤(ws.getD i (0,0)).2∧(ws.getD i (0,0)).2<((jv (List.replicate m.1.length 0) (ws.take i)).length:Nat):=by rw[hul];exact hin
  refine aI hii ?_;refine aI hin' ?_;refine aI hin' ?_;refine aM (i+1) ⟨hlt,?_⟩ ?_ ?_
  ·rw[l8 _ (0,0) ws hlt,hb,q5];rfl
  ·refine hd [(20000,20000),(20001,20001)] rfl (aI (aI (bD (by omega)) rfl) (aI rfl (aI rfl trivial))) ⟨⟨?_,nP⟩,⟨rfl,nP⟩,trivial⟩;show _=jv (List.replicate m.1.length 0) (ws.take (i+1));rw[xP _ ws hlt];rfl
  ·show ws.length-(i+1)<ws.length-i;omega
 have hge2:ws.length≤i:=dR q3;have hie2:i=ws.length:=by omega
 subst hie2;rw[List.take_length]at hb;have hul:(jv (List.replicate m.1.length 0) ws).length=m.1.length:=by rw[p9,List.length_replicate]
 generalize hU:jv (List.replicate m.1.length 0) ws=us1 at hul;refine lp Nat (fun i=>[(12,.int .i64 (i:Nat)),(8,.sl 20000)]) (fun i=>[.row 20000 2 1 (.int .i64) (gP us1 (rs.take i)) []]) (fun i=>rs.length-i) (fun i=>i≤rs.length∧(rs.take i).all (gq m.1)=true) 0 ⟨Nat.zero_le _,rfl⟩ ?_ ?_
 ·refine hd [(20000,20000)] rfl (aI (aI rfl rfl) (aI rfl trivial)) ⟨⟨?_,nP⟩,trivial⟩;rw[List.take_length];exact hU
 rintro i ⟨hi,hc3⟩;refine aI (fun q3=> ?_) (fun q3=> ?_)
 ·have hlt:i<rs.length:=dX q3;have hii:0≤((i:Nat):Int)∧((i:Nat):Int)<(rs.length:Nat):=by omega
  refine aI hii ?_
  have hAB:∀p:ay,(bif !bJ p.2 1 (IntKind.i64.wrap ((m.1.length:Int)-1))then true else !bJ p.1 0 (IntKind.i64.wrap (p.2-1)))= !(bJ p.2 1 ((m.1.length:Int)-1)&&bJ p.1 0 (p.2-1)):=fun p=>by
   rw[mX hl];cases h:bJ p.2 1 ((m.1.length:Int)-1)with
   |false=>rfl
   |true=>
    have hw2:IntKind.i64.wrap (p.2-1)=p.2-1:=by
     simp only[bJ,Bool.and_eq_true,decide_eq_true_eq]at h;exact IntWalk.i64_in _ (by omega)
    rw[hw2];cases bJ p.1 0 (p.2-1)<;>rfl
  have hABt:∀p:ay,(!(bif !bJ p.2 1 (IntKind.i64.wrap ((m.1.length:Int)-1))then true else !bJ p.1 0 (IntKind.i64.wrap (p.2-1))))=true→(0≤p.1∧p.1<(m.1.length:Nat))∧(0≤p.2∧p.2<(m.1.length:Nat)):=fun p h=>by
   rw[hAB p,Bool.not_not]at h;simp only[bJ,Bool.and_eq_true,decide_eq_true_eq]at h;omega
  have hcond:∀p:ay,(bif (bif (bif !bJ p.2 1 (IntKind.i64.wrap ((m.1.length:Int)-1))then true else !bJ p.1 0 (IntKind.i64.wrap (p.2-1)))then true else !aZ (aj m.1 p.1).1)then true else !aZ (aj m.1 p.2).1)= !gq m.1 p:=fun p=>by
   rw[hAB p];unfold gq;cases (bJ p.2 1 ((m.1.length:Int)-1)&&bJ p.1 0 (p.2-1))<;>cases aZ (aj m.1 p.1).1<;>cases aZ (aj m.1 p.2).1<;>rfl
  refine Or.inl (eI _ (aI (Ih _ _ _) ?_));refine Or.inl (eI _ (aI (fun _=>Ih _ _ _) ?_));refine aI (fun g1=>(hABt _ g1).1) ?_;refine Or.inl (eI _ (aI (fun _=>uG _) ?_))
  refine aI (fun g1=>(hABt (rs.getD i (0,0)) (by
   have g2:(!(bif (bif !bJ (rs.getD i (0,0)).2 1 (IntKind.i64.wrap ((m.1.length:Int)-1))then true else !bJ (rs.getD i (0,0)).1 0 (IntKind.i64.wrap ((rs.getD i (0,0)).2-1)))then true else !aZ (aj m.1 (rs.getD i (0,0)).1).1))=true:=g1;cases h:(bif !bJ (rs.getD i (0,0)).2 1 (IntKind.i64.wrap ((m.1.length:Int)-1))then true else !bJ (rs.getD i (0,0)).1 0 (IntKind.i64.wrap ((rs.getD i (0,0)).2-1)))with
   |false=>rfl
   |true=>rw[h]at g2;cases g2)).2) ?_
  refine Or.inl (eI _ (aI (fun _=>uG _) ?_));refine aI (by kernel_rfl) ?_;refine aI (fun q4=> ?_) (fun q4=> ?_)
  ·have q5:gq m.1 (rs.getD i (0,0))=false:=Eq.mp (Bool.not_eq_true' _) ((hcond _).symm.trans q4);have b1:rs.all (gq m.1)=false:=Bq _ (0,0) rs hlt q5;have e:mF m held rs=false:=by unfold mF;rw[b1];simp
   rw[e];exact rfl
  have q5:gq m.1 (rs.getD i (0,0))=true:=Eq.mp (Bool.not_eq_false' _) ((hcond _).symm.trans q4)
  have hin:(0≤(rs.getD i (0,0)).1∧(rs.getD i (0,0)).1<(m.1.length:Nat))∧(0≤(rs.getD i (0,0)).2∧(rs.getD i (0,0)).2<(m.1.length:Nat)):=by
   unfold gq at q5;simp only[bJ,Bool.and_eq_true,decide_eq_true_eq]at q5;omega
  have hur:(gP us1 (rs.take i)).length=m.1.length:=by rw[p8,hul]
  have hur2:(nS (gP us1 (rs.take i)) (rs.getD i (0,0)).1).length=m.1.length:=by rw[l9,hur]
  have k1:0≤(rs.getD i (0,0)).1∧(rs.getD i (0,0)).1<((gP us1 (rs.take i)).length:Nat):=by rw[hur];exact hin.1
  have k2:0≤(rs.getD i (0,0)).2∧(rs.getD i (0,0)).2<((nS (gP us1 (rs.take i)) (rs.getD i (0,0)).1).length:Nat):=by rw[hur2];exact hin.2
  refine aI k1 ?_;refine aI k1 ?_;refine aI k2 ?_;refine aI k2 ?_;refine aM (i+1) ⟨hlt,?_⟩ ?_ ?_
  ·rw[l8 _ (0,0) rs hlt,hc3,q5];rfl
  ·refine hd [(20000,20000)] rfl (aI (aI (bD (by omega)) rfl) (aI rfl trivial)) ⟨⟨?_,nP⟩,trivial⟩;show _=gP us1 (rs.take (i+1));rw[xM _ rs hlt];rfl
  ·show rs.length-(i+1)<rs.length-i;omega
 have hge3:rs.length≤i:=dR q3;have hie3:i=rs.length:=by omega
 subst hie3;rw[List.take_length]at hc3;have hur:(gP us1 rs).length=m.1.length:=by rw[p8,hul]
 have huses:mV m.1 (dG m++held) rs=gP us1 rs:=by unfold mV;rw[hW,hU]
 generalize hU2:gP us1 rs=us2 at hur huses
 have hval:∀c∈m.1,∀x∈c.2.2.2.2,dJ m.1 x=true:=fun c hc x hx=>mZ hb (by
  rw[←hW];refine List.mem_append.2 (.inl (List.mem_cons_of_mem _ ?_));exact List.mem_flatMap.2 ⟨c,hc,hx⟩)
 refine lp Nat (fun i=>[(14,.int .i64 (i:Nat)),(8,.sl 20000)]) (fun i=>[.row 20000 2 1 (.int .i64) us2 []]) (fun i=>m.1.length-i) (fun i=>i≤m.1.length∧dM i (rT m.1 us2)=true) 0 ⟨Nat.zero_le _,rfl⟩ ?_ ?_
 ·refine hd [(20000,20000)] rfl (aI (aI rfl rfl) (aI rfl trivial)) ⟨⟨?_,nP⟩,trivial⟩;rw[List.take_length];exact hU2
 rintro i ⟨hi,ho⟩;refine aI (fun q4=> ?_) (fun q4=> ?_)
 ·have hlt:i<m.1.length:=dX q4;have hii:0≤((i:Nat):Int)∧((i:Nat):Int)<(m.1.length:Nat):=by omega
  have hiu:0≤((i:Nat):Int)∧((i:Nat):Int)<(us2.length:Nat):=by rw[hur];exact hii
  refine aI hii ?_;refine Or.inl (eI _ (aI (uG _) ?_));refine aI (fun _=>hiu) ?_;refine aI (fun _=>hiu) ?_;refine aI (by kernel_rfl) ?_;have hw4:=vR (mZ ha (bR hlt));have hwr:IntKind.i64.wrap (2-((aj m.1 (i:Nat)).2.2.2.2.length:Int))=2-((aj m.1 (i:Nat)).2.2.2.2.length:Int):=IntWalk.i64_in _ (by omega)
  have hcond:(bif (bif aZ (aj m.1 (i:Nat)).1 then us2.getD i 0 !=1 else false)then true else(bif (aj m.1 (i:Nat)).1==13 then us2.getD i 0 !=IntKind.i64.wrap (2-((aj m.1 (i:Nat)).2.2.2.2.length:Int))else false))=((aZ (aj m.1 (i:Nat)).1&&us2.getD i 0 !=1)||((aj m.1 (i:Nat)).1==13&&us2.getD i 0 !=2-((aj m.1 (i:Nat)).2.2.2.2.length:Int))):=by
   rw[hwr];cases aZ (aj m.1 (i:Nat)).1<;>cases us2.getD i 0 !=1<;>cases (aj m.1 (i:Nat)).1==13<;>rfl
  refine aI (fun q5=> ?_) (fun q5=> ?_)
  ·have q6:=hcond.symm.trans q5
   have e1:rT m.1 us2 i=false:=by
    unfold rT;rw[Bool.or_eq_true]at q6;rcases q6 with h|h
    ·rw[h];rfl
    ·rw[Bool.and_eq_true,bne,Bool.not_eq_true']at h;rw[h.1,h.2];simp
   have e:mF m held rs=false:=by unfold mF;rw[huses,lM hlt e1];simp
   rw[e];exact rfl
  have q6:=hcond.symm.trans q5;rw[Bool.or_eq_false_iff]at q6;refine aI (fun q7=> ?_) (fun q7=> ?_)
  ·have q8:((aj m.1 (i:Nat)).1==13)=true:=q7;have hv13:dJ m.1 (2,(i:Int))=true:=by unfold dJ;simp only[q8];simp[bJ];omega
   have e1:rT m.1 us2 i=(bF m.1 (m.1.length+1) (2,(i:Int))).2:=by
    unfold rT;have h2:=q6.2;rw[q8,Bool.true_and,bne,Bool.not_eq_false']at h2;rw[q6.1,q8,h2];simp
   refine Or.inl (eI _ (aI (Oc m (2,(i:Int)) hl hval hv13) ?_));refine aI (fun q9=> ?_) (fun q9=> ?_)
   ·have e2:rT m.1 us2 i=false:=by rw[e1];exact Eq.mp (Bool.not_eq_true' _) q9
    have e:mF m held rs=false:=by unfold mF;rw[huses,lM hlt e2];simp
    rw[e];exact rfl
   have e2:rT m.1 us2 i=true:=by rw[e1];exact Eq.mp (Bool.not_eq_false' _) q9
   refine aM (i+1) ⟨hlt,by rw[gN,ho,e2];rfl⟩ ?_ ?_
   ·exact hd [(20000,20000)] rfl (aI (aI (bD (by omega)) rfl) (aI rfl trivial)) ⟨⟨rfl,nP⟩,trivial⟩
   ·show m.1.length-(i+1)<m.1.length-i;omega
  ·have q8:((aj m.1 (i:Nat)).1==13)=false:=q7;have e2:rT m.1 us2 i=true:=by unfold rT;rw[q6.1,q8];rfl
   refine aM (i+1) ⟨hlt,by rw[gN,ho,e2];rfl⟩ ?_ ?_
   ·exact hd [(20000,20000)] rfl (aI (aI (bD (by omega)) rfl) (aI rfl trivial)) ⟨⟨rfl,nP⟩,trivial⟩
   ·show m.1.length-(i+1)<m.1.length-i;omega
 have hge4:m.1.length≤i:=dR q4;have hie4:i=m.1.length:=by omega
 subst hie4;refine Or.inl (eI _ (aI (JR m hl) ?_));have e:mF m held rs=bW m.1 (bK m.1) m.2.1:=by unfold mF;rw[a1,ha,hW,hb,hc3,←hW,huses,ho];simp
 rw[e];exact rfl
theorem Jt(m:bE)(hl:m.1.length≤1048576)(hb:(dG m).length≤1048576):aC Tryz.prog 87 [.rp gK m] [] (.sl 10000) [.row 10000 38 2 aR (dG m) []]:=by
 refine aC.intro (nt:=26) aQ mixed (by kernel_rfl) Tryz.func87 rfl rfl rfl rfl rfl rfl ?_;refine lp Nat (fun i=>[(16,.int .i64 (i:Nat)),(3,.sl 20000)]) (fun i=>[.row 20000 38 2 aR (m.2.2.1::(m.1.take i).flatMap fun c=>c.2.2.2.2) []]) (fun i=>m.1.length-i) (fun i=>i≤m.1.length) 0 (Nat.zero_le _) ?_ ?_
 ·exact hd [(20000,10)] rfl (aI (aI rfl rfl) (aI rfl trivial)) ⟨⟨rfl,nP⟩,trivial⟩
 intro i hi;refine aI (fun q1=> ?_) (fun q1=> ?_)
 ·have hlt:i<m.1.length:=dX q1;have e:=jo (fun c:ah=>c.2.2.2.2) (dflt aL) m.1 hlt;have hle:=lQ (fun c:ah=>c.2.2.2.2) m.1 (i+1);rw[e,List.length_append]at hle;refine aI (show 0≤((i:Nat):Int)∧((i:Nat):Int)<(m.1.length:Nat) by omega) ?_;refine aI ?_ ?_
  ·show(m.2.2.1::(m.1.take i).flatMap fun c=>c.2.2.2.2).length+(m.1.getD i (dflt aL)).2.2.2.2.length≤1073741824;have:(dG m).length=(m.1.flatMap fun c=>c.2.2.2.2).length+1:=rfl;rw[List.length_cons];omega
  refine aM (i+1) hlt ?_ ?_
  ·refine hd [(20000,23)] rfl (aI (aI (bD (by omega)) rfl) (aI rfl trivial)) ⟨⟨?_,nP⟩,trivial⟩;show _=m.2.2.1::(m.1.take (i+1)).flatMap fun c=>c.2.2.2.2
   rw[e];rfl
  ·show m.1.length-(i+1)<m.1.length-i;omega
 ·have hge:m.1.length≤i:=dR q1;have hie:i=m.1.length:=by omega
  subst hie;refine fin [(10000,20000)] (aI rfl ?_);refine⟨⟨?_,nP⟩,trivial⟩;show(m.2.2.1::(m.1.take m.1.length).flatMap fun c=>c.2.2.2.2)=dG m;rw[List.take_length];rfl
theorem Mr(m:bE)(held:List ay)(hl:m.1.length≤1500)(hh:held.length≤1048576)(hwl:(dG m).length≤6001)(hrl:m.2.2.2.length≤1048576)(hb:(dG m++held).all (dJ m.1)=true)(hc3:m.2.2.2.all (gq m.1)=true):aF Tryz.prog 93 [.rp gK m,.rsl aR held] (.bool (dM m.1.length (uT m.1 (mV m.1 (dG m++held) m.2.2.2)))):=by
 refine aF.intro (nt:=89) aQ mixed (by kernel_rfl) Tryz.func93 rfl rfl rfl rfl rfl ?_;refine aI ⟨by omega,Int.le_refl _,by omega⟩ ?_;refine Or.inr (eI _ (eI _ (aI (Jt m (by omega) (by omega)) ?_)));refine aI (show(dG m).length+held.length≤1073741824 by omega) ?_;generalize hW:dG m++held=ws at*;have hwl:ws.length≤1054577:=by rw[←hW,List.length_append];omega
 refine lp Nat (fun i=>[(24,.int .i64 (i:Nat)),(5,.sl 20000),(22,.sl 20001)]) (fun i=>[.row 20000 3 1 (.int .i64) (jv (List.replicate m.1.length 0) (ws.take i)) [],.row 20001 38 2 aR ws []]) (fun i=>ws.length-i) (fun i=>i≤ws.length) 0 (Nat.zero_le _) ?_ ?_
 ·refine hd [(20000,18),(20001,22)] rfl (aI (aI rfl rfl) (aI rfl (aI rfl trivial))) ⟨⟨?_,nP⟩,⟨hW,nP⟩,trivial⟩;rfl
 intro i hi;refine aI (fun q3=> ?_) (fun q3=> ?_)
 ·have hlt:i<ws.length:=by rw[←hW];exact dX q3
  have hii:0≤((i:Nat):Int)∧((i:Nat):Int)<(ws.length:Nat):=by omega
  have hwm:ws.getD i (0,0)∈ws:=by rw[List.getD_eq_getElem?_getD,List.getElem?_eq_getElem hlt];exact List.getElem_mem hlt
  have hin:=vL (mZ hb hwm);have hul:(jv (List.replicate m.1.length 0) (ws.take i)).length=m.1.length:=by rw[p9,List.length_replicate]
  have hin':0≤(ws.getD i (0,0)).2∧(ws.getD i (0,0)).2<((jv (List.replicate m.1.length 0) (ws.take i)).length:Nat):=by rw[hul];exact hin
  refine aI hii ?_;refine aI hin' ?_;refine aI hin' ?_;refine aM (i+1) hlt ?_ ?_
  ·refine hd [(20000,20000),(20001,20001)] rfl (aI (aI (bD (by omega)) rfl) (aI rfl (aI rfl trivial))) ⟨⟨?_,nP⟩,⟨rfl,nP⟩,trivial⟩;show _=jv (List.replicate m.1.length 0) (ws.take (i+1));rw[xP _ ws hlt];rfl
  ·show ws.length-(i+1)<ws.length-i;omega
 have hge2:ws.length≤i:=by rw[←hW];exact dR q3
 have hie2:i=ws.length:=by omega
 subst hie2;have hul:(jv (List.replicate m.1.length 0) ws).length=m.1.length:=by rw[p9,List.length_replicate]
 generalize hU:jv (List.replicate m.1.length 0) ws=us1 at hul;generalize hrs:m.2.2.2=rs at*;refine lp Nat (fun i=>[(41,.int .i64 (i:Nat)),(5,.sl 20000)]) (fun i=>[.row 20000 3 1 (.int .i64) (gP us1 (rs.take i)) []]) (fun i=>rs.length-i) (fun i=>i≤rs.length) 0 (Nat.zero_le _) ?_ ?_
 ·refine hd [(20000,20000)] rfl (aI (aI rfl rfl) (aI rfl trivial)) ⟨⟨?_,nP⟩,trivial⟩;rw[List.take_length];exact hU
 intro i hi;refine aI (fun q3=> ?_) (fun q3=> ?_)
 ·have hlt:i<rs.length:=by subst hrs;exact dX q3
  have hii:0≤((i:Nat):Int)∧((i:Nat):Int)<(m.2.2.2.length:Nat):=by rw[hrs];omega
  have hpm:rs.getD i (0,0)∈rs:=by rw[List.getD_eq_getElem?_getD,List.getElem?_eq_getElem hlt];exact List.getElem_mem hlt
  have q5:=mZ hc3 hpm
  have hin:(0≤(rs.getD i (0,0)).1∧(rs.getD i (0,0)).1<(m.1.length:Nat))∧(0≤(rs.getD i (0,0)).2∧(rs.getD i (0,0)).2<(m.1.length:Nat)):=by
   unfold gq at q5;simp only[bJ,Bool.and_eq_true,decide_eq_true_eq]at q5;omega
  have hur:(gP us1 (rs.take i)).length=m.1.length:=by rw[p8,hul]
  have hur2:(nS (gP us1 (rs.take i)) (rs.getD i (0,0)).1).length=m.1.length:=by rw[l9,hur]
  have k1:0≤(rs.getD i (0,0)).1∧(rs.getD i (0,0)).1<((gP us1 (rs.take i)).length:Nat):=by rw[hur];exact hin.1
  have k2:0≤(rs.getD i (0,0)).2∧(rs.getD i (0,0)).2<((nS (gP us1 (rs.take i)) (rs.getD i (0,0)).1).length:Nat):=by rw[hur2];exact hin.2
  subst hrs;refine aI hii ?_;refine aI k1 ?_;refine aI k1 ?_;refine aI k2 ?_;refine aI k2 ?_;refine aM (i+1) hlt ?_ ?_
  ·refine hd [(20000,20000)] rfl (aI (aI (bD (by omega)) rfl) (aI rfl trivial)) ⟨⟨?_,nP⟩,trivial⟩;show _=gP us1 (m.2.2.2.take (i+1));rw[xM _ m.2.2.2 hlt];rfl
  ·show m.2.2.2.length-(i+1)<m.2.2.2.length-i;omega
 have hge3:rs.length≤i:=by subst hrs;exact dR q3
 have hie3:i=rs.length:=by omega
 subst hie3;have hur:(gP us1 rs).length=m.1.length:=by rw[p8,hul]
 have huses:mV m.1 ws rs=gP us1 rs:=by unfold mV;rw[hU]
 rw[huses];generalize hU2:gP us1 rs=us2 at hur;refine lp Nat (fun i=>[(65,.int .i64 (i:Nat)),(5,.sl 20000)]) (fun i=>[.row 20000 3 1 (.int .i64) us2 []]) (fun i=>m.1.length-i) (fun i=>i≤m.1.length∧dM i (uT m.1 us2)=true) 0 ⟨Nat.zero_le _,rfl⟩ ?_ ?_
 ·refine hd [(20000,20000)] rfl (aI (aI rfl rfl) (aI rfl trivial)) ⟨⟨?_,nP⟩,trivial⟩;rw[List.take_length];exact hU2
 rintro i ⟨hi,ho⟩;refine aI (fun q4=> ?_) (fun q4=> ?_)
 ·have hlt:i<m.1.length:=dX q4;have hii:0≤((i:Nat):Int)∧((i:Nat):Int)<(m.1.length:Nat):=by omega
  have hiu:0≤((i:Nat):Int)∧((i:Nat):Int)<(us2.length:Nat):=by rw[hur];exact hii
  have next:∀w:Int,o9 (aj m.1 (i:Nat))=w→uT m.1 us2 i= !(us2.getD i 0 !=w):=fun w hw=>by unfold uT;rw[hw,bne,Bool.not_not]
  refine aI hii ?_;refine Or.inl (eI _ (aI (vF _) ?_));have hend:∀w:Int,o9 (aj m.1 (i:Nat))=w→(us2.getD i 0 !=w)=true→dM m.1.length (uT m.1 us2)=false:=fun w hw q=>lM hlt (by rw[next w hw,q];rfl)
  have hgo:∀w:Int,o9 (aj m.1 (i:Nat))=w→(us2.getD i 0 !=w)=false→dM (i+1) (uT m.1 us2)=true:=fun w hw q=>by rw[gN,ho,next w hw,q];rfl
  have hms:m.1.length-(i+1)<m.1.length-i:=by omega
  refine aI (fun q5=> ?_) (fun q5=> ?_)
  ·have hw:o9 (aj m.1 (i:Nat))=0:=by unfold o9;rw[show((aj m.1 (i:Nat)).1==0)=true from q5];rfl
   refine aI hiu ?_;refine aI (fun q6=> ?_) (fun q6=> ?_)
   ·rw[hend 0 hw q6];exact rfl
   ·exact aM (i+1) ⟨hlt,hgo 0 hw q6⟩ (hd [(20000,20000)] rfl (aI (aI (bD (by omega)) rfl) (aI rfl trivial)) ⟨⟨rfl,nP⟩,trivial⟩) hms
  refine Or.inl (eI _ (aI (Ar _) ?_));refine aI (fun q6=> ?_) (fun q6=> ?_)
  ·have hw:o9 (aj m.1 (i:Nat))=2:=by
    have q7:(bif (aj m.1 (i:Nat)).1==13 then(((aj m.1 (i:Nat)).2.2.2.2.length:Nat):Int)==0 else false)=true:=q6;rw[iK]at q7;unfold o9;rw[show((aj m.1 (i:Nat)).1==0)=false from q5];cases h:(aj m.1 (i:Nat)).1==13 with
    |false=>rw[h]at q7;cases q7
    |true=>rw[h]at q7;rw[show((aj m.1 (i:Nat)).2.2.2.2.length==0)=true from q7];rfl
   refine aI hiu ?_;refine aI (fun q7=> ?_) (fun q7=> ?_)
   ·rw[hend 2 hw q7];exact rfl
   ·exact aM (i+1) ⟨hlt,hgo 2 hw q7⟩ (hd [(20000,20000)] rfl (aI (aI (bD (by omega)) rfl) (aI rfl trivial)) ⟨⟨rfl,nP⟩,trivial⟩) hms
  ·have hw:o9 (aj m.1 (i:Nat))=1:=by
    have q7:(bif (aj m.1 (i:Nat)).1==13 then(((aj m.1 (i:Nat)).2.2.2.2.length:Nat):Int)==0 else false)=false:=q6;rw[iK]at q7;unfold o9;rw[show((aj m.1 (i:Nat)).1==0)=false from q5];cases h:(aj m.1 (i:Nat)).1==13 with
    |false=>rfl
    |true=>rw[h]at q7;rw[show((aj m.1 (i:Nat)).2.2.2.2.length==0)=false from q7];rfl
   refine aI hiu ?_;refine aI (fun q7=> ?_) (fun q7=> ?_)
   ·rw[hend 1 hw q7];exact rfl
   ·exact aM (i+1) ⟨hlt,hgo 1 hw q7⟩ (hd [(20000,20000)] rfl (aI (aI (bD (by omega)) rfl) (aI rfl trivial)) ⟨⟨rfl,nP⟩,trivial⟩) hms
 have hge4:m.1.length≤i:=dR q4;have hie4:i=m.1.length:=by omega
 subst hie4;rw[ho];exact rfl
theorem NA(m:bE)(hl:m.1.length≤1048576):aF Tryz.prog 94 [.rp gK m] (.bool (bW m.1 (bK m.1) m.2.1)):=by
 refine aF.intro (nt:=55) aQ mixed (by kernel_rfl) Tryz.func94 rfl rfl rfl rfl rfl ?_;refine lp Nat (fun i=>[(12,.int .i64 (i:Nat)),(3,.int .i64 (bK (m.1.take i):Nat))]) (fun _=>[]) (fun i=>m.1.length-i) (fun i=>i≤m.1.length) 0 (Nat.zero_le _) ?_ ?_
 ·exact hd [] rfl (aI (aI rfl rfl) (aI (aI rfl rfl) trivial)) trivial
 intro i hi;refine aI (fun q1=> ?_) (fun q1=> ?_)
 ·have hlt:i<m.1.length:=dX q1;have hf:=rG m.1 i;refine aI (show 0≤((i:Nat):Int)∧((i:Nat):Int)<(m.1.length:Nat) by omega) ?_;refine Or.inl (eI _ (aI (vF _) ?_));refine Or.inl (eI _ (aI (Jl _) ?_));refine aM (i+1) hlt ?_ ?_
  ·refine hd [] rfl (aI (aI (bD (by omega)) rfl) (aI (aI ?_ rfl) trivial)) trivial;show IntKind.i64.wrap ((bK (m.1.take i):Nat)+(bif (aj m.1 (i:Nat)).1==0 then 1 else 0))=((bK (m.1.take (i+1)):Nat):Int);rw[qC m.1 hlt,IntWalk.i64_in _ (by cases (aj m.1 (i:Nat)).1==0<;>simp only[cond_true,cond_false]<;>omega)];cases (aj m.1 (i:Nat)).1==0<;>simp
  ·show m.1.length-(i+1)<m.1.length-i;omega
 have hge:m.1.length≤i:=dR q1;have hie:i=m.1.length:=by omega
 subst hie;have hn:bK (m.1.take m.1.length)=bK m.1:=by rw[List.take_length]
 have hf:=rG m.1 m.1.length;rw[hn]at hf;refine lp (Nat×Int) (fun s=>[(27,.int .i64 (s.1:Nat)),(6,.int .i64 s.2)]) (fun _=>[]) (fun s=>bK m.1-s.1) (fun s=>s.1≤bK m.1∧bW m.1 (bK m.1) m.2.1=bW m.1 (bK m.1-s.1) s.2) (0,m.2.1) ⟨Nat.zero_le _,rfl⟩ ?_ ?_
 ·exact hd [] rfl (aI (aI rfl rfl) (aI (aI rfl rfl) trivial)) trivial
 rintro⟨j,a⟩ ⟨hj,he⟩;refine aI (fun q2=> ?_) (fun q2=> ?_)
 ·have hlt:j<bK m.1:=by have q3:=dX (k:=j) (n:=bK (m.1.take m.1.length)) q2;rwa[hn]at q3
  have ek:bK m.1-j=(bK m.1-(j+1))+1:=by omega
  rw[ek]at he;refine Or.inl (eI _ (aI (Km m a) ?_));refine aI (fun q2=> ?_) ?_
  ·have q3:bJ a 0 ((m.1.length:Int)-1)=true:=Eq.mp (Bool.not_eq_false' _) (Eq.mp (Bool.not_eq_true' _) q2);simp only[bJ,Bool.and_eq_true,decide_eq_true_eq]at q3;show 0≤a∧a<(m.1.length:Nat);omega
  refine Or.inl (eI _ (aI (fun _=>vF _) ?_));have hcond:(bif !bJ a 0 ((m.1.length:Int)-1)then true else !((aj m.1 a).1==0))= !(bJ a 0 ((m.1.length:Int)-1)&&(aj m.1 a).1==0):=by cases bJ a 0 ((m.1.length:Int)-1)<;>rfl
  refine aI (fun q2=> ?_) (fun q2=> ?_)
  ·have q3:(bJ a 0 ((m.1.length:Int)-1)&&(aj m.1 a).1==0)=false:=Eq.mp (Bool.not_eq_true' _) (hcond.symm.trans q2);have e:bW m.1 (bK m.1) m.2.1=false:=by refine he.trans ?_;show bW m.1 ((bK m.1-(j+1))+1) a=false;unfold bW;rw[q3];rfl
   rw[e];exact rfl
  ·have q3:(bJ a 0 ((m.1.length:Int)-1)&&(aj m.1 a).1==0)=true:=Eq.mp (Bool.not_eq_false' _) (hcond.symm.trans q2)
   have e:bW m.1 (bK m.1) m.2.1=bW m.1 (bK m.1-(j+1)) (aj m.1 a).2.2.1:=by
    refine he.trans ?_;show bW m.1 ((bK m.1-(j+1))+1) a=_
    conv=>lhs;unfold bW
    rw[q3];rfl
   have q4:0≤a∧a<(m.1.length:Nat):=by simp only[bJ,Bool.and_eq_true,decide_eq_true_eq]at q3;omega
   refine aI q4 ?_;refine aM (j+1,(aj m.1 a).2.2.1) ⟨hlt,e⟩ ?_ ?_
   ·exact hd [] rfl (aI (aI (bD (by omega)) rfl) (aI (aI rfl rfl) trivial)) trivial
   ·show bK m.1-(j+1)<bK m.1-j;omega
 ·have hge:j=bK m.1:=by
   have q3:=dR (k:=j) (n:=bK (m.1.take m.1.length)) q2;rw[hn]at q3;have hj':j≤bK m.1:=hj;omega
  subst hge;have e:bW m.1 (bK m.1) m.2.1=(a== -1):=by refine he.trans ?_;show bW m.1 (bK m.1-bK m.1) a=_;rw[Nat.sub_self];rfl
  rw[e];exact rfl
theorem IC:dA Tryz.prog 96=true:=by kernel_rfl
theorem MO{xs:List ah}{w:ay}(h:dJ xs w=true):(w.1==1)=(w.1 !=2):=by
 unfold dJ at h;simp only[Bool.and_eq_true,Bool.or_eq_true,beq_iff_eq]at h;rcases h.2 with h1|h1
 ·rw[h1.1];rfl
 ·rw[h1.1];rfl
theorem PI(m:bE)(w:ay)(hl:m.1.length≤1048576)(hv:∀c∈m.1,∀x∈c.2.2.2.2,dJ m.1 x=true)(hw:dJ m.1 w=true):aF Tryz.prog 96 [.rp gK m,vP w] (.tup [vP (bif (bF m.1 (m.1.length+1) w).2 then(bF m.1 (m.1.length+1) w).1 else(0,0)),.bool (bF m.1 (m.1.length+1) w).2]):=by
 refine aF.intro (nt:=44) aQ mixed IC Tryz.func96 rfl rfl rfl rfl rfl ?_;have hw1:IntKind.i64.wrap ((m.1.length:Int)+1)=((m.1.length+1:Nat):Int):=bD (by omega);refine lp (Nat×ay) (fun s=>[(12,.int .i64 (s.1:Nat))]) (fun s=>[.bY 3 38 [.int .i64 s.2.1,.int .i64 s.2.2],.bY 4 38 [.int .i64 0,.int .i64 0]]) (fun s=>m.1.length+1-s.1) (fun s=>s.1≤m.1.length+1∧dJ m.1 s.2=true∧bF m.1 (m.1.length+1) w=bF m.1 (m.1.length+1-s.1) s.2) (0,w) ⟨Nat.zero_le _,hw,rfl⟩ ?_ ?_
 ·exact hd [] rfl (aI (aI rfl rfl) trivial) ⟨trivial,⟨⟨rfl,rfl⟩,⟨rfl,rfl⟩,trivial⟩,trivial,⟨⟨rfl,rfl⟩,⟨rfl,rfl⟩,trivial⟩,trivial⟩
 rintro⟨j,x⟩ ⟨hj,hx,he⟩;have q0:∀b,decide (((j:Nat):Int)<IntKind.i64.wrap ((m.1.length:Int)+1))=b→decide (((j:Nat):Int)<((m.1.length+1:Nat):Int))=b:=fun b h=>by rw[hw1]at h;exact h
 refine aI (fun q1=> ?_) (fun q1=> ?_)
 ·have hlt:j≤m.1.length:=Nat.lt_succ_iff.1 (dX (q0 _ q1));have hin:=vL hx;refine aI (fun _=>hin) ?_;refine aI (by kernel_rfl) ?_;have ek:m.1.length+1-j=(m.1.length-j)+1:=by omega
  have hee:bF m.1 (m.1.length+1) w=bF m.1 ((m.1.length-j)+1) x:=by rw[←ek];exact he
  have hcond:(bif x.1==1 then true else(((aj m.1 x.2).2.2.2.2.length:Nat):Int)==0)=((x.1 !=2)||(aj m.1 x.2).2.2.2.2.length==0):=by rw[iK,MO hx];cases x.1 !=2<;>rfl
  refine aI (fun q2=> ?_) (fun q2=> ?_)
  ·have q3:((x.1 !=2)||(aj m.1 x.2).2.2.2.2.length==0)=true:=by rw[←hcond];exact q2
   have e:bF m.1 (m.1.length+1) w=(x,true):=by rw[hee];unfold bF;rw[q3];rfl
   rw[e];exact rfl
  ·have q3:((x.1 !=2)||(aj m.1 x.2).2.2.2.2.length==0)=false:=by rw[←hcond];exact q2
   have q4:0<(aj m.1 x.2).2.2.2.2.length:=by rw[Bool.or_eq_false_iff,beq_eq_false_iff_ne]at q3;omega
   have e:bF m.1 (m.1.length+1) w=bF m.1 (m.1.length-j) ((aj m.1 x.2).2.2.2.2.getD 0 (0,0)):=by
    rw[hee]
    conv=>lhs;unfold bF
    rw[q3];rfl
   refine aI hin ?_;refine aI (show(0:Int)≤0∧(0:Int)<((aj m.1 x.2).2.2.2.2.length:Nat) by omega) ?_;refine aI (by kernel_rfl) ?_;refine aM (j+1,(aj m.1 x.2).2.2.2.2.getD 0 (0,0)) ⟨by show j+1≤_;omega,?_,?_⟩ ?_ ?_
   ·refine qU (p:=fun c=>∀x∈c.2.2.2.2,dJ m.1 x=true) hv hin.1 hin.2 _ ?_;rw[List.getD_eq_getElem?_getD,List.getElem?_eq_getElem q4];exact List.getElem_mem q4
   ·rw[e,show m.1.length+1-(j+1)=m.1.length-j by omega]
   ·exact hd [] rfl (aI (aI (bD (by omega)) rfl) trivial) ⟨trivial,⟨⟨rfl,rfl⟩,⟨rfl,rfl⟩,trivial⟩,trivial,⟨⟨rfl,rfl⟩,⟨rfl,rfl⟩,trivial⟩,trivial⟩
   ·show m.1.length+1-(j+1)<m.1.length+1-j;omega
 ·have hge:m.1.length+1≤j:=dR (q0 _ q1);have hj':j≤m.1.length+1:=hj;have hje:j=m.1.length+1:=by omega
  subst hje;have e:bF m.1 (m.1.length+1) w=(x,false):=by refine he.trans ?_;show bF m.1 (m.1.length+1-(m.1.length+1)) x=_;rw[Nat.sub_self];rfl
  rw[e];exact rfl
theorem uq{c:ah}(h:gV c=true):c.2.2.2.2.length≤4:=by
 unfold gV at h;cases hA:aZ c.1 with
 |true=>rw[hA]at h;exact CB h
 |false=>
  rw[hA]at h;cases h1:c.1==13 with
  |true=>rw[h1]at h;simp only[cond_true,cond_false,Bool.and_eq_true,decide_eq_true_eq]at h;omega
  |false=>rw[h1]at h;simp only[cond_false,Bool.and_eq_true,beq_iff_eq]at h;omega
theorem zN{α:Type}(f:α→Bool)(l:List α):(l.any fun x=> !f x)= !l.all f:=by rw[List.all_eq_not_any_not,Bool.not_not]
theorem Fj:dA Tryz.prog 47=true:=by kernel_rfl
theorem Ox(m:bE)(held:List ay)(hl:m.1.length≤1048576)(hc:∀c∈m.1,c.2.2.2.2.length≤1048576)(hh:held.length≤1048576)(hr:m.2.2.2.length≤16777216):aF Tryz.prog 47 [.rp gK m,.rsl aR held] (.bool (mE m held)):=by
 refine aF.intro (nt:=88) aQ mixed Fj Tryz.func47 rfl rfl rfl rfl rfl ?_;refine aI (by kernel_rfl) ?_
 have hcond0:(bif (bif decide (((m.1.length:Nat):Int)<1)then true else decide ((1500:Int)<(m.1.length:Nat)))then true else decide (((m.1.length:Nat):Int)<((m.2.2.2.length:Nat):Int)))= !(bJ m.1.length 1 1500&&decide (m.2.2.2.length≤m.1.length)):=by
  have e:decide (((m.1.length:Nat):Int)<((m.2.2.2.length:Nat):Int))= !decide (m.2.2.2.length≤m.1.length):=by rw[←decide_not];exact decide_eq_decide.2 (by omega)
  unfold bJ;rw[e,show decide (((m.1.length:Nat):Int)<1)= !decide ((1:Int)≤(m.1.length:Nat)) by rw[←decide_not];exact decide_eq_decide.2 (by omega),show decide ((1500:Int)<(m.1.length:Nat))= !decide (((m.1.length:Nat):Int)≤1500) by rw[←decide_not];exact decide_eq_decide.2 (by omega)];cases decide ((1:Int)≤(m.1.length:Nat))<;>cases decide (((m.1.length:Nat):Int)≤1500)<;>rfl
 refine aI (fun q1=> ?_) (fun q1=> ?_)
 ·have a1:=Eq.mp (Bool.not_eq_true' _) (hcond0.symm.trans q1);have e:mE m held=false:=by unfold mE;rw[a1];rfl
  rw[e];exact rfl
 have a1:=Eq.mp (Bool.not_eq_false' _) (hcond0.symm.trans q1);have hn:m.1.length≤1500∧m.2.2.2.length≤m.1.length:=by simp only[bJ,Bool.and_eq_true,decide_eq_true_eq]at a1;omega
 refine Or.inl (eI _ (aI (JX m.1 _ (fun c=> !gV c) hl fun i hi=>MU _ (hc _ (by rw[List.getD_eq_getElem?_getD,List.getElem?_eq_getElem hi];exact List.getElem_mem hi))) ?_));rw[zN];cases hC:m.1.all gV with
 |false=>
  have e:mE m held=false:=by unfold mE;rw[hC];simp
  rw[e];refine Or.inr (aI (fun g=>by cases g) (fun g=> ?_));refine eI (.rsl aR []) ?_;refine aI (fun g=>by cases g) (fun g=> ?_);refine Or.inr (aI (fun g=>by cases g) (fun g=> ?_));refine eI (.bool false) ?_;refine Or.inr (aI (fun g=>by cases g) (fun g=> ?_));refine eI (.bool false) ?_;refine aI (fun q2=> ?_) (fun q2=>by cases q2);exact rfl
 |true=>
 have hwb:(dG m).length≤6001:=by
  have h1:=jO (fun c:ah=>c.2.2.2.2) 4 m.1 fun c hc=>uq (mZ hC hc)
  have h2:(dG m).length=(m.1.flatMap fun c=>c.2.2.2.2).length+1:=rfl;omega
 refine Or.inr (aI (fun g=> ?_) (fun g=>by cases g));refine eI _ (eI _ (aI (Jt m hl (by omega)) ?_));refine aI (fun g=> ?_) (fun g=>by cases g);refine aI (show(dG m).length+held.length≤1073741824 by omega) ?_;refine Or.inr (aI (fun g=> ?_) (fun g=>by cases g));refine eI _ (eI _ (aI (JZ m (dG m++held) _ (fun w=> !dJ m.1 w) (by rw[List.length_append];omega) fun i _=>MV m _) ?_));rw[zN];cases hW:(dG m++held).all (dJ m.1)with
 |false=>
  have e:mE m held=false:=by unfold mE;rw[hW];simp
  rw[e];refine Or.inr (aI (fun g=>by cases g) (fun g=> ?_));refine eI (.bool false) ?_;refine aI (fun q2=> ?_) (fun q2=>by cases q2);exact rfl
 |true=>
 refine Or.inr (aI (fun g=> ?_) (fun g=>by cases g));refine eI _ (eI _ (aI (JY m m.2.2.2 _ (fun w=> !gq m.1 w) (by omega) fun i _=>MW m _) ?_));rw[zN];cases hR:m.2.2.2.all (gq m.1)with
 |false=>
  have e:mE m held=false:=by unfold mE;rw[hR];simp
  rw[e];refine aI (fun q2=> ?_) (fun q2=>by cases q2);exact rfl
 |true=>
 refine aI (fun q2=>by cases q2) (fun q2=> ?_);refine Or.inl (eI _ (aI (Mr m held hn.1 hh hwb (by omega) hW hR) ?_));refine Or.inl (eI _ (aI (fun _=>NA m hl) ?_));have hcond2:∀a b:Bool,(bif !a then true else !b)= !(a&&b):=fun a b=>by cases a<;>rfl
 refine aI (fun q3=> ?_) (fun q3=> ?_)
 ·have a2:=Eq.mp (Bool.not_eq_true' _) ((hcond2 _ _).symm.trans q3);have e:mE m held=false:=by unfold mE;rw[←Bool.and_assoc (dM _ _),a2];simp
  rw[e];exact rfl
 have a2:=Eq.mp (Bool.not_eq_false' _) ((hcond2 _ _).symm.trans q3);have hval:∀c∈m.1,∀x∈c.2.2.2.2,dJ m.1 x=true:=fun c hc x hx=>mZ hW (List.mem_append.2 (.inl (List.mem_cons_of_mem _ (List.mem_flatMap.2 ⟨c,hc,hx⟩))))
 have hmem:mE m held=dM m.1.length fun i=> !((aj m.1 i).1==13)||(bF m.1 (m.1.length+1) (2,i)).2:=by
  unfold mE;rw[a1,hC,hW,hR,←Bool.and_assoc (dM _ _),a2];simp
 refine lp Nat (fun i=>[(71,.int .i64 (i:Nat))]) (fun _=>[.bY 2 81 [.rp gK m]]) (fun i=>m.1.length-i) (fun i=>i≤m.1.length∧dM i (fun i=> !((aj m.1 i).1==13)||(bF m.1 (m.1.length+1) (2,i)).2)=true) 0 ⟨Nat.zero_le _,rfl⟩ ?_ ?_
 ·exact hd [] rfl (aI (aI rfl rfl) trivial) ⟨trivial,⟨rfl,trivial⟩,trivial⟩
 rintro i ⟨hi,ho⟩;refine aI (fun q4=> ?_) (fun q4=> ?_)
 ·have hlt:i<m.1.length:=dX q4;have hms:m.1.length-(i+1)<m.1.length-i:=by omega
  refine aI (show 0≤((i:Nat):Int)∧((i:Nat):Int)<(m.1.length:Nat) by omega) ?_;refine Or.inl (eI _ (aI (Ar _) ?_));refine aI (fun q5=> ?_) (fun q5=> ?_)
  ·have q8:((aj m.1 (i:Nat)).1==13)=true:=q5;have hv13:dJ m.1 (2,(i:Int))=true:=by unfold dJ;simp only[q8];simp[bJ];omega
   refine Or.inl (eI _ (aI (PI m (2,(i:Int)) hl hval hv13) ?_));refine aI (fun q6=> ?_) (fun q6=> ?_)
   ·have q7:(bF m.1 (m.1.length+1) (2,(i:Int))).2=false:=Eq.mp (Bool.not_eq_true' _) q6;have e:mE m held=false:=by rw[hmem];exact lM hlt (by rw[q8,q7];rfl)
    rw[e];exact rfl
   ·have q7:(bF m.1 (m.1.length+1) (2,(i:Int))).2=true:=Eq.mp (Bool.not_eq_false' _) q6;exact aM (i+1) ⟨hlt,by rw[gN,ho,q7,Bool.or_true];rfl⟩ (hd [] rfl (aI (aI (bD (by omega)) rfl) trivial) ⟨trivial,⟨rfl,trivial⟩,trivial⟩) hms
  ·have q8:((aj m.1 (i:Nat)).1==13)=false:=q5;exact aM (i+1) ⟨hlt,by rw[gN,ho,q8];rfl⟩ (hd [] rfl (aI (aI (bD (by omega)) rfl) trivial) ⟨trivial,⟨rfl,trivial⟩,trivial⟩) hms
 ·have hge:m.1.length≤i:=dR q4;have hie:i=m.1.length:=by omega
  subst hie;rw[hmem,ho];exact rfl
theorem FL{ws:List dn}{i:Nat}(h:i<ws.length):jy ws i∈ws:=by
 unfold jy;rw[List.getD_eq_getElem?_getD,List.getElem?_eq_getElem h];exact List.getElem_mem h
theorem wE{ws:List dn}{n:Int}(h:ws.all (fG n)=true):(dN ws).length≤3000*ws.length:=by
 refine jO _ 3000 ws fun w hw=> ?_
 have h1:=mZ h hw;unfold fG at h1;simp only[Bool.and_eq_true,decide_eq_true_eq]at h1;have h2:=jO (fun l:ay×ay=>[l.1,l.2]) 2 w.2.2.2.1 fun x _=>Nat.le_refl 2
 omega
theorem wZ{ws:List dn}(h:∀w∈ws,w.2.2.1.length≤1048576):(dY ws).length≤1048576*ws.length:=jO _ _ ws h
theorem AL:dA Tryz.prog 15=true:=by kernel_rfl
theorem EF(ws:List dn)(i:Nat):(ws.take i).countP eF≤ws.length:=by
 refine Nat.le_trans List.countP_le_length ?_;rw[List.length_take];omega
theorem Bd(n:Int)(w:dn):(!(bif (bif (bif !bJ w.1 1 4 then true else !bJ w.2.1 0 (n-1))then true else !iP w.2.2.2.2)then true else decide (((1500:Nat):Int)<(w.2.2.2.1.length:Nat)))&& !(bif w.1 !=1 then(bif decide (((0:Nat):Int)<(w.2.2.1.length:Nat))then true else decide (((0:Nat):Int)<(w.2.2.2.1.length:Nat)))else false))=fG n w:=by
 have e0:∀a b:Nat,decide (((a:Nat):Int)<(b:Nat))= !decide (b≤a):=fun a b=>by rw[←decide_not];exact decide_eq_decide.2 (by omega)
 have e1:∀a:Nat,decide (a≤0)=(a==0):=fun a=>by rw[Bool.eq_iff_iff];simp
 unfold fG;rw[e0 1500,e0 0,e0 0,e1,e1,bne];cases bJ w.1 1 4<;>cases bJ w.2.1 0 (n-1)<;>cases iP w.2.2.2.2<;>cases decide (w.2.2.2.1.length≤1500)<;>cases w.1==1<;>cases w.2.2.1.length==0<;>cases w.2.2.2.1.length==0<;>rfl
structure om(p:fA):Prop where
 cells:p.1.1.length≤1048576
 words:∀c∈p.1.1,c.2.2.2.2.length≤1048576
 mreds:p.1.2.2.2.length≤1048576
 workers:p.2.1.length≤1048576
 lW:∀w∈p.2.1,w.2.2.1.length≤1048576
 links:∀w∈p.2.1,w.2.2.2.1.length≤1048576
 counts:∀w∈p.2.1,w.2.2.2.2.length≤1048576
theorem Mv(p:fA)(hs:om p):aF Tryz.prog 15 [.rp qm p] (.bool (iL p)):=by
 refine aF.intro (nt:=112) aQ mixed AL Tryz.func15 rfl rfl rfl rfl rfl ?_;refine Or.inl (eI _ (aI (Ih _ _ _) ?_));have hwl:=hs.workers
 have hcond0:(bif !bJ (p.2.1.length:Nat) 1 4 then true else decide (((0:Nat):Int)<((p.1.2.2.2.length:Nat):Int)))= !(bJ p.2.1.length 1 4&&p.1.2.2.2.length==0):=by
  have e:decide (((0:Nat):Int)<((p.1.2.2.2.length:Nat):Int))= !(p.1.2.2.2.length==0):=by rw[Bool.eq_iff_iff];simp only[decide_eq_true_eq,Bool.not_eq_true',beq_eq_false_iff_ne];omega
  rw[e];cases bJ (p.2.1.length:Nat) 1 4<;>rfl
 refine aI (fun q1=> ?_) (fun q1=> ?_)
 ·have a1:(bJ p.2.1.length 1 4&&p.1.2.2.2.length==0)=false:=Eq.mp (Bool.not_eq_true' _) (hcond0.symm.trans q1);have e:iL p=false:=by unfold iL jE;rw[a1];rfl
  rw[e];exact rfl
 have a1:(bJ p.2.1.length 1 4&&p.1.2.2.2.length==0)=true:=Eq.mp (Bool.not_eq_false' _) (hcond0.symm.trans q1);have hn:p.2.1.length≤4:=by simp only[bJ,Bool.and_eq_true,decide_eq_true_eq]at a1;omega
 refine lp Nat (fun i=>[(5,.int .i64 (i:Nat)),(4,.int .i64 ((p.2.1.take i).countP eF:Nat))]) (fun _=>[]) (fun i=>p.2.1.length-i) (fun i=>i≤p.2.1.length∧(p.2.1.take i).all (fG p.2.1.length)=true) 0 ⟨Nat.zero_le _,rfl⟩ ?_ ?_
 ·exact hd [] rfl (aI (aI rfl rfl) (aI (aI rfl rfl) trivial)) trivial
 rintro i ⟨hi,ha⟩;refine aI (fun q2=> ?_) (fun q2=> ?_)
 ·have hlt:i<p.2.1.length:=dX q2;have hm:=FL hlt;have hC:=Bd p.2.1.length (jy p.2.1 i);refine aI (show 0≤((i:Nat):Int)∧((i:Nat):Int)<(p.2.1.length:Nat) by omega) ?_;refine Or.inl (eI _ (aI (Ih _ _ _) ?_));refine Or.inl (eI _ (aI (fun _=>Ih _ _ _) ?_));refine Or.inl (eI _ (aI (fun _=>J4 _ (hs.counts _ hm)) ?_));rw[←mX hwl]at hC
  have bad:fG p.2.1.length (jy p.2.1 i)=false→iL p=false:=fun h=>by
   have b1:p.2.1.all (fG p.2.1.length)=false:=Bq _ (dflt aV) p.2.1 hlt h;unfold iL jE;rw[b1];simp
  refine aI (fun q3=> ?_) (fun q3=> ?_)
  ·have e:iL p=false:=bad (by
    rw[←hC];refine Eq.trans (congrArg (fun b=> !b&&_) q3) rfl)
   rw[e];exact rfl
  refine aI (fun q4=> ?_) (fun q4=> ?_)
  ·have e:iL p=false:=bad (by
    rw[←hC];refine Eq.trans (congrArg (fun b=>_&& !b) q4) (Bool.and_false _))
   rw[e];exact rfl
  have ok:fG p.2.1.length (jy p.2.1 i)=true:=by
   rw[←hC];exact Eq.trans (congrArg (fun b=> !b&&_) q3) (Eq.trans (congrArg (fun b=>true&& !b) q4) rfl)
  have hcl:=EF p.2.1 i;have hct:=oH eF (dflt aV) p.2.1 hlt;refine Or.inl (eI _ (aI (JF _) ?_));refine aI (fun q5=> ?_) (fun q5=> ?_)
  ·refine aM (i+1) ⟨hlt,by rw[l8 _ (dflt aV) p.2.1 hlt,ha];exact ok⟩ ?_ ?_
   ·refine hd [] rfl (aI (aI (bD (by omega)) rfl) (aI (aI ?_ rfl) trivial)) trivial;rw[hct,show eF (p.2.1.getD i (dflt aV))=true from q5];exact bD (by omega)
   ·show p.2.1.length-(i+1)<p.2.1.length-i;omega
  ·refine aM (i+1) ⟨hlt,by rw[l8 _ (dflt aV) p.2.1 hlt,ha];exact ok⟩ ?_ ?_
   ·refine hd [] rfl (aI (aI (bD (by omega)) rfl) (aI (aI ?_ rfl) trivial)) trivial;rw[hct,show eF (p.2.1.getD i (dflt aV))=false from q5];rfl
   ·show p.2.1.length-(i+1)<p.2.1.length-i;omega
 have hge:p.2.1.length≤i:=dR q2;have hie:i=p.2.1.length:=by omega
 subst hie;rw[List.take_length]at ha;have hhb:=wE ha;have hrb:=wZ hs.lW;have htk:(p.2.1.take p.2.1.length).countP eF=p.2.1.countP eF:=by rw[List.take_length]
 have hpre:jE p=(((p.2.1.countP eF:Nat):Int)==p.2.2):=by unfold jE;rw[a1,ha];rfl
 refine Or.inr (aI (fun g1=> ?_) (fun g1=> ?_))
 ·refine eI _ (eI _ (aI (Md p hwl (by omega)) ?_));refine Or.inr (aI (fun g2=> ?_) (fun g2=>by rw[show _=true from g1]at g2;cases g2));refine eI _ (eI _ (aI (I6 p hwl (by omega)) ?_));refine Or.inr (aI (fun g3=> ?_) (fun g3=>by rw[show _=true from g1]at g3;cases g3));refine eI _ (eI _ (aI (aC.DW aQ [81,82,39] IG (M0 p.1 (dN p.2.1) (dY p.2.1) hs.cells hs.words (by omega) (by omega)) rfl) ?_));refine aI (by kernel_rfl) ?_;have e:iL p=mF p.1 (dN p.2.1) (dY p.2.1):=by unfold iL;rw[hpre,←htk,show _=true from g1];rfl
  rw[e];exact Eq.trans (congrArg (fun b=>bif b then mF p.1 (dN p.2.1) (dY p.2.1)else false) g1) rfl
 ·refine eI (.bool false) ?_;refine Or.inr (aI (fun g2=>by rw[show _=false from g1]at g2;cases g2) (fun g2=> ?_));refine eI (.bool false) ?_;refine Or.inr (aI (fun g2=>by rw[show _=false from g1]at g2;cases g2) (fun g2=> ?_));refine eI (.bool false) ?_;refine aI (by kernel_rfl) ?_;have e:iL p=false:=by unfold iL;rw[hpre,←htk,show _=false from g1];rfl
  rw[e];exact Eq.trans (congrArg (fun b=>bif b then false else false) g1) rfl
abbrev Di(p:fA):SV:=.agg [.rsl aL p.1.1,.int .i64 p.1.2.1,.int .i64 p.1.2.2.1.1,.int .i64 p.1.2.2.1.2,.rsl aR p.1.2.2.2,.rsl aV p.2.1,.int .i64 p.2.2]
theorem Fg:dA Tryz.prog 46=true:=by kernel_rfl
theorem I7(p:fA)(hl:p.2.1.length≤1048576)(hb:(dY p.2.1).length≤16777216):aC Tryz.prog 46 [.rp qm p] [] (.sl 10000) [.row 10000 127 2 aR (dY p.2.1) []]:=by
 refine aC.intro (nt:=21) aQ mixed Fg Tryz.func46 rfl rfl rfl rfl rfl rfl ?_;refine lp Nat (fun i=>[(11,.int .i64 (i:Nat)),(3,.sl 20000)]) (fun i=>[.row 20000 127 2 aR (dY (p.2.1.take i)) []]) (fun i=>p.2.1.length-i) (fun i=>i≤p.2.1.length) 0 (Nat.zero_le _) ?_ ?_
 ·exact P6 [⟨3,30000,127,2,aR⟩] [(20000,30000)] rfl (aI (aI (aI rfl rfl) (aI rfl trivial)) ⟨⟨rfl,nP⟩,trivial⟩)
 intro i hi;refine aI (fun q1=> ?_) (fun q1=> ?_)
 ·have hlt:i<p.2.1.length:=dX q1;have e:dY (p.2.1.take (i+1))=dY (p.2.1.take i)++(jy p.2.1 i).2.2.1:=jo (fun w:dn=>w.2.2.1) (dflt aV) p.2.1 hlt;have hle:(dY (p.2.1.take (i+1))).length≤(dY p.2.1).length:=lQ (fun w:dn=>w.2.2.1) p.2.1 (i+1);rw[e,List.length_append]at hle;refine aI (show 0≤((i:Nat):Int)∧((i:Nat):Int)<(p.2.1.length:Nat) by omega) ?_;refine aI (show(dY (p.2.1.take i)).length+(jy p.2.1 i).2.2.1.length≤1073741824 by omega) ?_;refine aM (i+1) hlt ?_ ?_
  ·refine hd [(20000,18)] rfl (aI (aI (bD (by omega)) rfl) (aI rfl trivial)) ⟨⟨?_,nP⟩,trivial⟩;show _=dY (p.2.1.take (i+1));rw[e];rfl
  ·show p.2.1.length-(i+1)<p.2.1.length-i;omega
 ·have hge:p.2.1.length≤i:=dR q1;have hie:i=p.2.1.length:=by omega
  subst hie;refine fin [(10000,20000)] (aI rfl ?_);refine⟨⟨?_,nP⟩,trivial⟩;show dY (p.2.1.take p.2.1.length)=dY p.2.1;rw[List.take_length]
theorem Fe:dA Tryz.prog 48=true:=by kernel_rfl
theorem NC(p:fA)(hl:p.2.1.length≤1048576)(hb:(dN p.2.1).length≤1048576):aC Tryz.prog 48 [.rp qm p] [] (.sl 10000) [.row 10000 38 2 aR (dN p.2.1) []]:=by
 refine aC.intro (nt:=34) aQ mixed Fe Tryz.func48 rfl rfl rfl rfl rfl rfl ?_;refine lp Nat (fun i=>[(13,.int .i64 (i:Nat)),(3,.sl 20000)]) (fun i=>[.row 20000 38 2 aR (dN (p.2.1.take i)) []]) (fun i=>p.2.1.length-i) (fun i=>i≤p.2.1.length) 0 (Nat.zero_le _) ?_ ?_
 ·exact P6 [⟨3,30000,38,2,aR⟩] [(20000,30000)] rfl (aI (aI (aI rfl rfl) (aI rfl trivial)) ⟨⟨rfl,nP⟩,trivial⟩)
 intro i hi;refine aI (fun q1=> ?_) (fun q1=> ?_)
 ·have hlt:i<p.2.1.length:=dX q1;have hii:0≤((i:Nat):Int)∧((i:Nat):Int)<(p.2.1.length:Nat):=by omega
  have e:dN (p.2.1.take (i+1))=dN (p.2.1.take i)++(jy p.2.1 i).2.2.2.1.flatMap fun l:ay×ay=>[l.1,l.2]:=jo (fun w:dn=>w.2.2.2.1.flatMap fun l:ay×ay=>[l.1,l.2]) (dflt aV) p.2.1 hlt
  have hle:(dN (p.2.1.take (i+1))).length≤(dN p.2.1).length:=lQ (fun w:dn=>w.2.2.2.1.flatMap fun l:ay×ay=>[l.1,l.2]) p.2.1 (i+1)
  have hfl:((jy p.2.1 i).2.2.2.1.flatMap fun l:ay×ay=>[l.1,l.2]).length=2*(jy p.2.1 i).2.2.2.1.length:=by
   induction (jy p.2.1 i).2.2.2.1 with
   |nil=>rfl
   |cons x l ih=>rw[List.flatMap_cons,List.length_append,ih];simp only[List.length_cons,List.length_nil];omega
  rw[e,List.length_append]at hle;refine aI hii ?_;refine lp Nat (fun k=>[(20,.int .i64 (k:Nat)),(3,.sl 21000)]) (fun k=>[.bY 5 77 [.int .i64 (jy p.2.1 i).1,.int .i64 (jy p.2.1 i).2.1,.rsl aR (jy p.2.1 i).2.2.1,.rsl Dh (jy p.2.1 i).2.2.2.1,.rsl (.int .i64) (jy p.2.1 i).2.2.2.2],.row 21000 38 2 aR (dN (p.2.1.take i)++((jy p.2.1 i).2.2.2.1.take k).flatMap fun l:ay×ay=>[l.1,l.2]) []]) (fun k=>(jy p.2.1 i).2.2.2.1.length-k) (fun k=>k≤(jy p.2.1 i).2.2.2.1.length) 0 (Nat.zero_le _) ?_ ?_
  ·exact hd [(21000,20000)] rfl (aI (aI rfl rfl) (aI rfl trivial)) ⟨trivial,⟨⟨rfl,rfl⟩,⟨rfl,rfl⟩,rfl,rfl,rfl,trivial⟩,⟨(List.append_nil _).symm,nP⟩,trivial⟩
  intro k hk;refine aI (fun q2=> ?_) (fun q2=> ?_)
  ·have hkt:k<(jy p.2.1 i).2.2.2.1.length:=dX q2;have hkk:0≤((k:Nat):Int)∧((k:Nat):Int)<((jy p.2.1 i).2.2.2.1.length:Nat):=by omega
   have e2:=jo (fun l:ay×ay=>[l.1,l.2]) ((0,0),(0,0)) (jy p.2.1 i).2.2.2.1 hkt;have hle2:=lQ (fun l:ay×ay=>[l.1,l.2]) (jy p.2.1 i).2.2.2.1 (k+1);rw[e2,List.length_append]at hle2;refine aI hkk ?_;refine aI ?_ ?_
   ·show(dN (p.2.1.take i)++((jy p.2.1 i).2.2.2.1.take k).flatMap fun l:ay×ay=>[l.1,l.2]).length+2≤1073741824;have h3:([((jy p.2.1 i).2.2.2.1.getD k ((0,0),(0,0))).1,((jy p.2.1 i).2.2.2.1.getD k ((0,0),(0,0))).2]:List ay).length=2:=rfl;rw[List.length_append];omega
   refine aM (k+1) hkt ?_ ?_
   ·refine hd [(21000,30)] rfl (aI (aI (bD (by omega)) rfl) (aI rfl trivial)) ⟨trivial,⟨⟨rfl,rfl⟩,⟨rfl,rfl⟩,rfl,rfl,rfl,trivial⟩,⟨?_,nP⟩,trivial⟩;show(dN (p.2.1.take i)++((jy p.2.1 i).2.2.2.1.take k).flatMap fun l:ay×ay=>[l.1,l.2])++_=dN (p.2.1.take i)++((jy p.2.1 i).2.2.2.1.take (k+1)).flatMap fun l:ay×ay=>[l.1,l.2]
    rw[e2,List.append_assoc];rfl
   ·show(jy p.2.1 i).2.2.2.1.length-(k+1)<(jy p.2.1 i).2.2.2.1.length-k;omega
  ·have hge:(jy p.2.1 i).2.2.2.1.length≤k:=dR q2;have hke:k=(jy p.2.1 i).2.2.2.1.length:=by omega
   subst hke;refine aM (i+1) hlt ?_ ?_
   ·refine hd [(20000,21000)] rfl (aI (aI (bD (by omega)) rfl) (aI rfl trivial)) ⟨⟨?_,nP⟩,trivial⟩;show dN (p.2.1.take i)++((jy p.2.1 i).2.2.2.1.take (jy p.2.1 i).2.2.2.1.length).flatMap _=dN (p.2.1.take (i+1));rw[e,List.take_length]
   ·show p.2.1.length-(i+1)<p.2.1.length-i;omega
 ·have hge:p.2.1.length≤i:=dR q1;have hie:i=p.2.1.length:=by omega
  subst hie;refine fin [(10000,20000)] (aI rfl ?_);refine⟨⟨?_,nP⟩,trivial⟩;show dN (p.2.1.take p.2.1.length)=dN p.2.1;rw[List.take_length]
theorem qO(p:fA)(hs:om p):aF Tryz.prog 19 [Di p] (.bool (mM p)):=by
 refine aF.intro (nt:=55) aQ mixed (by kernel_rfl) Tryz.func19 rfl rfl rfl rfl rfl ?_;have hwl:=hs.workers
 have hcond0:(bif (bif decide (((p.2.1.length:Nat):Int)<1)then true else decide ((4:Int)<(p.2.1.length:Nat)))then true else decide ((0:Int)<((p.1.2.2.2.length:Nat):Int)))= !(bJ p.2.1.length 1 4&&p.1.2.2.2.length==0):=by
  have e:decide ((0:Int)<((p.1.2.2.2.length:Nat):Int))= !(p.1.2.2.2.length==0):=by rw[Bool.eq_iff_iff];simp only[decide_eq_true_eq,Bool.not_eq_true',beq_eq_false_iff_ne];omega
  unfold bJ;rw[e,show decide (((p.2.1.length:Nat):Int)<1)= !decide ((1:Int)≤(p.2.1.length:Nat)) by rw[←decide_not];exact decide_eq_decide.2 (by omega),show decide ((4:Int)<(p.2.1.length:Nat))= !decide (((p.2.1.length:Nat):Int)≤4) by rw[←decide_not];exact decide_eq_decide.2 (by omega)];cases decide ((1:Int)≤(p.2.1.length:Nat))<;>cases decide (((p.2.1.length:Nat):Int)≤4)<;>rfl
 refine aI (fun q1=> ?_) (fun q1=> ?_)
 ·have a1:=Eq.mp (Bool.not_eq_true' _) (hcond0.symm.trans q1);have e:mM p=false:=by unfold mM jE;rw[a1];rfl
  rw[e];exact rfl
 have a1:=Eq.mp (Bool.not_eq_false' _) (hcond0.symm.trans q1);have hn:p.2.1.length≤4:=by simp only[bJ,Bool.and_eq_true,decide_eq_true_eq]at a1;omega
 refine lp Nat (fun i=>[(27,.int .i64 (i:Nat)),(3,.int .i64 ((p.2.1.take i).countP eF:Nat))]) (fun _=>[.bY 1 44 [.rsl aL p.1.1,.int .i64 p.1.2.1,.int .i64 p.1.2.2.1.1,.int .i64 p.1.2.2.1.2,.rsl aR p.1.2.2.2,.rsl aV p.2.1,.int .i64 p.2.2]]) (fun i=>p.2.1.length-i) (fun i=>i≤p.2.1.length∧(p.2.1.take i).all (fG p.2.1.length)=true) 0 ⟨Nat.zero_le _,rfl⟩ ?_ ?_
 ·exact hd [] rfl (aI (aI rfl rfl) (aI (aI rfl rfl) trivial)) ⟨trivial,⟨rfl,⟨rfl,rfl⟩,⟨rfl,rfl⟩,⟨rfl,rfl⟩,rfl,rfl,⟨rfl,rfl⟩,trivial⟩,trivial⟩
 rintro i ⟨hi,ha⟩;refine aI (fun q2=> ?_) (fun q2=> ?_)
 ·have hlt:i<p.2.1.length:=dX q2;have hm:=FL hlt;refine aI (show 0≤((i:Nat):Int)∧((i:Nat):Int)<(p.2.1.length:Nat) by omega) ?_;refine Or.inl (eI _ (aI (KZ (jy p.2.1 i) p.2.1.length (hs.counts _ hm)) ?_));refine aI (fun q3=> ?_) (fun q3=> ?_)
  ·have q4:fG p.2.1.length (jy p.2.1 i)=false:=Eq.mp (Bool.not_eq_true' _) q3;have b1:p.2.1.all (fG p.2.1.length)=false:=Bq _ (dflt aV) p.2.1 hlt q4;have e:mM p=false:=by unfold mM jE;rw[b1];simp
   rw[e];exact rfl
  have ok:fG p.2.1.length (jy p.2.1 i)=true:=Eq.mp (Bool.not_eq_false' _) q3;refine Or.inl (eI _ (aI (JE _) ?_));refine Or.inl (eI _ (aI (Jl _) ?_));have hcl:=EF p.2.1 i;have hct:=oH eF (dflt aV) p.2.1 hlt;refine aM (i+1) ⟨hlt,by rw[l8 _ (dflt aV) p.2.1 hlt,ha];exact ok⟩ ?_ ?_
  ·refine hd [] rfl (aI (aI (bD (by omega)) rfl) (aI (aI ?_ rfl) trivial)) ⟨trivial,⟨rfl,⟨rfl,rfl⟩,⟨rfl,rfl⟩,⟨rfl,rfl⟩,rfl,rfl,⟨rfl,rfl⟩,trivial⟩,trivial⟩;show IntKind.i64.wrap (((p.2.1.take i).countP eF:Nat)+(bif eF (p.2.1.getD i (dflt aV))then 1 else 0))=_;rw[hct,IntWalk.i64_in _ (by cases eF (p.2.1.getD i (dflt aV))<;>simp only[cond_true,cond_false]<;>omega)];cases eF (p.2.1.getD i (dflt aV))<;>simp
  ·show p.2.1.length-(i+1)<p.2.1.length-i;omega
 have hge:p.2.1.length≤i:=dR q2;have hie:i=p.2.1.length:=by omega
 subst hie;rw[List.take_length]at ha;have hhb:=wE ha;have hrb:=wZ hs.lW;have htk:(p.2.1.take p.2.1.length).countP eF=p.2.1.countP eF:=by rw[List.take_length]
 have hpre:jE p=(((p.2.1.countP eF:Nat):Int)==p.2.2):=by unfold jE;rw[a1,ha];rfl
 refine Or.inr (eI _ (eI _ (aI (aC.Cv (r2:=.sl 10001) (ts2:=[.row 10001 127 2 aR (dY p.2.1) []]) aQ [54] Fg (I7 p hwl (by omega)) rfl rfl rfl) ?_)));refine Or.inr (aI (fun g1=> ?_) (fun g1=> ?_))
 ·refine eI _ (eI _ (aI (aC.Cv (r2:=.sl 10001) (ts2:=[.row 10001 38 2 aR (dN p.2.1) []]) aQ [54] Fe (NC p hwl (by omega)) rfl rfl rfl) ?_));refine Or.inr (aI (fun g2=> ?_) (fun g2=>by rw[show _=true from g1]at g2;cases g2));refine eI _ (eI _ (aI (aC.DW aQ [81,82] Fj (Ox (p.1.1,p.1.2.1,p.1.2.2.1,dY p.2.1) (dN p.2.1) hs.cells hs.words (by omega) (show(dY p.2.1).length≤16777216 by omega)) rfl) ?_));have e:mM p=mE (p.1.1,p.1.2.1,p.1.2.2.1,dY p.2.1) (dN p.2.1):=by unfold mM;rw[hpre,←htk,show _=true from g1];rfl
  rw[e];exact Eq.trans (congrArg (fun b=>bif b then mE (p.1.1,p.1.2.1,p.1.2.2.1,dY p.2.1) (dN p.2.1)else false) g1) rfl
 ·refine eI (.bool false) ?_;refine Or.inr (aI (fun g2=>by rw[show _=false from g1]at g2;cases g2) (fun g2=> ?_));refine eI (.bool false) ?_;have e:mM p=false:=by unfold mM;rw[hpre,←htk,show _=false from g1];rfl
  rw[e];exact Eq.trans (congrArg (fun b=>bif b then false else false) g1) rfl
def nW(x:aN):ay:=(x.tag,x.at_)
def Mk(x:aD):ay:=(x.a,x.b)
def nC(x:aK):ah:=(x.kind,x.level,x.value,x.data,x.words.map nW)
def nL(x:aS):ay×ay:=(nW x.a,nW x.b)
def nK(x:aA):dn:=(x.phase,x.victim,x.redexes.map Mk,x.links.map nL,x.counts)
def nM(x:bg):bE:=(x.cells.map nC,x.free,nW x.root,x.redexes.map Mk)
def iX(x:bP):fA:=(nM x.memory,x.workers.map nK,x.active)
theorem lg{α:Type}{f:α→List D}{u:U}{g:α→El u}(h:∀x,enc u (g x)=f x):∀l:List α,List.flatMap (enc u) (l.map g)=l.flatMap f
 |[]=>rfl
 |x::l=>by
  rw[List.flatMap_cons,←h x,←lg h l];rfl
theorem Pq(x:aN):enc aR (nW x)=x.enc:=rfl
theorem Nw(x:aD):enc aR (Mk x)=x.enc:=rfl
theorem Pp(x:aS):enc Dh (nL x)=x.enc:=rfl
theorem Pn(x:aK):enc aL (nC x)=x.enc:=by
 show[_]++([_]++([_]++([D.sl _ _]++[D.sl _ _])))=[_,_,_,D.sl _ _,D.sl _ _];simp only[List.cons_append,List.nil_append,nC];rw[←lg (u:=aR) (g:=nW) Pq x.words,←rD];rw[List.length_map]
theorem Po(x:aA):enc aV (nK x)=x.enc:=by
 show[_]++([_]++([D.sl _ _]++([D.sl _ _]++[D.sl _ _])))=[_,_,D.sl _ _,D.sl _ _,D.sl _ _];simp only[List.cons_append,List.nil_append,nK];rw[←lg (u:=aR) (g:=Mk) Nw x.redexes,←lg (u:=Dh) (g:=nL) Pp x.links,←rD];rw[List.length_map,List.length_map]
theorem Kg(x:bP):enc qm (iX x)=x.enc:=by
 show([D.sl _ _]++([_]++(([_]++[_])++[D.sl _ _])))++([D.sl _ _]++[_])=[D.sl _ _,_,_,_,D.sl _ _,D.sl _ _,_];simp only[List.cons_append,List.nil_append,iX,nM,nW];rw[←lg (u:=aL) (g:=nC) Pn x.memory.cells,←lg (u:=aR) (g:=Mk) Nw x.memory.redexes,←lg (u:=aV) (g:=nK) Po x.workers];rw[List.length_map,List.length_map,List.length_map]
theorem Fw{x:bP}(h:x.small):om (iX x):=by
 obtain⟨⟨⟨h1,h2⟩,_,h3,_⟩,h4,h5⟩:=h;refine⟨?_,?_,?_,?_,?_,?_,?_⟩
 ·show(x.memory.cells.map nC).length≤_;rw[List.length_map];exact h1
 ·intro c hc;obtain⟨y,hy,rfl⟩:=List.mem_map.1 hc;show(y.words.map nW).length≤_;rw[List.length_map];exact(h2 y hy).2.1
 ·show(x.memory.redexes.map Mk).length≤_;rw[List.length_map];exact h3
 ·show(x.workers.map nK).length≤_;rw[List.length_map];exact h4
 ·intro c hc;obtain⟨y,hy,rfl⟩:=List.mem_map.1 hc;show(y.redexes.map Mk).length≤_;rw[List.length_map];exact(h5 y hy).1.1
 ·intro c hc;obtain⟨y,hy,rfl⟩:=List.mem_map.1 hc;show(y.links.map nL).length≤_;rw[List.length_map];exact(h5 y hy).2.1.1
 ·intro c hc;obtain⟨y,hy,rfl⟩:=List.mem_map.1 hc;exact(h5 y hy).2.2
end Go.Proofs.YtgiceoidjipgmaaGreat
namespace Go.Tr
open Go Go.RowKit
universe u
theorem BN{u:U}:∀xs:List (El u),(List.flatMap (enc u) xs).length=xs.length*u.size
 |[]=>by simp
 |x::xs=>by rw[List.flatMap_cons,List.length_append,aT,BN xs,List.length_cons,Nat.add_mul];omega
theorem Inv.PK{cx:Cx}{β:Nat→Value}{w:World}{g:Nat}{t:TypeId}{s:Nat}{u:U}{xs:List (El u)}{us:List Value}(h:Inv cx.w0 [] w [Tok.res cx β (.row g t s u xs us)]):
  ∃A c q,β g=.slice A (List.length (α:=El u) xs) c∧T1 w (.sl (List.length (α:=El u) xs) (List.flatMap (enc u) xs)) q (.slice A (List.length (α:=El u) xs) c)∧Own cx.w0.heap.size w q:=by
 obtain⟨G,⟨F,G',rfl,⟨hs,bs,raw,rfl,hg,_⟩,rfl,_⟩,h3⟩:=h.sep;obtain⟨A,c,q,h1,h2,h4,h5⟩:=hg.Od (by subst hs;exact BN xs);exact⟨A,c,q,h1,h2,h4.1,fun b hb=>⟨(h3 b (by simpa using h5 b hb)).elim (fun h=>by simp at h) id,(h4.2 b hb).2⟩⟩
end Go.Tr
namespace Go.Proofs.YtgiceoidjipgmaaGreat
open Go Go.RowKit Go.Proofs Go.Tr
end Go.Proofs.YtgiceoidjipgmaaGreat
