
/- The reference and the program ask the same of a memory. No program in it. -/
import Derived.Test.YtgiceoidjipgmaaGreatNb
set_option linter.unusedSimpArgs false
set_option linter.unusedVariables false
namespace Go.Tr
open Go Go.RowKit
theorem dQ(xs:List ah)(i:Nat):aj xs (i:Int)=xs.getD i (dflt aL):=by unfold aj elt;simp
theorem bR{xs:List ah}{i:Nat}(h:i<xs.length):aj xs (i:Int)∈xs:=by
 rw[dQ,List.getD_eq_getElem?_getD,List.getElem?_eq_getElem h];exact List.getElem_mem h
theorem Gn(xs:List ah):(List.range xs.length).map (fun i:Nat=>aj xs i)=xs:=by
 refine List.ext_getElem (by simp) fun i h1 h2=> ?_
 simp only[List.getElem_map,List.getElem_range];rw[dQ,List.getD_eq_getElem?_getD,List.getElem?_eq_getElem h2];rfl
theorem Ct{l F:List Nat}(h:l.Nodup)(hs:∀x∈l,x∈F):l.length≤F.length:=by
 induction l generalizing F with
 |nil=>simp
 |cons x l ih=>
  rw[List.nodup_cons]at h;have hx:x∈F:=hs x (by simp);have h1:=ih (F:=F.erase x) h.2 fun y hy=>(List.mem_erase_of_ne (fun e=>by subst e;exact h.1 hy)).2 (hs y (by simp[hy]))
  rw[List.length_erase_of_mem hx]at h1;have:0<F.length:=List.length_pos_of_mem hx;simp only[List.length_cons];omega
theorem yU{xs:List ah}:∀{n m:Nat} {a:Int},bW xs n a=true→bW xs m a=true→n=m
 |0,0,_,_,_=>rfl
 |0,m+1,a,h1,h2=>by
  simp only[bW,Bool.and_eq_true,beq_iff_eq,bJ,decide_eq_true_eq]at h1 h2;omega
 |n+1,0,a,h1,h2=>by
  simp only[bW,Bool.and_eq_true,beq_iff_eq,bJ,decide_eq_true_eq]at h1 h2;omega
 |n+1,m+1,a,h1,h2=>by
  simp only[bW,Bool.and_eq_true]at h1 h2;rw[yU h1.2 h2.2]
theorem vT{xs:List ah}:∀(n:Nat) (a:Int),bW xs n a=true→∃l:List Nat,l.length=n∧l.Nodup∧∀x∈l,x<xs.length∧(aj xs (x:Nat)).1=0∧bJ (aj xs (x:Nat)).2.2.1 (-1) ((xs.length:Int)-1)=true∧∃m,m≤n∧bW xs m (x:Nat)=true
 |0,a,_=>⟨[],rfl,List.nodup_nil,by simp⟩
 |n+1,a,h=>by
  have h0:=h;simp only[bW,Bool.and_eq_true,beq_iff_eq]at h;obtain⟨⟨h1,h2⟩,h3⟩:=h;obtain⟨l,hl,hn,ha⟩:=vT n _ h3;have hr:0≤a∧a≤(xs.length:Int)-1:=by simpa[bJ]using h1
  have ea:((a.toNat:Nat):Int)=a:=by omega
  have hv:bJ (aj xs a).2.2.1 (-1) ((xs.length:Int)-1)=true:=by
   cases n with
   |zero=>simp only[bW,beq_iff_eq]at h3;rw[h3];simp[bJ];omega
   |succ n=>simp only[bW,Bool.and_eq_true,bJ,decide_eq_true_eq]at h3;simp only[bJ,Bool.and_eq_true,decide_eq_true_eq];omega
  refine⟨a.toNat::l,by simp[hl],List.nodup_cons.2 ⟨fun hm=> ?_,hn⟩,fun x hx=> ?_⟩
  ·obtain⟨_,_,_,m,hm1,hm2⟩:=ha _ hm;rw[ea]at hm2;have:=yU hm2 h0;omega
  ·rcases List.mem_cons.1 hx with rfl|hx
   ·rw[ea];exact⟨by omega,h2,hv,n+1,Nat.le_refl _,h0⟩
   ·obtain⟨p1,p2,p3,m,p4,p5⟩:=ha x hx;exact⟨p1,p2,p3,m,by omega,p5⟩
theorem Cb(xs:List ah):bK xs=((List.range xs.length).filter fun i:Nat=>(aj xs i).1==0).length:=by
 have h:bK xs=((List.range xs.length).map (fun i:Nat=>aj xs i)).countP (fun c=>c.1==0):=by rw[Gn];rfl
 rw[h,List.countP_map,List.countP_eq_length_filter];rfl
theorem zR{xs:List ah}{a:Int}(h:bW xs (bK xs) a=true){i:Nat}(hi:i<xs.length)(h0:(aj xs i).1=0):bJ (aj xs i).2.2.1 (-1) ((xs.length:Int)-1)=true:=by
 obtain⟨l,hl,hn,ha⟩:=vT _ _ h
 by_cases hm:i∈l
 ·exact(ha i hm).2.2.1
 ·have h1:(i::l).length≤((List.range xs.length).filter fun i:Nat=>(aj xs i).1==0).length:=Ct (List.nodup_cons.2 ⟨hm,hn⟩) fun x hx=>by
   rcases List.mem_cons.1 hx with rfl|hx
   ·simp[hi,h0]
   ·obtain⟨p1,p2,_⟩:=ha x hx;simp[p1,p2]
  rw[←Cb]at h1;simp only[List.length_cons,hl]at h1;omega
theorem getD_set_ne{l:List Int}{i j:Nat}{x:Int}(h:j≠i):(l.set j x).getD i 0=l.getD i 0:=by
 rw[List.getD_eq_getElem?_getD,List.getD_eq_getElem?_getD,List.getElem?_set_ne h]
theorem xO{xs:List ah}{i:Nat}(h0:(aj xs i).1=0):∀(ws:List ay) (l:List Int),ws.all (dJ xs)=true→(jv l ws).getD i 0=l.getD i 0
 |[],l,_=>rfl
 |w::ws,l,h=>by
  rw[List.all_cons,Bool.and_eq_true]at h;unfold jv;rw[List.foldl_cons];refine Eq.trans (xO h0 ws _ h.2) ?_;refine getD_set_ne fun e=> ?_
  have h1:=h.1;simp only[dJ,Bool.and_eq_true,Bool.or_eq_true,beq_iff_eq,bJ,aZ,decide_eq_true_eq]at h1;have ew:aj xs w.2=aj xs (i:Nat):=oz (by omega);rw[ew,h0]at h1;omega
theorem xL{xs:List ah}{i:Nat}(h0:(aj xs i).1=0):∀(ws:List ay) (l:List Int),ws.all (gq xs)=true→(gP l ws).getD i 0=l.getD i 0
 |[],l,_=>rfl
 |w::ws,l,h=>by
  rw[List.all_cons,Bool.and_eq_true]at h;unfold gP;rw[List.foldl_cons];have h1:=h.1;simp only[gq,Bool.and_eq_true,bJ,aZ,decide_eq_true_eq]at h1;refine Eq.trans (xL h0 ws _ h.2) ?_;refine Eq.trans (getD_set_ne fun e=> ?_) (getD_set_ne fun e=> ?_)
  ·have ew:aj xs w.2=aj xs (i:Nat):=oz (by omega);rw[ew,h0]at h1;omega
  ·have ew:aj xs w.1=aj xs (i:Nat):=oz (by omega);rw[ew,h0]at h1;omega
theorem GZ(c:ah)(n:Int):cellS c n=(gV c&&(!(c.1==0)||bJ c.2.2.1 (-1) (n-1))):=by
 have hd:decide (c.2.2.2.2.length<2)=decide (c.2.2.2.2.length≤1):=by congr 1;exact propext ⟨by omega,by omega⟩
 unfold cellS gV
 by_cases h0:c.1=0
 ·have hA:aZ c.1=false:=by simp[aZ,bJ,h0]
  have hB:(c.1==13)=false:=by simp[h0]
  have hC:(c.1==0)=true:=by simp[h0]
  simp[hA,hB,hC]
 ·have hC:(c.1==0)=false:=by simpa using h0
  by_cases h1:c.1=13
  ·have hA:aZ c.1=false:=by simp[aZ,bJ,h1]
   have hB:(c.1==13)=true:=by simp[h1]
   rw[hA,hB,hC,hd];simp
  ·have hB:(c.1==13)=false:=by simpa using h1
   rw[hB,hC];cases hA:aZ c.1<;>simp
theorem mZ{α:Type}{f:α→Bool}{xs:List α}(h:xs.all f=true){x:α}(hx:x∈xs):f x=true:=List.all_eq_true.1 h x hx
theorem vg{n:Nat}{f:Nat→Bool}:dM n f=true↔∀i<n,f i=true:=by simp[dM]
theorem Mq{xs:List ah}{us:List Int}{i:Nat}(hi:i<xs.length)(hc:xs.all gV=true)(hf:(aj xs i).1=0→us.getD i 0=0):
  rT xs us i=(uT xs us i&&(!((aj xs i).1==13)||(bF xs (xs.length+1) (2,i)).2)):=by
 have hI:=mZ hc (bR hi);unfold rT uT o9;generalize aj xs (i:Int)=c at*
 by_cases h0:c.1=0
 ·have hA:aZ c.1=false:=by simp[aZ,bJ,h0]
  rw[hA,hf h0,h0];simp
 ·have hC:(c.1==0)=false:=by simpa using h0
  by_cases h1:c.1=13
  ·have hA:aZ c.1=false:=by simp[aZ,bJ,h1]
   have hB:(c.1==13)=true:=by simp[h1]
   unfold gV at hI;rw[hA,hB]at hI;simp only[cond_false,cond_true,Bool.and_eq_true,decide_eq_true_eq]at hI;have hl:=hI.2;rw[hA,hB,hC];rcases Nat.lt_or_ge c.2.2.2.2.length 1 with h|h
   ·have e:c.2.2.2.2.length=0:=by omega
    simp[e]
   ·have e:c.2.2.2.2.length=1:=by omega
    simp[e]
  ·have hB:(c.1==13)=false:=by simpa using h1
   have hA:aZ c.1=true:=by
    cases h:aZ c.1 with
    |true=>rfl
    |false=>
     unfold gV at hI;rw[h,hB]at hI;simp only[cond_false,Bool.and_eq_true,beq_iff_eq]at hI;exact absurd hI.1.1.1 h0
   rw[hA,hB,hC];simp[bne]
theorem KA(m:bE)(held:List ay):mF m held m.2.2.2=mE m held:=by
 unfold mF mE
 congr 1
 have hcell:(m.1.all fun c=>cellS c m.1.length)=(m.1.all gV&&m.1.all fun c=> !(c.1==0)||bJ c.2.2.1 (-1) ((m.1.length:Int)-1)):=by
  have e:(fun c=>cellS c (m.1.length:Int))=fun c=>(gV c&&(!(c.1==0)||bJ c.2.2.1 (-1) ((m.1.length:Int)-1))):=funext fun c=>GZ c _
  rw[e];generalize m.1=l;generalize (l.length:Int)=n
  induction l with
  |nil=>rfl
  |cons c l ih=>simp only[List.all_cons,ih];cases gV c<;>cases (!(c.1==0)||bJ c.2.2.1 (-1) (n-1))<;>simp
 rw[hcell];cases hC:m.1.all gV with
 |false=>rfl
 |true=>
  rw[Bool.true_and,Bool.true_and];cases hW:(dG m++held).all (dJ m.1)with
  |false=>simp
  |true=>
   rw[Bool.true_and,Bool.true_and];cases hR:m.2.2.2.all (gq m.1)with
   |false=>simp
   |true=>
    rw[Bool.true_and,Bool.true_and]
    have hocc:dM m.1.length (rT m.1 (mV m.1 (dG m++held) m.2.2.2))=(dM m.1.length (uT m.1 (mV m.1 (dG m++held) m.2.2.2))&&dM m.1.length fun i=> !((aj m.1 i).1==13)||(bF m.1 (m.1.length+1) (2,i)).2):=by
     rw[Bool.eq_iff_iff,Bool.and_eq_true,vg,vg,vg]
     have key:∀i<m.1.length,rT m.1 (mV m.1 (dG m++held) m.2.2.2) i=(uT m.1 (mV m.1 (dG m++held) m.2.2.2) i&&(!((aj m.1 i).1==13)||(bF m.1 (m.1.length+1) (2,i)).2)):=fun i hi=>Mq hi hC fun h0=>by
      unfold mV;rw[xL h0 _ _ hR,xO h0 _ _ hW];rw[List.getD_eq_getElem?_getD,List.getElem?_replicate];simp[hi]
     constructor
     ·intro h;exact⟨fun i hi=>by have:=h i hi;rw[key i hi,Bool.and_eq_true]at this;exact this.1,fun i hi=>by have:=h i hi;rw[key i hi,Bool.and_eq_true]at this;exact this.2⟩
     ·intro h i hi;rw[key i hi,Bool.and_eq_true];exact⟨h.1 i hi,h.2 i hi⟩
    rw[hocc];cases hO:dM m.1.length (uT m.1 (mV m.1 (dG m++held) m.2.2.2))with
    |false=>simp
    |true=>
     cases hCh:bW m.1 (bK m.1) m.2.1 with
     |false=>simp
     |true=>
      have hv:(m.1.all fun c=> !(c.1==0)||bJ c.2.2.1 (-1) ((m.1.length:Int)-1))=true:=by
       rw[List.all_eq_true];intro c hc;obtain⟨i,hi,rfl⟩:=List.mem_iff_getElem.1 hc
       by_cases h0:(m.1[i]).1=0
       ·have e:aj m.1 (i:Nat)=m.1[i]:=by rw[dQ,List.getD_eq_getElem?_getD,List.getElem?_eq_getElem hi];rfl
        have:=zR hCh hi (by rw[e];exact h0);rw[e]at this;simp[this]
       ·simp[h0]
      rw[hv];simp
theorem pQ(p:fA):iL p=mM p:=by
 unfold iL mM
 congr 1
 exact KA (p.1.1,p.1.2.1,p.1.2.2.1,dY p.2.1) _
end Go.Tr
