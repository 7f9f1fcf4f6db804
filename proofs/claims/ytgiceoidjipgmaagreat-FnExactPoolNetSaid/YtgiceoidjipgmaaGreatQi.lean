
/- A pool's net, by the program. -/
import Derived.Test.YtgiceoidjipgmaaGreatQh
import Derived.Test.YtgiceoidjipgmaaGreatPoolC
set_option linter.unusedSimpArgs false
set_option linter.unusedVariables false
namespace Go.Tr
open Go Go.RowKit
theorem zU{c:ah}(h:dz (gA (oF c))=true):c.2.2.2.1.length≤4:=by
 unfold dz at h;rw[Bool.and_eq_true]at h;have h:=h.2;have e:(gA (oF c)).data=c.2.2.2.1:=rfl;unfold mo at h;rw[e]at h
 repeat' split at h
 all_goals (simp only[Bool.and_eq_true,beq_iff_eq,bJ,decide_eq_true_eq]at h;omega)
theorem Dr{c:ah}(h:gV c=true):c.2.2.2.1.length≤4:=by
 unfold gV at h;cases hA:aZ c.1 with
 |true=>rw[hA]at h;exact zU h
 |false=>
  rw[hA]at h;cases h1:c.1==13 with
  |true=>rw[h1]at h;simp only[cond_true,cond_false,Bool.and_eq_true,decide_eq_true_eq,beq_iff_eq]at h;omega
  |false=>rw[h1]at h;simp only[cond_false,Bool.and_eq_true,beq_iff_eq]at h;omega
theorem GL{n:Nat}{f:Nat→Bool}(h:dM n f=true){i:Nat}(hi:i<n):f i=true:=by
 cases hf:f i with
 |true=>rfl
 |false=>rw[lM hi hf]at h;cases h
def Im(p:fA):bE:=(p.1.1,p.1.2.1,p.1.2.2.1,dY p.2.1)
def nk(ws:List dn)(i:Nat):List (ay×ay):=(ws.take i).flatMap fun w=>w.2.2.2.1
structure GI(p:fA):Prop where
 ok:lY p.1.1 (Im p)
 cells:p.1.1.length≤1500
 lW:(dY p.2.1).length≤1500
 nored:p.1.2.2.2=[]
 links:∀w∈p.2.1,w.2.2.2.1.length≤1500∧∀l∈w.2.2.2.1,bH p.1.1 l.1=true∧bH p.1.1 l.2=true
 ws:p.2.1.length≤4
 pos:0<p.1.1.length
end Go.Tr
namespace Go.Proofs.YtgiceoidjipgmaaGreat
open Go Go.RowKit Go.Proofs Go.Tr
theorem AQ{p:fA}(h:mM p=true):GI p:=by
 unfold mM jE mE at h;simp only[Bool.and_eq_true]at h;obtain⟨⟨⟨⟨h1,h2⟩,h3⟩,_⟩,⟨h4,h5⟩,h6,h7,h8,_,_,h9⟩:=h;have hn:1≤p.1.1.length∧p.1.1.length≤1500:=by simp only[bJ,Bool.and_eq_true,decide_eq_true_eq]at h4;omega
 have h5:(dY p.2.1).length≤p.1.1.length:=of_decide_eq_true h5;have hw:∀x∈dG (Im p)++dN p.2.1,dJ p.1.1 x=true:=fun x hx=>List.all_eq_true.1 h7 x hx
 have hcell:∀c∈p.1.1,gV c=true:=fun c hc=>List.all_eq_true.1 h6 c hc
 have hwc:∀c∈p.1.1,∀x∈bA c,dJ p.1.1 x=true:=fun c hc x hx=>hw x (List.mem_append_left _ (List.mem_cons_of_mem _ (List.mem_flatMap.2 ⟨c,hc,hx⟩)))
 have hend13:∀i:Nat,i<p.1.1.length→((aj p.1.1 (i:Nat)).1==13)=true→(bF p.1.1 (p.1.1.length+1) (2,(i:Int))).2=true:=fun i hi h13=>by
  have:=GL h9 hi;rw[h13]at this;exact this
 refine⟨⟨fK.refl _,fun c hc x hx=>pq (hwc c hc x hx),fun c hc=> ?_,fun c hc=> ?_,pq (hw _ (List.mem_append_left _ (List.mem_cons_self ..))),fun i hi=> ?_,fun q hq=> ?_,fun _ _ _=>rfl⟩,hn.2,by omega,?_,fun w hwm=>⟨?_,fun l hl=> ?_⟩,?_,hn.1⟩
 ·have:=uq (hcell c hc);show(bA c).length≤_;unfold bA;omega
 ·have:=Dr (hcell c hc);omega
 ·have hi:i<p.1.1.length:=hi;cases h13:(aj p.1.1 (i:Nat)).1==13 with
  |true=>exact⟨_,hend13 i hi h13⟩
  |false=>
   by_cases hl0:0<(bA (aj p.1.1 (i:Nat))).length
   ·have hx:=hwc _ (bR hi) ((bA (aj p.1.1 (i:Nat))).getD 0 (0,0)) (by rw[List.getD_eq_getElem?_getD,List.getElem?_eq_getElem hl0];exact List.getElem_mem hl0);obtain⟨x,hxe⟩:∃x,x=(bA (aj p.1.1 (i:Nat))).getD 0 (0,0):=⟨_,rfl⟩;rw[←hxe]at hx
    have hstep:∀K,bF p.1.1 (K+1) (2,(i:Int))=bF p.1.1 K x:=fun K=>by
     rw[gH,hxe]
     have:(((2:Int) !=2)||(bA (aj p.1.1 (i:Nat))).length==0)=false:=by
      rw[show((2:Int) !=2)=false from rfl,Bool.false_or,beq_eq_false_iff_ne];omega
     rw[show((2,(i:Int)):ay).1=2 from rfl,show((2,(i:Int)):ay).2=(i:Nat) from rfl,this];rfl
    have hxin:=dD (pq hx);unfold dJ at hx;simp only[Bool.and_eq_true,Bool.or_eq_true,beq_iff_eq]at hx;rcases hx.2 with⟨t1,_⟩|⟨t2,t3⟩
    ·refine⟨2,?_⟩;show(bF p.1.1 (1+1) (2,(i:Int))).2=true;rw[hstep,gH,t1];rfl
    ·obtain⟨j,hj⟩:∃j:Nat,x.2=(j:Nat):=⟨x.2.toNat,by omega⟩;refine⟨p.1.1.length+2,?_⟩;show(bF p.1.1 ((p.1.1.length+1)+1) (2,(i:Int))).2=true;rw[hstep,show x=(2,(j:Int)) from Prod.ext t2 hj];exact hend13 j (by omega) (by rw[←hj];rw[beq_iff_eq];exact t3)
   ·refine⟨1,?_⟩;show(bF p.1.1 (0+1) (2,(i:Int))).2=true;rw[gH,show((2,(i:Int)):ay).2=(i:Nat) from rfl,show(bA (aj p.1.1 (i:Nat))).length=0 by omega,Bool.or_comm];rfl
 ·have:=List.all_eq_true.1 h8 q hq;unfold gq at this;simp only[Bool.and_eq_true,bJ,decide_eq_true_eq]at this;obtain⟨⟨⟨a1,a2⟩,a3⟩,a4⟩:=this;exact⟨⟨a2.1,by show q.1<(p.1.1.length:Nat);omega,a3⟩,by omega,by show q.2<(p.1.1.length:Nat);omega,a4⟩
 ·exact List.eq_nil_of_length_eq_zero (by simpa using h2)
 ·have:=List.all_eq_true.1 h3 w hwm;unfold fG at this;simp only[Bool.and_eq_true,decide_eq_true_eq]at this;exact this.1.2
 ·have hm:∀x,x=l.1∨x=l.2→x∈dN p.2.1:=fun x hx=>List.mem_flatMap.2 ⟨w,hwm,List.mem_flatMap.2 ⟨l,hl,by simpa using hx⟩⟩
  exact⟨pq (hw _ (List.mem_append_right _ (hm _ (.inl rfl)))),pq (hw _ (List.mem_append_right _ (hm _ (.inr rfl))))⟩
 ·simp only[bJ,Bool.and_eq_true,decide_eq_true_eq]at h1;omega
end Go.Proofs.YtgiceoidjipgmaaGreat
