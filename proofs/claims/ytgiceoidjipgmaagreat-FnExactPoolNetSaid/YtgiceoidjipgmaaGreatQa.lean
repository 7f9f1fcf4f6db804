
/- A pool's memory: connecting what is held. No program in it. -/
import Derived.Test.YtgiceoidjipgmaaGreatNn
set_option linter.unusedSimpArgs false
set_option linter.unusedVariables false
namespace Go.Tr
open Go Go.RowKit
def bA(c:ah):List ay:=c.2.2.2.2
def bH(xs:List ah)(w:ay):Bool:=bJ w.2 0 ((xs.length:Int)-1)&&((w.1==1&&aZ (aj xs w.2).1)||(w.1==2&& !aZ (aj xs w.2).1))
theorem pq{xs:List ah}{w:ay}(h:dJ xs w=true):bH xs w=true:=by
 unfold dJ at h;unfold bH;rw[Bool.and_eq_true]at h ⊢;refine⟨h.1,?_⟩;have h2:=h.2;rw[Bool.or_eq_true]at h2 ⊢;refine h2.imp id fun h=> ?_
 rw[Bool.and_eq_true,beq_iff_eq,beq_iff_eq]at h;rw[h.1,h.2];rfl
theorem dD{xs:List ah}{w:ay}(h:bH xs w=true):0≤w.2∧w.2<(xs.length:Nat):=by
 unfold bH at h;simp only[bJ,Bool.and_eq_true,decide_eq_true_eq]at h;omega
theorem mW{xs:List ah}{w:ay}(h:bH xs w=true):(w.1==1)=aZ (aj xs w.2).1∧(w.1==2)= !aZ (aj xs w.2).1:=by
 unfold bH at h;rw[Bool.and_eq_true]at h;have h:=h.2;simp only[Bool.or_eq_true,Bool.and_eq_true,beq_iff_eq,Bool.not_eq_true']at h;rcases h with⟨h1,h2⟩|⟨h1,h2⟩
 ·rw[h1,h2];exact⟨rfl,rfl⟩
 ·rw[h1,h2];exact⟨rfl,rfl⟩
theorem qb{xs:List ah}{w:ay}(h:bH xs w=true):(w.1==1)= !(w.1==2):=by
 have:=mW h;rw[this.1,this.2,Bool.not_not]
def fK(xs ys:List ah):Prop:=xs.length=ys.length∧∀i:Nat,i<xs.length→aZ (aj xs (i:Nat)).1=aZ (aj ys (i:Nat)).1
theorem fK.refl(xs:List ah):fK xs xs:=⟨rfl,fun _ _=>rfl⟩
theorem fK.trans{xs ys zs:List ah}(h:fK xs ys)(k:fK ys zs):fK xs zs:=⟨h.1.trans k.1,fun i hi=>(h.2 i hi).trans (k.2 i (by rw[←h.1];exact hi))⟩
theorem fK.word{xs ys:List ah}(h:fK xs ys)(w:ay):bH xs w=bH ys w:=by
 unfold bH;rw[h.1];cases hi:bJ w.2 0 ((ys.length:Int)-1)with
 |false=>rfl
 |true=>
  simp only[bJ,Bool.and_eq_true,decide_eq_true_eq]at hi;obtain⟨m,hm⟩:∃m:Nat,w.2=(m:Nat):=⟨w.2.toNat,by omega⟩;rw[hm,h.2 m (by have:=h.1;omega)]
theorem kL{xs:List ah}{i j:Nat}{c:ah}(hi:i<xs.length):aj (xs.set i c) (j:Nat)=if i=j then c else aj xs (j:Nat):=by
 rw[dQ,dQ,List.getD_eq_getElem?_getD,List.getD_eq_getElem?_getD,List.getElem?_set]
 by_cases h:i=j
 ·subst h;rw[if_pos rfl,if_pos rfl,if_pos hi];rfl
 ·rw[if_neg h,if_neg h]
theorem fK.set{xs:List ah}{i:Nat}{c:ah}(hi:i<xs.length)(h:aZ c.1=aZ (aj xs (i:Nat)).1):fK (xs.set i c) xs:=by
 refine⟨List.length_set ..,fun j _=> ?_⟩;rw[kL hi]
 by_cases e:i=j
 ·subst e;rw[if_pos rfl];exact h
 ·rw[if_neg e]
theorem gH(xs:List ah)(k:Nat)(w:ay):bF xs (k+1) w=bif (w.1 !=2)||(bA (aj xs w.2)).length==0 then(w,true)else bF xs k ((bA (aj xs w.2)).getD 0 (0,0)):=rfl
theorem w9{xs:List ah}:∀{k:Nat} {w:ay},(bF xs k w).2=true→∀j,k≤j→bF xs j w=bF xs k w
 |0,w,h,_,_=>by cases h
 |k+1,w,h,0,hj=>by omega
 |k+1,w,h,j+1,hj=>by
  rw[gH]at h ⊢;rw[gH];cases hc:((w.1 !=2)||(bA (aj xs w.2)).length==0)with
  |true=>rfl
  |false=>
   rw[hc]at h;exact w9 (k:=k) h j (by omega)
def um(xs:List ah)(k:Nat)(w:ay):Prop:=(bF xs k w).2=true∧∀j,j<k→(bF xs j w).2=false
theorem um.uniq{xs:List ah}{k j:Nat}{w:ay}(h:um xs k w)(g:um xs j w):k=j:=by
 rcases Nat.lt_trichotomy k j with hl|hl|hl
 ·have:=g.2 k hl;rw[h.1]at this;cases this
 ·exact hl
 ·have:=h.2 j hl;rw[g.1]at this;cases this
theorem Hq{xs:List ah}{w:ay}:∀{k:Nat},(bF xs k w).2=true→∃j,j≤k∧um xs j w
 |0,h=>by cases h
 |k+1,h=>by
  cases hk:(bF xs k w).2 with
  |true=>
   obtain⟨j,h1,h2⟩:=Hq hk;exact⟨j,by omega,h2⟩
  |false=>
   refine⟨k+1,Nat.le_refl _,h,fun j hj=> ?_⟩;cases hr:(bF xs j w).2 with
   |false=>rfl
   |true=>rw[w9 hr k (by omega),hr]at hk;cases hk
theorem BO{xs:List ah}(hv:∀c∈xs,∀x∈bA c,bH xs x=true):∀(k:Nat) (w:ay),bH xs w=true→um xs (k+1) w→∃L:List Nat,L.length=k∧L.Nodup∧(∀i∈L,i<xs.length)∧∀i∈L,∃j,j≤k+1∧um xs j (2,(i:Int))
 |0,w,_,_=>⟨[],rfl,List.nodup_nil,by simp,by simp⟩
 |k+1,w,hw,h=>by
  obtain⟨h1,h2⟩:=h;have h3:=h2 (k+1) (by omega);rw[gH]at h1 h3;cases hc:((w.1 !=2)||(bA (aj xs w.2)).length==0)with
  |true=>rw[hc]at h3;cases h3
  |false=>
   rw[hc]at h1 h3;have hin:=dD hw;obtain⟨m,hm⟩:∃m:Nat,w.2=(m:Nat):=⟨w.2.toNat,by omega⟩;have hml:m<xs.length:=by omega
   rw[Bool.or_eq_false_iff]at hc;have ht:w.1=2:=by simpa using hc.1
   have hwm:w=(2,(m:Int)):=by rw[←hm,←ht]
   have hl0:0<(bA (aj xs w.2)).length:=by have:=hc.2;rw[beq_eq_false_iff_ne]at this;omega
   obtain⟨x,hx⟩:∃x,x=(bA (aj xs w.2)).getD 0 (0,0):=⟨_,rfl⟩;have hxm:x∈bA (aj xs w.2):=by rw[hx,List.getD_eq_getElem?_getD,List.getElem?_eq_getElem hl0];exact List.getElem_mem hl0
   have hxw:bH xs x=true:=hv (aj xs w.2) (by rw[hm];exact bR hml) x hxm;have hstep:∀j,bF xs (j+1) w=bF xs j x:=fun j=>by rw[gH,show((w.1 !=2)||(bA (aj xs w.2)).length==0)=false by rw[Bool.or_eq_false_iff];exact hc,hx];rfl
   have hE:um xs (k+1) x:=⟨by rw[←hstep];rw[gH,show((w.1 !=2)||(bA (aj xs w.2)).length==0)=false by rw[Bool.or_eq_false_iff];exact hc];exact h1,fun j hj=>by rw[←hstep];exact h2 (j+1) (by omega)⟩;obtain⟨L,l1,l2,l3,l4⟩:=BO hv k x hxw hE;have hself:um xs (k+2) (2,(m:Int)):=by rw[←hwm];exact⟨by rw[hstep];exact hE.1,h2⟩
   refine⟨m::L,by simp[l1],List.nodup_cons.2 ⟨fun hm2=> ?_,l2⟩,fun i hi=> ?_,fun i hi=> ?_⟩
   ·obtain⟨j,hj,hj2⟩:=l4 m hm2;have:=hself.uniq hj2;omega
   ·rcases List.mem_cons.1 hi with rfl|hi
    ·exact hml
    ·exact l3 i hi
   ·rcases List.mem_cons.1 hi with rfl|hi
    ·exact⟨_,Nat.le_refl _,hself⟩
    ·obtain⟨j,hj,hj2⟩:=l4 i hi;exact⟨j,by omega,hj2⟩
theorem FZ{xs:List ah}(hv:∀c∈xs,∀x∈bA c,bH xs x=true){w:ay}(hw:bH xs w=true){K:Nat}(h:(bF xs K w).2=true):(bF xs (xs.length+1) w).2=true:=by
 obtain⟨j,_,hE⟩:=Hq h;cases j with
 |zero=>have:=hE.1;cases this
 |succ k=>
  obtain⟨L,l1,l2,l3,_⟩:=BO hv k w hw hE;have:=Ct (F:=List.range xs.length) l2 fun i hi=>List.mem_range.2 (l3 i hi)
  rw[List.length_range]at this;rw[w9 hE.1 (xs.length+1) (by omega)];exact hE.1
theorem FC{xs:List ah}{i:Nat}{c:ah}(hi:i<xs.length)(hc:bA c=[]):∀{k:Nat} {w:ay},0≤w.2→(bF xs k w).2=true→∀(hv:∀c∈xs,∀x∈bA c,bH xs x=true),(bF (xs.set i c) k w).2=true
 |0,w,_,h,_=>by cases h
 |k+1,w,h0,h,hv=>by
  rw[gH]at h ⊢;obtain⟨m,hm⟩:∃m:Nat,w.2=(m:Nat):=⟨w.2.toNat,by omega⟩;rw[hm,kL hi];rw[hm]at h
  by_cases e:i=m
  ·rw[if_pos e,hc];show(bif (w.1 !=2)||true then(w,true)else _).2=true;rw[Bool.or_true];rfl
  ·rw[if_neg e];cases hcc:((w.1 !=2)||(bA (aj xs (m:Nat))).length==0)with
   |true=>rfl
   |false=>
    rw[hcc]at h;rw[Bool.or_eq_false_iff]at hcc;have hl0:0<(bA (aj xs (m:Nat))).length:=by have:=hcc.2;rw[beq_eq_false_iff_ne]at this;omega
    have hml:m<xs.length:=by
     refine Nat.lt_of_not_le fun hge=> ?_
     rw[dQ,List.getD_eq_getElem?_getD,List.getElem?_eq_none hge]at hl0;exact absurd hl0 (by decide)
    have hxm:(bA (aj xs (m:Nat))).getD 0 (0,0)∈bA (aj xs (m:Nat)):=by rw[List.getD_eq_getElem?_getD,List.getElem?_eq_getElem hl0];exact List.getElem_mem hl0
    exact FC hi hc (dD (hv _ (bR hml) _ hxm)).1 h hv
theorem FD{xs:List ah}{i:Nat}{c:ah}{b:ay}(hi:i<xs.length)(hc:bA c=[b])(h0i:bA (aj xs (i:Nat))=[])(hb0:0≤b.2)(hb:((b.1 !=2)||(bA (aj xs b.2)).length==0)=true)(hne:b.1=2→b.2≠(i:Int)):∀{k:Nat} {w:ay},0≤w.2→(bF xs k w).2=true→∀(hv:∀c∈xs,∀x∈bA c,bH xs x=true),(bF (xs.set i c) (k+1) w).2=true
 |0,w,_,h,_=>by cases h
 |k+1,w,h0,h,hv=>by
  rw[gH]at h ⊢;obtain⟨m,hm⟩:∃m:Nat,w.2=(m:Nat):=⟨w.2.toNat,by omega⟩;rw[hm,kL hi];rw[hm]at h
  by_cases e:i=m
  ·rw[if_pos e,hc];show(bif (w.1 !=2)||false then(w,true)else bF (xs.set i c) (k+1) b).2=true;cases w.1 !=2 with
   |true=>rfl
   |false=>
    show(bF (xs.set i c) (k+1) b).2=true;rw[gH]
    have:((b.1 !=2)||(bA (aj (xs.set i c) b.2)).length==0)=true:=by
     cases ht:b.1 !=2 with
     |true=>rfl
     |false=>
      rw[ht]at hb;have ht:b.1=2:=by simpa using ht
      obtain⟨q,hq⟩:∃q:Nat,b.2=(q:Nat):=⟨b.2.toNat,by omega⟩;have hne:=hne ht;rw[hq,kL hi,if_neg (by omega),←hq];exact hb
    rw[this];rfl
  ·rw[if_neg e];cases hcc:((w.1 !=2)||(bA (aj xs (m:Nat))).length==0)with
   |true=>rfl
   |false=>
    rw[hcc]at h;rw[Bool.or_eq_false_iff]at hcc;have hl0:0<(bA (aj xs (m:Nat))).length:=by have:=hcc.2;rw[beq_eq_false_iff_ne]at this;omega
    have hml:m<xs.length:=by
     refine Nat.lt_of_not_le fun hge=> ?_
     rw[dQ,List.getD_eq_getElem?_getD,List.getElem?_eq_none hge]at hl0;exact absurd hl0 (by decide)
    have hxm:(bA (aj xs (m:Nat))).getD 0 (0,0)∈bA (aj xs (m:Nat)):=by rw[List.getD_eq_getElem?_getD,List.getElem?_eq_getElem hl0];exact List.getElem_mem hl0
    exact FD hi hc h0i hb0 hb hne (dD (hv _ (bR hml) _ hxm)).1 h hv
end Go.Tr
