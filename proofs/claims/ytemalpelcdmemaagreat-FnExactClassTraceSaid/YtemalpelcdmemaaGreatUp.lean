
/- Active pairs: both sides find the same ones. No program in it. -/
import Derived.Test.YtemalpelcdmemaaGreatUa
import Derived.Test.YtemalpelcdmemaaGreatNz
set_option linter.unusedSimpArgs false
set_option linter.unusedVariables false
namespace Go.Tr
open Go Go.RowKit
def zm(xs:List NAgent)(i:Nat):Bool:=bif decide (1≤i)then(bif cB xs i then Vb xs i else false)else false
def prsN(xs:List NAgent):List (Int×Int):=mh (zm xs) xs xs.length
theorem WM{ys:List NAgent}{i:Nat}(h:((ah ys (i:Nat)).1==0)=true):cB ys i=false:=by unfold cB bne;rw[h];rfl
theorem WO{ys:List NAgent}{i:Nat}(h:((ah ys (i:Nat)).1==0)=false):cB ys i=true:=by unfold cB bne;rw[h];rfl
section
variable {kv:List (Int×Bool)}{xs ys:List NAgent}
theorem FN{k:Int}(h:bL false kv k=false):¬Gone kv k:=fun e=>by
 have e':bL false kv k=true:=e;rw[h]at e';cases e'
theorem Twin.OT(T:Twin kv xs ys):∀k:Nat,k≤xs.length→(mh (MV xs) xs k).filter (fun p=> !(kZ kv p))=mh (zm ys) ys k
 |0,_=>rfl
 |k+1,hk=>by
  have ih:=T.OT k (by omega);have hl:=T.len;cases hg:bL false kv ((k:Nat):Int)with
  |true=>
   have hv:zm ys k=false:=by
    unfold zm;rw[T.cB (by omega),hg];cases decide (1≤k)<;>rfl
   rw[sW hv,←ih];cases hc:MV xs k with
   |false=>rw[sW hc]
   |true=>rw[Ad hc,List.filter_append,J7 (g:=kZ kv) (x:=Nn xs k) hg,List.append_nil]
  |false=>
   have hd:=FN hg;have e:=T.at_ (i:=((k:Nat):Int)) (by omega) (by omega) hd;have hA:Nn ys k=Nn xs k:=by unfold Nn;rw[e]
   have hD:Vb ys k=Vb xs k:=by unfold Vb;rw[e]
   have hr:((ah xs (k:Nat)).1 !=1)=decide (1≤k):=by
    by_cases h0:k=0
    ·subst h0;have:=T.r1;rw[show(((0:Nat):Int))=0 from rfl,this];rfl
    ·have:=T.uq (k:Nat) (by omega) (by omega) hd;rw[decide_eq_true (show 1≤k by omega)];simpa using this
   have hc:zm ys k=MV xs k:=by
    unfold zm MV;rw[T.cB (by omega),hg,hD,hr];cases decide (1≤k)<;>cases Vb xs k<;>rfl
   cases hq:MV xs k with
   |false=>rw[sW hq,sW (by rw[hc];exact hq),ih]
   |true=>rw[Ad hq,Ad (by rw[hc];exact hq),List.filter_append,ih,TJ (g:=kZ kv) (x:=Nn xs k) hg,hA]
theorem Twin.acts(T:Twin kv xs ys):zQ xs kv=prsN ys:=by
 unfold zQ prsN;rw[T.OT _ (Nat.le_refl _),T.len]
theorem Xf{p:Int×Int}(h:p∈prsN ys):∃i:Nat,i<ys.length∧zm ys i=true∧p=Nn ys i:=by
 unfold prsN mh at h;obtain⟨i,hi,rfl⟩:=List.mem_map.1 h;rw[List.mem_filter,List.mem_range]at hi;exact⟨i,hi.1,hi.2,rfl⟩
theorem Twin.Gi(T:Twin kv xs ys){p:Int×Int}(h:p∈prsN ys):nQ (Gone kv) xs p.1 p.2∧(ah xs p.1).1≠1∧(ah xs p.2).1≠1∧p.1<p.2:=by
 obtain⟨i,hi,hp,rfl⟩:=Xf h;have hl:=T.len;unfold zm at hp;cases h1:decide (1≤i)with
 |false=>rw[h1]at hp;cases hp
 |true=>
 cases h2:Tr.cB ys i with
 |false=>rw[h1,h2]at hp;cases hp
 |true=>
 have h1':1≤i:=by simpa using h1
 rw[h1,h2]at hp;simp only[cond_true]at hp
 have hg:bL false kv ((i:Nat):Int)=false:=by
  rw[T.cB (by omega)]at h2;simpa using h2
 have hd:=FN hg;have e:=T.at_ (i:=((i:Nat):Int)) (by omega) (by omega) hd;have w1:=(gu (T.wf (i:Nat) (by omega) (by omega) hd)).1;unfold Vb at hp;rw[e]at hp;have hA:Nn ys i=((i:Int),(elt (dflt uPort) (ah xs (i:Nat)).2.2.2.2 0).1):=by unfold Nn;rw[e]
 rw[hA];have hin:Live (Gone kv) xs ((i:Int),0):=⟨⟨by show(0:Int)≤(i:Nat);omega,by show((i:Nat):Int)<(xs.length:Nat);omega,Int.le_refl 0,by show(0:Int)<((ah xs (i:Nat)).2.2.2.2.length:Nat);omega⟩,hd⟩;obtain⟨_,⟨q1,q2⟩,_⟩:=T.st.wi _ hin;have hpe:aF xs ((i:Int),0)=elt (dflt uPort) (ah xs (i:Nat)).2.2.2.2 0:=rfl;rw[hpe]at q1 q2;cases h3:(elt (dflt uPort) (ah xs (i:Nat)).2.2.2.2 0).2==0 with
 |false=>rw[h3]at hp;cases hp
 |true=>
  rw[h3]at hp;simp only[cond_true,decide_eq_true_eq]at hp;have hq2:(elt (dflt uPort) (ah xs (i:Nat)).2.2.2.2 0).2=0:=by simpa using h3
  have hq:elt (dflt uPort) (ah xs (i:Nat)).2.2.2.2 0=((elt (dflt uPort) (ah xs (i:Nat)).2.2.2.2 0).1,0):=Prod.ext rfl hq2;have q3:=q1.2.1;refine⟨⟨by show((i:Nat):Int)≠(elt (dflt uPort) (ah xs (i:Nat)).2.2.2.2 0).1;omega,hd,q2,hin.1,?_,?_⟩,T.uq _ (by omega) (by omega) hd,T.uq _ ?_ q3 q2,hp⟩
  ·rw[hq]at q1;exact q1
  ·rw[hpe];exact hq
  ·show(0:Int)<(elt (dflt uPort) (ah xs (i:Nat)).2.2.2.2 0).1;omega
theorem Gh{k:Int}(h0:0≤k)(h1:k<((prsN ys).length:Nat)):elt (dflt uPort) (prsN ys) k∈prsN ys:=by
 have h2:k.toNat<(prsN ys).length:=by omega
 have e:elt (dflt uPort) (prsN ys) k=(prsN ys)[k.toNat]:=by
  unfold elt;rw[List.getD_eq_getElem?_getD,List.getElem?_eq_getElem h2];rfl
 rw[e];exact List.getElem_mem h2
theorem Twin.pos(T:Twin kv xs ys):0<ys.length:=by rw[←T.len];exact T.rl
theorem Twin.Va(T:Twin kv xs ys)(i:Nat)(hi:i<ys.length)(h:Tr.cB ys i=true):0<(ah ys (i:Nat)).2.2.2.2.length:=by
 have hl:=T.len;rw[T.cB (by omega)]at h;have hd:¬Gone kv ((i:Nat):Int):=FN (by simpa using h);rw[T.at_ (by omega) (by omega) hd];exact(gu (T.wf (i:Nat) (by omega) (by omega) hd)).1
theorem RO(w:JH (fun _=>False) xs):JD xs:=fun i hi=>(gu (w (i:Nat) (by omega) (by omega) id)).1
end
end Go.Tr
