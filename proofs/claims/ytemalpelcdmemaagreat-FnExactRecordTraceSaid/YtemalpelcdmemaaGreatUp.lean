
/- Active pairs: both sides find the same ones. No program in it. -/
import Derived.Test.YtemalpelcdmemaaGreatUa
import Derived.Test.YtemalpelcdmemaaGreatNw
set_option linter.unusedSimpArgs false
set_option linter.unusedVariables false
namespace Go.Tr
open Go Go.RowKit
def prR(xs:List NAgent)(i:Nat):Bool:=bif decide (1≤i)then(bif liveY xs i then prD xs i else false)else false
def prsN(xs:List NAgent):List (Int×Int):=prTo (prR xs) xs xs.length
theorem Zah{ys:List NAgent}{i:Nat}(h:((agAt ys (i:Nat)).1==0)=true):liveY ys i=false:=by unfold liveY bne;rw[h];rfl
theorem Zai{ys:List NAgent}{i:Nat}(h:((agAt ys (i:Nat)).1==0)=false):liveY ys i=true:=by unfold liveY bne;rw[h];rfl
section
variable {kv:List (Int×Bool)}{xs ys:List NAgent}
theorem IV{k:Int}(h:kvGet false kv k=false):¬Gone kv k:=fun e=>by
 have e':kvGet false kv k=true:=e;rw[h]at e';cases e'
theorem Twin.Uz(T:Twin kv xs ys):∀k:Nat,k≤xs.length→(prTo (QL xs) xs k).filter (fun p=> !(mK kv p))=prTo (prR ys) ys k
 |0,_=>rfl
 |k+1,hk=>by
  have ih:=T.Uz k (by omega);have hl:=T.len;cases hg:kvGet false kv ((k:Nat):Int)with
  |true=>
   have hv:prR ys k=false:=by
    unfold prR;rw[T.liveY (by omega),hg];cases decide (1≤k)<;>rfl
   rw[prTo_f hv,←ih];cases hc:QL xs k with
   |false=>rw[prTo_f hc]
   |true=>rw[prTo_t hc,List.filter_append,Np (g:=mK kv) (x:=prA xs k) hg,List.append_nil]
  |false=>
   have hd:=IV hg;have e:=T.at_ (i:=((k:Nat):Int)) (by omega) (by omega) hd;have hA:prA ys k=prA xs k:=by unfold prA;rw[e]
   have hD:prD ys k=prD xs k:=by unfold prD;rw[e]
   have hr:((agAt xs (k:Nat)).1 !=1)=decide (1≤k):=by
    by_cases h0:k=0
    ·subst h0;have:=T.r1;rw[show(((0:Nat):Int))=0 from rfl,this];rfl
    ·have:=T.uq (k:Nat) (by omega) (by omega) hd;rw[decide_eq_true (show 1≤k by omega)];simpa using this
   have hc:prR ys k=QL xs k:=by
    unfold prR QL;rw[T.liveY (by omega),hg,hD,hr];cases decide (1≤k)<;>cases prD xs k<;>rfl
   cases hq:QL xs k with
   |false=>rw[prTo_f hq,prTo_f (by rw[hc];exact hq),ih]
   |true=>rw[prTo_t hq,prTo_t (by rw[hc];exact hq),List.filter_append,ih,XQ (g:=mK kv) (x:=prA xs k) hg,hA]
theorem Twin.acts(T:Twin kv xs ys):Zbp xs kv=prsN ys:=by
 unfold Zbp prsN;rw[T.Uz _ (Nat.le_refl _),T.len]
theorem Zaw{p:Int×Int}(h:p∈prsN ys):∃i:Nat,i<ys.length∧prR ys i=true∧p=prA ys i:=by
 unfold prsN prTo at h;obtain⟨i,hi,rfl⟩:=List.mem_map.1 h;rw[List.mem_filter,List.mem_range]at hi;exact⟨i,hi.1,hi.2,rfl⟩
theorem Twin.YV(T:Twin kv xs ys){p:Int×Int}(h:p∈prsN ys):oI (Gone kv) xs p.1 p.2∧(agAt xs p.1).1≠1∧(agAt xs p.2).1≠1∧p.1<p.2:=by
 obtain⟨i,hi,hp,rfl⟩:=Zaw h;have hl:=T.len;unfold prR at hp;cases h1:decide (1≤i)with
 |false=>rw[h1]at hp;cases hp
 |true=>
 cases h2:Tr.liveY ys i with
 |false=>rw[h1,h2]at hp;cases hp
 |true=>
 have h1':1≤i:=by simpa using h1
 rw[h1,h2]at hp;simp only[cond_true]at hp
 have hg:kvGet false kv ((i:Nat):Int)=false:=by
  rw[T.liveY (by omega)]at h2;simpa using h2
 have hd:=IV hg;have e:=T.at_ (i:=((i:Nat):Int)) (by omega) (by omega) hd;have w1:=(om (T.wf (i:Nat) (by omega) (by omega) hd)).1;unfold prD at hp;rw[e]at hp;have hA:prA ys i=((i:Int),(elt (dflt uPort) (agAt xs (i:Nat)).2.2.2.2 0).1):=by unfold prA;rw[e]
 rw[hA];have hin:Live (Gone kv) xs ((i:Int),0):=⟨⟨by show(0:Int)≤(i:Nat);omega,by show((i:Nat):Int)<(xs.length:Nat);omega,Int.le_refl 0,by show(0:Int)<((agAt xs (i:Nat)).2.2.2.2.length:Nat);omega⟩,hd⟩;obtain⟨_,⟨q1,q2⟩,_⟩:=T.st.wi _ hin;have hpe:peerN xs ((i:Int),0)=elt (dflt uPort) (agAt xs (i:Nat)).2.2.2.2 0:=rfl;rw[hpe]at q1 q2;cases h3:(elt (dflt uPort) (agAt xs (i:Nat)).2.2.2.2 0).2==0 with
 |false=>rw[h3]at hp;cases hp
 |true=>
  rw[h3]at hp;simp only[cond_true,decide_eq_true_eq]at hp;have hq2:(elt (dflt uPort) (agAt xs (i:Nat)).2.2.2.2 0).2=0:=by simpa using h3
  have hq:elt (dflt uPort) (agAt xs (i:Nat)).2.2.2.2 0=((elt (dflt uPort) (agAt xs (i:Nat)).2.2.2.2 0).1,0):=Prod.ext rfl hq2;have q3:=q1.2.1;refine⟨⟨by show((i:Nat):Int)≠(elt (dflt uPort) (agAt xs (i:Nat)).2.2.2.2 0).1;omega,hd,q2,hin.1,?_,?_⟩,T.uq _ (by omega) (by omega) hd,T.uq _ ?_ q3 q2,hp⟩
  ·rw[hq]at q1;exact q1
  ·rw[hpe];exact hq
  ·show(0:Int)<(elt (dflt uPort) (agAt xs (i:Nat)).2.2.2.2 0).1;omega
theorem prs_at{k:Int}(h0:0≤k)(h1:k<((prsN ys).length:Nat)):elt (dflt uPort) (prsN ys) k∈prsN ys:=by
 have h2:k.toNat<(prsN ys).length:=by omega
 have e:elt (dflt uPort) (prsN ys) k=(prsN ys)[k.toNat]:=by
  unfold elt;rw[List.getD_eq_getElem?_getD,List.getElem?_eq_getElem h2];rfl
 rw[e];exact List.getElem_mem h2
theorem Twin.pos(T:Twin kv xs ys):0<ys.length:=by rw[←T.len];exact T.rl
theorem Twin.YU(T:Twin kv xs ys)(i:Nat)(hi:i<ys.length)(h:Tr.liveY ys i=true):0<(agAt ys (i:Nat)).2.2.2.2.length:=by
 have hl:=T.len;rw[T.liveY (by omega)]at h;have hd:¬Gone kv ((i:Nat):Int):=IV (by simpa using h);rw[T.at_ (by omega) (by omega) hd];exact(om (T.wf (i:Nat) (by omega) (by omega) hd)).1
theorem MH(w:K9 (fun _=>False) xs):MO xs:=fun i hi=>(om (w (i:Nat) (by omega) (by omega) id)).1
end
end Go.Tr
