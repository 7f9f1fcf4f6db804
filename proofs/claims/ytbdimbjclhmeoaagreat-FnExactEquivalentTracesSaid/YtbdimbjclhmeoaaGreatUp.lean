
/- Pairs of a net: what the program's list of pairs is. No program in it. -/
import Derived.Test.YtbdimbjclhmeoaaGreatNw
set_option linter.unusedSimpArgs false
set_option linter.unusedVariables false
namespace Go.Tr
open Go Go.RowKit
def XI(xs:List ak)(i:Nat):Bool:=
 bif (elt (dflt aK) (ah xs (i:Nat)).2.2.2.2 0).2==0 then decide ((i:Int)<(elt (dflt aK) (ah xs (i:Nat)).2.2.2.2 0).1)else false
def prC(xs:List ak)(i:Nat):Bool:=bif XI xs i then(ah xs (i:Nat)).1 !=1 else false
def Rq(xs:List ak)(i:Nat):Int×Int:=((i:Int),(elt (dflt aK) (ah xs (i:Nat)).2.2.2.2 0).1)
def vI(c:Nat->Bool)(xs:List ak)(k:Nat):List (Int×Int):=((List.range k).filter c).map (Rq xs)
theorem JJ{c:Nat->Bool}{xs:aS}{k:Nat}(h:c k=true):vI c xs (k+1)=vI c xs k++[Rq xs k]:=by
 unfold vI;rw[List.range_succ,List.filter_append,qZ];simp[h]
theorem zh{c:Nat->Bool}{xs:aS}{k:Nat}(h:c k=false):vI c xs (k+1)=vI c xs k:=by
 unfold vI;rw[List.range_succ,List.filter_append];simp[h]
theorem LB(c:Nat->Bool)(xs:aS)(k:Nat):(vI c xs k).length<=k:=by
 unfold vI;rw[qV];exact Nat.le_trans (List.length_filter_le _ _) (by simp)
def TA(kv:List (Int×Bool))(p:Int×Int):Bool:=dS false kv p.1
theorem Zp{α:Type}{g:α->Bool}{x:α}(h:g x=false):[x].filter (fun p=> !(g p))=[x]:=by simp[h]
theorem Xa{α:Type}{g:α->Bool}{x:α}(h:g x=true):[x].filter (fun p=> !(g p))=[]:=by simp[h]
def EY(xs:List ak)(i:Nat):Bool:=bif decide (1<=i)then(bif mF xs i then XI xs i else false)else false
def uG(xs:List ak):List (Int×Int):=vI (EY xs) xs xs.length
theorem Xn{ys:aS}{i:Nat}(h:((ah ys (i:Nat)).1==0)=true):mF ys i=false:=by unfold mF bne;rw[h];rfl
theorem Xo{ys:aS}{i:Nat}(h:((ah ys (i:Nat)).1==0)=false):mF ys i=true:=by unfold mF bne;rw[h];rfl
theorem XJ(xs:aS):(uG xs).length<=xs.length:=LB _ _ _
section
variable {kv:kT}{xs ys:aS}
theorem Ei{k:Int}(h:dS false kv k=false):¬Gone kv k:=fun e=>by
 have e':dS false kv k=true:=e;rw[h]at e';cases e'
theorem Twin.Wv(T:Twin kv xs ys):∀k:Nat,k<=xs.length->(vI (prC xs) xs k).filter (fun p=> !(TA kv p))=vI (EY ys) ys k
 |0,_=>rfl
 |k+1,hk=>by
  have ih:=T.Wv k (by omega);have hl:=T.len;cases hg:dS false kv ((k:Nat):Int)with
  |true=>
   have hv:EY ys k=false:=by
    unfold EY;rw[T.mF (by omega),hg];cases decide (1<=k)<;>rfl
   rw[zh hv,<-ih];cases hc:prC xs k with
   |false=>rw[zh hc]
   |true=>rw[JJ hc,List.filter_append,Xa (g:=TA kv) (x:=Rq xs k) hg,qS]
  |false=>
   have hd:=Ei hg;have e:=T.at_ (i:=((k:Nat):Int)) (by omega) (by omega) hd;have hA:Rq ys k=Rq xs k:=by unfold Rq;rw[e]
   have hD:XI ys k=XI xs k:=by unfold XI;rw[e]
   have hr:((ah xs (k:Nat)).1 !=1)=decide (1<=k):=by
    by_cases h0:k=0
    .subst h0;have:=T.r1;rw[show(((0:Nat):Int))=0 from rfl,this];rfl
    .have:=T.uq (k:Nat) (by omega) (by omega) hd;rw[decide_eq_true (show 1<=k by omega)];simpa using this
   have hc:EY ys k=prC xs k:=by
    unfold EY prC;rw[T.mF (by omega),hg,hD,hr];cases decide (1<=k)<;>cases XI xs k<;>rfl
   cases hq:prC xs k with
   |false=>rw[zh hq,zh (by rw[hc];exact hq),ih]
   |true=>rw[JJ hq,JJ (by rw[hc];exact hq),List.filter_append,ih,Zp (g:=TA kv) (x:=Rq xs k) hg,hA]
theorem PZ{p:Int×Int}(h:p∈uG ys):∃i:Nat,i<ys.length/\EY ys i=true/\p=Rq ys i:=by
 unfold uG vI at h;obtain⟨i,hi,rfl⟩:=List.mem_map.1 h;rw[List.mem_filter,List.mem_range]at hi;exact⟨i,hi.1,hi.2,rfl⟩
theorem Twin.Vg(T:Twin kv xs ys){p:Int×Int}(h:p∈uG ys):iw (Gone kv) xs p.1 p.2/\(ah xs p.1).1≠1/\(ah xs p.2).1≠1/\p.1<p.2:=by
 obtain⟨i,hi,hp,rfl⟩:=PZ h;have hl:=T.len;unfold EY at hp;cases h1:decide (1<=i)with
 |false=>rw[h1]at hp;cases hp
 |true=>
 cases h2:Tr.mF ys i with
 |false=>rw[h1,h2]at hp;cases hp
 |true=>
 have h1':1<=i:=by simpa using h1
 rw[h1,h2]at hp;simp only[qG]at hp
 have hg:dS false kv ((i:Nat):Int)=false:=by
  rw[T.mF (by omega)]at h2;simpa using h2
 have hd:=Ei hg;have e:=T.at_ (i:=((i:Nat):Int)) (by omega) (by omega) hd;have w1:=(gY (T.wf (i:Nat) (by omega) (by omega) hd)).1;unfold XI at hp;rw[e]at hp;have hA:Rq ys i=((i:Int),(elt (dflt aK) (ah xs (i:Nat)).2.2.2.2 0).1):=by unfold Rq;rw[e]
 rw[hA];have hin:Live (Gone kv) xs ((i:Int),0):=⟨⟨by show(0:Int)<=(i:Nat);omega,by show((i:Nat):Int)<(xs.length:Nat);omega,Int.le_refl 0,by show(0:Int)<((ah xs (i:Nat)).2.2.2.2.length:Nat);omega⟩,hd⟩;obtain⟨_,⟨q1,q2⟩,_⟩:=T.st.wi _ hin;have hpe:ay xs ((i:Int),0)=elt (dflt aK) (ah xs (i:Nat)).2.2.2.2 0:=rfl;rw[hpe]at q1 q2;cases h3:(elt (dflt aK) (ah xs (i:Nat)).2.2.2.2 0).2==0 with
 |false=>rw[h3]at hp;cases hp
 |true=>
  rw[h3]at hp;simp only[qG,qQ]at hp;have hq2:(elt (dflt aK) (ah xs (i:Nat)).2.2.2.2 0).2=0:=by simpa using h3
  have hq:elt (dflt aK) (ah xs (i:Nat)).2.2.2.2 0=((elt (dflt aK) (ah xs (i:Nat)).2.2.2.2 0).1,0):=Prod.ext rfl hq2;have q3:=q1.2.1;refine⟨⟨by show((i:Nat):Int)≠(elt (dflt aK) (ah xs (i:Nat)).2.2.2.2 0).1;omega,hd,q2,hin.1,?_,?_⟩,T.uq _ (by omega) (by omega) hd,T.uq _ ?_ q3 q2,hp⟩
  .rw[hq]at q1;exact q1
  .rw[hpe];exact hq
  .show(0:Int)<(elt (dflt aK) (ah xs (i:Nat)).2.2.2.2 0).1;omega
theorem Twin.pos(T:Twin kv xs ys):0<ys.length:=by rw[<-T.len];exact T.rl
theorem Twin.ZR(T:Twin kv xs ys)(i:Nat)(hi:i<ys.length)(h:Tr.mF ys i=true):0<(ah ys (i:Nat)).2.2.2.2.length:=by
 have hl:=T.len;rw[T.mF (by omega)]at h;have hd:¬Gone kv ((i:Nat):Int):=Ei (by simpa using h);rw[T.at_ (by omega) (by omega) hd];exact(gY (T.wf (i:Nat) (by omega) (by omega) hd)).1
end
end Go.Tr
