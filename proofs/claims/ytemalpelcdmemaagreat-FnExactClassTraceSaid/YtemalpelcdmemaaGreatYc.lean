
/- Two runs that take out their holes at different times: what they have in common. No program in it. -/
import Derived.Test.YtemalpelcdmemaaGreatYb
import Derived.Test.YtemalpelcdmemaaGreatUp
set_option linter.unusedSimpArgs false
set_option linter.unusedVariables false
namespace Go.Tr
open Go Go.RowKit
theorem Iy(ys:List NAgent){a:Nat}:∀m:Nat,gG ys a≤gG ys (a+m)
 |0=>Nat.le_refl _
 |m+1=>by
  have ih:=Iy ys (a:=a) m;show _≤bif cB ys (a+m)then gG ys (a+m)+1 else gG ys (a+m)
  cases cB ys (a+m)<;>simp only[cond_true,cond_false]<;>omega
theorem Zl{F G:Int→Int}{a:NAgent}(h:∀p∈a.2.2.2.2,F (G p.1)=p.1):sZ F (sZ G a)=a:=by
 obtain⟨k,l,v,d,ps⟩:=a;unfold sZ;show(k,l,v,d,(ps.map (nP G)).map (nP F))=_;rw[List.map_map]
 have e:ps.map (nP F∘nP G)=ps:=by
  conv=>rhs;rw[←List.map_id ps]
  exact List.map_congr_left fun p hp=>Prod.ext (h p hp) rfl
 rw[e]
theorem getD_at(xs:List NAgent){i:Nat}{a:NAgent}(h:xs[i]? =some a):ah xs (i:Nat)=a:=by
 unfold ah elt;rw[Int.toNat_natCast,List.getD_eq_getElem?_getD,h];rfl
def XQ(kv:List (Int×Bool))(Y:List NAgent)(i:Nat):Nat:=bif decide (i<gG Y Y.length)then(elt 0 (fq kv Y.length) (i:Nat)).toNat else Y.length+(i-gG Y Y.length)
def Full(P:List NAgent):Prop:=∀i:Nat,i<P.length→cB P i=true
section
variable {kv kv2:List (Int×Bool)}{f:Nat→Nat}{xs xs2 P Y Y2:List NAgent}
theorem Twin.wired(h:Twin kv xs Y){x:Nat}(hx:x<Y.length)(hg:bL false kv ((x:Nat):Int)=false):∀p∈(ah Y (x:Nat)).2.2.2.2,0≤p.1∧p.1<(Y.length:Nat)∧bL false kv p.1=false:=fun p hp=>by
 have hl:=h.len
 have hd:¬Gone kv ((x:Nat):Int):=fun e=>by
  have e':bL false kv ((x:Nat):Int)=true:=e;rw[hg]at e';cases e'
 rw[h.at_ (by omega) (by omega) hd]at hp;obtain⟨i,hi,rfl⟩:=List.mem_iff_getElem.1 hp;have hw:=h.st.wi (((x:Nat):Int),((i:Nat):Int)) ⟨⟨by show(0:Int)≤(x:Nat);omega,by show((x:Nat):Int)<(xs.length:Nat);omega,by show(0:Int)≤(i:Nat);omega,by show((i:Nat):Int)<((ah xs (x:Nat)).2.2.2.2.length:Nat);omega⟩,hd⟩
 have hpe:aF xs (((x:Nat):Int),((i:Nat):Int))=(ah xs (x:Nat)).2.2.2.2[i]:=by
  unfold aF elt;rw[Int.toNat_natCast,List.getD_eq_getElem?_getD,List.getElem?_eq_getElem hi];rfl
 rw[hpe]at hw;obtain⟨_,⟨q1,q2⟩,_⟩:=hw;refine⟨q1.1,by rw[←hl];exact q1.2.1,?_⟩;cases hq:bL false kv ((ah xs (x:Nat)).2.2.2.2[i]).1 with
 |true=>exact absurd hq q2
 |false=>rfl
theorem Twin.en(h:Twin kv xs Y):Ren (XQ kv Y) (packN Y) Y∧Full (packN Y):=by
 have hl:=h.len;obtain⟨k1,k2,k3⟩:=h.ord xs.length (Nat.le_refl _);rw[hl]at k1 k2 k3;have pk:packN Y=(fq kv Y.length).map fun k=>sZ (lF Y) (ah Y k):=h.dZ Y.length (by omega)
 have pl:(packN Y).length=gG Y Y.length:=by rw[pk,List.length_map,k1]
 have fA:∀i,i<gG Y Y.length→∃x:Nat,x<Y.length∧XQ kv Y i=x∧gG Y x=i∧bL false kv ((x:Nat):Int)=false∧ah (packN Y) (i:Nat)=sZ (lF Y) (ah Y (x:Nat)):=fun i hi=>by
  obtain⟨x,a1,a2,a3,a4⟩:=k2 i (by omega);refine⟨x,a1,?_,a3,a4,?_⟩
  ·unfold XQ elt;rw[decide_eq_true hi,cond_true,Int.toNat_natCast,List.getD_eq_getElem?_getD,a2];rfl
  ·refine getD_at _ ?_;rw[pk,List.getElem?_map,a2];rfl
 have fB:∀i,¬i<gG Y Y.length→XQ kv Y i=Y.length+(i-gG Y Y.length):=fun i hi=>by
  unfold XQ;rw[decide_eq_false hi,cond_false]
 have fC:∀x:Nat,x<Y.length→bL false kv ((x:Nat):Int)=false→gG Y x<gG Y Y.length∧XQ kv Y (gG Y x)=x:=fun x hx hg=>by
  have a:=k3 x hx hg;have b:=(List.getElem?_eq_some_iff.1 a).1;have hlt:gG Y x<gG Y Y.length:=by omega
  refine⟨hlt,?_⟩;unfold XQ elt;rw[decide_eq_true hlt,cond_true,Int.toNat_natCast,List.getD_eq_getElem?_getD,a];rfl
 have g0:bL false kv ((0:Nat):Int)=false:=by
  cases hq:bL false kv ((0:Nat):Int)with
  |true=>exact absurd hq h.r0
  |false=>rfl
 refine⟨⟨fun i j hij=> ?_,?_,fun j=> ?_,fun i hi=> ?_,fun k hk hn=> ?_⟩,fun i hi=> ?_⟩
 ·by_cases hj:j<gG Y Y.length
  ·obtain⟨x,a1,a2,a3,_⟩:=fA i (by omega);obtain⟨x2,b1,b2,b3,_⟩:=fA j hj;rw[a2,b2];rcases Nat.lt_or_ge x x2 with e|e
   ·exact e
   ·have:=Iy Y (a:=x2) (x-x2);rw[show x2+(x-x2)=x by omega]at this;omega
  ·rw[fB j hj]
   by_cases hi:i<gG Y Y.length
   ·obtain⟨x,a1,a2,a3,_⟩:=fA i hi;omega
   ·rw[fB i hi];omega
 ·exact(fC 0 (by have:=h.rl;omega) g0).2
 ·rw[pl,fB _ (by omega)];omega
 ·rw[pl]at hi;obtain⟨x,a1,a2,a3,a4,a5⟩:=fA i hi;rw[a2,a5];refine(Zl fun p hp=> ?_).symm;obtain⟨p0,p1,p2⟩:=h.wired a1 a4 p hp;have c:=(fC p.1.toNat (by omega) (by rw[show((p.1.toNat:Nat):Int)=p.1 by omega];exact p2)).2;unfold lF;rw[uE,c];omega
 ·cases hg:bL false kv ((k:Nat):Int)with
  |true=>exact(h.hole _ hg).2
  |false=>exact absurd (fC k hk hg).2 (hn _)
 ·rw[pl]at hi;obtain⟨x,a1,a2,a3,a4,a5⟩:=fA i hi;have e:=h.cB (k:=x) (by omega);rw[a4]at e;unfold Tr.cB at e ⊢;rw[a5];exact e
theorem Ren.gap(h:Ren f P Y){α:Type}(F:Nat→α)(hF:∀k:Nat,k<Y.length→ah Y (k:Nat)=Dz→F (k+1)=F k){i:Nat}(hi:i<P.length):F (f (i+1))=F (f i+1):=by
 have h1:=h.mono i (i+1) (Nat.lt_succ_self i)
 have h2:f (i+1)≤Y.length:=by
  rw[←h.len];rcases Nat.lt_or_ge (i+1) P.length with e|e
  ·exact Nat.le_of_lt (h.mono _ _ e)
  ·rw[show i+1=P.length by omega];exact Nat.le_refl _
 have k:∀m:Nat,f i+1+m≤f (i+1)→F (f i+1+m)=F (f i+1):=fun m=>by
  induction m with
  |zero=>intro _;rfl
  |succ m ih=>
   intro hm
   have e:=hF (f i+1+m) (by omega) (h.hole _ (by omega) fun j hj=>by
    have a1:i<j:=h.lt.1 (by omega);have a2:j<i+1:=h.lt.1 (by omega);omega)
   rw[←ih (by omega),←e];rfl
 have:=k (f (i+1)-(f i+1)) (by omega)
 rwa[show f i+1+(f (i+1)-(f i+1))=f (i+1) by omega]at this
theorem Ren.live(h:Ren f P Y){i:Nat}(hi:i<P.length):cB Y (f i)=cB P i:=by
 unfold Tr.cB;rw[h.at_ i hi];rfl
theorem CG{ys:List NAgent}{k:Nat}(h:ah ys (k:Nat)=Dz):cB ys k=false:=by unfold cB;rw[h];rfl
theorem Ren.cnt(h:Ren f P Y):∀i:Nat,i≤P.length→gG Y (f i)=gG P i
 |0,_=>by rw[h.zero];rfl
 |i+1,hi=>by
  rw[h.gap (gG Y) (fun k _ e=>by show(bif cB Y k then _ else _)=_;rw[CG e];rfl) (by omega)];show(bif cB Y (f i)then gG Y (f i)+1 else gG Y (f i))=bif cB P i then gG P i+1 else gG P i
  rw[h.live (by omega),h.cnt i (by omega)]
theorem Ren.dZ(h:Ren f P Y)(hA:bE P):∀i:Nat,i≤P.length→dZ Y (f i)=dZ P i
 |0,_=>by rw[h.zero];rfl
 |i+1,hi=>by
  rw[h.gap (Tr.dZ Y) (fun k _ e=>by show(bif cB Y k then _ else _)=_;rw[CG e];rfl) (by omega)];show(bif cB Y (f i)then Tr.dZ Y (f i)++[sZ (lF Y) (ah Y (f i:Nat))]else Tr.dZ Y (f i))=bif cB P i then Tr.dZ P i++[sZ (lF P) (ah P (i:Nat))]else Tr.dZ P i
  have e:sZ (lF Y) (ah Y (f i:Nat))=sZ (lF P) (ah P (i:Nat)):=by
   rw[h.at_ i (by omega)];unfold sZ;simp only[List.map_map]
   congr 4
   refine List.map_congr_left fun p hp=> ?_
   obtain⟨s,hs,rfl⟩:=List.mem_iff_getElem.1 hp;have hw:=hA (((i:Nat):Int),((s:Nat):Int)) ⟨by show(0:Int)≤(i:Nat);omega,by show((i:Nat):Int)<(P.length:Nat);omega,by show(0:Int)≤(s:Nat);omega,by show((s:Nat):Int)<((ah P (i:Nat)).2.2.2.2.length:Nat);omega⟩
   have hpe:aF P (((i:Nat):Int),((s:Nat):Int))=(ah P (i:Nat)).2.2.2.2[s]:=by
    unfold aF elt;rw[Int.toNat_natCast,List.getD_eq_getElem?_getD,List.getElem?_eq_getElem hs];rfl
   rw[hpe]at hw;obtain⟨w1,w2,_,_⟩:=hw;generalize (ah P (i:Nat)).2.2.2.2[s]=p at*;refine Prod.ext ?_ rfl;show lF Y (fI f p.1)=lF P p.1;unfold lF;rw[kX w1,Int.toNat_natCast,h.cnt _ (by omega)]
  rw[h.live (by omega),h.dZ hA i (by omega),e]
theorem Ren.pack(h:Ren f P Y)(hA:bE P):packN Y=packN P:=by
 unfold packN;rw[←h.len];exact h.dZ hA _ (Nat.le_refl _)
theorem sO(ys:List NAgent):∀k:Nat,bR ys k=gG ys k
 |0=>rfl
 |k+1=>by
  have e:bR ys (k+1)=bif cB ys k then bR ys k+1 else bR ys k:=rfl
  rw[e,sO ys k];rfl
theorem Ren.bR(h:Ren f P Y):Tr.bR Y Y.length=Tr.bR P P.length:=by
 rw[sO,sO,←h.len];exact h.cnt _ (Nat.le_refl _)
theorem Ren.full(h:Ren f P Y)(hf:Full P):Tr.bR Y Y.length=P.length:=by
 rw[h.bR,sO]
 have k:∀n:Nat,n≤P.length→gG P n=n:=fun n=>by
  induction n with
  |zero=>intro _;rfl
  |succ n ih=>
   intro hn;show(bif cB P n then gG P n+1 else gG P n)=n+1;rw[hf n (by omega),ih (by omega)];rfl
 exact k _ (Nat.le_refl _)
theorem Ren.Gh(h:Ren f P Y)(hA:bE P){i:Nat}(hi:i<P.length)(hp:cB P i=true→0<(ah P (i:Nat)).2.2.2.2.length):zm Y (f i)=zm P i∧(zm P i=true→Nn Y (f i)=(fI f (Nn P i).1,fI f (Nn P i).2)):=by
 have hl:=h.live hi
 have h1:decide (1≤f i)=decide (1≤i):=by
  rw[decide_eq_decide];have:=h.lt (i:=0) (j:=i);rw[h.zero]at this;omega
 have e:=h.at_ i hi;cases hv:cB P i with
 |false=>
  have k:zm P i=false:=by unfold zm;rw[hv];cases decide (1≤i)<;>rfl
  rw[k];refine⟨?_,fun e=>by cases e⟩;unfold zm;rw[hl,hv];cases decide (1≤f i)<;>rfl
 |true=>
  have pin:ak P (((i:Nat):Int),0):=⟨by show(0:Int)≤(i:Nat);omega,by show((i:Nat):Int)<(P.length:Nat);omega,Int.le_refl 0,by show(0:Int)<((ah P (i:Nat)).2.2.2.2.length:Nat);have:=hp hv;omega⟩;have hpe:=h.peer pin;have hq:=hA _ pin
  have eY:elt (dflt uPort) (ah Y ((f i:Nat):Int)).2.2.2.2 0=nP (fI f) (elt (dflt uPort) (ah P (i:Nat)).2.2.2.2 0):=by
   have k:aF Y (((f i:Nat):Int),0)=nP (fI f) (aF P (((i:Nat):Int),0)):=by
    have:nP (fI f) (((i:Nat):Int),0)=(((f i:Nat):Int),0):=by unfold nP;rw[uE]
    rw[this]at hpe;exact hpe
   exact k
  have hq0:0≤(elt (dflt uPort) (ah P (i:Nat)).2.2.2.2 0).1:=hq.1
  have hd:Vb Y (f i)=Vb P i:=by
   unfold Vb;rw[eY];generalize elt (dflt uPort) (ah P (i:Nat)).2.2.2.2 0=q at*;show(bif q.2==0 then decide (((f i:Nat):Int)<fI f q.1)else false)=_
   have:decide (((f i:Nat):Int)<fI f q.1)=decide (((i:Nat):Int)<q.1):=by
    rw[decide_eq_decide,kX hq0];have:=h.lt (i:=i) (j:=q.1.toNat);omega
   rw[this]
  refine⟨?_,fun _=> ?_⟩
  ·unfold zm;rw[hl,hd,h1]
  ·unfold Nn;rw[eY];show(((f i:Nat):Int),fI f _)=(fI f ((i:Nat):Int),fI f _);rw[uE]
theorem Ren.mh(h:Ren f P Y)(hA:bE P)(hp:∀i:Nat,i<P.length→cB P i=true→0<(ah P (i:Nat)).2.2.2.2.length):∀i:Nat,i≤P.length→mh (zm Y) Y (f i)=(mh (zm P) P i).map fun p=>(fI f p.1,fI f p.2)
 |0,_=>by rw[h.zero];rfl
 |i+1,hi=>by
  rw[h.gap (Tr.mh (zm Y) Y) (fun k _ e=>sW (by unfold zm;rw[CG e];cases decide (1≤k)<;>rfl)) (by omega)];obtain⟨k1,k2⟩:=h.Gh hA (i:=i) (by omega) (hp i (by omega));cases hc:zm P i with
  |false=>rw[sW hc,sW (by rw[k1];exact hc),h.mh hA hp i (by omega)]
  |true=>rw[Ad hc,Ad (by rw[k1];exact hc),h.mh hA hp i (by omega),List.map_append,k2 hc];rfl
theorem Ren.prs(h:Ren f P Y)(hA:bE P)(hp:∀i:Nat,i<P.length→cB P i=true→0<(ah P (i:Nat)).2.2.2.2.length):prsN Y=(prsN P).map fun p=>(fI f p.1,fI f p.2):=by
 unfold prsN;rw[←h.len];exact h.mh hA hp _ (Nat.le_refl _)
theorem Full.twin(T:Twin kv xs Y)(h:Ren f P Y)(hf:Full P):Twin [] P P:=by
 have hl:=T.len;have hA:=h.allP T.JN
 have nd:∀i:Int,¬Gone [] i:=fun i e=>by
  have e':bL false ([]:List (Int×Bool)) i=true:=e;cases e'
 have wh:∀i:Int,0≤i→i<(P.length:Nat)→(0≤fI f i∧fI f i<(xs.length:Nat))∧¬Gone kv (fI f i)∧ah xs (fI f i)=sZ (fI f) (ah P i):=fun i h0 h1=>by
  have k:=h.XW.2 ⟨h0,h1⟩;rw[←hl]at k;have e:=h.Ip h0 h1
  have hd:¬Gone kv (fI f i):=fun g=>by
   have h2:=(T.hole _ g).2;have h3:=hf i.toNat (by omega);unfold cB at h3;rw[show((i.toNat:Nat):Int)=i by omega]at h3;rw[e]at h2;have h4:(ah P i).1=0:=congrArg (fun a:NAgent=>a.1) h2;rw[h4]at h3;cases h3
  exact⟨k,hd,by rw[←T.at_ k.1 k.2 hd];exact e⟩
 have sg:∀i:Int,0≤i→i<(P.length:Nat)→Wf (ah P i):=fun i h0 h1=>by
  obtain⟨k,hd,e⟩:=wh i h0 h1;have w:=T.wf _ k.1 k.2 hd;rw[e]at w;refine(La ?_).1 w;unfold sig;rw[nJ];rfl
 have rl:0<P.length:=by
  have:=T.rl;have h2:=h.YZ (i:=0);rw[h.zero]at h2;exact h2.1 (by omega)
 have kd:∀i:Int,0≤i→i<(P.length:Nat)→(ah xs (fI f i)).1=(ah P i).1:=fun i h0 h1=>by rw[(wh i h0 h1).2.2];rfl
 have f0:fI f 0=0:=by
  rw[kX (Int.le_refl 0)];show((f 0:Nat):Int)=0;rw[h.zero];rfl
 refine⟨⟨⟨rfl,fun _ _ _ _=>rfl⟩,fun p hp=> ?_,fun p hp=>hp.2⟩,fun i h0 h1 _=>sg i h0 h1,fun i e=>absurd e (nd i),fun i e=>absurd e (nd i),?_,nd 0,rl,fun i h0 h1 _=> ?_,fun e he=>absurd he (by simp),?_,hA⟩
 ·have hpin:ak P p:=hp.1
  have lp:∀{q:aJ},ak P q→Live (Gone kv) xs (nP (fI f) q)∧aF xs (nP (fI f) q)=nP (fI f) (aF P q):=fun {q} hq=>by
   obtain⟨k,hd,e⟩:=wh q.1 hq.1 hq.2.1;have hy:=h.pin.2 hq
   have hx:ak xs (nP (fI f) q):=by
    obtain⟨a1,a2,a3,a4⟩:=hy;refine⟨a1,by rw[hl];exact a2,a3,?_⟩;have a5:q.2<((ah Y (fI f q.1)).2.2.2.2.length:Nat):=a4;rw[T.at_ k.1 k.2 hd]at a5;exact a5
   refine⟨⟨hx,hd⟩,?_⟩;rw[←h.peer hq];exact((T.st.ag.port hx hd).2).symm
  obtain⟨l1,e1⟩:=lp hpin;obtain⟨w1,w2,w3,w4⟩:=T.st.wi _ l1;have hq:=hA p hpin;obtain⟨l2,e2⟩:=lp hq;rw[e1,e2]at w3;rw[e1]at w4;refine⟨hpin,⟨hq,nd _⟩,?_,fun e=>w4 (by rw[e])⟩;have k1:=congrArg (fun q:aJ=>q.1) w3;have k2:=congrArg (fun q:aJ=>q.2) w3;exact Prod.ext (h.Zag.1 k1) k2
 ·have:=kd 0 (Int.le_refl 0) (by omega);rw[f0,T.r1]at this;exact this.symm
 ·obtain⟨k,hd,e⟩:=wh i (by omega) h1
  have hpos:0<fI f i:=by
   rw[kX (by omega)];have:=h.lt (i:=0) (j:=i.toNat);rw[h.zero]at this;omega
  have:=T.uq _ hpos k.2 hd;rw[kd i (by omega) h1]at this;exact this
 ·have:∀n:Nat,mX ([]:List (Int×Bool)) n=0:=fun n=>by
   induction n with
   |zero=>rfl
   |succ n ih=>show(bif bL false ([]:List (Int×Bool)) ((n:Nat):Int)then _ else mX [] n)=0;exact ih
  rw[this];rfl
theorem Full.pack(hf:Full P)(hA:bE P):packN P=P:=by
 have cn:∀n:Nat,n≤P.length→gG P n=n:=fun n=>by
  induction n with
  |zero=>intro _;rfl
  |succ n ih=>
   intro hn;show(bif cB P n then gG P n+1 else gG P n)=n+1;rw[hf n (by omega),ih (by omega)];rfl
 have k:∀n:Nat,n≤P.length→dZ P n=P.take n:=fun n=>by
  induction n with
  |zero=>intro _;rw[List.take_zero];rfl
  |succ n ih=>
   intro hn;show(bif cB P n then dZ P n++[sZ (lF P) (ah P (n:Nat))]else dZ P n)=_;rw[hf n (by omega),ih (by omega),cond_true,List.take_add_one,List.getElem?_eq_getElem (by omega)];have ea:ah P (n:Nat)=P[n]:=getD_at P (List.getElem?_eq_getElem (by omega))
   have e:sZ (lF P) (ah P (n:Nat))=ah P (n:Nat):=by
    unfold sZ
    have:(ah P (n:Nat)).2.2.2.2.map (nP (lF P))=(ah P (n:Nat)).2.2.2.2:=by
     conv=>rhs;rw[←List.map_id (ah P (n:Nat)).2.2.2.2]
     refine List.map_congr_left fun p hp=>Prod.ext ?_ rfl
     obtain⟨s,hs,rfl⟩:=List.mem_iff_getElem.1 hp;have hw:=hA (((n:Nat):Int),((s:Nat):Int)) ⟨by show(0:Int)≤(n:Nat);omega,by show((n:Nat):Int)<(P.length:Nat);omega,by show(0:Int)≤(s:Nat);omega,by show((s:Nat):Int)<((ah P (n:Nat)).2.2.2.2.length:Nat);omega⟩
     have hpe:aF P (((n:Nat):Int),((s:Nat):Int))=(ah P (n:Nat)).2.2.2.2[s]:=by
      unfold aF elt;rw[Int.toNat_natCast,List.getD_eq_getElem?_getD,List.getElem?_eq_getElem hs];rfl
     rw[hpe]at hw;obtain⟨w1,w2,_,_⟩:=hw;show lF P ((ah P (n:Nat)).2.2.2.2[s]).1=((ah P (n:Nat)).2.2.2.2[s]).1;unfold lF;rw[cn _ (by omega)];omega
    rw[this]
   rw[e,ea];rfl
 unfold packN;rw[k _ (Nat.le_refl _),List.take_length]
end
end Go.Tr
