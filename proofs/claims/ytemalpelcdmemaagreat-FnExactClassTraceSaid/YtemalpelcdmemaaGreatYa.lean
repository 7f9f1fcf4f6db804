
/- A net without holes and a net with holes: a renaming of agents that interactions keep. No program in it. -/
import Derived.Test.YtemalpelcdmemaaGreatNz
set_option linter.unusedSimpArgs false
set_option linter.unusedVariables false
namespace Go.Tr
open Go Go.RowKit
def fI(f:Nat→Nat)(z:Int):Int:=bif decide (0≤z)then((f z.toNat:Nat):Int)else z
structure Ren(f:Nat→Nat)(P Y:List NAgent):Prop where
 mono:∀i j:Nat,i<j→f i<f j
 zero:f 0=0
 ends:∀j:Nat,f (P.length+j)=Y.length+j
 at_:∀i:Nat,i<P.length→ah Y ((f i:Nat):Int)=sZ (fI f) (ah P (i:Nat))
 hole:∀k:Nat,k<Y.length→(∀i:Nat,f i≠k)→ah Y (k:Nat)=Dz
theorem nJ(F:Int→Int)(a:NAgent):(sZ F a).2.2.2.2.length=a.2.2.2.2.length:=by unfold sZ;simp
section
variable {f:Nat→Nat}{P Y:List NAgent}{p q:aJ}
theorem kX{z:Int}(h:0≤z):fI f z=((f z.toNat:Nat):Int):=by unfold fI;rw[decide_eq_true h];rfl
theorem wF{z:Int}(h:¬0≤z):fI f z=z:=by unfold fI;rw[decide_eq_false h];rfl
theorem uE(k:Nat):fI f ((k:Nat):Int)=((f k:Nat):Int):=by rw[kX (by omega),Int.toNat_natCast]
theorem Ren.inj(h:Ren f P Y){i j:Nat}(e:f i=f j):i=j:=by
 rcases Nat.lt_trichotomy i j with k|k|k
 ·have:=h.mono i j k;omega
 ·exact k
 ·have:=h.mono j i k;omega
theorem Ren.lt(h:Ren f P Y){i j:Nat}:f i<f j↔i<j:=by
 constructor
 ·intro e;rcases Nat.lt_trichotomy i j with k|k|k
  ·exact k
  ·subst k;omega
  ·have:=h.mono j i k;omega
 ·exact h.mono i j
theorem Ren.len(h:Ren f P Y):f P.length=Y.length:=h.ends 0
theorem Ren.YZ(h:Ren f P Y){i:Nat}:f i<Y.length↔i<P.length:=by rw[←h.len];exact h.lt
theorem Ren.XW(h:Ren f P Y){z:Int}:(0≤fI f z∧fI f z<(Y.length:Nat))↔(0≤z∧z<(P.length:Nat)):=by
 by_cases h0:0≤z
 ·rw[kX h0];have k:=h.YZ (i:=z.toNat);constructor
  ·rintro⟨_,h2⟩;have:=k.1 (by omega);omega
  ·rintro⟨_,h2⟩;have:=k.2 (by omega);omega
 ·rw[wF h0];constructor
  ·rintro⟨h1,_⟩;exact absurd h1 h0
  ·rintro⟨h1,_⟩;exact absurd h1 h0
theorem Ren.Zag(h:Ren f P Y){a b:Int}:fI f a=fI f b↔a=b:=by
 constructor
 ·intro e
  by_cases ha:0≤a
  ·by_cases hb:0≤b
   ·rw[kX ha,kX hb]at e;have:=h.inj (i:=a.toNat) (j:=b.toNat) (by omega);omega
   ·rw[kX ha,wF hb]at e;omega
  ·by_cases hb:0≤b
   ·rw[wF ha,kX hb]at e;omega
   ·rw[wF ha,wF hb]at e;exact e
 ·intro e;rw[e]
theorem Ren.Ip(h:Ren f P Y){z:Int}(h0:0≤z)(h1:z<(P.length:Nat)):ah Y (fI f z)=sZ (fI f) (ah P z):=by
 have k:=h.at_ z.toNat (by omega);rw[show((z.toNat:Nat):Int)=z by omega]at k;rw[kX h0];exact k
theorem Ren.pin(h:Ren f P Y):ak Y (nP (fI f) p)↔ak P p:=by
 constructor
 ·rintro⟨h1,h2,h3,h4⟩;have k:=h.XW.1 ⟨h1,h2⟩;refine⟨k.1,k.2,h3,?_⟩;have h5:p.2<((ah Y (fI f p.1)).2.2.2.2.length:Nat):=h4;rw[h.Ip k.1 k.2,nJ]at h5;exact h5
 ·rintro⟨h1,h2,h3,h4⟩;have k:=h.XW.2 ⟨h1,h2⟩;refine⟨k.1,k.2,h3,?_⟩;show p.2<((ah Y (fI f p.1)).2.2.2.2.length:Nat);rw[h.Ip h1 h2,nJ];exact h4
theorem Ren.peer(h:Ren f P Y)(hp:ak P p):aF Y (nP (fI f) p)=nP (fI f) (aF P p):=by
 obtain⟨h1,h2,h3,h4⟩:=hp;have h6:p.2<((ah P p.1).2.2.2.2.length:Nat):=h4;have h5:p.2.toNat<(ah P p.1).2.2.2.2.length:=by omega
 show elt (dflt uPort) (ah Y (fI f p.1)).2.2.2.2 p.2=nP (fI f) (elt (dflt uPort) (ah P p.1).2.2.2.2 p.2);rw[h.Ip h1 h2];show elt (dflt uPort) ((ah P p.1).2.2.2.2.map (nP (fI f))) p.2=_;unfold elt;rw[List.getD_eq_getElem?_getD,List.getD_eq_getElem?_getD,List.getElem?_map,List.getElem?_eq_getElem h5];rfl
theorem Ren.allP(h:Ren f P Y)(hA:bE Y):bE P:=fun p hp=>by
 have k:=hA _ (h.pin.2 hp);rw[h.peer hp]at k;exact h.pin.1 k
theorem Ren.set(h:Ren f P Y){i:Nat}(hi:i<P.length)(a:NAgent):Ren f (P.set i a) (Y.set (f i) (sZ (fI f) a)):=by
 refine⟨h.mono,h.zero,fun j=>by rw[List.length_set,List.length_set];exact h.ends j,fun j hj=> ?_,fun k hk hn=> ?_⟩
 ·rw[List.length_set]at hj;rw[mD,mD,Int.toNat_natCast,Int.toNat_natCast]
  by_cases e:i=j
  ·subst e;rw[if_pos ⟨rfl,h.YZ.2 hi⟩,if_pos ⟨rfl,hi⟩]
  ·rw[if_neg fun k=>e (h.inj k.1),if_neg fun k=>e k.1];exact h.at_ j hj
 ·rw[List.length_set]at hk;rw[mD,Int.toNat_natCast,if_neg fun e=>hn i e.1];exact h.hole k hk hn
theorem Ren.app(h:Ren f P Y)(a:NAgent):Ren f (P++[a]) (Y++[sZ (fI f) a]):=by
 have hl:=h.len;refine⟨h.mono,h.zero,fun j=> ?_,fun j hj=> ?_,fun k hk hn=> ?_⟩
 ·have k:=h.ends (1+j);rw[List.length_append,List.length_append,List.length_singleton,List.length_singleton,Nat.add_assoc,Nat.add_assoc];exact k
 ·rw[List.length_append,List.length_singleton]at hj
  by_cases e:j<P.length
  ·have e2:=h.YZ.2 e;rw[dH (by rw[Int.toNat_natCast];exact e2),dH (by rw[Int.toNat_natCast];exact e)];exact h.at_ j e
  ·have e2:j=P.length:=by omega
   subst e2;rw[rC (by rw[Int.toNat_natCast];exact hl),rC (by rw[Int.toNat_natCast])]
 ·rw[List.length_append,List.length_singleton]at hk
  have hk2:k<Y.length:=by
   have:=hn P.length;omega
  rw[dH (by rw[Int.toNat_natCast];exact hk2)];exact h.hole k hk2 hn
theorem Xq(h:f 0=0)(k l v:Int)(d:List Int)(n:Nat):sZ (fI f) (bC k l v d n)=bC k l v d n:=by
 have e:nP (fI f) (0,0)=(0,0):=by
  unfold nP;have:fI f 0=0:=by rw[kX (Int.le_refl 0)];show((f 0:Nat):Int)=0;rw[h];rfl
  rw[this]
 unfold sZ bC;simp only[List.map_replicate,e]
theorem Ren.add(h:Ren f P Y)(k l v:Int)(d:List Int)(n:Nat):Ren f (P++[bC k l v d n]) (Y++[bC k l v d n]):=by
 have:=h.app (bC k l v d n)
 rwa[Xq h.zero]at this
theorem Ren.drop(h:Ren f P Y){z:Int}(h0:0≤z)(h1:z<(P.length:Nat)):Ren f (bD P z) (bD Y (fI f z)):=by
 have k:=h.set (i:=z.toNat) (by omega) Dz;unfold bD;rw[kX h0,Int.toNat_natCast];exact k
theorem Ren.Zp(h:Ren f P Y)(h0:0≤p.1)(h1:p.1<(P.length:Nat)):Ren f (aN P p q) (aN Y (nP (fI f) p) (nP (fI f) q)):=by
 have k:=h.set (i:=p.1.toNat) (by omega) ((ah P p.1).1,(ah P p.1).2.1,(ah P p.1).2.2.1,(ah P p.1).2.2.2.1,(ah P p.1).2.2.2.2.set p.2.toNat q)
 have e:aN Y (nP (fI f) p) (nP (fI f) q)=Y.set (f p.1.toNat) (sZ (fI f) ((ah P p.1).1,(ah P p.1).2.1,(ah P p.1).2.2.1,(ah P p.1).2.2.2.1,(ah P p.1).2.2.2.2.set p.2.toNat q)):=by
  unfold aN;show Y.set (fI f p.1).toNat ((ah Y (fI f p.1)).1,(ah Y (fI f p.1)).2.1,(ah Y (fI f p.1)).2.2.1,(ah Y (fI f p.1)).2.2.2.1,(ah Y (fI f p.1)).2.2.2.2.set p.2.toNat (nP (fI f) q))=_;rw[h.Ip h0 h1,kX h0,Int.toNat_natCast];unfold sZ;simp only[List.map_set]
 rw[e];exact k
theorem Ren.link(h:Ren f P Y)(hp:ak P p)(hq:ak P q):Ren f (bP P p q) (bP Y (nP (fI f) p) (nP (fI f) q)):=by
 unfold bP;exact(h.Zp hp.1 hp.2.1).Zp hq.1 (by rw[dA];exact hq.2.1)
theorem Ren.move(h:Ren f P Y)(hA:bE P)(hp:ak P p)(hq:ak P q):Ren f (dM P p q) (dM Y (nP (fI f) p) (nP (fI f) q)):=by
 unfold dM;rw[h.peer hp];exact h.link (hA p hp) hq
theorem Ren.join(h:Ren f P Y)(hA:bE P)(hp:ak P p)(hq:ak P q):Ren f (aS P p q) (aS Y (nP (fI f) p) (nP (fI f) q)):=by
 unfold aS;rw[h.peer hp,h.peer hq]
 have e:((nP (fI f) (aF P p)).1==(nP (fI f) q).1)=((aF P p).1==q.1):=by
  rw[Bool.eq_iff_iff,beq_iff_eq,beq_iff_eq];exact h.Zag
 rw[e];show Ren f _ (bif ((aF P p).1==q.1&&(aF P p).2==q.2)then Y else bP Y (nP (fI f) (aF P p)) (nP (fI f) (aF P q)));cases ((aF P p).1==q.1&&(aF P p).2==q.2)
 ·exact h.link (hA p hp) (hA q hq)
 ·exact h
theorem Ren.nl(h:Ren f P Y)(j:Nat)(s:Int):nP (fI f) (((P.length+j:Nat):Int),s)=(((Y.length+j:Nat):Int),s):=by
 unfold nP;rw[uE,h.ends]
theorem Ren.n0(h:Ren f P Y)(s:Int):nP (fI f) (((P.length:Nat):Int),s)=(((Y.length:Nat):Int),s):=h.nl 0 s
variable {x y c d:Int}
theorem Ren.oK(h:Ren f P Y){i:Nat}(hx:0≤x∧x<(P.length:Nat))(hc:ak P (c,(i:Nat)))(hd:ak P (d,(i:Nat))):Ren f (oK x c d P i) (oK (fI f x) (fI f c) (fI f d) Y i):=by
 have e:(ah Y (fI f x)).2.1=(ah P x).2.1:=by rw[h.Ip hx.1 hx.2];rfl
 unfold Tr.oK;rw[e];have h1:=h.add 4 (ah P x).2.1 0 [] 3;have h2:=h1.link (p:=((P.length:Nat),1)) (q:=(c,(i:Nat))) (ak.new (by decide) (by decide)) hc.app;have h3:=h2.link (p:=((P.length:Nat),2)) (q:=(d,(i:Nat))) (ak.link (ak.new (by decide) (by decide))) hd.app.link;rw[h.n0 1,h.n0 2]at h3;exact h3
theorem Ren.dO(h:Ren f P Y)(hx:0≤x∧x<(P.length:Nat)):∀k:Nat,(∀i:Nat,i≤k→ak P (c,(i:Nat))∧ak P (d,(i:Nat)))→Ren f (dO x c d P k) (dO (fI f x) (fI f c) (fI f d) Y k)
 |0,_=>h
 |k+1,hk=>(h.dO hx k fun i hi=>hk i (by omega)).oK (by rw[jr];omega) (cK (hk (k+1) (Nat.le_refl _)).1 k) (cK (hk (k+1) (Nat.le_refl _)).2 k)
theorem Ren.dD(h:Ren f P Y){b b2:Nat}(hA:bE P)(hb:∀i:Nat,f (b+i)=b2+i):∀k:Nat,(∀i:Nat,i<k→ak P (y,((i:Nat):Int)+1)∧ak P (((b+i:Nat):Int),0))→Ren f (dD y b P k) (dD (fI f y) b2 Y k)
 |0,_=>h
 |k+1,hk=>by
  have ih:=h.dD hA hb k fun i hi=>hk i (by omega)
  have k1:=ih.move (lS hA k fun i hi=>hk i (by omega)) (fK (hk k (by omega)).1 k) (fK (hk k (by omega)).2 k);have e:nP (fI f) (((b+k:Nat):Int),0)=(((b2+k:Nat):Int),0):=by unfold nP;rw[uE,hb]
  rw[e]at k1;exact k1
theorem Ren.duplicate(h:Ren f P Y)(hA:bE P)(h0:ak P (0,0))(hx:0≤x∧x<(P.length:Nat))(hy:0≤y∧y<(P.length:Nat))(hx1:ak P (x,1))(hx2:ak P (x,2))(py:0<(ah P y).2.2.2.2.length):Ren f (bJ P x y) (bJ Y (fI f x) (fI f y)):=by
 have ey:=h.Ip hy.1 hy.2;have en:(ah Y (fI f y)).2.2.2.2.length=(ah P y).2.2.2.2.length:=by rw[ey];exact nJ _ _
 have eC:nO Y (fI f y)=nO P y:=by unfold nO;rw[en,ey];rfl
 have h2:Ren f (dup2 P y) (dup2 Y (fI f y)):=by
  unfold dup2;rw[eC];exact(h.add _ _ _ _ _).add _ _ _ _ _
 have ec:fI f ((P.length:Nat):Int)=((Y.length:Nat):Int):=by rw[uE,h.len]
 have ed:fI f ((P.length+1:Nat):Int)=((Y.length+1:Nat):Int):=by rw[uE,h.ends 1]
 have hcd:∀i:Nat,i≤(ah P y).2.2.2.2.length-1→ak (dup2 P y) (((P.length:Nat):Int),(i:Nat))∧ak (dup2 P y) (((P.length+1:Nat):Int),(i:Nat)):=fun i hi=>⟨rX (by omega) (by omega),r9 (by omega) (by omega)⟩
 have h3:Ren f (dup3 P x y) (dup3 Y (fI f x) (fI f y)):=by
  unfold dup3;rw[en,←ec,←ed];exact h2.dO (by rw[gZ];omega) _ hcd
 have h2A:=x9 (y:=y) hA h0;have h3A:bE (dup3 P x y):=nk h2A (nV h0) _ hcd;have i3:∀{p},ak P p→ak (dup3 P x y) p:=fun h=>cK (nV h) _
 have hc0:ak (dup3 P x y) (((P.length:Nat):Int),0):=cK (rX (by decide) (by omega)) _;have hd0:ak (dup3 P x y) (((P.length+1:Nat):Int),0):=cK (r9 (by decide) (by omega)) _;have h4A:bE (lQ P x y):=(h3A.move (i3 hx1) hc0).move (i3 hx2).move hd0.move
 have h4:Ren f (lQ P x y) (lQ Y (fI f x) (fI f y)):=by
  have k:=(h3.move h3A (i3 hx1) hc0).move (h3A.move (i3 hx1) hc0) (i3 hx2).move hd0.move;rw[h.n0 0,h.nl 1 0]at k;exact k
 unfold bJ;rw[en];refine h4.dD h4A (fun i=>by rw[Nat.add_assoc,Nat.add_assoc];exact h.ends (2+i)) _ fun i hi=>⟨(i3 ⟨hy.1,hy.2,by omega,?_⟩).move.move,?_⟩
 ·show((i:Nat):Int)+1<((ah P y).2.2.2.2.length:Nat);omega
 ·have:=(su (x:=x) (c:=((P.length:Nat):Int)) (d:=((P.length+1:Nat):Int)) (xs:=dup2 P y) hi).move (p:=(x,1)) (q:=(((P.length:Nat):Int),0));have:=this.move (p:=(x,2)) (q:=(((P.length+1:Nat):Int),0));rw[gZ]at this;exact this
theorem Ren.tK(h:Ren f P Y)(hA:bE P)(h0:ak P (0,0)):∀k:Nat,(∀i:Nat,i<k→ak P (y,((i+1:Nat):Int)))→Ren f (tK y P k) (tK (fI f y) Y k)
 |0,_=>h
 |k+1,hk=>by
  have ih:=h.tK hA h0 k fun i hi=>hk i (by omega)
  have k1:=(ih.add 5 0 0 [] 1).move ((yR hA h0 k fun i hi=>hk i (by omega)).add (qj h0 k) _ _ _ _ _) (qj (hk k (by omega)) k).app (AZ k);rw[h.nl k 0]at k1;exact k1
theorem Ren.operate(h:Ren f P Y)(hA:bE P)(h0:ak P (0,0))(hx:0≤x∧x<(P.length:Nat))(hy:0≤y∧y<(P.length:Nat))(j1:ak P (y,1))(j2:(ah P y).1=7→ak P (y,2)):Ren f (bI P x y) (bI Y (fI f x) (fI f y)):=by
 unfold bI;rw[h.Ip hx.1 hx.2,h.Ip hy.1 hy.2]
 show Ren f _ (bif (ah P y).1==7 then dM (dM (Y++[bC 8 (ah P y).2.1 (ah P y).2.2.1 [(ah P x).2.2.1] 2]) (fI f y,1) ((Y.length:Nat),0)) (fI f y,2) ((Y.length:Nat),1)
  else dM (Y++[bC 6 0 (yB (ah P y).2.2.1 (jH (ah P y).2.2.2.1 0) (ah P x).2.2.1) [] 1]) (fI f y,1) ((Y.length:Nat),0))
 cases hk:(ah P y).1==7 with
 |true=>
  have k7:=j2 (by simpa using hk);have A1:=hA.add h0 8 (ah P y).2.1 (ah P y).2.2.1 [(ah P x).2.2.1] 2;have k:=((h.add 8 (ah P y).2.1 (ah P y).2.2.1 [(ah P x).2.2.1] 2).move (p:=(y,1)) (q:=((P.length:Nat),0)) A1 j1.app (ak.new (by decide) (by decide))).move (p:=(y,2)) (q:=((P.length:Nat),1)) (A1.move j1.app (ak.new (by decide) (by decide))) k7.app.move (ak.new (by decide) (by decide)).move;rw[h.n0 0,h.n0 1]at k;exact k
 |false=>
  have k:=(h.add 6 0 (yB (ah P y).2.2.1 (jH (ah P y).2.2.2.1 0) (ah P x).2.2.1) [] 1).move (p:=(y,1)) (q:=((P.length:Nat),0)) (hA.add h0 _ _ _ _ _) j1.app (ak.new (by decide) (by decide));rw[h.n0 0]at k;exact k
theorem Ren.jv(h:Ren f P Y)(hb:nP (fI f) (Tr.jv P.length 0)=Tr.jv Y.length 0):∀k:Nat,nP (fI f) (Tr.jv P.length k)=Tr.jv Y.length k
 |0=>hb
 |k+1=>h.nl k 2
theorem Ren.qo(h:Ren f P Y){lv:Int}(hA:bE P)(h0:ak P (0,0))(hr:ak P (Tr.jv P.length 0))(hb:nP (fI f) (Tr.jv P.length 0)=Tr.jv Y.length 0):∀k:Nat,(∀i:Nat,i<k→ak P (x,((i+1:Nat):Int)))→Ren f (Tr.qo lv x P.length P k) (Tr.qo lv (fI f x) Y.length Y k)
 |0,_=>h
 |k+1,hk=>by
  have ih:=h.qo (lv:=lv) hA h0 hr hb k fun i hi=>hk i (by omega)
  have A2:=(wC (lv:=lv) hA h0 hr k fun i hi=>hk i (by omega)).add (nT h0 k) 3 lv 0 [] 3;have A3:=A2.link (xR hr k).app (wz k (s:=0) (by decide) (by decide));have i1:=(ih.add 3 lv 0 [] 3).link (p:=Tr.jv P.length k) (q:=(((P.length+k:Nat):Int),0)) (xR hr k).app (wz k (by decide) (by decide));have i2:=i1.move (p:=(x,((k+1:Nat):Int))) (q:=(((P.length+k:Nat):Int),1)) A3 (nT (hk k (by omega)) k).app.link (wz k (by decide) (by decide)).link;rw[h.jv hb k,h.nl k 0,h.nl k 1]at i2;exact i2
theorem Ren.choose(h:Ren f P Y)(hA:bE P)(h0:ak P (0,0))(hx:0≤x∧x<(P.length:Nat))(hy:0≤y∧y<(P.length:Nat))(j1:ak P (y,1)):Ren f (dJ P x y) (dJ Y (fI f x) (fI f y)):=by
 have ex:=h.Ip hx.1 hx.2;have ey:=h.Ip hy.1 hy.2;have en:(ah Y (fI f x)).2.2.2.2.length=(ah P x).2.2.2.2.length:=by rw[ex];exact nJ _ _
 have eR:∀i,Ren f (bF P y i) (bF Y (fI f y) i):=fun i=>by
  unfold bF;rw[ey];exact h.add _ _ _ _ _
 unfold dJ;rw[en,ex,ey]
 show Ren f _ (bif (ah P y).1==11 then dM (bF Y (fI f y) (bif (ah P x).2.2.1==0 then 1 else 0)) (fI f y,1) ((Y.length:Nat),0)
  else dM (Tr.qo (ah P y).2.1 (fI f x) (Y.length+1) (bF Y (fI f y) (ah P x).2.2.1) ((ah P x).2.2.2.2.length-1)) (fI f y,1) (Tr.jv (Y.length+1) ((ah P x).2.2.2.2.length-1)))
 cases hk:(ah P y).1==11 with
 |true=>
  have k:=(eR (bif (ah P x).2.2.1==0 then 1 else 0)).move (p:=(y,1)) (q:=((P.length:Nat),0)) (hA.add h0 _ _ _ _ _) j1.app (ak.new (by decide) (by decide));rw[h.n0 0]at k;exact k
 |false=>
  simp only[cond_false];have h1:=eR (ah P x).2.2.1;have l1:(bF P y (ah P x).2.2.1).length=P.length+1:=rF _ _ _;have l2:(bF Y (fI f y) (ah P x).2.2.1).length=Y.length+1:=rF _ _ _;have h1A:bE (bF P y (ah P x).2.2.1):=hA.add h0 _ _ _ _ _;have h1R:ak (bF P y (ah P x).2.2.1) (Tr.jv (bF P y (ah P x).2.2.1).length 0):=by rw[l1];exact ak.new (by decide) (by decide)
  have hb:nP (fI f) (Tr.jv (bF P y (ah P x).2.2.1).length 0)=Tr.jv (bF Y (fI f y) (ah P x).2.2.1).length 0:=by rw[l1,l2];exact h.n0 0
  have hpx:∀i:Nat,i<(ah P x).2.2.2.2.length-1→ak (bF P y (ah P x).2.2.1) (x,((i+1:Nat):Int)):=fun i hi=>ak.app ⟨hx.1,hx.2,by omega,by show((i+1:Nat):Int)<((ah P x).2.2.2.2.length:Nat);omega⟩
  have h2:=h1.qo (lv:=(ah P y).2.1) h1A (ak.app h0) h1R hb _ hpx;have h2A:=wC (lv:=(ah P y).2.1) h1A (ak.app h0) h1R _ hpx;have k:=h2.move (p:=(y,1)) h2A (nT (ak.app j1) _) (xR h1R ((ah P x).2.2.2.2.length-1));rw[h1.jv hb,l1,l2]at k;exact k
end
end Go.Tr
