
/- A net without holes and a net with holes: a renaming of agents that interactions keep. No program in it. -/
import Derived.Test.YtemalpelcdmemaaGreatNz
set_option linter.unusedSimpArgs false
set_option linter.unusedVariables false
namespace Go.Tr
open Go Go.RowKit
def fI(f:Nat→Nat)(z:Int):Int:=bif decide (0≤z)then((f z.toNat:Nat):Int)else z
structure Ren(f:Nat→Nat)(P Y:List NAgent):Prop where
 mono:∀i j:Nat,i<j→f i<f j
 zero:f 0=0
 ends:∀j:Nat,f (P.length+j)=Y.length+j
 at_:∀i:Nat,i<P.length→ah Y ((f i:Nat):Int)=sJ (fI f) (ah P (i:Nat))
 hole:∀k:Nat,k<Y.length→(∀i:Nat,f i≠k)→ah Y (k:Nat)=CP
theorem nk(F:Int→Int)(a:NAgent):(sJ F a).2.2.2.2.length=a.2.2.2.2.length:=by unfold sJ;simp
section
variable {f:Nat→Nat}{P Y:List NAgent}{p q:aJ}
theorem kP{z:Int}(h:0≤z):fI f z=((f z.toNat:Nat):Int):=by unfold fI;rw[decide_eq_true h];rfl
theorem vD{z:Int}(h:¬0≤z):fI f z=z:=by unfold fI;rw[decide_eq_false h];rfl
theorem tN(k:Nat):fI f ((k:Nat):Int)=((f k:Nat):Int):=by rw[kP (by omega),Int.toNat_natCast]
theorem Ren.inj(h:Ren f P Y){i j:Nat}(e:f i=f j):i=j:=by
 rcases Nat.lt_trichotomy i j with k|k|k
 ·have:=h.mono i j k;omega
 ·exact k
 ·have:=h.mono j i k;omega
theorem Ren.lt(h:Ren f P Y){i j:Nat}:f i<f j↔i<j:=by
 constructor
 ·intro e;rcases Nat.lt_trichotomy i j with k|k|k
  ·exact k
  ·subst k;omega
  ·have:=h.mono j i k;omega
 ·exact h.mono i j
theorem Ren.len(h:Ren f P Y):f P.length=Y.length:=h.ends 0
theorem Ren.X6(h:Ren f P Y){i:Nat}:f i<Y.length↔i<P.length:=by rw[←h.len];exact h.lt
theorem Ren.WW(h:Ren f P Y){z:Int}:(0≤fI f z∧fI f z<(Y.length:Nat))↔(0≤z∧z<(P.length:Nat)):=by
 by_cases h0:0≤z
 ·rw[kP h0];have k:=h.X6 (i:=z.toNat);constructor
  ·rintro⟨_,h2⟩;have:=k.1 (by omega);omega
  ·rintro⟨_,h2⟩;have:=k.2 (by omega);omega
 ·rw[vD h0];constructor
  ·rintro⟨h1,_⟩;exact absurd h1 h0
  ·rintro⟨h1,_⟩;exact absurd h1 h0
theorem Ren.Zu(h:Ren f P Y){a b:Int}:fI f a=fI f b↔a=b:=by
 constructor
 ·intro e
  by_cases ha:0≤a
  ·by_cases hb:0≤b
   ·rw[kP ha,kP hb]at e;have:=h.inj (i:=a.toNat) (j:=b.toNat) (by omega);omega
   ·rw[kP ha,vD hb]at e;omega
  ·by_cases hb:0≤b
   ·rw[vD ha,kP hb]at e;omega
   ·rw[vD ha,vD hb]at e;exact e
 ·intro e;rw[e]
theorem Ren.GI(h:Ren f P Y){z:Int}(h0:0≤z)(h1:z<(P.length:Nat)):ah Y (fI f z)=sJ (fI f) (ah P z):=by
 have k:=h.at_ z.toNat (by omega);rw[show((z.toNat:Nat):Int)=z by omega]at k;rw[kP h0];exact k
theorem Ren.pin(h:Ren f P Y):ak Y (nH (fI f) p)↔ak P p:=by
 constructor
 ·rintro⟨h1,h2,h3,h4⟩;have k:=h.WW.1 ⟨h1,h2⟩;refine⟨k.1,k.2,h3,?_⟩;have h5:p.2<((ah Y (fI f p.1)).2.2.2.2.length:Nat):=h4;rw[h.GI k.1 k.2,nk]at h5;exact h5
 ·rintro⟨h1,h2,h3,h4⟩;have k:=h.WW.2 ⟨h1,h2⟩;refine⟨k.1,k.2,h3,?_⟩;show p.2<((ah Y (fI f p.1)).2.2.2.2.length:Nat);rw[h.GI h1 h2,nk];exact h4
theorem Ren.peer(h:Ren f P Y)(hp:ak P p):aF Y (nH (fI f) p)=nH (fI f) (aF P p):=by
 obtain⟨h1,h2,h3,h4⟩:=hp;have h6:p.2<((ah P p.1).2.2.2.2.length:Nat):=h4;have h5:p.2.toNat<(ah P p.1).2.2.2.2.length:=by omega
 show elt (dflt uPort) (ah Y (fI f p.1)).2.2.2.2 p.2=nH (fI f) (elt (dflt uPort) (ah P p.1).2.2.2.2 p.2);rw[h.GI h1 h2];show elt (dflt uPort) ((ah P p.1).2.2.2.2.map (nH (fI f))) p.2=_;unfold elt;rw[List.getD_eq_getElem?_getD,List.getD_eq_getElem?_getD,List.getElem?_map,List.getElem?_eq_getElem h5];rfl
theorem Ren.allP(h:Ren f P Y)(hA:bG Y):bG P:=fun p hp=>by
 have k:=hA _ (h.pin.2 hp);rw[h.peer hp]at k;exact h.pin.1 k
theorem Ren.set(h:Ren f P Y){i:Nat}(hi:i<P.length)(a:NAgent):Ren f (P.set i a) (Y.set (f i) (sJ (fI f) a)):=by
 refine⟨h.mono,h.zero,fun j=>by rw[List.length_set,List.length_set];exact h.ends j,fun j hj=> ?_,fun k hk hn=> ?_⟩
 ·rw[List.length_set]at hj;rw[l8,l8,Int.toNat_natCast,Int.toNat_natCast]
  by_cases e:i=j
  ·subst e;rw[if_pos ⟨rfl,h.X6.2 hi⟩,if_pos ⟨rfl,hi⟩]
  ·rw[if_neg fun k=>e (h.inj k.1),if_neg fun k=>e k.1];exact h.at_ j hj
 ·rw[List.length_set]at hk;rw[l8,Int.toNat_natCast,if_neg fun e=>hn i e.1];exact h.hole k hk hn
theorem Ren.app(h:Ren f P Y)(a:NAgent):Ren f (P++[a]) (Y++[sJ (fI f) a]):=by
 have hl:=h.len;refine⟨h.mono,h.zero,fun j=> ?_,fun j hj=> ?_,fun k hk hn=> ?_⟩
 ·have k:=h.ends (1+j);rw[List.length_append,List.length_append,List.length_singleton,List.length_singleton,Nat.add_assoc,Nat.add_assoc];exact k
 ·rw[List.length_append,List.length_singleton]at hj
  by_cases e:j<P.length
  ·have e2:=h.X6.2 e;rw[dJ (by rw[Int.toNat_natCast];exact e2),dJ (by rw[Int.toNat_natCast];exact e)];exact h.at_ j e
  ·have e2:j=P.length:=by omega
   subst e2;rw[qQ (by rw[Int.toNat_natCast];exact hl),qQ (by rw[Int.toNat_natCast])]
 ·rw[List.length_append,List.length_singleton]at hk
  have hk2:k<Y.length:=by
   have:=hn P.length;omega
  rw[dJ (by rw[Int.toNat_natCast];exact hk2)];exact h.hole k hk2 hn
theorem Wq(h:f 0=0)(k l v:Int)(d:List Int)(n:Nat):sJ (fI f) (bD k l v d n)=bD k l v d n:=by
 have e:nH (fI f) (0,0)=(0,0):=by
  unfold nH;have:fI f 0=0:=by rw[kP (Int.le_refl 0)];show((f 0:Nat):Int)=0;rw[h];rfl
  rw[this]
 unfold sJ bD;simp only[List.map_replicate,e]
theorem Ren.add(h:Ren f P Y)(k l v:Int)(d:List Int)(n:Nat):Ren f (P++[bD k l v d n]) (Y++[bD k l v d n]):=by
 have:=h.app (bD k l v d n)
 rwa[Wq h.zero]at this
theorem Ren.drop(h:Ren f P Y){z:Int}(h0:0≤z)(h1:z<(P.length:Nat)):Ren f (bE P z) (bE Y (fI f z)):=by
 have k:=h.set (i:=z.toNat) (by omega) CP;unfold bE;rw[kP h0,Int.toNat_natCast];exact k
theorem Ren.YG(h:Ren f P Y)(h0:0≤p.1)(h1:p.1<(P.length:Nat)):Ren f (aN P p q) (aN Y (nH (fI f) p) (nH (fI f) q)):=by
 have k:=h.set (i:=p.1.toNat) (by omega) ((ah P p.1).1,(ah P p.1).2.1,(ah P p.1).2.2.1,(ah P p.1).2.2.2.1,(ah P p.1).2.2.2.2.set p.2.toNat q)
 have e:aN Y (nH (fI f) p) (nH (fI f) q)=Y.set (f p.1.toNat) (sJ (fI f) ((ah P p.1).1,(ah P p.1).2.1,(ah P p.1).2.2.1,(ah P p.1).2.2.2.1,(ah P p.1).2.2.2.2.set p.2.toNat q)):=by
  unfold aN;show Y.set (fI f p.1).toNat ((ah Y (fI f p.1)).1,(ah Y (fI f p.1)).2.1,(ah Y (fI f p.1)).2.2.1,(ah Y (fI f p.1)).2.2.2.1,(ah Y (fI f p.1)).2.2.2.2.set p.2.toNat (nH (fI f) q))=_;rw[h.GI h0 h1,kP h0,Int.toNat_natCast];unfold sJ;simp only[List.map_set]
 rw[e];exact k
theorem Ren.link(h:Ren f P Y)(hp:ak P p)(hq:ak P q):Ren f (bQ P p q) (bQ Y (nH (fI f) p) (nH (fI f) q)):=by
 unfold bQ;exact(h.YG hp.1 hp.2.1).YG hq.1 (by rw[dD];exact hq.2.1)
theorem Ren.move(h:Ren f P Y)(hA:bG P)(hp:ak P p)(hq:ak P q):Ren f (dN P p q) (dN Y (nH (fI f) p) (nH (fI f) q)):=by
 unfold dN;rw[h.peer hp];exact h.link (hA p hp) hq
theorem Ren.join(h:Ren f P Y)(hA:bG P)(hp:ak P p)(hq:ak P q):Ren f (aT P p q) (aT Y (nH (fI f) p) (nH (fI f) q)):=by
 unfold aT;rw[h.peer hp,h.peer hq]
 have e:((nH (fI f) (aF P p)).1==(nH (fI f) q).1)=((aF P p).1==q.1):=by
  rw[Bool.eq_iff_iff,beq_iff_eq,beq_iff_eq];exact h.Zu
 rw[e];show Ren f _ (bif ((aF P p).1==q.1&&(aF P p).2==q.2)then Y else bQ Y (nH (fI f) (aF P p)) (nH (fI f) (aF P q)));cases ((aF P p).1==q.1&&(aF P p).2==q.2)
 ·exact h.link (hA p hp) (hA q hq)
 ·exact h
theorem Ren.nl(h:Ren f P Y)(j:Nat)(s:Int):nH (fI f) (((P.length+j:Nat):Int),s)=(((Y.length+j:Nat):Int),s):=by
 unfold nH;rw[tN,h.ends]
theorem Ren.n0(h:Ren f P Y)(s:Int):nH (fI f) (((P.length:Nat):Int),s)=(((Y.length:Nat):Int),s):=h.nl 0 s
variable {x y c d:Int}
theorem Ren.oF(h:Ren f P Y){i:Nat}(hx:0≤x∧x<(P.length:Nat))(hc:ak P (c,(i:Nat)))(hd:ak P (d,(i:Nat))):Ren f (oF x c d P i) (oF (fI f x) (fI f c) (fI f d) Y i):=by
 have e:(ah Y (fI f x)).2.1=(ah P x).2.1:=by rw[h.GI hx.1 hx.2];rfl
 unfold Tr.oF;rw[e];have h1:=h.add 4 (ah P x).2.1 0 [] 3;have h2:=h1.link (p:=((P.length:Nat),1)) (q:=(c,(i:Nat))) (ak.new (by decide) (by decide)) hc.app;have h3:=h2.link (p:=((P.length:Nat),2)) (q:=(d,(i:Nat))) (ak.link (ak.new (by decide) (by decide))) hd.app.link;rw[h.n0 1,h.n0 2]at h3;exact h3
theorem Ren.dP(h:Ren f P Y)(hx:0≤x∧x<(P.length:Nat)):∀k:Nat,(∀i:Nat,i≤k→ak P (c,(i:Nat))∧ak P (d,(i:Nat)))→Ren f (dP x c d P k) (dP (fI f x) (fI f c) (fI f d) Y k)
 |0,_=>h
 |k+1,hk=>(h.dP hx k fun i hi=>hk i (by omega)).oF (by rw[ji];omega) (cO (hk (k+1) (Nat.le_refl _)).1 k) (cO (hk (k+1) (Nat.le_refl _)).2 k)
theorem Ren.dG(h:Ren f P Y){b b2:Nat}(hA:bG P)(hb:∀i:Nat,f (b+i)=b2+i):∀k:Nat,(∀i:Nat,i<k→ak P (y,((i:Nat):Int)+1)∧ak P (((b+i:Nat):Int),0))→Ren f (dG y b P k) (dG (fI f y) b2 Y k)
 |0,_=>h
 |k+1,hk=>by
  have ih:=h.dG hA hb k fun i hi=>hk i (by omega)
  have k1:=ih.move (lF hA k fun i hi=>hk i (by omega)) (fK (hk k (by omega)).1 k) (fK (hk k (by omega)).2 k);have e:nH (fI f) (((b+k:Nat):Int),0)=(((b2+k:Nat):Int),0):=by unfold nH;rw[tN,hb]
  rw[e]at k1;exact k1
theorem Ren.duplicate(h:Ren f P Y)(hA:bG P)(h0:ak P (0,0))(hx:0≤x∧x<(P.length:Nat))(hy:0≤y∧y<(P.length:Nat))(hx1:ak P (x,1))(hx2:ak P (x,2))(py:0<(ah P y).2.2.2.2.length):Ren f (bL P x y) (bL Y (fI f x) (fI f y)):=by
 have ey:=h.GI hy.1 hy.2;have en:(ah Y (fI f y)).2.2.2.2.length=(ah P y).2.2.2.2.length:=by rw[ey];exact nk _ _
 have eC:nG Y (fI f y)=nG P y:=by unfold nG;rw[en,ey];rfl
 have h2:Ren f (dup2 P y) (dup2 Y (fI f y)):=by
  unfold dup2;rw[eC];exact(h.add _ _ _ _ _).add _ _ _ _ _
 have ec:fI f ((P.length:Nat):Int)=((Y.length:Nat):Int):=by rw[tN,h.len]
 have ed:fI f ((P.length+1:Nat):Int)=((Y.length+1:Nat):Int):=by rw[tN,h.ends 1]
 have hcd:∀i:Nat,i≤(ah P y).2.2.2.2.length-1→ak (dup2 P y) (((P.length:Nat):Int),(i:Nat))∧ak (dup2 P y) (((P.length+1:Nat):Int),(i:Nat)):=fun i hi=>⟨rG (by omega) (by omega),rH (by omega) (by omega)⟩
 have h3:Ren f (dup3 P x y) (dup3 Y (fI f x) (fI f y)):=by
  unfold dup3;rw[en,←ec,←ed];exact h2.dP (by rw[gW];omega) _ hcd
 have h2A:=wV (y:=y) hA h0;have h3A:bG (dup3 P x y):=mU h2A (nQ h0) _ hcd;have i3:∀{p},ak P p→ak (dup3 P x y) p:=fun h=>cO (nQ h) _
 have hc0:ak (dup3 P x y) (((P.length:Nat):Int),0):=cO (rG (by decide) (by omega)) _;have hd0:ak (dup3 P x y) (((P.length+1:Nat):Int),0):=cO (rH (by decide) (by omega)) _;have h4A:bG (lD P x y):=(h3A.move (i3 hx1) hc0).move (i3 hx2).move hd0.move
 have h4:Ren f (lD P x y) (lD Y (fI f x) (fI f y)):=by
  have k:=(h3.move h3A (i3 hx1) hc0).move (h3A.move (i3 hx1) hc0) (i3 hx2).move hd0.move;rw[h.n0 0,h.nl 1 0]at k;exact k
 unfold bL;rw[en];refine h4.dG h4A (fun i=>by rw[Nat.add_assoc,Nat.add_assoc];exact h.ends (2+i)) _ fun i hi=>⟨(i3 ⟨hy.1,hy.2,by omega,?_⟩).move.move,?_⟩
 ·show((i:Nat):Int)+1<((ah P y).2.2.2.2.length:Nat);omega
 ·have:=(rJ (x:=x) (c:=((P.length:Nat):Int)) (d:=((P.length+1:Nat):Int)) (xs:=dup2 P y) hi).move (p:=(x,1)) (q:=(((P.length:Nat):Int),0));have:=this.move (p:=(x,2)) (q:=(((P.length+1:Nat):Int),0));rw[gW]at this;exact this
theorem Ren.sS(h:Ren f P Y)(hA:bG P)(h0:ak P (0,0)):∀k:Nat,(∀i:Nat,i<k→ak P (y,((i+1:Nat):Int)))→Ren f (sS y P k) (sS (fI f y) Y k)
 |0,_=>h
 |k+1,hk=>by
  have ih:=h.sS hA h0 k fun i hi=>hk i (by omega)
  have k1:=(ih.add 5 0 0 [] 1).move ((yh hA h0 k fun i hi=>hk i (by omega)).add (pO h0 k) _ _ _ _ _) (pO (hk k (by omega)) k).app (Af k);rw[h.nl k 0]at k1;exact k1
theorem Ren.operate(h:Ren f P Y)(hA:bG P)(h0:ak P (0,0))(hx:0≤x∧x<(P.length:Nat))(hy:0≤y∧y<(P.length:Nat))(j1:ak P (y,1))(j2:(ah P y).1=7→ak P (y,2)):Ren f (bJ P x y) (bJ Y (fI f x) (fI f y)):=by
 unfold bJ;rw[h.GI hx.1 hx.2,h.GI hy.1 hy.2]
 show Ren f _ (bif (ah P y).1==7 then dN (dN (Y++[bD 8 (ah P y).2.1 (ah P y).2.2.1 [(ah P x).2.2.1] 2]) (fI f y,1) ((Y.length:Nat),0)) (fI f y,2) ((Y.length:Nat),1)
  else dN (Y++[bD 6 0 (xG (ah P y).2.2.1 (jC (ah P y).2.2.2.1 0) (ah P x).2.2.1) [] 1]) (fI f y,1) ((Y.length:Nat),0))
 cases hk:(ah P y).1==7 with
 |true=>
  have k7:=j2 (by simpa using hk);have A1:=hA.add h0 8 (ah P y).2.1 (ah P y).2.2.1 [(ah P x).2.2.1] 2;have k:=((h.add 8 (ah P y).2.1 (ah P y).2.2.1 [(ah P x).2.2.1] 2).move (p:=(y,1)) (q:=((P.length:Nat),0)) A1 j1.app (ak.new (by decide) (by decide))).move (p:=(y,2)) (q:=((P.length:Nat),1)) (A1.move j1.app (ak.new (by decide) (by decide))) k7.app.move (ak.new (by decide) (by decide)).move;rw[h.n0 0,h.n0 1]at k;exact k
 |false=>
  have k:=(h.add 6 0 (xG (ah P y).2.2.1 (jC (ah P y).2.2.2.1 0) (ah P x).2.2.1) [] 1).move (p:=(y,1)) (q:=((P.length:Nat),0)) (hA.add h0 _ _ _ _ _) j1.app (ak.new (by decide) (by decide));rw[h.n0 0]at k;exact k
theorem Ren.jk(h:Ren f P Y)(hb:nH (fI f) (Tr.jk P.length 0)=Tr.jk Y.length 0):∀k:Nat,nH (fI f) (Tr.jk P.length k)=Tr.jk Y.length k
 |0=>hb
 |k+1=>h.nl k 2
theorem Ren.p8(h:Ren f P Y){lv:Int}(hA:bG P)(h0:ak P (0,0))(hr:ak P (Tr.jk P.length 0))(hb:nH (fI f) (Tr.jk P.length 0)=Tr.jk Y.length 0):∀k:Nat,(∀i:Nat,i<k→ak P (x,((i+1:Nat):Int)))→Ren f (Tr.p8 lv x P.length P k) (Tr.p8 lv (fI f x) Y.length Y k)
 |0,_=>h
 |k+1,hk=>by
  have ih:=h.p8 (lv:=lv) hA h0 hr hb k fun i hi=>hk i (by omega)
  have A2:=(vo (lv:=lv) hA h0 hr k fun i hi=>hk i (by omega)).add (nN h0 k) 3 lv 0 [] 3;have A3:=A2.link (wS hr k).app (vk k (s:=0) (by decide) (by decide));have i1:=(ih.add 3 lv 0 [] 3).link (p:=Tr.jk P.length k) (q:=(((P.length+k:Nat):Int),0)) (wS hr k).app (vk k (by decide) (by decide));have i2:=i1.move (p:=(x,((k+1:Nat):Int))) (q:=(((P.length+k:Nat):Int),1)) A3 (nN (hk k (by omega)) k).app.link (vk k (by decide) (by decide)).link;rw[h.jk hb k,h.nl k 0,h.nl k 1]at i2;exact i2
theorem Ren.choose(h:Ren f P Y)(hA:bG P)(h0:ak P (0,0))(hx:0≤x∧x<(P.length:Nat))(hy:0≤y∧y<(P.length:Nat))(j1:ak P (y,1)):Ren f (dL P x y) (dL Y (fI f x) (fI f y)):=by
 have ex:=h.GI hx.1 hx.2;have ey:=h.GI hy.1 hy.2;have en:(ah Y (fI f x)).2.2.2.2.length=(ah P x).2.2.2.2.length:=by rw[ex];exact nk _ _
 have eR:∀i,Ren f (bF P y i) (bF Y (fI f y) i):=fun i=>by
  unfold bF;rw[ey];exact h.add _ _ _ _ _
 unfold dL;rw[en,ex,ey]
 show Ren f _ (bif (ah P y).1==11 then dN (bF Y (fI f y) (bif (ah P x).2.2.1==0 then 1 else 0)) (fI f y,1) ((Y.length:Nat),0)
  else dN (Tr.p8 (ah P y).2.1 (fI f x) (Y.length+1) (bF Y (fI f y) (ah P x).2.2.1) ((ah P x).2.2.2.2.length-1)) (fI f y,1) (Tr.jk (Y.length+1) ((ah P x).2.2.2.2.length-1)))
 cases hk:(ah P y).1==11 with
 |true=>
  have k:=(eR (bif (ah P x).2.2.1==0 then 1 else 0)).move (p:=(y,1)) (q:=((P.length:Nat),0)) (hA.add h0 _ _ _ _ _) j1.app (ak.new (by decide) (by decide));rw[h.n0 0]at k;exact k
 |false=>
  simp only[cond_false];have h1:=eR (ah P x).2.2.1;have l1:(bF P y (ah P x).2.2.1).length=P.length+1:=qV _ _ _;have l2:(bF Y (fI f y) (ah P x).2.2.1).length=Y.length+1:=qV _ _ _;have h1A:bG (bF P y (ah P x).2.2.1):=hA.add h0 _ _ _ _ _;have h1R:ak (bF P y (ah P x).2.2.1) (Tr.jk (bF P y (ah P x).2.2.1).length 0):=by rw[l1];exact ak.new (by decide) (by decide)
  have hb:nH (fI f) (Tr.jk (bF P y (ah P x).2.2.1).length 0)=Tr.jk (bF Y (fI f y) (ah P x).2.2.1).length 0:=by rw[l1,l2];exact h.n0 0
  have hpx:∀i:Nat,i<(ah P x).2.2.2.2.length-1→ak (bF P y (ah P x).2.2.1) (x,((i+1:Nat):Int)):=fun i hi=>ak.app ⟨hx.1,hx.2,by omega,by show((i+1:Nat):Int)<((ah P x).2.2.2.2.length:Nat);omega⟩
  have h2:=h1.p8 (lv:=(ah P y).2.1) h1A (ak.app h0) h1R hb _ hpx;have h2A:=vo (lv:=(ah P y).2.1) h1A (ak.app h0) h1R _ hpx;have k:=h2.move (p:=(y,1)) h2A (nN (ak.app j1) _) (wS h1R ((ah P x).2.2.2.2.length-1));rw[h1.jk hb,l1,l2]at k;exact k
end
end Go.Tr
namespace Go.Tr
open Go Go.RowKit
section
variable {f:Nat→Nat}{P Y:List NAgent}{x y c:Int}{bk:List (List NAgent)}
theorem KS(lv b:Int)(t:List NAgent):jK lv b t (t.length-1)=((dh lv t).drop 1).map (dA b):=by
 unfold jK;rw[List.take_of_length_le (by rw[List.length_drop,mI];exact Nat.le_refl _)]
theorem wQ{xs:List NAgent}{z s:Int}{q:aJ}(h0:0≤z)(h1:z<(xs.length:Nat)):ah (aN xs (z,s) q) z=((ah xs z).1,(ah xs z).2.1,(ah xs z).2.2.1,(ah xs z).2.2.2.1,(ah xs z).2.2.2.2.set s.toNat q):=by
 rw[fu];exact if_pos ⟨rfl,by show z.toNat<xs.length;omega⟩
theorem nJ{xs:List NAgent}{z s i:Int}{q:aJ}(h:z.toNat≠i.toNat):ah (aN xs (z,s) q) i=ah xs i:=by
 rw[fu];exact if_neg fun k=>h k.1
theorem Uy{α:Type}{u v:List α}{s:Nat}{w:α}(hl:u.length=v.length)(h:∀k:Nat,k≠s→u[k]? =v[k]?):u.set s w=v.set s w:=by
 apply List.ext_getElem?;intro k;rw[List.getElem?_set,List.getElem?_set,hl]
 by_cases e:s=k
 ·rw[if_pos e,if_pos e]
 ·rw[if_neg e,if_neg e];exact h k (Ne.symm e)
theorem Ren.YJ(h:Ren f P Y){t:List NAgent}{b b2:Int}{z:aJ}(ht:iH (fun p=>ak t p) t)(h0:ak t (0,0))(h00:∀p,ak t p→p.1=0→p=(0,0))(hb:b=(P.length:Int)-1)(hb2:b2=(Y.length:Int)-1):
  Ren f (aN (P++(t.drop 1).map (dA b)) ((aF t (0,0)).1+b,(aF t (0,0)).2) z) (aN (Y++(t.drop 1).map (dA b2)) ((aF t (0,0)).1+b2,(aF t (0,0)).2) (nH (fI f) z)):=by
 obtain⟨r1,r2,r3,r4⟩:=ht (0,0) h0
 have rpos:1≤(aF t (0,0)).1:=by
  have h1:=r2.1
  by_cases e:(aF t (0,0)).1=0
  ·exact absurd (h00 _ r2 e) r4
  ·omega
 have rlt:=r2.2.1;have r3n:=r2.2.2.1
 have key:∀(j:Nat),j+1<t.length→∀(k:Nat) (u:aJ),(ah t ((j+1:Nat):Int)).2.2.2.2[k]? =some u→¬((aF t (0,0)).1=((j+1:Nat):Int)∧(aF t (0,0)).2.toNat=k)→nH (fI f) (u.1+b,u.2)=(u.1+b2,u.2):=fun j hj k u hu hne=>by
  have hk:=(List.getElem?_eq_some_iff.1 hu).1;have pin:ak t (((j+1:Nat):Int),((k:Nat):Int)):=⟨by show(0:Int)≤(j+1:Nat);omega,by show((j+1:Nat):Int)<(t.length:Nat);omega,by show(0:Int)≤(k:Nat);omega,by show((k:Nat):Int)<((ah t ((j+1:Nat):Int)).2.2.2.2.length:Nat);omega⟩
  have pe:aF t (((j+1:Nat):Int),((k:Nat):Int))=u:=by
   show elt (dflt uPort) (ah t ((j+1:Nat):Int)).2.2.2.2 ((k:Nat):Int)=u;unfold elt;rw[Int.toNat_natCast,List.getD_eq_getElem?_getD,hu];rfl
  obtain⟨_,w2,w3,w4⟩:=ht _ pin;rw[pe]at w2 w3;have w1:=w2.1
  have u1:1≤u.1:=by
   by_cases e:u.1=0
   ·exfalso;rw[h00 u w2 e]at w3;refine hne ⟨congrArg Prod.fst w3,?_⟩;have k2:(aF t (0,0)).2=((k:Nat):Int):=congrArg Prod.snd w3;omega
   ·omega
  have hE:=h.ends (u.1.toNat-1);unfold nH;show(fI f (u.1+b),u.2)=(u.1+b2,u.2);rw[show u.1+b=((P.length+(u.1.toNat-1):Nat):Int) by omega,tN,hE];exact Prod.ext (show((Y.length+(u.1.toNat-1):Nat):Int)=u.1+b2 by omega) rfl
 generalize aF t (0,0)=R at*;obtain⟨Ra,Rs⟩:=R;have rpos':1≤Ra:=rpos;have rlt':Ra<(t.length:Nat):=rlt;have rs':0≤Rs:=r3n;refine⟨h.mono,h.zero,fun j=> ?_,fun i hi=> ?_,fun k hk hn=> ?_⟩
 ·rw[dD,dD,List.length_append,List.length_append,oK,oK,Nat.add_assoc,Nat.add_assoc];exact h.ends _
 ·rw[dD,List.length_append,oK]at hi;show ah (aN (Y++(t.drop 1).map (dA b2)) (Ra+b2,Rs) (nH (fI f) z)) ((f i:Nat):Int)=sJ (fI f) (ah (aN (P++(t.drop 1).map (dA b)) (Ra+b,Rs) z) ((i:Nat):Int))
  by_cases e:i<P.length
  ·have e2:=h.X6.2 e;rw[nJ (by omega),nJ (by omega),dJ (by omega),dJ (by omega)];exact h.at_ i e
  ·obtain⟨j,rfl⟩:∃j,i=P.length+j:=⟨i-P.length,by omega⟩;have hj:j+1<t.length:=by omega
   have ef:=h.ends j;have a1:=rC (xs:=P) (t:=t) hb (i:=((P.length+j:Nat):Int)) (by omega) (by omega);have a2:=rC (xs:=Y) (t:=t) hb2 (i:=((Y.length+j:Nat):Int)) (by omega) (by omega);rw[show((P.length+j:Nat):Int)-b=((j+1:Nat):Int) by omega]at a1;rw[show((Y.length+j:Nat):Int)-b2=((j+1:Nat):Int) by omega]at a2;have kj:=key j hj;rw[ef];generalize ah t ((j+1:Nat):Int)=A at*;have l1:(P++(t.drop 1).map (dA b)).length=P.length+(t.length-1):=by rw[List.length_append,oK]
   have l2:(Y++(t.drop 1).map (dA b2)).length=Y.length+(t.length-1):=by rw[List.length_append,oK]
   by_cases hR:Ra=((j+1:Nat):Int)
   ·rw[show Ra+b2=((Y.length+j:Nat):Int) by omega,show Ra+b=((P.length+j:Nat):Int) by omega,wQ (by omega) (by rw[l2];omega),wQ (by omega) (by rw[l1];omega),a1,a2];unfold sJ dA;simp only[List.map_set,List.map_map]
    congr 4
    refine Uy (by simp) fun k hk=> ?_
    rw[List.getElem?_map,List.getElem?_map];cases hu:A.2.2.2.2[k]? with
    |none=>rfl
    |some u=>
     show some _=some _;have:=kj k u hu fun e=>hk e.2.symm
     exact congrArg some this.symm
   ·rw[nJ (by omega),nJ (by omega),a1,a2];unfold sJ dA;simp only[List.map_map]
    congr 4
    apply List.ext_getElem?;intro k;rw[List.getElem?_map,List.getElem?_map];cases hu:A.2.2.2.2[k]? with
    |none=>rfl
    |some u=>
     show some _=some _;have:=kj k u hu fun e=>hR e.1
     exact congrArg some this.symm
 ·rw[dD,List.length_append,oK]at hk
  have hk2:k<Y.length:=by
   rcases Nat.lt_or_ge k Y.length with e|e
   ·exact e
   ·have h1:=h.ends (k-Y.length);exact absurd (by rw[h1];omega) (hn (P.length+(k-Y.length)))
  show ah (aN (Y++(t.drop 1).map (dA b2)) (Ra+b2,Rs) (nH (fI f) z)) ((k:Nat):Int)=CP;rw[nJ (by omega),dJ (by omega)];exact h.hole k hk2 hn
theorem Ren.expand(h:Ren f P Y){t:List NAgent}{lv:Int}(hy:ak P (y,0))(ht:iH (fun p=>ak t p) t)(h0:ak t (0,0))(h00:∀p,ak t p→p.1=0→p=(0,0)):Ren f (fE t lv P y) (fE t lv Y (fI f y)):=by
 unfold fE;rw[KS,KS];have k:=h.YJ (t:=dh lv t) (z:=(y,0)) (b:=(P.length:Int)-1) (b2:=(Y.length:Int)-1) ht.shift (ak.jI.2 h0) (fun p hp e=>h00 p (ak.jI.1 hp) e) rfl rfl;rw[pE h0]at k;have k2:=k.YG (p:=(y,0)) (q:=((aF t (0,0)).1+((P.length:Int)-1),(aF t (0,0)).2)) hy.1 (by rw[dD,List.length_append];have:=hy.2.1;show y<_;have h3:y<(P.length:Nat):=this;omega);obtain⟨r1,r2,r3,r4⟩:=ht (0,0) h0
 have rpos:1≤(aF t (0,0)).1:=by
  have h1:=r2.1
  by_cases e:(aF t (0,0)).1=0
  ·exact absurd (h00 _ r2 e) r4
  ·omega
 have hE:=h.ends ((aF t (0,0)).1.toNat-1)
 have e:nH (fI f) ((aF t (0,0)).1+((P.length:Int)-1),(aF t (0,0)).2)=((aF t (0,0)).1+((Y.length:Int)-1),(aF t (0,0)).2):=by
  unfold nH;show(fI f _,_)=_;rw[show(aF t (0,0)).1+((P.length:Int)-1)=((P.length+((aF t (0,0)).1.toNat-1):Nat):Int) by omega,tN,hE];exact Prod.ext (show((Y.length+((aF t (0,0)).1.toNat-1):Nat):Int)=(aF t (0,0)).1+((Y.length:Int)-1) by omega) rfl
 rw[e]at k2;unfold bQ;rw[show((P.length:Nat):Int)-1+(aF t (0,0)).1=(aF t (0,0)).1+((P.length:Int)-1) by omega,show((Y.length:Nat):Int)-1+(aF t (0,0)).1=(aF t (0,0)).1+((Y.length:Int)-1) by omega];exact k2
theorem Ren.inter(h:Ren f P Y)(hp:IQ P c x y)(hA:bG P)(h0:ak P (0,0))(hc:1≤c∧c≤7)(hb:BkW bk)(h7:c=7→(0≤(ah P x).2.2.1∧(ah P x).2.2.1<(bk.length:Nat))):Ren f (iE bk P c x y) (iE bk Y c (fI f x) (fI f y)):=by
 obtain⟨⟨hx0,hy0,p12,p3,px,py,dy,p5,p6⟩,s5,s6⟩:=hp;have hcs:c=1∨c=2∨c=3∨c=4∨c=5∨c=6∨c=7:=by omega
 rcases hcs with rfl|rfl|rfl|rfl|rfl|rfl|rfl
 ·obtain⟨j1,j2,j3,j4⟩:=p12 (.inl rfl);exact(h.join hA j1 j3).join (hA.join j1 j3) j2.join j4.join
 ·obtain⟨j1,j2,j3,j4⟩:=p12 (.inr rfl);exact(h.join hA j1 j3).join (hA.join j1 j3) j2.join j4.join
 ·obtain⟨hx1,hx2⟩:=p3 rfl;exact h.duplicate hA h0 hx0 hy0 hx1 hx2 py.1
 ·show Ren f (iD P y) (iD Y (fI f y));unfold iD;rw[h.GI hy0.1 hy0.2,nk];exact h.sS hA h0 _ fun i hi=>⟨hy0.1,hy0.2,by omega,by show((i+1:Nat):Int)<((ah P y).2.2.2.2.length:Nat);omega⟩
 ·obtain⟨j1,j2,j3⟩:=p5 rfl;exact h.operate hA h0 hx0 hy0 j1 j2
 ·obtain⟨j1,j2,j3⟩:=p6 rfl;exact h.choose hA h0 hx0 hy0 j1
 ·obtain⟨v0,v1⟩:=h7 rfl;show Ren f (fE (bR bk (ah P x).2.2.1) (ah P x).2.1 P y) (fE (bR bk (ah Y (fI f x)).2.2.1) (ah Y (fI f x)).2.1 Y (fI f y));rw[h.GI hx0.1 hx0.2];exact h.expand ⟨hy0.1,hy0.2,Int.le_refl 0,by show(0:Int)<((ah P y).2.2.2.2.length:Nat);omega⟩ (hb.wi _ v0 v1) (hb.r0 _ v0 v1) (hb.r1 _ v0 v1)
theorem Ren.done(h:Ren f P Y)(hp:IQ P c x y)(hA:bG P)(h0:ak P (0,0))(hc:1≤c∧c≤7)(hb:BkW bk)(h7:c=7→(0≤(ah P x).2.2.1∧(ah P x).2.2.1<(bk.length:Nat))):Ren f (gG bk P c x y) (gG bk Y c (fI f x) (fI f y)):=by
 have k:=h.inter (bk:=bk) hp hA h0 hc hb h7;have hle:=G9 (xs:=P) bk c x y;have hx:=hp.x0;have hy:=hp.y0;have k1:=k.drop hx.1 (by omega);unfold gG;cases c==7
 ·exact k1.drop hy.1 (by rw[fD];omega)
 ·exact k1
end
end Go.Tr
namespace Go.Tr
open Go Go.RowKit
def Uj(xs:List NAgent)(i:Nat):Bool:=
 bif (elt (dflt uPort) (ah xs (i:Nat)).2.2.2.2 0).2==0 then decide ((i:Int)<(elt (dflt uPort) (ah xs (i:Nat)).2.2.2.2 0).1)else false
def LM(xs:List NAgent)(i:Nat):Bool:=bif Uj xs i then(ah xs (i:Nat)).1 !=1 else false
def Ml(xs:List NAgent)(i:Nat):Int×Int:=((i:Int),(elt (dflt uPort) (ah xs (i:Nat)).2.2.2.2 0).1)
def lV(c:Nat→Bool)(xs:List NAgent)(k:Nat):List (Int×Int):=((List.range k).filter c).map (Ml xs)
theorem zq{c:Nat→Bool}{xs:List NAgent}{k:Nat}(h:c k=true):lV c xs (k+1)=lV c xs k++[Ml xs k]:=by
 unfold lV;rw[List.range_succ,List.filter_append,List.map_append];simp[h]
theorem sI{c:Nat→Bool}{xs:List NAgent}{k:Nat}(h:c k=false):lV c xs (k+1)=lV c xs k:=by
 unfold lV;rw[List.range_succ,List.filter_append];simp[h]
theorem Fw(c:Nat→Bool)(xs:List NAgent)(k:Nat):(lV c xs k).length≤k:=by
 unfold lV;rw[List.length_map];exact Nat.le_trans (List.length_filter_le _ _) (by simp)
def IK(xs:List NAgent):Prop:=∀i:Nat,i<xs.length→0<(ah xs (i:Nat)).2.2.2.2.length
def kU(kv:List (Int×Bool))(p:Int×Int):Bool:=bM false kv p.1
def y7(xs:List NAgent)(kv:List (Int×Bool)):List (Int×Int):=(lV (LM xs) xs xs.length).filter fun p=> !(kU kv p)
theorem filter_all{α:Type}{g:α→Bool}{l:List α}(h:∀x∈l,g x=false):l.filter (fun p=> !(g p))=l:=List.filter_eq_self.2 fun x hx=>by rw[h x hx];rfl
theorem K3{α:Type}{g:α→Bool}:∀(l:List α) (k:Int),0≤k→Ao g l k= -1→∀x∈l,g x=false
 |[],_,_,_,x,hx=>by cases hx
 |a::l,k,hk,h,x,hx=>by
  unfold Ao at h;cases ha:g a with
  |true=>rw[ha,cond_true]at h;omega
  |false=>
   rw[ha,cond_false]at h;rcases List.mem_cons.1 hx with rfl|hx
   ·exact ha
   ·exact K3 l (k+1) (by omega) h x hx
theorem K4{α:Type}[Inhabited α]{g:α→Bool}(d:α):∀(l:List α) (k:Int),Ao g l k≠ -1→∃m:Nat,Ao g l k=k+(m:Nat)∧m<l.length∧(∀x∈l.take m,g x=false)∧g (l.getD m d)=true
 |[],_,h=>absurd rfl h
 |a::l,k,h=>by
  unfold Ao at h ⊢;cases ha:g a with
  |true=>
   rw[cond_true];exact⟨0,by omega,by simp,by simp,ha⟩
  |false=>
   rw[ha,cond_false]at h;rw[cond_false];obtain⟨m,e1,e2,e3,e4⟩:=K4 d l (k+1) h;refine⟨m+1,by rw[e1];omega,by rw[List.length_cons];omega,fun x hx=> ?_,e4⟩;rw[List.take_succ_cons]at hx;rcases List.mem_cons.1 hx with rfl|hx
   ·exact ha
   ·exact e3 x hx
theorem RP{α:Type}{g:α→Bool}{x:α}(h:g x=false):[x].filter (fun p=> !(g p))=[x]:=by simp[h]
theorem Jj{α:Type}{g:α→Bool}{x:α}(h:g x=true):[x].filter (fun p=> !(g p))=[]:=by simp[h]
theorem Uz{α:Type}{l:List α}{i:Nat}{a:α}(h:i<l.length):(l.set i a).take (i+1)=l.take i++[a]:=by
 rw[List.take_add_one,List.take_set_of_le (Nat.le_refl i),List.getElem?_set_self h];rfl
def schS(sch:List Int)(k:Int):Int:=bif decide (0<((sch.length:Nat):Int))then elt 0 sch (k.tmod ((sch.length:Nat):Int))else 0
def Ny(sch:List Int)(n k:Int):Int:=(schS sch k).tmod n
def tQ(sch:List Int)(ps:List (Int×Int))(k:Int):Int×Int:=elt (dflt uPort) ps (Ny sch ((ps.length:Nat):Int) k)
theorem Uw{sch:List Int}(h:∀z∈sch,0≤z)(k:Int):0≤schS sch k:=by
 unfold schS;cases decide (0<((sch.length:Nat):Int))with
 |false=>exact Int.le_refl 0
 |true=>
  rw[cond_true];unfold elt;rw[List.getD_eq_getElem?_getD];cases hg:sch[(k.tmod ((sch.length:Nat):Int)).toNat]? with
  |none=>exact Int.le_refl 0
  |some z=>exact h z (List.mem_of_getElem? hg)
theorem tmodU{a n:Int}(h0:0≤a)(hn:0<n):0≤a.tmod n∧a.tmod n<n:=by
 rw[Int.tmod_eq_emod_of_nonneg h0];exact⟨Int.emod_nonneg _ (by omega),Int.emod_lt_of_pos _ hn⟩
theorem selI_in{sch:List Int}(h:∀z∈sch,0≤z){n:Int}(hn:0<n)(k:Int):0≤Ny sch n k∧Ny sch n k<n:=tmodU (Uw h k) hn
def VZ(m n:Int):Bool:=bif decide (n<0)then true else decide (m<n)
def yM(xs:List NAgent)(i:Nat):Bool:=bif decide (1≤i)then(bif cK xs i then Uj xs i else false)else false
def prsN(xs:List NAgent):List (Int×Int):=lV (yM xs) xs xs.length
theorem VK{ys:List NAgent}{i:Nat}(h:((ah ys (i:Nat)).1==0)=true):cK ys i=false:=by unfold cK bne;rw[h];rfl
theorem VL{ys:List NAgent}{i:Nat}(h:((ah ys (i:Nat)).1==0)=false):cK ys i=true:=by unfold cK bne;rw[h];rfl
section
variable {kv:List (Int×Bool)}{xs ys:List NAgent}
theorem ED{k:Int}(h:bM false kv k=false):¬Gone kv k:=fun e=>by
 have e':bM false kv k=true:=e;rw[h]at e';cases e'
theorem Twin.NT(T:Twin kv xs ys):∀k:Nat,k≤xs.length→(lV (LM xs) xs k).filter (fun p=> !(kU kv p))=lV (yM ys) ys k
 |0,_=>rfl
 |k+1,hk=>by
  have ih:=T.NT k (by omega);have hl:=T.len;cases hg:bM false kv ((k:Nat):Int)with
  |true=>
   have hv:yM ys k=false:=by
    unfold yM;rw[T.cK (by omega),hg];cases decide (1≤k)<;>rfl
   rw[sI hv,←ih];cases hc:LM xs k with
   |false=>rw[sI hc]
   |true=>rw[zq hc,List.filter_append,Jj (g:=kU kv) (x:=Ml xs k) hg,List.append_nil]
  |false=>
   have hd:=ED hg;have e:=T.at_ (i:=((k:Nat):Int)) (by omega) (by omega) hd;have hA:Ml ys k=Ml xs k:=by unfold Ml;rw[e]
   have hD:Uj ys k=Uj xs k:=by unfold Uj;rw[e]
   have hr:((ah xs (k:Nat)).1 !=1)=decide (1≤k):=by
    by_cases h0:k=0
    ·subst h0;have:=T.r1;rw[show(((0:Nat):Int))=0 from rfl,this];rfl
    ·have:=T.uq (k:Nat) (by omega) (by omega) hd;rw[decide_eq_true (show 1≤k by omega)];simpa using this
   have hc:yM ys k=LM xs k:=by
    unfold yM LM;rw[T.cK (by omega),hg,hD,hr];cases decide (1≤k)<;>cases Uj xs k<;>rfl
   cases hq:LM xs k with
   |false=>rw[sI hq,sI (by rw[hc];exact hq),ih]
   |true=>rw[zq hq,zq (by rw[hc];exact hq),List.filter_append,ih,RP (g:=kU kv) (x:=Ml xs k) hg,hA]
theorem Twin.acts(T:Twin kv xs ys):y7 xs kv=prsN ys:=by
 unfold y7 prsN;rw[T.NT _ (Nat.le_refl _),T.len]
theorem V7{p:Int×Int}(h:p∈prsN ys):∃i:Nat,i<ys.length∧yM ys i=true∧p=Ml ys i:=by
 unfold prsN lV at h;obtain⟨i,hi,rfl⟩:=List.mem_map.1 h;rw[List.mem_filter,List.mem_range]at hi;exact⟨i,hi.1,hi.2,rfl⟩
theorem Twin.Fy(T:Twin kv xs ys){p:Int×Int}(h:p∈prsN ys):nI (Gone kv) xs p.1 p.2∧(ah xs p.1).1≠1∧(ah xs p.2).1≠1∧p.1<p.2:=by
 obtain⟨i,hi,hp,rfl⟩:=V7 h;have hl:=T.len;unfold yM at hp;cases h1:decide (1≤i)with
 |false=>rw[h1]at hp;cases hp
 |true=>
 cases h2:Tr.cK ys i with
 |false=>rw[h1,h2]at hp;cases hp
 |true=>
 have h1':1≤i:=by simpa using h1
 rw[h1,h2]at hp;simp only[cond_true]at hp
 have hg:bM false kv ((i:Nat):Int)=false:=by
  rw[T.cK (by omega)]at h2;simpa using h2
 have hd:=ED hg;have e:=T.at_ (i:=((i:Nat):Int)) (by omega) (by omega) hd;have w1:=(gu (T.wf (i:Nat) (by omega) (by omega) hd)).1;unfold Uj at hp;rw[e]at hp;have hA:Ml ys i=((i:Int),(elt (dflt uPort) (ah xs (i:Nat)).2.2.2.2 0).1):=by unfold Ml;rw[e]
 rw[hA];have hin:Live (Gone kv) xs ((i:Int),0):=⟨⟨by show(0:Int)≤(i:Nat);omega,by show((i:Nat):Int)<(xs.length:Nat);omega,Int.le_refl 0,by show(0:Int)<((ah xs (i:Nat)).2.2.2.2.length:Nat);omega⟩,hd⟩;obtain⟨_,⟨q1,q2⟩,_⟩:=T.st.wi _ hin;have hpe:aF xs ((i:Int),0)=elt (dflt uPort) (ah xs (i:Nat)).2.2.2.2 0:=rfl;rw[hpe]at q1 q2;cases h3:(elt (dflt uPort) (ah xs (i:Nat)).2.2.2.2 0).2==0 with
 |false=>rw[h3]at hp;cases hp
 |true=>
  rw[h3]at hp;simp only[cond_true,decide_eq_true_eq]at hp;have hq2:(elt (dflt uPort) (ah xs (i:Nat)).2.2.2.2 0).2=0:=by simpa using h3
  have hq:elt (dflt uPort) (ah xs (i:Nat)).2.2.2.2 0=((elt (dflt uPort) (ah xs (i:Nat)).2.2.2.2 0).1,0):=Prod.ext rfl hq2;have q3:=q1.2.1;refine⟨⟨by show((i:Nat):Int)≠(elt (dflt uPort) (ah xs (i:Nat)).2.2.2.2 0).1;omega,hd,q2,hin.1,?_,?_⟩,T.uq _ (by omega) (by omega) hd,T.uq _ ?_ q3 q2,hp⟩
  ·rw[hq]at q1;exact q1
  ·rw[hpe];exact hq
  ·show(0:Int)<(elt (dflt uPort) (ah xs (i:Nat)).2.2.2.2 0).1;omega
theorem Fx{k:Int}(h0:0≤k)(h1:k<((prsN ys).length:Nat)):elt (dflt uPort) (prsN ys) k∈prsN ys:=by
 have h2:k.toNat<(prsN ys).length:=by omega
 have e:elt (dflt uPort) (prsN ys) k=(prsN ys)[k.toNat]:=by
  unfold elt;rw[List.getD_eq_getElem?_getD,List.getElem?_eq_getElem h2];rfl
 rw[e];exact List.getElem_mem h2
theorem Twin.pos(T:Twin kv xs ys):0<ys.length:=by rw[←T.len];exact T.rl
theorem Twin.Ui(T:Twin kv xs ys)(i:Nat)(hi:i<ys.length)(h:Tr.cK ys i=true):0<(ah ys (i:Nat)).2.2.2.2.length:=by
 have hl:=T.len;rw[T.cK (by omega)]at h;have hd:¬Gone kv ((i:Nat):Int):=ED (by simpa using h);rw[T.at_ (by omega) (by omega) hd];exact(gu (T.wf (i:Nat) (by omega) (by omega) hd)).1
theorem QN(w:IV (fun _=>False) xs):IK xs:=fun i hi=>(gu (w (i:Nat) (by omega) (by omega) id)).1
end
end Go.Tr
namespace Go.Tr
open Go Go.RowKit
theorem GQ(ys:List NAgent){a:Nat}:∀m:Nat,gy ys a≤gy ys (a+m)
 |0=>Nat.le_refl _
 |m+1=>by
  have ih:=GQ ys (a:=a) m;show _≤bif cK ys (a+m)then gy ys (a+m)+1 else gy ys (a+m)
  cases cK ys (a+m)<;>simp only[cond_true,cond_false]<;>omega
theorem YB{F G:Int→Int}{a:NAgent}(h:∀p∈a.2.2.2.2,F (G p.1)=p.1):sJ F (sJ G a)=a:=by
 obtain⟨k,l,v,d,ps⟩:=a;unfold sJ;show(k,l,v,d,(ps.map (nH G)).map (nH F))=_;rw[List.map_map]
 have e:ps.map (nH F∘nH G)=ps:=by
  conv=>rhs;rw[←List.map_id ps]
  exact List.map_congr_left fun p hp=>Prod.ext (h p hp) rfl
 rw[e]
theorem getD_at(xs:List NAgent){i:Nat}{a:NAgent}(h:xs[i]? =some a):ah xs (i:Nat)=a:=by
 unfold ah elt;rw[Int.toNat_natCast,List.getD_eq_getElem?_getD,h];rfl
def WR(kv:List (Int×Bool))(Y:List NAgent)(i:Nat):Nat:=bif decide (i<gy Y Y.length)then(elt 0 (fq kv Y.length) (i:Nat)).toNat else Y.length+(i-gy Y Y.length)
def Full(P:List NAgent):Prop:=∀i:Nat,i<P.length→cK P i=true
section
variable {kv kv2:List (Int×Bool)}{f:Nat→Nat}{xs xs2 P Y Y2:List NAgent}
theorem Twin.wired(h:Twin kv xs Y){x:Nat}(hx:x<Y.length)(hg:bM false kv ((x:Nat):Int)=false):∀p∈(ah Y (x:Nat)).2.2.2.2,0≤p.1∧p.1<(Y.length:Nat)∧bM false kv p.1=false:=fun p hp=>by
 have hl:=h.len
 have hd:¬Gone kv ((x:Nat):Int):=fun e=>by
  have e':bM false kv ((x:Nat):Int)=true:=e;rw[hg]at e';cases e'
 rw[h.at_ (by omega) (by omega) hd]at hp;obtain⟨i,hi,rfl⟩:=List.mem_iff_getElem.1 hp;have hw:=h.st.wi (((x:Nat):Int),((i:Nat):Int)) ⟨⟨by show(0:Int)≤(x:Nat);omega,by show((x:Nat):Int)<(xs.length:Nat);omega,by show(0:Int)≤(i:Nat);omega,by show((i:Nat):Int)<((ah xs (x:Nat)).2.2.2.2.length:Nat);omega⟩,hd⟩
 have hpe:aF xs (((x:Nat):Int),((i:Nat):Int))=(ah xs (x:Nat)).2.2.2.2[i]:=by
  unfold aF elt;rw[Int.toNat_natCast,List.getD_eq_getElem?_getD,List.getElem?_eq_getElem hi];rfl
 rw[hpe]at hw;obtain⟨_,⟨q1,q2⟩,_⟩:=hw;refine⟨q1.1,by rw[←hl];exact q1.2.1,?_⟩;cases hq:bM false kv ((ah xs (x:Nat)).2.2.2.2[i]).1 with
 |true=>exact absurd hq q2
 |false=>rfl
theorem Twin.en(h:Twin kv xs Y):Ren (WR kv Y) (packN Y) Y∧Full (packN Y):=by
 have hl:=h.len;obtain⟨k1,k2,k3⟩:=h.ord xs.length (Nat.le_refl _);rw[hl]at k1 k2 k3;have pk:packN Y=(fq kv Y.length).map fun k=>sJ (kY Y) (ah Y k):=h.dZ Y.length (by omega)
 have pl:(packN Y).length=gy Y Y.length:=by rw[pk,List.length_map,k1]
 have fA:∀i,i<gy Y Y.length→∃x:Nat,x<Y.length∧WR kv Y i=x∧gy Y x=i∧bM false kv ((x:Nat):Int)=false∧ah (packN Y) (i:Nat)=sJ (kY Y) (ah Y (x:Nat)):=fun i hi=>by
  obtain⟨x,a1,a2,a3,a4⟩:=k2 i (by omega);refine⟨x,a1,?_,a3,a4,?_⟩
  ·unfold WR elt;rw[decide_eq_true hi,cond_true,Int.toNat_natCast,List.getD_eq_getElem?_getD,a2];rfl
  ·refine getD_at _ ?_;rw[pk,List.getElem?_map,a2];rfl
 have fB:∀i,¬i<gy Y Y.length→WR kv Y i=Y.length+(i-gy Y Y.length):=fun i hi=>by
  unfold WR;rw[decide_eq_false hi,cond_false]
 have fC:∀x:Nat,x<Y.length→bM false kv ((x:Nat):Int)=false→gy Y x<gy Y Y.length∧WR kv Y (gy Y x)=x:=fun x hx hg=>by
  have a:=k3 x hx hg;have b:=(List.getElem?_eq_some_iff.1 a).1;have hlt:gy Y x<gy Y Y.length:=by omega
  refine⟨hlt,?_⟩;unfold WR elt;rw[decide_eq_true hlt,cond_true,Int.toNat_natCast,List.getD_eq_getElem?_getD,a];rfl
 have g0:bM false kv ((0:Nat):Int)=false:=by
  cases hq:bM false kv ((0:Nat):Int)with
  |true=>exact absurd hq h.r0
  |false=>rfl
 refine⟨⟨fun i j hij=> ?_,?_,fun j=> ?_,fun i hi=> ?_,fun k hk hn=> ?_⟩,fun i hi=> ?_⟩
 ·by_cases hj:j<gy Y Y.length
  ·obtain⟨x,a1,a2,a3,_⟩:=fA i (by omega);obtain⟨x2,b1,b2,b3,_⟩:=fA j hj;rw[a2,b2];rcases Nat.lt_or_ge x x2 with e|e
   ·exact e
   ·have:=GQ Y (a:=x2) (x-x2);rw[show x2+(x-x2)=x by omega]at this;omega
  ·rw[fB j hj]
   by_cases hi:i<gy Y Y.length
   ·obtain⟨x,a1,a2,a3,_⟩:=fA i hi;omega
   ·rw[fB i hi];omega
 ·exact(fC 0 (by have:=h.rl;omega) g0).2
 ·rw[pl,fB _ (by omega)];omega
 ·rw[pl]at hi;obtain⟨x,a1,a2,a3,a4,a5⟩:=fA i hi;rw[a2,a5];refine(YB fun p hp=> ?_).symm;obtain⟨p0,p1,p2⟩:=h.wired a1 a4 p hp;have c:=(fC p.1.toNat (by omega) (by rw[show((p.1.toNat:Nat):Int)=p.1 by omega];exact p2)).2;unfold kY;rw[tN,c];omega
 ·cases hg:bM false kv ((k:Nat):Int)with
  |true=>exact(h.hole _ hg).2
  |false=>exact absurd (fC k hk hg).2 (hn _)
 ·rw[pl]at hi;obtain⟨x,a1,a2,a3,a4,a5⟩:=fA i hi;have e:=h.cK (k:=x) (by omega);rw[a4]at e;unfold Tr.cK at e ⊢;rw[a5];exact e
theorem Ren.gap(h:Ren f P Y){α:Type}(F:Nat→α)(hF:∀k:Nat,k<Y.length→ah Y (k:Nat)=CP→F (k+1)=F k){i:Nat}(hi:i<P.length):F (f (i+1))=F (f i+1):=by
 have h1:=h.mono i (i+1) (Nat.lt_succ_self i)
 have h2:f (i+1)≤Y.length:=by
  rw[←h.len];rcases Nat.lt_or_ge (i+1) P.length with e|e
  ·exact Nat.le_of_lt (h.mono _ _ e)
  ·rw[show i+1=P.length by omega];exact Nat.le_refl _
 have k:∀m:Nat,f i+1+m≤f (i+1)→F (f i+1+m)=F (f i+1):=fun m=>by
  induction m with
  |zero=>intro _;rfl
  |succ m ih=>
   intro hm
   have e:=hF (f i+1+m) (by omega) (h.hole _ (by omega) fun j hj=>by
    have a1:i<j:=h.lt.1 (by omega);have a2:j<i+1:=h.lt.1 (by omega);omega)
   rw[←ih (by omega),←e];rfl
 have:=k (f (i+1)-(f i+1)) (by omega)
 rwa[show f i+1+(f (i+1)-(f i+1))=f (i+1) by omega]at this
theorem Ren.live(h:Ren f P Y){i:Nat}(hi:i<P.length):cK Y (f i)=cK P i:=by
 unfold Tr.cK;rw[h.at_ i hi];rfl
theorem BD{ys:List NAgent}{k:Nat}(h:ah ys (k:Nat)=CP):cK ys k=false:=by unfold cK;rw[h];rfl
theorem Ren.cnt(h:Ren f P Y):∀i:Nat,i≤P.length→gy Y (f i)=gy P i
 |0,_=>by rw[h.zero];rfl
 |i+1,hi=>by
  rw[h.gap (gy Y) (fun k _ e=>by show(bif cK Y k then _ else _)=_;rw[BD e];rfl) (by omega)];show(bif cK Y (f i)then gy Y (f i)+1 else gy Y (f i))=bif cK P i then gy P i+1 else gy P i
  rw[h.live (by omega),h.cnt i (by omega)]
theorem Ren.dZ(h:Ren f P Y)(hA:bG P):∀i:Nat,i≤P.length→dZ Y (f i)=dZ P i
 |0,_=>by rw[h.zero];rfl
 |i+1,hi=>by
  rw[h.gap (Tr.dZ Y) (fun k _ e=>by show(bif cK Y k then _ else _)=_;rw[BD e];rfl) (by omega)];show(bif cK Y (f i)then Tr.dZ Y (f i)++[sJ (kY Y) (ah Y (f i:Nat))]else Tr.dZ Y (f i))=bif cK P i then Tr.dZ P i++[sJ (kY P) (ah P (i:Nat))]else Tr.dZ P i
  have e:sJ (kY Y) (ah Y (f i:Nat))=sJ (kY P) (ah P (i:Nat)):=by
   rw[h.at_ i (by omega)];unfold sJ;simp only[List.map_map]
   congr 4
   refine List.map_congr_left fun p hp=> ?_
   obtain⟨s,hs,rfl⟩:=List.mem_iff_getElem.1 hp;have hw:=hA (((i:Nat):Int),((s:Nat):Int)) ⟨by show(0:Int)≤(i:Nat);omega,by show((i:Nat):Int)<(P.length:Nat);omega,by show(0:Int)≤(s:Nat);omega,by show((s:Nat):Int)<((ah P (i:Nat)).2.2.2.2.length:Nat);omega⟩
   have hpe:aF P (((i:Nat):Int),((s:Nat):Int))=(ah P (i:Nat)).2.2.2.2[s]:=by
    unfold aF elt;rw[Int.toNat_natCast,List.getD_eq_getElem?_getD,List.getElem?_eq_getElem hs];rfl
   rw[hpe]at hw;obtain⟨w1,w2,_,_⟩:=hw;generalize (ah P (i:Nat)).2.2.2.2[s]=p at*;refine Prod.ext ?_ rfl;show kY Y (fI f p.1)=kY P p.1;unfold kY;rw[kP w1,Int.toNat_natCast,h.cnt _ (by omega)]
  rw[h.live (by omega),h.dZ hA i (by omega),e]
theorem Ren.pack(h:Ren f P Y)(hA:bG P):packN Y=packN P:=by
 unfold packN;rw[←h.len];exact h.dZ hA _ (Nat.le_refl _)
theorem su(ys:List NAgent):∀k:Nat,bU ys k=gy ys k
 |0=>rfl
 |k+1=>by
  have e:bU ys (k+1)=bif cK ys k then bU ys k+1 else bU ys k:=rfl
  rw[e,su ys k];rfl
theorem Ren.bU(h:Ren f P Y):Tr.bU Y Y.length=Tr.bU P P.length:=by
 rw[su,su,←h.len];exact h.cnt _ (Nat.le_refl _)
theorem Ren.full(h:Ren f P Y)(hf:Full P):Tr.bU Y Y.length=P.length:=by
 rw[h.bU,su]
 have k:∀n:Nat,n≤P.length→gy P n=n:=fun n=>by
  induction n with
  |zero=>intro _;rfl
  |succ n ih=>
   intro hn;show(bif cK P n then gy P n+1 else gy P n)=n+1;rw[hf n (by omega),ih (by omega)];rfl
 exact k _ (Nat.le_refl _)
theorem Ren.Fx(h:Ren f P Y)(hA:bG P){i:Nat}(hi:i<P.length)(hp:cK P i=true→0<(ah P (i:Nat)).2.2.2.2.length):yM Y (f i)=yM P i∧(yM P i=true→Ml Y (f i)=(fI f (Ml P i).1,fI f (Ml P i).2)):=by
 have hl:=h.live hi
 have h1:decide (1≤f i)=decide (1≤i):=by
  rw[decide_eq_decide];have:=h.lt (i:=0) (j:=i);rw[h.zero]at this;omega
 have e:=h.at_ i hi;cases hv:cK P i with
 |false=>
  have k:yM P i=false:=by unfold yM;rw[hv];cases decide (1≤i)<;>rfl
  rw[k];refine⟨?_,fun e=>by cases e⟩;unfold yM;rw[hl,hv];cases decide (1≤f i)<;>rfl
 |true=>
  have pin:ak P (((i:Nat):Int),0):=⟨by show(0:Int)≤(i:Nat);omega,by show((i:Nat):Int)<(P.length:Nat);omega,Int.le_refl 0,by show(0:Int)<((ah P (i:Nat)).2.2.2.2.length:Nat);have:=hp hv;omega⟩;have hpe:=h.peer pin;have hq:=hA _ pin
  have eY:elt (dflt uPort) (ah Y ((f i:Nat):Int)).2.2.2.2 0=nH (fI f) (elt (dflt uPort) (ah P (i:Nat)).2.2.2.2 0):=by
   have k:aF Y (((f i:Nat):Int),0)=nH (fI f) (aF P (((i:Nat):Int),0)):=by
    have:nH (fI f) (((i:Nat):Int),0)=(((f i:Nat):Int),0):=by unfold nH;rw[tN]
    rw[this]at hpe;exact hpe
   exact k
  have hq0:0≤(elt (dflt uPort) (ah P (i:Nat)).2.2.2.2 0).1:=hq.1
  have hd:Uj Y (f i)=Uj P i:=by
   unfold Uj;rw[eY];generalize elt (dflt uPort) (ah P (i:Nat)).2.2.2.2 0=q at*;show(bif q.2==0 then decide (((f i:Nat):Int)<fI f q.1)else false)=_
   have:decide (((f i:Nat):Int)<fI f q.1)=decide (((i:Nat):Int)<q.1):=by
    rw[decide_eq_decide,kP hq0];have:=h.lt (i:=i) (j:=q.1.toNat);omega
   rw[this]
  refine⟨?_,fun _=> ?_⟩
  ·unfold yM;rw[hl,hd,h1]
  ·unfold Ml;rw[eY];show(((f i:Nat):Int),fI f _)=(fI f ((i:Nat):Int),fI f _);rw[tN]
theorem Ren.lV(h:Ren f P Y)(hA:bG P)(hp:∀i:Nat,i<P.length→cK P i=true→0<(ah P (i:Nat)).2.2.2.2.length):∀i:Nat,i≤P.length→lV (yM Y) Y (f i)=(lV (yM P) P i).map fun p=>(fI f p.1,fI f p.2)
 |0,_=>by rw[h.zero];rfl
 |i+1,hi=>by
  rw[h.gap (Tr.lV (yM Y) Y) (fun k _ e=>sI (by unfold yM;rw[BD e];cases decide (1≤k)<;>rfl)) (by omega)];obtain⟨k1,k2⟩:=h.Fx hA (i:=i) (by omega) (hp i (by omega));cases hc:yM P i with
  |false=>rw[sI hc,sI (by rw[k1];exact hc),h.lV hA hp i (by omega)]
  |true=>rw[zq hc,zq (by rw[k1];exact hc),h.lV hA hp i (by omega),List.map_append,k2 hc];rfl
theorem Ren.prs(h:Ren f P Y)(hA:bG P)(hp:∀i:Nat,i<P.length→cK P i=true→0<(ah P (i:Nat)).2.2.2.2.length):prsN Y=(prsN P).map fun p=>(fI f p.1,fI f p.2):=by
 unfold prsN;rw[←h.len];exact h.lV hA hp _ (Nat.le_refl _)
theorem Full.twin(T:Twin kv xs Y)(h:Ren f P Y)(hf:Full P):Twin [] P P:=by
 have hl:=T.len;have hA:=h.allP T.I6
 have nd:∀i:Int,¬Gone [] i:=fun i e=>by
  have e':bM false ([]:List (Int×Bool)) i=true:=e;cases e'
 have wh:∀i:Int,0≤i→i<(P.length:Nat)→(0≤fI f i∧fI f i<(xs.length:Nat))∧¬Gone kv (fI f i)∧ah xs (fI f i)=sJ (fI f) (ah P i):=fun i h0 h1=>by
  have k:=h.WW.2 ⟨h0,h1⟩;rw[←hl]at k;have e:=h.GI h0 h1
  have hd:¬Gone kv (fI f i):=fun g=>by
   have h2:=(T.hole _ g).2;have h3:=hf i.toNat (by omega);unfold cK at h3;rw[show((i.toNat:Nat):Int)=i by omega]at h3;rw[e]at h2;have h4:(ah P i).1=0:=congrArg (fun a:NAgent=>a.1) h2;rw[h4]at h3;cases h3
  exact⟨k,hd,by rw[←T.at_ k.1 k.2 hd];exact e⟩
 have sg:∀i:Int,0≤i→i<(P.length:Nat)→Wf (ah P i):=fun i h0 h1=>by
  obtain⟨k,hd,e⟩:=wh i h0 h1;have w:=T.wf _ k.1 k.2 hd;rw[e]at w;refine(Ka ?_).1 w;unfold sig;rw[nk];rfl
 have rl:0<P.length:=by
  have:=T.rl;have h2:=h.X6 (i:=0);rw[h.zero]at h2;exact h2.1 (by omega)
 have kd:∀i:Int,0≤i→i<(P.length:Nat)→(ah xs (fI f i)).1=(ah P i).1:=fun i h0 h1=>by rw[(wh i h0 h1).2.2];rfl
 have f0:fI f 0=0:=by
  rw[kP (Int.le_refl 0)];show((f 0:Nat):Int)=0;rw[h.zero];rfl
 refine⟨⟨⟨rfl,fun _ _ _ _=>rfl⟩,fun p hp=> ?_,fun p hp=>hp.2⟩,fun i h0 h1 _=>sg i h0 h1,fun i e=>absurd e (nd i),fun i e=>absurd e (nd i),?_,nd 0,rl,fun i h0 h1 _=> ?_,fun e he=>absurd he (by simp),?_,hA⟩
 ·have hpin:ak P p:=hp.1
  have lp:∀{q:aJ},ak P q→Live (Gone kv) xs (nH (fI f) q)∧aF xs (nH (fI f) q)=nH (fI f) (aF P q):=fun {q} hq=>by
   obtain⟨k,hd,e⟩:=wh q.1 hq.1 hq.2.1;have hy:=h.pin.2 hq
   have hx:ak xs (nH (fI f) q):=by
    obtain⟨a1,a2,a3,a4⟩:=hy;refine⟨a1,by rw[hl];exact a2,a3,?_⟩;have a5:q.2<((ah Y (fI f q.1)).2.2.2.2.length:Nat):=a4;rw[T.at_ k.1 k.2 hd]at a5;exact a5
   refine⟨⟨hx,hd⟩,?_⟩;rw[←h.peer hq];exact((T.st.ag.port hx hd).2).symm
  obtain⟨l1,e1⟩:=lp hpin;obtain⟨w1,w2,w3,w4⟩:=T.st.wi _ l1;have hq:=hA p hpin;obtain⟨l2,e2⟩:=lp hq;rw[e1,e2]at w3;rw[e1]at w4;refine⟨hpin,⟨hq,nd _⟩,?_,fun e=>w4 (by rw[e])⟩;have k1:=congrArg (fun q:aJ=>q.1) w3;have k2:=congrArg (fun q:aJ=>q.2) w3;exact Prod.ext (h.Zu.1 k1) k2
 ·have:=kd 0 (Int.le_refl 0) (by omega);rw[f0,T.r1]at this;exact this.symm
 ·obtain⟨k,hd,e⟩:=wh i (by omega) h1
  have hpos:0<fI f i:=by
   rw[kP (by omega)];have:=h.lt (i:=0) (j:=i.toNat);rw[h.zero]at this;omega
  have:=T.uq _ hpos k.2 hd;rw[kd i (by omega) h1]at this;exact this
 ·have:∀n:Nat,mM ([]:List (Int×Bool)) n=0:=fun n=>by
   induction n with
   |zero=>rfl
   |succ n ih=>show(bif bM false ([]:List (Int×Bool)) ((n:Nat):Int)then _ else mM [] n)=0;exact ih
  rw[this];rfl
theorem Full.pack(hf:Full P)(hA:bG P):packN P=P:=by
 have cn:∀n:Nat,n≤P.length→gy P n=n:=fun n=>by
  induction n with
  |zero=>intro _;rfl
  |succ n ih=>
   intro hn;show(bif cK P n then gy P n+1 else gy P n)=n+1;rw[hf n (by omega),ih (by omega)];rfl
 have k:∀n:Nat,n≤P.length→dZ P n=P.take n:=fun n=>by
  induction n with
  |zero=>intro _;rw[List.take_zero];rfl
  |succ n ih=>
   intro hn;show(bif cK P n then dZ P n++[sJ (kY P) (ah P (n:Nat))]else dZ P n)=_;rw[hf n (by omega),ih (by omega),cond_true,List.take_add_one,List.getElem?_eq_getElem (by omega)];have ea:ah P (n:Nat)=P[n]:=getD_at P (List.getElem?_eq_getElem (by omega))
   have e:sJ (kY P) (ah P (n:Nat))=ah P (n:Nat):=by
    unfold sJ
    have:(ah P (n:Nat)).2.2.2.2.map (nH (kY P))=(ah P (n:Nat)).2.2.2.2:=by
     conv=>rhs;rw[←List.map_id (ah P (n:Nat)).2.2.2.2]
     refine List.map_congr_left fun p hp=>Prod.ext ?_ rfl
     obtain⟨s,hs,rfl⟩:=List.mem_iff_getElem.1 hp;have hw:=hA (((n:Nat):Int),((s:Nat):Int)) ⟨by show(0:Int)≤(n:Nat);omega,by show((n:Nat):Int)<(P.length:Nat);omega,by show(0:Int)≤(s:Nat);omega,by show((s:Nat):Int)<((ah P (n:Nat)).2.2.2.2.length:Nat);omega⟩
     have hpe:aF P (((n:Nat):Int),((s:Nat):Int))=(ah P (n:Nat)).2.2.2.2[s]:=by
      unfold aF elt;rw[Int.toNat_natCast,List.getD_eq_getElem?_getD,List.getElem?_eq_getElem hs];rfl
     rw[hpe]at hw;obtain⟨w1,w2,_,_⟩:=hw;show kY P ((ah P (n:Nat)).2.2.2.2[s]).1=((ah P (n:Nat)).2.2.2.2[s]).1;unfold kY;rw[cn _ (by omega)];omega
    rw[this]
   rw[e,ea];rfl
 unfold packN;rw[k _ (Nat.le_refl _),List.take_length]
end
end Go.Tr
namespace Go.Tr
open Go Go.RowKit
def Gx(bk:List (List NAgent))(ys:List NAgent)(a b:Int):Int:=
 if(iw bk (ah ys (firstS ys a b).1) (ah ys (firstS ys a b).2)).2≠0 then(iw bk (ah ys (firstS ys a b).1) (ah ys (firstS ys a b).2)).2
 else if 600<IntKind.i64.wrap ((bU ys ys.length:Nat)+(iw bk (ah ys (firstS ys a b).1) (ah ys (firstS ys a b).2)).1)then 4 else 0
def nxC(ys:List NAgent)(a b:Int):Int:=bP (ah ys (firstS ys a b).1) (ah ys (firstS ys a b).2)
def tu(bk:List (List NAgent))(ys:List NAgent)(a b:Int):List NAgent:=gG bk ys (nxC ys a b) (firstS ys a b).1 (firstS ys a b).2
structure Xy(bk:List (List NAgent))(ys:List NAgent)(a b:Int):Prop where
 sp:IQ ys (nxC ys a b) (firstS ys a b).1 (firstS ys a b).2
 hc:1≤nxC ys a b∧nxC ys a b≤7
 h7:nxC ys a b=7→0≤(ah ys (firstS ys a b).1).2.2.1∧(ah ys (firstS ys a b).1).2.2.1<(bk.length:Nat)
theorem KF(F:Int→Int)(u v:NAgent):bP (sJ F u) (sJ F v)=bP u v:=rfl
theorem LK(bk:List (List NAgent))(F:Int→Int)(c:Int)(u v:NAgent):sH bk c (sJ F u) (sJ F v)=sH bk c u v:=by
 unfold sH nT;rw[nk,nk];rfl
theorem VG(bk:List (List NAgent))(F:Int→Int)(u v:NAgent):iw bk (sJ F u) (sJ F v)=iw bk u v:=by
 unfold iw;rw[KF,LK,LK];rfl
def pF(f:Nat→Nat)(p:Int×Int):Int×Int:=(fI f p.1,fI f p.2)
section
variable {f g:Nat→Nat}{N P Y:List NAgent}{a b:Int}{bk:List (List NAgent)}
theorem Ren.refl(P:List NAgent):Ren (fun i=>i) P P:=by
 have e:∀z,fI (fun i=>i) z=z:=fun z=>by
  by_cases h:0≤z
  ·rw[kP h];omega
  ·rw[vD h]
 refine⟨fun _ _ h=>h,rfl,fun _=>rfl,fun i _=> ?_,fun k _ h=>absurd rfl (h k)⟩;have e2:nH (fI fun i=>i)=id:=funext fun p=>Prod.ext (e p.1) rfl
 unfold sJ;rw[e2,List.map_id]
theorem VA(z:Int):fI g (fI f z)=fI (fun i=>g (f i)) z:=by
 by_cases h:0≤z
 ·rw[kP h,tN,kP h]
 ·rw[vD h,vD h,vD h]
theorem Us(a:NAgent):sJ (fI g) (sJ (fI f) a)=sJ (fI fun i=>g (f i)) a:=by
 unfold sJ;simp only[List.map_map];have:(nH (fI g)∘nH (fI f))=nH (fI fun i=>g (f i)):=funext fun p=>Prod.ext (VA p.1) rfl
 rw[this]
theorem Ren.trans(h:Ren f N P)(k:Ren g P Y):Ren (fun i=>g (f i)) N Y:=by
 refine⟨fun i j e=>k.mono _ _ (h.mono _ _ e),by show g (f 0)=0;rw[h.zero,k.zero],fun j=>by show g (f (N.length+j))=_;rw[h.ends,k.ends],fun i hi=> ?_,fun m hm hn=> ?_⟩
 ·rw[k.at_ (f i) (h.X6.2 hi),h.at_ i hi,Us]
 ·by_cases e:∃j,g j=m
  ·obtain⟨j,rfl⟩:=e;have hj:=k.X6.1 hm;rw[k.at_ j hj,h.hole j hj fun i hi=>hn i (by show g (f i)=g j;rw[hi])];rfl
  ·exact k.hole m hm fun j hj=>e ⟨j,hj⟩
theorem Ren.first(h:Ren f N Y)(ha:0≤a∧a<(N.length:Nat))(hb:0≤b∧b<(N.length:Nat)):firstS Y (fI f a) (fI f b)=pF f (firstS N a b):=by
 unfold firstS;rw[h.GI ha.1 ha.2,h.GI hb.1 hb.2];show(bif bn (ah N a).1 (ah N a).2.1 (ah N b).1 (ah N b).2.1==2 then _ else _)=_;cases bn (ah N a).1 (ah N a).2.1 (ah N b).1 (ah N b).2.1==2<;>rfl
theorem Ren.Gx(h:Ren f N Y)(ha:0≤a∧a<(N.length:Nat))(hb:0≤b∧b<(N.length:Nat)):Tr.Gx bk Y (fI f a) (fI f b)=Tr.Gx bk N a b:=by
 have hf:=firstS_in (xs:=N) ha hb;unfold Tr.Gx;rw[h.first ha hb];show(if(iw bk (ah Y (fI f (firstS N a b).1)) (ah Y (fI f (firstS N a b).2))).2≠0 then(iw bk (ah Y (fI f (firstS N a b).1)) (ah Y (fI f (firstS N a b).2))).2 else if 600<IntKind.i64.wrap ((Tr.bU Y Y.length:Nat)+(iw bk (ah Y (fI f (firstS N a b).1)) (ah Y (fI f (firstS N a b).2))).1)then 4 else 0)=_;rw[h.GI hf.1.1 hf.1.2,h.GI hf.2.1 hf.2.2,VG,h.bU]
theorem Ren.nxC(h:Ren f N Y)(ha:0≤a∧a<(N.length:Nat))(hb:0≤b∧b<(N.length:Nat)):Tr.nxC Y (fI f a) (fI f b)=Tr.nxC N a b:=by
 have hf:=firstS_in (xs:=N) ha hb;unfold Tr.nxC;rw[h.first ha hb];show bP (ah Y (fI f (firstS N a b).1)) (ah Y (fI f (firstS N a b).2))=_;rw[h.GI hf.1.1 hf.1.2,h.GI hf.2.1 hf.2.2,KF]
def VU(ys:List NAgent)(a b:Int):Int:=(ah ys (firstS ys a b).1).2.2.1
theorem Ren.VU(h:Ren f N Y)(ha:0≤a∧a<(N.length:Nat))(hb:0≤b∧b<(N.length:Nat)):Tr.VU Y (fI f a) (fI f b)=Tr.VU N a b:=by
 have hf:=firstS_in (xs:=N) ha hb;unfold Tr.VU;rw[h.first ha hb];show(ah Y (fI f (firstS N a b).1)).2.2.1=_;rw[h.GI hf.1.1 hf.1.2];rfl
theorem Ren.tu(h:Ren f N Y)(ha:0≤a∧a<(N.length:Nat))(hb:0≤b∧b<(N.length:Nat))(hn:Xy bk N a b)(hA:bG N)(h0:ak N (0,0))(hw:BkW bk):Ren f (Tr.tu bk N a b) (Tr.tu bk Y (fI f a) (fI f b)):=by
 have k:=h.done hn.sp hA h0 hn.hc hw hn.h7;unfold Tr.tu;rw[h.nxC ha hb,h.first ha hb];exact k
theorem Ren.le(h:Ren f N Y):N.length≤Y.length:=by
 have k:∀i:Nat,i≤f i:=fun i=>by
  induction i with
  |zero=>exact Nat.zero_le _
  |succ i ih=>have:=h.mono i (i+1) (Nat.lt_succ_self i);omega
 rw[←h.len];exact k _
end
structure RS(kv:List (Int×Bool))(xs N P:List NAgent):Prop where
 tx:∃(Y:List NAgent) (f:Nat→Nat),Twin kv xs Y∧Ren f N Y
 wx:IV (fun _=>False) xs
 tn:∃(k:List (Int×Bool)) (z:List NAgent),Twin k z N
 tp:∃(k:List (Int×Bool)) (z:List NAgent) (g:Nat→Nat),Twin k z P∧Ren g N P
section
variable {kv:List (Int×Bool)}{xs N P:List NAgent}{bk:List (List NAgent)}
theorem Twin.V6{k:List (Int×Bool)}{z Y:List NAgent}{f:Nat→Nat}(T:Twin k z N)(h:Ren f N Y):prsN Y=(prsN N).map (pF f):=h.prs T.I6 T.Ui
theorem Ren.Oo{f:Nat→Nat}{l m:List (Int×Int)}(h:l=m.map (pF f)){k:Int}(h0:0≤k)(h1:k<(m.length:Nat)):elt (dflt uPort) l k=pF f (elt (dflt uPort) m k):=by
 have h2:k.toNat<m.length:=by omega
 rw[h];unfold elt;rw[List.getD_eq_getElem?_getD,List.getD_eq_getElem?_getD,List.getElem?_map,List.getElem?_eq_getElem h2];rfl
theorem Twin.TW{k:List (Int×Bool)}{z Y:List NAgent}(T:Twin k z Y):Twin [] (packN Y) (packN Y)∧Ren (WR k Y) (packN Y) Y:=⟨T.en.2.twin T T.en.1,T.en.1⟩
theorem Twin.wfF{z Y:List NAgent}(T:Twin [] z Y):IV (fun _=>False) z:=fun i h0 h1 _=>T.wf i h0 h1 fun e=>by
 have e':bM false ([]:List (Int×Bool)) i=true:=e;cases e'
theorem RS.ZH(h:RS kv xs N P):RS [] (packN N) (packN N) P∧∃Y,Twin kv xs Y∧packN Y=packN N:=by
 obtain⟨Y,f,TY,rf⟩:=h.tx;obtain⟨k,z,TN⟩:=h.tn;obtain⟨k2,z2,g,TP,rg⟩:=h.tp;have F:=TN.TW;exact⟨⟨⟨_,_,F.1,Ren.refl _⟩,F.1.wfF,⟨_,_,F.1⟩,⟨_,_,_,TP,F.2.trans rg⟩⟩,Y,TY,rf.pack TN.I6⟩
theorem RS.Xe(h:RS kv xs N P):RS kv xs (packN N) (packN N)∧packN P=packN N:=by
 obtain⟨Y,f,TY,rf⟩:=h.tx;obtain⟨k,z,TN⟩:=h.tn;obtain⟨k2,z2,g,TP,rg⟩:=h.tp;have F:=TN.TW;exact⟨⟨⟨Y,_,TY,F.2.trans rf⟩,h.wx,⟨_,_,F.1⟩,⟨_,_,_,F.1,Ren.refl _⟩⟩,rg.pack TN.I6⟩
theorem RS.start{xs:List NAgent}(T:Twin [] xs xs):RS [] xs xs xs:=⟨⟨_,_,T,Ren.refl _⟩,T.wfF,⟨_,_,T⟩,⟨_,_,_,T,Ren.refl _⟩⟩
end
theorem uD{p lo hi d:Int}(h0:lo≤p)(h1:p≤hi)(hb: -1000≤lo∧hi≤1000∧ -1000≤d∧d≤1000):(kD p lo hi d).1=p+d:=by
 unfold kD;rw[decide_eq_false (show ¬p<lo by omega),cond_false,decide_eq_false (show ¬hi<p by omega),cond_false];exact IntWalk.i64_in _ (by omega)
theorem Sc{bk:List (List NAgent)}{xs:List NAgent}{c x y:Int}(hc:1≤c∧c≤7)(py:1≤(ah xs y).2.2.2.2.length∧(ah xs y).2.2.2.2.length≤4)(px:1≤(ah xs x).2.2.2.2.length∧(ah xs x).2.2.2.2.length≤4)
  (k6:c=6→(ah xs x).1=6∨(ah xs x).1=9) (k7:c=7→2≤(bR bk (ah xs x).2.2.1).length∧(bR bk (ah xs x).2.2.1).length≤600):sW bk xs c x y+((gH c x y).length:Nat)=((uK bk xs c x y).length:Nat):=by
 have w1:∀n:Nat,1≤n→n≤4→IntKind.i64.wrap ((n:Nat)-1)=(n:Int)-1:=fun n h1 h2=>IntWalk.i64_in _ (by omega)
 have hcs:c=1∨c=2∨c=3∨c=4∨c=5∨c=6∨c=7:=by omega
 rcases hcs with rfl|rfl|rfl|rfl|rfl|rfl|rfl
 ·rfl
 ·rfl
 ·show(kD (IntKind.i64.wrap (((ah xs y).2.2.2.2.length:Nat)-1)) 0 3 0).1+2=(([nG xs y]++[nG xs y]++List.replicate ((ah xs y).2.2.2.2.length-1) (bD 4 (ah xs x).2.1 0 [] 3)).length:Nat);rw[w1 _ py.1 py.2,uD (by omega) (by omega) (by omega)];simp only[List.length_append,List.length_cons,List.length_nil,List.length_replicate];omega
 ·show(kD (IntKind.i64.wrap (((ah xs y).2.2.2.2.length:Nat)-1)) 0 3 (-2)).1+2=((List.replicate ((ah xs y).2.2.2.2.length-1) (bD 5 0 0 [] 1)).length:Nat);rw[w1 _ py.1 py.2,uD (by omega) (by omega) (by omega)];simp only[List.length_replicate];omega
 ·have e:(uK bk xs 5 x y).length=1:=by
   show(bif (ah xs y).1==7 then[bD 8 (ah xs y).2.1 (ah xs y).2.2.1 [(ah xs x).2.2.1] 2]else[bD 6 0 (xG (ah xs y).2.2.1 (jC (ah xs y).2.2.2.1 0) (ah xs x).2.2.1) [] 1]).length=1;cases (ah xs y).1==7<;>rfl
  rw[e];rfl
 ·show(kD (bif (ah xs x).1==9 then IntKind.i64.wrap (((ah xs x).2.2.2.2.length:Nat)-1)else 0) 0 3 (-1)).1+2=((bif (ah xs x).1==6 then[bD 12 (ah xs y).2.1 (jC (ah xs y).2.2.2.1 (bif (ah xs x).2.2.1==0 then 1 else 0)) [] 1]
   else[bD 12 (ah xs y).2.1 (jC (ah xs y).2.2.2.1 (ah xs x).2.2.1) [] 1]++List.replicate ((ah xs x).2.2.2.2.length-1) (bD 3 (ah xs y).2.1 0 [] 3)).length:Nat)
  rcases k6 rfl with e|e
  ·rw[e];rfl
  ·rw[e];show(kD (IntKind.i64.wrap (((ah xs x).2.2.2.2.length:Nat)-1)) 0 3 (-1)).1+2=(([bD 12 (ah xs y).2.1 (jC (ah xs y).2.2.2.1 (ah xs x).2.2.1) [] 1]++List.replicate ((ah xs x).2.2.2.2.length-1) (bD 3 (ah xs y).2.1 0 [] 3)).length:Nat);rw[w1 _ px.1 px.2,uD (by omega) (by omega) (by omega)];simp only[List.length_append,List.length_cons,List.length_nil,List.length_replicate];omega
 ·show(kD ((bR bk (ah xs x).2.2.1).length:Nat) 2 600 (-2)).1+1=((((nC bk xs x).drop 1).map (dA ((xs.length:Nat)-1))).length:Nat);have:=k7 rfl;have e:(nC bk xs x).length=(bR bk (ah xs x).2.2.1).length:=by unfold nC;unfold dh;exact List.length_map _
  rw[uD (by omega) (by omega) (by omega),List.length_map,List.length_drop,e];omega
theorem Wp{kv:List (Int×Bool)}(hT:∀e∈kv,e.2=true){c x y:Int}(hx:bM false kv x=false)(hy:bM false kv y=false)(hxy:x≠y):(mD kv (gH c x y)).length=kv.length+(gH c x y).length:=by
 unfold gH;cases c==7 with
 |true=>exact uF hT hx
 |false=>
  show(gL (gL kv x true) y true).length=kv.length+2;rw[uF (Jz hT x) (by rw[yw,if_neg hxy];exact hy),uF hT hx]
end Go.Tr
