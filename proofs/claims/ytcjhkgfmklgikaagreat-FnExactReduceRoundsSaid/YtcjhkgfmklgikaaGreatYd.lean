
/- A net without holes and a net with holes: a renaming of agents that interactions keep. No program in it. -/
import Derived.Test.YtcjhkgfmklgikaaGreatShort
import Derived.Test.YtcjhkgfmklgikaaGreatNy
set_option linter.unusedSimpArgs false
set_option linter.unusedVariables false
namespace Go.Tr
open Go Go.RowKit
def fI(f:Nat→Nat)(z:Int):Int:=bif decide (0≤z)then((f z.toNat:Nat):Int)else z
structure Ren(f:Nat→Nat)(P Y:List aj):Prop where
 mono:∀i j:Nat,i<j→f i<f j
 zero:f 0=0
 ends:∀j:Nat,f (P.length+j)=Y.length+j
 at_:∀i:Nat,i<P.length→ah Y ((f i:Nat):Int)=sG (fI f) (ah P (i:Nat))
 hole:∀k:Nat,k<Y.length→(∀i:Nat,f i≠k)→ah Y (k:Nat)=Ba
theorem kK(F:Int→Int)(a:aj):(sG F a).2.2.2.2.length=a.2.2.2.2.length:=by unfold sG;simp
section
variable {f:Nat→Nat}{P Y:List aj}{p q:aD}
theorem iP{z:Int}(h:0≤z):fI f z=((f z.toNat:Nat):Int):=by unfold fI;rw[decide_eq_true h];rfl
theorem uO{z:Int}(h:¬0≤z):fI f z=z:=by unfold fI;rw[decide_eq_false h];rfl
theorem sO(k:Nat):fI f ((k:Nat):Int)=((f k:Nat):Int):=by rw[iP (by omega),qK]
theorem Ren.inj(h:Ren f P Y){i j:Nat}(e:f i=f j):i=j:=by
 rcases Nat.lt_trichotomy i j with k|k|k
 ·have:=h.mono i j k;omega
 ·exact k
 ·have:=h.mono j i k;omega
theorem Ren.lt(h:Ren f P Y){i j:Nat}:f i<f j↔i<j:=by
 constructor
 ·intro e;rcases Nat.lt_trichotomy i j with k|k|k
  ·exact k
  ·subst k;omega
  ·have:=h.mono j i k;omega
 ·exact h.mono i j
theorem Ren.len(h:Ren f P Y):f P.length=Y.length:=h.ends 0
theorem Ren.VI(h:Ren f P Y){i:Nat}:f i<Y.length↔i<P.length:=by rw[←h.len];exact h.lt
theorem Ren.OW(h:Ren f P Y){z:Int}:(0≤fI f z∧fI f z<(Y.length:Nat))↔(0≤z∧z<(P.length:Nat)):=by
 by_cases h0:0≤z
 ·rw[iP h0];have k:=h.VI (i:=z.toNat);constructor
  ·rintro⟨_,h2⟩;have:=k.1 (by omega);omega
  ·rintro⟨_,h2⟩;have:=k.2 (by omega);omega
 ·rw[uO h0];constructor
  ·rintro⟨h1,_⟩;exact absurd h1 h0
  ·rintro⟨h1,_⟩;exact absurd h1 h0
theorem Ren.VF(h:Ren f P Y){a b:Int}:fI f a=fI f b↔a=b:=by
 constructor
 ·intro e
  by_cases ha:0≤a
  ·by_cases hb:0≤b
   ·rw[iP ha,iP hb]at e;have:=h.inj (i:=a.toNat) (j:=b.toNat) (by omega);omega
   ·rw[iP ha,uO hb]at e;omega
  ·by_cases hb:0≤b
   ·rw[uO ha,iP hb]at e;omega
   ·rw[uO ha,uO hb]at e;exact e
 ·intro e;rw[e]
theorem Ren.Ej(h:Ren f P Y){z:Int}(h0:0≤z)(h1:z<(P.length:Nat)):ah Y (fI f z)=sG (fI f) (ah P z):=by
 have k:=h.at_ z.toNat (by omega);rw[show((z.toNat:Nat):Int)=z by omega]at k;rw[iP h0];exact k
theorem Ren.pin(h:Ren f P Y):ak Y (jI (fI f) p)↔ak P p:=by
 constructor
 ·rintro⟨h1,h2,h3,h4⟩;have k:=h.OW.1 ⟨h1,h2⟩;refine⟨k.1,k.2,h3,?_⟩;have h5:p.2<((ah Y (fI f p.1)).2.2.2.2.length:Nat):=h4;rw[h.Ej k.1 k.2,kK]at h5;exact h5
 ·rintro⟨h1,h2,h3,h4⟩;have k:=h.OW.2 ⟨h1,h2⟩;refine⟨k.1,k.2,h3,?_⟩;show p.2<((ah Y (fI f p.1)).2.2.2.2.length:Nat);rw[h.Ej h1 h2,kK];exact h4
theorem Ren.peer(h:Ren f P Y)(hp:ak P p):au Y (jI (fI f) p)=jI (fI f) (au P p):=by
 obtain⟨h1,h2,h3,h4⟩:=hp;have h6:p.2<((ah P p.1).2.2.2.2.length:Nat):=h4;have h5:p.2.toNat<(ah P p.1).2.2.2.2.length:=by omega
 show elt (dflt aR) (ah Y (fI f p.1)).2.2.2.2 p.2=jI (fI f) (elt (dflt aR) (ah P p.1).2.2.2.2 p.2);rw[h.Ej h1 h2];show elt (dflt aR) ((ah P p.1).2.2.2.2.map (jI (fI f))) p.2=_;unfold elt;rw[qC,qC,qY,qB h5];rfl
theorem Ren.YI(h:Ren f P Y)(hA:bf Y):bf P:=fun p hp=>by
 have k:=hA _ (h.pin.2 hp);rw[h.peer hp]at k;exact h.pin.1 k
theorem Ren.set(h:Ren f P Y){i:Nat}(hi:i<P.length)(a:aj):Ren f (P.set i a) (Y.set (f i) (sG (fI f) a)):=by
 refine⟨h.mono,h.zero,fun j=>by rw[List.length_set,List.length_set];exact h.ends j,fun j hj=> ?_,fun k hk hn=> ?_⟩
 ·rw[List.length_set]at hj;rw[kQ,kQ,qK,qK]
  by_cases e:i=j
  ·subst e;rw[if_pos ⟨rfl,h.VI.2 hi⟩,if_pos ⟨rfl,hi⟩]
  ·rw[if_neg fun k=>e (h.inj k.1),if_neg fun k=>e k.1];exact h.at_ j hj
 ·rw[List.length_set]at hk;rw[kQ,qK,if_neg fun e=>hn i e.1];exact h.hole k hk hn
theorem Ren.app(h:Ren f P Y)(a:aj):Ren f (P++[a]) (Y++[sG (fI f) a]):=by
 have hl:=h.len;refine⟨h.mono,h.zero,fun j=> ?_,fun j hj=> ?_,fun k hk hn=> ?_⟩
 ·have k:=h.ends (1+j);rw[qA,qA,qJ,qJ,Nat.add_assoc,Nat.add_assoc];exact k
 ·rw[qA,qJ]at hj
  by_cases e:j<P.length
  ·have e2:=h.VI.2 e;rw[dw (by rw[qK];exact e2),dw (by rw[qK];exact e)];exact h.at_ j e
  ·have e2:j=P.length:=by omega
   subst e2;rw[pJ (by rw[qK];exact hl),pJ (by rw[qK])]
 ·rw[qA,qJ]at hk
  have hk2:k<Y.length:=by
   have:=hn P.length;omega
  rw[dw (by rw[qK];exact hk2)];exact h.hole k hk2 hn
theorem Uk(h:f 0=0)(k l v:Int)(d:List Int)(n:Nat):sG (fI f) (bg k l v d n)=bg k l v d n:=by
 have e:jI (fI f) (0,0)=(0,0):=by
  unfold jI;have:fI f 0=0:=by rw[iP (Int.le_refl 0)];show((f 0:Nat):Int)=0;rw[h];rfl
  rw[this]
 unfold sG bg;simp only[List.map_replicate,e]
theorem Ren.add(h:Ren f P Y)(k l v:Int)(d:List Int)(n:Nat):Ren f (P++[bg k l v d n]) (Y++[bg k l v d n]):=by
 have:=h.app (bg k l v d n)
 rwa[Uk h.zero]at this
theorem Ren.drop(h:Ren f P Y){z:Int}(h0:0≤z)(h1:z<(P.length:Nat)):Ren f (bC P z) (bC Y (fI f z)):=by
 have k:=h.set (i:=z.toNat) (by omega) Ba;unfold bC;rw[iP h0,qK];exact k
theorem Ren.Wp(h:Ren f P Y)(h0:0≤p.1)(h1:p.1<(P.length:Nat)):Ren f (aL P p q) (aL Y (jI (fI f) p) (jI (fI f) q)):=by
 have k:=h.set (i:=p.1.toNat) (by omega) ((ah P p.1).1,(ah P p.1).2.1,(ah P p.1).2.2.1,(ah P p.1).2.2.2.1,(ah P p.1).2.2.2.2.set p.2.toNat q)
 have e:aL Y (jI (fI f) p) (jI (fI f) q)=Y.set (f p.1.toNat) (sG (fI f) ((ah P p.1).1,(ah P p.1).2.1,(ah P p.1).2.2.1,(ah P p.1).2.2.2.1,(ah P p.1).2.2.2.2.set p.2.toNat q)):=by
  unfold aL;show Y.set (fI f p.1).toNat ((ah Y (fI f p.1)).1,(ah Y (fI f p.1)).2.1,(ah Y (fI f p.1)).2.2.1,(ah Y (fI f p.1)).2.2.2.1,(ah Y (fI f p.1)).2.2.2.2.set p.2.toNat (jI (fI f) q))=_;rw[h.Ej h0 h1,iP h0,qK];unfold sG;simp only[List.map_set]
 rw[e];exact k
theorem Ren.link(h:Ren f P Y)(hp:ak P p)(hq:ak P q):Ren f (bL P p q) (bL Y (jI (fI f) p) (jI (fI f) q)):=by
 unfold bL;exact(h.Wp hp.1 hp.2.1).Wp hq.1 (by rw[cK];exact hq.2.1)
theorem Ren.move(h:Ren f P Y)(hA:bf P)(hp:ak P p)(hq:ak P q):Ren f (dA P p q) (dA Y (jI (fI f) p) (jI (fI f) q)):=by
 unfold dA;rw[h.peer hp];exact h.link (hA p hp) hq
theorem Ren.join(h:Ren f P Y)(hA:bf P)(hp:ak P p)(hq:ak P q):Ren f (aV P p q) (aV Y (jI (fI f) p) (jI (fI f) q)):=by
 unfold aV;rw[h.peer hp,h.peer hq]
 have e:((jI (fI f) (au P p)).1==(jI (fI f) q).1)=((au P p).1==q.1):=by
  rw[Bool.eq_iff_iff,beq_iff_eq,beq_iff_eq];exact h.VF
 rw[e];show Ren f _ (bif ((au P p).1==q.1&&(au P p).2==q.2)then Y else bL Y (jI (fI f) (au P p)) (jI (fI f) (au P q)));cases ((au P p).1==q.1&&(au P p).2==q.2)
 ·exact h.link (hA p hp) (hA q hq)
 ·exact h
theorem Ren.nl(h:Ren f P Y)(j:Nat)(s:Int):jI (fI f) (((P.length+j:Nat):Int),s)=(((Y.length+j:Nat):Int),s):=by
 unfold jI;rw[sO,h.ends]
theorem Ren.n0(h:Ren f P Y)(s:Int):jI (fI f) (((P.length:Nat):Int),s)=(((Y.length:Nat):Int),s):=h.nl 0 s
variable {x y c d:Int}
theorem Ren.ni(h:Ren f P Y){i:Nat}(hx:0≤x∧x<(P.length:Nat))(hc:ak P (c,(i:Nat)))(hd:ak P (d,(i:Nat))):Ren f (ni x c d P i) (ni (fI f x) (fI f c) (fI f d) Y i):=by
 have e:(ah Y (fI f x)).2.1=(ah P x).2.1:=by rw[h.Ej hx.1 hx.2];rfl
 unfold Tr.ni;rw[e];have h1:=h.add 4 (ah P x).2.1 0 [] 3;have h2:=h1.link (p:=((P.length:Nat),1)) (q:=(c,(i:Nat))) (ak.new (by decide) (by decide)) hc.app;have h3:=h2.link (p:=((P.length:Nat),2)) (q:=(d,(i:Nat))) (ak.link (ak.new (by decide) (by decide))) hd.app.link;rw[h.n0 1,h.n0 2]at h3;exact h3
theorem Ren.dF(h:Ren f P Y)(hx:0≤x∧x<(P.length:Nat)):∀k:Nat,(∀i:Nat,i≤k→ak P (c,(i:Nat))∧ak P (d,(i:Nat)))→Ren f (dF x c d P k) (dF (fI f x) (fI f c) (fI f d) Y k)
 |0,_=>h
 |k+1,hk=>(h.dF hx k fun i hi=>hk i (by omega)).ni (by rw[iM];omega) (bV (hk (k+1) (Nat.le_refl _)).1 k) (bV (hk (k+1) (Nat.le_refl _)).2 k)
theorem Ren.cO(h:Ren f P Y){b b2:Nat}(hA:bf P)(hb:∀i:Nat,f (b+i)=b2+i):∀k:Nat,(∀i:Nat,i<k→ak P (y,((i:Nat):Int)+1)∧ak P (((b+i:Nat):Int),0))→Ren f (cO y b P k) (cO (fI f y) b2 Y k)
 |0,_=>h
 |k+1,hk=>by
  have ih:=h.cO hA hb k fun i hi=>hk i (by omega)
  have k1:=ih.move (kF hA k fun i hi=>hk i (by omega)) (fF (hk k (by omega)).1 k) (fF (hk k (by omega)).2 k);have e:jI (fI f) (((b+k:Nat):Int),0)=(((b2+k:Nat):Int),0):=by unfold jI;rw[sO,hb]
  rw[e]at k1;exact k1
theorem Ren.duplicate(h:Ren f P Y)(hA:bf P)(h0:ak P (0,0))(hx:0≤x∧x<(P.length:Nat))(hy:0≤y∧y<(P.length:Nat))(hx1:ak P (x,1))(hx2:ak P (x,2))(py:0<(ah P y).2.2.2.2.length):Ren f (bH P x y) (bH Y (fI f x) (fI f y)):=by
 have ey:=h.Ej hy.1 hy.2;have en:(ah Y (fI f y)).2.2.2.2.length=(ah P y).2.2.2.2.length:=by rw[ey];exact kK _ _
 have eC:lq Y (fI f y)=lq P y:=by unfold lq;rw[en,ey];rfl
 have h2:Ren f (dup2 P y) (dup2 Y (fI f y)):=by
  unfold dup2;rw[eC];exact(h.add _ _ _ _ _).add _ _ _ _ _
 have ec:fI f ((P.length:Nat):Int)=((Y.length:Nat):Int):=by rw[sO,h.len]
 have ed:fI f ((P.length+1:Nat):Int)=((Y.length+1:Nat):Int):=by rw[sO,h.ends 1]
 have hcd:∀i:Nat,i≤(ah P y).2.2.2.2.length-1→ak (dup2 P y) (((P.length:Nat):Int),(i:Nat))∧ak (dup2 P y) (((P.length+1:Nat):Int),(i:Nat)):=fun i hi=>⟨qb (by omega) (by omega),qg (by omega) (by omega)⟩
 have h3:Ren f (dup3 P x y) (dup3 Y (fI f x) (fI f y)):=by
  unfold dup3;rw[en,←ec,←ed];exact h2.dF (by rw[gK];omega) _ hcd
 have h2A:=vZ (y:=y) hA h0;have h3A:bf (dup3 P x y):=lM h2A (mD h0) _ hcd;have i3:∀{p},ak P p→ak (dup3 P x y) p:=fun h=>bV (mD h) _
 have hc0:ak (dup3 P x y) (((P.length:Nat):Int),0):=bV (qb (by decide) (by omega)) _;have hd0:ak (dup3 P x y) (((P.length+1:Nat):Int),0):=bV (qg (by decide) (by omega)) _;have h4A:bf (kE P x y):=(h3A.move (i3 hx1) hc0).move (i3 hx2).move hd0.move
 have h4:Ren f (kE P x y) (kE Y (fI f x) (fI f y)):=by
  have k:=(h3.move h3A (i3 hx1) hc0).move (h3A.move (i3 hx1) hc0) (i3 hx2).move hd0.move;rw[h.n0 0,h.nl 1 0]at k;exact k
 unfold bH;rw[en];refine h4.cO h4A (fun i=>by rw[Nat.add_assoc,Nat.add_assoc];exact h.ends (2+i)) _ fun i hi=>⟨(i3 ⟨hy.1,hy.2,by omega,?_⟩).move.move,?_⟩
 ·show((i:Nat):Int)+1<((ah P y).2.2.2.2.length:Nat);omega
 ·have:=(qh (x:=x) (c:=((P.length:Nat):Int)) (d:=((P.length+1:Nat):Int)) (xs:=dup2 P y) hi).move (p:=(x,1)) (q:=(((P.length:Nat):Int),0));have:=this.move (p:=(x,2)) (q:=(((P.length+1:Nat):Int),0));rw[gK]at this;exact this
theorem Ren.rV(h:Ren f P Y)(hA:bf P)(h0:ak P (0,0)):∀k:Nat,(∀i:Nat,i<k→ak P (y,((i+1:Nat):Int)))→Ren f (rV y P k) (rV (fI f y) Y k)
 |0,_=>h
 |k+1,hk=>by
  have ih:=h.rV hA h0 k fun i hi=>hk i (by omega)
  have k1:=(ih.add 5 0 0 [] 1).move ((wZ hA h0 k fun i hi=>hk i (by omega)).add (oh h0 k) _ _ _ _ _) (oh (hk k (by omega)) k).app (yZ k);rw[h.nl k 0]at k1;exact k1
theorem Ren.operate(h:Ren f P Y)(hA:bf P)(h0:ak P (0,0))(hx:0≤x∧x<(P.length:Nat))(hy:0≤y∧y<(P.length:Nat))(j1:ak P (y,1))(j2:(ah P y).1=7→ak P (y,2)):Ren f (bG P x y) (bG Y (fI f x) (fI f y)):=by
 unfold bG;rw[h.Ej hx.1 hx.2,h.Ej hy.1 hy.2]
 show Ren f _ (bif (ah P y).1==7 then dA (dA (Y++[bg 8 (ah P y).2.1 (ah P y).2.2.1 [(ah P x).2.2.1] 2]) (fI f y,1) ((Y.length:Nat),0)) (fI f y,2) ((Y.length:Nat),1)
  else dA (Y++[bg 6 0 (wK (ah P y).2.2.1 (jd (ah P y).2.2.2.1 0) (ah P x).2.2.1) [] 1]) (fI f y,1) ((Y.length:Nat),0))
 cases hk:(ah P y).1==7 with
 |true=>
  have k7:=j2 (by simpa using hk);have A1:=hA.add h0 8 (ah P y).2.1 (ah P y).2.2.1 [(ah P x).2.2.1] 2;have k:=((h.add 8 (ah P y).2.1 (ah P y).2.2.1 [(ah P x).2.2.1] 2).move (p:=(y,1)) (q:=((P.length:Nat),0)) A1 j1.app (ak.new (by decide) (by decide))).move (p:=(y,2)) (q:=((P.length:Nat),1)) (A1.move j1.app (ak.new (by decide) (by decide))) k7.app.move (ak.new (by decide) (by decide)).move;rw[h.n0 0,h.n0 1]at k;exact k
 |false=>
  have k:=(h.add 6 0 (wK (ah P y).2.2.1 (jd (ah P y).2.2.2.1 0) (ah P x).2.2.1) [] 1).move (p:=(y,1)) (q:=((P.length:Nat),0)) (hA.add h0 _ _ _ _ _) j1.app (ak.new (by decide) (by decide));rw[h.n0 0]at k;exact k
theorem Ren.iO(h:Ren f P Y)(hb:jI (fI f) (Tr.iO P.length 0)=Tr.iO Y.length 0):∀k:Nat,jI (fI f) (Tr.iO P.length k)=Tr.iO Y.length k
 |0=>hb
 |k+1=>h.nl k 2
theorem Ren.oC(h:Ren f P Y){lv:Int}(hA:bf P)(h0:ak P (0,0))(hr:ak P (Tr.iO P.length 0))(hb:jI (fI f) (Tr.iO P.length 0)=Tr.iO Y.length 0):∀k:Nat,(∀i:Nat,i<k→ak P (x,((i+1:Nat):Int)))→Ren f (Tr.oC lv x P.length P k) (Tr.oC lv (fI f x) Y.length Y k)
 |0,_=>h
 |k+1,hk=>by
  have ih:=h.oC (lv:=lv) hA h0 hr hb k fun i hi=>hk i (by omega)
  have A2:=(uK (lv:=lv) hA h0 hr k fun i hi=>hk i (by omega)).add (mh h0 k) 3 lv 0 [] 3;have A3:=A2.link (vV hr k).app (uJ k (s:=0) (by decide) (by decide));have i1:=(ih.add 3 lv 0 [] 3).link (p:=Tr.iO P.length k) (q:=(((P.length+k:Nat):Int),0)) (vV hr k).app (uJ k (by decide) (by decide));have i2:=i1.move (p:=(x,((k+1:Nat):Int))) (q:=(((P.length+k:Nat):Int),1)) A3 (mh (hk k (by omega)) k).app.link (uJ k (by decide) (by decide)).link;rw[h.iO hb k,h.nl k 0,h.nl k 1]at i2;exact i2
theorem Ren.choose(h:Ren f P Y)(hA:bf P)(h0:ak P (0,0))(hx:0≤x∧x<(P.length:Nat))(hy:0≤y∧y<(P.length:Nat))(j1:ak P (y,1)):Ren f (dx P x y) (dx Y (fI f x) (fI f y)):=by
 have ex:=h.Ej hx.1 hx.2;have ey:=h.Ej hy.1 hy.2;have en:(ah Y (fI f x)).2.2.2.2.length=(ah P x).2.2.2.2.length:=by rw[ex];exact kK _ _
 have eR:∀i,Ren f (bD P y i) (bD Y (fI f y) i):=fun i=>by
  unfold bD;rw[ey];exact h.add _ _ _ _ _
 unfold dx;rw[en,ex,ey]
 show Ren f _ (bif (ah P y).1==11 then dA (bD Y (fI f y) (bif (ah P x).2.2.1==0 then 1 else 0)) (fI f y,1) ((Y.length:Nat),0)
  else dA (Tr.oC (ah P y).2.1 (fI f x) (Y.length+1) (bD Y (fI f y) (ah P x).2.2.1) ((ah P x).2.2.2.2.length-1)) (fI f y,1) (Tr.iO (Y.length+1) ((ah P x).2.2.2.2.length-1)))
 cases hk:(ah P y).1==11 with
 |true=>
  have k:=(eR (bif (ah P x).2.2.1==0 then 1 else 0)).move (p:=(y,1)) (q:=((P.length:Nat),0)) (hA.add h0 _ _ _ _ _) j1.app (ak.new (by decide) (by decide));rw[h.n0 0]at k;exact k
 |false=>
  simp only[qH];have h1:=eR (ah P x).2.2.1;have l1:(bD P y (ah P x).2.2.1).length=P.length+1:=pO _ _ _;have l2:(bD Y (fI f y) (ah P x).2.2.1).length=Y.length+1:=pO _ _ _;have h1A:bf (bD P y (ah P x).2.2.1):=hA.add h0 _ _ _ _ _;have h1R:ak (bD P y (ah P x).2.2.1) (Tr.iO (bD P y (ah P x).2.2.1).length 0):=by rw[l1];exact ak.new (by decide) (by decide)
  have hb:jI (fI f) (Tr.iO (bD P y (ah P x).2.2.1).length 0)=Tr.iO (bD Y (fI f y) (ah P x).2.2.1).length 0:=by rw[l1,l2];exact h.n0 0
  have hpx:∀i:Nat,i<(ah P x).2.2.2.2.length-1→ak (bD P y (ah P x).2.2.1) (x,((i+1:Nat):Int)):=fun i hi=>ak.app ⟨hx.1,hx.2,by omega,by show((i+1:Nat):Int)<((ah P x).2.2.2.2.length:Nat);omega⟩
  have h2:=h1.oC (lv:=(ah P y).2.1) h1A (ak.app h0) h1R hb _ hpx;have h2A:=uK (lv:=(ah P y).2.1) h1A (ak.app h0) h1R _ hpx;have k:=h2.move (p:=(y,1)) h2A (mh (ak.app j1) _) (vV h1R ((ah P x).2.2.2.2.length-1));rw[h1.iO hb,l1,l2]at k;exact k
end
end Go.Tr
namespace Go.Tr
open Go Go.RowKit
section
variable {f:Nat→Nat}{P Y:List aj}{x y c:Int}{bk:List (List aj)}
theorem I7(lv b:Int)(t:List aj):jq lv b t (t.length-1)=((bY lv t).drop 1).map (bW b):=by
 unfold jq;rw[qN (by rw[List.length_drop,lC];exact Nat.le_refl _)]
theorem vS{xs:List aj}{z s:Int}{q:aD}(h0:0≤z)(h1:z<(xs.length:Nat)):ah (aL xs (z,s) q) z=((ah xs z).1,(ah xs z).2.1,(ah xs z).2.2.1,(ah xs z).2.2.2.1,(ah xs z).2.2.2.2.set s.toNat q):=by
 rw[eF];exact if_pos ⟨rfl,by show z.toNat<xs.length;omega⟩
theorem l9{xs:List aj}{z s i:Int}{q:aD}(h:z.toNat≠i.toNat):ah (aL xs (z,s) q) i=ah xs i:=by
 rw[eF];exact if_neg fun k=>h k.1
theorem RN{α:Type}{u v:List α}{s:Nat}{w:α}(hl:u.length=v.length)(h:∀k:Nat,k≠s→u[k]? =v[k]?):u.set s w=v.set s w:=by
 apply List.ext_getElem?;intro k;rw[List.getElem?_set,List.getElem?_set,hl]
 by_cases e:s=k
 ·rw[if_pos e,if_pos e]
 ·rw[if_neg e,if_neg e];exact h k (Ne.symm e)
theorem Ren.Wu(h:Ren f P Y){t:List aj}{b b2:Int}{z:aD}(ht:iy (fun p=>ak t p) t)(h0:ak t (0,0))(h00:∀p,ak t p→p.1=0→p=(0,0))(hb:b=(P.length:Int)-1)(hb2:b2=(Y.length:Int)-1):
  Ren f (aL (P++(t.drop 1).map (bW b)) ((au t (0,0)).1+b,(au t (0,0)).2) z) (aL (Y++(t.drop 1).map (bW b2)) ((au t (0,0)).1+b2,(au t (0,0)).2) (jI (fI f) z)):=by
 obtain⟨r1,r2,r3,r4⟩:=ht (0,0) h0
 have rpos:1≤(au t (0,0)).1:=by
  have h1:=r2.1
  by_cases e:(au t (0,0)).1=0
  ·exact absurd (h00 _ r2 e) r4
  ·omega
 have rlt:=r2.2.1;have r3n:=r2.2.2.1
 have key:∀(j:Nat),j+1<t.length→∀(k:Nat) (u:aD),(ah t ((j+1:Nat):Int)).2.2.2.2[k]? =some u→¬((au t (0,0)).1=((j+1:Nat):Int)∧(au t (0,0)).2.toNat=k)→jI (fI f) (u.1+b,u.2)=(u.1+b2,u.2):=fun j hj k u hu hne=>by
  have hk:=(qE.1 hu).1;have pin:ak t (((j+1:Nat):Int),((k:Nat):Int)):=⟨by show(0:Int)≤(j+1:Nat);omega,by show((j+1:Nat):Int)<(t.length:Nat);omega,by show(0:Int)≤(k:Nat);omega,by show((k:Nat):Int)<((ah t ((j+1:Nat):Int)).2.2.2.2.length:Nat);omega⟩
  have pe:au t (((j+1:Nat):Int),((k:Nat):Int))=u:=by
   show elt (dflt aR) (ah t ((j+1:Nat):Int)).2.2.2.2 ((k:Nat):Int)=u;unfold elt;rw[qK,qC,hu];rfl
  obtain⟨_,w2,w3,w4⟩:=ht _ pin;rw[pe]at w2 w3;have w1:=w2.1
  have u1:1≤u.1:=by
   by_cases e:u.1=0
   ·exfalso;rw[h00 u w2 e]at w3;refine hne ⟨congrArg Prod.fst w3,?_⟩;have k2:(au t (0,0)).2=((k:Nat):Int):=congrArg Prod.snd w3;omega
   ·omega
  have hE:=h.ends (u.1.toNat-1);unfold jI;show(fI f (u.1+b),u.2)=(u.1+b2,u.2);rw[show u.1+b=((P.length+(u.1.toNat-1):Nat):Int) by omega,sO,hE];exact Prod.ext (show((Y.length+(u.1.toNat-1):Nat):Int)=u.1+b2 by omega) rfl
 generalize au t (0,0)=R at*;obtain⟨Ra,Rs⟩:=R;have rpos':1≤Ra:=rpos;have rlt':Ra<(t.length:Nat):=rlt;have rs':0≤Rs:=r3n;refine⟨h.mono,h.zero,fun j=> ?_,fun i hi=> ?_,fun k hk hn=> ?_⟩
 ·rw[cK,cK,qA,qA,nG,nG,Nat.add_assoc,Nat.add_assoc];exact h.ends _
 ·rw[cK,qA,nG]at hi;show ah (aL (Y++(t.drop 1).map (bW b2)) (Ra+b2,Rs) (jI (fI f) z)) ((f i:Nat):Int)=sG (fI f) (ah (aL (P++(t.drop 1).map (bW b)) (Ra+b,Rs) z) ((i:Nat):Int))
  by_cases e:i<P.length
  ·have e2:=h.VI.2 e;rw[l9 (by omega),l9 (by omega),dw (by omega),dw (by omega)];exact h.at_ i e
  ·obtain⟨j,rfl⟩:∃j,i=P.length+j:=⟨i-P.length,by omega⟩;have hj:j+1<t.length:=by omega
   have ef:=h.ends j;have a1:=p8 (xs:=P) (t:=t) hb (i:=((P.length+j:Nat):Int)) (by omega) (by omega);have a2:=p8 (xs:=Y) (t:=t) hb2 (i:=((Y.length+j:Nat):Int)) (by omega) (by omega);rw[show((P.length+j:Nat):Int)-b=((j+1:Nat):Int) by omega]at a1;rw[show((Y.length+j:Nat):Int)-b2=((j+1:Nat):Int) by omega]at a2;have kj:=key j hj;rw[ef];generalize ah t ((j+1:Nat):Int)=A at*;have l1:(P++(t.drop 1).map (bW b)).length=P.length+(t.length-1):=by rw[qA,nG]
   have l2:(Y++(t.drop 1).map (bW b2)).length=Y.length+(t.length-1):=by rw[qA,nG]
   by_cases hR:Ra=((j+1:Nat):Int)
   ·rw[show Ra+b2=((Y.length+j:Nat):Int) by omega,show Ra+b=((P.length+j:Nat):Int) by omega,vS (by omega) (by rw[l2];omega),vS (by omega) (by rw[l1];omega),a1,a2];unfold sG bW;simp only[List.map_set,List.map_map]
    congr 4
    refine RN (by simp) fun k hk=> ?_
    rw[qY,qY];cases hu:A.2.2.2.2[k]? with
    |none=>rfl
    |some u=>
     show some _=some _;have:=kj k u hu fun e=>hk e.2.symm
     exact congrArg some this.symm
   ·rw[l9 (by omega),l9 (by omega),a1,a2];unfold sG bW;simp only[List.map_map]
    congr 4
    apply List.ext_getElem?;intro k;rw[qY,qY];cases hu:A.2.2.2.2[k]? with
    |none=>rfl
    |some u=>
     show some _=some _;have:=kj k u hu fun e=>hR e.1
     exact congrArg some this.symm
 ·rw[cK,qA,nG]at hk
  have hk2:k<Y.length:=by
   rcases Nat.lt_or_ge k Y.length with e|e
   ·exact e
   ·have h1:=h.ends (k-Y.length);exact absurd (by rw[h1];omega) (hn (P.length+(k-Y.length)))
  show ah (aL (Y++(t.drop 1).map (bW b2)) (Ra+b2,Rs) (jI (fI f) z)) ((k:Nat):Int)=Ba;rw[l9 (by omega),dw (by omega)];exact h.hole k hk2 hn
theorem Ren.expand(h:Ren f P Y){t:List aj}{lv:Int}(hy:ak P (y,0))(ht:iy (fun p=>ak t p) t)(h0:ak t (0,0))(h00:∀p,ak t p→p.1=0→p=(0,0)):Ren f (eU t lv P y) (eU t lv Y (fI f y)):=by
 unfold eU;rw[I7,I7];have k:=h.Wu (t:=bY lv t) (z:=(y,0)) (b:=(P.length:Int)-1) (b2:=(Y.length:Int)-1) ht.shift (ak.jm.2 h0) (fun p hp e=>h00 p (ak.jm.1 hp) e) rfl rfl;rw[nU h0]at k;have k2:=k.Wp (p:=(y,0)) (q:=((au t (0,0)).1+((P.length:Int)-1),(au t (0,0)).2)) hy.1 (by rw[cK,qA];have:=hy.2.1;show y<_;have h3:y<(P.length:Nat):=this;omega);obtain⟨r1,r2,r3,r4⟩:=ht (0,0) h0
 have rpos:1≤(au t (0,0)).1:=by
  have h1:=r2.1
  by_cases e:(au t (0,0)).1=0
  ·exact absurd (h00 _ r2 e) r4
  ·omega
 have hE:=h.ends ((au t (0,0)).1.toNat-1)
 have e:jI (fI f) ((au t (0,0)).1+((P.length:Int)-1),(au t (0,0)).2)=((au t (0,0)).1+((Y.length:Int)-1),(au t (0,0)).2):=by
  unfold jI;show(fI f _,_)=_;rw[show(au t (0,0)).1+((P.length:Int)-1)=((P.length+((au t (0,0)).1.toNat-1):Nat):Int) by omega,sO,hE];exact Prod.ext (show((Y.length+((au t (0,0)).1.toNat-1):Nat):Int)=(au t (0,0)).1+((Y.length:Int)-1) by omega) rfl
 rw[e]at k2;unfold bL;rw[show((P.length:Nat):Int)-1+(au t (0,0)).1=(au t (0,0)).1+((P.length:Int)-1) by omega,show((Y.length:Nat):Int)-1+(au t (0,0)).1=(au t (0,0)).1+((Y.length:Int)-1) by omega];exact k2
theorem Ren.inter(h:Ren f P Y)(hp:F9 P c x y)(hA:bf P)(h0:ak P (0,0))(hc:1≤c∧c≤7)(hb:BkW bk)(h7:c=7→(0≤(ah P x).2.2.1∧(ah P x).2.2.1<(bk.length:Nat))):Ren f (iq bk P c x y) (iq bk Y c (fI f x) (fI f y)):=by
 obtain⟨⟨hx0,hy0,p12,p3,px,py,dy,p5,p6⟩,s5,s6⟩:=hp;have hcs:c=1∨c=2∨c=3∨c=4∨c=5∨c=6∨c=7:=by omega
 rcases hcs with rfl|rfl|rfl|rfl|rfl|rfl|rfl
 ·obtain⟨j1,j2,j3,j4⟩:=p12 (.inl rfl);exact(h.join hA j1 j3).join (hA.join j1 j3) j2.join j4.join
 ·obtain⟨j1,j2,j3,j4⟩:=p12 (.inr rfl);exact(h.join hA j1 j3).join (hA.join j1 j3) j2.join j4.join
 ·obtain⟨hx1,hx2⟩:=p3 rfl;exact h.duplicate hA h0 hx0 hy0 hx1 hx2 py.1
 ·show Ren f (ig P y) (ig Y (fI f y));unfold ig;rw[h.Ej hy0.1 hy0.2,kK];exact h.rV hA h0 _ fun i hi=>⟨hy0.1,hy0.2,by omega,by show((i+1:Nat):Int)<((ah P y).2.2.2.2.length:Nat);omega⟩
 ·obtain⟨j1,j2,j3⟩:=p5 rfl;exact h.operate hA h0 hx0 hy0 j1 j2
 ·obtain⟨j1,j2,j3⟩:=p6 rfl;exact h.choose hA h0 hx0 hy0 j1
 ·obtain⟨v0,v1⟩:=h7 rfl;show Ren f (eU (bP bk (ah P x).2.2.1) (ah P x).2.1 P y) (eU (bP bk (ah Y (fI f x)).2.2.1) (ah Y (fI f x)).2.1 Y (fI f y));rw[h.Ej hx0.1 hx0.2];exact h.expand ⟨hy0.1,hy0.2,Int.le_refl 0,by show(0:Int)<((ah P y).2.2.2.2.length:Nat);omega⟩ (hb.wi _ v0 v1) (hb.r0 _ v0 v1) (hb.r1 _ v0 v1)
theorem Ren.done(h:Ren f P Y)(hp:F9 P c x y)(hA:bf P)(h0:ak P (0,0))(hc:1≤c∧c≤7)(hb:BkW bk)(h7:c=7→(0≤(ah P x).2.2.1∧(ah P x).2.2.1<(bk.length:Nat))):Ren f (fT bk P c x y) (fT bk Y c (fI f x) (fI f y)):=by
 have k:=h.inter (bk:=bk) hp hA h0 hc hb h7;have hle:=Fh (xs:=P) bk c x y;have hx:=hp.x0;have hy:=hp.y0;have k1:=k.drop hx.1 (by omega);unfold fT;cases c==7
 ·exact k1.drop hy.1 (by rw[eO];omega)
 ·exact k1
end
end Go.Tr
namespace Go.Tr
open Go Go.RowKit
def Rn(xs:List aj)(i:Nat):Bool:=
 bif (elt (dflt aR) (ah xs (i:Nat)).2.2.2.2 0).2==0 then decide ((i:Int)<(elt (dflt aR) (ah xs (i:Nat)).2.2.2.2 0).1)else false
def WR(xs:List aj)(i:Nat):Bool:=bif Rn xs i then(ah xs (i:Nat)).1 !=1 else false
def Ld(xs:List aj)(i:Nat):Int×Int:=((i:Int),(elt (dflt aR) (ah xs (i:Nat)).2.2.2.2 0).1)
def sP(c:Nat→Bool)(xs:List aj)(k:Nat):List (Int×Int):=((List.range k).filter c).map (Ld xs)
theorem Dq{c:Nat→Bool}{xs:List aj}{k:Nat}(h:c k=true):sP c xs (k+1)=sP c xs k++[Ld xs k]:=by
 unfold sP;rw[List.range_succ,List.filter_append,qZ];simp[h]
theorem yu{c:Nat→Bool}{xs:List aj}{k:Nat}(h:c k=false):sP c xs (k+1)=sP c xs k:=by
 unfold sP;rw[List.range_succ,List.filter_append];simp[h]
theorem Ro(c:Nat→Bool)(xs:List aj)(k:Nat):(sP c xs k).length≤k:=by
 unfold sP;rw[qV];exact Nat.le_trans (List.length_filter_le _ _) (by simp)
def Vf(xs:List aj):Prop:=∀i:Nat,i<xs.length→0<(ah xs (i:Nat)).2.2.2.2.length
def MG(kv:List (Int×Bool))(p:Int×Int):Bool:=bE false kv p.1
def WU(xs:List aj)(kv:List (Int×Bool)):List (Int×Int):=(sP (WR xs) xs xs.length).filter fun p=> !(MG kv p)
theorem filter_all{α:Type}{g:α→Bool}{l:List α}(h:∀x∈l,g x=false):l.filter (fun p=> !(g p))=l:=List.filter_eq_self.2 fun x hx=>by rw[h x hx];rfl
theorem Qi{α:Type}{g:α→Bool}:∀(l:List α) (k:Int),0≤k→zh g l k= -1→∀x∈l,g x=false
 |[],_,_,_,x,hx=>by cases hx
 |a::l,k,hk,h,x,hx=>by
  unfold zh at h;cases ha:g a with
  |true=>rw[ha,qG]at h;omega
  |false=>
   rw[ha,qH]at h;rcases List.mem_cons.1 hx with rfl|hx
   ·exact ha
   ·exact Qi l (k+1) (by omega) h x hx
theorem Qj{α:Type}[Inhabited α]{g:α→Bool}(d:α):∀(l:List α) (k:Int),zh g l k≠ -1→∃m:Nat,zh g l k=k+(m:Nat)∧m<l.length∧(∀x∈l.take m,g x=false)∧g (l.getD m d)=true
 |[],_,h=>absurd rfl h
 |a::l,k,h=>by
  unfold zh at h ⊢;cases ha:g a with
  |true=>
   rw[qG];exact⟨0,by omega,by simp,by simp,ha⟩
  |false=>
   rw[ha,qH]at h;rw[qH];obtain⟨m,e1,e2,e3,e4⟩:=Qj d l (k+1) h;refine⟨m+1,by rw[e1];omega,by rw[qI];omega,fun x hx=> ?_,e4⟩;rw[List.take_succ_cons]at hx;rcases List.mem_cons.1 hx with rfl|hx
   ·exact ha
   ·exact e3 x hx
theorem Vy{α:Type}{g:α→Bool}{x:α}(h:g x=false):[x].filter (fun p=> !(g p))=[x]:=by simp[h]
theorem Tn{α:Type}{g:α→Bool}{x:α}(h:g x=true):[x].filter (fun p=> !(g p))=[]:=by simp[h]
theorem Yb{α:Type}{l:List α}{i:Nat}{a:α}(h:i<l.length):(l.set i a).take (i+1)=l.take i++[a]:=by
 rw[List.take_add_one,List.take_set_of_le (Nat.le_refl i),List.getElem?_set_self h];rfl
def ZB(sch:List Int)(k:Int):Int:=bif decide (0<((sch.length:Nat):Int))then elt 0 sch (k.tmod ((sch.length:Nat):Int))else 0
def ZC(sch:List Int)(n k:Int):Int:=(ZB sch k).tmod n
def HV(sch:List Int)(ps:List (Int×Int))(k:Int):Int×Int:=elt (dflt aR) ps (ZC sch ((ps.length:Nat):Int) k)
def Bu(m n:Int):Bool:=bif decide (n<0)then true else decide (m<n)
def ED(xs:List aj)(i:Nat):Bool:=bif decide (1≤i)then(bif dL xs i then Rn xs i else false)else false
def kH(xs:List aj):List (Int×Int):=sP (ED xs) xs xs.length
theorem Yq{ys:List aj}{i:Nat}(h:((ah ys (i:Nat)).1==0)=true):dL ys i=false:=by unfold dL bne;rw[h];rfl
theorem Yr{ys:List aj}{i:Nat}(h:((ah ys (i:Nat)).1==0)=false):dL ys i=true:=by unfold dL bne;rw[h];rfl
theorem Yx(xs:List aj):(kH xs).length≤xs.length:=Ro _ _ _
section
variable {kv:List (Int×Bool)}{xs ys:List aj}
theorem CK{k:Int}(h:bE false kv k=false):¬Gone kv k:=fun e=>by
 have e':bE false kv k=true:=e;rw[h]at e';cases e'
theorem Twin.LM(T:Twin kv xs ys):∀k:Nat,k≤xs.length→(sP (WR xs) xs k).filter (fun p=> !(MG kv p))=sP (ED ys) ys k
 |0,_=>rfl
 |k+1,hk=>by
  have ih:=T.LM k (by omega);have hl:=T.len;cases hg:bE false kv ((k:Nat):Int)with
  |true=>
   have hv:ED ys k=false:=by
    unfold ED;rw[T.dL (by omega),hg];cases decide (1≤k)<;>rfl
   rw[yu hv,←ih];cases hc:WR xs k with
   |false=>rw[yu hc]
   |true=>rw[Dq hc,List.filter_append,Tn (g:=MG kv) (x:=Ld xs k) hg,qS]
  |false=>
   have hd:=CK hg;have e:=T.at_ (i:=((k:Nat):Int)) (by omega) (by omega) hd;have hA:Ld ys k=Ld xs k:=by unfold Ld;rw[e]
   have hD:Rn ys k=Rn xs k:=by unfold Rn;rw[e]
   have hr:((ah xs (k:Nat)).1 !=1)=decide (1≤k):=by
    by_cases h0:k=0
    ·subst h0;have:=T.r1;rw[show(((0:Nat):Int))=0 from rfl,this];rfl
    ·have:=T.uq (k:Nat) (by omega) (by omega) hd;rw[decide_eq_true (show 1≤k by omega)];simpa using this
   have hc:ED ys k=WR xs k:=by
    unfold ED WR;rw[T.dL (by omega),hg,hD,hr];cases decide (1≤k)<;>cases Rn xs k<;>rfl
   cases hq:WR xs k with
   |false=>rw[yu hq,yu (by rw[hc];exact hq),ih]
   |true=>rw[Dq hq,Dq (by rw[hc];exact hq),List.filter_append,ih,Vy (g:=MG kv) (x:=Ld xs k) hg,hA]
theorem Twin.acts(T:Twin kv xs ys):WU xs kv=kH ys:=by
 unfold WU kH;rw[T.LM _ (Nat.le_refl _),T.len]
theorem T9{p:Int×Int}(h:p∈kH ys):∃i:Nat,i<ys.length∧ED ys i=true∧p=Ld ys i:=by
 unfold kH sP at h;obtain⟨i,hi,rfl⟩:=List.mem_map.1 h;rw[List.mem_filter,List.mem_range]at hi;exact⟨i,hi.1,hi.2,rfl⟩
theorem Twin.Rq(T:Twin kv xs ys){p:Int×Int}(h:p∈kH ys):lG (Gone kv) xs p.1 p.2∧(ah xs p.1).1≠1∧(ah xs p.2).1≠1∧p.1<p.2:=by
 obtain⟨i,hi,hp,rfl⟩:=T9 h;have hl:=T.len;unfold ED at hp;cases h1:decide (1≤i)with
 |false=>rw[h1]at hp;cases hp
 |true=>
 cases h2:Tr.dL ys i with
 |false=>rw[h1,h2]at hp;cases hp
 |true=>
 have h1':1≤i:=by simpa using h1
 rw[h1,h2]at hp;simp only[qG]at hp
 have hg:bE false kv ((i:Nat):Int)=false:=by
  rw[T.dL (by omega)]at h2;simpa using h2
 have hd:=CK hg;have e:=T.at_ (i:=((i:Nat):Int)) (by omega) (by omega) hd;have w1:=(iN (T.wf (i:Nat) (by omega) (by omega) hd)).1;unfold Rn at hp;rw[e]at hp;have hA:Ld ys i=((i:Int),(elt (dflt aR) (ah xs (i:Nat)).2.2.2.2 0).1):=by unfold Ld;rw[e]
 rw[hA];have hin:Live (Gone kv) xs ((i:Int),0):=⟨⟨by show(0:Int)≤(i:Nat);omega,by show((i:Nat):Int)<(xs.length:Nat);omega,Int.le_refl 0,by show(0:Int)<((ah xs (i:Nat)).2.2.2.2.length:Nat);omega⟩,hd⟩;obtain⟨_,⟨q1,q2⟩,_⟩:=T.st.wi _ hin;have hpe:au xs ((i:Int),0)=elt (dflt aR) (ah xs (i:Nat)).2.2.2.2 0:=rfl;rw[hpe]at q1 q2;cases h3:(elt (dflt aR) (ah xs (i:Nat)).2.2.2.2 0).2==0 with
 |false=>rw[h3]at hp;cases hp
 |true=>
  rw[h3]at hp;simp only[qG,qQ]at hp;have hq2:(elt (dflt aR) (ah xs (i:Nat)).2.2.2.2 0).2=0:=by simpa using h3
  have hq:elt (dflt aR) (ah xs (i:Nat)).2.2.2.2 0=((elt (dflt aR) (ah xs (i:Nat)).2.2.2.2 0).1,0):=Prod.ext rfl hq2;have q3:=q1.2.1;refine⟨⟨by show((i:Nat):Int)≠(elt (dflt aR) (ah xs (i:Nat)).2.2.2.2 0).1;omega,hd,q2,hin.1,?_,?_⟩,T.uq _ (by omega) (by omega) hd,T.uq _ ?_ q3 q2,hp⟩
  ·rw[hq]at q1;exact q1
  ·rw[hpe];exact hq
  ·show(0:Int)<(elt (dflt aR) (ah xs (i:Nat)).2.2.2.2 0).1;omega
theorem Rp{k:Int}(h0:0≤k)(h1:k<((kH ys).length:Nat)):elt (dflt aR) (kH ys) k∈kH ys:=by
 have h2:k.toNat<(kH ys).length:=by omega
 have e:elt (dflt aR) (kH ys) k=(kH ys)[k.toNat]:=by
  unfold elt;rw[qC,qB h2];rfl
 rw[e];exact List.getElem_mem h2
theorem Twin.pos(T:Twin kv xs ys):0<ys.length:=by rw[←T.len];exact T.rl
theorem Twin.VX(T:Twin kv xs ys)(i:Nat)(hi:i<ys.length)(h:Tr.dL ys i=true):0<(ah ys (i:Nat)).2.2.2.2.length:=by
 have hl:=T.len;rw[T.dL (by omega)]at h;have hd:¬Gone kv ((i:Nat):Int):=CK (by simpa using h);rw[T.at_ (by omega) (by omega) hd];exact(iN (T.wf (i:Nat) (by omega) (by omega) hd)).1
theorem WS(w:yI (fun _=>False) xs):Vf xs:=fun i hi=>(iN (w (i:Nat) (by omega) (by omega) id)).1
end
end Go.Tr
namespace Go.Tr
open Go Go.RowKit
theorem ER(ys:List aj){a:Nat}:∀m:Nat,iC ys a≤iC ys (a+m)
 |0=>Nat.le_refl _
 |m+1=>by
  have ih:=ER ys (a:=a) m;show _≤bif dL ys (a+m)then iC ys (a+m)+1 else iC ys (a+m)
  cases dL ys (a+m)<;>simp only[qG,qH]<;>omega
theorem Wj{F G:Int→Int}{a:aj}(h:∀p∈a.2.2.2.2,F (G p.1)=p.1):sG F (sG G a)=a:=by
 obtain⟨k,l,v,d,ps⟩:=a;unfold sG;show(k,l,v,d,(ps.map (jI G)).map (jI F))=_;rw[List.map_map]
 have e:ps.map (jI F∘jI G)=ps:=by
  conv=>rhs;rw[←List.map_id ps]
  exact List.map_congr_left fun p hp=>Prod.ext (h p hp) rfl
 rw[e]
theorem getD_at(xs:List aj){i:Nat}{a:aj}(h:xs[i]? =some a):ah xs (i:Nat)=a:=by
 unfold ah elt;rw[qK,qC,h];rfl
def UG(kv:List (Int×Bool))(Y:List aj)(i:Nat):Nat:=bif decide (i<iC Y Y.length)then(elt 0 (d9 kv Y.length) (i:Nat)).toNat else Y.length+(i-iC Y Y.length)
def Full(P:List aj):Prop:=∀i:Nat,i<P.length→dL P i=true
section
variable {kv kv2:List (Int×Bool)}{f:Nat→Nat}{xs xs2 P Y Y2:List aj}
theorem Twin.wired(h:Twin kv xs Y){x:Nat}(hx:x<Y.length)(hg:bE false kv ((x:Nat):Int)=false):∀p∈(ah Y (x:Nat)).2.2.2.2,0≤p.1∧p.1<(Y.length:Nat)∧bE false kv p.1=false:=fun p hp=>by
 have hl:=h.len
 have hd:¬Gone kv ((x:Nat):Int):=fun e=>by
  have e':bE false kv ((x:Nat):Int)=true:=e;rw[hg]at e';cases e'
 rw[h.at_ (by omega) (by omega) hd]at hp;obtain⟨i,hi,rfl⟩:=List.mem_iff_getElem.1 hp;have hw:=h.st.wi (((x:Nat):Int),((i:Nat):Int)) ⟨⟨by show(0:Int)≤(x:Nat);omega,by show((x:Nat):Int)<(xs.length:Nat);omega,by show(0:Int)≤(i:Nat);omega,by show((i:Nat):Int)<((ah xs (x:Nat)).2.2.2.2.length:Nat);omega⟩,hd⟩
 have hpe:au xs (((x:Nat):Int),((i:Nat):Int))=(ah xs (x:Nat)).2.2.2.2[i]:=by
  unfold au elt;rw[qK,qC,qB hi];rfl
 rw[hpe]at hw;obtain⟨_,⟨q1,q2⟩,_⟩:=hw;refine⟨q1.1,by rw[←hl];exact q1.2.1,?_⟩;cases hq:bE false kv ((ah xs (x:Nat)).2.2.2.2[i]).1 with
 |true=>exact absurd hq q2
 |false=>rfl
theorem Twin.en(h:Twin kv xs Y):Ren (UG kv Y) (mI Y) Y∧Full (mI Y):=by
 have hl:=h.len;obtain⟨k1,k2,k3⟩:=h.ord xs.length (Nat.le_refl _);rw[hl]at k1 k2 k3;have pk:mI Y=(d9 kv Y.length).map fun k=>sG (tX Y) (ah Y k):=h.iw Y.length (by omega)
 have pl:(mI Y).length=iC Y Y.length:=by rw[pk,qV,k1]
 have fA:∀i,i<iC Y Y.length→∃x:Nat,x<Y.length∧UG kv Y i=x∧iC Y x=i∧bE false kv ((x:Nat):Int)=false∧ah (mI Y) (i:Nat)=sG (tX Y) (ah Y (x:Nat)):=fun i hi=>by
  obtain⟨x,a1,a2,a3,a4⟩:=k2 i (by omega);refine⟨x,a1,?_,a3,a4,?_⟩
  ·unfold UG elt;rw[decide_eq_true hi,qG,qK,qC,a2];rfl
  ·refine getD_at _ ?_;rw[pk,qY,a2];rfl
 have fB:∀i,¬i<iC Y Y.length→UG kv Y i=Y.length+(i-iC Y Y.length):=fun i hi=>by
  unfold UG;rw[decide_eq_false hi,qH]
 have fC:∀x:Nat,x<Y.length→bE false kv ((x:Nat):Int)=false→iC Y x<iC Y Y.length∧UG kv Y (iC Y x)=x:=fun x hx hg=>by
  have a:=k3 x hx hg;have b:=(qE.1 a).1;have hlt:iC Y x<iC Y Y.length:=by omega
  refine⟨hlt,?_⟩;unfold UG elt;rw[decide_eq_true hlt,qG,qK,qC,a];rfl
 have g0:bE false kv ((0:Nat):Int)=false:=by
  cases hq:bE false kv ((0:Nat):Int)with
  |true=>exact absurd hq h.r0
  |false=>rfl
 refine⟨⟨fun i j hij=> ?_,?_,fun j=> ?_,fun i hi=> ?_,fun k hk hn=> ?_⟩,fun i hi=> ?_⟩
 ·by_cases hj:j<iC Y Y.length
  ·obtain⟨x,a1,a2,a3,_⟩:=fA i (by omega);obtain⟨x2,b1,b2,b3,_⟩:=fA j hj;rw[a2,b2];rcases Nat.lt_or_ge x x2 with e|e
   ·exact e
   ·have:=ER Y (a:=x2) (x-x2);rw[show x2+(x-x2)=x by omega]at this;omega
  ·rw[fB j hj]
   by_cases hi:i<iC Y Y.length
   ·obtain⟨x,a1,a2,a3,_⟩:=fA i hi;omega
   ·rw[fB i hi];omega
 ·exact(fC 0 (by have:=h.rl;omega) g0).2
 ·rw[pl,fB _ (by omega)];omega
 ·rw[pl]at hi;obtain⟨x,a1,a2,a3,a4,a5⟩:=fA i hi;rw[a2,a5];refine(Wj fun p hp=> ?_).symm;obtain⟨p0,p1,p2⟩:=h.wired a1 a4 p hp;have c:=(fC p.1.toNat (by omega) (by rw[show((p.1.toNat:Nat):Int)=p.1 by omega];exact p2)).2;unfold tX;rw[sO,c];omega
 ·cases hg:bE false kv ((k:Nat):Int)with
  |true=>exact(h.hole _ hg).2
  |false=>exact absurd (fC k hk hg).2 (hn _)
 ·rw[pl]at hi;obtain⟨x,a1,a2,a3,a4,a5⟩:=fA i hi;have e:=h.dL (k:=x) (by omega);rw[a4]at e;unfold Tr.dL at e ⊢;rw[a5];exact e
theorem Ren.gap(h:Ren f P Y){α:Type}(F:Nat→α)(hF:∀k:Nat,k<Y.length→ah Y (k:Nat)=Ba→F (k+1)=F k){i:Nat}(hi:i<P.length):F (f (i+1))=F (f i+1):=by
 have h1:=h.mono i (i+1) (Nat.lt_succ_self i)
 have h2:f (i+1)≤Y.length:=by
  rw[←h.len];rcases Nat.lt_or_ge (i+1) P.length with e|e
  ·exact Nat.le_of_lt (h.mono _ _ e)
  ·rw[show i+1=P.length by omega];exact Nat.le_refl _
 have k:∀m:Nat,f i+1+m≤f (i+1)→F (f i+1+m)=F (f i+1):=fun m=>by
  induction m with
  |zero=>intro _;rfl
  |succ m ih=>
   intro hm
   have e:=hF (f i+1+m) (by omega) (h.hole _ (by omega) fun j hj=>by
    have a1:i<j:=h.lt.1 (by omega);have a2:j<i+1:=h.lt.1 (by omega);omega)
   rw[←ih (by omega),←e];rfl
 have:=k (f (i+1)-(f i+1)) (by omega)
 rwa[show f i+1+(f (i+1)-(f i+1))=f (i+1) by omega]at this
theorem Ren.live(h:Ren f P Y){i:Nat}(hi:i<P.length):dL Y (f i)=dL P i:=by
 unfold Tr.dL;rw[h.at_ i hi];rfl
theorem Af{ys:List aj}{k:Nat}(h:ah ys (k:Nat)=Ba):dL ys k=false:=by unfold dL;rw[h];rfl
theorem Ren.cnt(h:Ren f P Y):∀i:Nat,i≤P.length→iC Y (f i)=iC P i
 |0,_=>by rw[h.zero];rfl
 |i+1,hi=>by
  rw[h.gap (iC Y) (fun k _ e=>by show(bif dL Y k then _ else _)=_;rw[Af e];rfl) (by omega)];show(bif dL Y (f i)then iC Y (f i)+1 else iC Y (f i))=bif dL P i then iC P i+1 else iC P i
  rw[h.live (by omega),h.cnt i (by omega)]
theorem Ren.iw(h:Ren f P Y)(hA:bf P):∀i:Nat,i≤P.length→iw Y (f i)=iw P i
 |0,_=>by rw[h.zero];rfl
 |i+1,hi=>by
  rw[h.gap (Tr.iw Y) (fun k _ e=>by show(bif dL Y k then _ else _)=_;rw[Af e];rfl) (by omega)];show(bif dL Y (f i)then Tr.iw Y (f i)++[sG (tX Y) (ah Y (f i:Nat))]else Tr.iw Y (f i))=bif dL P i then Tr.iw P i++[sG (tX P) (ah P (i:Nat))]else Tr.iw P i
  have e:sG (tX Y) (ah Y (f i:Nat))=sG (tX P) (ah P (i:Nat)):=by
   rw[h.at_ i (by omega)];unfold sG;simp only[List.map_map]
   congr 4
   refine List.map_congr_left fun p hp=> ?_
   obtain⟨s,hs,rfl⟩:=List.mem_iff_getElem.1 hp;have hw:=hA (((i:Nat):Int),((s:Nat):Int)) ⟨by show(0:Int)≤(i:Nat);omega,by show((i:Nat):Int)<(P.length:Nat);omega,by show(0:Int)≤(s:Nat);omega,by show((s:Nat):Int)<((ah P (i:Nat)).2.2.2.2.length:Nat);omega⟩
   have hpe:au P (((i:Nat):Int),((s:Nat):Int))=(ah P (i:Nat)).2.2.2.2[s]:=by
    unfold au elt;rw[qK,qC,qB hs];rfl
   rw[hpe]at hw;obtain⟨w1,w2,_,_⟩:=hw;generalize (ah P (i:Nat)).2.2.2.2[s]=p at*;refine Prod.ext ?_ rfl;show tX Y (fI f p.1)=tX P p.1;unfold tX;rw[iP w1,qK,h.cnt _ (by omega)]
  rw[h.live (by omega),h.iw hA i (by omega),e]
theorem Ren.pack(h:Ren f P Y)(hA:bf P):mI Y=mI P:=by
 unfold mI;rw[←h.len];exact h.iw hA _ (Nat.le_refl _)
theorem uQ(ys:List aj):∀k:Nat,dh ys k=iC ys k
 |0=>rfl
 |k+1=>by
  have e:dh ys (k+1)=bif dL ys k then dh ys k+1 else dh ys k:=rfl
  rw[e,uQ ys k];rfl
theorem Ren.dh(h:Ren f P Y):Tr.dh Y Y.length=Tr.dh P P.length:=by
 rw[uQ,uQ,←h.len];exact h.cnt _ (Nat.le_refl _)
theorem Ren.full(h:Ren f P Y)(hf:Full P):Tr.dh Y Y.length=P.length:=by
 rw[h.dh,uQ]
 have k:∀n:Nat,n≤P.length→iC P n=n:=fun n=>by
  induction n with
  |zero=>intro _;rfl
  |succ n ih=>
   intro hn;show(bif dL P n then iC P n+1 else iC P n)=n+1;rw[hf n (by omega),ih (by omega)];rfl
 exact k _ (Nat.le_refl _)
theorem Ren.Rp(h:Ren f P Y)(hA:bf P){i:Nat}(hi:i<P.length)(hp:dL P i=true→0<(ah P (i:Nat)).2.2.2.2.length):ED Y (f i)=ED P i∧(ED P i=true→Ld Y (f i)=(fI f (Ld P i).1,fI f (Ld P i).2)):=by
 have hl:=h.live hi
 have h1:decide (1≤f i)=decide (1≤i):=by
  rw[decide_eq_decide];have:=h.lt (i:=0) (j:=i);rw[h.zero]at this;omega
 have e:=h.at_ i hi;cases hv:dL P i with
 |false=>
  have k:ED P i=false:=by unfold ED;rw[hv];cases decide (1≤i)<;>rfl
  rw[k];refine⟨?_,fun e=>by cases e⟩;unfold ED;rw[hl,hv];cases decide (1≤f i)<;>rfl
 |true=>
  have pin:ak P (((i:Nat):Int),0):=⟨by show(0:Int)≤(i:Nat);omega,by show((i:Nat):Int)<(P.length:Nat);omega,Int.le_refl 0,by show(0:Int)<((ah P (i:Nat)).2.2.2.2.length:Nat);have:=hp hv;omega⟩;have hpe:=h.peer pin;have hq:=hA _ pin
  have eY:elt (dflt aR) (ah Y ((f i:Nat):Int)).2.2.2.2 0=jI (fI f) (elt (dflt aR) (ah P (i:Nat)).2.2.2.2 0):=by
   have k:au Y (((f i:Nat):Int),0)=jI (fI f) (au P (((i:Nat):Int),0)):=by
    have:jI (fI f) (((i:Nat):Int),0)=(((f i:Nat):Int),0):=by unfold jI;rw[sO]
    rw[this]at hpe;exact hpe
   exact k
  have hq0:0≤(elt (dflt aR) (ah P (i:Nat)).2.2.2.2 0).1:=hq.1
  have hd:Rn Y (f i)=Rn P i:=by
   unfold Rn;rw[eY];generalize elt (dflt aR) (ah P (i:Nat)).2.2.2.2 0=q at*;show(bif q.2==0 then decide (((f i:Nat):Int)<fI f q.1)else false)=_
   have:decide (((f i:Nat):Int)<fI f q.1)=decide (((i:Nat):Int)<q.1):=by
    rw[decide_eq_decide,iP hq0];have:=h.lt (i:=i) (j:=q.1.toNat);omega
   rw[this]
  refine⟨?_,fun _=> ?_⟩
  ·unfold ED;rw[hl,hd,h1]
  ·unfold Ld;rw[eY];show(((f i:Nat):Int),fI f _)=(fI f ((i:Nat):Int),fI f _);rw[sO]
theorem Ren.sP(h:Ren f P Y)(hA:bf P)(hp:∀i:Nat,i<P.length→dL P i=true→0<(ah P (i:Nat)).2.2.2.2.length):∀i:Nat,i≤P.length→sP (ED Y) Y (f i)=(sP (ED P) P i).map fun p=>(fI f p.1,fI f p.2)
 |0,_=>by rw[h.zero];rfl
 |i+1,hi=>by
  rw[h.gap (Tr.sP (ED Y) Y) (fun k _ e=>yu (by unfold ED;rw[Af e];cases decide (1≤k)<;>rfl)) (by omega)];obtain⟨k1,k2⟩:=h.Rp hA (i:=i) (by omega) (hp i (by omega));cases hc:ED P i with
  |false=>rw[yu hc,yu (by rw[k1];exact hc),h.sP hA hp i (by omega)]
  |true=>rw[Dq hc,Dq (by rw[k1];exact hc),h.sP hA hp i (by omega),qZ,k2 hc];rfl
theorem Ren.prs(h:Ren f P Y)(hA:bf P)(hp:∀i:Nat,i<P.length→dL P i=true→0<(ah P (i:Nat)).2.2.2.2.length):kH Y=(kH P).map fun p=>(fI f p.1,fI f p.2):=by
 unfold kH;rw[←h.len];exact h.sP hA hp _ (Nat.le_refl _)
theorem Full.twin(T:Twin kv xs Y)(h:Ren f P Y)(hf:Full P):Twin [] P P:=by
 have hl:=T.len;have hA:=h.YI T.Kl
 have nd:∀i:Int,¬Gone [] i:=fun i e=>by
  have e':bE false ([]:List (Int×Bool)) i=true:=e;cases e'
 have wh:∀i:Int,0≤i→i<(P.length:Nat)→(0≤fI f i∧fI f i<(xs.length:Nat))∧¬Gone kv (fI f i)∧ah xs (fI f i)=sG (fI f) (ah P i):=fun i h0 h1=>by
  have k:=h.OW.2 ⟨h0,h1⟩;rw[←hl]at k;have e:=h.Ej h0 h1
  have hd:¬Gone kv (fI f i):=fun g=>by
   have h2:=(T.hole _ g).2;have h3:=hf i.toNat (by omega);unfold dL at h3;rw[show((i.toNat:Nat):Int)=i by omega]at h3;rw[e]at h2;have h4:(ah P i).1=0:=congrArg (fun a:aj=>a.1) h2;rw[h4]at h3;cases h3
  exact⟨k,hd,by rw[←T.at_ k.1 k.2 hd];exact e⟩
 have sg:∀i:Int,0≤i→i<(P.length:Nat)→Wf (ah P i):=fun i h0 h1=>by
  obtain⟨k,hd,e⟩:=wh i h0 h1;have w:=T.wf _ k.1 k.2 hd;rw[e]at w;refine(Ie ?_).1 w;unfold sig;rw[kK];rfl
 have rl:0<P.length:=by
  have:=T.rl;have h2:=h.VI (i:=0);rw[h.zero]at h2;exact h2.1 (by omega)
 have kd:∀i:Int,0≤i→i<(P.length:Nat)→(ah xs (fI f i)).1=(ah P i).1:=fun i h0 h1=>by rw[(wh i h0 h1).2.2];rfl
 have f0:fI f 0=0:=by
  rw[iP (Int.le_refl 0)];show((f 0:Nat):Int)=0;rw[h.zero];rfl
 refine⟨⟨⟨rfl,fun _ _ _ _=>rfl⟩,fun p hp=> ?_,fun p hp=>hp.2⟩,fun i h0 h1 _=>sg i h0 h1,fun i e=>absurd e (nd i),fun i e=>absurd e (nd i),?_,nd 0,rl,fun i h0 h1 _=> ?_,fun e he=>absurd he (by simp),?_,hA⟩
 ·have hpin:ak P p:=hp.1
  have lp:∀{q:aD},ak P q→Live (Gone kv) xs (jI (fI f) q)∧au xs (jI (fI f) q)=jI (fI f) (au P q):=fun {q} hq=>by
   obtain⟨k,hd,e⟩:=wh q.1 hq.1 hq.2.1;have hy:=h.pin.2 hq
   have hx:ak xs (jI (fI f) q):=by
    obtain⟨a1,a2,a3,a4⟩:=hy;refine⟨a1,by rw[hl];exact a2,a3,?_⟩;have a5:q.2<((ah Y (fI f q.1)).2.2.2.2.length:Nat):=a4;rw[T.at_ k.1 k.2 hd]at a5;exact a5
   refine⟨⟨hx,hd⟩,?_⟩;rw[←h.peer hq];exact((T.st.ag.port hx hd).2).symm
  obtain⟨l1,e1⟩:=lp hpin;obtain⟨w1,w2,w3,w4⟩:=T.st.wi _ l1;have hq:=hA p hpin;obtain⟨l2,e2⟩:=lp hq;rw[e1,e2]at w3;rw[e1]at w4;refine⟨hpin,⟨hq,nd _⟩,?_,fun e=>w4 (by rw[e])⟩;have k1:=congrArg (fun q:aD=>q.1) w3;have k2:=congrArg (fun q:aD=>q.2) w3;exact Prod.ext (h.VF.1 k1) k2
 ·have:=kd 0 (Int.le_refl 0) (by omega);rw[f0,T.r1]at this;exact this.symm
 ·obtain⟨k,hd,e⟩:=wh i (by omega) h1
  have hpos:0<fI f i:=by
   rw[iP (by omega)];have:=h.lt (i:=0) (j:=i.toNat);rw[h.zero]at this;omega
  have:=T.uq _ hpos k.2 hd;rw[kd i (by omega) h1]at this;exact this
 ·have:∀n:Nat,lI ([]:List (Int×Bool)) n=0:=fun n=>by
   induction n with
   |zero=>rfl
   |succ n ih=>show(bif bE false ([]:List (Int×Bool)) ((n:Nat):Int)then _ else lI [] n)=0;exact ih
  rw[this];rfl
theorem Full.pack(hf:Full P)(hA:bf P):mI P=P:=by
 have cn:∀n:Nat,n≤P.length→iC P n=n:=fun n=>by
  induction n with
  |zero=>intro _;rfl
  |succ n ih=>
   intro hn;show(bif dL P n then iC P n+1 else iC P n)=n+1;rw[hf n (by omega),ih (by omega)];rfl
 have k:∀n:Nat,n≤P.length→iw P n=P.take n:=fun n=>by
  induction n with
  |zero=>intro _;rw[List.take_zero];rfl
  |succ n ih=>
   intro hn;show(bif dL P n then iw P n++[sG (tX P) (ah P (n:Nat))]else iw P n)=_;rw[hf n (by omega),ih (by omega),qG,List.take_add_one,qB (by omega)];have ea:ah P (n:Nat)=P[n]:=getD_at P (qB (by omega))
   have e:sG (tX P) (ah P (n:Nat))=ah P (n:Nat):=by
    unfold sG
    have:(ah P (n:Nat)).2.2.2.2.map (jI (tX P))=(ah P (n:Nat)).2.2.2.2:=by
     conv=>rhs;rw[←List.map_id (ah P (n:Nat)).2.2.2.2]
     refine List.map_congr_left fun p hp=>Prod.ext ?_ rfl
     obtain⟨s,hs,rfl⟩:=List.mem_iff_getElem.1 hp;have hw:=hA (((n:Nat):Int),((s:Nat):Int)) ⟨by show(0:Int)≤(n:Nat);omega,by show((n:Nat):Int)<(P.length:Nat);omega,by show(0:Int)≤(s:Nat);omega,by show((s:Nat):Int)<((ah P (n:Nat)).2.2.2.2.length:Nat);omega⟩
     have hpe:au P (((n:Nat):Int),((s:Nat):Int))=(ah P (n:Nat)).2.2.2.2[s]:=by
      unfold au elt;rw[qK,qC,qB hs];rfl
     rw[hpe]at hw;obtain⟨w1,w2,_,_⟩:=hw;show tX P ((ah P (n:Nat)).2.2.2.2[s]).1=((ah P (n:Nat)).2.2.2.2[s]).1;unfold tX;rw[cn _ (by omega)];omega
    rw[this]
   rw[e,ea];rfl
 unfold mI;rw[k _ (Nat.le_refl _),List.take_length]
end
end Go.Tr
namespace Go.Tr
open Go Go.RowKit
def TT(bk:List (List aj))(ys:List aj)(a b:Int):Int:=
 if(gM bk (ah ys (aC ys a b).1) (ah ys (aC ys a b).2)).2≠0 then(gM bk (ah ys (aC ys a b).1) (ah ys (aC ys a b).2)).2
 else if 600<IntKind.i64.wrap ((dh ys ys.length:Nat)+(gM bk (ah ys (aC ys a b).1) (ah ys (aC ys a b).2)).1)then 4 else 0
def Sn(ys:List aj)(a b:Int):Int:=bF (ah ys (aC ys a b).1) (ah ys (aC ys a b).2)
def MX(bk:List (List aj))(ys:List aj)(a b:Int):List aj:=fT bk ys (Sn ys a b) (aC ys a b).1 (aC ys a b).2
structure YE(bk:List (List aj))(ys:List aj)(a b:Int):Prop where
 sp:F9 ys (Sn ys a b) (aC ys a b).1 (aC ys a b).2
 hc:1≤Sn ys a b∧Sn ys a b≤7
 h7:Sn ys a b=7→0≤(ah ys (aC ys a b).1).2.2.1∧(ah ys (aC ys a b).1).2.2.1<(bk.length:Nat)
theorem IJ(F:Int→Int)(u v:aj):bF (sG F u) (sG F v)=bF u v:=rfl
theorem JL(bk:List (List aj))(F:Int→Int)(c:Int)(u v:aj):rE bk c (sG F u) (sG F v)=rE bk c u v:=by
 unfold rE mG;rw[kK,kK];rfl
theorem Tx(bk:List (List aj))(F:Int→Int)(u v:aj):gM bk (sG F u) (sG F v)=gM bk u v:=by
 unfold gM;rw[IJ,JL,JL];rfl
def pF(f:Nat→Nat)(p:Int×Int):Int×Int:=(fI f p.1,fI f p.2)
section
variable {f g:Nat→Nat}{N P Y:List aj}{a b:Int}{bk:List (List aj)}
theorem Ren.refl(P:List aj):Ren (fun i=>i) P P:=by
 have e:∀z,fI (fun i=>i) z=z:=fun z=>by
  by_cases h:0≤z
  ·rw[iP h];omega
  ·rw[uO h]
 refine⟨fun _ _ h=>h,rfl,fun _=>rfl,fun i _=> ?_,fun k _ h=>absurd rfl (h k)⟩;have e2:jI (fI fun i=>i)=id:=funext fun p=>Prod.ext (e p.1) rfl
 unfold sG;rw[e2,List.map_id]
theorem Tm(z:Int):fI g (fI f z)=fI (fun i=>g (f i)) z:=by
 by_cases h:0≤z
 ·rw[iP h,sO,iP h]
 ·rw[uO h,uO h,uO h]
theorem RD(a:aj):sG (fI g) (sG (fI f) a)=sG (fI fun i=>g (f i)) a:=by
 unfold sG;simp only[List.map_map];have:(jI (fI g)∘jI (fI f))=jI (fI fun i=>g (f i)):=funext fun p=>Prod.ext (Tm p.1) rfl
 rw[this]
theorem Ren.trans(h:Ren f N P)(k:Ren g P Y):Ren (fun i=>g (f i)) N Y:=by
 refine⟨fun i j e=>k.mono _ _ (h.mono _ _ e),by show g (f 0)=0;rw[h.zero,k.zero],fun j=>by show g (f (N.length+j))=_;rw[h.ends,k.ends],fun i hi=> ?_,fun m hm hn=> ?_⟩
 ·rw[k.at_ (f i) (h.VI.2 hi),h.at_ i hi,RD]
 ·by_cases e:∃j,g j=m
  ·obtain⟨j,rfl⟩:=e;have hj:=k.VI.1 hm;rw[k.at_ j hj,h.hole j hj fun i hi=>hn i (by show g (f i)=g j;rw[hi])];rfl
  ·exact k.hole m hm fun j hj=>e ⟨j,hj⟩
theorem Ren.first(h:Ren f N Y)(ha:0≤a∧a<(N.length:Nat))(hb:0≤b∧b<(N.length:Nat)):aC Y (fI f a) (fI f b)=pF f (aC N a b):=by
 unfold aC;rw[h.Ej ha.1 ha.2,h.Ej hb.1 hb.2];show(bif aX (ah N a).1 (ah N a).2.1 (ah N b).1 (ah N b).2.1==2 then _ else _)=_;cases aX (ah N a).1 (ah N a).2.1 (ah N b).1 (ah N b).2.1==2<;>rfl
theorem Ren.TT(h:Ren f N Y)(ha:0≤a∧a<(N.length:Nat))(hb:0≤b∧b<(N.length:Nat)):Tr.TT bk Y (fI f a) (fI f b)=Tr.TT bk N a b:=by
 have hf:=Aa (xs:=N) ha hb;unfold Tr.TT;rw[h.first ha hb];show(if(gM bk (ah Y (fI f (aC N a b).1)) (ah Y (fI f (aC N a b).2))).2≠0 then(gM bk (ah Y (fI f (aC N a b).1)) (ah Y (fI f (aC N a b).2))).2 else if 600<IntKind.i64.wrap ((Tr.dh Y Y.length:Nat)+(gM bk (ah Y (fI f (aC N a b).1)) (ah Y (fI f (aC N a b).2))).1)then 4 else 0)=_;rw[h.Ej hf.1.1 hf.1.2,h.Ej hf.2.1 hf.2.2,Tx,h.dh]
theorem Ren.Sn(h:Ren f N Y)(ha:0≤a∧a<(N.length:Nat))(hb:0≤b∧b<(N.length:Nat)):Tr.Sn Y (fI f a) (fI f b)=Tr.Sn N a b:=by
 have hf:=Aa (xs:=N) ha hb;unfold Tr.Sn;rw[h.first ha hb];show bF (ah Y (fI f (aC N a b).1)) (ah Y (fI f (aC N a b).2))=_;rw[h.Ej hf.1.1 hf.1.2,h.Ej hf.2.1 hf.2.2,IJ]
theorem Ren.MX(h:Ren f N Y)(ha:0≤a∧a<(N.length:Nat))(hb:0≤b∧b<(N.length:Nat))(hn:YE bk N a b)(hA:bf N)(h0:ak N (0,0))(hw:BkW bk):Ren f (Tr.MX bk N a b) (Tr.MX bk Y (fI f a) (fI f b)):=by
 have k:=h.done hn.sp hA h0 hn.hc hw hn.h7;unfold Tr.MX;rw[h.Sn ha hb,h.first ha hb];exact k
theorem Ren.le(h:Ren f N Y):N.length≤Y.length:=by
 have k:∀i:Nat,i≤f i:=fun i=>by
  induction i with
  |zero=>exact Nat.zero_le _
  |succ i ih=>have:=h.mono i (i+1) (Nat.lt_succ_self i);omega
 rw[←h.len];exact k _
end
structure RS(kv:List (Int×Bool))(xs N P:List aj):Prop where
 tx:∃(Y:List aj) (f:Nat→Nat),Twin kv xs Y∧Ren f N Y
 wx:yI (fun _=>False) xs
 tn:∃(k:List (Int×Bool)) (z:List aj),Twin k z N
 tp:∃(k:List (Int×Bool)) (z:List aj) (g:Nat→Nat),Twin k z P∧Ren g N P
section
variable {kv:List (Int×Bool)}{xs N P:List aj}{bk:List (List aj)}
theorem Twin.ZbL{k:List (Int×Bool)}{z Y:List aj}{f:Nat→Nat}(T:Twin k z N)(h:Ren f N Y):kH Y=(kH N).map (pF f):=h.prs T.Kl T.VX
theorem Twin.XJ{k:List (Int×Bool)}{z Y:List aj}(T:Twin k z Y):Twin [] (mI Y) (mI Y)∧Ren (UG k Y) (mI Y) Y:=⟨T.en.2.twin T T.en.1,T.en.1⟩
theorem Twin.Z5{z Y:List aj}(T:Twin [] z Y):yI (fun _=>False) z:=fun i h0 h1 _=>T.wf i h0 h1 fun e=>by
 have e':bE false ([]:List (Int×Bool)) i=true:=e;cases e'
theorem RS.ZX(h:RS kv xs N P):RS kv xs (mI N) (mI N)∧mI P=mI N:=by
 obtain⟨Y,f,TY,rf⟩:=h.tx;obtain⟨k,z,TN⟩:=h.tn;obtain⟨k2,z2,g,TP,rg⟩:=h.tp;have F:=TN.XJ;exact⟨⟨⟨Y,_,TY,F.2.trans rf⟩,h.wx,⟨_,_,F.1⟩,⟨_,_,_,F.1,Ren.refl _⟩⟩,rg.pack TN.Kl⟩
theorem RS.start{xs:List aj}(T:Twin [] xs xs):RS [] xs xs xs:=⟨⟨_,_,T,Ren.refl _⟩,T.Z5,⟨_,_,T⟩,⟨_,_,_,T,Ren.refl _⟩⟩
end
theorem tJ{p lo hi d:Int}(h0:lo≤p)(h1:p≤hi)(hb: -1000≤lo∧hi≤1000∧ -1000≤d∧d≤1000):(jR p lo hi d).1=p+d:=by
 unfold jR;rw[decide_eq_false (show ¬p<lo by omega),qH,decide_eq_false (show ¬hi<p by omega),qH];exact qO _ (by omega)
theorem Xw{bk:List (List aj)}{xs:List aj}{c x y:Int}(hc:1≤c∧c≤7)(py:1≤(ah xs y).2.2.2.2.length∧(ah xs y).2.2.2.2.length≤4)(px:1≤(ah xs x).2.2.2.2.length∧(ah xs x).2.2.2.2.length≤4)
  (k6:c=6→(ah xs x).1=6∨(ah xs x).1=9) (k7:c=7→2≤(bP bk (ah xs x).2.2.1).length∧(bP bk (ah xs x).2.2.1).length≤600):r9 bk xs c x y+((gD c x y).length:Nat)=((rz bk xs c x y).length:Nat):=by
 have w1:∀n:Nat,1≤n→n≤4→IntKind.i64.wrap ((n:Nat)-1)=(n:Int)-1:=fun n h1 h2=>qO _ (by omega)
 have hcs:c=1∨c=2∨c=3∨c=4∨c=5∨c=6∨c=7:=by omega
 rcases hcs with rfl|rfl|rfl|rfl|rfl|rfl|rfl
 ·rfl
 ·rfl
 ·show(jR (IntKind.i64.wrap (((ah xs y).2.2.2.2.length:Nat)-1)) 0 3 0).1+2=(([lq xs y]++[lq xs y]++List.replicate ((ah xs y).2.2.2.2.length-1) (bg 4 (ah xs x).2.1 0 [] 3)).length:Nat);rw[w1 _ py.1 py.2,tJ (by omega) (by omega) (by omega)];simp only[qA,qI,qR,List.length_replicate];omega
 ·show(jR (IntKind.i64.wrap (((ah xs y).2.2.2.2.length:Nat)-1)) 0 3 (-2)).1+2=((List.replicate ((ah xs y).2.2.2.2.length-1) (bg 5 0 0 [] 1)).length:Nat);rw[w1 _ py.1 py.2,tJ (by omega) (by omega) (by omega)];simp only[List.length_replicate];omega
 ·have e:(rz bk xs 5 x y).length=1:=by
   show(bif (ah xs y).1==7 then[bg 8 (ah xs y).2.1 (ah xs y).2.2.1 [(ah xs x).2.2.1] 2]else[bg 6 0 (wK (ah xs y).2.2.1 (jd (ah xs y).2.2.2.1 0) (ah xs x).2.2.1) [] 1]).length=1;cases (ah xs y).1==7<;>rfl
  rw[e];rfl
 ·show(jR (bif (ah xs x).1==9 then IntKind.i64.wrap (((ah xs x).2.2.2.2.length:Nat)-1)else 0) 0 3 (-1)).1+2=((bif (ah xs x).1==6 then[bg 12 (ah xs y).2.1 (jd (ah xs y).2.2.2.1 (bif (ah xs x).2.2.1==0 then 1 else 0)) [] 1]
   else[bg 12 (ah xs y).2.1 (jd (ah xs y).2.2.2.1 (ah xs x).2.2.1) [] 1]++List.replicate ((ah xs x).2.2.2.2.length-1) (bg 3 (ah xs y).2.1 0 [] 3)).length:Nat)
  rcases k6 rfl with e|e
  ·rw[e];rfl
  ·rw[e];show(jR (IntKind.i64.wrap (((ah xs x).2.2.2.2.length:Nat)-1)) 0 3 (-1)).1+2=(([bg 12 (ah xs y).2.1 (jd (ah xs y).2.2.2.1 (ah xs x).2.2.1) [] 1]++List.replicate ((ah xs x).2.2.2.2.length-1) (bg 3 (ah xs y).2.1 0 [] 3)).length:Nat);rw[w1 _ px.1 px.2,tJ (by omega) (by omega) (by omega)];simp only[qA,qI,qR,List.length_replicate];omega
 ·show(jR ((bP bk (ah xs x).2.2.1).length:Nat) 2 600 (-2)).1+1=((((kY bk xs x).drop 1).map (bW ((xs.length:Nat)-1))).length:Nat);have:=k7 rfl;have e:(kY bk xs x).length=(bP bk (ah xs x).2.2.1).length:=by unfold kY;unfold bY;exact qV _
  rw[tJ (by omega) (by omega) (by omega),qV,List.length_drop,e];omega
theorem Yy{kv:List (Int×Bool)}(hT:∀e∈kv,e.2=true){c x y:Int}(hx:bE false kv x=false)(hy:bE false kv y=false)(hxy:x≠y):(kW kv (gD c x y)).length=kv.length+(gD c x y).length:=by
 unfold gD;cases c==7 with
 |true=>exact tN hT hx
 |false=>
  show(fM (fM kv x true) y true).length=kv.length+2;rw[tN (GV hT x) (by rw[tL,if_neg hxy];exact hy),tN hT hx]
end Go.Tr
