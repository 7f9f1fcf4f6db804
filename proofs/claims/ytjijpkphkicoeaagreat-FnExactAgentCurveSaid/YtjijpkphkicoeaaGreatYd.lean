
/- A net without holes and a net with holes: a renaming of agents that interactions keep. No program in it. -/
import Derived.Test.YtjijpkphkicoeaaGreatNz
set_option linter.unusedSimpArgs false
set_option linter.unusedVariables false
namespace Go.Tr
open Go Go.RowKit
def fI(f:Nat→Nat)(z:Int):Int:=bif decide (0≤z)then((f z.toNat:Nat):Int)else z
structure Ren(f:Nat→Nat)(P Y:List NAgent):Prop where
 mono:∀i j:Nat,i<j→f i<f j
 zero:f 0=0
 ends:∀j:Nat,f (P.length+j)=Y.length+j
 at_:∀i:Nat,i<P.length→agAt Y ((f i:Nat):Int)=nW (fI f) (agAt P (i:Nat))
 hole:∀k:Nat,k<Y.length→(∀i:Nat,f i≠k)→agAt Y (k:Nat)=xU
theorem rnA_ports(F:Int→Int)(a:NAgent):(nW F a).2.2.2.2.length=a.2.2.2.2.length:=by unfold nW;simp
section
variable {f:Nat→Nat}{P Y:List NAgent}{p q:NPort}
theorem fI_pos{z:Int}(h:0≤z):fI f z=((f z.toNat:Nat):Int):=by unfold fI;rw[decide_eq_true h];rfl
theorem qp{z:Int}(h:¬0≤z):fI f z=z:=by unfold fI;rw[decide_eq_false h];rfl
theorem oJ(k:Nat):fI f ((k:Nat):Int)=((f k:Nat):Int):=by rw[fI_pos (by omega),Int.toNat_natCast]
theorem Ren.inj(h:Ren f P Y){i j:Nat}(e:f i=f j):i=j:=by
 rcases Nat.lt_trichotomy i j with k|k|k
 ·have:=h.mono i j k;omega
 ·exact k
 ·have:=h.mono j i k;omega
theorem Ren.lt(h:Ren f P Y){i j:Nat}:f i<f j↔i<j:=by
 constructor
 ·intro e;rcases Nat.lt_trichotomy i j with k|k|k
  ·exact k
  ·subst k;omega
  ·have:=h.mono j i k;omega
 ·exact h.mono i j
theorem Ren.len(h:Ren f P Y):f P.length=Y.length:=h.ends 0
theorem Ren.Ri(h:Ren f P Y){i:Nat}:f i<Y.length↔i<P.length:=by rw[←h.len];exact h.lt
theorem Ren.in_(h:Ren f P Y){z:Int}:(0≤fI f z∧fI f z<(Y.length:Nat))↔(0≤z∧z<(P.length:Nat)):=by
 by_cases h0:0≤z
 ·rw[fI_pos h0];have k:=h.Ri (i:=z.toNat);constructor
  ·rintro⟨_,h2⟩;have:=k.1 (by omega);omega
  ·rintro⟨_,h2⟩;have:=k.2 (by omega);omega
 ·rw[qp h0];constructor
  ·rintro⟨h1,_⟩;exact absurd h1 h0
  ·rintro⟨h1,_⟩;exact absurd h1 h0
theorem Ren.injI(h:Ren f P Y){a b:Int}:fI f a=fI f b↔a=b:=by
 constructor
 ·intro e
  by_cases ha:0≤a
  ·by_cases hb:0≤b
   ·rw[fI_pos ha,fI_pos hb]at e;have:=h.inj (i:=a.toNat) (j:=b.toNat) (by omega);omega
   ·rw[fI_pos ha,qp hb]at e;omega
  ·by_cases hb:0≤b
   ·rw[qp ha,fI_pos hb]at e;omega
   ·rw[qp ha,qp hb]at e;exact e
 ·intro e;rw[e]
theorem Ren.atI(h:Ren f P Y){z:Int}(h0:0≤z)(h1:z<(P.length:Nat)):agAt Y (fI f z)=nW (fI f) (agAt P z):=by
 have k:=h.at_ z.toNat (by omega);rw[show((z.toNat:Nat):Int)=z by omega]at k;rw[fI_pos h0];exact k
theorem Ren.pin(h:Ren f P Y):PortIn Y (rnP (fI f) p)↔PortIn P p:=by
 constructor
 ·rintro⟨h1,h2,h3,h4⟩;have k:=h.in_.1 ⟨h1,h2⟩;refine⟨k.1,k.2,h3,?_⟩;have h5:p.2<((agAt Y (fI f p.1)).2.2.2.2.length:Nat):=h4;rw[h.atI k.1 k.2,rnA_ports]at h5;exact h5
 ·rintro⟨h1,h2,h3,h4⟩;have k:=h.in_.2 ⟨h1,h2⟩;refine⟨k.1,k.2,h3,?_⟩;show p.2<((agAt Y (fI f p.1)).2.2.2.2.length:Nat);rw[h.atI h1 h2,rnA_ports];exact h4
theorem Ren.peer(h:Ren f P Y)(hp:PortIn P p):peerN Y (rnP (fI f) p)=rnP (fI f) (peerN P p):=by
 obtain⟨h1,h2,h3,h4⟩:=hp;have h6:p.2<((agAt P p.1).2.2.2.2.length:Nat):=h4;have h5:p.2.toNat<(agAt P p.1).2.2.2.2.length:=by omega
 show elt (dflt uPort) (agAt Y (fI f p.1)).2.2.2.2 p.2=rnP (fI f) (elt (dflt uPort) (agAt P p.1).2.2.2.2 p.2);rw[h.atI h1 h2];show elt (dflt uPort) ((agAt P p.1).2.2.2.2.map (rnP (fI f))) p.2=_;unfold elt;rw[List.getD_eq_getElem?_getD,List.getD_eq_getElem?_getD,List.getElem?_map,List.getElem?_eq_getElem h5];rfl
theorem Ren.Uh(h:Ren f P Y)(hA:AllIn Y):AllIn P:=fun p hp=>by
 have k:=hA _ (h.pin.2 hp);rw[h.peer hp]at k;exact h.pin.1 k
theorem Ren.set(h:Ren f P Y){i:Nat}(hi:i<P.length)(a:NAgent):Ren f (P.set i a) (Y.set (f i) (nW (fI f) a)):=by
 refine⟨h.mono,h.zero,fun j=>by rw[List.length_set,List.length_set];exact h.ends j,fun j hj=> ?_,fun k hk hn=> ?_⟩
 ·rw[List.length_set]at hj;rw[ji,ji,Int.toNat_natCast,Int.toNat_natCast]
  by_cases e:i=j
  ·subst e;rw[if_pos ⟨rfl,h.Ri.2 hi⟩,if_pos ⟨rfl,hi⟩]
  ·rw[if_neg fun k=>e (h.inj k.1),if_neg fun k=>e k.1];exact h.at_ j hj
 ·rw[List.length_set]at hk;rw[ji,Int.toNat_natCast,if_neg fun e=>hn i e.1];exact h.hole k hk hn
theorem Ren.app(h:Ren f P Y)(a:NAgent):Ren f (P++[a]) (Y++[nW (fI f) a]):=by
 have hl:=h.len;refine⟨h.mono,h.zero,fun j=> ?_,fun j hj=> ?_,fun k hk hn=> ?_⟩
 ·have k:=h.ends (1+j);rw[List.length_append,List.length_append,List.length_singleton,List.length_singleton,Nat.add_assoc,Nat.add_assoc];exact k
 ·rw[List.length_append,List.length_singleton]at hj
  by_cases e:j<P.length
  ·have e2:=h.Ri.2 e;rw[bD (by rw[Int.toNat_natCast];exact e2),bD (by rw[Int.toNat_natCast];exact e)];exact h.at_ j e
  ·have e2:j=P.length:=by omega
   subst e2;rw[mF (by rw[Int.toNat_natCast];exact hl),mF (by rw[Int.toNat_natCast])]
 ·rw[List.length_append,List.length_singleton]at hk
  have hk2:k<Y.length:=by
   have:=hn P.length;omega
  rw[bD (by rw[Int.toNat_natCast];exact hk2)];exact h.hole k hk2 hn
theorem PI(h:f 0=0)(k l v:Int)(d:List Int)(n:Nat):nW (fI f) (aJ k l v d n)=aJ k l v d n:=by
 have e:rnP (fI f) (0,0)=(0,0):=by
  unfold rnP;have:fI f 0=0:=by rw[fI_pos (Int.le_refl 0)];show((f 0:Nat):Int)=0;rw[h];rfl
  rw[this]
 unfold nW aJ;simp only[List.map_replicate,e]
theorem Ren.add(h:Ren f P Y)(k l v:Int)(d:List Int)(n:Nat):Ren f (P++[aJ k l v d n]) (Y++[aJ k l v d n]):=by
 have:=h.app (aJ k l v d n)
 rwa[PI h.zero]at this
theorem Ren.drop(h:Ren f P Y){z:Int}(h0:0≤z)(h1:z<(P.length:Nat)):Ren f (aK P z) (aK Y (fI f z)):=by
 have k:=h.set (i:=z.toNat) (by omega) xU;unfold aK;rw[fI_pos h0,Int.toNat_natCast];exact k
theorem Ren.RO(h:Ren f P Y)(h0:0≤p.1)(h1:p.1<(P.length:Nat)):Ren f (ay P p q) (ay Y (rnP (fI f) p) (rnP (fI f) q)):=by
 have k:=h.set (i:=p.1.toNat) (by omega) ((agAt P p.1).1,(agAt P p.1).2.1,(agAt P p.1).2.2.1,(agAt P p.1).2.2.2.1,(agAt P p.1).2.2.2.2.set p.2.toNat q)
 have e:ay Y (rnP (fI f) p) (rnP (fI f) q)=Y.set (f p.1.toNat) (nW (fI f) ((agAt P p.1).1,(agAt P p.1).2.1,(agAt P p.1).2.2.1,(agAt P p.1).2.2.2.1,(agAt P p.1).2.2.2.2.set p.2.toNat q)):=by
  unfold ay;show Y.set (fI f p.1).toNat ((agAt Y (fI f p.1)).1,(agAt Y (fI f p.1)).2.1,(agAt Y (fI f p.1)).2.2.1,(agAt Y (fI f p.1)).2.2.2.1,(agAt Y (fI f p.1)).2.2.2.2.set p.2.toNat (rnP (fI f) q))=_;rw[h.atI h0 h1,fI_pos h0,Int.toNat_natCast];unfold nW;simp only[List.map_set]
 rw[e];exact k
theorem Ren.link(h:Ren f P Y)(hp:PortIn P p)(hq:PortIn P q):Ren f (aR P p q) (aR Y (rnP (fI f) p) (rnP (fI f) q)):=by
 unfold aR;exact(h.RO hp.1 hp.2.1).RO hq.1 (by rw[bn];exact hq.2.1)
theorem Ren.move(h:Ren f P Y)(hA:AllIn P)(hp:PortIn P p)(hq:PortIn P q):Ren f (bG P p q) (bG Y (rnP (fI f) p) (rnP (fI f) q)):=by
 unfold bG;rw[h.peer hp];exact h.link (hA p hp) hq
theorem Ren.join(h:Ren f P Y)(hA:AllIn P)(hp:PortIn P p)(hq:PortIn P q):Ren f (aB P p q) (aB Y (rnP (fI f) p) (rnP (fI f) q)):=by
 unfold aB;rw[h.peer hp,h.peer hq]
 have e:((rnP (fI f) (peerN P p)).1==(rnP (fI f) q).1)=((peerN P p).1==q.1):=by
  rw[Bool.eq_iff_iff,beq_iff_eq,beq_iff_eq];exact h.injI
 rw[e];show Ren f _ (bif ((peerN P p).1==q.1&&(peerN P p).2==q.2)then Y else aR Y (rnP (fI f) (peerN P p)) (rnP (fI f) (peerN P q)));cases ((peerN P p).1==q.1&&(peerN P p).2==q.2)
 ·exact h.link (hA p hp) (hA q hq)
 ·exact h
theorem Ren.nl(h:Ren f P Y)(j:Nat)(s:Int):rnP (fI f) (((P.length+j:Nat):Int),s)=(((Y.length+j:Nat):Int),s):=by
 unfold rnP;rw[oJ,h.ends]
theorem Ren.n0(h:Ren f P Y)(s:Int):rnP (fI f) (((P.length:Nat):Int),s)=(((Y.length:Nat):Int),s):=h.nl 0 s
variable {x y c d:Int}
theorem Ren.kE(h:Ren f P Y){i:Nat}(hx:0≤x∧x<(P.length:Nat))(hc:PortIn P (c,(i:Nat)))(hd:PortIn P (d,(i:Nat))):Ren f (kE x c d P i) (kE (fI f x) (fI f c) (fI f d) Y i):=by
 have e:(agAt Y (fI f x)).2.1=(agAt P x).2.1:=by rw[h.atI hx.1 hx.2];rfl
 unfold Tr.kE;rw[e];have h1:=h.add 4 (agAt P x).2.1 0 [] 3;have h2:=h1.link (p:=((P.length:Nat),1)) (q:=(c,(i:Nat))) (PortIn.new (by decide) (by decide)) hc.app;have h3:=h2.link (p:=((P.length:Nat),2)) (q:=(d,(i:Nat))) (PortIn.link (PortIn.new (by decide) (by decide))) hd.app.link;rw[h.n0 1,h.n0 2]at h3;exact h3
theorem Ren.bH(h:Ren f P Y)(hx:0≤x∧x<(P.length:Nat)):∀k:Nat,(∀i:Nat,i≤k→PortIn P (c,(i:Nat))∧PortIn P (d,(i:Nat)))→Ren f (bH x c d P k) (bH (fI f x) (fI f c) (fI f d) Y k)
 |0,_=>h
 |k+1,hk=>(h.bH hx k fun i hi=>hk i (by omega)).kE (by rw[fE];omega) (aX (hk (k+1) (Nat.le_refl _)).1 k) (aX (hk (k+1) (Nat.le_refl _)).2 k)
theorem Ren.bB(h:Ren f P Y){b b2:Nat}(hA:AllIn P)(hb:∀i:Nat,f (b+i)=b2+i):∀k:Nat,(∀i:Nat,i<k→PortIn P (y,((i:Nat):Int)+1)∧PortIn P (((b+i:Nat):Int),0))→Ren f (bB y b P k) (bB (fI f y) b2 Y k)
 |0,_=>h
 |k+1,hk=>by
  have ih:=h.bB hA hb k fun i hi=>hk i (by omega)
  have k1:=ih.move (iU hA k fun i hi=>hk i (by omega)) (cZ (hk k (by omega)).1 k) (cZ (hk k (by omega)).2 k);have e:rnP (fI f) (((b+k:Nat):Int),0)=(((b2+k:Nat):Int),0):=by unfold rnP;rw[oJ,hb]
  rw[e]at k1;exact k1
theorem Ren.duplicate(h:Ren f P Y)(hA:AllIn P)(h0:PortIn P (0,0))(hx:0≤x∧x<(P.length:Nat))(hy:0≤y∧y<(P.length:Nat))(hx1:PortIn P (x,1))(hx2:PortIn P (x,2))(py:0<(agAt P y).2.2.2.2.length):Ren f (aO P x y) (aO Y (fI f x) (fI f y)):=by
 have ey:=h.atI hy.1 hy.2;have en:(agAt Y (fI f y)).2.2.2.2.length=(agAt P y).2.2.2.2.length:=by rw[ey];exact rnA_ports _ _
 have eC:jN Y (fI f y)=jN P y:=by unfold jN;rw[en,ey];rfl
 have h2:Ren f (dup2 P y) (dup2 Y (fI f y)):=by
  unfold dup2;rw[eC];exact(h.add _ _ _ _ _).add _ _ _ _ _
 have ec:fI f ((P.length:Nat):Int)=((Y.length:Nat):Int):=by rw[oJ,h.len]
 have ed:fI f ((P.length+1:Nat):Int)=((Y.length+1:Nat):Int):=by rw[oJ,h.ends 1]
 have hcd:∀i:Nat,i≤(agAt P y).2.2.2.2.length-1→PortIn (dup2 P y) (((P.length:Nat):Int),(i:Nat))∧PortIn (dup2 P y) (((P.length+1:Nat):Int),(i:Nat)):=fun i hi=>⟨ng (by omega) (by omega),ni (by omega) (by omega)⟩
 have h3:Ren f (dup3 P x y) (dup3 Y (fI f x) (fI f y)):=by
  unfold dup3;rw[en,←ec,←ed];exact h2.bH (by rw[dM];omega) _ hcd
 have h2A:=rC (y:=y) hA h0;have h3A:AllIn (dup3 P x y):=jF h2A (jT h0) _ hcd;have i3:∀{p},PortIn P p→PortIn (dup3 P x y) p:=fun h=>aX (jT h) _
 have hc0:PortIn (dup3 P x y) (((P.length:Nat):Int),0):=aX (ng (by decide) (by omega)) _;have hd0:PortIn (dup3 P x y) (((P.length+1:Nat):Int),0):=aX (ni (by decide) (by omega)) _;have h4A:AllIn (iT P x y):=(h3A.move (i3 hx1) hc0).move (i3 hx2).move hd0.move
 have h4:Ren f (iT P x y) (iT Y (fI f x) (fI f y)):=by
  have k:=(h3.move h3A (i3 hx1) hc0).move (h3A.move (i3 hx1) hc0) (i3 hx2).move hd0.move;rw[h.n0 0,h.nl 1 0]at k;exact k
 unfold aO;rw[en];refine h4.bB h4A (fun i=>by rw[Nat.add_assoc,Nat.add_assoc];exact h.ends (2+i)) _ fun i hi=>⟨(i3 ⟨hy.1,hy.2,by omega,?_⟩).move.move,?_⟩
 ·show((i:Nat):Int)+1<((agAt P y).2.2.2.2.length:Nat);omega
 ·have:=(nk (x:=x) (c:=((P.length:Nat):Int)) (d:=((P.length+1:Nat):Int)) (xs:=dup2 P y) hi).move (p:=(x,1)) (q:=(((P.length:Nat):Int),0));have:=this.move (p:=(x,2)) (q:=(((P.length+1:Nat):Int),0));rw[dM]at this;exact this
theorem Ren.nZ(h:Ren f P Y)(hA:AllIn P)(h0:PortIn P (0,0)):∀k:Nat,(∀i:Nat,i<k→PortIn P (y,((i+1:Nat):Int)))→Ren f (nZ y P k) (nZ (fI f y) Y k)
 |0,_=>h
 |k+1,hk=>by
  have ih:=h.nZ hA h0 k fun i hi=>hk i (by omega)
  have k1:=(ih.add 5 0 0 [] 1).move ((sF hA h0 k fun i hi=>hk i (by omega)).add (lu h0 k) _ _ _ _ _) (lu (hk k (by omega)) k).app (vD k);rw[h.nl k 0]at k1;exact k1
theorem Ren.operate(h:Ren f P Y)(hA:AllIn P)(h0:PortIn P (0,0))(hx:0≤x∧x<(P.length:Nat))(hy:0≤y∧y<(P.length:Nat))(j1:PortIn P (y,1))(j2:(agAt P y).1=7→PortIn P (y,2)):Ren f (aM P x y) (aM Y (fI f x) (fI f y)):=by
 unfold aM;rw[h.atI hx.1 hx.2,h.atI hy.1 hy.2]
 show Ren f _ (bif (agAt P y).1==7 then bG (bG (Y++[aJ 8 (agAt P y).2.1 (agAt P y).2.2.1 [(agAt P x).2.2.1] 2]) (fI f y,1) ((Y.length:Nat),0)) (fI f y,2) ((Y.length:Nat),1)
  else bG (Y++[aJ 6 0 (rQ (agAt P y).2.2.1 (fP (agAt P y).2.2.2.1 0) (agAt P x).2.2.1) [] 1]) (fI f y,1) ((Y.length:Nat),0))
 cases hk:(agAt P y).1==7 with
 |true=>
  have k7:=j2 (by simpa using hk);have A1:=hA.add h0 8 (agAt P y).2.1 (agAt P y).2.2.1 [(agAt P x).2.2.1] 2;have k:=((h.add 8 (agAt P y).2.1 (agAt P y).2.2.1 [(agAt P x).2.2.1] 2).move (p:=(y,1)) (q:=((P.length:Nat),0)) A1 j1.app (PortIn.new (by decide) (by decide))).move (p:=(y,2)) (q:=((P.length:Nat),1)) (A1.move j1.app (PortIn.new (by decide) (by decide))) k7.app.move (PortIn.new (by decide) (by decide)).move;rw[h.n0 0,h.n0 1]at k;exact k
 |false=>
  have k:=(h.add 6 0 (rQ (agAt P y).2.2.1 (fP (agAt P y).2.2.2.1 0) (agAt P x).2.2.1) [] 1).move (p:=(y,1)) (q:=((P.length:Nat),0)) (hA.add h0 _ _ _ _ _) j1.app (PortIn.new (by decide) (by decide));rw[h.n0 0]at k;exact k
theorem Ren.fF(h:Ren f P Y)(hb:rnP (fI f) (Tr.fF P.length 0)=Tr.fF Y.length 0):∀k:Nat,rnP (fI f) (Tr.fF P.length k)=Tr.fF Y.length k
 |0=>hb
 |k+1=>h.nl k 2
theorem Ren.lF(h:Ren f P Y){lv:Int}(hA:AllIn P)(h0:PortIn P (0,0))(hr:PortIn P (Tr.fF P.length 0))(hb:rnP (fI f) (Tr.fF P.length 0)=Tr.fF Y.length 0):∀k:Nat,(∀i:Nat,i<k→PortIn P (x,((i+1:Nat):Int)))→Ren f (Tr.lF lv x P.length P k) (Tr.lF lv (fI f x) Y.length Y k)
 |0,_=>h
 |k+1,hk=>by
  have ih:=h.lF (lv:=lv) hA h0 hr hb k fun i hi=>hk i (by omega)
  have A2:=(qm (lv:=lv) hA h0 hr k fun i hi=>hk i (by omega)).add (jR h0 k) 3 lv 0 [] 3;have A3:=A2.link (rz hr k).app (ql k (s:=0) (by decide) (by decide));have i1:=(ih.add 3 lv 0 [] 3).link (p:=Tr.fF P.length k) (q:=(((P.length+k:Nat):Int),0)) (rz hr k).app (ql k (by decide) (by decide));have i2:=i1.move (p:=(x,((k+1:Nat):Int))) (q:=(((P.length+k:Nat):Int),1)) A3 (jR (hk k (by omega)) k).app.link (ql k (by decide) (by decide)).link;rw[h.fF hb k,h.nl k 0,h.nl k 1]at i2;exact i2
theorem Ren.choose(h:Ren f P Y)(hA:AllIn P)(h0:PortIn P (0,0))(hx:0≤x∧x<(P.length:Nat))(hy:0≤y∧y<(P.length:Nat))(j1:PortIn P (y,1)):Ren f (bE P x y) (bE Y (fI f x) (fI f y)):=by
 have ex:=h.atI hx.1 hx.2;have ey:=h.atI hy.1 hy.2;have en:(agAt Y (fI f x)).2.2.2.2.length=(agAt P x).2.2.2.2.length:=by rw[ex];exact rnA_ports _ _
 have eR:∀i,Ren f (aL P y i) (aL Y (fI f y) i):=fun i=>by
  unfold aL;rw[ey];exact h.add _ _ _ _ _
 unfold bE;rw[en,ex,ey]
 show Ren f _ (bif (agAt P y).1==11 then bG (aL Y (fI f y) (bif (agAt P x).2.2.1==0 then 1 else 0)) (fI f y,1) ((Y.length:Nat),0)
  else bG (Tr.lF (agAt P y).2.1 (fI f x) (Y.length+1) (aL Y (fI f y) (agAt P x).2.2.1) ((agAt P x).2.2.2.2.length-1)) (fI f y,1) (Tr.fF (Y.length+1) ((agAt P x).2.2.2.2.length-1)))
 cases hk:(agAt P y).1==11 with
 |true=>
  have k:=(eR (bif (agAt P x).2.2.1==0 then 1 else 0)).move (p:=(y,1)) (q:=((P.length:Nat),0)) (hA.add h0 _ _ _ _ _) j1.app (PortIn.new (by decide) (by decide));rw[h.n0 0]at k;exact k
 |false=>
  simp only[cond_false];have h1:=eR (agAt P x).2.2.1;have l1:(aL P y (agAt P x).2.2.1).length=P.length+1:=mH _ _ _;have l2:(aL Y (fI f y) (agAt P x).2.2.1).length=Y.length+1:=mH _ _ _;have h1A:AllIn (aL P y (agAt P x).2.2.1):=hA.add h0 _ _ _ _ _;have h1R:PortIn (aL P y (agAt P x).2.2.1) (Tr.fF (aL P y (agAt P x).2.2.1).length 0):=by rw[l1];exact PortIn.new (by decide) (by decide)
  have hb:rnP (fI f) (Tr.fF (aL P y (agAt P x).2.2.1).length 0)=Tr.fF (aL Y (fI f y) (agAt P x).2.2.1).length 0:=by rw[l1,l2];exact h.n0 0
  have hpx:∀i:Nat,i<(agAt P x).2.2.2.2.length-1→PortIn (aL P y (agAt P x).2.2.1) (x,((i+1:Nat):Int)):=fun i hi=>PortIn.app ⟨hx.1,hx.2,by omega,by show((i+1:Nat):Int)<((agAt P x).2.2.2.2.length:Nat);omega⟩
  have h2:=h1.lF (lv:=(agAt P y).2.1) h1A (PortIn.app h0) h1R hb _ hpx;have h2A:=qm (lv:=(agAt P y).2.1) h1A (PortIn.app h0) h1R _ hpx;have k:=h2.move (p:=(y,1)) h2A (jR (PortIn.app j1) _) (rz h1R ((agAt P x).2.2.2.2.length-1));rw[h1.fF hb,l1,l2]at k;exact k
end
end Go.Tr
namespace Go.Tr
open Go Go.RowKit
section
variable {f:Nat→Nat}{P Y:List NAgent}{x y c:Int}{bk:List (List NAgent)}
theorem ET(lv b:Int)(t:List NAgent):gD lv b t (t.length-1)=((aY lv t).drop 1).map (bg b):=by
 unfold gD;rw[List.take_of_length_le (by rw[List.length_drop,jy];exact Nat.le_refl _)]
theorem qW{xs:List NAgent}{z s:Int}{q:NPort}(h0:0≤z)(h1:z<(xs.length:Nat)):agAt (ay xs (z,s) q) z=((agAt xs z).1,(agAt xs z).2.1,(agAt xs z).2.2.1,(agAt xs z).2.2.2.1,(agAt xs z).2.2.2.2.set s.toNat q):=by
 rw[bW];exact if_pos ⟨rfl,by show z.toNat<xs.length;omega⟩
theorem jP{xs:List NAgent}{z s i:Int}{q:NPort}(h:z.toNat≠i.toNat):agAt (ay xs (z,s) q) i=agAt xs i:=by
 rw[bW];exact if_neg fun k=>h k.1
theorem Nt{α:Type}{u v:List α}{s:Nat}{w:α}(hl:u.length=v.length)(h:∀k:Nat,k≠s→u[k]? =v[k]?):u.set s w=v.set s w:=by
 apply List.ext_getElem?;intro k;rw[List.getElem?_set,List.getElem?_set,hl]
 by_cases e:s=k
 ·rw[if_pos e,if_pos e]
 ·rw[if_neg e,if_neg e];exact h k (Ne.symm e)
theorem Ren.RV(h:Ren f P Y){t:List NAgent}{b b2:Int}{z:NPort}(ht:Wired (fun p=>PortIn t p) t)(h0:PortIn t (0,0))(h00:∀p,PortIn t p→p.1=0→p=(0,0))(hb:b=(P.length:Int)-1)(hb2:b2=(Y.length:Int)-1):
  Ren f (ay (P++(t.drop 1).map (bg b)) ((peerN t (0,0)).1+b,(peerN t (0,0)).2) z) (ay (Y++(t.drop 1).map (bg b2)) ((peerN t (0,0)).1+b2,(peerN t (0,0)).2) (rnP (fI f) z)):=by
 obtain⟨r1,r2,r3,r4⟩:=ht (0,0) h0
 have rpos:1≤(peerN t (0,0)).1:=by
  have h1:=r2.1
  by_cases e:(peerN t (0,0)).1=0
  ·exact absurd (h00 _ r2 e) r4
  ·omega
 have rlt:=r2.2.1;have r3n:=r2.2.2.1
 have key:∀(j:Nat),j+1<t.length→∀(k:Nat) (u:NPort),(agAt t ((j+1:Nat):Int)).2.2.2.2[k]? =some u→¬((peerN t (0,0)).1=((j+1:Nat):Int)∧(peerN t (0,0)).2.toNat=k)→rnP (fI f) (u.1+b,u.2)=(u.1+b2,u.2):=fun j hj k u hu hne=>by
  have hk:=(List.getElem?_eq_some_iff.1 hu).1;have pin:PortIn t (((j+1:Nat):Int),((k:Nat):Int)):=⟨by show(0:Int)≤(j+1:Nat);omega,by show((j+1:Nat):Int)<(t.length:Nat);omega,by show(0:Int)≤(k:Nat);omega,by show((k:Nat):Int)<((agAt t ((j+1:Nat):Int)).2.2.2.2.length:Nat);omega⟩
  have pe:peerN t (((j+1:Nat):Int),((k:Nat):Int))=u:=by
   show elt (dflt uPort) (agAt t ((j+1:Nat):Int)).2.2.2.2 ((k:Nat):Int)=u;unfold elt;rw[Int.toNat_natCast,List.getD_eq_getElem?_getD,hu];rfl
  obtain⟨_,w2,w3,w4⟩:=ht _ pin;rw[pe]at w2 w3;have w1:=w2.1
  have u1:1≤u.1:=by
   by_cases e:u.1=0
   ·exfalso;rw[h00 u w2 e]at w3;refine hne ⟨congrArg Prod.fst w3,?_⟩;have k2:(peerN t (0,0)).2=((k:Nat):Int):=congrArg Prod.snd w3;omega
   ·omega
  have hE:=h.ends (u.1.toNat-1);unfold rnP;show(fI f (u.1+b),u.2)=(u.1+b2,u.2);rw[show u.1+b=((P.length+(u.1.toNat-1):Nat):Int) by omega,oJ,hE];exact Prod.ext (show((Y.length+(u.1.toNat-1):Nat):Int)=u.1+b2 by omega) rfl
 generalize peerN t (0,0)=R at*;obtain⟨Ra,Rs⟩:=R;have rpos':1≤Ra:=rpos;have rlt':Ra<(t.length:Nat):=rlt;have rs':0≤Rs:=r3n;refine⟨h.mono,h.zero,fun j=> ?_,fun i hi=> ?_,fun k hk hn=> ?_⟩
 ·rw[bn,bn,List.length_append,List.length_append,kJ,kJ,Nat.add_assoc,Nat.add_assoc];exact h.ends _
 ·rw[bn,List.length_append,kJ]at hi;show agAt (ay (Y++(t.drop 1).map (bg b2)) (Ra+b2,Rs) (rnP (fI f) z)) ((f i:Nat):Int)=nW (fI f) (agAt (ay (P++(t.drop 1).map (bg b)) (Ra+b,Rs) z) ((i:Nat):Int))
  by_cases e:i<P.length
  ·have e2:=h.Ri.2 e;rw[jP (by omega),jP (by omega),bD (by omega),bD (by omega)];exact h.at_ i e
  ·obtain⟨j,rfl⟩:∃j,i=P.length+j:=⟨i-P.length,by omega⟩;have hj:j+1<t.length:=by omega
   have ef:=h.ends j;have a1:=mU (xs:=P) (t:=t) hb (i:=((P.length+j:Nat):Int)) (by omega) (by omega);have a2:=mU (xs:=Y) (t:=t) hb2 (i:=((Y.length+j:Nat):Int)) (by omega) (by omega);rw[show((P.length+j:Nat):Int)-b=((j+1:Nat):Int) by omega]at a1;rw[show((Y.length+j:Nat):Int)-b2=((j+1:Nat):Int) by omega]at a2;have kj:=key j hj;rw[ef];generalize agAt t ((j+1:Nat):Int)=A at*;have l1:(P++(t.drop 1).map (bg b)).length=P.length+(t.length-1):=by rw[List.length_append,kJ]
   have l2:(Y++(t.drop 1).map (bg b2)).length=Y.length+(t.length-1):=by rw[List.length_append,kJ]
   by_cases hR:Ra=((j+1:Nat):Int)
   ·rw[show Ra+b2=((Y.length+j:Nat):Int) by omega,show Ra+b=((P.length+j:Nat):Int) by omega,qW (by omega) (by rw[l2];omega),qW (by omega) (by rw[l1];omega),a1,a2];unfold nW bg;simp only[List.map_set,List.map_map]
    congr 4
    refine Nt (by simp) fun k hk=> ?_
    rw[List.getElem?_map,List.getElem?_map];cases hu:A.2.2.2.2[k]? with
    |none=>rfl
    |some u=>
     show some _=some _;have:=kj k u hu fun e=>hk e.2.symm
     exact congrArg some this.symm
   ·rw[jP (by omega),jP (by omega),a1,a2];unfold nW bg;simp only[List.map_map]
    congr 4
    apply List.ext_getElem?;intro k;rw[List.getElem?_map,List.getElem?_map];cases hu:A.2.2.2.2[k]? with
    |none=>rfl
    |some u=>
     show some _=some _;have:=kj k u hu fun e=>hR e.1
     exact congrArg some this.symm
 ·rw[bn,List.length_append,kJ]at hk
  have hk2:k<Y.length:=by
   rcases Nat.lt_or_ge k Y.length with e|e
   ·exact e
   ·have h1:=h.ends (k-Y.length);exact absurd (by rw[h1];omega) (hn (P.length+(k-Y.length)))
  show agAt (ay (Y++(t.drop 1).map (bg b2)) (Ra+b2,Rs) (rnP (fI f) z)) ((k:Nat):Int)=xU;rw[jP (by omega),bD (by omega)];exact h.hole k hk2 hn
theorem Ren.expand(h:Ren f P Y){t:List NAgent}{lv:Int}(hy:PortIn P (y,0))(ht:Wired (fun p=>PortIn t p) t)(h0:PortIn t (0,0))(h00:∀p,PortIn t p→p.1=0→p=(0,0)):Ren f (bZ t lv P y) (bZ t lv Y (fI f y)):=by
 unfold bZ;rw[ET,ET];have k:=h.RV (t:=aY lv t) (z:=(y,0)) (b:=(P.length:Int)-1) (b2:=(Y.length:Int)-1) ht.shift (PortIn.gu.2 h0) (fun p hp e=>h00 p (PortIn.gu.1 hp) e) rfl rfl;rw[kW h0]at k;have k2:=k.RO (p:=(y,0)) (q:=((peerN t (0,0)).1+((P.length:Int)-1),(peerN t (0,0)).2)) hy.1 (by rw[bn,List.length_append];have:=hy.2.1;show y<_;have h3:y<(P.length:Nat):=this;omega);obtain⟨r1,r2,r3,r4⟩:=ht (0,0) h0
 have rpos:1≤(peerN t (0,0)).1:=by
  have h1:=r2.1
  by_cases e:(peerN t (0,0)).1=0
  ·exact absurd (h00 _ r2 e) r4
  ·omega
 have hE:=h.ends ((peerN t (0,0)).1.toNat-1)
 have e:rnP (fI f) ((peerN t (0,0)).1+((P.length:Int)-1),(peerN t (0,0)).2)=((peerN t (0,0)).1+((Y.length:Int)-1),(peerN t (0,0)).2):=by
  unfold rnP;show(fI f _,_)=_;rw[show(peerN t (0,0)).1+((P.length:Int)-1)=((P.length+((peerN t (0,0)).1.toNat-1):Nat):Int) by omega,oJ,hE];exact Prod.ext (show((Y.length+((peerN t (0,0)).1.toNat-1):Nat):Int)=(peerN t (0,0)).1+((Y.length:Int)-1) by omega) rfl
 rw[e]at k2;unfold aR;rw[show((P.length:Nat):Int)-1+(peerN t (0,0)).1=(peerN t (0,0)).1+((P.length:Int)-1) by omega,show((Y.length:Nat):Int)-1+(peerN t (0,0)).1=(peerN t (0,0)).1+((Y.length:Int)-1) by omega];exact k2
theorem Ren.inter(h:Ren f P Y)(hp:Cy P c x y)(hA:AllIn P)(h0:PortIn P (0,0))(hc:1≤c∧c≤7)(hb:BkW bk)(h7:c=7→(0≤(agAt P x).2.2.1∧(agAt P x).2.2.1<(bk.length:Nat))):Ren f (d9 bk P c x y) (d9 bk Y c (fI f x) (fI f y)):=by
 obtain⟨⟨hx0,hy0,p12,p3,px,py,dy,p5,p6⟩,s5,s6⟩:=hp;have hcs:c=1∨c=2∨c=3∨c=4∨c=5∨c=6∨c=7:=by omega
 rcases hcs with rfl|rfl|rfl|rfl|rfl|rfl|rfl
 ·obtain⟨j1,j2,j3,j4⟩:=p12 (.inl rfl);exact(h.join hA j1 j3).join (hA.join j1 j3) j2.join j4.join
 ·obtain⟨j1,j2,j3,j4⟩:=p12 (.inr rfl);exact(h.join hA j1 j3).join (hA.join j1 j3) j2.join j4.join
 ·obtain⟨hx1,hx2⟩:=p3 rfl;exact h.duplicate hA h0 hx0 hy0 hx1 hx2 py.1
 ·show Ren f (dZ P y) (dZ Y (fI f y));unfold dZ;rw[h.atI hy0.1 hy0.2,rnA_ports];exact h.nZ hA h0 _ fun i hi=>⟨hy0.1,hy0.2,by omega,by show((i+1:Nat):Int)<((agAt P y).2.2.2.2.length:Nat);omega⟩
 ·obtain⟨j1,j2,j3⟩:=p5 rfl;exact h.operate hA h0 hx0 hy0 j1 j2
 ·obtain⟨j1,j2,j3⟩:=p6 rfl;exact h.choose hA h0 hx0 hy0 j1
 ·obtain⟨v0,v1⟩:=h7 rfl;show Ren f (bZ (aS bk (agAt P x).2.2.1) (agAt P x).2.1 P y) (bZ (aS bk (agAt Y (fI f x)).2.2.1) (agAt Y (fI f x)).2.1 Y (fI f y));rw[h.atI hx0.1 hx0.2];exact h.expand ⟨hy0.1,hy0.2,Int.le_refl 0,by show(0:Int)<((agAt P y).2.2.2.2.length:Nat);omega⟩ (hb.wi _ v0 v1) (hb.r0 _ v0 v1) (hb.r1 _ v0 v1)
theorem Ren.done(h:Ren f P Y)(hp:Cy P c x y)(hA:AllIn P)(h0:PortIn P (0,0))(hc:1≤c∧c≤7)(hb:BkW bk)(h7:c=7→(0≤(agAt P x).2.2.1∧(agAt P x).2.2.1<(bk.length:Nat))):Ren f (dF bk P c x y) (dF bk Y c (fI f x) (fI f y)):=by
 have k:=h.inter (bk:=bk) hp hA h0 hc hb h7;have hle:=BF (xs:=P) bk c x y;have hx:=hp.x0;have hy:=hp.y0;have k1:=k.drop hx.1 (by omega);unfold dF;cases c==7
 ·exact k1.drop hy.1 (by rw[bY];omega)
 ·exact k1
end
end Go.Tr
namespace Go.Tr
open Go Go.RowKit
def prD(xs:List NAgent)(i:Nat):Bool:=
 bif (elt (dflt uPort) (agAt xs (i:Nat)).2.2.2.2 0).2==0 then decide ((i:Int)<(elt (dflt uPort) (agAt xs (i:Nat)).2.2.2.2 0).1)else false
def FV(xs:List NAgent)(i:Nat):Bool:=bif prD xs i then(agAt xs (i:Nat)).1 !=1 else false
def prA(xs:List NAgent)(i:Nat):Int×Int:=((i:Int),(elt (dflt uPort) (agAt xs (i:Nat)).2.2.2.2 0).1)
def prTo(c:Nat→Bool)(xs:List NAgent)(k:Nat):List (Int×Int):=((List.range k).filter c).map (prA xs)
theorem uI{c:Nat→Bool}{xs:List NAgent}{k:Nat}(h:c k=true):prTo c xs (k+1)=prTo c xs k++[prA xs k]:=by
 unfold prTo;rw[List.range_succ,List.filter_append,List.map_append];simp[h]
theorem nS{c:Nat→Bool}{xs:List NAgent}{k:Nat}(h:c k=false):prTo c xs (k+1)=prTo c xs k:=by
 unfold prTo;rw[List.range_succ,List.filter_append];simp[h]
theorem zP(c:Nat→Bool)(xs:List NAgent)(k:Nat):(prTo c xs k).length≤k:=by
 unfold prTo;rw[List.length_map];exact Nat.le_trans (List.length_filter_le _ _) (by simp)
def Cv(xs:List NAgent):Prop:=∀i:Nat,i<xs.length→0<(agAt xs (i:Nat)).2.2.2.2.length
def iK(kv:List (Int×Bool))(p:Int×Int):Bool:=kvGet false kv p.1
def uj(xs:List NAgent)(kv:List (Int×Bool)):List (Int×Int):=(prTo (FV xs) xs xs.length).filter fun p=> !(iK kv p)
theorem filter_all{α:Type}{g:α→Bool}{l:List α}(h:∀x∈l,g x=false):l.filter (fun p=> !(g p))=l:=List.filter_eq_self.2 fun x hx=>by rw[h x hx];rfl
theorem E9{α:Type}{g:α→Bool}:∀(l:List α) (k:Int),0≤k→vK g l k= -1→∀x∈l,g x=false
 |[],_,_,_,x,hx=>by cases hx
 |a::l,k,hk,h,x,hx=>by
  unfold vK at h;cases ha:g a with
  |true=>rw[ha,cond_true]at h;omega
  |false=>
   rw[ha,cond_false]at h;rcases List.mem_cons.1 hx with rfl|hx
   ·exact ha
   ·exact E9 l (k+1) (by omega) h x hx
theorem Fa{α:Type}[Inhabited α]{g:α→Bool}(d:α):∀(l:List α) (k:Int),vK g l k≠ -1→∃m:Nat,vK g l k=k+(m:Nat)∧m<l.length∧(∀x∈l.take m,g x=false)∧g (l.getD m d)=true
 |[],_,h=>absurd rfl h
 |a::l,k,h=>by
  unfold vK at h ⊢;cases ha:g a with
  |true=>
   rw[cond_true];exact⟨0,by omega,by simp,by simp,ha⟩
  |false=>
   rw[ha,cond_false]at h;rw[cond_false];obtain⟨m,e1,e2,e3,e4⟩:=Fa d l (k+1) h;refine⟨m+1,by rw[e1];omega,by rw[List.length_cons];omega,fun x hx=> ?_,e4⟩;rw[List.take_succ_cons]at hx;rcases List.mem_cons.1 hx with rfl|hx
   ·exact ha
   ·exact e3 x hx
theorem LU{α:Type}{g:α→Bool}{x:α}(h:g x=false):[x].filter (fun p=> !(g p))=[x]:=by simp[h]
theorem Da{α:Type}{g:α→Bool}{x:α}(h:g x=true):[x].filter (fun p=> !(g p))=[]:=by simp[h]
theorem Nu{α:Type}{l:List α}{i:Nat}{a:α}(h:i<l.length):(l.set i a).take (i+1)=l.take i++[a]:=by
 rw[List.take_add_one,List.take_set_of_le (Nat.le_refl i),List.getElem?_set_self h];rfl
def rU(sch:List Int)(k:Int):Int:=bif decide (0<((sch.length:Nat):Int))then elt 0 sch (k.tmod ((sch.length:Nat):Int))else 0
def Ib(sch:List Int)(n k:Int):Int:=(rU sch k).tmod n
def oK(sch:List Int)(ps:List (Int×Int))(k:Int):Int×Int:=elt (dflt uPort) ps (Ib sch ((ps.length:Nat):Int) k)
theorem Nr{sch:List Int}(h:∀z∈sch,0≤z)(k:Int):0≤rU sch k:=by
 unfold rU;cases decide (0<((sch.length:Nat):Int))with
 |false=>exact Int.le_refl 0
 |true=>
  rw[cond_true];unfold elt;rw[List.getD_eq_getElem?_getD];cases hg:sch[(k.tmod ((sch.length:Nat):Int)).toNat]? with
  |none=>exact Int.le_refl 0
  |some z=>exact h z (List.mem_of_getElem? hg)
theorem Cn{a n:Int}(h0:0≤a)(hn:0<n):0≤a.tmod n∧a.tmod n<n:=by
 rw[Int.tmod_eq_emod_of_nonneg h0];exact⟨Int.emod_nonneg _ (by omega),Int.emod_lt_of_pos _ hn⟩
theorem wo{sch:List Int}(h:∀z∈sch,0≤z){n:Int}(hn:0<n)(k:Int):0≤Ib sch n k∧Ib sch n k<n:=Cn (Nr h k) hn
def Pm(m n:Int):Bool:=bif decide (n<0)then true else decide (m<n)
def prR(xs:List NAgent)(i:Nat):Bool:=bif decide (1≤i)then(bif liveY xs i then prD xs i else false)else false
def prsN(xs:List NAgent):List (Int×Int):=prTo (prR xs) xs xs.length
theorem OU{ys:List NAgent}{i:Nat}(h:((agAt ys (i:Nat)).1==0)=true):liveY ys i=false:=by unfold liveY bne;rw[h];rfl
theorem OV{ys:List NAgent}{i:Nat}(h:((agAt ys (i:Nat)).1==0)=false):liveY ys i=true:=by unfold liveY bne;rw[h];rfl
section
variable {kv:List (Int×Bool)}{xs ys:List NAgent}
theorem zo{k:Int}(h:kvGet false kv k=false):¬Gone kv k:=fun e=>by
 have e':kvGet false kv k=true:=e;rw[h]at e';cases e'
theorem Twin.Iq(T:Twin kv xs ys):∀k:Nat,k≤xs.length→(prTo (FV xs) xs k).filter (fun p=> !(iK kv p))=prTo (prR ys) ys k
 |0,_=>rfl
 |k+1,hk=>by
  have ih:=T.Iq k (by omega);have hl:=T.len;cases hg:kvGet false kv ((k:Nat):Int)with
  |true=>
   have hv:prR ys k=false:=by
    unfold prR;rw[T.liveY (by omega),hg];cases decide (1≤k)<;>rfl
   rw[nS hv,←ih];cases hc:FV xs k with
   |false=>rw[nS hc]
   |true=>rw[uI hc,List.filter_append,Da (g:=iK kv) (x:=prA xs k) hg,List.append_nil]
  |false=>
   have hd:=zo hg;have e:=T.at_ (i:=((k:Nat):Int)) (by omega) (by omega) hd;have hA:prA ys k=prA xs k:=by unfold prA;rw[e]
   have hD:prD ys k=prD xs k:=by unfold prD;rw[e]
   have hr:((agAt xs (k:Nat)).1 !=1)=decide (1≤k):=by
    by_cases h0:k=0
    ·subst h0;have:=T.r1;rw[show(((0:Nat):Int))=0 from rfl,this];rfl
    ·have:=T.uq (k:Nat) (by omega) (by omega) hd;rw[decide_eq_true (show 1≤k by omega)];simpa using this
   have hc:prR ys k=FV xs k:=by
    unfold prR FV;rw[T.liveY (by omega),hg,hD,hr];cases decide (1≤k)<;>cases prD xs k<;>rfl
   cases hq:FV xs k with
   |false=>rw[nS hq,nS (by rw[hc];exact hq),ih]
   |true=>rw[uI hq,uI (by rw[hc];exact hq),List.filter_append,ih,LU (g:=iK kv) (x:=prA xs k) hg,hA]
theorem Twin.acts(T:Twin kv xs ys):uj xs kv=prsN ys:=by
 unfold uj prsN;rw[T.Iq _ (Nat.le_refl _),T.len]
theorem prs_mem{p:Int×Int}(h:p∈prsN ys):∃i:Nat,i<ys.length∧prR ys i=true∧p=prA ys i:=by
 unfold prsN prTo at h;obtain⟨i,hi,rfl⟩:=List.mem_map.1 h;rw[List.mem_filter,List.mem_range]at hi;exact⟨i,hi.1,hi.2,rfl⟩
theorem Twin.zQ(T:Twin kv xs ys){p:Int×Int}(h:p∈prsN ys):jO (Gone kv) xs p.1 p.2∧(agAt xs p.1).1≠1∧(agAt xs p.2).1≠1∧p.1<p.2:=by
 obtain⟨i,hi,hp,rfl⟩:=prs_mem h;have hl:=T.len;unfold prR at hp;cases h1:decide (1≤i)with
 |false=>rw[h1]at hp;cases hp
 |true=>
 cases h2:Tr.liveY ys i with
 |false=>rw[h1,h2]at hp;cases hp
 |true=>
 have h1':1≤i:=by simpa using h1
 rw[h1,h2]at hp;simp only[cond_true]at hp
 have hg:kvGet false kv ((i:Nat):Int)=false:=by
  rw[T.liveY (by omega)]at h2;simpa using h2
 have hd:=zo hg;have e:=T.at_ (i:=((i:Nat):Int)) (by omega) (by omega) hd;have w1:=(wf_small (T.wf (i:Nat) (by omega) (by omega) hd)).1;unfold prD at hp;rw[e]at hp;have hA:prA ys i=((i:Int),(elt (dflt uPort) (agAt xs (i:Nat)).2.2.2.2 0).1):=by unfold prA;rw[e]
 rw[hA];have hin:Live (Gone kv) xs ((i:Int),0):=⟨⟨by show(0:Int)≤(i:Nat);omega,by show((i:Nat):Int)<(xs.length:Nat);omega,Int.le_refl 0,by show(0:Int)<((agAt xs (i:Nat)).2.2.2.2.length:Nat);omega⟩,hd⟩;obtain⟨_,⟨q1,q2⟩,_⟩:=T.st.wi _ hin;have hpe:peerN xs ((i:Int),0)=elt (dflt uPort) (agAt xs (i:Nat)).2.2.2.2 0:=rfl;rw[hpe]at q1 q2;cases h3:(elt (dflt uPort) (agAt xs (i:Nat)).2.2.2.2 0).2==0 with
 |false=>rw[h3]at hp;cases hp
 |true=>
  rw[h3]at hp;simp only[cond_true,decide_eq_true_eq]at hp;have hq2:(elt (dflt uPort) (agAt xs (i:Nat)).2.2.2.2 0).2=0:=by simpa using h3
  have hq:elt (dflt uPort) (agAt xs (i:Nat)).2.2.2.2 0=((elt (dflt uPort) (agAt xs (i:Nat)).2.2.2.2 0).1,0):=Prod.ext rfl hq2;have q3:=q1.2.1;refine⟨⟨by show((i:Nat):Int)≠(elt (dflt uPort) (agAt xs (i:Nat)).2.2.2.2 0).1;omega,hd,q2,hin.1,?_,?_⟩,T.uq _ (by omega) (by omega) hd,T.uq _ ?_ q3 q2,hp⟩
  ·rw[hq]at q1;exact q1
  ·rw[hpe];exact hq
  ·show(0:Int)<(elt (dflt uPort) (agAt xs (i:Nat)).2.2.2.2 0).1;omega
theorem HZ{k:Int}(h0:0≤k)(h1:k<((prsN ys).length:Nat)):elt (dflt uPort) (prsN ys) k∈prsN ys:=by
 have h2:k.toNat<(prsN ys).length:=by omega
 have e:elt (dflt uPort) (prsN ys) k=(prsN ys)[k.toNat]:=by
  unfold elt;rw[List.getD_eq_getElem?_getD,List.getElem?_eq_getElem h2];rfl
 rw[e];exact List.getElem_mem h2
theorem Twin.pos(T:Twin kv xs ys):0<ys.length:=by rw[←T.len];exact T.rl
theorem Twin.Nc(T:Twin kv xs ys)(i:Nat)(hi:i<ys.length)(h:Tr.liveY ys i=true):0<(agAt ys (i:Nat)).2.2.2.2.length:=by
 have hl:=T.len;rw[T.liveY (by omega)]at h;have hd:¬Gone kv ((i:Nat):Int):=zo (by simpa using h);rw[T.at_ (by omega) (by omega) hd];exact(wf_small (T.wf (i:Nat) (by omega) (by omega) hd)).1
theorem KY(w:CB (fun _=>False) xs):Cv xs:=fun i hi=>(wf_small (w (i:Nat) (by omega) (by omega) id)).1
end
end Go.Tr
namespace Go.Tr
open Go Go.RowKit
theorem Bp(ys:List NAgent){a:Nat}:∀m:Nat,dD ys a≤dD ys (a+m)
 |0=>Nat.le_refl _
 |m+1=>by
  have ih:=Bp ys (a:=a) m;show _≤bif liveY ys (a+m)then dD ys (a+m)+1 else dD ys (a+m)
  cases liveY ys (a+m)<;>simp only[cond_true,cond_false]<;>omega
theorem RH{F G:Int→Int}{a:NAgent}(h:∀p∈a.2.2.2.2,F (G p.1)=p.1):nW F (nW G a)=a:=by
 obtain⟨k,l,v,d,ps⟩:=a;unfold nW;show(k,l,v,d,(ps.map (rnP G)).map (rnP F))=_;rw[List.map_map]
 have e:ps.map (rnP F∘rnP G)=ps:=by
  conv=>rhs;rw[←List.map_id ps]
  exact List.map_congr_left fun p hp=>Prod.ext (h p hp) rfl
 rw[e]
theorem getD_at(xs:List NAgent){i:Nat}{a:NAgent}(h:xs[i]? =some a):agAt xs (i:Nat)=a:=by
 unfold agAt elt;rw[Int.toNat_natCast,List.getD_eq_getElem?_getD,h];rfl
def Qe(kv:List (Int×Bool))(Y:List NAgent)(i:Nat):Nat:=bif decide (i<dD Y Y.length)then(elt 0 (bU kv Y.length) (i:Nat)).toNat else Y.length+(i-dD Y Y.length)
def Full(P:List NAgent):Prop:=∀i:Nat,i<P.length→liveY P i=true
section
variable {kv kv2:List (Int×Bool)}{f:Nat→Nat}{xs xs2 P Y Y2:List NAgent}
theorem Twin.wired(h:Twin kv xs Y){x:Nat}(hx:x<Y.length)(hg:kvGet false kv ((x:Nat):Int)=false):∀p∈(agAt Y (x:Nat)).2.2.2.2,0≤p.1∧p.1<(Y.length:Nat)∧kvGet false kv p.1=false:=fun p hp=>by
 have hl:=h.len
 have hd:¬Gone kv ((x:Nat):Int):=fun e=>by
  have e':kvGet false kv ((x:Nat):Int)=true:=e;rw[hg]at e';cases e'
 rw[h.at_ (by omega) (by omega) hd]at hp;obtain⟨i,hi,rfl⟩:=List.mem_iff_getElem.1 hp;have hw:=h.st.wi (((x:Nat):Int),((i:Nat):Int)) ⟨⟨by show(0:Int)≤(x:Nat);omega,by show((x:Nat):Int)<(xs.length:Nat);omega,by show(0:Int)≤(i:Nat);omega,by show((i:Nat):Int)<((agAt xs (x:Nat)).2.2.2.2.length:Nat);omega⟩,hd⟩
 have hpe:peerN xs (((x:Nat):Int),((i:Nat):Int))=(agAt xs (x:Nat)).2.2.2.2[i]:=by
  unfold peerN elt;rw[Int.toNat_natCast,List.getD_eq_getElem?_getD,List.getElem?_eq_getElem hi];rfl
 rw[hpe]at hw;obtain⟨_,⟨q1,q2⟩,_⟩:=hw;refine⟨q1.1,by rw[←hl];exact q1.2.1,?_⟩;cases hq:kvGet false kv ((agAt xs (x:Nat)).2.2.2.2[i]).1 with
 |true=>exact absurd hq q2
 |false=>rfl
theorem Twin.en(h:Twin kv xs Y):Ren (Qe kv Y) (packN Y) Y∧Full (packN Y):=by
 have hl:=h.len;obtain⟨k1,k2,k3⟩:=h.ord xs.length (Nat.le_refl _);rw[hl]at k1 k2 k3;have pk:packN Y=(bU kv Y.length).map fun k=>nW (iW Y) (agAt Y k):=h.bV Y.length (by omega)
 have pl:(packN Y).length=dD Y Y.length:=by rw[pk,List.length_map,k1]
 have fA:∀i,i<dD Y Y.length→∃x:Nat,x<Y.length∧Qe kv Y i=x∧dD Y x=i∧kvGet false kv ((x:Nat):Int)=false∧agAt (packN Y) (i:Nat)=nW (iW Y) (agAt Y (x:Nat)):=fun i hi=>by
  obtain⟨x,a1,a2,a3,a4⟩:=k2 i (by omega);refine⟨x,a1,?_,a3,a4,?_⟩
  ·unfold Qe elt;rw[decide_eq_true hi,cond_true,Int.toNat_natCast,List.getD_eq_getElem?_getD,a2];rfl
  ·refine getD_at _ ?_;rw[pk,List.getElem?_map,a2];rfl
 have fB:∀i,¬i<dD Y Y.length→Qe kv Y i=Y.length+(i-dD Y Y.length):=fun i hi=>by
  unfold Qe;rw[decide_eq_false hi,cond_false]
 have fC:∀x:Nat,x<Y.length→kvGet false kv ((x:Nat):Int)=false→dD Y x<dD Y Y.length∧Qe kv Y (dD Y x)=x:=fun x hx hg=>by
  have a:=k3 x hx hg;have b:=(List.getElem?_eq_some_iff.1 a).1;have hlt:dD Y x<dD Y Y.length:=by omega
  refine⟨hlt,?_⟩;unfold Qe elt;rw[decide_eq_true hlt,cond_true,Int.toNat_natCast,List.getD_eq_getElem?_getD,a];rfl
 have g0:kvGet false kv ((0:Nat):Int)=false:=by
  cases hq:kvGet false kv ((0:Nat):Int)with
  |true=>exact absurd hq h.r0
  |false=>rfl
 refine⟨⟨fun i j hij=> ?_,?_,fun j=> ?_,fun i hi=> ?_,fun k hk hn=> ?_⟩,fun i hi=> ?_⟩
 ·by_cases hj:j<dD Y Y.length
  ·obtain⟨x,a1,a2,a3,_⟩:=fA i (by omega);obtain⟨x2,b1,b2,b3,_⟩:=fA j hj;rw[a2,b2];rcases Nat.lt_or_ge x x2 with e|e
   ·exact e
   ·have:=Bp Y (a:=x2) (x-x2);rw[show x2+(x-x2)=x by omega]at this;omega
  ·rw[fB j hj]
   by_cases hi:i<dD Y Y.length
   ·obtain⟨x,a1,a2,a3,_⟩:=fA i hi;omega
   ·rw[fB i hi];omega
 ·exact(fC 0 (by have:=h.rl;omega) g0).2
 ·rw[pl,fB _ (by omega)];omega
 ·rw[pl]at hi;obtain⟨x,a1,a2,a3,a4,a5⟩:=fA i hi;rw[a2,a5];refine(RH fun p hp=> ?_).symm;obtain⟨p0,p1,p2⟩:=h.wired a1 a4 p hp;have c:=(fC p.1.toNat (by omega) (by rw[show((p.1.toNat:Nat):Int)=p.1 by omega];exact p2)).2;unfold iW;rw[oJ,c];omega
 ·cases hg:kvGet false kv ((k:Nat):Int)with
  |true=>exact(h.hole _ hg).2
  |false=>exact absurd (fC k hk hg).2 (hn _)
 ·rw[pl]at hi;obtain⟨x,a1,a2,a3,a4,a5⟩:=fA i hi;have e:=h.liveY (k:=x) (by omega);rw[a4]at e;unfold Tr.liveY at e ⊢;rw[a5];exact e
theorem Ren.gap(h:Ren f P Y){α:Type}(F:Nat→α)(hF:∀k:Nat,k<Y.length→agAt Y (k:Nat)=xU→F (k+1)=F k){i:Nat}(hi:i<P.length):F (f (i+1))=F (f i+1):=by
 have h1:=h.mono i (i+1) (Nat.lt_succ_self i)
 have h2:f (i+1)≤Y.length:=by
  rw[←h.len];rcases Nat.lt_or_ge (i+1) P.length with e|e
  ·exact Nat.le_of_lt (h.mono _ _ e)
  ·rw[show i+1=P.length by omega];exact Nat.le_refl _
 have k:∀m:Nat,f i+1+m≤f (i+1)→F (f i+1+m)=F (f i+1):=fun m=>by
  induction m with
  |zero=>intro _;rfl
  |succ m ih=>
   intro hm
   have e:=hF (f i+1+m) (by omega) (h.hole _ (by omega) fun j hj=>by
    have a1:i<j:=h.lt.1 (by omega);have a2:j<i+1:=h.lt.1 (by omega);omega)
   rw[←ih (by omega),←e];rfl
 have:=k (f (i+1)-(f i+1)) (by omega)
 rwa[show f i+1+(f (i+1)-(f i+1))=f (i+1) by omega]at this
theorem Ren.live(h:Ren f P Y){i:Nat}(hi:i<P.length):liveY Y (f i)=liveY P i:=by
 unfold Tr.liveY;rw[h.at_ i hi];rfl
theorem wV{ys:List NAgent}{k:Nat}(h:agAt ys (k:Nat)=xU):liveY ys k=false:=by unfold liveY;rw[h];rfl
theorem Ren.cnt(h:Ren f P Y):∀i:Nat,i≤P.length→dD Y (f i)=dD P i
 |0,_=>by rw[h.zero];rfl
 |i+1,hi=>by
  rw[h.gap (dD Y) (fun k _ e=>by show(bif liveY Y k then _ else _)=_;rw[wV e];rfl) (by omega)];show(bif liveY Y (f i)then dD Y (f i)+1 else dD Y (f i))=bif liveY P i then dD P i+1 else dD P i
  rw[h.live (by omega),h.cnt i (by omega)]
theorem Ren.bV(h:Ren f P Y)(hA:AllIn P):∀i:Nat,i≤P.length→bV Y (f i)=bV P i
 |0,_=>by rw[h.zero];rfl
 |i+1,hi=>by
  rw[h.gap (Tr.bV Y) (fun k _ e=>by show(bif liveY Y k then _ else _)=_;rw[wV e];rfl) (by omega)];show(bif liveY Y (f i)then Tr.bV Y (f i)++[nW (iW Y) (agAt Y (f i:Nat))]else Tr.bV Y (f i))=bif liveY P i then Tr.bV P i++[nW (iW P) (agAt P (i:Nat))]else Tr.bV P i
  have e:nW (iW Y) (agAt Y (f i:Nat))=nW (iW P) (agAt P (i:Nat)):=by
   rw[h.at_ i (by omega)];unfold nW;simp only[List.map_map]
   congr 4
   refine List.map_congr_left fun p hp=> ?_
   obtain⟨s,hs,rfl⟩:=List.mem_iff_getElem.1 hp;have hw:=hA (((i:Nat):Int),((s:Nat):Int)) ⟨by show(0:Int)≤(i:Nat);omega,by show((i:Nat):Int)<(P.length:Nat);omega,by show(0:Int)≤(s:Nat);omega,by show((s:Nat):Int)<((agAt P (i:Nat)).2.2.2.2.length:Nat);omega⟩
   have hpe:peerN P (((i:Nat):Int),((s:Nat):Int))=(agAt P (i:Nat)).2.2.2.2[s]:=by
    unfold peerN elt;rw[Int.toNat_natCast,List.getD_eq_getElem?_getD,List.getElem?_eq_getElem hs];rfl
   rw[hpe]at hw;obtain⟨w1,w2,_,_⟩:=hw;generalize (agAt P (i:Nat)).2.2.2.2[s]=p at*;refine Prod.ext ?_ rfl;show iW Y (fI f p.1)=iW P p.1;unfold iW;rw[fI_pos w1,Int.toNat_natCast,h.cnt _ (by omega)]
  rw[h.live (by omega),h.bV hA i (by omega),e]
theorem Ren.pack(h:Ren f P Y)(hA:AllIn P):packN Y=packN P:=by
 unfold packN;rw[←h.len];exact h.bV hA _ (Nat.le_refl _)
theorem nK(ys:List NAgent):∀k:Nat,aT ys k=dD ys k
 |0=>rfl
 |k+1=>by
  have e:aT ys (k+1)=bif liveY ys k then aT ys k+1 else aT ys k:=rfl
  rw[e,nK ys k];rfl
theorem Ren.aT(h:Ren f P Y):Tr.aT Y Y.length=Tr.aT P P.length:=by
 rw[nK,nK,←h.len];exact h.cnt _ (Nat.le_refl _)
theorem Ren.full(h:Ren f P Y)(hf:Full P):Tr.aT Y Y.length=P.length:=by
 rw[h.aT,nK]
 have k:∀n:Nat,n≤P.length→dD P n=n:=fun n=>by
  induction n with
  |zero=>intro _;rfl
  |succ n ih=>
   intro hn;show(bif liveY P n then dD P n+1 else dD P n)=n+1;rw[hf n (by omega),ih (by omega)];rfl
 exact k _ (Nat.le_refl _)
theorem Ren.HZ(h:Ren f P Y)(hA:AllIn P){i:Nat}(hi:i<P.length)(hp:liveY P i=true→0<(agAt P (i:Nat)).2.2.2.2.length):prR Y (f i)=prR P i∧(prR P i=true→prA Y (f i)=(fI f (prA P i).1,fI f (prA P i).2)):=by
 have hl:=h.live hi
 have h1:decide (1≤f i)=decide (1≤i):=by
  rw[decide_eq_decide];have:=h.lt (i:=0) (j:=i);rw[h.zero]at this;omega
 have e:=h.at_ i hi;cases hv:liveY P i with
 |false=>
  have k:prR P i=false:=by unfold prR;rw[hv];cases decide (1≤i)<;>rfl
  rw[k];refine⟨?_,fun e=>by cases e⟩;unfold prR;rw[hl,hv];cases decide (1≤f i)<;>rfl
 |true=>
  have pin:PortIn P (((i:Nat):Int),0):=⟨by show(0:Int)≤(i:Nat);omega,by show((i:Nat):Int)<(P.length:Nat);omega,Int.le_refl 0,by show(0:Int)<((agAt P (i:Nat)).2.2.2.2.length:Nat);have:=hp hv;omega⟩;have hpe:=h.peer pin;have hq:=hA _ pin
  have eY:elt (dflt uPort) (agAt Y ((f i:Nat):Int)).2.2.2.2 0=rnP (fI f) (elt (dflt uPort) (agAt P (i:Nat)).2.2.2.2 0):=by
   have k:peerN Y (((f i:Nat):Int),0)=rnP (fI f) (peerN P (((i:Nat):Int),0)):=by
    have:rnP (fI f) (((i:Nat):Int),0)=(((f i:Nat):Int),0):=by unfold rnP;rw[oJ]
    rw[this]at hpe;exact hpe
   exact k
  have hq0:0≤(elt (dflt uPort) (agAt P (i:Nat)).2.2.2.2 0).1:=hq.1
  have hd:prD Y (f i)=prD P i:=by
   unfold prD;rw[eY];generalize elt (dflt uPort) (agAt P (i:Nat)).2.2.2.2 0=q at*;show(bif q.2==0 then decide (((f i:Nat):Int)<fI f q.1)else false)=_
   have:decide (((f i:Nat):Int)<fI f q.1)=decide (((i:Nat):Int)<q.1):=by
    rw[decide_eq_decide,fI_pos hq0];have:=h.lt (i:=i) (j:=q.1.toNat);omega
   rw[this]
  refine⟨?_,fun _=> ?_⟩
  ·unfold prR;rw[hl,hd,h1]
  ·unfold prA;rw[eY];show(((f i:Nat):Int),fI f _)=(fI f ((i:Nat):Int),fI f _);rw[oJ]
theorem Ren.prTo(h:Ren f P Y)(hA:AllIn P)(hp:∀i:Nat,i<P.length→liveY P i=true→0<(agAt P (i:Nat)).2.2.2.2.length):∀i:Nat,i≤P.length→prTo (prR Y) Y (f i)=(prTo (prR P) P i).map fun p=>(fI f p.1,fI f p.2)
 |0,_=>by rw[h.zero];rfl
 |i+1,hi=>by
  rw[h.gap (Tr.prTo (prR Y) Y) (fun k _ e=>nS (by unfold prR;rw[wV e];cases decide (1≤k)<;>rfl)) (by omega)];obtain⟨k1,k2⟩:=h.HZ hA (i:=i) (by omega) (hp i (by omega));cases hc:prR P i with
  |false=>rw[nS hc,nS (by rw[k1];exact hc),h.prTo hA hp i (by omega)]
  |true=>rw[uI hc,uI (by rw[k1];exact hc),h.prTo hA hp i (by omega),List.map_append,k2 hc];rfl
theorem Ren.prs(h:Ren f P Y)(hA:AllIn P)(hp:∀i:Nat,i<P.length→liveY P i=true→0<(agAt P (i:Nat)).2.2.2.2.length):prsN Y=(prsN P).map fun p=>(fI f p.1,fI f p.2):=by
 unfold prsN;rw[←h.len];exact h.prTo hA hp _ (Nat.le_refl _)
theorem Full.twin(T:Twin kv xs Y)(h:Ren f P Y)(hf:Full P):Twin [] P P:=by
 have hl:=T.len;have hA:=h.Uh T.ally
 have nd:∀i:Int,¬Gone [] i:=fun i e=>by
  have e':kvGet false ([]:List (Int×Bool)) i=true:=e;cases e'
 have wh:∀i:Int,0≤i→i<(P.length:Nat)→(0≤fI f i∧fI f i<(xs.length:Nat))∧¬Gone kv (fI f i)∧agAt xs (fI f i)=nW (fI f) (agAt P i):=fun i h0 h1=>by
  have k:=h.in_.2 ⟨h0,h1⟩;rw[←hl]at k;have e:=h.atI h0 h1
  have hd:¬Gone kv (fI f i):=fun g=>by
   have h2:=(T.hole _ g).2;have h3:=hf i.toNat (by omega);unfold liveY at h3;rw[show((i.toNat:Nat):Int)=i by omega]at h3;rw[e]at h2;have h4:(agAt P i).1=0:=congrArg (fun a:NAgent=>a.1) h2;rw[h4]at h3;cases h3
  exact⟨k,hd,by rw[←T.at_ k.1 k.2 hd];exact e⟩
 have sg:∀i:Int,0≤i→i<(P.length:Nat)→Wf (agAt P i):=fun i h0 h1=>by
  obtain⟨k,hd,e⟩:=wh i h0 h1;have w:=T.wf _ k.1 k.2 hd;rw[e]at w;refine(Ef ?_).1 w;unfold sig;rw[rnA_ports];rfl
 have rl:0<P.length:=by
  have:=T.rl;have h2:=h.Ri (i:=0);rw[h.zero]at h2;exact h2.1 (by omega)
 have kd:∀i:Int,0≤i→i<(P.length:Nat)→(agAt xs (fI f i)).1=(agAt P i).1:=fun i h0 h1=>by rw[(wh i h0 h1).2.2];rfl
 have f0:fI f 0=0:=by
  rw[fI_pos (Int.le_refl 0)];show((f 0:Nat):Int)=0;rw[h.zero];rfl
 refine⟨⟨⟨rfl,fun _ _ _ _=>rfl⟩,fun p hp=> ?_,fun p hp=>hp.2⟩,fun i h0 h1 _=>sg i h0 h1,fun i e=>absurd e (nd i),fun i e=>absurd e (nd i),?_,nd 0,rl,fun i h0 h1 _=> ?_,fun e he=>absurd he (by simp),?_,hA⟩
 ·have hpin:PortIn P p:=hp.1
  have lp:∀{q:NPort},PortIn P q→Live (Gone kv) xs (rnP (fI f) q)∧peerN xs (rnP (fI f) q)=rnP (fI f) (peerN P q):=fun {q} hq=>by
   obtain⟨k,hd,e⟩:=wh q.1 hq.1 hq.2.1;have hy:=h.pin.2 hq
   have hx:PortIn xs (rnP (fI f) q):=by
    obtain⟨a1,a2,a3,a4⟩:=hy;refine⟨a1,by rw[hl];exact a2,a3,?_⟩;have a5:q.2<((agAt Y (fI f q.1)).2.2.2.2.length:Nat):=a4;rw[T.at_ k.1 k.2 hd]at a5;exact a5
   refine⟨⟨hx,hd⟩,?_⟩;rw[←h.peer hq];exact((T.st.ag.port hx hd).2).symm
  obtain⟨l1,e1⟩:=lp hpin;obtain⟨w1,w2,w3,w4⟩:=T.st.wi _ l1;have hq:=hA p hpin;obtain⟨l2,e2⟩:=lp hq;rw[e1,e2]at w3;rw[e1]at w4;refine⟨hpin,⟨hq,nd _⟩,?_,fun e=>w4 (by rw[e])⟩;have k1:=congrArg (fun q:NPort=>q.1) w3;have k2:=congrArg (fun q:NPort=>q.2) w3;exact Prod.ext (h.injI.1 k1) k2
 ·have:=kd 0 (Int.le_refl 0) (by omega);rw[f0,T.r1]at this;exact this.symm
 ·obtain⟨k,hd,e⟩:=wh i (by omega) h1
  have hpos:0<fI f i:=by
   rw[fI_pos (by omega)];have:=h.lt (i:=0) (j:=i.toNat);rw[h.zero]at this;omega
  have:=T.uq _ hpos k.2 hd;rw[kd i (by omega) h1]at this;exact this
 ·have:∀n:Nat,jC ([]:List (Int×Bool)) n=0:=fun n=>by
   induction n with
   |zero=>rfl
   |succ n ih=>show(bif kvGet false ([]:List (Int×Bool)) ((n:Nat):Int)then _ else jC [] n)=0;exact ih
  rw[this];rfl
theorem Full.pack(hf:Full P)(hA:AllIn P):packN P=P:=by
 have cn:∀n:Nat,n≤P.length→dD P n=n:=fun n=>by
  induction n with
  |zero=>intro _;rfl
  |succ n ih=>
   intro hn;show(bif liveY P n then dD P n+1 else dD P n)=n+1;rw[hf n (by omega),ih (by omega)];rfl
 have k:∀n:Nat,n≤P.length→bV P n=P.take n:=fun n=>by
  induction n with
  |zero=>intro _;rw[List.take_zero];rfl
  |succ n ih=>
   intro hn;show(bif liveY P n then bV P n++[nW (iW P) (agAt P (n:Nat))]else bV P n)=_;rw[hf n (by omega),ih (by omega),cond_true,List.take_add_one,List.getElem?_eq_getElem (by omega)];have ea:agAt P (n:Nat)=P[n]:=getD_at P (List.getElem?_eq_getElem (by omega))
   have e:nW (iW P) (agAt P (n:Nat))=agAt P (n:Nat):=by
    unfold nW
    have:(agAt P (n:Nat)).2.2.2.2.map (rnP (iW P))=(agAt P (n:Nat)).2.2.2.2:=by
     conv=>rhs;rw[←List.map_id (agAt P (n:Nat)).2.2.2.2]
     refine List.map_congr_left fun p hp=>Prod.ext ?_ rfl
     obtain⟨s,hs,rfl⟩:=List.mem_iff_getElem.1 hp;have hw:=hA (((n:Nat):Int),((s:Nat):Int)) ⟨by show(0:Int)≤(n:Nat);omega,by show((n:Nat):Int)<(P.length:Nat);omega,by show(0:Int)≤(s:Nat);omega,by show((s:Nat):Int)<((agAt P (n:Nat)).2.2.2.2.length:Nat);omega⟩
     have hpe:peerN P (((n:Nat):Int),((s:Nat):Int))=(agAt P (n:Nat)).2.2.2.2[s]:=by
      unfold peerN elt;rw[Int.toNat_natCast,List.getD_eq_getElem?_getD,List.getElem?_eq_getElem hs];rfl
     rw[hpe]at hw;obtain⟨w1,w2,_,_⟩:=hw;show iW P ((agAt P (n:Nat)).2.2.2.2[s]).1=((agAt P (n:Nat)).2.2.2.2[s]).1;unfold iW;rw[cn _ (by omega)];omega
    rw[this]
   rw[e,ea];rfl
 unfold packN;rw[k _ (Nat.le_refl _),List.take_length]
end
end Go.Tr
namespace Go.Tr
open Go Go.RowKit
def Ba(bk:List (List NAgent))(ys:List NAgent)(a b:Int):Int:=
 if(dR bk (agAt ys (aj ys a b).1) (agAt ys (aj ys a b).2)).2≠0 then(dR bk (agAt ys (aj ys a b).1) (agAt ys (aj ys a b).2)).2
 else if 600<IntKind.i64.wrap ((aT ys ys.length:Nat)+(dR bk (agAt ys (aj ys a b).1) (agAt ys (aj ys a b).2)).1)then 4 else 0
def sK(ys:List NAgent)(a b:Int):Int:=aQ (agAt ys (aj ys a b).1) (agAt ys (aj ys a b).2)
def oC(bk:List (List NAgent))(ys:List NAgent)(a b:Int):List NAgent:=dF bk ys (sK ys a b) (aj ys a b).1 (aj ys a b).2
structure QF(bk:List (List NAgent))(ys:List NAgent)(a b:Int):Prop where
 sp:Cy ys (sK ys a b) (aj ys a b).1 (aj ys a b).2
 hc:1≤sK ys a b∧sK ys a b≤7
 h7:sK ys a b=7→0≤(agAt ys (aj ys a b).1).2.2.1∧(agAt ys (aj ys a b).1).2.2.1<(bk.length:Nat)
theorem ED(F:Int→Int)(u v:NAgent):aQ (nW F u) (nW F v)=aQ u v:=rfl
theorem FU(bk:List (List NAgent))(F:Int→Int)(c:Int)(u v:NAgent):nR bk c (nW F u) (nW F v)=nR bk c u v:=by
 unfold nR jW;rw[rnA_ports,rnA_ports];rfl
theorem OO(bk:List (List NAgent))(F:Int→Int)(u v:NAgent):dR bk (nW F u) (nW F v)=dR bk u v:=by
 unfold dR;rw[ED,FU,FU];rfl
def pF(f:Nat→Nat)(p:Int×Int):Int×Int:=(fI f p.1,fI f p.2)
section
variable {f g:Nat→Nat}{N P Y:List NAgent}{a b:Int}{bk:List (List NAgent)}
theorem Ren.refl(P:List NAgent):Ren (fun i=>i) P P:=by
 have e:∀z,fI (fun i=>i) z=z:=fun z=>by
  by_cases h:0≤z
  ·rw[fI_pos h];omega
  ·rw[qp h]
 refine⟨fun _ _ h=>h,rfl,fun _=>rfl,fun i _=> ?_,fun k _ h=>absurd rfl (h k)⟩;have e2:rnP (fI fun i=>i)=id:=funext fun p=>Prod.ext (e p.1) rfl
 unfold nW;rw[e2,List.map_id]
theorem OI(z:Int):fI g (fI f z)=fI (fun i=>g (f i)) z:=by
 by_cases h:0≤z
 ·rw[fI_pos h,oJ,fI_pos h]
 ·rw[qp h,qp h,qp h]
theorem Nl(a:NAgent):nW (fI g) (nW (fI f) a)=nW (fI fun i=>g (f i)) a:=by
 unfold nW;simp only[List.map_map];have:(rnP (fI g)∘rnP (fI f))=rnP (fI fun i=>g (f i)):=funext fun p=>Prod.ext (OI p.1) rfl
 rw[this]
theorem Ren.trans(h:Ren f N P)(k:Ren g P Y):Ren (fun i=>g (f i)) N Y:=by
 refine⟨fun i j e=>k.mono _ _ (h.mono _ _ e),by show g (f 0)=0;rw[h.zero,k.zero],fun j=>by show g (f (N.length+j))=_;rw[h.ends,k.ends],fun i hi=> ?_,fun m hm hn=> ?_⟩
 ·rw[k.at_ (f i) (h.Ri.2 hi),h.at_ i hi,Nl]
 ·by_cases e:∃j,g j=m
  ·obtain⟨j,rfl⟩:=e;have hj:=k.Ri.1 hm;rw[k.at_ j hj,h.hole j hj fun i hi=>hn i (by show g (f i)=g j;rw[hi])];rfl
  ·exact k.hole m hm fun j hj=>e ⟨j,hj⟩
theorem Ren.first(h:Ren f N Y)(ha:0≤a∧a<(N.length:Nat))(hb:0≤b∧b<(N.length:Nat)):aj Y (fI f a) (fI f b)=pF f (aj N a b):=by
 unfold aj;rw[h.atI ha.1 ha.2,h.atI hb.1 hb.2];show(bif aG (agAt N a).1 (agAt N a).2.1 (agAt N b).1 (agAt N b).2.1==2 then _ else _)=_;cases aG (agAt N a).1 (agAt N a).2.1 (agAt N b).1 (agAt N b).2.1==2<;>rfl
theorem Ren.Ba(h:Ren f N Y)(ha:0≤a∧a<(N.length:Nat))(hb:0≤b∧b<(N.length:Nat)):Tr.Ba bk Y (fI f a) (fI f b)=Tr.Ba bk N a b:=by
 have hf:=fu (xs:=N) ha hb;unfold Tr.Ba;rw[h.first ha hb];show(if(dR bk (agAt Y (fI f (aj N a b).1)) (agAt Y (fI f (aj N a b).2))).2≠0 then(dR bk (agAt Y (fI f (aj N a b).1)) (agAt Y (fI f (aj N a b).2))).2 else if 600<IntKind.i64.wrap ((Tr.aT Y Y.length:Nat)+(dR bk (agAt Y (fI f (aj N a b).1)) (agAt Y (fI f (aj N a b).2))).1)then 4 else 0)=_;rw[h.atI hf.1.1 hf.1.2,h.atI hf.2.1 hf.2.2,OO,h.aT]
theorem Ren.sK(h:Ren f N Y)(ha:0≤a∧a<(N.length:Nat))(hb:0≤b∧b<(N.length:Nat)):Tr.sK Y (fI f a) (fI f b)=Tr.sK N a b:=by
 have hf:=fu (xs:=N) ha hb;unfold Tr.sK;rw[h.first ha hb];show aQ (agAt Y (fI f (aj N a b).1)) (agAt Y (fI f (aj N a b).2))=_;rw[h.atI hf.1.1 hf.1.2,h.atI hf.2.1 hf.2.2,ED]
def Pg(ys:List NAgent)(a b:Int):Int:=(agAt ys (aj ys a b).1).2.2.1
theorem Ren.Pg(h:Ren f N Y)(ha:0≤a∧a<(N.length:Nat))(hb:0≤b∧b<(N.length:Nat)):Tr.Pg Y (fI f a) (fI f b)=Tr.Pg N a b:=by
 have hf:=fu (xs:=N) ha hb;unfold Tr.Pg;rw[h.first ha hb];show(agAt Y (fI f (aj N a b).1)).2.2.1=_;rw[h.atI hf.1.1 hf.1.2];rfl
theorem Ren.oC(h:Ren f N Y)(ha:0≤a∧a<(N.length:Nat))(hb:0≤b∧b<(N.length:Nat))(hn:QF bk N a b)(hA:AllIn N)(h0:PortIn N (0,0))(hw:BkW bk):Ren f (Tr.oC bk N a b) (Tr.oC bk Y (fI f a) (fI f b)):=by
 have k:=h.done hn.sp hA h0 hn.hc hw hn.h7;unfold Tr.oC;rw[h.sK ha hb,h.first ha hb];exact k
theorem Ren.le(h:Ren f N Y):N.length≤Y.length:=by
 have k:∀i:Nat,i≤f i:=fun i=>by
  induction i with
  |zero=>exact Nat.zero_le _
  |succ i ih=>have:=h.mono i (i+1) (Nat.lt_succ_self i);omega
 rw[←h.len];exact k _
end
structure RS(kv:List (Int×Bool))(xs N P:List NAgent):Prop where
 tx:∃(Y:List NAgent) (f:Nat→Nat),Twin kv xs Y∧Ren f N Y
 wx:CB (fun _=>False) xs
 tn:∃(k:List (Int×Bool)) (z:List NAgent),Twin k z N
 tp:∃(k:List (Int×Bool)) (z:List NAgent) (g:Nat→Nat),Twin k z P∧Ren g N P
section
variable {kv:List (Int×Bool)}{xs N P:List NAgent}{bk:List (List NAgent)}
theorem Twin.KO{k:List (Int×Bool)}{z Y:List NAgent}{f:Nat→Nat}(T:Twin k z N)(h:Ren f N Y):prsN Y=(prsN N).map (pF f):=h.prs T.ally T.Nc
theorem Ren.IZ{f:Nat→Nat}{l m:List (Int×Int)}(h:l=m.map (pF f)){k:Int}(h0:0≤k)(h1:k<(m.length:Nat)):elt (dflt uPort) l k=pF f (elt (dflt uPort) m k):=by
 have h2:k.toNat<m.length:=by omega
 rw[h];unfold elt;rw[List.getD_eq_getElem?_getD,List.getD_eq_getElem?_getD,List.getElem?_map,List.getElem?_eq_getElem h2];rfl
theorem Twin.M0{k:List (Int×Bool)}{z Y:List NAgent}(T:Twin k z Y):Twin [] (packN Y) (packN Y)∧Ren (Qe k Y) (packN Y) Y:=⟨T.en.2.twin T T.en.1,T.en.1⟩
theorem Twin.UW{z Y:List NAgent}(T:Twin [] z Y):CB (fun _=>False) z:=fun i h0 h1 _=>T.wf i h0 h1 fun e=>by
 have e':kvGet false ([]:List (Int×Bool)) i=true:=e;cases e'
theorem RS.Tj(h:RS kv xs N P):RS [] (packN N) (packN N) P∧∃Y,Twin kv xs Y∧packN Y=packN N:=by
 obtain⟨Y,f,TY,rf⟩:=h.tx;obtain⟨k,z,TN⟩:=h.tn;obtain⟨k2,z2,g,TP,rg⟩:=h.tp;have F:=TN.M0;exact⟨⟨⟨_,_,F.1,Ren.refl _⟩,F.1.UW,⟨_,_,F.1⟩,⟨_,_,_,TP,F.2.trans rg⟩⟩,Y,TY,rf.pack TN.ally⟩
theorem RS.Ti(h:RS kv xs N P):RS kv xs (packN N) (packN N)∧packN P=packN N:=by
 obtain⟨Y,f,TY,rf⟩:=h.tx;obtain⟨k,z,TN⟩:=h.tn;obtain⟨k2,z2,g,TP,rg⟩:=h.tp;have F:=TN.M0;exact⟨⟨⟨Y,_,TY,F.2.trans rf⟩,h.wx,⟨_,_,F.1⟩,⟨_,_,_,F.1,Ren.refl _⟩⟩,rg.pack TN.ally⟩
theorem RS.start{xs:List NAgent}(T:Twin [] xs xs):RS [] xs xs xs:=⟨⟨_,_,T,Ren.refl _⟩,T.UW,⟨_,_,T⟩,⟨_,_,_,T,Ren.refl _⟩⟩
end
theorem o7{p lo hi d:Int}(h0:lo≤p)(h1:p≤hi)(hb: -1000≤lo∧hi≤1000∧ -1000≤d∧d≤1000):(iA p lo hi d).1=p+d:=by
 unfold iA;rw[decide_eq_false (show ¬p<lo by omega),cond_false,decide_eq_false (show ¬hi<p by omega),cond_false];exact IntWalk.i64_in _ (by omega)
theorem Mc{bk:List (List NAgent)}{xs:List NAgent}{c x y:Int}(hc:1≤c∧c≤7)(py:1≤(agAt xs y).2.2.2.2.length∧(agAt xs y).2.2.2.2.length≤4)(px:1≤(agAt xs x).2.2.2.2.length∧(agAt xs x).2.2.2.2.length≤4)
  (k6:c=6→(agAt xs x).1=6∨(agAt xs x).1=9) (k7:c=7→2≤(aS bk (agAt xs x).2.2.1).length∧(aS bk (agAt xs x).2.2.1).length≤600):ou bk xs c x y+((dG c x y).length:Nat)=((pK bk xs c x y).length:Nat):=by
 have w1:∀n:Nat,1≤n→n≤4→IntKind.i64.wrap ((n:Nat)-1)=(n:Int)-1:=fun n h1 h2=>IntWalk.i64_in _ (by omega)
 have hcs:c=1∨c=2∨c=3∨c=4∨c=5∨c=6∨c=7:=by omega
 rcases hcs with rfl|rfl|rfl|rfl|rfl|rfl|rfl
 ·rfl
 ·rfl
 ·show(iA (IntKind.i64.wrap (((agAt xs y).2.2.2.2.length:Nat)-1)) 0 3 0).1+2=(([jN xs y]++[jN xs y]++List.replicate ((agAt xs y).2.2.2.2.length-1) (aJ 4 (agAt xs x).2.1 0 [] 3)).length:Nat);rw[w1 _ py.1 py.2,o7 (by omega) (by omega) (by omega)];simp only[List.length_append,List.length_cons,List.length_nil,List.length_replicate];omega
 ·show(iA (IntKind.i64.wrap (((agAt xs y).2.2.2.2.length:Nat)-1)) 0 3 (-2)).1+2=((List.replicate ((agAt xs y).2.2.2.2.length-1) (aJ 5 0 0 [] 1)).length:Nat);rw[w1 _ py.1 py.2,o7 (by omega) (by omega) (by omega)];simp only[List.length_replicate];omega
 ·have e:(pK bk xs 5 x y).length=1:=by
   show(bif (agAt xs y).1==7 then[aJ 8 (agAt xs y).2.1 (agAt xs y).2.2.1 [(agAt xs x).2.2.1] 2]else[aJ 6 0 (rQ (agAt xs y).2.2.1 (fP (agAt xs y).2.2.2.1 0) (agAt xs x).2.2.1) [] 1]).length=1;cases (agAt xs y).1==7<;>rfl
  rw[e];rfl
 ·show(iA (bif (agAt xs x).1==9 then IntKind.i64.wrap (((agAt xs x).2.2.2.2.length:Nat)-1)else 0) 0 3 (-1)).1+2=((bif (agAt xs x).1==6 then[aJ 12 (agAt xs y).2.1 (fP (agAt xs y).2.2.2.1 (bif (agAt xs x).2.2.1==0 then 1 else 0)) [] 1]
   else[aJ 12 (agAt xs y).2.1 (fP (agAt xs y).2.2.2.1 (agAt xs x).2.2.1) [] 1]++List.replicate ((agAt xs x).2.2.2.2.length-1) (aJ 3 (agAt xs y).2.1 0 [] 3)).length:Nat)
  rcases k6 rfl with e|e
  ·rw[e];rfl
  ·rw[e];show(iA (IntKind.i64.wrap (((agAt xs x).2.2.2.2.length:Nat)-1)) 0 3 (-1)).1+2=(([aJ 12 (agAt xs y).2.1 (fP (agAt xs y).2.2.2.1 (agAt xs x).2.2.1) [] 1]++List.replicate ((agAt xs x).2.2.2.2.length-1) (aJ 3 (agAt xs y).2.1 0 [] 3)).length:Nat);rw[w1 _ px.1 px.2,o7 (by omega) (by omega) (by omega)];simp only[List.length_append,List.length_cons,List.length_nil,List.length_replicate];omega
 ·show(iA ((aS bk (agAt xs x).2.2.1).length:Nat) 2 600 (-2)).1+1=((((jM bk xs x).drop 1).map (bg ((xs.length:Nat)-1))).length:Nat);have:=k7 rfl;have e:(jM bk xs x).length=(aS bk (agAt xs x).2.2.1).length:=by unfold jM;unfold aY;exact List.length_map _
  rw[o7 (by omega) (by omega) (by omega),List.length_map,List.length_drop,e];omega
theorem PG{kv:List (Int×Bool)}(hT:∀e∈kv,e.2=true){c x y:Int}(hx:kvGet false kv x=false)(hy:kvGet false kv y=false)(hxy:x≠y):(jo kv (dG c x y)).length=kv.length+(dG c x y).length:=by
 unfold dG;cases c==7 with
 |true=>exact o9 hT hx
 |false=>
  show(kvSet (kvSet kv x true) y true).length=kv.length+2;rw[o9 (Dt hT x) (by rw[kvGet_set,if_neg hxy];exact hy),o9 hT hx]
end Go.Tr
