
/- The renaming is kept by expansions and by all interactions. No program in it. -/
import Derived.Test.YtemalpelcdmemaaGreatYa
set_option linter.unusedSimpArgs false
set_option linter.unusedVariables false
namespace Go.Tr
open Go Go.RowKit
section
variable {f:Nat→Nat}{P Y:List NAgent}{x y c:Int}{bk:List (List NAgent)}
theorem LV(lv b:Int)(t:List NAgent):jQ lv b t (t.length-1)=((cO lv t).drop 1).map (dz b):=by
 unfold jQ;rw[List.take_of_length_le (by rw[List.length_drop,mQ];exact Nat.le_refl _)]
theorem xM{xs:List NAgent}{z s:Int}{q:aJ}(h0:0≤z)(h1:z<(xs.length:Nat)):ah (aN xs (z,s) q) z=((ah xs z).1,(ah xs z).2.1,(ah xs z).2.2.1,(ah xs z).2.2.2.1,(ah xs z).2.2.2.2.set s.toNat q):=by
 rw[fu];exact if_pos ⟨rfl,by show z.toNat<xs.length;omega⟩
theorem nR{xs:List NAgent}{z s i:Int}{q:aJ}(h:z.toNat≠i.toNat):ah (aN xs (z,s) q) i=ah xs i:=by
 rw[fu];exact if_neg fun k=>h k.1
theorem Vq{α:Type}{u v:List α}{s:Nat}{w:α}(hl:u.length=v.length)(h:∀k:Nat,k≠s→u[k]? =v[k]?):u.set s w=v.set s w:=by
 apply List.ext_getElem?;intro k;rw[List.getElem?_set,List.getElem?_set,hl]
 by_cases e:s=k
 ·rw[if_pos e,if_pos e]
 ·rw[if_neg e,if_neg e];exact h k (Ne.symm e)
theorem Ren.Zt(h:Ren f P Y){t:List NAgent}{b b2:Int}{z:aJ}(ht:iM (fun p=>ak t p) t)(h0:ak t (0,0))(h00:∀p,ak t p→p.1=0→p=(0,0))(hb:b=(P.length:Int)-1)(hb2:b2=(Y.length:Int)-1):
  Ren f (aN (P++(t.drop 1).map (dz b)) ((aF t (0,0)).1+b,(aF t (0,0)).2) z) (aN (Y++(t.drop 1).map (dz b2)) ((aF t (0,0)).1+b2,(aF t (0,0)).2) (nP (fI f) z)):=by
 obtain⟨r1,r2,r3,r4⟩:=ht (0,0) h0
 have rpos:1≤(aF t (0,0)).1:=by
  have h1:=r2.1
  by_cases e:(aF t (0,0)).1=0
  ·exact absurd (h00 _ r2 e) r4
  ·omega
 have rlt:=r2.2.1;have r3n:=r2.2.2.1
 have key:∀(j:Nat),j+1<t.length→∀(k:Nat) (u:aJ),(ah t ((j+1:Nat):Int)).2.2.2.2[k]? =some u→¬((aF t (0,0)).1=((j+1:Nat):Int)∧(aF t (0,0)).2.toNat=k)→nP (fI f) (u.1+b,u.2)=(u.1+b2,u.2):=fun j hj k u hu hne=>by
  have hk:=(List.getElem?_eq_some_iff.1 hu).1;have pin:ak t (((j+1:Nat):Int),((k:Nat):Int)):=⟨by show(0:Int)≤(j+1:Nat);omega,by show((j+1:Nat):Int)<(t.length:Nat);omega,by show(0:Int)≤(k:Nat);omega,by show((k:Nat):Int)<((ah t ((j+1:Nat):Int)).2.2.2.2.length:Nat);omega⟩
  have pe:aF t (((j+1:Nat):Int),((k:Nat):Int))=u:=by
   show elt (dflt uPort) (ah t ((j+1:Nat):Int)).2.2.2.2 ((k:Nat):Int)=u;unfold elt;rw[Int.toNat_natCast,List.getD_eq_getElem?_getD,hu];rfl
  obtain⟨_,w2,w3,w4⟩:=ht _ pin;rw[pe]at w2 w3;have w1:=w2.1
  have u1:1≤u.1:=by
   by_cases e:u.1=0
   ·exfalso;rw[h00 u w2 e]at w3;refine hne ⟨congrArg Prod.fst w3,?_⟩;have k2:(aF t (0,0)).2=((k:Nat):Int):=congrArg Prod.snd w3;omega
   ·omega
  have hE:=h.ends (u.1.toNat-1);unfold nP;show(fI f (u.1+b),u.2)=(u.1+b2,u.2);rw[show u.1+b=((P.length+(u.1.toNat-1):Nat):Int) by omega,uE,hE];exact Prod.ext (show((Y.length+(u.1.toNat-1):Nat):Int)=u.1+b2 by omega) rfl
 generalize aF t (0,0)=R at*;obtain⟨Ra,Rs⟩:=R;have rpos':1≤Ra:=rpos;have rlt':Ra<(t.length:Nat):=rlt;have rs':0≤Rs:=r3n;refine⟨h.mono,h.zero,fun j=> ?_,fun i hi=> ?_,fun k hk hn=> ?_⟩
 ·rw[dA,dA,List.length_append,List.length_append,oU,oU,Nat.add_assoc,Nat.add_assoc];exact h.ends _
 ·rw[dA,List.length_append,oU]at hi;show ah (aN (Y++(t.drop 1).map (dz b2)) (Ra+b2,Rs) (nP (fI f) z)) ((f i:Nat):Int)=sZ (fI f) (ah (aN (P++(t.drop 1).map (dz b)) (Ra+b,Rs) z) ((i:Nat):Int))
  by_cases e:i<P.length
  ·have e2:=h.YZ.2 e;rw[nR (by omega),nR (by omega),dH (by omega),dH (by omega)];exact h.at_ i e
  ·obtain⟨j,rfl⟩:∃j,i=P.length+j:=⟨i-P.length,by omega⟩;have hj:j+1<t.length:=by omega
   have ef:=h.ends j;have a1:=rQ (xs:=P) (t:=t) hb (i:=((P.length+j:Nat):Int)) (by omega) (by omega);have a2:=rQ (xs:=Y) (t:=t) hb2 (i:=((Y.length+j:Nat):Int)) (by omega) (by omega);rw[show((P.length+j:Nat):Int)-b=((j+1:Nat):Int) by omega]at a1;rw[show((Y.length+j:Nat):Int)-b2=((j+1:Nat):Int) by omega]at a2;have kj:=key j hj;rw[ef];generalize ah t ((j+1:Nat):Int)=A at*;have l1:(P++(t.drop 1).map (dz b)).length=P.length+(t.length-1):=by rw[List.length_append,oU]
   have l2:(Y++(t.drop 1).map (dz b2)).length=Y.length+(t.length-1):=by rw[List.length_append,oU]
   by_cases hR:Ra=((j+1:Nat):Int)
   ·rw[show Ra+b2=((Y.length+j:Nat):Int) by omega,show Ra+b=((P.length+j:Nat):Int) by omega,xM (by omega) (by rw[l2];omega),xM (by omega) (by rw[l1];omega),a1,a2];unfold sZ dz;simp only[List.map_set,List.map_map]
    congr 4
    refine Vq (by simp) fun k hk=> ?_
    rw[List.getElem?_map,List.getElem?_map];cases hu:A.2.2.2.2[k]? with
    |none=>rfl
    |some u=>
     show some _=some _;have:=kj k u hu fun e=>hk e.2.symm
     exact congrArg some this.symm
   ·rw[nR (by omega),nR (by omega),a1,a2];unfold sZ dz;simp only[List.map_map]
    congr 4
    apply List.ext_getElem?;intro k;rw[List.getElem?_map,List.getElem?_map];cases hu:A.2.2.2.2[k]? with
    |none=>rfl
    |some u=>
     show some _=some _;have:=kj k u hu fun e=>hR e.1
     exact congrArg some this.symm
 ·rw[dA,List.length_append,oU]at hk
  have hk2:k<Y.length:=by
   rcases Nat.lt_or_ge k Y.length with e|e
   ·exact e
   ·have h1:=h.ends (k-Y.length);exact absurd (by rw[h1];omega) (hn (P.length+(k-Y.length)))
  show ah (aN (Y++(t.drop 1).map (dz b2)) (Ra+b2,Rs) (nP (fI f) z)) ((k:Nat):Int)=Dz;rw[nR (by omega),dH (by omega)];exact h.hole k hk2 hn
theorem Ren.expand(h:Ren f P Y){t:List NAgent}{lv:Int}(hy:ak P (y,0))(ht:iM (fun p=>ak t p) t)(h0:ak t (0,0))(h00:∀p,ak t p→p.1=0→p=(0,0)):Ren f (fE t lv P y) (fE t lv Y (fI f y)):=by
 unfold fE;rw[LV,LV];have k:=h.Zt (t:=cO lv t) (z:=(y,0)) (b:=(P.length:Int)-1) (b2:=(Y.length:Int)-1) ht.shift (ak.jO.2 h0) (fun p hp e=>h00 p (ak.jO.1 hp) e) rfl rfl;rw[pY h0]at k;have k2:=k.Zp (p:=(y,0)) (q:=((aF t (0,0)).1+((P.length:Int)-1),(aF t (0,0)).2)) hy.1 (by rw[dA,List.length_append];have:=hy.2.1;show y<_;have h3:y<(P.length:Nat):=this;omega);obtain⟨r1,r2,r3,r4⟩:=ht (0,0) h0
 have rpos:1≤(aF t (0,0)).1:=by
  have h1:=r2.1
  by_cases e:(aF t (0,0)).1=0
  ·exact absurd (h00 _ r2 e) r4
  ·omega
 have hE:=h.ends ((aF t (0,0)).1.toNat-1)
 have e:nP (fI f) ((aF t (0,0)).1+((P.length:Int)-1),(aF t (0,0)).2)=((aF t (0,0)).1+((Y.length:Int)-1),(aF t (0,0)).2):=by
  unfold nP;show(fI f _,_)=_;rw[show(aF t (0,0)).1+((P.length:Int)-1)=((P.length+((aF t (0,0)).1.toNat-1):Nat):Int) by omega,uE,hE];exact Prod.ext (show((Y.length+((aF t (0,0)).1.toNat-1):Nat):Int)=(aF t (0,0)).1+((Y.length:Int)-1) by omega) rfl
 rw[e]at k2;unfold bP;rw[show((P.length:Nat):Int)-1+(aF t (0,0)).1=(aF t (0,0)).1+((P.length:Int)-1) by omega,show((Y.length:Nat):Int)-1+(aF t (0,0)).1=(aF t (0,0)).1+((Y.length:Int)-1) by omega];exact k2
theorem Ren.inter(h:Ren f P Y)(hp:JF P c x y)(hA:bE P)(h0:ak P (0,0))(hc:1≤c∧c≤7)(hb:BkW bk)(h7:c=7→(0≤(ah P x).2.2.1∧(ah P x).2.2.1<(bk.length:Nat))):Ren f (iJ bk P c x y) (iJ bk Y c (fI f x) (fI f y)):=by
 obtain⟨⟨hx0,hy0,p12,p3,px,py,dy,p5,p6⟩,s5,s6⟩:=hp;have hcs:c=1∨c=2∨c=3∨c=4∨c=5∨c=6∨c=7:=by omega
 rcases hcs with rfl|rfl|rfl|rfl|rfl|rfl|rfl
 ·obtain⟨j1,j2,j3,j4⟩:=p12 (.inl rfl);exact(h.join hA j1 j3).join (hA.join j1 j3) j2.join j4.join
 ·obtain⟨j1,j2,j3,j4⟩:=p12 (.inr rfl);exact(h.join hA j1 j3).join (hA.join j1 j3) j2.join j4.join
 ·obtain⟨hx1,hx2⟩:=p3 rfl;exact h.duplicate hA h0 hx0 hy0 hx1 hx2 py.1
 ·show Ren f (iH P y) (iH Y (fI f y));unfold iH;rw[h.Ip hy0.1 hy0.2,nJ];exact h.tK hA h0 _ fun i hi=>⟨hy0.1,hy0.2,by omega,by show((i+1:Nat):Int)<((ah P y).2.2.2.2.length:Nat);omega⟩
 ·obtain⟨j1,j2,j3⟩:=p5 rfl;exact h.operate hA h0 hx0 hy0 j1 j2
 ·obtain⟨j1,j2,j3⟩:=p6 rfl;exact h.choose hA h0 hx0 hy0 j1
 ·obtain⟨v0,v1⟩:=h7 rfl;show Ren f (fE (bQ bk (ah P x).2.2.1) (ah P x).2.1 P y) (fE (bQ bk (ah Y (fI f x)).2.2.1) (ah Y (fI f x)).2.1 Y (fI f y));rw[h.Ip hx0.1 hx0.2];exact h.expand ⟨hy0.1,hy0.2,Int.le_refl 0,by show(0:Int)<((ah P y).2.2.2.2.length:Nat);omega⟩ (hb.wi _ v0 v1) (hb.r0 _ v0 v1) (hb.r1 _ v0 v1)
theorem Ren.done(h:Ren f P Y)(hp:JF P c x y)(hA:bE P)(h0:ak P (0,0))(hc:1≤c∧c≤7)(hb:BkW bk)(h7:c=7→(0≤(ah P x).2.2.1∧(ah P x).2.2.1<(bk.length:Nat))):Ren f (gH bk P c x y) (gH bk Y c (fI f x) (fI f y)):=by
 have k:=h.inter (bk:=bk) hp hA h0 hc hb h7;have hle:=IU (xs:=P) bk c x y;have hx:=hp.x0;have hy:=hp.y0;have k1:=k.drop hx.1 (by omega);unfold gH;cases c==7
 ·exact k1.drop hy.1 (by rw[fD];omega)
 ·exact k1
end
end Go.Tr
