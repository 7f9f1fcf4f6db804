
/- Lazy reductions: the pair that is wanted is the same on both sides, and an active one. No program in it. -/
import Derived.Test.YtcjhkgfmklgikaaGreatShort
import Derived.Test.YtcjhkgfmklgikaaGreatHb
import Derived.Test.YtcjhkgfmklgikaaGreatHc
import Derived.Test.YtcjhkgfmklgikaaGreatYn
set_option linter.unusedSimpArgs false
set_option linter.unusedVariables false
namespace Go.Tr
open Go Go.RowKit
theorem VY{ys:List aj}{i:Nat}{b:Int}(hi:i<ys.length)(h1:1≤i)(hl:dL ys i=true)(hp:au ys ((i:Int),0)=(b,0))(hb:(i:Int)<b):((i:Int),b)∈kH ys:=by
 have e:elt (dflt aR) (ah ys (i:Nat)).2.2.2.2 0=(b,0):=hp;unfold kH sP;refine List.mem_map.2 ⟨i,?_,?_⟩
 ·rw[List.mem_filter,List.mem_range];refine⟨hi,?_⟩;unfold ED Rn;rw[e,decide_eq_true h1,hl];show decide ((i:Int)<b)=true;exact decide_eq_true hb
 ·unfold Ld;rw[e]
theorem J9{A:List aj}{D:Int→Prop}(W:Wd A D)(hr:(ah A 0).2.2.2.2.length=1):∀(m:Nat) {a0 a b:Int},Live D A (a0,0)→a0≠0→gF A m a0=some (a,b)→Live D A (a,0)∧au A (a,0)=(b,0)∧a≠0∧b≠0
 |0,_,_,_,_,_,h=>by cases h
 |m+1,a0,a,b,hl,h0,h=>by
  unfold gF at h;obtain⟨_,w2,_,_⟩:=W.wi _ hl;cases hq:(au A (a0,0)).2==0 with
  |true=>
   rw[hq,qG]at h;cases hz:(au A (a0,0)).1==0 with
   |true=>rw[hz]at h;cases h
   |false=>
    rw[hz,qH]at h;injection h with h
    injection h with h3 h4
    subst h3 h4;refine⟨hl,?_,h0,by simpa using hz⟩;exact Prod.ext rfl (by simpa using hq)
  |false=>
   rw[hq,qH]at h;have hq2:(au A (a0,0)).2≠0:=by simpa using hq
   have hne:(au A (a0,0)).1≠0:=fun e=>by
    have k1:=w2.1.2.2.1;have k2:(au A (a0,0)).2<((ah A (au A (a0,0)).1).2.2.2.2.length:Nat):=w2.1.2.2.2;rw[e,hr]at k2;omega
   exact J9 W hr m ⟨⟨w2.1.1,w2.1.2.1,Int.le_refl 0,Int.lt_of_le_of_lt w2.1.2.2.1 w2.1.2.2.2⟩,w2.2⟩ hne h
section
variable {kv:List (Int×Bool)}{xs ys N Y:List aj}{f:Nat→Nat}
theorem Twin.X4(T:Twin kv xs ys):(ah ys 0).2.2.2.2.length=1:=by
 rw[T.at_ (Int.le_refl 0) (by have:=T.rl;omega) T.r0];exact(rO (T.wf 0 (Int.le_refl 0) (by have:=T.rl;omega) T.r0)).1 (.inl T.r1)
theorem Zt{a b:Int}(h:a<b):((min a b,max a b):Int×Int)=(a,b):=by
 rw[show min a b=a by omega,show max a b=b by omega]
theorem Zu{a b:Int}(h:b<a):((min a b,max a b):Int×Int)=(b,a):=by
 rw[show min a b=b by omega,show max a b=a by omega]
theorem Twin.TK(T:Twin kv xs ys){q:aD}(hq:Live (Gone kv) ys q){a b:Int}(h:fU ys q=some (a,b)):(min a b,max a b)∈kH ys:=by
 have W:=T.Yh;have hr:=T.X4;have hl:=T.len;unfold fU at h;cases h2:q.2==0 with
 |true=>rw[h2]at h;cases h
 |false=>
  rw[h2,qH]at h;have hq2:q.2≠0:=by simpa using h2
  obtain⟨⟨q1,q3,q4,q5⟩,q6⟩:=hq;have q5':q.2<((ah ys q.1).2.2.2.2.length:Nat):=q5;have hne:q.1≠0:=fun e=>by rw[e,hr]at q5';omega
  obtain⟨la,pe,na,nb⟩:=J9 W hr _ (a0:=q.1) ⟨⟨q1,q3,Int.le_refl 0,Int.lt_of_le_of_lt q4 q5⟩,q6⟩ hne h;obtain⟨_,w2,w3,w4⟩:=W.wi _ la;rw[pe]at w2 w3 w4;have a0:0≤a:=la.1.1;have a1:a<(ys.length:Nat):=la.1.2.1;have b0:0≤b:=w2.1.1;have b1:b<(ys.length:Nat):=w2.1.2.1;have nab:a≠b:=fun e=>w4 (by rw[e])
  have lv:∀z:Int,0≤z→z<(ys.length:Nat)→¬Gone kv z→Tr.dL ys z.toNat=true:=fun z h0 h1 hd=>by
   rw[T.dL (by omega),show((z.toNat:Nat):Int)=z by omega];cases hg:bE false kv z with
   |false=>rfl
   |true=>exact absurd hg hd
  have key:∀u v:Int,0≤u→u<(ys.length:Nat)→¬Gone kv u→u≠0→au ys (u,0)=(v,0)→u<v→(u,v)∈kH ys:=fun u v h0 h1 hd hz hp hv=>by
   have e:((u.toNat:Nat):Int)=u:=by omega
   have:=VY (ys:=ys) (i:=u.toNat) (b:=v) (by omega) (by omega) (lv u h0 h1 hd) (by rw[e];exact hp) (by omega);rw[e]at this;exact this
  rcases Int.lt_or_gt_of_ne nab with hlt|hlt
  ·rw[Zt hlt];exact key a b a0 a1 la.2 na pe hlt
  ·rw[Zu hlt];exact key b a b0 b1 w2.2 nb w3 hlt
theorem Ren.ZV(h:Ren f N Y){a b:Int}(ha:0≤a)(hab:a<b):fI f a<fI f b:=by
 rw[iP ha,iP (by omega)];have:=h.mono a.toNat b.toNat (by omega);omega
theorem Ren.mm(h:Ren f N Y){a b:Int}(ha:0≤a)(hb:0≤b):((min (fI f a) (fI f b),max (fI f a) (fI f b)):Int×Int)=pF f (min a b,max a b):=by
 rcases Int.lt_trichotomy a b with k|k|k
 ·rw[Zt k,Zt (h.ZV ha k)];rfl
 ·subst k;show _=(fI f (min a a),fI f (max a a));rw[show min a a=a by omega,show max a a=a by omega,show min (fI f a) (fI f a)=fI f a by omega,show max (fI f a) (fI f a)=fI f a by omega]
 ·rw[Zu k,Zu (h.ZV hb k)];rfl
def xI(fl:Bool)(A:List aj):Bool×aD:=bif fl then gJ A (A.length+1) (0,0)else(fE A (0,0),(0,0))
theorem DR{A:List aj}{D:Int→Prop}{g:aD→Bool×aD}{c:Int}{p:aD}(h0:∃l,Ij A D l p):∀{n:Nat},(∀i:Nat,i<n→∃l,Ij A D l (g (c,((i+1:Nat):Int))).2)→∃l,Ij A D l (dB g c p n).2
 |0,_=>h0
 |n+1,h=>by
  unfold dB;cases (dB g c p n).1 with
  |true=>exact h n (by omega)
  |false=>exact DR h0 fun i hi=>h i (by omega)
theorem IQ{A:List aj}{D:Int→Prop}:∀(m:Nat) {l:List Int} {p:aD},Ij A D l p→∃l',Ij A D l' (gJ A m p).2
 |0,l,p,h=>⟨l,h⟩
 |m+1,l,p,h=>by
  unfold gJ;cases hv:fE A p with
  |false=>exact⟨l,h⟩
  |true=>
   cases hk:(ah A (au A p).1).1==9 with
   |false=>exact⟨l,h⟩
   |true=>
    have h0:(au A p).2=0:=by
     unfold fE at hv;cases hkb:nD (ah A (au A p).1).1 with
     |false=>rw[hkb]at hv;cases hv
     |true=>rw[hkb]at hv;simpa using hv
    exact DR ⟨l,h⟩ fun i hi=>IQ m (.step h h0 (by simpa using hk) ((i+1:Nat):Int) (by omega) (by omega))
theorem kT{A:List aj}{D:Int→Prop}(W:Wd A D)(fl:Bool):Live D A (xI fl A).2:=by
 unfold xI;cases fl with
 |false=>exact W.r0
 |true=>
  obtain⟨l,h⟩:=IQ (A.length+1) (.root (A:=A) (D:=D));exact(h.ok W).lv
theorem Twin.Zd(T:Twin kv xs ys)(fl:Bool):xI fl ys=xI fl xs:=by
 unfold xI;rw[←T.len,T.ZN _ T.wd.r0,T.val T.wd.r0]
theorem Ren.xI(h:Ren f N Y){k:List (Int×Bool)}{z:List aj}(T:Twin k z N)(fl:Bool):Tr.xI fl Y=((Tr.xI fl N).1,jI (fI f) (Tr.xI fl N).2):=by
 have hA:=T.Kl
 have e0:jI (fI f) ((0,0):aD)=(0,0):=by
  show(fI f 0,(0:Int))=(0,0);rw[iP (Int.le_refl 0)];show(((f 0:Nat):Int),(0:Int))=(0,0);rw[h.zero];rfl
 unfold Tr.xI;cases fl with
 |false=>
  show(Tr.fE Y (0,0),((0,0):aD))=(Tr.fE N (0,0),jI (fI f) (0,0));have:=h.fE hA T.Yw;rw[e0]at this ⊢;rw[this]
 |true=>
  show Tr.gJ Y (Y.length+1) (0,0)=((Tr.gJ N (N.length+1) (0,0)).1,jI (fI f) (Tr.gJ N (N.length+1) (0,0)).2);have:=h.gJ hA (Y.length+1) T.Yw;rw[e0]at this;have hle:=h.le;rw[this,ET T.Yh (N.length+1) .root (by simp) (Y.length+1) (by omega)]
theorem Twin.QE(T:Twin kv xs ys){q:aD}(hq:Live (Gone kv) xs q):fU ys (au ys q)=fU xs (au xs q):=by
 have e:=(T.st.ag.port hq.1 hq.2).2;obtain⟨_,w2,_,_⟩:=T.st.wi _ hq;unfold fU;rw[e,←T.len,T.walk _ ⟨⟨w2.1.1,w2.1.2.1,Int.le_refl 0,Int.lt_of_le_of_lt w2.1.2.2.1 w2.1.2.2.2⟩,w2.2⟩]
theorem Ren.fU(h:Ren f N Y)(hA:bf N){q:aD}(hq:ak N q):Tr.fU Y (au Y (jI (fI f) q))=(Tr.fU N (au N q)).map (pF f):=by
 have hn:=hA _ hq;have hp:ak N ((au N q).1,0):=⟨hn.1,hn.2.1,Int.le_refl 0,Int.lt_of_le_of_lt hn.2.2.1 hn.2.2.2⟩;rw[h.peer hq];unfold Tr.fU;show(bif (au N q).2==0 then none else Tr.gF Y Y.length (fI f (au N q).1))=_;rw[h.gF hA _ hp,LG hA hp h.le];cases (au N q).2==0<;>rfl
end
end Go.Tr
