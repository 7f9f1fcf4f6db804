
/- Lazy reductions: the pair that is wanted is the same on both sides, and an active one. No program in it. -/
import Derived.Test.YtjijpkphkicoeaaGreatShort
import Derived.Test.YtjijpkphkicoeaaGreatHb
import Derived.Test.YtjijpkphkicoeaaGreatHc
import Derived.Test.YtjijpkphkicoeaaGreatYq
set_option linter.unusedSimpArgs false
set_option linter.unusedVariables false
namespace Go.Tr
open Go Go.RowKit
theorem XC{ys:List aj}{i:Nat}{b:Int}(hi:i<ys.length)(h1:1≤i)(hl:bS ys i=true)(hp:au ys ((i:Int),0)=(b,0))(hb:(i:Int)<b):((i:Int),b)∈dO ys:=by
 have e:elt (dflt aM) (ah ys (i:Nat)).2.2.2.2 0=(b,0):=hp;unfold dO kI;refine List.mem_map.2 ⟨i,?_,?_⟩
 ·rw[List.mem_filter,List.mem_range];refine⟨hi,?_⟩;unfold xk P7;rw[e,decide_eq_true h1,hl];show decide ((i:Int)<b)=true;exact decide_eq_true hb
 ·unfold KC;rw[e]
theorem KZ{A:List aj}{D:Int→Prop}(W:Wd A D)(hr:(ah A 0).2.2.2.2.length=1):∀(m:Nat) {a0 a b:Int},Live D A (a0,0)→a0≠0→fV A m a0=some (a,b)→Live D A (a,0)∧au A (a,0)=(b,0)∧a≠0∧b≠0
 |0,_,_,_,_,_,h=>by cases h
 |m+1,a0,a,b,hl,h0,h=>by
  unfold fV at h;obtain⟨_,w2,_,_⟩:=W.wi _ hl;cases hq:(au A (a0,0)).2==0 with
  |true=>
   rw[hq,qG]at h;cases hz:(au A (a0,0)).1==0 with
   |true=>rw[hz]at h;cases h
   |false=>
    rw[hz,qH]at h;injection h with h
    injection h with h3 h4
    subst h3 h4;refine⟨hl,?_,h0,by simpa using hz⟩;exact Prod.ext rfl (by simpa using hq)
  |false=>
   rw[hq,qH]at h;have hq2:(au A (a0,0)).2≠0:=by simpa using hq
   have hne:(au A (a0,0)).1≠0:=fun e=>by
    have k1:=w2.1.2.2.1;have k2:(au A (a0,0)).2<((ah A (au A (a0,0)).1).2.2.2.2.length:Nat):=w2.1.2.2.2;rw[e,hr]at k2;omega
   exact KZ W hr m ⟨⟨w2.1.1,w2.1.2.1,Int.le_refl 0,Int.lt_of_le_of_lt w2.1.2.2.1 w2.1.2.2.2⟩,w2.2⟩ hne h
section
variable {kv:List (Int×Bool)}{xs ys N Y:List aj}{f:Nat→Nat}
theorem Twin.Zh(T:Twin kv xs ys):(ah ys 0).2.2.2.2.length=1:=by
 rw[T.at_ (Int.le_refl 0) (by have:=T.rl;omega) T.r0];exact(rQ (T.wf 0 (Int.le_refl 0) (by have:=T.rl;omega) T.r0)).1 (.inl T.r1)
theorem mmP{a b:Int}(h:a<b):((min a b,max a b):Int×Int)=(a,b):=by
 rw[show min a b=a by omega,show max a b=b by omega]
theorem mmQ{a b:Int}(h:b<a):((min a b,max a b):Int×Int)=(b,a):=by
 rw[show min a b=b by omega,show max a b=a by omega]
theorem Twin.UN(T:Twin kv xs ys){q:aF}(hq:Live (Gone kv) ys q){a b:Int}(h:fF ys q=some (a,b)):(min a b,max a b)∈dO ys:=by
 have W:=T.ZA;have hr:=T.Zh;have hl:=T.len;unfold fF at h;cases h2:q.2==0 with
 |true=>rw[h2]at h;cases h
 |false=>
  rw[h2,qH]at h;have hq2:q.2≠0:=by simpa using h2
  obtain⟨⟨q1,q3,q4,q5⟩,q6⟩:=hq;have q5':q.2<((ah ys q.1).2.2.2.2.length:Nat):=q5;have hne:q.1≠0:=fun e=>by rw[e,hr]at q5';omega
  obtain⟨la,pe,na,nb⟩:=KZ W hr _ (a0:=q.1) ⟨⟨q1,q3,Int.le_refl 0,Int.lt_of_le_of_lt q4 q5⟩,q6⟩ hne h;obtain⟨_,w2,w3,w4⟩:=W.wi _ la;rw[pe]at w2 w3 w4;have a0:0≤a:=la.1.1;have a1:a<(ys.length:Nat):=la.1.2.1;have b0:0≤b:=w2.1.1;have b1:b<(ys.length:Nat):=w2.1.2.1;have nab:a≠b:=fun e=>w4 (by rw[e])
  have lv:∀z:Int,0≤z→z<(ys.length:Nat)→¬Gone kv z→Tr.bS ys z.toNat=true:=fun z h0 h1 hd=>by
   rw[T.bS (by omega),show((z.toNat:Nat):Int)=z by omega];cases hg:bn false kv z with
   |false=>rfl
   |true=>exact absurd hg hd
  have key:∀u v:Int,0≤u→u<(ys.length:Nat)→¬Gone kv u→u≠0→au ys (u,0)=(v,0)→u<v→(u,v)∈dO ys:=fun u v h0 h1 hd hz hp hv=>by
   have e:((u.toNat:Nat):Int)=u:=by omega
   have:=XC (ys:=ys) (i:=u.toNat) (b:=v) (by omega) (by omega) (lv u h0 h1 hd) (by rw[e];exact hp) (by omega);rw[e]at this;exact this
  rcases Int.lt_or_gt_of_ne nab with hlt|hlt
  ·rw[mmP hlt];exact key a b a0 a1 la.2 na pe hlt
  ·rw[mmQ hlt];exact key b a b0 b1 w2.2 nb w3 hlt
theorem Ren.ltI(h:Ren f N Y){a b:Int}(ha:0≤a)(hab:a<b):fI f a<fI f b:=by
 rw[iO ha,iO (by omega)];have:=h.mono a.toNat b.toNat (by omega);omega
theorem Ren.mm(h:Ren f N Y){a b:Int}(ha:0≤a)(hb:0≤b):((min (fI f a) (fI f b),max (fI f a) (fI f b)):Int×Int)=pF f (min a b,max a b):=by
 rcases Int.lt_trichotomy a b with k|k|k
 ·rw[mmP k,mmP (h.ltI ha k)];rfl
 ·subst k;show _=(fI f (min a a),fI f (max a a));rw[show min a a=a by omega,show max a a=a by omega,show min (fI f a) (fI f a)=fI f a by omega,show max (fI f a) (fI f a)=fI f a by omega]
 ·rw[mmQ k,mmQ (h.ltI hb k)];rfl
def nJ(fl:Bool)(A:List aj):Bool×aF:=bif fl then gD A (A.length+1) (0,0)else(eU A (0,0),(0,0))
theorem Eh{A:List aj}{D:Int→Prop}{g:aF→Bool×aF}{c:Int}{p:aF}(h0:∃l,I9 A D l p):∀{n:Nat},(∀i:Nat,i<n→∃l,I9 A D l (g (c,((i+1:Nat):Int))).2)→∃l,I9 A D l (dH g c p n).2
 |0,_=>h0
 |n+1,h=>by
  unfold dH;cases (dH g c p n).1 with
  |true=>exact h n (by omega)
  |false=>exact Eh h0 fun i hi=>h i (by omega)
theorem Jy{A:List aj}{D:Int→Prop}:∀(m:Nat) {l:List Int} {p:aF},I9 A D l p→∃l',I9 A D l' (gD A m p).2
 |0,l,p,h=>⟨l,h⟩
 |m+1,l,p,h=>by
  unfold gD;cases hv:eU A p with
  |false=>exact⟨l,h⟩
  |true=>
   cases hk:(ah A (au A p).1).1==9 with
   |false=>exact⟨l,h⟩
   |true=>
    have h0:(au A p).2=0:=by
     unfold eU at hv;cases hkb:nk (ah A (au A p).1).1 with
     |false=>rw[hkb]at hv;cases hv
     |true=>rw[hkb]at hv;simpa using hv
    exact Eh ⟨l,h⟩ fun i hi=>Jy m (.step h h0 (by simpa using hk) ((i+1:Nat):Int) (by omega) (by omega))
theorem qg{A:List aj}{D:Int→Prop}(W:Wd A D)(fl:Bool):Live D A (nJ fl A).2:=by
 unfold nJ;cases fl with
 |false=>exact W.r0
 |true=>
  obtain⟨l,h⟩:=Jy (A.length+1) (.root (A:=A) (D:=D));exact(h.ok W).lv
theorem Twin.dmX(T:Twin kv xs ys)(fl:Bool):nJ fl ys=nJ fl xs:=by
 unfold nJ;rw[←T.len,T.dem _ T.wd.r0,T.val T.wd.r0]
theorem Ren.nJ(h:Ren f N Y){k:List (Int×Bool)}{z:List aj}(T:Twin k z N)(fl:Bool):Tr.nJ fl Y=((Tr.nJ fl N).1,jv (fI f) (Tr.nJ fl N).2):=by
 have hA:=T.Bw
 have e0:jv (fI f) ((0,0):aF)=(0,0):=by
  show(fI f 0,(0:Int))=(0,0);rw[iO (Int.le_refl 0)];show(((f 0:Nat):Int),(0:Int))=(0,0);rw[h.zero];rfl
 unfold Tr.nJ;cases fl with
 |false=>
  show(Tr.eU Y (0,0),((0,0):aF))=(Tr.eU N (0,0),jv (fI f) (0,0));have:=h.eU hA T.Yg;rw[e0]at this ⊢;rw[this]
 |true=>
  show Tr.gD Y (Y.length+1) (0,0)=((Tr.gD N (N.length+1) (0,0)).1,jv (fI f) (Tr.gD N (N.length+1) (0,0)).2);have:=h.gD hA (Y.length+1) T.Yg;rw[e0]at this;have hle:=h.le;rw[this,Fz T.ZA (N.length+1) .root (by simp) (Y.length+1) (by omega)]
theorem Twin.YO(T:Twin kv xs ys){q:aF}(hq:Live (Gone kv) xs q):fF ys (au ys q)=fF xs (au xs q):=by
 have e:=(T.st.ag.port hq.1 hq.2).2;obtain⟨_,w2,_,_⟩:=T.st.wi _ hq;unfold fF;rw[e,←T.len,T.walk _ ⟨⟨w2.1.1,w2.1.2.1,Int.le_refl 0,Int.lt_of_le_of_lt w2.1.2.2.1 w2.1.2.2.2⟩,w2.2⟩]
theorem Ren.fF(h:Ren f N Y)(hA:aW N){q:aF}(hq:ak N q):Tr.fF Y (au Y (jv (fI f) q))=(Tr.fF N (au N q)).map (pF f):=by
 have hn:=hA _ hq;have hp:ak N ((au N q).1,0):=⟨hn.1,hn.2.1,Int.le_refl 0,Int.lt_of_le_of_lt hn.2.2.1 hn.2.2.2⟩;rw[h.peer hq];unfold Tr.fF;show(bif (au N q).2==0 then none else Tr.fV Y Y.length (fI f (au N q).1))=_;rw[h.fV hA _ hp,MF hA hp h.le];cases (au N q).2==0<;>rfl
inductive Yi(fl:Bool)(xs P:List aj)(N:List aj)(f g:Nat→Nat):Prop
 |done (hX:(nJ fl xs).1=true) (hQ:(nJ fl P).1=true)
 |stuck (hX:(nJ fl xs).1=false) (hQ:(nJ fl P).1=false) (nX:fF xs (au xs (nJ fl xs).2)=none) (nQ:fF P (au P (nJ fl P).2)=none)
 |pair (hX:(nJ fl xs).1=false) (hQ:(nJ fl P).1=false) (p:Int×Int) (hp:p∈dO N) (a b c d:Int) (nX:fF xs (au xs (nJ fl xs).2)=some (a,b)) (nQ:fF P (au P (nJ fl P).2)=some (c,d))
  (eX:(min a b,max a b)=pF f p) (eQ:(min c d,max c d)=pF g p)
theorem PW{P z:List aj}{k kp:List (Int×Bool)}{zp:List aj}{g:Nat→Nat}(TY:Twin kv xs Y)(rf:Ren f N Y)(TN:Twin k z N)(TP:Twin kp zp P)(rg:Ren g N P)(fl:Bool):Yi fl xs P N f g:=by
 have hA:=TN.Bw;have lN:=qg TN.ZA fl;have lX:=qg TY.wd fl;have dY:=TY.dmX fl;have dN:=rf.nJ TN fl;have dP:=rg.nJ TN fl;have nY:=TY.YO lX;have nN:=rf.fF hA lN.1;have nP:=rg.fF hA lN.1;have eX:(nJ fl xs).2=jv (fI f) (nJ fl N).2:=by rw[←dY,dN]
 have eQ:(nJ fl P).2=jv (fI g) (nJ fl N).2:=by rw[dP]
 rw[←eX,nY]at nN;rw[←eQ]at nP;have bX:(nJ fl xs).1=(nJ fl N).1:=by rw[←dY,dN]
 have bQ:(nJ fl P).1=(nJ fl N).1:=by rw[dP]
 cases hb:(nJ fl N).1 with
 |true=>exact .done (bX.trans hb) (bQ.trans hb)
 |false=>
  cases hn:fF N (au N (nJ fl N).2)with
  |none=>
   rw[hn]at nN nP;exact .stuck (bX.trans hb) (bQ.trans hb) nN nP
  |some r=>
   obtain⟨a,b⟩:=r;rw[hn]at nN nP;obtain⟨_,w2,_,_⟩:=TN.ZA.wi _ lN;have hin:=TN.UN w2 hn;obtain⟨i,_,_,e⟩:=Od hin
   have hpos:0≤a∧0≤b:=by
    have e1:min a b=(i:Int):=congrArg Prod.fst e;omega
   exact .pair (bX.trans hb) (bQ.trans hb) _ hin _ _ _ _ nN nP (rf.mm hpos.1 hpos.2) (rg.mm hpos.1 hpos.2)
end
end Go.Tr
