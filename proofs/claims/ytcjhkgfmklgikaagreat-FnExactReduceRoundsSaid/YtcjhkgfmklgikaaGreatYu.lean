
/- An interaction leaves the wires between other agents as they are. No program in it. -/
import Derived.Test.YtcjhkgfmklgikaaGreatShort
import Derived.Test.YtcjhkgfmklgikaaGreatHh
set_option linter.unusedSimpArgs false
set_option linter.unusedVariables false
namespace Go.Tr
open Go Go.RowKit
abbrev Saf(p q r:aD):Prop:=r≠p∧r≠q
structure Fr(n:Nat)(p q:aD)(A:List aj):Prop where
 pi:ak A p
 pq:au A p=q
 no:∀r,ak A r→r≠p→r≠q→au A r≠p∧au A r≠q
 al:bf A
 r0:ak A (0,0)
 pn:p.1<(n:Nat)
 qn:q.1<(n:Nat)
 zz:Saf p q (0,0)
 ln:n≤A.length
section
variable {n:Nat}{p q:aD}{A:List aj}{x y:Int}
theorem Fr.new{r:aD}(h:Fr n p q A)(hr:(n:Int)≤r.1):Saf p q r:=
 ⟨fun e=>by have:=h.pn;rw[←e]at this;omega,fun e=>by have:=h.qn;rw[←e]at this;omega⟩
theorem ZaQ{s:Int}(h1:p.1≠x)(h2:q.1≠x):Saf p q (x,s):=⟨fun e=>h1 (by rw[←e]),fun e=>h2 (by rw[←e])⟩
theorem Fr.link(h:Fr n p q A){u v:aD}(hu:ak A u)(hv:ak A v)(su:Saf p q u)(sv:Saf p q v):Fr n p q (bL A u v):=by
 refine⟨h.pi.link,?_,fun r hr h1 h2=> ?_,h.al.link hu hv,h.r0.link,h.pn,h.qn,h.zz,by rw[jf];exact h.ln⟩
 ·rw[jC hu hv h.pi,if_neg sv.1,if_neg su.1];exact h.pq
 ·have hr':=hr.unlink;rw[jC hu hv hr'];split
  ·exact su
  ·split
   ·exact sv
   ·exact h.no r hr' h1 h2
theorem Fr.move(h:Fr n p q A){o w:aD}(ho:ak A o)(so:Saf p q o)(hw:ak A w)(sw:Saf p q w):Fr n p q (dA A o w):=
 h.link (h.al o ho) hw (h.no o ho so.1 so.2) sw
theorem Fr.join(h:Fr n p q A){a b:aD}(ha:ak A a)(sa:Saf p q a)(hb:ak A b)(sb:Saf p q b):Fr n p q (aV A a b):=by
 unfold aV;cases ((au A a).1==b.1&&(au A a).2==b.2)with
 |true=>exact h
 |false=>exact h.link (h.al a ha) (h.al b hb) (h.no a ha sa.1 sa.2) (h.no b hb sb.1 sb.2)
theorem Fr.add(h:Fr n p q A)(k l v:Int)(d:List Int)(m:Nat):Fr n p q (A++[bg k l v d m]):=by
 have pl:=CP h.pi;refine⟨h.pi.app,by rw[nI pl];exact h.pq,fun r hr h1 h2=> ?_,h.al.add h.r0 _ _ _ _ _,h.r0.app,h.pn,h.qn,h.zz,by rw[qA];have:=h.ln;omega⟩
 by_cases hlt:r.1.toNat<A.length
 ·rw[nI hlt];obtain⟨r1,r2,r3,r4⟩:=hr;rw[dw hlt]at r4;exact h.no r ⟨r1,by omega,r3,r4⟩ h1 h2
 ·obtain⟨r1,r2,r3,r4⟩:=hr;rw[qA,qJ]at r2;have e:r.1.toNat=A.length:=by omega
  have hp:au (A++[bg k l v d m]) r=(0,0):=by
   unfold au;rw[pJ e]at r4 ⊢;simp only[bg,aj.aH,List.length_replicate]at r4;unfold elt;rw[qC];simp only[bg,aj.aH];rw[List.getElem?_replicate];split<;>rfl
  rw[hp];exact h.zz
theorem Fr.er(h:Fr n p q A)(sy:∀s,Saf p q (y,s)):∀k,(∀i:Nat,i<k→ak A (y,((i+1:Nat):Int)))→Fr n p q (rV y A k)
 |0,_=>h
 |k+1,hk=>((h.er sy k fun i hi=>hk i (by omega)).add _ _ _ _ _).move (oh (hk k (by omega)) k).app (sy _) (yZ k) (h.new (by have:=h.ln;show(n:Int)≤((A.length+k:Nat):Int);omega))
theorem Fr.ZbP(h:Fr n p q A){c d:Int}(hc:(n:Int)≤c)(hd:(n:Int)≤d):∀k,(∀i:Nat,i≤k→ak A (c,(i:Nat))∧ak A (d,(i:Nat)))→Fr n p q (dF x c d A k)
 |0,_=>h
 |k+1,hk=>by
  have F:=h.ZbP hc hd k fun i hi=>hk i (by omega)
  have hl:=F.ln;have e1:=bV (x:=x) (c:=c) (d:=d) (hk (k+1) (Nat.le_refl _)).1 k;have e2:=bV (x:=x) (c:=c) (d:=d) (hk (k+1) (Nat.le_refl _)).2 k;unfold dF ni;refine((F.add 4 _ 0 [] 3).link (ak.new (by decide) (by decide)) e1.app (h.new ?_) (h.new hc)).link (ak.link (ak.new (by decide) (by decide))) e2.app.link (h.new ?_) (h.new hd)
  ·show(n:Int)≤((dF x c d A k).length:Nat);omega
  ·show(n:Int)≤((dF x c d A k).length:Nat);omega
theorem Fr.moves(h:Fr n p q A)(sy:∀s,Saf p q (y,s)){b:Nat}(hb:n≤b):∀k,(∀i:Nat,i<k→ak A (y,((i:Nat):Int)+1)∧ak A (((b+i:Nat):Int),0))→Fr n p q (cO y b A k)
 |0,_=>h
 |k+1,hk=>(h.moves sy hb k fun i hi=>hk i (by omega)).move (fF (hk k (by omega)).1 k) (sy _) (fF (hk k (by omega)).2 k) (h.new (by show(n:Int)≤((b+k:Nat):Int);omega))
theorem Za1{b:Nat}(hb:n+1≤b):∀k,(n:Int)≤(iO b k).1
 |0=>by show(n:Int)≤((b-1:Nat):Int);omega
 |k+1=>by show(n:Int)≤((b+k:Nat):Int);omega
theorem Fr.ch(h:Fr n p q A)(sx:∀s,Saf p q (x,s)){lv:Int}(hn:n+1≤A.length)(hr:ak A (iO A.length 0)):∀k,(∀i:Nat,i<k→ak A (x,((i+1:Nat):Int)))→Fr n p q (oC lv x A.length A k)
 |0,_=>h
 |k+1,hk=>by
  have F:=h.ch (lv:=lv) sx hn hr k fun i hi=>hk i (by omega)
  unfold oC;refine((F.add _ _ _ _ _).link (vV hr k).app (uJ k (by decide) (by decide)) (h.new (Za1 hn k)) (h.new ?_)).move (mh (hk k (by omega)) k).app.link (sx _) (uJ k (by decide) (by decide)).link (h.new ?_)
  ·show(n:Int)≤((A.length+k:Nat):Int);omega
  ·show(n:Int)≤((A.length+k:Nat):Int);omega
theorem Za8{bk:List (List aj)}{c:Int}(h:Fr A.length p q A)(hp:F9 A c x y)(sx:p.1≠x∧q.1≠x)(sy:p.1≠y∧q.1≠y)(hc:1≤c∧c≤7)(hb:BkW bk)(h7:c=7→(0≤(ah A x).2.2.1∧(ah A x).2.2.1<(bk.length:Nat))):au (iq bk A c x y) p=q:=by
 obtain⟨⟨hx0,hy0,p12,p3,px,py,dy,p5,p6⟩,k5,k6⟩:=hp;have Sx:∀s,Saf p q (x,s):=fun s=>ZaQ sx.1 sx.2
 have Sy:∀s,Saf p q (y,s):=fun s=>ZaQ sy.1 sy.2
 have hA:=h.al;have h0:=h.r0;have hcs:c=1∨c=2∨c=3∨c=4∨c=5∨c=6∨c=7:=by omega
 rcases hcs with rfl|rfl|rfl|rfl|rfl|rfl|rfl
 ·obtain⟨j1,j2,j3,j4⟩:=p12 (.inl rfl);exact((h.join j1 (Sx _) j3 (Sy _)).join j2.join (Sx _) j4.join (Sy _)).pq
 ·obtain⟨j1,j2,j3,j4⟩:=p12 (.inr rfl);exact((h.join j1 (Sx _) j3 (Sy _)).join j2.join (Sx _) j4.join (Sy _)).pq
 ·obtain⟨hx1,hx2⟩:=p3 rfl;have F2:Fr A.length p q (dup2 A y):=(h.add _ _ _ _ _).add _ _ _ _ _;have hcd:∀i:Nat,i≤(ah A y).2.2.2.2.length-1→ak (dup2 A y) (((A.length:Nat):Int),(i:Nat))∧ak (dup2 A y) (((A.length+1:Nat):Int),(i:Nat)):=fun i hi=>⟨qb (by omega) (by omega),qg (by omega) (by omega)⟩
  have F3:Fr A.length p q (dup3 A x y):=F2.ZbP (Int.le_refl _) (by omega) _ hcd;have h3:∀{p},ak A p→ak (dup3 A x y) p:=fun h=>bV (mD h) _
  have hc0:ak (dup3 A x y) (((A.length:Nat):Int),0):=bV (qb (by decide) (by omega)) _;have hd0:ak (dup3 A x y) (((A.length+1:Nat):Int),0):=bV (qg (by decide) (by omega)) _;have F4:Fr A.length p q (kE A x y):=(F3.move (h3 hx1) (Sx _) hc0 (h.new (Int.le_refl _))).move (h3 hx2).move (Sx _) hd0.move (h.new (by show((A.length:Nat):Int)≤((A.length+1:Nat):Int);omega));refine(F4.moves Sy (b:=A.length+2) (by omega) ((ah A y).2.2.2.2.length-1) fun i hi=>⟨(h3 ⟨hy0.1,hy0.2,by omega,?_⟩).move.move,?_⟩).pq
  ·show((i:Nat):Int)+1<((ah A y).2.2.2.2.length:Nat);omega
  ·have:=(qh (x:=x) (c:=((A.length:Nat):Int)) (d:=((A.length+1:Nat):Int)) (xs:=dup2 A y) hi).move (p:=(x,1)) (q:=(((A.length:Nat):Int),0));have:=this.move (p:=(x,2)) (q:=(((A.length+1:Nat):Int),0));rw[gK]at this;exact this
 ·exact(h.er Sy _ fun i hi=>⟨hy0.1,hy0.2,by omega,by show((i+1:Nat):Int)<((ah A y).2.2.2.2.length:Nat);omega⟩).pq
 ·obtain⟨j1,j2,j3⟩:=p5 rfl;show au (bG A x y) p=q;unfold bG;cases hk:(ah A y).1==7 with
  |true=>
   have k7:=j2 (by simpa using hk);exact(((h.add _ _ _ _ _).move j1.app (Sy _) (ak.new (by decide) (by decide)) (h.new (Int.le_refl _))).move k7.app.move (Sy _) (ak.new (by decide) (by decide)).move (h.new (Int.le_refl _))).pq
  |false=>exact((h.add _ _ _ _ _).move j1.app (Sy _) (ak.new (by decide) (by decide)) (h.new (Int.le_refl _))).pq
 ·obtain⟨j1,j2,j3⟩:=p6 rfl;show au (dx A x y) p=q;unfold dx;cases hk:(ah A y).1==11 with
  |true=>exact((h.add _ _ _ _ _).move j1.app (Sy _) (ak.new (by decide) (by decide)) (h.new (Int.le_refl _))).pq
  |false=>
   simp only[qH];have F1:Fr A.length p q (bD A y (ah A x).2.2.1):=h.add _ _ _ _ _;have h1l:(bD A y (ah A x).2.2.1).length=A.length+1:=pO _ _ _;have h1R:ak (bD A y (ah A x).2.2.1) (iO (bD A y (ah A x).2.2.1).length 0):=by rw[h1l];exact ak.new (by decide) (by decide)
   have h1:∀{p},ak A p→ak (bD A y (ah A x).2.2.1) p:=fun h=>h.app
   have F2:=F1.ch (lv:=(ah A y).2.1) Sx (by omega) h1R ((ah A x).2.2.2.2.length-1) fun i hi=>h1 ⟨hx0.1,hx0.2,by omega,by show((i+1:Nat):Int)<((ah A x).2.2.2.2.length:Nat);omega⟩
   have hR:=vV (lv:=(ah A y).2.1) (x:=x) h1R ((ah A x).2.2.2.2.length-1);have h2:=mh (lv:=(ah A y).2.1) (x:=x) (b:=(bD A y (ah A x).2.2.1).length) (h1 j1) ((ah A x).2.2.2.2.length-1);rw[h1l]at F2 hR h2;exact(F2.move h2 (Sy _) hR (h.new (Za1 (Nat.le_refl _) _))).pq
 ·obtain⟨v0,v1⟩:=h7 rfl;show au (eU (bP bk (ah A x).2.2.1) (ah A x).2.1 A y) p=q;have ht:=hb.wi _ v0 v1;have r0:=hb.r0 _ v0 v1;have r1:=hb.r1 _ v0 v1;generalize bP bk (ah A x).2.2.1=t at*;generalize (ah A x).2.1=lv;unfold eU;generalize hb:(A.length:Int)-1=b;have hb':b=(A.length:Int)-1:=hb.symm
  have e1:jq lv b t (t.length-1)=((bY lv t).drop 1).map (bW b):=by
   unfold jq;rw[qN (by rw[List.length_drop,lC];exact Nat.le_refl _)]
  rw[e1];obtain⟨s1,s2,s3,s4⟩:=ht (0,0) r0
  have rpos:1≤(au t (0,0)).1:=by
   have h1:0≤(au t (0,0)).1:=s2.1
   by_cases e:(au t (0,0)).1=0
   ·exact absurd (r1 _ s2 e) s4
   ·omega
  generalize au t (0,0)=R at*
  have hR:ak (A++((bY lv t).drop 1).map (bW b)) (b+R.1,R.2):=(ak.lV hb').2 (.inr ⟨by show(A.length:Int)≤b+R.1;omega,ak.jm.2 (by
   rw[show((b+R.1,R.2):aD).1-b=R.1 by show b+R.1-b=R.1;omega];exact s2)⟩)
  have hY:ak A (y,0):=⟨hy0.1,hy0.2,Int.le_refl 0,by show(0:Int)<((ah A y).2.2.2.2.length:Nat);omega⟩;have hN:Saf p q (b+R.1,R.2):=h.new (by show(A.length:Int)≤b+R.1;omega);rw[jC hR hY.app h.pi.app,if_neg (Sy 0).1,if_neg hN.1,nI (CP h.pi)];exact h.pq
theorem Zal{B:List aj}(hx:0≤x)(hp:0≤p.1)(hne:p.1≠x):au (bC B x) p=au B p:=by
 unfold au bC;rw[kQ,if_neg (fun hh=>hne (by omega))]
theorem Zak{B:List aj}{i:Int}(hx:0≤x)(hp:0≤i)(hne:i≠x):(ah (bC B x) i).1=(ah B i).1:=by
 unfold bC;rw[kQ,if_neg (fun hh=>hne (by omega))]
theorem ZaT(xs:List aj)(p q:aD)(i:Int):(ah (bL xs p q) i).1=(ah xs i).1:=by
 unfold bL
 have h:∀(xs:List aj) (p q:aD),(ah (aL xs p q) i).1=(ah xs i).1:=fun xs p q=>by
  rw[eF];split
  ·rename_i h;rw[yL h.1.symm]
  ·rfl
 rw[h,h]
theorem ZaI{B:List aj}(bk:List (List aj))(c x y:Int){i:Int}(hi:i.toNat<B.length):(ah (iq bk B c x y) i).1=(ah B i).1:=
 (CG (P:=fun ws=>i.toNat<ws.length∧(ah ws i).1=(ah B i).1) (fun ws p q h=>by rw[jf,ZaT];exact h) (fun ws zs h=>⟨by rw[qA];omega,by rw[dw h.1];exact h.2⟩) ⟨hi,rfl⟩).2
end
section
variable {kv:List (Int×Bool)}{xs Y:List aj}{bk:List (List aj)}{a b u v:Int}
theorem Zbc(bk:List (List aj))(Y:List aj)(a b:Int):Y.length≤(MX bk Y a b).length:=by
 unfold MX fT;have:=Fh (xs:=Y) bk (Sn Y a b) (aC Y a b).1 (aC Y a b).2;cases Sn Y a b==7
 ·show Y.length≤(bC (bC _ _) _).length;rw[eO,eO];exact this
 ·show Y.length≤(bC _ _).length;rw[eO];exact this
theorem Twin.Zbl(T:Twin kv xs Y)(hb:BkW bk)(h1:(a,b)∈kH Y)(nx:YE bk Y a b)(h2:(u,v)∈kH Y)(hne:u≠a):(u,v)∈kH (MX bk Y a b):=by
 obtain⟨k1,_,_,ab⟩:=T.Rq h1;obtain⟨k2,ru,rv,uv⟩:=T.Rq h2;have W:=T.Yh;have hl:=T.len;have pa:=T.st.ag.port k1.px k1.lx;have pb:=T.st.ag.port k1.py k1.ly;have pu:=T.st.ag.port k2.px k2.lx;have pv:=T.st.ag.port k2.py k2.ly;rw[k1.w]at pa;rw[k2.w]at pu;obtain⟨_,_,wa,_⟩:=W.wi (a,0) ⟨pa.1,k1.lx⟩;obtain⟨_,_,wu,_⟩:=W.wi (u,0) ⟨pu.1,k2.lx⟩;rw[pa.2]at wa;rw[pu.2]at wu
 have nvb:v≠b:=fun e=>by
  rw[e,wa]at wu;exact hne (congrArg Prod.fst wu).symm
 have nub:u≠b:=fun e=>by
  have e2:=pu.2;rw[e,wa]at e2;have:a=v:=congrArg Prod.fst e2;show False;have ab':a<b:=ab;have uv':u<v:=uv;omega
 have nva:v≠a:=fun e=>by
  rw[e,pa.2]at wu;have:b=u:=congrArg Prod.fst wu;exact nub this.symm
 have u0:0≤u:=k2.px.1;have v0:0≤v:=k2.py.1;have un:u<(xs.length:Nat):=k2.px.2.1;have vn:v<(xs.length:Nat):=k2.py.2.1;have nu0:u≠0:=fun e=>ru (by show(ah xs u).1=1;rw[e];exact T.r1)
 have nv0:v≠0:=fun e=>rv (by show(ah xs v).1=1;rw[e];exact T.r1)
 have F:Fr Y.length (u,0) (v,0) Y:=by
  refine⟨pu.1,pu.2,fun r hr n1 n2=> ?_,T.Kl,T.Yw,by show u<(Y.length:Nat);omega,by show v<(Y.length:Nat);omega,⟨fun e=>nu0 (congrArg Prod.fst e).symm,fun e=>nv0 (congrArg Prod.fst e).symm⟩,Nat.le_refl _⟩
  have hd:¬Gone kv r.1:=fun hd=>by
   have e:=(T.hole _ hd).2;obtain⟨_,_,h3,h4⟩:=hr;rw[e]at h4;have:r.2<((0:Nat):Int):=h4;omega
  obtain⟨_,_,wr,_⟩:=W.wi r ⟨hr,hd⟩;refine⟨fun e=> ?_,fun e=> ?_⟩
  ·rw[e,pu.2]at wr;exact n2 wr.symm
  ·rw[e,wu]at wr;exact n1 wr.symm
 have fa:(aC Y a b).1=a∨(aC Y a b).1=b:=by
  unfold aC;cases aX (ah Y a).1 (ah Y a).2.1 (ah Y b).1 (ah Y b).2.1==2
  ·exact .inl rfl
  ·exact .inr rfl
 have fb:(aC Y a b).2=a∨(aC Y a b).2=b:=by
  unfold aC;cases aX (ah Y a).1 (ah Y a).2.1 (ah Y b).1 (ah Y b).2.1==2
  ·exact .inr rfl
  ·exact .inl rfl
 have hxy:=Aa (xs:=Y) (n:=(Y.length:Nat)) (a:=a) (b:=b) ⟨pa.1.1,pa.1.2.1⟩ ⟨pb.1.1,pb.1.2.1⟩;have ux:u≠(aC Y a b).1:=by rcases fa with e|e<;>rw[e]<;>assumption
 have uy:u≠(aC Y a b).2:=by rcases fb with e|e<;>rw[e]<;>assumption
 have vx:v≠(aC Y a b).1:=by rcases fa with e|e<;>rw[e]<;>assumption
 have vy:v≠(aC Y a b).2:=by rcases fb with e|e<;>rw[e]<;>assumption
 have hI:=Za8 (bk:=bk) F nx.sp ⟨ux,vx⟩ ⟨uy,vy⟩ nx.hc hb nx.h7;have hK:=ZaI (B:=Y) bk (Sn Y a b) (aC Y a b).1 (aC Y a b).2 (i:=u) (by omega)
 have hP:au (MX bk Y a b) (u,0)=(v,0)∧(ah (MX bk Y a b) u).1=(ah Y u).1:=by
  unfold MX fT;cases Sn Y a b==7
  ·show au (bC (bC _ _) _) (u,0)=(v,0)∧(ah (bC (bC _ _) _) u).1=_;rw[Zal hxy.2.1 u0 uy,Zal hxy.1.1 u0 ux,Zak hxy.2.1 u0 uy,Zak hxy.1.1 u0 ux];exact⟨hI,hK⟩
  ·show au (bC _ _) (u,0)=(v,0)∧(ah (bC _ _) u).1=_;rw[Zal hxy.1.1 u0 ux,Zak hxy.1.1 u0 ux];exact⟨hI,hK⟩
 have ey:=T.at_ u0 un k2.lx;have wk:=Ic (T.wf u u0 un k2.lx);have eu:((u.toNat:Nat):Int)=u:=by omega
 have hle:=Zbc bk Y a b
 have:=VY (ys:=MX bk Y a b) (i:=u.toNat) (b:=v) (by omega) (by omega) (by
  unfold Tr.dL;rw[eu,hP.2,ey];have:(ah xs u).1≠0:=by omega
  simpa using this) (by rw[eu];exact hP.1) (by rw[eu];exact uv)
 rw[eu]at this;exact this
end
end Go.Tr
