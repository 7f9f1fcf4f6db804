
/- One interaction of the program's nets, and of the reference's runs. -/
import Derived.Test.YtemalpelcdmemaaGreatIo
import Derived.Test.YtemalpelcdmemaaGreatJh
import Derived.Test.YtemalpelcdmemaaGreatNz
import Derived.Test.YtemalpelcdmemaaGreatYd
set_option linter.unusedSimpArgs false
set_option linter.unusedVariables false
namespace Go.Proofs.YtemalpelcdmemaaGreat
open Go Go.RowKit Go.Proofs Go.Tr
inductive Yw(bk:List (List NAgent))(kv:List (Int×Bool))(xs ys:List NAgent)(a b:Int):Prop
 |bad (code:Int) (hc:code≠0) (ho:Ii bk ys a b=code)
  (hI:∀us,FCall Tryz.prog 103 [.ptr 10000 0,vP (a,b)] (tW xs us bk kv) (.int .i64 code) (tW xs us bk kv))
  (hB:∀us pk tr,FCall Tryz.prog 126 [.rsl uNet bk,.ptr 10000 0,.int .i64 a,.int .i64 b] (tB ys us pk tr) (.int .i64 code) (tB ys us pk tr))
 |ok (x':List NAgent) (kv':List (Int×Bool)) (ho:Ii bk ys a b=0) (nx:Yz bk ys a b)
  (hI:∀us,FCall Tryz.prog 103 [.ptr 10000 0,vP (a,b)] (tW xs us bk kv) (.int .i64 0) (RL 10003 x' us bk kv'))
  (hB:∀us pk tr,FCall Tryz.prog 126 [.rsl uNet bk,.ptr 10000 0,.int .i64 a,.int .i64 b] (tB ys us pk tr) (.int .i64 0) (R4 10003 (uh bk ys a b) [] pk tr))
  (tw:Tr.Twin kv' x' (uh bk ys a b)) (l0:xs.length≤x'.length) (l1:x'.length≤xs.length+600) (wl:JH (fun _=>False) xs→JH (fun _=>False) x') (lv:x'.length≤kv'.length+600)
theorem pW{bk:List (List NAgent)}{kv:List (Int×Bool)}{xs ys:List NAgent}{a b:Int}(T:Tr.Twin kv xs ys)(k:nQ (Gone kv) xs a b)(ra:(ah xs a).1≠1)(rb:(ah xs b).1≠1)(hb:Np bk)(hl:xs.length≤700000):Yw bk kv xs ys a b:=by
 have ha0:0≤a∧a<(xs.length:Nat):=⟨k.px.1,k.px.2.1⟩;have hb0:0≤b∧b<(xs.length:Nat):=⟨k.py.1,k.py.2.1⟩;have hlen:=T.len;have ha1:0≤a∧a<(ys.length:Nat):=by rw[←hlen];exact ha0
 have hb1:0≤b∧b<(ys.length:Nat):=by rw[←hlen];exact hb0
 have ea:=T.at_ ha0.1 ha0.2 k.lx;have eb:=T.at_ hb0.1 hb0.2 k.ly;have wa:=T.wf a ha0.1 ha0.2 k.lx;have wb:=T.wf b hb0.1 hb0.2 k.ly;have ef:firstS ys a b=firstS xs a b:=by unfold firstS;rw[ea,eb]
 obtain⟨q1,q2⟩:=Fb wa wb ra rb;obtain⟨c1,c2⟩:=Ws wa wb ra rb hb.toBkW;have kf:=k.first T.st
 have rf:(ah xs (firstS xs a b).1).1≠1∧(ah xs (firstS xs a b).2).1≠1:=by
  unfold firstS;cases bf (ah xs a).1 (ah xs a).2.1 (ah xs b).1 (ah xs b).2.1==2
  ·exact⟨ra,rb⟩
  ·exact⟨rb,ra⟩
 have hx7:(bn (ah xs (a,b).1) (ah xs (a,b).2)).1=7→0≤(ah xs (bif (bn (ah xs (a,b).1) (ah xs (a,b).2)).2 then(a,b).2 else(a,b).1)).2.2.1∧0≤(ah xs (bif (bn (ah xs (a,b).1) (ah xs (a,b).2)).2 then(a,b).2 else(a,b).1)).2.1∧(ah xs (bif (bn (ah xs (a,b).1) (ah xs (a,b).2)).2 then(a,b).2 else(a,b).1)).2.1≤8:=fun e=>by
  have e':(bn (ah xs a) (ah xs b)).1=7:=e;obtain⟨k1,k2,k3,k4,k5⟩:=q2 (by rw[e'];decide);rw[e']at k3;have e2:(bif (bn (ah xs (a,b).1) (ah xs (a,b).2)).2 then(a,b).2 else(a,b).1)=(firstS xs a b).1:=k1;rw[e2];have w1:=T.wf (firstS xs a b).1 kf.px.1 kf.px.2.1 kf.lx;have h1:=vS w1 ((iY k3 (by decide)).2.2.2.2.2.2 rfl).1;have h2:=yI w1;refine⟨h1.1,?_⟩;omega
 generalize hxy:firstS xs a b=xy at*;obtain⟨x,y⟩:=xy;simp only at q1 q2 c1 c2 kf rf;have hx0:0≤x∧x<(xs.length:Nat):=⟨kf.px.1,kf.px.2.1⟩;have hy0:0≤y∧y<(xs.length:Nat):=⟨kf.py.1,kf.py.2.1⟩;have ex:=T.at_ hx0.1 hx0.2 kf.lx;have ey:=T.at_ hy0.1 hy0.2 kf.ly
 have hv:bO (ah ys (firstS ys a b).1) (ah ys (firstS ys a b).2)=7→0≤(ah ys (firstS ys a b).1).2.2.1:=fun e=>by
  rw[ef]at e ⊢;simp only at e ⊢;rw[ex,ey]at e;rw[ex];obtain⟨k1,k2,k3,k4,k5⟩:=q2 (by rw[q1,e];decide);rw[q1,e]at k3;exact(vS (T.wf x hx0.1 hx0.2 kf.lx) ((iY k3 (by decide)).2.2.2.2.2.2 rfl).1).1
 have hly:ys.length≤800000:=by omega
 cases hge:iB bk (ah xs x) (ah xs y)with
 |mk g e=>
  rw[hge]at c1 c2
  have hgy:iB bk (ah ys (firstS ys a b).1) (ah ys (firstS ys a b).2)=(g,e):=by
   rw[ef];simp only;rw[ex,ey];exact hge
  have hout:Ii bk ys a b=if e≠0 then e else if 600<IntKind.i64.wrap ((bR ys ys.length:Nat)+g)then 4 else 0:=by unfold Ii;rw[hgy]
  by_cases he:e=0
  ·subst he;obtain⟨k1,k2,k3⟩:=c2 rfl
   have hn8:bO (ah xs x) (ah xs y)≠8:=fun e8=>by
    unfold iB at hge;rw[e8]at hge;cases hge
   obtain⟨_,_,hr,h1,h7⟩:=q2 (by rw[q1];exact hn8);rw[q1]at hr h1 h7;generalize hc:bO (ah xs x) (ah xs y)=c at*;have hc7:1≤c∧c≤7:=⟨h1,h7⟩
   have hcl:iN (ah xs x) (ah xs y)=false:=by
    unfold bO at hc;cases h:iN (ah xs x) (ah xs y)with
    |false=>rfl
    |true=>rw[h]at hc;exact absurd hc.symm hn8
   obtain⟨sx,sy,v0,tw,hln⟩:=T.next (bk:=bk) kf hb.toBkV rf.1 rf.2 hr hc7 hcl k3;have h7':c=7→0≤(ah xs x).2.2.1∧(ah xs x).2.2.1<(bk.length:Nat):=fun e=>⟨v0 e,(k3 e).1⟩
   have hlv:=T.live;have hw:IntKind.i64.wrap ((xs.length:Nat)-(kv.length:Nat))=((bR ys ys.length:Nat):Int):=by rw[←hlv,IntWalk.i64_in _ (by omega)];omega
   have hck:checkN bk xs (a,b)=(c,x,y,0):=k1
   by_cases hf:600<IntKind.i64.wrap ((bR ys ys.length:Nat)+g)
   ·refine .bad 4 (by decide) (by rw[hout,if_neg (by decide),if_pos hf]) (fun us=> ?_) (fun us pk tr=> ?_)
    ·exact Q6 xs us bk kv (a,b) ha0 hb0 hb.ok hb.small hx7 hck hx0 hy0 h7' (by rw[hw,k2];exact hf)
    ·exact Wu bk ys us pk tr a b ha1 hb1 hb.small hly hv hgy hf
   ·have pA:ak ys (y,0):=by
     have:=T.st.ag.port kf.py kf.ly;exact this.1
    have wx:=T.wf x hx0.1 hx0.2 kf.lx;have lx:=yI wx;have lx2:0≤(ah xs x).2.1∧(ah xs x).2.1≤8:=by omega
    have hpos:0<xs.length:=T.rl;have hbkv:∀v:Int,0≤v→bQ bk v=bQ bk (v.toNat:Nat):=fun v h=>by rw[show((v.toNat:Nat):Int)=v by omega]
    have exq:ah ys (firstS ys a b).1=ah xs x:=by rw[ef];exact ex
    have hnc:nxC ys a b=c:=by unfold nxC;rw[ef];show bO (ah ys x) (ah ys y)=c;rw[ex,ey];exact hc
    have hny:uh bk ys a b=gH bk ys c x y:=by unfold uh;rw[hnc,ef]
    have nx:Yz bk ys a b:=by
     refine⟨?_,?_,?_⟩
     ·rw[hnc,ef];exact sy
     ·rw[hnc];exact hc7
     ·rw[hnc,ef];show c=7→0≤(ah ys x).2.2.1∧(ah ys x).2.2.1<(bk.length:Nat);rw[ex];exact h7'
    have wy:=T.wf y hy0.1 hy0.2 kf.ly
    have gl:=Ua (bk:=bk) (xs:=xs) (c:=c) (x:=x) (y:=y) hc7 (gu wy) (gu wx) (fun e=>by
     rcases(iY hr (by omega)).2.2.2.2.2.1 e with h|h
     ·exact .inl h.1
     ·exact .inr h.1) (fun e=>⟨(hb.exp (v0 e) (k3 e).1 xs (ah xs x).2.1 ((xs.length:Int)-1) rfl hpos).two,hb.tl _ (v0 e) (k3 e).1⟩)
    have hgx:bL false kv x=false:=by
     cases hq:bL false kv x with
     |false=>rfl
     |true=>exact absurd hq kf.lx
    have hgy2:bL false kv y=false:=by
     cases hq:bL false kv y with
     |false=>rfl
     |true=>exact absurd hq kf.ly
    have rl:=Xo T.kt (c:=c) hgx hgy2 kf.ne;have nl:=Mw (c:=c) hb (gu wy).2 (gu wx).2 h7'
    have g2:(gI c x y).length≤2:=by
     unfold gI;cases c==7<;>simp
    have hll:=uX ys ys.length;have hwr:IntKind.i64.wrap ((bR ys ys.length:Nat)+g)=(bR ys ys.length:Nat)+g:=IntWalk.i64_in _ (by rw[k2]at gl;omega);refine .ok (iq bk xs c x y) (mI kv (gI c x y)) (by rw[hout,if_neg (by decide),if_neg hf]) nx (fun us=> ?_) (fun us pk tr=> ?_) (by rw[hny];exact tw) (by omega) ?_ (fun w=>IW w hx0 hy0 id id hr hc7 hb.toBkW (fun e e9=>wD hcl e9 (by have q:=(iY hr (by omega)).2.2.2.2.2.1 e;omega)) k3) (by rw[hwr]at hf;rw[k2]at gl;omega)
    ·refine WK xs us bk kv (a,b) ha0 hb0 hb.ok hb.small hx7 hck hc7 sx.toIntPre T.al T.p0 (by omega) h7' (by rw[hw,k2];exact hf) fun e us=> ?_
     have F:=hb.exp (v0 e) (k3 e).1 xs (ah xs x).2.1 ((xs.length:Int)-1) rfl hpos;have hsm:NetSmall (bQ bk (ah xs x).2.2.1):=by rw[hbkv _ (v0 e)];exact hb.small _
     have hok8:∀i:Nat,0≤(ah (bQ bk (ah xs x).2.2.1) i).2.1∧(ah (bQ bk (ah xs x).2.2.1) i).2.1≤8:=by rw[hbkv _ (v0 e)];exact fun i=>hb.ok _ i
     have htl:=hb.tl _ (v0 e) (k3 e).1;exact expI (bQ bk (ah xs x).2.2.1) xs us bk kv x y hx0 (h7' e) rfl (by omega) hsm F.two (by omega) F.r0 lx2 hok8 (k3 e).2 F.bs F.ps F.rs kf.py.app F.top
    ·rw[hny];refine Zaa bk ys us pk tr a b ha1 hb1 hb.small hly hv (by rw[ef]) (by rw[ex,ey];exact hc) (by rw[ex,ey];exact hge) hc7 sy T.JN T.p0y (by rw[ex];exact h7') hf fun e us=> ?_
     rw[ex];have F:=hb.exp (v0 e) (k3 e).1 ys (ah xs x).2.1 ((ys.length:Int)-1) rfl (by omega);have hsm:NetSmall (bQ bk (ah xs x).2.2.1):=by rw[hbkv _ (v0 e)];exact hb.small _
     have hok8:∀i:Nat,0≤(ah (bQ bk (ah xs x).2.2.1) i).2.1∧(ah (bQ bk (ah xs x).2.2.1) i).2.1≤8:=by rw[hbkv _ (v0 e)];exact fun i=>hb.ok _ i
     have htl:=hb.tl _ (v0 e) (k3 e).1;have htop:=F.top;rw[F.pe,←F.ex,Int.add_comm]at htop;exact expB (bQ bk (ah xs x).2.2.1) ys us pk tr x y (ah xs x).2.1 (by rw[ex]) (by rw[←hlen];exact hx0) (by omega) hsm (by have:=F.two;omega) (by omega) (Int.ofNat_lt.1 F.r0.2.2.2) lx2 hok8 F.bt pA htop
    ·have n1:=(gu wx).2;have n2:=(gu (T.wf y hy0.1 hy0.2 kf.ly)).2;have:=Mw (c:=c) hb n2 n1 h7';omega
  ·refine .bad e he (by rw[hout,if_pos he]) (fun us=> ?_) (fun us pk tr=> ?_)
   ·have h1:=c1 he;have:=Uh xs us bk kv (a,b) ha0 hb0 hb.ok hb.small hx7 (by rw[h1];exact he);rw[h1]at this;exact this
   ·exact YM bk ys us pk tr a b ha1 hb1 hb.small hly hv hgy he
end Go.Proofs.YtemalpelcdmemaaGreat
