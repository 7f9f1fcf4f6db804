
/- One interaction of the program's nets, and of the reference's runs. -/
import Derived.Test.YtjijpkphkicoeaaGreatShort
import Derived.Test.YtjijpkphkicoeaaGreatIo
import Derived.Test.YtjijpkphkicoeaaGreatJh
import Derived.Test.YtjijpkphkicoeaaGreatNz
import Derived.Test.YtjijpkphkicoeaaGreatYd
import Derived.Test.YtjijpkphkicoeaaGreatRn
import Derived.Test.YtjijpkphkicoeaaGreatUg
import Derived.Test.YtjijpkphkicoeaaGreatRh
import Derived.Test.YtjijpkphkicoeaaGreatKEv
import Derived.Test.YtjijpkphkicoeaaGreatKDbg
set_option maxHeartbeats 4000000
set_option maxRecDepth 100000
set_option linter.unusedSimpArgs false
set_option linter.unusedVariables false
set_option linter.unusedSectionVars false
namespace Go.Proofs.YtjijpkphkicoeaaGreat
open Go Go.RowKit Go.Proofs Go.Tr
inductive QB(bk:List (List NAgent))(kv:List (Int×Bool))(xs ys:List NAgent)(a b:Int):Prop
 |bad (code:Int) (hc:code≠0) (ho:Ba bk ys a b=code)
  (hI:∀us,FCall Tryz.prog 60 [.ptr 10000 0,vP (a,b)] (tW xs us bk kv) (.int .i64 code) (tW xs us bk kv))
  (hB:∀us pk tr,FCall Tryz.prog 90 [.rsl uNet bk,.ptr 10000 0,.int .i64 a,.int .i64 b] (tB ys us pk tr) (.int .i64 code) (tB ys us pk tr))
 |ok (x':List NAgent) (kv':List (Int×Bool)) (ho:Ba bk ys a b=0) (nx:QF bk ys a b)
  (hI:∀us,FCall Tryz.prog 60 [.ptr 10000 0,vP (a,b)] (tW xs us bk kv) (.int .i64 0) (KW 10003 x' us bk kv'))
  (hB:∀us pk tr,FCall Tryz.prog 90 [.rsl uNet bk,.ptr 10000 0,.int .i64 a,.int .i64 b] (tB ys us pk tr) (.int .i64 0) (tBn 10003 (oC bk ys a b) [] pk tr))
  (tw:Tr.Twin kv' x' (oC bk ys a b)) (l0:xs.length≤x'.length) (l1:x'.length≤xs.length+600) (wl:CB (fun _=>False) xs→CB (fun _=>False) x') (lv:x'.length≤kv'.length+600)
theorem kT{bk:List (List NAgent)}{kv:List (Int×Bool)}{xs ys:List NAgent}{a b:Int}(T:Tr.Twin kv xs ys)(k:jO (Gone kv) xs a b)(ra:(agAt xs a).1≠1)(rb:(agAt xs b).1≠1)(hb:BkS bk)(hl:xs.length≤700000):QB bk kv xs ys a b:=by
 have ha0:0≤a∧a<(xs.length:Nat):=⟨k.px.1,k.px.2.1⟩;have hb0:0≤b∧b<(xs.length:Nat):=⟨k.py.1,k.py.2.1⟩;have hlen:=T.len;have ha1:0≤a∧a<(ys.length:Nat):=by rw[←hlen];exact ha0
 have hb1:0≤b∧b<(ys.length:Nat):=by rw[←hlen];exact hb0
 have ea:=T.at_ ha0.1 ha0.2 k.lx;have eb:=T.at_ hb0.1 hb0.2 k.ly;have wa:=T.wf a ha0.1 ha0.2 k.lx;have wb:=T.wf b hb0.1 hb0.2 k.ly;have ef:aj ys a b=aj xs a b:=by unfold aj;rw[ea,eb]
 obtain⟨q1,q2⟩:=yU wa wb ra rb;obtain⟨c1,c2⟩:=Ox wa wb ra rb hb.toBkW;have kf:=k.first T.st
 have rf:(agAt xs (aj xs a b).1).1≠1∧(agAt xs (aj xs a b).2).1≠1:=by
  unfold aj;cases aG (agAt xs a).1 (agAt xs a).2.1 (agAt xs b).1 (agAt xs b).2.1==2
  ·exact⟨ra,rb⟩
  ·exact⟨rb,ra⟩
 have hx7:(aH (agAt xs (a,b).1) (agAt xs (a,b).2)).1=7→0≤(agAt xs (bif (aH (agAt xs (a,b).1) (agAt xs (a,b).2)).2 then(a,b).2 else(a,b).1)).2.2.1∧0≤(agAt xs (bif (aH (agAt xs (a,b).1) (agAt xs (a,b).2)).2 then(a,b).2 else(a,b).1)).2.1∧(agAt xs (bif (aH (agAt xs (a,b).1) (agAt xs (a,b).2)).2 then(a,b).2 else(a,b).1)).2.1≤8:=fun e=>by
  have e':(aH (agAt xs a) (agAt xs b)).1=7:=e;obtain⟨k1,k2,k3,k4,k5⟩:=q2 (by rw[e'];decide);rw[e']at k3;have e2:(bif (aH (agAt xs (a,b).1) (agAt xs (a,b).2)).2 then(a,b).2 else(a,b).1)=(aj xs a b).1:=k1;rw[e2];have w1:=T.wf (aj xs a b).1 kf.px.1 kf.px.2.1 kf.lx;have h1:=p9 w1 ((eH k3 (by decide)).2.2.2.2.2.2 rfl).1;have h2:=rZ w1;refine⟨h1.1,?_⟩;omega
 generalize hxy:aj xs a b=xy at*;obtain⟨x,y⟩:=xy;simp only at q1 q2 c1 c2 kf rf;have hx0:0≤x∧x<(xs.length:Nat):=⟨kf.px.1,kf.px.2.1⟩;have hy0:0≤y∧y<(xs.length:Nat):=⟨kf.py.1,kf.py.2.1⟩;have ex:=T.at_ hx0.1 hx0.2 kf.lx;have ey:=T.at_ hy0.1 hy0.2 kf.ly
 have hv:aQ (agAt ys (aj ys a b).1) (agAt ys (aj ys a b).2)=7→0≤(agAt ys (aj ys a b).1).2.2.1:=fun e=>by
  rw[ef]at e ⊢;simp only at e ⊢;rw[ex,ey]at e;rw[ex];obtain⟨k1,k2,k3,k4,k5⟩:=q2 (by rw[q1,e];decide);rw[q1,e]at k3;exact(p9 (T.wf x hx0.1 hx0.2 kf.lx) ((eH k3 (by decide)).2.2.2.2.2.2 rfl).1).1
 have hly:ys.length≤800000:=by omega
 cases hge:dR bk (agAt xs x) (agAt xs y)with
 |mk g e=>
  rw[hge]at c1 c2
  have hgy:dR bk (agAt ys (aj ys a b).1) (agAt ys (aj ys a b).2)=(g,e):=by
   rw[ef];simp only;rw[ex,ey];exact hge
  have hout:Ba bk ys a b=if e≠0 then e else if 600<IntKind.i64.wrap ((aT ys ys.length:Nat)+g)then 4 else 0:=by unfold Ba;rw[hgy]
  by_cases he:e=0
  ·subst he;obtain⟨k1,k2,k3⟩:=c2 rfl
   have hn8:aQ (agAt xs x) (agAt xs y)≠8:=fun e8=>by
    unfold dR at hge;rw[e8]at hge;cases hge
   obtain⟨_,_,hr,h1,h7⟩:=q2 (by rw[q1];exact hn8);rw[q1]at hr h1 h7;generalize hc:aQ (agAt xs x) (agAt xs y)=c at*;have hc7:1≤c∧c≤7:=⟨h1,h7⟩
   have hcl:eD (agAt xs x) (agAt xs y)=false:=by
    unfold aQ at hc;cases h:eD (agAt xs x) (agAt xs y)with
    |false=>rfl
    |true=>rw[h]at hc;exact absurd hc.symm hn8
   obtain⟨sx,sy,v0,tw,hln⟩:=T.next (bk:=bk) kf hb.toBkV rf.1 rf.2 hr hc7 hcl k3;have h7':c=7→0≤(agAt xs x).2.2.1∧(agAt xs x).2.2.1<(bk.length:Nat):=fun e=>⟨v0 e,(k3 e).1⟩
   have hlv:=T.live;have hw:IntKind.i64.wrap ((xs.length:Nat)-(kv.length:Nat))=((aT ys ys.length:Nat):Int):=by rw[←hlv,IntWalk.i64_in _ (by omega)];omega
   have hck:checkN bk xs (a,b)=(c,x,y,0):=k1
   by_cases hf:600<IntKind.i64.wrap ((aT ys ys.length:Nat)+g)
   ·refine .bad 4 (by decide) (by rw[hout,if_neg (by decide),if_pos hf]) (fun us=> ?_) (fun us pk tr=> ?_)
    ·exact Kq xs us bk kv (a,b) ha0 hb0 hb.ok hb.small hx7 hck hx0 hy0 h7' (by rw[hw,k2];exact hf)
    ·exact Oz bk ys us pk tr a b ha1 hb1 hb.small hly hv hgy hf
   ·have pA:PortIn ys (y,0):=by
     have:=T.st.ag.port kf.py kf.ly;exact this.1
    have wx:=T.wf x hx0.1 hx0.2 kf.lx;have lx:=rZ wx;have lx2:0≤(agAt xs x).2.1∧(agAt xs x).2.1≤8:=by omega
    have hpos:0<xs.length:=T.rl;have hbkv:∀v:Int,0≤v→aS bk v=aS bk (v.toNat:Nat):=fun v h=>by rw[show((v.toNat:Nat):Int)=v by omega]
    have exq:agAt ys (aj ys a b).1=agAt xs x:=by rw[ef];exact ex
    have hnc:sK ys a b=c:=by unfold sK;rw[ef];show aQ (agAt ys x) (agAt ys y)=c;rw[ex,ey];exact hc
    have hny:oC bk ys a b=dF bk ys c x y:=by unfold oC;rw[hnc,ef]
    have nx:QF bk ys a b:=by
     refine⟨?_,?_,?_⟩
     ·rw[hnc,ef];exact sy
     ·rw[hnc];exact hc7
     ·rw[hnc,ef];show c=7→0≤(agAt ys x).2.2.1∧(agAt ys x).2.2.1<(bk.length:Nat);rw[ex];exact h7'
    have wy:=T.wf y hy0.1 hy0.2 kf.ly
    have gl:=Mc (bk:=bk) (xs:=xs) (c:=c) (x:=x) (y:=y) hc7 (wf_small wy) (wf_small wx) (fun e=>by
     rcases(eH hr (by omega)).2.2.2.2.2.1 e with h|h
     ·exact .inl h.1
     ·exact .inr h.1) (fun e=>⟨(hb.exp (v0 e) (k3 e).1 xs (agAt xs x).2.1 ((xs.length:Int)-1) rfl hpos).two,hb.tl _ (v0 e) (k3 e).1⟩)
    have hgx:kvGet false kv x=false:=by
     cases hq:kvGet false kv x with
     |false=>rfl
     |true=>exact absurd hq kf.lx
    have hgy2:kvGet false kv y=false:=by
     cases hq:kvGet false kv y with
     |false=>rfl
     |true=>exact absurd hq kf.ly
    have rl:=PG T.kt (c:=c) hgx hgy2 kf.ne;have nl:=FB (c:=c) hb (wf_small wy).2 (wf_small wx).2 h7'
    have g2:(dG c x y).length≤2:=by
     unfold dG;cases c==7<;>simp
    have hll:=pG ys ys.length;have hwr:IntKind.i64.wrap ((aT ys ys.length:Nat)+g)=(aT ys ys.length:Nat)+g:=IntWalk.i64_in _ (by rw[k2]at gl;omega);refine .ok (dQ bk xs c x y) (jo kv (dG c x y)) (by rw[hout,if_neg (by decide),if_neg hf]) nx (fun us=> ?_) (fun us pk tr=> ?_) (by rw[hny];exact tw) (by omega) ?_ (fun w=>BH w hx0 hy0 id id hr hc7 hb.toBkW (fun e e9=>qo hcl e9 (by have q:=(eH hr (by omega)).2.2.2.2.2.1 e;omega)) k3) (by rw[hwr]at hf;rw[k2]at gl;omega)
    ·refine OQ xs us bk kv (a,b) ha0 hb0 hb.ok hb.small hx7 hck hc7 sx.toIntPre T.al T.p0 (by omega) h7' (by rw[hw,k2];exact hf) fun e us=> ?_
     have F:=hb.exp (v0 e) (k3 e).1 xs (agAt xs x).2.1 ((xs.length:Int)-1) rfl hpos;have hsm:NetSmall (aS bk (agAt xs x).2.2.1):=by rw[hbkv _ (v0 e)];exact hb.small _
     have hok8:∀i:Nat,0≤(agAt (aS bk (agAt xs x).2.2.1) i).2.1∧(agAt (aS bk (agAt xs x).2.2.1) i).2.1≤8:=by rw[hbkv _ (v0 e)];exact fun i=>hb.ok _ i
     have htl:=hb.tl _ (v0 e) (k3 e).1;exact Ur (aS bk (agAt xs x).2.2.1) xs us bk kv x y hx0 (h7' e) rfl (by omega) hsm F.two (by omega) F.r0 lx2 hok8 (k3 e).2 F.bs F.ps F.rs kf.py.app F.top
    ·rw[hny];refine SG bk ys us pk tr a b ha1 hb1 hb.small hly hv (by rw[ef]) (by rw[ex,ey];exact hc) (by rw[ex,ey];exact hge) hc7 sy T.ally T.p0y (by rw[ex];exact h7') hf fun e us=> ?_
     rw[ex];have F:=hb.exp (v0 e) (k3 e).1 ys (agAt xs x).2.1 ((ys.length:Int)-1) rfl (by omega);have hsm:NetSmall (aS bk (agAt xs x).2.2.1):=by rw[hbkv _ (v0 e)];exact hb.small _
     have hok8:∀i:Nat,0≤(agAt (aS bk (agAt xs x).2.2.1) i).2.1∧(agAt (aS bk (agAt xs x).2.2.1) i).2.1≤8:=by rw[hbkv _ (v0 e)];exact fun i=>hb.ok _ i
     have htl:=hb.tl _ (v0 e) (k3 e).1;have htop:=F.top;rw[F.pe,←F.ex,Int.add_comm]at htop;exact Uq (aS bk (agAt xs x).2.2.1) ys us pk tr x y (agAt xs x).2.1 (by rw[ex]) (by rw[←hlen];exact hx0) (by omega) hsm (by have:=F.two;omega) (by omega) (Int.ofNat_lt.1 F.r0.2.2.2) lx2 hok8 F.bt pA htop
    ·have n1:=(wf_small wx).2;have n2:=(wf_small (T.wf y hy0.1 hy0.2 kf.ly)).2;have:=FB (c:=c) hb n2 n1 h7';omega
  ·refine .bad e he (by rw[hout,if_pos he]) (fun us=> ?_) (fun us pk tr=> ?_)
   ·have h1:=c1 he;have:=Mi xs us bk kv (a,b) ha0 hb0 hb.ok hb.small hx7 (by rw[h1];exact he);rw[h1]at this;exact this
   ·exact QV bk ys us pk tr a b ha1 hb1 hb.small hly hv hgy he
end Go.Proofs.YtjijpkphkicoeaaGreat
namespace Go.Tr
open Go Go.RowKit
section
variable {kv:List (Int×Bool)}{xs N P:List NAgent}
theorem RS.KM(h:RS kv xs N P):(uj xs kv).length=(prsN N).length∧(prsN P).length=(prsN N).length:=by
 obtain⟨Y,f,TY,rf⟩:=h.tx;obtain⟨k,z,TN⟩:=h.tn;obtain⟨k2,z2,g,TP,rg⟩:=h.tp;rw[TY.acts,TN.KO rf,TN.KO rg,List.length_map,List.length_map];exact⟨rfl,rfl⟩
theorem RS.pos(h:RS kv xs N P):0<P.length:=by
 obtain⟨k2,z2,g,TP,rg⟩:=h.tp;exact TP.pos
theorem RS.Hw(h:RS kv xs N P):∀i:Nat,i<P.length→liveY P i=true→0<(agAt P (i:Nat)).2.2.2.2.length:=by
 obtain⟨k2,z2,g,TP,rg⟩:=h.tp;exact TP.Nc
theorem RS.live(h:RS kv xs N P):aT P P.length+kv.length=xs.length∧aT N N.length=aT P P.length:=by
 obtain⟨Y,f,TY,rf⟩:=h.tx;obtain⟨k2,z2,g,TP,rg⟩:=h.tp;have:=TY.live;rw[rf.aT]at this;rw[rg.aT];exact⟨this,rfl⟩
end
end Go.Tr
namespace Go.Proofs.YtjijpkphkicoeaaGreat
open Go Go.RowKit Go.Proofs Go.Tr
def NZ(xs:List NAgent)(p:Int×Int):Prop:=(0≤p.1∧p.1<(xs.length:Nat))∧0≤p.2∧p.2<(xs.length:Nat)
inductive K8(bk:List (List NAgent))(kv:List (Int×Bool))(xs N P:List NAgent)(X Q:Int×Int):Prop
 |bad (code:Int) (hc:code≠0)
  (hI:∀us,FCall Tryz.prog 60 [.ptr 10000 0,vP X] (tW xs us bk kv) (.int .i64 code) (tW xs us bk kv))
  (hB:∀us pk tr,FCall Tryz.prog 90 [.rsl uNet bk,.ptr 10000 0,.int .i64 Q.1,.int .i64 Q.2] (tB P us pk tr) (.int .i64 code) (tB P us pk tr))
 |ok (x' N' P':List NAgent) (kv':List (Int×Bool)) (c v:Int) (hc:1≤c∧c≤7)
  (hI:∀us,FCall Tryz.prog 60 [.ptr 10000 0,vP X] (tW xs us bk kv) (.int .i64 0) (KW 10003 x' us bk kv'))
  (hB:∀us pk tr,FCall Tryz.prog 90 [.rsl uNet bk,.ptr 10000 0,.int .i64 Q.1,.int .i64 Q.2] (tB P us pk tr) (.int .i64 0) (tBn 10003 P' [] pk tr))
  (st:RS kv' x' N' P') (l0:xs.length≤x'.length) (l1:x'.length≤xs.length+600) (lp:P'.length≤P.length+600)
  (cX:(aH (agAt xs X.1) (agAt xs X.2)).1=c) (cQ:aQ (agAt P Q.1) (agAt P Q.2)=c)
  (vX:(agAt xs (bif (aH (agAt xs X.1) (agAt xs X.2)).2 then X.2 else X.1)).2.2.1=v) (vQ:Pg P Q.1 Q.2=v) (vb:c=7→0≤v∧v<(bk.length:Nat)) (lv:x'.length≤kv'.length+600)
structure P8(xs P:List NAgent)(X Q:Int×Int):Prop where
 hX:NZ xs X
 hQ:NZ P Q
theorem rs_stepM{bk:List (List NAgent)}{kv:List (Int×Bool)}{xs N P:List NAgent}(h:RS kv xs N P)(hb:BkS bk)(hx:xs.length≤3000)(hp:P.length≤3000){p:Int×Int}(hN:p∈prsN N){Y:List NAgent}{f g:Nat→Nat}(TY:Tr.Twin kv xs Y)(rf:Ren f N Y){kp:List (Int×Bool)}{zp:List NAgent}(TP:Tr.Twin kp zp P)(rg:Ren g N P):
  P8 xs P (pF f p) (pF g p)∧K8 bk kv xs N P (pF f p) (pF g p):=by
 have hlv:=h.live;obtain⟨kn,zn,TN⟩:=h.tn;have mY:pF f p∈prsN Y:=by rw[TN.KO rf];exact List.mem_map_of_mem hN
 have mP:pF g p∈prsN P:=by rw[TN.KO rg];exact List.mem_map_of_mem hN
 obtain⟨a,b⟩:=p;obtain⟨kpN,raN,rbN,_⟩:=TN.zQ hN;obtain⟨kpY,raY,rbY,_⟩:=TY.zQ mY;obtain⟨kpP,raP,rbP,_⟩:=TP.zQ mP;have lN:=TN.len;have lY:=TY.len;have lP:=TP.len;have leY:=rf.le;have ha:0≤a∧a<(N.length:Nat):=by rw[←lN];exact⟨kpN.px.1,kpN.px.2.1⟩
 have hb':0≤b∧b<(N.length:Nat):=by rw[←lN];exact⟨kpN.py.1,kpN.py.2.1⟩
 have oY:=rf.Ba (bk:=bk) ha hb';have oP:=rg.Ba (bk:=bk) ha hb';have iX:NZ xs (pF f (a,b)):=⟨⟨kpY.px.1,kpY.px.2.1⟩,kpY.py.1,kpY.py.2.1⟩
 have iQ:NZ P (pF g (a,b)):=by
  have q1:=kpP.px.2.1;have q2:=kpP.py.2.1;rw[lP]at q1 q2;exact⟨⟨kpP.px.1,q1⟩,kpP.py.1,q2⟩
 refine⟨⟨iX,iQ⟩,?_⟩;cases kT TN kpN raN rbN hb (by omega)with
 |bad code hc ho _ _=>
  cases kT TY kpY raY rbY hb (by omega)with
  |ok _ _ ho2=>exact absurd (ho.symm.trans (oY.symm.trans ho2)) hc
  |bad c2 hc2 ho2 hI _=>
   cases kT TP kpP raP rbP hb (by omega)with
   |ok _ _ ho3=>exact absurd (ho.symm.trans (oP.symm.trans ho3)) hc
   |bad c3 hc3 ho3 _ hB=>
    have e2:c2=code:=ho2.symm.trans (oY.trans ho);have e3:c3=code:=ho3.symm.trans (oP.trans ho);subst e2 e3;exact .bad _ hc hI hB
 |ok zn' kn' ho nx _ _ tw _ _ _ _=>
  cases kT TY kpY raY rbY hb (by omega)with
  |bad c2 hc2 ho2=>exact absurd (ho2.symm.trans (oY.trans ho)) hc2
  |ok x' kv' ho2 nx2 hI _ twY l0 l1 wl lv=>
   cases kT TP kpP raP rbP hb (by omega)with
   |bad c3 hc3 ho3=>exact absurd (ho3.symm.trans (oP.trans ho)) hc3
   |ok zp' kp' ho3 nx3 _ hB twP l2 l3 _ _=>
    have rY:=rf.oC ha hb' nx TN.ally TN.p0y hb.toBkW;have rP:=rg.oC ha hb' nx TN.ally TN.p0y hb.toBkW;have wa:Wf (agAt xs (fI f a)):=TY.wf _ kpY.px.1 kpY.px.2.1 kpY.lx;have wb:Wf (agAt xs (fI f b)):=TY.wf _ kpY.py.1 kpY.py.2.1 kpY.ly;have ce:=yU (a:=fI f a) (b:=fI f b) wa wb raY rbY;have eyA:=TY.at_ kpY.px.1 kpY.px.2.1 kpY.lx;have eyB:=TY.at_ kpY.py.1 kpY.py.2.1 kpY.ly
    have cY:sK Y (fI f a) (fI f b)=aQ (agAt xs (fI f a)) (agAt xs (fI f b)):=by
     unfold sK;rw[l8];show aQ (agAt Y (pF f (a,b)).1) (agAt Y (pF f (a,b)).2)=_;rw[eyA,eyB];rfl
    have c1:(aH (agAt xs (fI f a)) (agAt xs (fI f b))).1=sK N a b:=by
     rw[←rf.sK ha hb',cY,ce.1,l8]
    have hl:=twP.len;refine .ok x' (oC bk N a b) (oC bk P (fI g a) (fI g b)) kv' (sK N a b) (Pg N a b) nx.hc hI hB ⟨⟨_,f,twY,rY⟩,wl h.wx,⟨_,_,tw⟩,⟨_,_,g,twP,rP⟩⟩ l0 l1 (by show(oC bk P (fI g a) (fI g b)).length≤_;have:zp'.length=(oC bk P (fI g a) (fI g b)).length:=hl;omega) c1 ?_ ?_ (rg.Pg ha hb') ?_ lv
    ·show aQ (agAt P (fI g a)) (agAt P (fI g b))=_;rw[←rg.sK ha hb'];unfold sK;rw[l8]
    ·have k1:=(ce.2 (by rw[c1];have:=nx.hc;intro e8;rw[e8]at this;omega)).1;show(agAt xs (bif (aH (agAt xs (fI f a)) (agAt xs (fI f b))).2 then fI f b else fI f a)).2.2.1=_;rw[k1]
     have ef:aj xs (fI f a) (fI f b)=aj Y (fI f a) (fI f b):=by
      unfold aj;rw[show agAt Y (fI f a)=agAt xs (fI f a) from eyA,show agAt Y (fI f b)=agAt xs (fI f b) from eyB]
     have kf:=kpY.first TY.st;have e1:agAt Y (aj xs (fI f a) (fI f b)).1=agAt xs (aj xs (fI f a) (fI f b)).1:=TY.at_ kf.px.1 kf.px.2.1 kf.lx;rw[←e1,ef];exact rf.Pg ha hb'
    ·intro e;have:=nx.h7 e;exact this
theorem PL{bk:List (List NAgent)}{kv:List (Int×Bool)}{xs N P:List NAgent}(h:RS kv xs N P)(hb:BkS bk)(hx:xs.length≤3000)(hp:P.length≤3000){k:Int}(h0:0≤k)(h1:k<((prsN P).length:Nat)):
  P8 xs P (elt (dflt uPort) (uj xs kv) k) (elt (dflt uPort) (prsN P) k)∧K8 bk kv xs N P (elt (dflt uPort) (uj xs kv) k) (elt (dflt uPort) (prsN P) k):=by
 have hpl:=h.KM;obtain⟨Y,f,TY,rf⟩:=h.tx;obtain⟨kn,zn,TN⟩:=h.tn;obtain⟨kp,zp,g,TP,rg⟩:=h.tp;have qY:=Ren.IZ (TN.KO rf) h0 (by omega);have qP:=Ren.IZ (TN.KO rg) h0 (by omega);rw[TY.acts,qY,qP];exact rs_stepM h hb hx hp (HZ (ys:=N) h0 (by omega)) TY rf TP rg
theorem packB(ys:List NAgent)(us:List Value)(pk:Int)(tr:List Int)(hs:NetSmall ys)(hl:ys.length≤900000)(hA:AllIn ys):FCall Tryz.prog 49 [.ptr 10000 0] (tB ys us pk tr) (.tup []) (tBn 10003 (packN ys) [] pk tr):=by
 refine FCall.intro (nt:=89) ti_ok mixed (by kernel_rfl) Tryz.func49 rfl rfl rfl rfl rfl rfl ?_;refine lp Nat (fun i=>[(4,.int .i64 (i:Nat)),(3,.int .i64 (dD ys i:Nat)),(2,.sl 20000)]) (fun i=>[.cel 10000 66 [.sl 10001,.sl 10002,.int .i64 pk],.row 10001 131 5 uAgent ys us,.row 10002 2 1 (.int .i64) tr [],.row 20000 2 1 (.int .i64) (xk ys i) []]) (fun i=>ys.length-i) (fun i=>i≤ys.length) 0 (Nat.zero_le _) ?_ ?_
 ·exact hd [(20000,9)] rfl (aI (aI rfl rfl) (aI (aI rfl rfl) (aI rfl trivial))) ⟨trivial,⟨rfl,rfl,⟨rfl,rfl⟩,trivial⟩,⟨rfl,pR _⟩,⟨rfl,nP⟩,⟨rfl,nP⟩,trivial⟩
 intro i hi;refine aI (fun q1=> ?_) (fun q1=> ?_)
 ·have hlt:i<ys.length:=by
   have q2:decide (((i:Nat):Int)<(ys.length:Nat))=true:=q1;simp only[decide_eq_true_eq]at q2;omega
  have hbd:0≤((i:Nat):Int)∧((i:Nat):Int)<(ys.length:Nat):=by omega
  have hc:=IK ys i;have hst:dD ys (i+1)=bif liveY ys i then dD ys i+1 else dD ys i:=rfl
  refine aI (show(xk ys i).length+1≤1073741824 by rw[FC];omega) ?_;refine aI hbd ?_;refine aI (fun q2=> ?_) (fun q2=> ?_)
  ·have q3:liveY ys i=true:=q2;rw[q3]at hst;refine lp_next (i+1) hlt ?_ ?_
   ·refine hd [(20000,22)] rfl (aI (aI (wrapS (by omega)) rfl) (aI (aI ?_ rfl) (aI rfl trivial))) ⟨trivial,⟨rfl,rfl,⟨rfl,rfl⟩,trivial⟩,⟨rfl,pR _⟩,⟨rfl,nP⟩,⟨(BP ys i).symm,nP⟩,trivial⟩;show IntKind.i64.wrap (((dD ys i:Nat):Int)+1)=((dD ys (i+1):Nat):Int);rw[hst];exact wrapS (by omega)
   ·show ys.length-(i+1)<ys.length-i;omega
  ·have q3:liveY ys i=false:=q2;rw[q3]at hst;refine lp_next (i+1) hlt ?_ ?_
   ·refine hd [(20000,22)] rfl (aI (aI (wrapS (by omega)) rfl) (aI (aI ?_ rfl) (aI rfl trivial))) ⟨trivial,⟨rfl,rfl,⟨rfl,rfl⟩,trivial⟩,⟨rfl,pR _⟩,⟨rfl,nP⟩,⟨(BP ys i).symm,nP⟩,trivial⟩;show((dD ys i:Nat):Int)=((dD ys (i+1):Nat):Int);rw[hst];rfl
   ·show ys.length-(i+1)<ys.length-i;omega
 have hie:i=ys.length:=by
  have q2:decide (((i:Nat):Int)<(ys.length:Nat))=false:=q1;simp only[decide_eq_false_iff_not]at q2;have hi':i≤ys.length:=hi;omega
 subst hie;refine lp Nat (fun k=>[(6,.int .i64 (k:Nat)),(2,.sl 20000),(5,.sl 20001)]) (fun k=>[.cel 10000 66 [.sl 10001,.sl 10002,.int .i64 pk],.row 10001 131 5 uAgent ys us,.row 10002 2 1 (.int .i64) tr [],.row 20000 2 1 (.int .i64) (xk ys ys.length) [],.row 20001 131 5 uAgent (bV ys k) []]) (fun k=>ys.length-k) (fun k=>k≤ys.length) 0 (Nat.zero_le _) ?_ ?_
 ·exact hd [(20001,34)] rfl (aI (aI rfl rfl) (aI rfl (aI rfl trivial))) ⟨trivial,⟨rfl,rfl,⟨rfl,rfl⟩,trivial⟩,⟨rfl,pR _⟩,⟨rfl,nP⟩,⟨rfl,nP⟩,⟨rfl,nP⟩,trivial⟩
 intro k hk;have hk':k≤ys.length:=hk;refine aI (fun q1=> ?_) (fun q1=> ?_)
 ·have hlt:k<ys.length:=by
   have q2:decide (((k:Nat):Int)<(ys.length:Nat))=true:=q1;simp only[decide_eq_true_eq]at q2;omega
  have hbd:0≤((k:Nat):Int)∧((k:Nat):Int)<(ys.length:Nat):=by omega
  have hpl:=zM ys k;have hst:bV ys (k+1)=bif liveY ys k then bV ys k++[nW (iW ys) (agAt ys (k:Nat))]else bV ys k:=rfl
  refine aI hbd ?_;refine aI (fun q2=> ?_) (fun q2=> ?_)
  ·have q3:liveY ys k=true:=q2;rw[q3]at hst;refine aI hbd ?_;have hsk:=hs.2 k;have hsk2:(agAt ys (k:Nat)).2.2.2.2.length≤1048576:=hsk.2;refine Or.inr (eI _ (eI _ (aI (uG ys us ((k:Nat):Int) hsk.1 hsk.2) ?_)));refine lp Nat (fun j=>[(8,.int .i64 (j:Nat)),(2,.sl 21000),(5,.sl 21001)]) (fun j=>[.cel 7 131 [.int .i64 (agAt ys (k:Nat)).1,.int .i64 (agAt ys (k:Nat)).2.1,.int .i64 (agAt ys (k:Nat)).2.2.1,.sl 59,.sl 21002],.cel 10000 66 [.sl 10001,.sl 10002,.int .i64 pk],.row 10001 131 5 uAgent ys us,.row 10002 2 1 (.int .i64) tr [],.row 21000 2 1 (.int .i64) (xk ys ys.length) [],.row 21001 131 5 uAgent (bV ys k) [],.row 59 2 1 (.int .i64) (agAt ys (k:Nat)).2.2.2.1 [],.row 21002 102 2 uPort (fK (iW ys) (agAt ys (k:Nat)).2.2.2.2 j) []]) (fun j=>(agAt ys (k:Nat)).2.2.2.2.length-j) (fun j=>j≤(agAt ys (k:Nat)).2.2.2.2.length) 0 (Nat.zero_le _) ?_ ?_
   ·exact hd [(21000,20000),(21001,20001),(21002,1000059)] rfl (aI (aI rfl rfl) (aI rfl (aI rfl trivial))) ⟨trivial,⟨⟨rfl,rfl⟩,⟨rfl,rfl⟩,⟨rfl,rfl⟩,rfl,rfl,trivial⟩,trivial,⟨rfl,rfl,⟨rfl,rfl⟩,trivial⟩,⟨rfl,pR _⟩,⟨rfl,nP⟩,⟨rfl,nP⟩,⟨rfl,nP⟩,⟨rfl,nP⟩,⟨rfl,nP⟩,trivial⟩
   intro j hj;have hj':j≤(agAt ys (k:Nat)).2.2.2.2.length:=hj;refine aI (fun q4=> ?_) (fun q4=> ?_)
   ·have hlt2:j<(agAt ys (k:Nat)).2.2.2.2.length:=by
     have q5:decide (((j:Nat):Int)<((fK (iW ys) (agAt ys (k:Nat)).2.2.2.2 j).length:Nat))=true:=q4;rw[sV]at q5;simp only[decide_eq_true_eq]at q5;omega
    have hbnd:0≤((j:Nat):Int)∧((j:Nat):Int)<((fK (iW ys) (agAt ys (k:Nat)).2.2.2.2 j).length:Nat):=by rw[sV];omega
    have hin:PortIn ys (peerN ys (((k:Nat):Int),((j:Nat):Int))):=hA _ ⟨hbd.1,hbd.2,by show(0:Int)≤(j:Nat);omega,by show((j:Nat):Int)<((agAt ys (k:Nat)).2.2.2.2.length:Nat);omega⟩;have hpe:elt (dflt uPort) (fK (iW ys) (agAt ys (k:Nat)).2.2.2.2 j) ((j:Nat):Int)=peerN ys (((k:Nat):Int),((j:Nat):Int)):=zV hlt2;refine aI hbnd ?_;refine aI (show 0≤(elt (dflt uPort) (fK (iW ys) (agAt ys (k:Nat)).2.2.2.2 j) ((j:Nat):Int)).1∧(elt (dflt uPort) (fK (iW ys) (agAt ys (k:Nat)).2.2.2.2 j) ((j:Nat):Int)).1<((xk ys ys.length).length:Nat) by rw[hpe,FC];exact⟨hin.1,hin.2.1⟩) ?_
    refine aI hbnd ?_;refine aI (by kernel_rfl) ?_;refine lp_next (j+1) hlt2 ?_ ?_
    ·refine hd [] rfl (aI (aI (wrapS (by omega)) rfl) (aI rfl (aI rfl trivial))) ⟨trivial,⟨⟨rfl,rfl⟩,⟨rfl,rfl⟩,⟨rfl,rfl⟩,rfl,rfl,trivial⟩,trivial,⟨rfl,rfl,⟨rfl,rfl⟩,trivial⟩,⟨rfl,pR _⟩,⟨rfl,nP⟩,⟨rfl,nP⟩,⟨rfl,nP⟩,⟨rfl,nP⟩,⟨?_,nP⟩,trivial⟩;show(fK (iW ys) (agAt ys (k:Nat)).2.2.2.2 j).set j (elt 0 (xk ys ys.length) (elt (dflt uPort) (fK (iW ys) (agAt ys (k:Nat)).2.2.2.2 j) ((j:Nat):Int)).1,(elt (dflt uPort) (fK (iW ys) (agAt ys (k:Nat)).2.2.2.2 j) ((j:Nat):Int)).2)=fK (iW ys) (agAt ys (k:Nat)).2.2.2.2 (j+1);rw[zW hlt2,zV hlt2]
     have e2:elt (dflt uPort) (agAt ys (k:Nat)).2.2.2.2 ((j:Nat):Int)=peerN ys (((k:Nat):Int),((j:Nat):Int)):=rfl;rw[e2,Pf ys hin.1 hin.2.1]
    ·show(agAt ys (k:Nat)).2.2.2.2.length-(j+1)<(agAt ys (k:Nat)).2.2.2.2.length-j;omega
   have hje:j=(agAt ys (k:Nat)).2.2.2.2.length:=by
    have q5:decide (((j:Nat):Int)<((fK (iW ys) (agAt ys (k:Nat)).2.2.2.2 j).length:Nat))=false:=q4;rw[sV]at q5;simp only[decide_eq_false_iff_not]at q5;omega
   refine aI (show(bV ys k).length+1≤1073741824 by omega) ?_;refine lp_next (k+1) hlt ?_ ?_
   ·refine hd [(20000,21000),(20001,84)] rfl (aI (aI (wrapS (by omega)) rfl) (aI rfl (aI rfl trivial))) ⟨trivial,⟨rfl,rfl,⟨rfl,rfl⟩,trivial⟩,⟨rfl,pR _⟩,⟨rfl,nP⟩,⟨rfl,nP⟩,⟨?_,nP⟩,trivial⟩;show bV ys k++[((agAt ys (k:Nat)).1,(agAt ys (k:Nat)).2.1,(agAt ys (k:Nat)).2.2.1,(agAt ys (k:Nat)).2.2.2.1,fK (iW ys) (agAt ys (k:Nat)).2.2.2.2 j)]=bV ys (k+1);rw[hst,hje,Cg];rfl
   ·show ys.length-(k+1)<ys.length-k;omega
  ·have q3:liveY ys k=false:=q2;rw[q3]at hst;refine lp_next (k+1) hlt ?_ ?_
   ·exact hd [] rfl (aI (aI (wrapS (by omega)) rfl) (aI rfl (aI rfl trivial))) ⟨trivial,⟨rfl,rfl,⟨rfl,rfl⟩,trivial⟩,⟨rfl,pR _⟩,⟨rfl,nP⟩,⟨rfl,nP⟩,⟨hst.symm,nP⟩,trivial⟩
   ·show ys.length-(k+1)<ys.length-k;omega
 have hke:k=ys.length:=by
  have q2:decide (((k:Nat):Int)<(ys.length:Nat))=false:=q1;simp only[decide_eq_false_iff_not]at q2;omega
 subst hke;refine fin [(10003,20001)] (aI rfl ?_);exact⟨trivial,⟨rfl,rfl,⟨rfl,rfl⟩,trivial⟩,⟨rfl,nP⟩,⟨rfl,nP⟩,trivial⟩
theorem BX:callOk Tryz.prog 52=true:=by kernel_rfl
theorem beginS(xs:List NAgent)(hs:NetSmall xs):FCall Tryz.prog 48 [.rp uNet xs] [] (.ptr 10000 0) [.cel 10000 66 [.sl 10001,.raw (.slice none 0 0),.int .i64 (xs.length:Nat)],.row 10001 131 5 uAgent xs []]:=by
 refine FCall.intro (nt:=12) ti_ok mixed (by kernel_rfl) Tryz.func48 rfl rfl rfl rfl rfl rfl ?_;refine Or.inr (eI _ (eI _ (aI (Po xs hs) ?_)));refine aI (by kernel_rfl) ?_;refine fin [(10000,11),(10001,4)] (aI rfl ?_);exact⟨trivial,⟨rfl,rfl,⟨rfl,rfl⟩,trivial⟩,⟨rfl,nP⟩,trivial⟩
abbrev tB2(xs:List NAgent)(pk:Int)(tr:List Int):List Tok:=[.cel 10000 66 [.sl 10003,.sl 10004,.int .i64 pk],.row 10003 131 5 uAgent xs [],.row 10004 2 1 (.int .i64) tr []]
theorem FCall.perm{P:Program}{f:Nat}{args:List SV}{ts:List Tok}{r:SV}{ts' ts2:List Tok}(h:FCall P f args ts r ts')(hp:ts'.Perm ts2):FCall P f args ts r ts2:=by
 refine⟨h.1,fun cx β w fr vs hI hd=>(h.2 cx β w fr vs hI hd).mono ?_⟩;rintro e w' ⟨v,β',rfl,h1,h2,h3⟩;exact⟨v,β',rfl,h1,h2,h3.perm ((hp.map _).append_right fr)⟩
theorem Rf(P:List NAgent)(pk:Int)(tr:List Int)(hl:P.length≤1000000):FCall Tryz.prog 92 [.ptr 10000 0] (tB P [] pk tr) (.int .i64 (aT P P.length:Nat)) [.cel 10000 66 [.sl 10001,.sl 10002,.int .i64 pk],.row 10002 2 1 (.int .i64) tr [],.row 10001 131 5 uAgent P []]:=
 FCall.perm (FCall.of_q (ts:=tB P [] pk tr) ti_ok [61] gZ (kU P hl) rfl) (List.Perm.cons _ (List.Perm.swap _ _ _))
section
variable (bk:List (List NAgent))(P:List NAgent)(us:List Value)(pk:Int)(tr:List Int)(Q:Int×Int)(hQ:NZ P Q)
include hQ
theorem Nz{code:Int}(hc:code≠0)(hB:FCall Tryz.prog 90 [.rsl uNet bk,.ptr 10000 0,.int .i64 Q.1,.int .i64 Q.2] (tB P us pk tr) (.int .i64 code) (tB P us pk tr)):FCall Tryz.prog 52 [.rsl uNet bk,.ptr 10000 0,vP Q] (tB P us pk tr) (.int .i64 code) (tB P us pk tr):=by
 refine FCall.intro (nt:=60) ti_ok mixed BX Tryz.func52 rfl rfl rfl rfl rfl rfl ?_;refine aI hQ.1 ?_;refine aI hQ.2 ?_;refine Or.inl (eI _ (eI _ (aI (lq P us Q.1 Q.2) (eI [] (aI rfl ?_)))));refine aI (by kernel_rfl) ?_;refine Or.inr (eI _ (eI _ (aI hB ?_)));refine aI (by kernel_rfl) ?_;refine aI (fun q1=> ?_) (fun q1=> ?_)
 ·exact fin [] (aI ⟨rfl,rfl⟩ ⟨trivial,⟨rfl,rfl,⟨rfl,rfl⟩,trivial⟩,⟨rfl,pR _⟩,⟨rfl,nP⟩,trivial⟩)
 ·exfalso;have q2:(code !=0)=false:=q1;simp at q2;exact hc q2
theorem PO{P':List NAgent}{c:Int}(hl:P'.length≤1000000)(ht:tr.length≤100000)(cQ:aQ (agAt P Q.1) (agAt P Q.2)=c)(hB:FCall Tryz.prog 90 [.rsl uNet bk,.ptr 10000 0,.int .i64 Q.1,.int .i64 Q.2] (tB P us pk tr) (.int .i64 0) (tBn 10003 P' [] pk tr)):FCall Tryz.prog 52 [.rsl uNet bk,.ptr 10000 0,vP Q] (tB P us pk tr) (.int .i64 0) (tB2 P' (maxI pk (aT P' P'.length:Nat)) (tr++[c])):=by
 have hC:=lq P us Q.1 Q.2;rw[cQ]at hC;refine FCall.intro (nt:=60) ti_ok mixed BX Tryz.func52 rfl rfl rfl rfl rfl rfl ?_;refine aI hQ.1 ?_;refine aI hQ.2 ?_;refine Or.inl (eI _ (eI _ (aI hC (eI [] (aI rfl ?_)))));refine aI (by kernel_rfl) ?_;refine Or.inr (eI _ (eI _ (aI hB ?_)));refine aI (by kernel_rfl) ?_;refine aI (fun q1=>by cases q1) (fun q1=> ?_);refine aI (show tr.length+1≤1073741824 by omega) ?_;refine Or.inl (eI _ (eI _ (aI (Rf P' pk (tr++[c]) hl) (eI [] (aI rfl ?_)))));refine Or.inl (eI _ (aI (maxS pk _) ?_));refine aI (by kernel_rfl) ?_;refine fin [(10003,34),(10004,45)] (aI ⟨rfl,rfl⟩ ?_)
 exact⟨trivial,⟨rfl,rfl,⟨rfl,rfl⟩,trivial⟩,⟨rfl,nP⟩,⟨rfl,nP⟩,trivial⟩
end
end Go.Proofs.YtjijpkphkicoeaaGreat
namespace Go.Proofs.YtjijpkphkicoeaaGreat
open Go Go.RowKit Go.Proofs Go.Tr
abbrev tU(xs:List NAgent)(us:List Value)(bk:List (List NAgent))(kv:List (Int×Bool))(cn tr cu ex:List Int):List Tok:=[.cel 10000 80 [.ptr 10001 0,.sl 10004,.sl 10005,.sl 10006,.sl 10007],.cel 10001 87 [.sl 10002,.rsl uNet bk,.mp 10003],.row 10002 131 5 uAgent xs us,.map 10003 .bool kv,.row 10004 2 1 (.int .i64) cn [],.row 10005 2 1 (.int .i64) tr [],.row 10006 2 1 (.int .i64) cu [],.row 10007 2 1 (.int .i64) ex []]
abbrev tUn(xs:List NAgent)(us:List Value)(bk:List (List NAgent))(kv:List (Int×Bool))(cn tr cu ex:List Int):List Tok:=[.cel 10000 80 [.ptr 10008 0,.sl 10004,.sl 10011,.sl 10012,.sl 10013],.cel 10008 87 [.sl 10009,.rsl uNet bk,.mp 10010],.row 10009 131 5 uAgent xs us,.map 10010 .bool kv,.row 10004 2 1 (.int .i64) cn [],.row 10011 2 1 (.int .i64) tr [],.row 10012 2 1 (.int .i64) cu [],.row 10013 2 1 (.int .i64) ex []]
section
variable (xs:List NAgent)(us:List Value)(bk:List (List NAgent))(kv:List (Int×Bool))(cn tr cu ex:List Int)
theorem madeU:FCall Tryz.prog 57 [.ptr 10000 0] (tU xs us bk kv cn tr cu ex) (.int .i64 (tr.length:Nat)) (tU xs us bk kv cn tr cu ex):=by
 refine FCall.intro (nt:=8) ti_ok mixed (by kernel_rfl) Tryz.func57 rfl rfl rfl rfl rfl rfl ?_;refine fin [] (aI ⟨rfl,rfl⟩ ?_);exact⟨trivial,⟨rfl,rfl,rfl,rfl,rfl,trivial⟩,trivial,⟨rfl,rfl,rfl,trivial⟩,⟨rfl,pR _⟩,rfl,⟨rfl,nP⟩,⟨rfl,nP⟩,⟨rfl,nP⟩,⟨rfl,nP⟩,trivial⟩
end
end Go.Proofs.YtjijpkphkicoeaaGreat
namespace Go.Proofs.YtjijpkphkicoeaaGreat
open Go Go.RowKit Go.Proofs Go.Tr
section
variable (xs:List NAgent)(us:List Value)(bk:List (List NAgent))(kv:List (Int×Bool))(cn tr cu ex:List Int)
def UQ:List Tok:=[.cel 10000 73 [.ptr 10001 0],.cel 10001 80 [.ptr 10002 0,.sl 10005,.sl 10006,.sl 10007,.sl 10008],.cel 10002 87 [.sl 10003,.rsl uNet bk,.mp 10004],.row 10003 131 5 uAgent xs us,.map 10004 .bool kv,.row 10005 2 1 (.int .i64) cn [],.row 10006 2 1 (.int .i64) tr [],.row 10007 2 1 (.int .i64) cu [],.row 10008 2 1 (.int .i64) ex []]
def TK(ps:List (Int×Int)):List Tok:=[.row 10000 71 2 uPort ps [],.cel 10001 73 [.ptr 10002 0],.cel 10002 80 [.ptr 10003 0,.sl 10006,.sl 10007,.sl 10008,.sl 10009],.cel 10003 87 [.sl 10004,.rsl uNet bk,.mp 10005],.row 10004 131 5 uAgent xs us,.map 10005 .bool kv,.row 10006 2 1 (.int .i64) cn [],.row 10007 2 1 (.int .i64) tr [],.row 10008 2 1 (.int .i64) cu [],.row 10009 2 1 (.int .i64) ex []]
def tDU(ps:List (Int×Int)):List Tok:=[.row 10010 71 2 uPort ps [],.cel 10001 73 [.ptr 10002 0],.cel 10002 80 [.ptr 10003 0,.sl 10006,.sl 10007,.sl 10008,.sl 10009],.cel 10003 87 [.sl 10004,.rsl uNet bk,.mp 10005],.row 10004 131 5 uAgent xs us,.map 10005 .bool kv,.row 10006 2 1 (.int .i64) cn [],.row 10007 2 1 (.int .i64) tr [],.row 10008 2 1 (.int .i64) cu [],.row 10009 2 1 (.int .i64) ex []]
theorem Qa(p:Int×Int):FCall Tryz.prog 100 [vP p,.ptr 10000 0] (UQ xs us bk kv cn tr cu ex) (.bool (kvGet false kv p.1)) (UQ xs us bk kv cn tr cu ex):=by
 refine FCall.intro (nt:=14) ti_ok mixed (by kernel_rfl) Tryz.func100 rfl rfl rfl rfl rfl rfl ?_;refine aI (by kernel_rfl) ?_;refine fin [] (aI rfl ?_);exact⟨trivial,⟨rfl,trivial⟩,trivial,⟨rfl,rfl,rfl,rfl,rfl,trivial⟩,trivial,⟨rfl,rfl,rfl,trivial⟩,⟨rfl,pR _⟩,rfl,⟨rfl,nP⟩,⟨rfl,nP⟩,⟨rfl,nP⟩,⟨rfl,nP⟩,trivial⟩
theorem Uu(ps:List (Int×Int))(hl:ps.length≤1000000):FCall Tryz.prog 156 [.sl 10000,.fn 100 [.ptr 10001 0]] (TK xs us bk kv cn tr cu ex ps) (.int .i64 (vK (iK kv) ps 0)) (TK xs us bk kv cn tr cu ex ps):=by
 refine FCall.intro (nt:=19) ti_ok mixed (by kernel_rfl) Tryz.func156 rfl rfl rfl rfl rfl rfl ?_;refine lp Nat (fun i=>[(8,.int .i64 (i:Nat))]) (fun _=>TK xs us bk kv cn tr cu ex ps) (fun i=>ps.length-i) (fun i=>i≤ps.length∧vK (iK kv) ps 0=vK (iK kv) (ps.drop i) i) 0 ⟨Nat.zero_le _,rfl⟩ ?_ ?_
 ·exact hd [] rfl (aI (aI rfl rfl) trivial) ⟨⟨rfl,nP⟩,trivial,⟨rfl,trivial⟩,trivial,⟨rfl,rfl,rfl,rfl,rfl,trivial⟩,trivial,⟨rfl,rfl,rfl,trivial⟩,⟨rfl,pR _⟩,rfl,⟨rfl,nP⟩,⟨rfl,nP⟩,⟨rfl,nP⟩,⟨rfl,nP⟩,trivial⟩
 rintro i ⟨hi,he⟩;refine aI (fun q1=> ?_) (fun q1=> ?_)
 ·have hlt:i<ps.length:=ltU q1;refine aI (show 0≤((i:Nat):Int)∧((i:Nat):Int)<(ps.length:Nat) by omega) ?_;refine Or.inr (eI _ (eI _ (aI (Qa xs us bk kv cn tr cu ex (ps.getD i (0,0))) ?_)));rw[yY (0,0) hlt]at he;refine aI (fun q2=> ?_) (fun q2=> ?_)
  ·rw[he,show vK (iK kv) (ps.getD i (0,0)::ps.drop (i+1)) i=i by unfold vK;rw[show iK kv (ps.getD i (0,0))=true from q2];rfl];exact fin [] (aI ⟨rfl,rfl⟩ ⟨⟨rfl,nP⟩,trivial,⟨rfl,trivial⟩,trivial,⟨rfl,rfl,rfl,rfl,rfl,trivial⟩,trivial,⟨rfl,rfl,rfl,trivial⟩,⟨rfl,pR _⟩,rfl,⟨rfl,nP⟩,⟨rfl,nP⟩,⟨rfl,nP⟩,⟨rfl,nP⟩,trivial⟩)
  ·refine lp_next (i+1) ⟨hlt,?_⟩ ?_ ?_
   ·rw[he]
    conv=>lhs;unfold vK
    rw[show iK kv (ps.getD i (0,0))=false from q2];rfl
   ·exact hd [] rfl (aI (aI (wrapS (by omega)) rfl) trivial) ⟨⟨rfl,nP⟩,trivial,⟨rfl,trivial⟩,trivial,⟨rfl,rfl,rfl,rfl,rfl,trivial⟩,trivial,⟨rfl,rfl,rfl,trivial⟩,⟨rfl,pR _⟩,rfl,⟨rfl,nP⟩,⟨rfl,nP⟩,⟨rfl,nP⟩,⟨rfl,nP⟩,trivial⟩
   ·show ps.length-(i+1)<ps.length-i;omega
 ·have hge:ps.length≤i:=geU q1;have hie:i=ps.length:=by omega
  subst hie;rw[he,List.drop_length];exact fin [] (aI ⟨rfl,rfl⟩ ⟨⟨rfl,nP⟩,trivial,⟨rfl,trivial⟩,trivial,⟨rfl,rfl,rfl,rfl,rfl,trivial⟩,trivial,⟨rfl,rfl,rfl,trivial⟩,⟨rfl,pR _⟩,rfl,⟨rfl,nP⟩,⟨rfl,nP⟩,⟨rfl,nP⟩,⟨rfl,nP⟩,trivial⟩)
structure Ud(ps:List (Int×Int))(s:Nat×Nat×List (Int×Int)):Prop where
 le:s.1<s.2.1∧s.2.1≤ps.length
 len:s.2.2.length=ps.length
 front:s.2.2.take s.1=(ps.take s.2.1).filter fun p=> !(iK kv p)
 rest:s.2.2.drop s.2.1=ps.drop s.2.1
theorem Uj(ps:List (Int×Int))(hl:ps.length≤1000000):FCall Tryz.prog 98 [.sl 10000,.fn 100 [.ptr 10001 0]] (TK xs us bk kv cn tr cu ex ps) (.sl 10010) (tDU xs us bk kv cn tr cu ex (ps.filter fun p=> !(iK kv p))):=by
 refine FCall.intro (nt:=42) ti_ok mixed (by kernel_rfl) Tryz.func98 rfl rfl rfl rfl rfl rfl ?_;refine Or.inr (eI _ (eI _ (aI (Uu xs us bk kv cn tr cu ex ps hl) ?_)));refine aI (fun q1=> ?_) (fun q1=> ?_)
 ·have q2:(vK (iK kv) ps 0== -1)=true:=q1;refine fin [(10010,10000)] (aI rfl ?_);refine⟨⟨?_,nP⟩,trivial,⟨rfl,trivial⟩,trivial,⟨rfl,rfl,rfl,rfl,rfl,trivial⟩,trivial,⟨rfl,rfl,rfl,trivial⟩,⟨rfl,pR _⟩,rfl,⟨rfl,nP⟩,⟨rfl,nP⟩,⟨rfl,nP⟩,⟨rfl,nP⟩,trivial⟩;exact(filter_all (E9 ps 0 (Int.le_refl 0) (by simpa using q2))).symm
 have q2:(vK (iK kv) ps 0== -1)=false:=q1;obtain⟨m,e1,hm,e2,e3⟩:=Fa (g:=iK kv) (0,0) ps 0 (by simpa using q2);rw[Int.zero_add]at e1;rw[e1];refine lp (Nat×Nat×List (Int×Int)) (fun s=>[(5,.int .i64 (s.1:Nat)),(6,.int .i64 (s.2.1:Nat))]) (fun s=>TK xs us bk kv cn tr cu ex s.2.2) (fun s=>ps.length-s.2.1) (Ud kv ps) (m,m+1,ps) ⟨⟨by show m<m+1;omega,by show m+1≤ps.length;omega⟩,rfl,?_,rfl⟩ ?_ ?_
 ·show ps.take m=(ps.take (m+1)).filter fun p=> !(iK kv p)
  rw[List.take_add_one,List.filter_append,filter_all e2];have e4:iK kv ps[m]=true:=by rw[←e3,List.getD_eq_getElem?_getD,List.getElem?_eq_getElem hm];rfl
  rw[show ps[m]?.toList=[ps[m]] by rw[List.getElem?_eq_getElem hm];rfl,Da e4,List.append_nil]
 ·exact hd [] rfl (aI (aI rfl rfl) (aI (aI (wrapS (by omega)) rfl) trivial)) ⟨⟨rfl,nP⟩,trivial,⟨rfl,trivial⟩,trivial,⟨rfl,rfl,rfl,rfl,rfl,trivial⟩,trivial,⟨rfl,rfl,rfl,trivial⟩,⟨rfl,pR _⟩,rfl,⟨rfl,nP⟩,⟨rfl,nP⟩,⟨rfl,nP⟩,⟨rfl,nP⟩,trivial⟩
 rintro⟨i,j,zs⟩ ⟨⟨h1,h2⟩,h3,h4,h5⟩;have h1':i<j:=h1;have h2':j≤ps.length:=h2;have h3':zs.length=ps.length:=h3;have h4':zs.take i=(ps.take j).filter fun p=> !(iK kv p):=h4
 have h5':zs.drop j=ps.drop j:=h5;refine aI (fun q3=> ?_) (fun q3=> ?_)
 ·have hlt:j<zs.length:=ltU q3;have hjp:j<ps.length:=by omega
  refine aI (show 0≤((j:Nat):Int)∧((j:Nat):Int)<(zs.length:Nat) by omega) ?_;refine Or.inr (eI _ (eI _ (aI (Qa xs us bk kv cn tr cu ex (zs.getD j (0,0))) ?_)))
  have hz:zs.getD j (0,0)=ps.getD j (0,0):=by
   have a:=yY (0,0) hlt;have b:=yY (0,0) hjp;rw[a,b]at h5';exact(List.cons.inj h5').1
  have h5n:zs.drop (j+1)=ps.drop (j+1):=by
   have a:=yY (0,0) hlt;have b:=yY (0,0) hjp;rw[a,b]at h5';exact(List.cons.inj h5').2
  have ht:ps.take (j+1)=ps.take j++[ps.getD j (0,0)]:=by rw[List.take_add_one,List.getElem?_eq_getElem hjp,List.getD_eq_getElem?_getD,List.getElem?_eq_getElem hjp];rfl
  refine aI (fun q4=> ?_) (fun q4=> ?_)
  ·have q5:iK kv (zs.getD j (0,0))=false:=Eq.mp (Bool.not_eq_true' _) q4;rw[hz]at q5;refine aI (show 0≤((i:Nat):Int)∧((i:Nat):Int)<(zs.length:Nat) by omega) ?_;refine lp_next (i+1,j+1,zs.set i (zs.getD j (0,0))) ⟨⟨by show i+1<j+1;omega,by show j+1≤ps.length;omega⟩,by show(zs.set i _).length=_;rw[List.length_set];exact h3',?_,?_⟩ ?_ ?_
   ·show(zs.set i (zs.getD j (0,0))).take (i+1)=(ps.take (j+1)).filter fun p=> !(iK kv p)
    rw[ht,List.filter_append,←h4',hz,Nu (by omega),LU q5]
   ·show(zs.set i (zs.getD j (0,0))).drop (j+1)=ps.drop (j+1);rw[List.drop_set_of_lt (by omega)];exact h5n
   ·exact hd [] rfl (aI (aI (wrapS (by omega)) rfl) (aI (aI (wrapS (by omega)) rfl) trivial)) ⟨⟨rfl,nP⟩,trivial,⟨rfl,trivial⟩,trivial,⟨rfl,rfl,rfl,rfl,rfl,trivial⟩,trivial,⟨rfl,rfl,rfl,trivial⟩,⟨rfl,pR _⟩,rfl,⟨rfl,nP⟩,⟨rfl,nP⟩,⟨rfl,nP⟩,⟨rfl,nP⟩,trivial⟩
   ·show ps.length-(j+1)<ps.length-j;omega
  ·have q5:iK kv (zs.getD j (0,0))=true:=Eq.mp (Bool.not_eq_false' _) q4;rw[hz]at q5;refine lp_next (i,j+1,zs) ⟨⟨by show i<j+1;omega,by show j+1≤ps.length;omega⟩,h3',?_,h5n⟩ ?_ ?_
   ·show zs.take i=(ps.take (j+1)).filter fun p=> !(iK kv p)
    rw[ht,List.filter_append,←h4',Da q5,List.append_nil]
   ·exact hd [] rfl (aI (aI rfl rfl) (aI (aI (wrapS (by omega)) rfl) trivial)) ⟨⟨rfl,nP⟩,trivial,⟨rfl,trivial⟩,trivial,⟨rfl,rfl,rfl,rfl,rfl,trivial⟩,trivial,⟨rfl,rfl,rfl,trivial⟩,⟨rfl,pR _⟩,rfl,⟨rfl,nP⟩,⟨rfl,nP⟩,⟨rfl,nP⟩,⟨rfl,nP⟩,trivial⟩
   ·show ps.length-(j+1)<ps.length-j;omega
 ·have hge:zs.length≤j:=geU q3;have hje:j=ps.length:=by omega
  subst hje;rw[List.take_length]at h4';have hli:(zs.take i).length=i:=by rw[List.length_take];omega
  refine aI (show 0≤((i:Nat):Int)∧((i:Nat):Int)<(zs.length:Nat) by omega) ?_;refine aI (show i+(zs.length-i)=zs.length by omega) ?_;refine aI ?_ ?_
  ·show 0≤((i:Nat):Int)∧((i:Nat):Int)≤(((zs.take i++List.replicate (zs.length-i) (dflt uPort)).length:Nat):Int);rw[List.length_append,List.length_replicate,hli];omega
  refine fin [(10010,41)] (aI rfl ?_);refine⟨⟨?_,nP⟩,trivial,⟨rfl,trivial⟩,trivial,⟨rfl,rfl,rfl,rfl,rfl,trivial⟩,trivial,⟨rfl,rfl,rfl,trivial⟩,⟨rfl,pR _⟩,rfl,⟨rfl,nP⟩,⟨rfl,nP⟩,⟨rfl,nP⟩,⟨rfl,nP⟩,trivial⟩;show(zs.take i++List.replicate (zs.length-i) (dflt uPort)).take i=ps.filter fun p=> !(iK kv p)
  rw[←h4',List.take_left' hli]
end
theorem Ug(xs:List NAgent)(us:List Value)(bk:List (List NAgent))(kv:List (Int×Bool))(cn tr cu ex:List Int)(hl:xs.length≤1000000)(hp:Cv xs):FCall Tryz.prog 55 [.ptr 10000 0] (tU xs us bk kv cn tr cu ex) (.sl 10008) (.row 10008 71 2 uPort (uj xs kv) []::tU xs us bk kv cn tr cu ex):=by
 refine FCall.intro (nt:=12) ti_ok mixed (by kernel_rfl) Tryz.func55 rfl rfl rfl rfl rfl rfl ?_;refine Or.inr (eI _ (eI _ (aI (Rw xs us bk kv hl hp) ?_)));refine Or.inr (eI _ (eI _ (aI (Uj xs us bk kv cn tr cu ex (prTo (FV xs) xs xs.length) (Nat.le_trans (zP _ _ _) hl)) ?_)));refine fin [(10008,11)] (aI rfl ?_);exact⟨⟨rfl,nP⟩,trivial,⟨rfl,rfl,rfl,rfl,rfl,trivial⟩,trivial,⟨rfl,rfl,rfl,trivial⟩,⟨rfl,pR _⟩,rfl,⟨rfl,nP⟩,⟨rfl,nP⟩,⟨rfl,nP⟩,⟨rfl,nP⟩,trivial⟩
end Go.Proofs.YtjijpkphkicoeaaGreat
namespace Go.Tr
open Go Go.RowKit
def Bh(cn:List Int):Prop:=cn.length=7∧∀z∈cn,0≤z∧z≤1000000
def om(cn:List Int)(c:Int):List Int:=cn.set (c-1).toNat (elt 0 cn (c-1)+1)
theorem QS{cn:List Int}(h:Bh cn){k:Int}(h0:0≤k)(h7:k<7):0≤elt 0 cn k∧elt 0 cn k≤1000000:=by
 have h1:=h.1;unfold elt;rw[List.getD_eq_getElem?_getD,List.getElem?_eq_getElem (by omega)];exact h.2 _ (List.getElem_mem _)
theorem cnt_in{cn:List Int}(h:Bh cn){c:Int}(hc:1≤c∧c≤7):0≤IntKind.i64.wrap (c-1)∧IntKind.i64.wrap (c-1)<(cn.length:Nat):=by
 have:=h.1;rw[IntWalk.i64_in _ (by omega)];omega
theorem cnt_up{cn:List Int}(h:Bh cn){c:Int}(hc:1≤c∧c≤7):cn.set (IntKind.i64.wrap (c-1)).toNat (IntKind.i64.wrap (elt 0 cn (IntKind.i64.wrap (c-1))+1))=om cn c:=by
 have:=QS h (k:=c-1) (by omega) (by omega);rw[IntWalk.i64_in (c-1) (by omega),IntWalk.i64_in _ (by omega)];rfl
theorem FCall.rot{P:Program}{f:Nat}{args:List SV}{ts:List Tok}{r:SV}{t:Tok}{ts':List Tok}(h:FCall P f args ts r (t::ts')):FCall P f args ts r (ts'++[t]):=by
 refine⟨h.1,fun cx β w fr vs hI hd=>(h.2 cx β w fr vs hI hd).mono ?_⟩;rintro e w' ⟨v,β',rfl,h1,h2,h3⟩;refine⟨v,β',rfl,h1,h2,h3.perm ?_⟩;rw[List.map_append,List.map_cons,List.append_assoc];exact(List.perm_middle (l₁:=ts'.map (Tok.res cx β')) (l₂:=fr) (a:=Tok.res cx β' t)).symm
end Go.Tr
namespace Go.Proofs.YtjijpkphkicoeaaGreat
open Go Go.RowKit Go.Proofs Go.Tr
theorem DK:callOk Tryz.prog 121=true:=by kernel_rfl
theorem Dz(xs:List NAgent)(bk:List (List NAgent))(h:NetSmall xs):FCall Tryz.prog 58 [.rsl uNet bk,.agg [.sl 10000]] [.row 10000 131 5 uAgent xs []] (.ptr 10001 0) [.cel 10001 87 [.sl 10002,.rsl uNet bk,.mp 10003],.row 10002 131 5 uAgent xs [],.map 10003 .bool []]:=by
 refine FCall.intro (nt:=11) ti_ok mixed JA Tryz.func58 rfl rfl rfl rfl rfl rfl ?_;refine Or.inr (eI _ (eI _ (aI (FCall.of_f (r2:=.agg [.sl 10001]) (ts2:=[.row 10001 131 5 uAgent xs []]) ti_ok [30] BR (vo xs h) rfl rfl rfl) ?_)));refine fin [(10001,10),(10002,6),(10003,8)] (aI rfl ?_);exact⟨trivial,⟨rfl,rfl,rfl,trivial⟩,⟨rfl,nP⟩,rfl,trivial⟩
section
variable (xs:List NAgent)(us:List Value)(bk:List (List NAgent))(kv:List (Int×Bool))(cn tr cu ex:List Int)(X:Int×Int)(hX:NZ xs X)
include hX
theorem FP{code:Int}(hc:code≠0)(hI:FCall Tryz.prog 60 [.ptr 10000 0,vP X] (tW xs us bk kv) (.int .i64 code) (tW xs us bk kv)):FCall Tryz.prog 121 [.ptr 10000 0,vP X] (tU xs us bk kv cn tr cu ex) (.int .i64 code) (tU xs us bk kv cn tr cu ex):=by
 refine FCall.intro (nt:=119) ti_ok mixed DK Tryz.func121 rfl rfl rfl rfl rfl rfl ?_;refine Or.inr (eI _ (eI _ (aI (FCall.of_q ti_ok [61,0] sO (uZ xs X hX.1 hX.2) rfl) ?_)));refine aI (by kernel_rfl) ?_;refine aI (fun q1=> ?_) (fun q1=> ?_)
 ·refine aI hX.2 ?_;refine Or.inr (eI _ (eI _ (aI hI ?_)));refine aI (by kernel_rfl) ?_;refine aI (fun q2=> ?_) (fun q2=> ?_)
  ·exact fin [] (aI ⟨rfl,rfl⟩ ⟨trivial,⟨rfl,rfl,rfl,rfl,rfl,trivial⟩,trivial,⟨rfl,rfl,rfl,trivial⟩,⟨rfl,pR _⟩,rfl,⟨rfl,nP⟩,⟨rfl,nP⟩,⟨rfl,nP⟩,⟨rfl,nP⟩,trivial⟩)
  ·exfalso;have q3:(code !=0)=false:=q2;simp at q3;exact hc q3
 ·refine aI hX.1 ?_;refine Or.inr (eI _ (eI _ (aI hI ?_)));refine aI (by kernel_rfl) ?_;refine aI (fun q2=> ?_) (fun q2=> ?_)
  ·exact fin [] (aI ⟨rfl,rfl⟩ ⟨trivial,⟨rfl,rfl,rfl,rfl,rfl,trivial⟩,trivial,⟨rfl,rfl,rfl,trivial⟩,⟨rfl,pR _⟩,rfl,⟨rfl,nP⟩,⟨rfl,nP⟩,⟨rfl,nP⟩,⟨rfl,nP⟩,trivial⟩)
  ·exfalso;have q3:(code !=0)=false:=q2;simp at q3;exact hc q3
theorem DR{x':List NAgent}{kv':List (Int×Bool)}{c v:Int}(hlx:x'.length≤800000)(hbig:x'.length≤2400)(hc:1≤c∧c≤7)(cX:(aH (agAt xs X.1) (agAt xs X.2)).1=c)(vX:(agAt xs (bif (aH (agAt xs X.1) (agAt xs X.2)).2 then X.2 else X.1)).2.2.1=v)(hn:Bh cn)(ht:tr.length≤100000)(hu:cu.length≤100000)(he:ex.length≤100000)
  (hI:FCall Tryz.prog 60 [.ptr 10000 0,vP X] (tW xs us bk kv) (.int .i64 0) (KW 10003 x' us bk kv')):FCall Tryz.prog 121 [.ptr 10000 0,vP X] (tU xs us bk kv cn tr cu ex) (.int .i64 0) (tUn x' us bk kv' (om cn c) (tr++[c]) (cu++[IntKind.i64.wrap ((x'.length:Nat)-(kv'.length:Nat))]) (bif c==7 then ex++[v]else ex)):=by
 have hC:=uZ xs X hX.1 hX.2;rw[cX]at hC;have hcn:=cnt_up hn hc;have hcb:=cnt_in hn hc;refine FCall.intro (nt:=119) ti_ok mixed DK Tryz.func121 rfl rfl rfl rfl rfl rfl ?_;refine Or.inr (eI _ (eI _ (aI (FCall.of_q ti_ok [61,0] sO hC rfl) ?_)));refine aI (by kernel_rfl) ?_;refine aI (fun q1=> ?_) (fun q1=> ?_)
 ·have hv:(agAt xs X.2).2.2.1=v:=by rw[←vX,show(aH (agAt xs X.1) (agAt xs X.2)).2=true from q1];rfl
  refine aI hX.2 ?_;refine Or.inr (eI _ (eI _ (aI hI ?_)));refine aI (by kernel_rfl) ?_;refine aI (fun q2=>by cases q2) (fun q2=> ?_);refine aI (fun q3=> ?_) (fun q3=> ?_)
  ·refine aI (show ex.length+1≤1073741824 by omega) ?_;refine aI hcb ?_;refine aI hcb ?_;refine aI (show tr.length+1≤1073741824 by omega) ?_;refine Or.inr (eI _ (eI _ (aI (oI x' us bk kv') ?_)));refine aI (show cu.length+1≤1073741824 by omega) ?_;refine aI (by kernel_rfl) ?_;refine aI (fun q4=> ?_) (fun q4=> ?_)
   ·exfalso;have q5:decide ((2400:Int)<(x'.length:Nat))=true:=q4;simp at q5;omega
   ·have hxx:(ex++[(agAt xs X.2).2.2.1]:List Int)=bif c==7 then ex++[v]else ex:=by rw[show(c==7)=true from q3,hv];rfl
    refine fin [(10008,10001),(10009,43),(10010,10003),(10011,76),(10012,90),(10013,56)] (aI ⟨rfl,rfl⟩ ?_);exact⟨trivial,⟨rfl,rfl,rfl,rfl,rfl,trivial⟩,trivial,⟨rfl,rfl,rfl,trivial⟩,⟨rfl,pR _⟩,rfl,⟨hcn,nP⟩,⟨rfl,nP⟩,⟨rfl,nP⟩,⟨hxx,nP⟩,trivial⟩
  ·refine aI hcb ?_;refine aI hcb ?_;refine aI (show tr.length+1≤1073741824 by omega) ?_;refine Or.inr (eI _ (eI _ (aI (oI x' us bk kv') ?_)));refine aI (show cu.length+1≤1073741824 by omega) ?_;refine aI (by kernel_rfl) ?_;refine aI (fun q4=> ?_) (fun q4=> ?_)
   ·exfalso;have q5:decide ((2400:Int)<(x'.length:Nat))=true:=q4;simp at q5;omega
   ·have hxx:(ex:List Int)=bif c==7 then ex++[v]else ex:=by rw[show(c==7)=false from q3];rfl
    refine fin [(10008,10001),(10009,43),(10010,10003),(10011,76),(10012,90),(10013,10007)] (aI ⟨rfl,rfl⟩ ?_);exact⟨trivial,⟨rfl,rfl,rfl,rfl,rfl,trivial⟩,trivial,⟨rfl,rfl,rfl,trivial⟩,⟨rfl,pR _⟩,rfl,⟨hcn,nP⟩,⟨rfl,nP⟩,⟨rfl,nP⟩,⟨hxx,nP⟩,trivial⟩
 ·have hv:(agAt xs X.1).2.2.1=v:=by rw[←vX,show(aH (agAt xs X.1) (agAt xs X.2)).2=false from q1];rfl
  refine aI hX.1 ?_;refine Or.inr (eI _ (eI _ (aI hI ?_)));refine aI (by kernel_rfl) ?_;refine aI (fun q2=>by cases q2) (fun q2=> ?_);refine aI (fun q3=> ?_) (fun q3=> ?_)
  ·refine aI (show ex.length+1≤1073741824 by omega) ?_;refine aI hcb ?_;refine aI hcb ?_;refine aI (show tr.length+1≤1073741824 by omega) ?_;refine Or.inr (eI _ (eI _ (aI (oI x' us bk kv') ?_)));refine aI (show cu.length+1≤1073741824 by omega) ?_;refine aI (by kernel_rfl) ?_;refine aI (fun q4=> ?_) (fun q4=> ?_)
   ·exfalso;have q5:decide ((2400:Int)<(x'.length:Nat))=true:=q4;simp at q5;omega
   ·have hxx:(ex++[(agAt xs X.1).2.2.1]:List Int)=bif c==7 then ex++[v]else ex:=by rw[show(c==7)=true from q3,hv];rfl
    refine fin [(10008,10001),(10009,43),(10010,10003),(10011,76),(10012,90),(10013,56)] (aI ⟨rfl,rfl⟩ ?_);exact⟨trivial,⟨rfl,rfl,rfl,rfl,rfl,trivial⟩,trivial,⟨rfl,rfl,rfl,trivial⟩,⟨rfl,pR _⟩,rfl,⟨hcn,nP⟩,⟨rfl,nP⟩,⟨rfl,nP⟩,⟨hxx,nP⟩,trivial⟩
  ·refine aI hcb ?_;refine aI hcb ?_;refine aI (show tr.length+1≤1073741824 by omega) ?_;refine Or.inr (eI _ (eI _ (aI (oI x' us bk kv') ?_)));refine aI (show cu.length+1≤1073741824 by omega) ?_;refine aI (by kernel_rfl) ?_;refine aI (fun q4=> ?_) (fun q4=> ?_)
   ·exfalso;have q5:decide ((2400:Int)<(x'.length:Nat))=true:=q4;simp at q5;omega
   ·have hxx:(ex:List Int)=bif c==7 then ex++[v]else ex:=by rw[show(c==7)=false from q3];rfl
    refine fin [(10008,10001),(10009,43),(10010,10003),(10011,76),(10012,90),(10013,10007)] (aI ⟨rfl,rfl⟩ ?_);exact⟨trivial,⟨rfl,rfl,rfl,rfl,rfl,trivial⟩,trivial,⟨rfl,rfl,rfl,trivial⟩,⟨rfl,pR _⟩,rfl,⟨hcn,nP⟩,⟨rfl,nP⟩,⟨rfl,nP⟩,⟨hxx,nP⟩,trivial⟩
theorem DT{x':List NAgent}{kv':List (Int×Bool)}{c v:Int}(hlx:x'.length≤800000)(hbig:2400<x'.length)(hls:LiveSm x' kv')(hns:NetSmall (resN x' kv'))(hc:1≤c∧c≤7)(cX:(aH (agAt xs X.1) (agAt xs X.2)).1=c)(vX:(agAt xs (bif (aH (agAt xs X.1) (agAt xs X.2)).2 then X.2 else X.1)).2.2.1=v)(hn:Bh cn)(ht:tr.length≤100000)(hu:cu.length≤100000)(he:ex.length≤100000)
  (hI:FCall Tryz.prog 60 [.ptr 10000 0,vP X] (tW xs us bk kv) (.int .i64 0) (KW 10003 x' us bk kv')):FCall Tryz.prog 121 [.ptr 10000 0,vP X] (tU xs us bk kv cn tr cu ex) (.int .i64 0) (tUn (resN x' kv') [] bk [] (om cn c) (tr++[c]) (cu++[IntKind.i64.wrap ((x'.length:Nat)-(kv'.length:Nat))]) (bif c==7 then ex++[v]else ex)):=by
 have hC:=uZ xs X hX.1 hX.2;rw[cX]at hC;have hcn:=cnt_up hn hc;have hcb:=cnt_in hn hc;refine FCall.intro (nt:=119) ti_ok mixed DK Tryz.func121 rfl rfl rfl rfl rfl rfl ?_;refine Or.inr (eI _ (eI _ (aI (FCall.of_q ti_ok [61,0] sO hC rfl) ?_)));refine aI (by kernel_rfl) ?_;refine aI (fun q1=> ?_) (fun q1=> ?_)
 ·have hv:(agAt xs X.2).2.2.1=v:=by rw[←vX,show(aH (agAt xs X.1) (agAt xs X.2)).2=true from q1];rfl
  refine aI hX.2 ?_;refine Or.inr (eI _ (eI _ (aI hI ?_)));refine aI (by kernel_rfl) ?_;refine aI (fun q2=>by cases q2) (fun q2=> ?_);refine aI (fun q3=> ?_) (fun q3=> ?_)
  ·refine aI (show ex.length+1≤1073741824 by omega) ?_;refine aI hcb ?_;refine aI hcb ?_;refine aI (show tr.length+1≤1073741824 by omega) ?_;refine Or.inr (eI _ (eI _ (aI (oI x' us bk kv') ?_)));refine aI (show cu.length+1≤1073741824 by omega) ?_;refine aI (by kernel_rfl) ?_;refine aI (fun q4=> ?_) (fun q4=> ?_)
   ·have hxx:(ex++[(agAt xs X.2).2.2.1]:List Int)=bif c==7 then ex++[v]else ex:=by rw[show(c==7)=true from q3,hv];rfl
    refine Or.inl (eI _ (eI _ (aI (resultI x' us bk kv' hls (by omega)).rot (eI [_] (aI rfl ?_)))));refine Or.inr (eI _ (eI _ (aI (Dz (resN x' kv') bk hns) ?_)));refine aI (by kernel_rfl) ?_;refine fin [(10008,116),(10009,1000116),(10010,2000116),(10011,76),(10012,90),(10013,56)] (aI ⟨rfl,rfl⟩ ?_);exact⟨trivial,⟨rfl,rfl,rfl,rfl,rfl,trivial⟩,trivial,⟨rfl,rfl,rfl,trivial⟩,⟨rfl,nP⟩,rfl,⟨hcn,nP⟩,⟨rfl,nP⟩,⟨rfl,nP⟩,⟨hxx,nP⟩,trivial⟩
   ·exfalso;have q5:decide ((2400:Int)<(x'.length:Nat))=false:=q4;simp at q5;omega
  ·refine aI hcb ?_;refine aI hcb ?_;refine aI (show tr.length+1≤1073741824 by omega) ?_;refine Or.inr (eI _ (eI _ (aI (oI x' us bk kv') ?_)));refine aI (show cu.length+1≤1073741824 by omega) ?_;refine aI (by kernel_rfl) ?_;refine aI (fun q4=> ?_) (fun q4=> ?_)
   ·have hxx:(ex:List Int)=bif c==7 then ex++[v]else ex:=by rw[show(c==7)=false from q3];rfl
    refine Or.inl (eI _ (eI _ (aI (resultI x' us bk kv' hls (by omega)).rot (eI [_] (aI rfl ?_)))));refine Or.inr (eI _ (eI _ (aI (Dz (resN x' kv') bk hns) ?_)));refine aI (by kernel_rfl) ?_;refine fin [(10008,116),(10009,1000116),(10010,2000116),(10011,76),(10012,90),(10013,10007)] (aI ⟨rfl,rfl⟩ ?_);exact⟨trivial,⟨rfl,rfl,rfl,rfl,rfl,trivial⟩,trivial,⟨rfl,rfl,rfl,trivial⟩,⟨rfl,nP⟩,rfl,⟨hcn,nP⟩,⟨rfl,nP⟩,⟨rfl,nP⟩,⟨hxx,nP⟩,trivial⟩
   ·exfalso;have q5:decide ((2400:Int)<(x'.length:Nat))=false:=q4;simp at q5;omega
 ·have hv:(agAt xs X.1).2.2.1=v:=by rw[←vX,show(aH (agAt xs X.1) (agAt xs X.2)).2=false from q1];rfl
  refine aI hX.1 ?_;refine Or.inr (eI _ (eI _ (aI hI ?_)));refine aI (by kernel_rfl) ?_;refine aI (fun q2=>by cases q2) (fun q2=> ?_);refine aI (fun q3=> ?_) (fun q3=> ?_)
  ·refine aI (show ex.length+1≤1073741824 by omega) ?_;refine aI hcb ?_;refine aI hcb ?_;refine aI (show tr.length+1≤1073741824 by omega) ?_;refine Or.inr (eI _ (eI _ (aI (oI x' us bk kv') ?_)));refine aI (show cu.length+1≤1073741824 by omega) ?_;refine aI (by kernel_rfl) ?_;refine aI (fun q4=> ?_) (fun q4=> ?_)
   ·have hxx:(ex++[(agAt xs X.1).2.2.1]:List Int)=bif c==7 then ex++[v]else ex:=by rw[show(c==7)=true from q3,hv];rfl
    refine Or.inl (eI _ (eI _ (aI (resultI x' us bk kv' hls (by omega)).rot (eI [_] (aI rfl ?_)))));refine Or.inr (eI _ (eI _ (aI (Dz (resN x' kv') bk hns) ?_)));refine aI (by kernel_rfl) ?_;refine fin [(10008,116),(10009,1000116),(10010,2000116),(10011,76),(10012,90),(10013,56)] (aI ⟨rfl,rfl⟩ ?_);exact⟨trivial,⟨rfl,rfl,rfl,rfl,rfl,trivial⟩,trivial,⟨rfl,rfl,rfl,trivial⟩,⟨rfl,nP⟩,rfl,⟨hcn,nP⟩,⟨rfl,nP⟩,⟨rfl,nP⟩,⟨hxx,nP⟩,trivial⟩
   ·exfalso;have q5:decide ((2400:Int)<(x'.length:Nat))=false:=q4;simp at q5;omega
  ·refine aI hcb ?_;refine aI hcb ?_;refine aI (show tr.length+1≤1073741824 by omega) ?_;refine Or.inr (eI _ (eI _ (aI (oI x' us bk kv') ?_)));refine aI (show cu.length+1≤1073741824 by omega) ?_;refine aI (by kernel_rfl) ?_;refine aI (fun q4=> ?_) (fun q4=> ?_)
   ·have hxx:(ex:List Int)=bif c==7 then ex++[v]else ex:=by rw[show(c==7)=false from q3];rfl
    refine Or.inl (eI _ (eI _ (aI (resultI x' us bk kv' hls (by omega)).rot (eI [_] (aI rfl ?_)))));refine Or.inr (eI _ (eI _ (aI (Dz (resN x' kv') bk hns) ?_)));refine aI (by kernel_rfl) ?_;refine fin [(10008,116),(10009,1000116),(10010,2000116),(10011,76),(10012,90),(10013,10007)] (aI ⟨rfl,rfl⟩ ?_);exact⟨trivial,⟨rfl,rfl,rfl,rfl,rfl,trivial⟩,trivial,⟨rfl,rfl,rfl,trivial⟩,⟨rfl,nP⟩,rfl,⟨hcn,nP⟩,⟨rfl,nP⟩,⟨rfl,nP⟩,⟨hxx,nP⟩,trivial⟩
   ·exfalso;have q5:decide ((2400:Int)<(x'.length:Nat))=false:=q4;simp at q5;omega
end
end Go.Proofs.YtjijpkphkicoeaaGreat
namespace Go.Tr
open Go Go.RowKit
def cntOf(tr:List Int):List Int:=tr.foldl om (List.replicate 7 0)
theorem cntOf_add(tr:List Int)(c:Int):cntOf (tr++[c])=om (cntOf tr) c:=by unfold cntOf;rw[List.foldl_append];rfl
theorem Lu{cn:List Int}{k:Nat}(h:cn.length=7∧∀z∈cn,0≤z∧z≤(k:Int))(c:Int):(om cn c).length=7∧∀z∈om cn c,0≤z∧z≤((k+1:Nat):Int):=by
 unfold om;refine⟨by rw[List.length_set];exact h.1,fun z hz=> ?_⟩;rcases List.mem_or_eq_of_mem_set hz with e|e
 ·have:=h.2 z e;omega
 ·subst e
  have:0≤elt 0 cn (c-1)∧elt 0 cn (c-1)≤(k:Int):=by
   unfold elt;rw[List.getD_eq_getElem?_getD];cases hg:cn[(c-1).toNat]? with
   |none=>exact⟨Int.le_refl 0,by show(0:Int)≤k;omega⟩
   |some z=>exact h.2 z (List.mem_of_getElem? hg)
  omega
theorem EX:∀(tr:List Int) (cn:List Int) (k:Nat),(cn.length=7∧∀z∈cn,0≤z∧z≤(k:Int))→(tr.foldl om cn).length=7∧∀z∈tr.foldl om cn,0≤z∧z≤((k+tr.length:Nat):Int)
 |[],cn,k,h=>h
 |c::tr,cn,k,h=>by
  rw[List.foldl_cons,List.length_cons];have:=EX tr _ _ (Lu h c);rw[show k+1+tr.length=k+(tr.length+1) by omega]at this;exact this
theorem cntOf_ok{tr:List Int}(h:tr.length≤100000):Bh (cntOf tr):=by
 have:=EX tr (List.replicate 7 0) 0 ⟨rfl,fun z hz=>by rw[List.eq_of_mem_replicate hz];exact⟨Int.le_refl 0,Int.le_refl 0⟩⟩;exact⟨this.1,fun z hz=>by have:=this.2 z hz;omega⟩
def pkOf:List Int→Int
 |[]=>0
 |a::l=>l.foldl maxI a
theorem M8{l:List Int}(h:0<l.length)(n:Int):pkOf (l++[n])=maxI (pkOf l) n:=by
 cases l with
 |nil=>exact absurd h (by simp)
 |cons a l=>
  show(l++[n]).foldl maxI a=maxI (l.foldl maxI a) n;rw[List.foldl_append];rfl
theorem zL(ys:List NAgent):∀n:Nat,(bV ys n).length=dD ys n
 |0=>rfl
 |n+1=>by
  show(bif liveY ys n then bV ys n++[nW (iW ys) (agAt ys (n:Nat))]else bV ys n).length=bif liveY ys n then dD ys n+1 else dD ys n
  have ih:=zL ys n;cases liveY ys n
  ·exact ih
  ·simp only[cond_true,List.length_append,List.length_singleton];omega
theorem xw(ys:List NAgent):(packN ys).length=aT ys ys.length:=by
 rw[nK];exact zL ys ys.length
def refP(al:Bool)(P:List NAgent):List NAgent:=bif al then packN P else bif decide (1200<(P.length:Int))then packN P else P
structure GSt where
 kv:List (Int×Bool)
 xs:List NAgent
 N:List NAgent
 P:List NAgent
 cn:List Int
 tr:List Int
 cu:List Int
 ex:List Int
 df:List Int
structure GOk(bk:List (List NAgent))(s:GSt):Prop where
 rs:RS s.kv s.xs s.N s.P
 lx:s.xs.length≤2400
 lp:s.P.length≤1800
 lv:s.xs.length≤s.kv.length+600
 cn:s.cn=cntOf s.tr
 ct:∀z∈s.tr,1≤z∧z≤7
 cu:s.cu.length=s.tr.length+1
 ex:s.ex.length≤s.tr.length
 eb:∀z∈s.ex,0≤z∧z<(bk.length:Nat)
 tr:s.tr.length≤4000
 df:s.df.filter (fun z=>decide (0≤z))=s.ex
 dl:s.df.length=s.tr.length
section
variable {bk:List (List NAgent)}{s:GSt}
theorem GOk.ref(g:GOk bk s)(al:Bool):(∃N1,RS s.kv s.xs N1 (refP al s.P))∧(refP al s.P).length≤1200:=by
 have hl:=g.rs.live;have h3:=g.lv
 have hp:(∃N1,RS s.kv s.xs N1 (packN s.P))∧(packN s.P).length≤1200:=by
  obtain⟨h1,h2⟩:=g.rs.Ti;refine⟨⟨packN s.N,by rw[h2];exact h1⟩,?_⟩;rw[xw];omega
 unfold refP;cases al with
 |true=>exact hp
 |false=>
  cases hd:decide (1200<(s.P.length:Int))with
  |false=>
   refine⟨⟨s.N,g.rs⟩,?_⟩;have:¬1200<(s.P.length:Int):=by simpa using hd
   show s.P.length≤1200;omega
  |true=>exact hp
theorem GOk.KM(g:GOk bk s)(al:Bool):(uj s.xs s.kv).length=(prsN (refP al s.P)).length:=by
 obtain⟨⟨N1,h⟩,_⟩:=g.ref al;rw[h.KM.1,h.KM.2]
theorem RS.small{kv:List (Int×Bool)}{xs N P:List NAgent}(h:RS kv xs N P)(hl:P.length≤100000):NetSmall P∧AllIn P:=by
 obtain⟨k,z,g,T,_⟩:=h.tp;refine⟨⟨by omega,fun i=> ?_⟩,T.ally⟩;have hlen:=T.len
 by_cases hi:i<P.length
 ·cases hv:liveY P i with
  |true=>
   have w:=T.Jl hi hv;have w1:=wf_data w;have w2:=(wf_small w).2;exact⟨by show(agAt P (i:Nat)).2.2.2.1.length≤1048576;omega,by show(agAt P (i:Nat)).2.2.2.2.length≤1048576;omega⟩
  |false=>
   have e:agAt P (i:Nat)=xU:=by
    rw[T.liveY (by omega)]at hv
    have hg:Gone k ((i:Nat):Int):=by
     show kvGet false k ((i:Nat):Int)=true;cases hq:kvGet false k ((i:Nat):Int)with
     |true=>rfl
     |false=>rw[hq]at hv;cases hv
    exact(T.hole _ hg).2
   rw[e];decide
 ·rw[agAt_out (by omega)];decide
end
end Go.Tr
namespace Go.Proofs.YtjijpkphkicoeaaGreat
open Go Go.RowKit Go.Proofs Go.Tr
theorem RS.RP{kv:List (Int×Bool)}{xs N P:List NAgent}(h:RS kv xs N P)(hl:P.length≤100000):LiveSm xs kv∧Go.Proofs.YtjijpkphkicoeaaGreat.resN xs kv=packN N∧NetSmall (packN N):=by
 obtain⟨Y,f,T,r⟩:=h.tx;obtain⟨k,z,TN⟩:=h.tn;have e:Go.Proofs.YtjijpkphkicoeaaGreat.resN xs kv=packN Y:=T.pack;refine⟨Gf T,by rw[e,r.pack TN.ally],?_⟩;have F:=TN.M0;have hl2:=F.1.len;obtain⟨_,h2⟩:=h.live;have h3:=pG P P.length;have hp:(packN N).length≤100000:=by rw[xw,h2];omega
 exact Gg F.1 (by omega)
variable (al:Bool)(bk:List (List NAgent))(sch:List Int)(most:Int)
abbrev gX(s:GSt):Int×Int:=oK sch (uj s.xs s.kv) (s.tr.length:Nat)
abbrev gQ(s:GSt):Int×Int:=oK sch (prsN (refP al s.P)) (s.tr.length:Nat)
def P9(P:List NAgent)(Q:Int×Int)(s s':GSt):Prop:=∃c v:Int,sK P Q.1 Q.2=c∧Pg P Q.1 Q.2=v∧s'.tr=s.tr++[c]∧s'.cu=s.cu++[((aT s'.P s'.P.length:Nat):Int)]∧s'.df=s.df++[bif c==7 then v else -1]
inductive GTo:GSt→Bool→Int→GSt→Prop
 |done (s:GSt) (g:GOk bk s) (h:(prsN (refP al s.P)).length=0):GTo s true 0 s
 |most (s:GSt) (g:GOk bk s) (h:0<(prsN (refP al s.P)).length) (e:((s.tr.length:Nat):Int)=most):GTo s false 0 s
 |bad (s:GSt) (g:GOk bk s) (h:0<(prsN (refP al s.P)).length) (e:((s.tr.length:Nat):Int)<most) (code:Int) (hc:code≠0)
  (hI:FCall Tryz.prog 121 [.ptr 10000 0,vP (gX sch s)] (tU s.xs [] bk s.kv s.cn s.tr s.cu s.ex) (.int .i64 code) (tU s.xs [] bk s.kv s.cn s.tr s.cu s.ex))
  (hS:FCall Tryz.prog 52 [.rsl uNet bk,.ptr 10000 0,vP (gQ al sch s)] (tB (refP al s.P) [] (pkOf s.cu) s.tr) (.int .i64 code) (tB (refP al s.P) [] (pkOf s.cu) s.tr)) (hQ:NZ (refP al s.P) (gQ al sch s)):GTo s false code s
 |next (s s':GSt) (g:GOk bk s) (h:0<(prsN (refP al s.P)).length) (e:((s.tr.length:Nat):Int)<most) (l:s'.tr.length=s.tr.length+1) {b:Bool} {c:Int} {t:GSt}
  (hI:FCall Tryz.prog 121 [.ptr 10000 0,vP (gX sch s)] (tU s.xs [] bk s.kv s.cn s.tr s.cu s.ex) (.int .i64 0) (tUn s'.xs [] bk s'.kv s'.cn s'.tr s'.cu s'.ex))
  (hS:FCall Tryz.prog 52 [.rsl uNet bk,.ptr 10000 0,vP (gQ al sch s)] (tB (refP al s.P) [] (pkOf s.cu) s.tr) (.int .i64 0) (tB2 s'.P (pkOf s'.cu) s'.tr)) (r:GTo s' b c t) (hQ:NZ (refP al s.P) (gQ al sch s)) (d:P9 (refP al s.P) (gQ al sch s) s s'):GTo s b c t
variable {al bk sch most}
theorem GTo.ok{s t:GSt}{b:Bool}{c:Int}(h:GTo al bk sch most s b c t):GOk bk s:=by
 cases h with
 |done _ g=>exact g
 |most _ g=>exact g
 |bad _ g=>exact g
 |next _ _ g=>exact g
theorem GTo.end_{s t:GSt}{b:Bool}{c:Int}(h:GTo al bk sch most s b c t):GOk bk t:=by
 induction h with
 |done _ g=>exact g
 |most _ g=>exact g
 |bad _ g=>exact g
 |next _ _ _ _ _ _ _ _ _ _ _ ih=>exact ih
inductive GStep(al:Bool)(bk:List (List NAgent))(s:GSt)(X Q:Int×Int):Prop
 |bad (code:Int) (hc:code≠0)
  (hI:FCall Tryz.prog 121 [.ptr 10000 0,vP X] (tU s.xs [] bk s.kv s.cn s.tr s.cu s.ex) (.int .i64 code) (tU s.xs [] bk s.kv s.cn s.tr s.cu s.ex))
  (hS:FCall Tryz.prog 52 [.rsl uNet bk,.ptr 10000 0,vP Q] (tB (refP al s.P) [] (pkOf s.cu) s.tr) (.int .i64 code) (tB (refP al s.P) [] (pkOf s.cu) s.tr))
 |ok (s':GSt) (g':GOk bk s') (l:s'.tr.length=s.tr.length+1)
  (hI:FCall Tryz.prog 121 [.ptr 10000 0,vP X] (tU s.xs [] bk s.kv s.cn s.tr s.cu s.ex) (.int .i64 0) (tUn s'.xs [] bk s'.kv s'.cn s'.tr s'.cu s'.ex))
  (hS:FCall Tryz.prog 52 [.rsl uNet bk,.ptr 10000 0,vP Q] (tB (refP al s.P) [] (pkOf s.cu) s.tr) (.int .i64 0) (tB2 s'.P (pkOf s'.cu) s'.tr)) (d:P9 (refP al s.P) Q s s')
theorem g_step{s:GSt}(g:GOk bk s)(he:s.tr.length<4000){N1:List NAgent}{X Q:Int×Int}(lp:(refP al s.P).length≤1200)(iX:NZ s.xs X)(iQ:NZ (refP al s.P) Q)(st:K8 bk s.kv s.xs N1 (refP al s.P) X Q):GStep al bk s X Q:=by
 have lx:=g.lx;have lt:=g.tr;have lcu:=g.cu;have lex:=g.ex;have hcn:=cntOf_ok (tr:=s.tr) (by omega);rw[←g.cn]at hcn;cases st with
 |bad code hc hI hB=>
  exact .bad code hc (FP s.xs [] bk s.kv s.cn s.tr s.cu s.ex X iX hc (hI [])) (Nz bk (refP al s.P) [] (pkOf s.cu) s.tr Q iQ hc (hB [] _ _))
 |ok x' N' P' kv' c v hc hI hB rs' l0 l1 l2 cX cQ vX vQ vb lv=>
  have hl:=rs'.live;have hli:=pG P' P'.length;have ew:IntKind.i64.wrap ((x'.length:Nat)-(kv'.length:Nat))=((aT P' P'.length:Nat):Int):=by rw[IntWalk.i64_in _ (by omega)];omega
  have hSB:=PO bk (refP al s.P) [] (pkOf s.cu) s.tr Q iQ (by omega) (by omega) cQ (hB [] _ _);rw[←M8 (by omega)]at hSB
  have hex:(bif c==7 then s.ex++[v]else s.ex).length≤s.tr.length+1:=by
   cases c==7
   ·show s.ex.length≤_;omega
   ·show(s.ex++[v]).length≤_;rw[List.length_append,List.length_singleton];omega
  have heb:∀z∈(bif c==7 then s.ex++[v]else s.ex),0≤z∧z<(bk.length:Nat):=fun z hz=>by
   cases h7:c==7 with
   |false=>rw[h7]at hz;exact g.eb z hz
   |true=>
    rw[h7,cond_true,List.mem_append,List.mem_singleton]at hz;rcases hz with hz|rfl
    ·exact g.eb z hz
    ·exact vb (by simpa using h7)
  have hct:∀z∈s.tr++[c],1≤z∧z≤7:=fun z hz=>by
   rw[List.mem_append,List.mem_singleton]at hz;rcases hz with hz|rfl
   ·exact g.ct z hz
   ·exact hc
  have hln:(s.tr++[c]).length=s.tr.length+1:=by rw[List.length_append,List.length_singleton]
  have hlc:(s.cu++[((aT P' P'.length:Nat):Int)]).length=(s.tr++[c]).length+1:=by rw[List.length_append,List.length_singleton,hln];omega
  have hdf:(s.df++[bif c==7 then v else -1]).filter (fun z=>decide (0≤z))=bif c==7 then s.ex++[v]else s.ex:=by
   rw[List.filter_append,g.df];cases h7:c==7 with
   |false=>show s.ex++[(-1:Int)].filter (fun z=>decide (0≤z))=s.ex;simp
   |true=>
    have:=vb (by simpa using h7);show s.ex++[v].filter (fun z=>decide (0≤z))=s.ex++[v];simp[this.1]
  have hdl:(s.df++[bif c==7 then v else -1]).length=(s.tr++[c]).length:=by rw[List.length_append,List.length_singleton,hln,g.dl]
  have hC:sK (refP al s.P) Q.1 Q.2=c:=by unfold sK;rw[l8];exact cQ
  by_cases hbig:2400<x'.length
  ·obtain⟨sx,ex,sn⟩:=RS.RP rs' (by omega);have hP:=DT s.xs [] bk s.kv s.cn s.tr s.cu s.ex X iX (by omega) hbig sx (by rw[ex];exact sn) hc cX vX hcn (by omega) (by omega) (by omega) (hI []);rw[ex,ew]at hP
   have g':GOk bk ⟨[],packN N',packN N',P',om s.cn c,s.tr++[c],s.cu++[((aT P' P'.length:Nat):Int)],bif c==7 then s.ex++[v]else s.ex,s.df++[bif c==7 then v else -1]⟩:=by
    have hpl:(packN N').length≤600:=by rw[xw,hl.2];omega
    exact⟨rs'.Tj.1,by show(packN N').length≤2400;omega,by show P'.length≤1800;omega,by show(packN N').length≤([]:List (Int×Bool)).length+600;rw[List.length_nil];omega,by show om s.cn c=cntOf (s.tr++[c]);rw[cntOf_add,g.cn],hct,hlc,by rw[hln];exact hex,heb,by rw[hln];omega,hdf,hdl⟩
   exact .ok _ g' hln hP hSB ⟨c,v,hC,vQ,rfl,rfl,rfl⟩
  ·have hP:=DR s.xs [] bk s.kv s.cn s.tr s.cu s.ex X iX (by omega) (by omega) hc cX vX hcn (by omega) (by omega) (by omega) (hI []);rw[ew]at hP
   have g':GOk bk ⟨kv',x',N',P',om s.cn c,s.tr++[c],s.cu++[((aT P' P'.length:Nat):Int)],bif c==7 then s.ex++[v]else s.ex,s.df++[bif c==7 then v else -1]⟩:=
    ⟨rs',by show x'.length≤2400;omega,by show P'.length≤1800;omega,lv,by show om s.cn c=cntOf (s.tr++[c]);rw[cntOf_add,g.cn],hct,hlc,by rw[hln];exact hex,heb,by rw[hln];omega,hdf,hdl⟩
   exact .ok _ g' hln hP hSB ⟨c,v,hC,vQ,rfl,rfl,rfl⟩
theorem Jf(hb:BkS bk)(hsch:∀z∈sch,0≤z)(hm:most≤4000):∀(n:Nat) {s:GSt},GOk bk s→((s.tr.length:Nat):Int)≤most→most≤((s.tr.length+n:Nat):Int)→∃b c t,GTo al bk sch most s b c t
 |n,s,g,h1,h2=>by
  by_cases hp:(prsN (refP al s.P)).length=0
  ·exact⟨_,_,_,.done s g hp⟩
  have hp':0<(prsN (refP al s.P)).length:=by omega
  by_cases he:((s.tr.length:Nat):Int)=most
  ·exact⟨_,_,_,.most s g hp' he⟩
  have he':((s.tr.length:Nat):Int)<most:=by omega
  obtain⟨⟨N1,rs⟩,lp⟩:=g.ref al;have hb2:=wo hsch (n:=(((prsN (refP al s.P)).length:Nat):Int)) (by omega) ((s.tr.length:Nat):Int);have eX:gX sch s=elt (dflt uPort) (uj s.xs s.kv) (Ib sch (((prsN (refP al s.P)).length:Nat):Int) ((s.tr.length:Nat):Int)):=by unfold gX oK;rw[g.KM al]
  have lx:=g.lx;obtain⟨⟨iX,iQ⟩,st⟩:=PL rs hb (by omega) (by omega) hb2.1 hb2.2;rw[←eX]at iX st;cases g_step g (by omega) lp iX iQ st with
  |bad code hc hI hS=>exact⟨_,_,_,.bad s g hp' he' code hc hI hS iQ⟩
  |ok s' g' l hI hS d=>
   match n with
   |0=>omega
   |n+1=>
    obtain⟨b,cd,t,r⟩:=Jf hb hsch hm n g' (by omega) (by omega);exact⟨b,cd,t,.next s s' g hp' he' l hI hS r iQ d⟩
end Go.Proofs.YtjijpkphkicoeaaGreat
namespace Go.Proofs.YtjijpkphkicoeaaGreat
open Go Go.RowKit Go.Proofs Go.Tr
theorem Hg(ys:List NAgent)(us:List Value)(pk:Int)(tr:List Int)(hl:ys.length≤1000000)(h0:0<ys.length)(hp:∀i:Nat,i<ys.length→liveY ys i=true→0<(agAt ys (i:Nat)).2.2.2.2.length):
  FCall Tryz.prog 50 [.ptr 10000 0] (tB ys us pk tr) (.sl 10003) ([.row 10003 71 2 uPort (prsN ys) []]++tB ys us pk tr):=
 FCall.of_f (ts2:=[.row 10003 71 2 uPort (prsN ys) []]) ti_ok [61] MU (Rv ys hl h0 hp) rfl rfl rfl
section
variable (bk:List (List NAgent))(sch:List Int)(most:Int)
abbrev UH(s:GSt):List Tok:=[.cel 10000 80 [.ptr 10001 0,.sl 10004,.raw (.slice none 0 0),.sl 10005,.raw (.slice none 0 0)],.cel 10001 87 [.sl 10002,.rsl uNet bk,.mp 10003],.row 10002 131 5 uAgent s.xs [],.map 10003 .bool s.kv,.row 10004 2 1 (.int .i64) s.cn [],.row 10005 2 1 (.int .i64) s.cu []]
abbrev tUr(t:GSt):List Tok:=[.cel 10000 80 [.ptr 10006 0,.sl 10004,.sl 10009,.sl 10010,.sl 10011],.cel 10006 87 [.sl 10007,.rsl uNet bk,.mp 10008],.row 10007 131 5 uAgent t.xs [],.map 10008 .bool t.kv,.row 10004 2 1 (.int .i64) t.cn [],.row 10009 2 1 (.int .i64) t.tr [],.row 10010 2 1 (.int .i64) t.cu [],.row 10011 2 1 (.int .i64) t.ex []]
def gUT(s:GSt):List Tok:=[.cel 10000 80 [.ptr 20000 0,.sl 10004,.sl 20003,.sl 20004,.sl 20005],.cel 20000 87 [.sl 20001,.rsl uNet bk,.mp 20002],.row 20001 131 5 uAgent s.xs [],.map 20002 .bool s.kv,.row 10004 2 1 (.int .i64) s.cn [],.row 20003 2 1 (.int .i64) s.tr [],.row 20004 2 1 (.int .i64) s.cu [],.row 20005 2 1 (.int .i64) s.ex []]
theorem RI{al:Bool}{s0 t:GSt}{b:Bool}{c:Int}(hsch:∀z∈sch,0≤z)(h0:s0.tr=[])(h1:s0.ex=[])(R:GTo al bk sch most s0 b c t):FCall Tryz.prog 119 [.ptr 10000 0,.rsl (.int .i64) sch,.int .i64 most] (UH bk s0) (.tup [.bool b,.int .i64 c]) (tUr bk t):=by
 refine FCall.intro (nt:=29) ti_ok mixed (by kernel_rfl) Tryz.func119 rfl rfl rfl rfl rfl rfl ?_;refine lp GSt (fun _=>[]) (gUT bk) (fun s=>4001-s.tr.length) (fun s=>GTo al bk sch most s b c t) s0 R ?_ ?_
 ·exact hdm [⟨3010000,30000,2,1,(.int .i64)⟩,⟨5010000,30001,2,1,(.int .i64)⟩] [(20000,10001),(20001,10002),(20002,10003),(20003,30000),(20004,10005),(20005,30001)] rfl (aI trivial ⟨trivial,⟨rfl,rfl,rfl,rfl,rfl,trivial⟩,trivial,⟨rfl,rfl,rfl,trivial⟩,⟨rfl,nP⟩,rfl,⟨rfl,nP⟩,⟨h0.symm,nP⟩,⟨rfl,nP⟩,⟨h1.symm,nP⟩,trivial⟩)
 intro s hR;have g:GOk bk s:=GTo.ok hR;have lt:=g.tr;have lx:=g.lx;have pl:=g.KM al;refine Or.inr (eI _ (eI _ (aI (Ug s.xs [] bk s.kv s.cn s.tr s.cu s.ex (by omega) (KY g.rs.wx)) ?_)));refine aI (fun q2=> ?_) (fun q2=> ?_)
 ·have q2':((((uj s.xs s.kv).length:Nat):Int)==0)=true:=q2;have hz:(uj s.xs s.kv).length=0:=by simpa using q2'
  cases hR with
  |done=>exact fin [(10006,20000),(10007,20001),(10008,20002),(10009,20003),(10010,20004),(10011,20005)] (aI rfl ⟨trivial,⟨rfl,rfl,rfl,rfl,rfl,trivial⟩,trivial,⟨rfl,rfl,rfl,trivial⟩,⟨rfl,nP⟩,rfl,⟨rfl,nP⟩,⟨rfl,nP⟩,⟨rfl,nP⟩,⟨rfl,nP⟩,trivial⟩)
  |most _ _ h=>omega
  |bad _ _ h=>omega
  |next _ _ _ h=>omega
 have q2':((((uj s.xs s.kv).length:Nat):Int)==0)=false:=q2;have hz0:¬(((uj s.xs s.kv).length:Nat):Int)=0:=by simpa using q2'
 have hz:0<(uj s.xs s.kv).length:=by omega
 refine Or.inr (eI _ (eI _ (aI (madeU s.xs [] bk s.kv s.cn s.tr s.cu s.ex) ?_)));refine aI (fun q3=> ?_) (fun q3=> ?_)
 ·have q4:(((s.tr.length:Nat):Int)==most)=true:=q3;have q5:((s.tr.length:Nat):Int)=most:=by simpa using q4
  cases hR with
  |done _ _ h=>omega
  |most=>exact fin [(10006,20000),(10007,20001),(10008,20002),(10009,20003),(10010,20004),(10011,20005)] (aI rfl ⟨trivial,⟨rfl,rfl,rfl,rfl,rfl,trivial⟩,trivial,⟨rfl,rfl,rfl,trivial⟩,⟨rfl,nP⟩,rfl,⟨rfl,nP⟩,⟨rfl,nP⟩,⟨rfl,nP⟩,⟨rfl,nP⟩,trivial⟩)
  |bad _ _ _ h=>omega
  |next _ _ _ _ h=>omega
 have q4:(((s.tr.length:Nat):Int)==most)=false:=q3;have q5:¬((s.tr.length:Nat):Int)=most:=by simpa using q4
 refine Or.inr (eI _ (eI _ (aI (madeU s.xs [] bk s.kv s.cn s.tr s.cu s.ex) ?_)));refine Or.inr (eI _ (eI _ (aI (Uy sch (uj s.xs s.kv) ((s.tr.length:Nat):Int) hsch (by omega) hz) ?_)));cases hR with
 |done _ _ h=>omega
 |most _ _ _ h=>omega
 |bad _ _ _ _ c2 hc2 hI hS=>
  refine Or.inr (eI _ (eI _ (aI hI ?_)));refine aI (fun q6=> ?_) (fun q6=> ?_)
  ·exact fin [(10006,20000),(10007,20001),(10008,20002),(10009,20003),(10010,20004),(10011,20005)] (aI rfl ⟨trivial,⟨rfl,rfl,rfl,rfl,rfl,trivial⟩,trivial,⟨rfl,rfl,rfl,trivial⟩,⟨rfl,nP⟩,rfl,⟨rfl,nP⟩,⟨rfl,nP⟩,⟨rfl,nP⟩,⟨rfl,nP⟩,trivial⟩)
  ·exfalso;have q7:(c !=0)=false:=q6;simp at q7;exact hc2 q7
 |next _ s2 _ _ _ l hI hS r=>
  refine Or.inr (eI _ (eI _ (aI hI ?_)));refine aI (fun q6=>by cases q6) (fun q6=> ?_);refine lp_next s2 r ?_ ?_
  ·exact hd [(20000,25),(20001,1000025),(20002,2000025),(20003,3000025),(20004,4000025),(20005,5000025)] rfl trivial ⟨trivial,⟨rfl,rfl,rfl,rfl,rfl,trivial⟩,trivial,⟨rfl,rfl,rfl,trivial⟩,⟨rfl,nP⟩,rfl,⟨rfl,nP⟩,⟨rfl,nP⟩,⟨rfl,nP⟩,⟨rfl,nP⟩,trivial⟩
  ·show 4001-s2.tr.length<4001-s.tr.length;omega
end
end Go.Proofs.YtjijpkphkicoeaaGreat
namespace Go.Tr
open Go Go.RowKit
theorem KT{l:List Int}(h:schedB l=true):∀z∈l,0≤z:=fun z hz=>by
 unfold schedB at h;rw[Bool.and_eq_true]at h;obtain⟨i,hi,rfl⟩:=List.mem_iff_getElem.1 hz;have:=iH h.2 hi;have e:bO l i=l[i]:=by unfold bO;rw[List.getD_eq_getElem?_getD,List.getElem?_eq_getElem hi];rfl
 rw[e]at this;exact(inB_t this).1
end Go.Tr
namespace Go.Proofs.YtjijpkphkicoeaaGreat
open Go Go.RowKit Go.Proofs Go.Tr
section
variable (a0:List GNet){A0:Option Addr}{c0:Nat}{p0:List Nat}(a1:GNet){p1:List Nat}{u1:List Value}(a2:List Int){A2:Option Addr}{c2:Nat}{p2:List Nat}(a3:Int)(r0:List GEvent)(r1:Int)
end
end Go.Proofs.YtjijpkphkicoeaaGreat
namespace Go.Proofs.YtjijpkphkicoeaaGreat
open Go Go.RowKit Go.Proofs Go.Tr
theorem MV:callOk Tryz.prog 54=true:=by kernel_rfl
abbrev g0(xs:List NAgent):GSt:=⟨[],xs,xs,xs,List.replicate 7 0,[],[(xs.length:Int)],[],[]⟩
section
variable (bk:List (List NAgent))(xs:List NAgent)(sch:List Int)(st:Int)
theorem O1(h:NetSmall xs):FCall Tryz.prog 97 [.rsl uNet bk,.agg [.rsl uAgent xs]] [] (.ptr 10000 0) (UH bk (g0 xs)):=by
 refine FCall.intro (nt:=15) ti_ok mixed (by kernel_rfl) Tryz.func97 rfl rfl rfl rfl rfl rfl ?_;refine Or.inr (eI _ (eI _ (aI (Rm xs bk h) ?_)));refine aI (by decide) ?_;refine aI (by kernel_rfl) ?_;refine fin [(10000,14),(10001,7),(10002,1000007),(10003,2000007),(10004,8),(10005,12)] (aI rfl ?_);exact⟨trivial,⟨rfl,rfl,rfl,rfl,rfl,trivial⟩,trivial,⟨rfl,rfl,rfl,trivial⟩,⟨rfl,nP⟩,rfl,⟨rfl,nP⟩,⟨rfl,nP⟩,trivial⟩
theorem ask_t(h:askN (vldB bk xs) (schedB sch&&inB st 0 4000)=0):vldB bk xs=true∧schedB sch=true∧inB st 0 4000=true:=by
 revert h;cases vldB bk xs<;>cases schedB sch<;>cases inB st 0 4000<;>simp[askN]
theorem Qn(q:(bif (bif !schedB sch then true else decide (st<0))then true else decide (4000<st))=true):(schedB sch&&inB st 0 4000)=false:=by
 rw[←Lf];unfold Pm;simp only[List.any_cons,List.any_nil,Bool.or_false];revert q;cases schedB sch<;>cases decide (st<0)<;>cases decide (4000<st)<;>simp
theorem Tg(q:(bif (bif !schedB sch then true else decide (st<0))then true else decide (4000<st))=false):(schedB sch&&inB st 0 4000)=true:=by
 rw[←Lf];unfold Pm;simp only[List.any_cons,List.any_nil,Bool.or_false];revert q;cases schedB sch<;>cases decide (st<0)<;>cases decide (4000<st)<;>simp
theorem rednBad{c:Int}(h:askN (vldB bk xs) (schedB sch&&inB st 0 4000)=c)(hc:c≠0):FCall Tryz.prog 54 [.rsl uNet bk,.agg [.rsl uAgent xs],.rsl (.int .i64) sch,.int .i64 st] [] (.tup [.raw (.pointer none),.int .i64 c]) []:=by
 refine FCall.intro (nt:=34) ti_ok mixed MV Tryz.func54 rfl rfl rfl rfl rfl rfl ?_;refine Or.inl (eI _ (aI (Qw bk) ?_));refine Or.inl (eI _ (aI (fun _=>S9 xs) ?_));refine aI (fun q=> ?_) (fun q=> ?_)
 ·have e:c=1:=by rw[←h,NQ bk xs q];rfl
  subst e;exact fin [] (aI rfl trivial)
 have hv:=QA bk xs q;refine Or.inl (eI _ (aI (Ns sch) ?_));refine aI (fun q2=> ?_) (fun q2=> ?_)
 ·have e:c=2:=by rw[←h,hv,Qn sch st q2];rfl
  subst e;exact fin [] (aI rfl trivial)
 ·exfalso;rw[hv,Tg sch st q2]at h;exact hc h.symm
theorem rednOk(hs:NetSmall xs)(h:askN (vldB bk xs) (schedB sch&&inB st 0 4000)=0):FCall Tryz.prog 54 [.rsl uNet bk,.agg [.rsl uAgent xs],.rsl (.int .i64) sch,.int .i64 st] [] (.tup [.ptr 10000 0,.int .i64 0]) (UH bk (g0 xs)):=by
 obtain⟨hv,hsc,hi⟩:=ask_t bk xs sch st h;refine FCall.intro (nt:=34) ti_ok mixed MV Tryz.func54 rfl rfl rfl rfl rfl rfl ?_;refine Or.inl (eI _ (aI (Qw bk) ?_));refine Or.inl (eI _ (aI (fun _=>S9 xs) ?_));refine aI (fun q=> ?_) (fun q=> ?_)
 ·have e:=NQ bk xs q;rw[hv]at e;cases e
 refine Or.inl (eI _ (aI (Ns sch) ?_));refine aI (fun q2=> ?_) (fun q2=> ?_)
 ·have e:=Qn sch st q2;rw[hsc,hi]at e;cases e
 refine Or.inr (eI _ (eI _ (aI (O1 bk xs hs) ?_)));refine fin [(10000,33),(10001,1000033),(10002,2000033),(10003,3000033),(10004,4000033),(10005,5000033)] (aI rfl ?_);exact⟨trivial,⟨rfl,rfl,rfl,rfl,rfl,trivial⟩,trivial,⟨rfl,rfl,rfl,trivial⟩,⟨rfl,nP⟩,rfl,⟨rfl,nP⟩,⟨rfl,nP⟩,trivial⟩
end
theorem g0_ok{bk:List (List NAgent)}{xs:List NAgent}(nn:NetOk xs):GOk bk (g0 xs):=by
 have hl:=nn.l2;refine⟨RS.start nn.twin,by show xs.length≤2400;omega,by show xs.length≤1800;omega,by show xs.length≤([]:List (Int×Bool)).length+600;rw[List.length_nil];omega,rfl,(fun z hz=>by cases hz),rfl,Nat.le_refl _,(fun z hz=>by cases hz),by show([]:List Int).length≤4000;decide,rfl,rfl⟩
theorem run_all(al:Bool){bk:List (List NAgent)}{xs:List NAgent}{sch:List Int}{st:Int}(h:askN (vldB bk xs) (schedB sch&&inB st 0 4000)=0):NetSmall xs∧(∀z∈sch,0≤z)∧∃b c t,GTo al bk sch st (g0 xs) b c t:=by
 obtain⟨hv,hsc,hi⟩:=ask_t bk xs sch st h;unfold vldB at hv;rw[Bool.and_eq_true]at hv;have nb:=(bookB_ok hv.1).1;have nn:=netB_ok hv.2;have hl2:=nn.l2
 have hs:NetSmall xs:=by
  refine⟨by omega,fun i=> ?_⟩
  by_cases hi:i<xs.length
  ·have w:=nn.wf (i:Nat) (by omega) (by omega);have h1:=wf_data w;have h2:=(wf_small w).2;exact⟨by show(agAt xs (i:Nat)).2.2.2.1.length≤1048576;omega,by show(agAt xs (i:Nat)).2.2.2.2.length≤1048576;omega⟩
  ·rw[agAt_out (by omega)];decide
 have hsp:=KT hsc;have hst:=inB_t hi;exact⟨hs,hsp,Jf nb hsp hst.2 4000 (g0_ok nn) (by show((([]:List Int).length:Nat):Int)≤st;rw[List.length_nil];omega) (by show st≤((([]:List Int).length+4000:Nat):Int);rw[List.length_nil];omega)⟩
end Go.Proofs.YtjijpkphkicoeaaGreat
namespace Go.Proofs.YtjijpkphkicoeaaGreat
open Go Go.RowKit Go.Proofs Go.Tr
theorem sQ:callOk Tryz.prog 65=true:=by kernel_rfl
section
variable (bk:List (List NAgent))(xs:List NAgent)(sch:List Int)(st:Int)
theorem red1d{c:Int}(hc:c≠0)(h:askN (vldB bk xs) (schedB sch&&inB st 0 4000)=c):FCall Tryz.prog 65 [.rsl uNet bk,.agg [.rsl uAgent xs],.rsl (.int .i64) sch,.int .i64 st] [] (.tup [.raw (.pointer none),.int .i64 c]) ([]):=by
 refine FCall.intro (nt:=39) ti_ok mixed sQ Tryz.func65 rfl rfl rfl rfl rfl rfl ?_;refine Or.inr (eI _ (eI _ (aI (rednBad bk xs sch st h hc) ?_)));refine aI (fun q=> ?_) (fun q=> ?_)
 ·exact fin [] (aI rfl trivial)
 ·exfalso;have q2:(c !=0)=false:=q;simp at q2;exact hc q2
theorem red2d{c:Int}(hc:c≠0)(hs:NetSmall xs)(hsch:∀z∈sch,0≤z)(h:askN (vldB bk xs) (schedB sch&&inB st 0 4000)=0){al b:Bool}{t:GSt}(R:GTo al bk sch st (g0 xs) b c t):FCall Tryz.prog 65 [.rsl uNet bk,.agg [.rsl uAgent xs],.rsl (.int .i64) sch,.int .i64 st] [] (.tup [.raw (.pointer none),.int .i64 c]) ([]):=by
 refine FCall.intro (nt:=39) ti_ok mixed sQ Tryz.func65 rfl rfl rfl rfl rfl rfl ?_;refine Or.inr (eI _ (eI _ (aI (rednOk bk xs sch st hs h) ?_)));refine aI (fun q=>by cases q) (fun _=> ?_);refine Or.inr (eI _ (eI _ (aI (RI bk sch st hsch rfl rfl R) ?_)));refine aI (fun q=> ?_) (fun q=> ?_)
 ·exact fin [] (aI rfl trivial)
 ·exfalso;have q2:(c !=0)=false:=q;simp at q2;exact hc q2
theorem red3d(hs:NetSmall xs)(hsch:∀z∈sch,0≤z)(h:askN (vldB bk xs) (schedB sch&&inB st 0 4000)=0){al:Bool}{t:GSt}(R:GTo al bk sch st (g0 xs) false 0 t):FCall Tryz.prog 65 [.rsl uNet bk,.agg [.rsl uAgent xs],.rsl (.int .i64) sch,.int .i64 st] [] (.tup [.raw (.pointer none),.int .i64 12]) ([]):=by
 refine FCall.intro (nt:=39) ti_ok mixed sQ Tryz.func65 rfl rfl rfl rfl rfl rfl ?_;refine Or.inr (eI _ (eI _ (aI (rednOk bk xs sch st hs h) ?_)));refine aI (fun q=>by cases q) (fun _=> ?_);refine Or.inr (eI _ (eI _ (aI (RI bk sch st hsch rfl rfl R) ?_)));refine aI (fun q=>by cases q) (fun _=> ?_);refine aI (fun _=> ?_) (fun q=>by cases q);exact fin [] (aI rfl trivial)
theorem red4d(hs:NetSmall xs)(hsch:∀z∈sch,0≤z)(h:askN (vldB bk xs) (schedB sch&&inB st 0 4000)=0){al:Bool}{t:GSt}(R:GTo al bk sch st (g0 xs) true 0 t):FCall Tryz.prog 65 [.rsl uNet bk,.agg [.rsl uAgent xs],.rsl (.int .i64) sch,.int .i64 st] [] (.tup [.ptr 10000 0,.int .i64 0]) (tU t.xs [] bk t.kv t.cn t.tr t.cu t.ex):=by
 refine FCall.intro (nt:=39) ti_ok mixed sQ Tryz.func65 rfl rfl rfl rfl rfl rfl ?_;refine Or.inr (eI _ (eI _ (aI (rednOk bk xs sch st hs h) ?_)));refine aI (fun q=>by cases q) (fun _=> ?_);refine Or.inr (eI _ (eI _ (aI (RI bk sch st hsch rfl rfl R) ?_)));refine aI (fun q=>by cases q) (fun _=> ?_);refine aI (fun q=>by cases q) (fun _=> ?_);refine fin [(10000,18),(10001,28),(10002,1000028),(10003,2000028),(10004,4000018),(10005,3000028),(10006,4000028),(10007,5000028)] (aI rfl ?_);exact⟨trivial,⟨rfl,rfl,rfl,rfl,rfl,trivial⟩,trivial,⟨rfl,rfl,rfl,trivial⟩,⟨rfl,nP⟩,rfl,⟨rfl,nP⟩,⟨rfl,nP⟩,⟨rfl,nP⟩,⟨rfl,nP⟩,trivial⟩
end
end Go.Proofs.YtjijpkphkicoeaaGreat
namespace Go.Proofs.YtjijpkphkicoeaaGreat
open Go Go.RowKit Go.Proofs Go.Tr
theorem xu:callOk Tryz.prog 64=true:=by kernel_rfl
def QZ(s:GSt):List Tok:=[.cel 30 66 [.sl 20000,.sl 20001,.int .i64 (pkOf s.cu)],.row 20000 131 5 uAgent s.P [],.row 20001 2 1 (.int .i64) s.tr [],.row 20002 2 1 (.int .i64) s.df [],.row 20003 2 1 (.int .i64) s.cu []]
section
variable (bk:List (List NAgent))(xs:List NAgent)(sch:List Int)(st:Int)
theorem go26Ask{c:Int}(hc:c≠0)(h:askN (vldB bk xs) (schedB sch&&inB st 0 4000)=c):FCall Tryz.prog 64 [.rsl uNet bk,.rp uNet xs,.rsl (.int .i64) sch,.int .i64 st] [] (.tup [.raw (.slice none 0 0),.raw (.slice none 0 0),.int .i64 c]) []:=by
 have hA:=askQ bk xs sch st;rw[h]at hA;refine FCall.intro (nt:=135) ti_ok mixed xu Tryz.func64 rfl rfl rfl rfl rfl rfl ?_;refine Or.inl (eI _ (aI hA ?_));refine aI (fun q=> ?_) (fun q=> ?_)
 ·exact fin [] (aI rfl trivial)
 ·exfalso;have q2:(c !=0)=false:=q;simp at q2;exact hc q2
theorem go26Bad{b:Bool}{c:Int}(hc:c≠0)(hs:NetSmall xs)(hsch:∀z∈sch,0≤z)(h:askN (vldB bk xs) (schedB sch&&inB st 0 4000)=0){t:GSt}(R:GTo true bk sch st (g0 xs) b c t):FCall Tryz.prog 64 [.rsl uNet bk,.rp uNet xs,.rsl (.int .i64) sch,.int .i64 st] [] (.tup [.raw (.slice none 0 0),.raw (.slice none 0 0),.int .i64 c]) ([]):=by
 have hA:=askQ bk xs sch st;rw[h]at hA;refine FCall.intro (nt:=135) ti_ok mixed xu Tryz.func64 rfl rfl rfl rfl rfl rfl ?_;refine Or.inl (eI _ (aI hA ?_));refine aI (fun q=>by cases q) (fun _=> ?_);refine Or.inr (eI _ (eI _ (aI (beginS xs hs) ?_)));refine lp GSt (fun _=>[(13,.sl 20002),(14,.sl 20003)]) QZ (fun s=>4001-s.tr.length) (fun s=>GTo true bk sch st s b c t) (g0 xs) R ?_ ?_
 ·exact hdm [⟨2000030,30000,2,1,(.int .i64)⟩] [(20000,1000030),(20001,30000),(20002,31),(20003,37)] rfl (aI (aI rfl (aI rfl trivial)) ⟨trivial,⟨rfl,rfl,⟨rfl,rfl⟩,trivial⟩,⟨rfl,nP⟩,⟨rfl,nP⟩,⟨rfl,nP⟩,⟨rfl,nP⟩,trivial⟩)
 intro s hR;have g:GOk bk s:=GTo.ok hR;obtain⟨⟨N1,rs1⟩,lp1⟩:=g.ref true;have er:refP true s.P=packN s.P:=rfl;rw[er]at rs1 lp1;have lt:=g.tr;have lP:=g.lp;have lc:=g.cu;have ld:=g.dl;obtain⟨sm,al⟩:=g.rs.small (by omega);refine Or.inr (eI _ (eI _ (aI (packB s.P [] (pkOf s.cu) s.tr sm (by omega) al) ?_)));refine Or.inr (eI _ (eI _ (aI (Hg (packN s.P) [] (pkOf s.cu) s.tr (by omega) rs1.pos rs1.Hw) ?_)));refine aI (fun q2=> ?_) (fun q2=> ?_)
 ·have q2':((((prsN (packN s.P)).length:Nat):Int)==0)=true:=q2;have hz:(prsN (packN s.P)).length=0:=by simpa using q2'
  cases hR with
  |done=>exact absurd rfl hc
  |most _ _ h=>rw[er]at h;omega
  |bad _ _ h=>rw[er]at h;omega
  |next _ _ _ h=>rw[er]at h;omega
 have q2':((((prsN (packN s.P)).length:Nat):Int)==0)=false:=q2;have hz0:¬(((prsN (packN s.P)).length:Nat):Int)=0:=by simpa using q2'
 have hz:0<(prsN (packN s.P)).length:=by omega
 refine aI (fun q8=> ?_) (fun q8=> ?_)
 ·have q9:decide (st≤((s.tr.length:Nat):Int))=true:=q8;have q10:st≤((s.tr.length:Nat):Int):=by simpa using q9
  cases hR with
  |done _ _ h=>rw[er]at h;omega
  |most=>exact absurd rfl hc
  |bad _ _ _ h=>omega
  |next _ _ _ _ h=>omega
 have q9:decide (st≤((s.tr.length:Nat):Int))=false:=q8;have q10:¬st≤((s.tr.length:Nat):Int):=by simpa using q9
 have hb:=wo hsch (n:=(((prsN (packN s.P)).length:Nat):Int)) (by omega) ((s.tr.length:Nat):Int);cases hR with
 |done _ _ h=>rw[er]at h;omega
 |most _ _ _ h=>omega
 |bad _ _ _ _ c2 hc2 hI hS hQ=>
  unfold gQ at hS hQ;rw[er]at hS hQ;refine aI (fun q3=> ?_) (fun q3=> ?_)
  ·have q4:decide (0<((sch.length:Nat):Int))=true:=q3;have q11:0<((sch.length:Nat):Int):=by simpa using q4
   have e:=JV sch (prsN (packN t.P)) ((t.tr.length:Nat):Int) q4;have e0:elt 0 sch (((t.tr.length:Nat):Int).tmod ((sch.length:Nat):Int))=rU sch ((t.tr.length:Nat):Int):=by unfold rU;rw[q4];rfl
   have hb2:0≤(elt 0 sch (((t.tr.length:Nat):Int).tmod ((sch.length:Nat):Int))).tmod (((prsN (packN t.P)).length:Nat):Int)∧(elt 0 sch (((t.tr.length:Nat):Int).tmod ((sch.length:Nat):Int))).tmod (((prsN (packN t.P)).length:Nat):Int)<(((prsN (packN t.P)).length:Nat):Int):=by rw[e0];exact hb
   refine aI (show((sch.length:Nat):Int)≠0 by omega) ?_;refine aI (Cn (by omega) q11) ?_;refine aI (show(((prsN (packN t.P)).length:Nat):Int)≠0 by omega) ?_;rw[←e]at hS hQ;have hF:=fu (xs:=packN t.P) hQ.1 hQ.2;refine aI hb2 ?_;refine aI hb2 ?_;refine Or.inr (eI _ (eI _ (aI (FCall.of_q (ts:=tB (packN t.P) [] (pkOf t.cu) t.tr) ti_ok [61,0,0] iO (nD (packN t.P) (elt (dflt uPort) (prsN (packN t.P)) ((elt 0 sch (((t.tr.length:Nat):Int).tmod ((sch.length:Nat):Int))).tmod (((prsN (packN t.P)).length:Nat):Int))).1 (elt (dflt uPort) (prsN (packN t.P)) ((elt 0 sch (((t.tr.length:Nat):Int).tmod ((sch.length:Nat):Int))).tmod (((prsN (packN t.P)).length:Nat):Int))).2 hQ.1 hQ.2) rfl) ?_)))
   refine aI (by kernel_rfl) ?_;refine aI hF.1 ?_;refine aI hF.2 ?_;refine Or.inl (eI _ (eI _ (aI (lq (packN t.P) [] (aj (packN t.P) (elt (dflt uPort) (prsN (packN t.P)) ((elt 0 sch (((t.tr.length:Nat):Int).tmod ((sch.length:Nat):Int))).tmod (((prsN (packN t.P)).length:Nat):Int))).1 (elt (dflt uPort) (prsN (packN t.P)) ((elt 0 sch (((t.tr.length:Nat):Int).tmod ((sch.length:Nat):Int))).tmod (((prsN (packN t.P)).length:Nat):Int))).2).1 (aj (packN t.P) (elt (dflt uPort) (prsN (packN t.P)) ((elt 0 sch (((t.tr.length:Nat):Int).tmod ((sch.length:Nat):Int))).tmod (((prsN (packN t.P)).length:Nat):Int))).1 (elt (dflt uPort) (prsN (packN t.P)) ((elt 0 sch (((t.tr.length:Nat):Int).tmod ((sch.length:Nat):Int))).tmod (((prsN (packN t.P)).length:Nat):Int))).2).2) (eI [] (aI rfl ?_)))))
   refine aI (by kernel_rfl) ?_;refine aI (fun q5=> ?_) (fun q5=> ?_)
   ·refine aI hF.1 ?_;refine aI hb2 ?_;refine Or.inr (eI _ (eI _ (aI hS ?_)));refine aI (fun q6=> ?_) (fun q6=> ?_)
    ·exact fin [] (aI rfl trivial)
    ·exfalso;have q7:(c !=0)=false:=q6;simp at q7;exact hc q7
   ·refine aI hb2 ?_;refine Or.inr (eI _ (eI _ (aI hS ?_)));refine aI (fun q6=> ?_) (fun q6=> ?_)
    ·exact fin [] (aI rfl trivial)
    ·exfalso;have q7:(c !=0)=false:=q6;simp at q7;exact hc q7
  ·have q4:decide (0<((sch.length:Nat):Int))=false:=q3;have e:=JU sch (prsN (packN t.P)) ((t.tr.length:Nat):Int) q4;have hb2:(0:Int)≤0∧(0:Int)<(((prsN (packN t.P)).length:Nat):Int):=by omega
   rw[←e]at hS hQ;have hF:=fu (xs:=packN t.P) hQ.1 hQ.2;refine aI hb2 ?_;refine aI hb2 ?_;refine Or.inr (eI _ (eI _ (aI (FCall.of_q (ts:=tB (packN t.P) [] (pkOf t.cu) t.tr) ti_ok [61,0,0] iO (nD (packN t.P) (elt (dflt uPort) (prsN (packN t.P)) 0).1 (elt (dflt uPort) (prsN (packN t.P)) 0).2 hQ.1 hQ.2) rfl) ?_)));refine aI (by kernel_rfl) ?_;refine aI hF.1 ?_;refine aI hF.2 ?_;refine Or.inl (eI _ (eI _ (aI (lq (packN t.P) [] (aj (packN t.P) (elt (dflt uPort) (prsN (packN t.P)) 0).1 (elt (dflt uPort) (prsN (packN t.P)) 0).2).1 (aj (packN t.P) (elt (dflt uPort) (prsN (packN t.P)) 0).1 (elt (dflt uPort) (prsN (packN t.P)) 0).2).2) (eI [] (aI rfl ?_)))))
   refine aI (by kernel_rfl) ?_;refine aI (fun q5=> ?_) (fun q5=> ?_)
   ·refine aI hF.1 ?_;refine aI hb2 ?_;refine Or.inr (eI _ (eI _ (aI hS ?_)));refine aI (fun q6=> ?_) (fun q6=> ?_)
    ·exact fin [] (aI rfl trivial)
    ·exfalso;have q7:(c !=0)=false:=q6;simp at q7;exact hc q7
   ·refine aI hb2 ?_;refine Or.inr (eI _ (eI _ (aI hS ?_)));refine aI (fun q6=> ?_) (fun q6=> ?_)
    ·exact fin [] (aI rfl trivial)
    ·exfalso;have q7:(c !=0)=false:=q6;simp at q7;exact hc q7
 |next _ s2 _ _ _ l hI hS r hQ d=>
  obtain⟨c1,v1,d1,d2,d3,d4,d5⟩:=d;have g2:GOk bk s2:=GTo.ok r;have lP2:=g2.lp;unfold gQ at hS hQ d1 d2;rw[er]at hS hQ d1 d2;refine aI (fun q3=> ?_) (fun q3=> ?_)
  ·have q4:decide (0<((sch.length:Nat):Int))=true:=q3;have q11:0<((sch.length:Nat):Int):=by simpa using q4
   have e:=JV sch (prsN (packN s.P)) ((s.tr.length:Nat):Int) q4;have e0:elt 0 sch (((s.tr.length:Nat):Int).tmod ((sch.length:Nat):Int))=rU sch ((s.tr.length:Nat):Int):=by unfold rU;rw[q4];rfl
   have hb2:0≤(elt 0 sch (((s.tr.length:Nat):Int).tmod ((sch.length:Nat):Int))).tmod (((prsN (packN s.P)).length:Nat):Int)∧(elt 0 sch (((s.tr.length:Nat):Int).tmod ((sch.length:Nat):Int))).tmod (((prsN (packN s.P)).length:Nat):Int)<(((prsN (packN s.P)).length:Nat):Int):=by rw[e0];exact hb
   refine aI (show((sch.length:Nat):Int)≠0 by omega) ?_;refine aI (Cn (by omega) q11) ?_;refine aI (show(((prsN (packN s.P)).length:Nat):Int)≠0 by omega) ?_;rw[←e]at hS hQ d1 d2;have hF:=fu (xs:=packN s.P) hQ.1 hQ.2;refine aI hb2 ?_;refine aI hb2 ?_;refine Or.inr (eI _ (eI _ (aI (FCall.of_q (ts:=tB (packN s.P) [] (pkOf s.cu) s.tr) ti_ok [61,0,0] iO (nD (packN s.P) (elt (dflt uPort) (prsN (packN s.P)) ((elt 0 sch (((s.tr.length:Nat):Int).tmod ((sch.length:Nat):Int))).tmod (((prsN (packN s.P)).length:Nat):Int))).1 (elt (dflt uPort) (prsN (packN s.P)) ((elt 0 sch (((s.tr.length:Nat):Int).tmod ((sch.length:Nat):Int))).tmod (((prsN (packN s.P)).length:Nat):Int))).2 hQ.1 hQ.2) rfl) ?_)))
   refine aI (by kernel_rfl) ?_;refine aI hF.1 ?_;refine aI hF.2 ?_;refine Or.inl (eI _ (eI _ (aI (lq (packN s.P) [] (aj (packN s.P) (elt (dflt uPort) (prsN (packN s.P)) ((elt 0 sch (((s.tr.length:Nat):Int).tmod ((sch.length:Nat):Int))).tmod (((prsN (packN s.P)).length:Nat):Int))).1 (elt (dflt uPort) (prsN (packN s.P)) ((elt 0 sch (((s.tr.length:Nat):Int).tmod ((sch.length:Nat):Int))).tmod (((prsN (packN s.P)).length:Nat):Int))).2).1 (aj (packN s.P) (elt (dflt uPort) (prsN (packN s.P)) ((elt 0 sch (((s.tr.length:Nat):Int).tmod ((sch.length:Nat):Int))).tmod (((prsN (packN s.P)).length:Nat):Int))).1 (elt (dflt uPort) (prsN (packN s.P)) ((elt 0 sch (((s.tr.length:Nat):Int).tmod ((sch.length:Nat):Int))).tmod (((prsN (packN s.P)).length:Nat):Int))).2).2) (eI [] (aI rfl ?_)))))
   refine aI (by kernel_rfl) ?_;refine aI (fun q5=> ?_) (fun q5=> ?_)
   ·refine aI hF.1 ?_;refine aI hb2 ?_;refine Or.inr (eI _ (eI _ (aI hS ?_)));refine aI (fun q6=>by cases q6) (fun q6=> ?_);refine aI (show s.df.length+1≤1073741824 by omega) ?_;refine Or.inr (eI _ (eI _ (aI (FCall.of_q ti_ok [61] gZ (kU s2.P (by omega)) rfl) ?_)));refine aI (show s.cu.length+1≤1073741824 by omega) ?_;have hd7:(sK (packN s.P) (elt (dflt uPort) (prsN (packN s.P)) ((elt 0 sch (((s.tr.length:Nat):Int).tmod ((sch.length:Nat):Int))).tmod (((prsN (packN s.P)).length:Nat):Int))).1 (elt (dflt uPort) (prsN (packN s.P)) ((elt 0 sch (((s.tr.length:Nat):Int).tmod ((sch.length:Nat):Int))).tmod (((prsN (packN s.P)).length:Nat):Int))).2==7)=true:=q5
    refine lp_next s2 r ?_ ?_
    ·refine hd [(20000,120),(20001,1000120),(20002,127),(20003,134)] rfl (aI rfl (aI rfl trivial)) ⟨trivial,⟨rfl,rfl,⟨rfl,rfl⟩,trivial⟩,⟨rfl,nP⟩,⟨rfl,nP⟩,⟨?_,nP⟩,⟨d4.symm,nP⟩,trivial⟩;rw[d5,←d1,hd7,←d2];rfl
    ·show 4001-s2.tr.length<4001-s.tr.length;omega
   ·refine aI hb2 ?_;refine Or.inr (eI _ (eI _ (aI hS ?_)));refine aI (fun q6=>by cases q6) (fun q6=> ?_);refine aI (show s.df.length+1≤1073741824 by omega) ?_;refine Or.inr (eI _ (eI _ (aI (FCall.of_q ti_ok [61] gZ (kU s2.P (by omega)) rfl) ?_)));refine aI (show s.cu.length+1≤1073741824 by omega) ?_;have hd7:(sK (packN s.P) (elt (dflt uPort) (prsN (packN s.P)) ((elt 0 sch (((s.tr.length:Nat):Int).tmod ((sch.length:Nat):Int))).tmod (((prsN (packN s.P)).length:Nat):Int))).1 (elt (dflt uPort) (prsN (packN s.P)) ((elt 0 sch (((s.tr.length:Nat):Int).tmod ((sch.length:Nat):Int))).tmod (((prsN (packN s.P)).length:Nat):Int))).2==7)=false:=q5
    refine lp_next s2 r ?_ ?_
    ·refine hd [(20000,120),(20001,1000120),(20002,127),(20003,134)] rfl (aI rfl (aI rfl trivial)) ⟨trivial,⟨rfl,rfl,⟨rfl,rfl⟩,trivial⟩,⟨rfl,nP⟩,⟨rfl,nP⟩,⟨?_,nP⟩,⟨d4.symm,nP⟩,trivial⟩;rw[d5,←d1,hd7];rfl
    ·show 4001-s2.tr.length<4001-s.tr.length;omega
  ·have q4:decide (0<((sch.length:Nat):Int))=false:=q3;have e:=JU sch (prsN (packN s.P)) ((s.tr.length:Nat):Int) q4;have hb2:(0:Int)≤0∧(0:Int)<(((prsN (packN s.P)).length:Nat):Int):=by omega
   rw[←e]at hS hQ d1 d2;have hF:=fu (xs:=packN s.P) hQ.1 hQ.2;refine aI hb2 ?_;refine aI hb2 ?_;refine Or.inr (eI _ (eI _ (aI (FCall.of_q (ts:=tB (packN s.P) [] (pkOf s.cu) s.tr) ti_ok [61,0,0] iO (nD (packN s.P) (elt (dflt uPort) (prsN (packN s.P)) 0).1 (elt (dflt uPort) (prsN (packN s.P)) 0).2 hQ.1 hQ.2) rfl) ?_)));refine aI (by kernel_rfl) ?_;refine aI hF.1 ?_;refine aI hF.2 ?_;refine Or.inl (eI _ (eI _ (aI (lq (packN s.P) [] (aj (packN s.P) (elt (dflt uPort) (prsN (packN s.P)) 0).1 (elt (dflt uPort) (prsN (packN s.P)) 0).2).1 (aj (packN s.P) (elt (dflt uPort) (prsN (packN s.P)) 0).1 (elt (dflt uPort) (prsN (packN s.P)) 0).2).2) (eI [] (aI rfl ?_)))))
   refine aI (by kernel_rfl) ?_;refine aI (fun q5=> ?_) (fun q5=> ?_)
   ·refine aI hF.1 ?_;refine aI hb2 ?_;refine Or.inr (eI _ (eI _ (aI hS ?_)));refine aI (fun q6=>by cases q6) (fun q6=> ?_);refine aI (show s.df.length+1≤1073741824 by omega) ?_;refine Or.inr (eI _ (eI _ (aI (FCall.of_q ti_ok [61] gZ (kU s2.P (by omega)) rfl) ?_)));refine aI (show s.cu.length+1≤1073741824 by omega) ?_;have hd7:(sK (packN s.P) (elt (dflt uPort) (prsN (packN s.P)) 0).1 (elt (dflt uPort) (prsN (packN s.P)) 0).2==7)=true:=q5;refine lp_next s2 r ?_ ?_
    ·refine hd [(20000,120),(20001,1000120),(20002,127),(20003,134)] rfl (aI rfl (aI rfl trivial)) ⟨trivial,⟨rfl,rfl,⟨rfl,rfl⟩,trivial⟩,⟨rfl,nP⟩,⟨rfl,nP⟩,⟨?_,nP⟩,⟨d4.symm,nP⟩,trivial⟩;rw[d5,←d1,hd7,←d2];rfl
    ·show 4001-s2.tr.length<4001-s.tr.length;omega
   ·refine aI hb2 ?_;refine Or.inr (eI _ (eI _ (aI hS ?_)));refine aI (fun q6=>by cases q6) (fun q6=> ?_);refine aI (show s.df.length+1≤1073741824 by omega) ?_;refine Or.inr (eI _ (eI _ (aI (FCall.of_q ti_ok [61] gZ (kU s2.P (by omega)) rfl) ?_)));refine aI (show s.cu.length+1≤1073741824 by omega) ?_;have hd7:(sK (packN s.P) (elt (dflt uPort) (prsN (packN s.P)) 0).1 (elt (dflt uPort) (prsN (packN s.P)) 0).2==7)=false:=q5;refine lp_next s2 r ?_ ?_
    ·refine hd [(20000,120),(20001,1000120),(20002,127),(20003,134)] rfl (aI rfl (aI rfl trivial)) ⟨trivial,⟨rfl,rfl,⟨rfl,rfl⟩,trivial⟩,⟨rfl,nP⟩,⟨rfl,nP⟩,⟨?_,nP⟩,⟨d4.symm,nP⟩,trivial⟩;rw[d5,←d1,hd7];rfl
    ·show 4001-s2.tr.length<4001-s.tr.length;omega
theorem go26Bud(hs:NetSmall xs)(hsch:∀z∈sch,0≤z)(h:askN (vldB bk xs) (schedB sch&&inB st 0 4000)=0){t:GSt}(R:GTo true bk sch st (g0 xs) false 0 t):FCall Tryz.prog 64 [.rsl uNet bk,.rp uNet xs,.rsl (.int .i64) sch,.int .i64 st] [] (.tup [.raw (.slice none 0 0),.raw (.slice none 0 0),.int .i64 12]) ([]):=by
 have hA:=askQ bk xs sch st;rw[h]at hA;refine FCall.intro (nt:=135) ti_ok mixed xu Tryz.func64 rfl rfl rfl rfl rfl rfl ?_;refine Or.inl (eI _ (aI hA ?_));refine aI (fun q=>by cases q) (fun _=> ?_);refine Or.inr (eI _ (eI _ (aI (beginS xs hs) ?_)));refine lp GSt (fun _=>[(13,.sl 20002),(14,.sl 20003)]) QZ (fun s=>4001-s.tr.length) (fun s=>GTo true bk sch st s false 0 t) (g0 xs) R ?_ ?_
 ·exact hdm [⟨2000030,30000,2,1,(.int .i64)⟩] [(20000,1000030),(20001,30000),(20002,31),(20003,37)] rfl (aI (aI rfl (aI rfl trivial)) ⟨trivial,⟨rfl,rfl,⟨rfl,rfl⟩,trivial⟩,⟨rfl,nP⟩,⟨rfl,nP⟩,⟨rfl,nP⟩,⟨rfl,nP⟩,trivial⟩)
 intro s hR;have g:GOk bk s:=GTo.ok hR;obtain⟨⟨N1,rs1⟩,lp1⟩:=g.ref true;have er:refP true s.P=packN s.P:=rfl;rw[er]at rs1 lp1;have lt:=g.tr;have lP:=g.lp;have lc:=g.cu;have ld:=g.dl;obtain⟨sm,al⟩:=g.rs.small (by omega);refine Or.inr (eI _ (eI _ (aI (packB s.P [] (pkOf s.cu) s.tr sm (by omega) al) ?_)));refine Or.inr (eI _ (eI _ (aI (Hg (packN s.P) [] (pkOf s.cu) s.tr (by omega) rs1.pos rs1.Hw) ?_)));refine aI (fun q2=> ?_) (fun q2=> ?_)
 ·have q2':((((prsN (packN s.P)).length:Nat):Int)==0)=true:=q2;have hz:(prsN (packN s.P)).length=0:=by simpa using q2'
  cases hR with
  |most _ _ h=>rw[er]at h;omega
  |bad _ _ h _ _ hc2=>exact absurd rfl hc2
  |next _ _ _ h=>rw[er]at h;omega
 have q2':((((prsN (packN s.P)).length:Nat):Int)==0)=false:=q2;have hz0:¬(((prsN (packN s.P)).length:Nat):Int)=0:=by simpa using q2'
 have hz:0<(prsN (packN s.P)).length:=by omega
 refine aI (fun q8=> ?_) (fun q8=> ?_)
 ·have q9:decide (st≤((s.tr.length:Nat):Int))=true:=q8;have q10:st≤((s.tr.length:Nat):Int):=by simpa using q9
  cases hR with
  |most=>exact fin [] (aI rfl trivial)
  |bad _ _ _ _ _ hc2=>exact absurd rfl hc2
  |next _ _ _ _ h=>omega
 have q9:decide (st≤((s.tr.length:Nat):Int))=false:=q8;have q10:¬st≤((s.tr.length:Nat):Int):=by simpa using q9
 have hb:=wo hsch (n:=(((prsN (packN s.P)).length:Nat):Int)) (by omega) ((s.tr.length:Nat):Int);cases hR with
 |most _ _ _ h=>omega
 |bad _ _ _ _ _ hc2=>exact absurd rfl hc2
 |next _ s2 _ _ _ l hI hS r hQ d=>
  obtain⟨c1,v1,d1,d2,d3,d4,d5⟩:=d;have g2:GOk bk s2:=GTo.ok r;have lP2:=g2.lp;unfold gQ at hS hQ d1 d2;rw[er]at hS hQ d1 d2;refine aI (fun q3=> ?_) (fun q3=> ?_)
  ·have q4:decide (0<((sch.length:Nat):Int))=true:=q3;have q11:0<((sch.length:Nat):Int):=by simpa using q4
   have e:=JV sch (prsN (packN s.P)) ((s.tr.length:Nat):Int) q4;have e0:elt 0 sch (((s.tr.length:Nat):Int).tmod ((sch.length:Nat):Int))=rU sch ((s.tr.length:Nat):Int):=by unfold rU;rw[q4];rfl
   have hb2:0≤(elt 0 sch (((s.tr.length:Nat):Int).tmod ((sch.length:Nat):Int))).tmod (((prsN (packN s.P)).length:Nat):Int)∧(elt 0 sch (((s.tr.length:Nat):Int).tmod ((sch.length:Nat):Int))).tmod (((prsN (packN s.P)).length:Nat):Int)<(((prsN (packN s.P)).length:Nat):Int):=by rw[e0];exact hb
   refine aI (show((sch.length:Nat):Int)≠0 by omega) ?_;refine aI (Cn (by omega) q11) ?_;refine aI (show(((prsN (packN s.P)).length:Nat):Int)≠0 by omega) ?_;rw[←e]at hS hQ d1 d2;have hF:=fu (xs:=packN s.P) hQ.1 hQ.2;refine aI hb2 ?_;refine aI hb2 ?_;refine Or.inr (eI _ (eI _ (aI (FCall.of_q (ts:=tB (packN s.P) [] (pkOf s.cu) s.tr) ti_ok [61,0,0] iO (nD (packN s.P) (elt (dflt uPort) (prsN (packN s.P)) ((elt 0 sch (((s.tr.length:Nat):Int).tmod ((sch.length:Nat):Int))).tmod (((prsN (packN s.P)).length:Nat):Int))).1 (elt (dflt uPort) (prsN (packN s.P)) ((elt 0 sch (((s.tr.length:Nat):Int).tmod ((sch.length:Nat):Int))).tmod (((prsN (packN s.P)).length:Nat):Int))).2 hQ.1 hQ.2) rfl) ?_)))
   refine aI (by kernel_rfl) ?_;refine aI hF.1 ?_;refine aI hF.2 ?_;refine Or.inl (eI _ (eI _ (aI (lq (packN s.P) [] (aj (packN s.P) (elt (dflt uPort) (prsN (packN s.P)) ((elt 0 sch (((s.tr.length:Nat):Int).tmod ((sch.length:Nat):Int))).tmod (((prsN (packN s.P)).length:Nat):Int))).1 (elt (dflt uPort) (prsN (packN s.P)) ((elt 0 sch (((s.tr.length:Nat):Int).tmod ((sch.length:Nat):Int))).tmod (((prsN (packN s.P)).length:Nat):Int))).2).1 (aj (packN s.P) (elt (dflt uPort) (prsN (packN s.P)) ((elt 0 sch (((s.tr.length:Nat):Int).tmod ((sch.length:Nat):Int))).tmod (((prsN (packN s.P)).length:Nat):Int))).1 (elt (dflt uPort) (prsN (packN s.P)) ((elt 0 sch (((s.tr.length:Nat):Int).tmod ((sch.length:Nat):Int))).tmod (((prsN (packN s.P)).length:Nat):Int))).2).2) (eI [] (aI rfl ?_)))))
   refine aI (by kernel_rfl) ?_;refine aI (fun q5=> ?_) (fun q5=> ?_)
   ·refine aI hF.1 ?_;refine aI hb2 ?_;refine Or.inr (eI _ (eI _ (aI hS ?_)));refine aI (fun q6=>by cases q6) (fun q6=> ?_);refine aI (show s.df.length+1≤1073741824 by omega) ?_;refine Or.inr (eI _ (eI _ (aI (FCall.of_q ti_ok [61] gZ (kU s2.P (by omega)) rfl) ?_)));refine aI (show s.cu.length+1≤1073741824 by omega) ?_;have hd7:(sK (packN s.P) (elt (dflt uPort) (prsN (packN s.P)) ((elt 0 sch (((s.tr.length:Nat):Int).tmod ((sch.length:Nat):Int))).tmod (((prsN (packN s.P)).length:Nat):Int))).1 (elt (dflt uPort) (prsN (packN s.P)) ((elt 0 sch (((s.tr.length:Nat):Int).tmod ((sch.length:Nat):Int))).tmod (((prsN (packN s.P)).length:Nat):Int))).2==7)=true:=q5
    refine lp_next s2 r ?_ ?_
    ·refine hd [(20000,120),(20001,1000120),(20002,127),(20003,134)] rfl (aI rfl (aI rfl trivial)) ⟨trivial,⟨rfl,rfl,⟨rfl,rfl⟩,trivial⟩,⟨rfl,nP⟩,⟨rfl,nP⟩,⟨?_,nP⟩,⟨d4.symm,nP⟩,trivial⟩;rw[d5,←d1,hd7,←d2];rfl
    ·show 4001-s2.tr.length<4001-s.tr.length;omega
   ·refine aI hb2 ?_;refine Or.inr (eI _ (eI _ (aI hS ?_)));refine aI (fun q6=>by cases q6) (fun q6=> ?_);refine aI (show s.df.length+1≤1073741824 by omega) ?_;refine Or.inr (eI _ (eI _ (aI (FCall.of_q ti_ok [61] gZ (kU s2.P (by omega)) rfl) ?_)));refine aI (show s.cu.length+1≤1073741824 by omega) ?_;have hd7:(sK (packN s.P) (elt (dflt uPort) (prsN (packN s.P)) ((elt 0 sch (((s.tr.length:Nat):Int).tmod ((sch.length:Nat):Int))).tmod (((prsN (packN s.P)).length:Nat):Int))).1 (elt (dflt uPort) (prsN (packN s.P)) ((elt 0 sch (((s.tr.length:Nat):Int).tmod ((sch.length:Nat):Int))).tmod (((prsN (packN s.P)).length:Nat):Int))).2==7)=false:=q5
    refine lp_next s2 r ?_ ?_
    ·refine hd [(20000,120),(20001,1000120),(20002,127),(20003,134)] rfl (aI rfl (aI rfl trivial)) ⟨trivial,⟨rfl,rfl,⟨rfl,rfl⟩,trivial⟩,⟨rfl,nP⟩,⟨rfl,nP⟩,⟨?_,nP⟩,⟨d4.symm,nP⟩,trivial⟩;rw[d5,←d1,hd7];rfl
    ·show 4001-s2.tr.length<4001-s.tr.length;omega
  ·have q4:decide (0<((sch.length:Nat):Int))=false:=q3;have e:=JU sch (prsN (packN s.P)) ((s.tr.length:Nat):Int) q4;have hb2:(0:Int)≤0∧(0:Int)<(((prsN (packN s.P)).length:Nat):Int):=by omega
   rw[←e]at hS hQ d1 d2;have hF:=fu (xs:=packN s.P) hQ.1 hQ.2;refine aI hb2 ?_;refine aI hb2 ?_;refine Or.inr (eI _ (eI _ (aI (FCall.of_q (ts:=tB (packN s.P) [] (pkOf s.cu) s.tr) ti_ok [61,0,0] iO (nD (packN s.P) (elt (dflt uPort) (prsN (packN s.P)) 0).1 (elt (dflt uPort) (prsN (packN s.P)) 0).2 hQ.1 hQ.2) rfl) ?_)));refine aI (by kernel_rfl) ?_;refine aI hF.1 ?_;refine aI hF.2 ?_;refine Or.inl (eI _ (eI _ (aI (lq (packN s.P) [] (aj (packN s.P) (elt (dflt uPort) (prsN (packN s.P)) 0).1 (elt (dflt uPort) (prsN (packN s.P)) 0).2).1 (aj (packN s.P) (elt (dflt uPort) (prsN (packN s.P)) 0).1 (elt (dflt uPort) (prsN (packN s.P)) 0).2).2) (eI [] (aI rfl ?_)))))
   refine aI (by kernel_rfl) ?_;refine aI (fun q5=> ?_) (fun q5=> ?_)
   ·refine aI hF.1 ?_;refine aI hb2 ?_;refine Or.inr (eI _ (eI _ (aI hS ?_)));refine aI (fun q6=>by cases q6) (fun q6=> ?_);refine aI (show s.df.length+1≤1073741824 by omega) ?_;refine Or.inr (eI _ (eI _ (aI (FCall.of_q ti_ok [61] gZ (kU s2.P (by omega)) rfl) ?_)));refine aI (show s.cu.length+1≤1073741824 by omega) ?_;have hd7:(sK (packN s.P) (elt (dflt uPort) (prsN (packN s.P)) 0).1 (elt (dflt uPort) (prsN (packN s.P)) 0).2==7)=true:=q5;refine lp_next s2 r ?_ ?_
    ·refine hd [(20000,120),(20001,1000120),(20002,127),(20003,134)] rfl (aI rfl (aI rfl trivial)) ⟨trivial,⟨rfl,rfl,⟨rfl,rfl⟩,trivial⟩,⟨rfl,nP⟩,⟨rfl,nP⟩,⟨?_,nP⟩,⟨d4.symm,nP⟩,trivial⟩;rw[d5,←d1,hd7,←d2];rfl
    ·show 4001-s2.tr.length<4001-s.tr.length;omega
   ·refine aI hb2 ?_;refine Or.inr (eI _ (eI _ (aI hS ?_)));refine aI (fun q6=>by cases q6) (fun q6=> ?_);refine aI (show s.df.length+1≤1073741824 by omega) ?_;refine Or.inr (eI _ (eI _ (aI (FCall.of_q ti_ok [61] gZ (kU s2.P (by omega)) rfl) ?_)));refine aI (show s.cu.length+1≤1073741824 by omega) ?_;have hd7:(sK (packN s.P) (elt (dflt uPort) (prsN (packN s.P)) 0).1 (elt (dflt uPort) (prsN (packN s.P)) 0).2==7)=false:=q5;refine lp_next s2 r ?_ ?_
    ·refine hd [(20000,120),(20001,1000120),(20002,127),(20003,134)] rfl (aI rfl (aI rfl trivial)) ⟨trivial,⟨rfl,rfl,⟨rfl,rfl⟩,trivial⟩,⟨rfl,nP⟩,⟨rfl,nP⟩,⟨?_,nP⟩,⟨d4.symm,nP⟩,trivial⟩;rw[d5,←d1,hd7];rfl
    ·show 4001-s2.tr.length<4001-s.tr.length;omega
theorem go26Ok(hs:NetSmall xs)(hsch:∀z∈sch,0≤z)(h:askN (vldB bk xs) (schedB sch&&inB st 0 4000)=0){t:GSt}(R:GTo true bk sch st (g0 xs) true 0 t):FCall Tryz.prog 64 [.rsl uNet bk,.rp uNet xs,.rsl (.int .i64) sch,.int .i64 st] [] (.tup [.sl 10000,.sl 10001,.int .i64 0]) ([.row 10000 2 1 (.int .i64) t.df [],.row 10001 2 1 (.int .i64) t.cu []]):=by
 have hA:=askQ bk xs sch st;rw[h]at hA;refine FCall.intro (nt:=135) ti_ok mixed xu Tryz.func64 rfl rfl rfl rfl rfl rfl ?_;refine Or.inl (eI _ (aI hA ?_));refine aI (fun q=>by cases q) (fun _=> ?_);refine Or.inr (eI _ (eI _ (aI (beginS xs hs) ?_)));refine lp GSt (fun _=>[(13,.sl 20002),(14,.sl 20003)]) QZ (fun s=>4001-s.tr.length) (fun s=>GTo true bk sch st s true 0 t) (g0 xs) R ?_ ?_
 ·exact hdm [⟨2000030,30000,2,1,(.int .i64)⟩] [(20000,1000030),(20001,30000),(20002,31),(20003,37)] rfl (aI (aI rfl (aI rfl trivial)) ⟨trivial,⟨rfl,rfl,⟨rfl,rfl⟩,trivial⟩,⟨rfl,nP⟩,⟨rfl,nP⟩,⟨rfl,nP⟩,⟨rfl,nP⟩,trivial⟩)
 intro s hR;have g:GOk bk s:=GTo.ok hR;obtain⟨⟨N1,rs1⟩,lp1⟩:=g.ref true;have er:refP true s.P=packN s.P:=rfl;rw[er]at rs1 lp1;have lt:=g.tr;have lP:=g.lp;have lc:=g.cu;have ld:=g.dl;obtain⟨sm,al⟩:=g.rs.small (by omega);refine Or.inr (eI _ (eI _ (aI (packB s.P [] (pkOf s.cu) s.tr sm (by omega) al) ?_)));refine Or.inr (eI _ (eI _ (aI (Hg (packN s.P) [] (pkOf s.cu) s.tr (by omega) rs1.pos rs1.Hw) ?_)));refine aI (fun q2=> ?_) (fun q2=> ?_)
 ·have q2':((((prsN (packN s.P)).length:Nat):Int)==0)=true:=q2;have hz:(prsN (packN s.P)).length=0:=by simpa using q2'
  cases hR with
  |done=>exact fin [(10000,20002),(10001,20003)] (aI rfl ⟨⟨rfl,nP⟩,⟨rfl,nP⟩,trivial⟩)
  |next _ _ _ h=>rw[er]at h;omega
 have q2':((((prsN (packN s.P)).length:Nat):Int)==0)=false:=q2;have hz0:¬(((prsN (packN s.P)).length:Nat):Int)=0:=by simpa using q2'
 have hz:0<(prsN (packN s.P)).length:=by omega
 refine aI (fun q8=> ?_) (fun q8=> ?_)
 ·have q9:decide (st≤((s.tr.length:Nat):Int))=true:=q8;have q10:st≤((s.tr.length:Nat):Int):=by simpa using q9
  cases hR with
  |done _ _ h=>rw[er]at h;omega
  |next _ _ _ _ h=>omega
 have q9:decide (st≤((s.tr.length:Nat):Int))=false:=q8;have q10:¬st≤((s.tr.length:Nat):Int):=by simpa using q9
 have hb:=wo hsch (n:=(((prsN (packN s.P)).length:Nat):Int)) (by omega) ((s.tr.length:Nat):Int);cases hR with
 |done _ _ h=>rw[er]at h;omega
 |next _ s2 _ _ _ l hI hS r hQ d=>
  obtain⟨c1,v1,d1,d2,d3,d4,d5⟩:=d;have g2:GOk bk s2:=GTo.ok r;have lP2:=g2.lp;unfold gQ at hS hQ d1 d2;rw[er]at hS hQ d1 d2;refine aI (fun q3=> ?_) (fun q3=> ?_)
  ·have q4:decide (0<((sch.length:Nat):Int))=true:=q3;have q11:0<((sch.length:Nat):Int):=by simpa using q4
   have e:=JV sch (prsN (packN s.P)) ((s.tr.length:Nat):Int) q4;have e0:elt 0 sch (((s.tr.length:Nat):Int).tmod ((sch.length:Nat):Int))=rU sch ((s.tr.length:Nat):Int):=by unfold rU;rw[q4];rfl
   have hb2:0≤(elt 0 sch (((s.tr.length:Nat):Int).tmod ((sch.length:Nat):Int))).tmod (((prsN (packN s.P)).length:Nat):Int)∧(elt 0 sch (((s.tr.length:Nat):Int).tmod ((sch.length:Nat):Int))).tmod (((prsN (packN s.P)).length:Nat):Int)<(((prsN (packN s.P)).length:Nat):Int):=by rw[e0];exact hb
   refine aI (show((sch.length:Nat):Int)≠0 by omega) ?_;refine aI (Cn (by omega) q11) ?_;refine aI (show(((prsN (packN s.P)).length:Nat):Int)≠0 by omega) ?_;rw[←e]at hS hQ d1 d2;have hF:=fu (xs:=packN s.P) hQ.1 hQ.2;refine aI hb2 ?_;refine aI hb2 ?_;refine Or.inr (eI _ (eI _ (aI (FCall.of_q (ts:=tB (packN s.P) [] (pkOf s.cu) s.tr) ti_ok [61,0,0] iO (nD (packN s.P) (elt (dflt uPort) (prsN (packN s.P)) ((elt 0 sch (((s.tr.length:Nat):Int).tmod ((sch.length:Nat):Int))).tmod (((prsN (packN s.P)).length:Nat):Int))).1 (elt (dflt uPort) (prsN (packN s.P)) ((elt 0 sch (((s.tr.length:Nat):Int).tmod ((sch.length:Nat):Int))).tmod (((prsN (packN s.P)).length:Nat):Int))).2 hQ.1 hQ.2) rfl) ?_)))
   refine aI (by kernel_rfl) ?_;refine aI hF.1 ?_;refine aI hF.2 ?_;refine Or.inl (eI _ (eI _ (aI (lq (packN s.P) [] (aj (packN s.P) (elt (dflt uPort) (prsN (packN s.P)) ((elt 0 sch (((s.tr.length:Nat):Int).tmod ((sch.length:Nat):Int))).tmod (((prsN (packN s.P)).length:Nat):Int))).1 (elt (dflt uPort) (prsN (packN s.P)) ((elt 0 sch (((s.tr.length:Nat):Int).tmod ((sch.length:Nat):Int))).tmod (((prsN (packN s.P)).length:Nat):Int))).2).1 (aj (packN s.P) (elt (dflt uPort) (prsN (packN s.P)) ((elt 0 sch (((s.tr.length:Nat):Int).tmod ((sch.length:Nat):Int))).tmod (((prsN (packN s.P)).length:Nat):Int))).1 (elt (dflt uPort) (prsN (packN s.P)) ((elt 0 sch (((s.tr.length:Nat):Int).tmod ((sch.length:Nat):Int))).tmod (((prsN (packN s.P)).length:Nat):Int))).2).2) (eI [] (aI rfl ?_)))))
   refine aI (by kernel_rfl) ?_;refine aI (fun q5=> ?_) (fun q5=> ?_)
   ·refine aI hF.1 ?_;refine aI hb2 ?_;refine Or.inr (eI _ (eI _ (aI hS ?_)));refine aI (fun q6=>by cases q6) (fun q6=> ?_);refine aI (show s.df.length+1≤1073741824 by omega) ?_;refine Or.inr (eI _ (eI _ (aI (FCall.of_q ti_ok [61] gZ (kU s2.P (by omega)) rfl) ?_)));refine aI (show s.cu.length+1≤1073741824 by omega) ?_;have hd7:(sK (packN s.P) (elt (dflt uPort) (prsN (packN s.P)) ((elt 0 sch (((s.tr.length:Nat):Int).tmod ((sch.length:Nat):Int))).tmod (((prsN (packN s.P)).length:Nat):Int))).1 (elt (dflt uPort) (prsN (packN s.P)) ((elt 0 sch (((s.tr.length:Nat):Int).tmod ((sch.length:Nat):Int))).tmod (((prsN (packN s.P)).length:Nat):Int))).2==7)=true:=q5
    refine lp_next s2 r ?_ ?_
    ·refine hd [(20000,120),(20001,1000120),(20002,127),(20003,134)] rfl (aI rfl (aI rfl trivial)) ⟨trivial,⟨rfl,rfl,⟨rfl,rfl⟩,trivial⟩,⟨rfl,nP⟩,⟨rfl,nP⟩,⟨?_,nP⟩,⟨d4.symm,nP⟩,trivial⟩;rw[d5,←d1,hd7,←d2];rfl
    ·show 4001-s2.tr.length<4001-s.tr.length;omega
   ·refine aI hb2 ?_;refine Or.inr (eI _ (eI _ (aI hS ?_)));refine aI (fun q6=>by cases q6) (fun q6=> ?_);refine aI (show s.df.length+1≤1073741824 by omega) ?_;refine Or.inr (eI _ (eI _ (aI (FCall.of_q ti_ok [61] gZ (kU s2.P (by omega)) rfl) ?_)));refine aI (show s.cu.length+1≤1073741824 by omega) ?_;have hd7:(sK (packN s.P) (elt (dflt uPort) (prsN (packN s.P)) ((elt 0 sch (((s.tr.length:Nat):Int).tmod ((sch.length:Nat):Int))).tmod (((prsN (packN s.P)).length:Nat):Int))).1 (elt (dflt uPort) (prsN (packN s.P)) ((elt 0 sch (((s.tr.length:Nat):Int).tmod ((sch.length:Nat):Int))).tmod (((prsN (packN s.P)).length:Nat):Int))).2==7)=false:=q5
    refine lp_next s2 r ?_ ?_
    ·refine hd [(20000,120),(20001,1000120),(20002,127),(20003,134)] rfl (aI rfl (aI rfl trivial)) ⟨trivial,⟨rfl,rfl,⟨rfl,rfl⟩,trivial⟩,⟨rfl,nP⟩,⟨rfl,nP⟩,⟨?_,nP⟩,⟨d4.symm,nP⟩,trivial⟩;rw[d5,←d1,hd7];rfl
    ·show 4001-s2.tr.length<4001-s.tr.length;omega
  ·have q4:decide (0<((sch.length:Nat):Int))=false:=q3;have e:=JU sch (prsN (packN s.P)) ((s.tr.length:Nat):Int) q4;have hb2:(0:Int)≤0∧(0:Int)<(((prsN (packN s.P)).length:Nat):Int):=by omega
   rw[←e]at hS hQ d1 d2;have hF:=fu (xs:=packN s.P) hQ.1 hQ.2;refine aI hb2 ?_;refine aI hb2 ?_;refine Or.inr (eI _ (eI _ (aI (FCall.of_q (ts:=tB (packN s.P) [] (pkOf s.cu) s.tr) ti_ok [61,0,0] iO (nD (packN s.P) (elt (dflt uPort) (prsN (packN s.P)) 0).1 (elt (dflt uPort) (prsN (packN s.P)) 0).2 hQ.1 hQ.2) rfl) ?_)));refine aI (by kernel_rfl) ?_;refine aI hF.1 ?_;refine aI hF.2 ?_;refine Or.inl (eI _ (eI _ (aI (lq (packN s.P) [] (aj (packN s.P) (elt (dflt uPort) (prsN (packN s.P)) 0).1 (elt (dflt uPort) (prsN (packN s.P)) 0).2).1 (aj (packN s.P) (elt (dflt uPort) (prsN (packN s.P)) 0).1 (elt (dflt uPort) (prsN (packN s.P)) 0).2).2) (eI [] (aI rfl ?_)))))
   refine aI (by kernel_rfl) ?_;refine aI (fun q5=> ?_) (fun q5=> ?_)
   ·refine aI hF.1 ?_;refine aI hb2 ?_;refine Or.inr (eI _ (eI _ (aI hS ?_)));refine aI (fun q6=>by cases q6) (fun q6=> ?_);refine aI (show s.df.length+1≤1073741824 by omega) ?_;refine Or.inr (eI _ (eI _ (aI (FCall.of_q ti_ok [61] gZ (kU s2.P (by omega)) rfl) ?_)));refine aI (show s.cu.length+1≤1073741824 by omega) ?_;have hd7:(sK (packN s.P) (elt (dflt uPort) (prsN (packN s.P)) 0).1 (elt (dflt uPort) (prsN (packN s.P)) 0).2==7)=true:=q5;refine lp_next s2 r ?_ ?_
    ·refine hd [(20000,120),(20001,1000120),(20002,127),(20003,134)] rfl (aI rfl (aI rfl trivial)) ⟨trivial,⟨rfl,rfl,⟨rfl,rfl⟩,trivial⟩,⟨rfl,nP⟩,⟨rfl,nP⟩,⟨?_,nP⟩,⟨d4.symm,nP⟩,trivial⟩;rw[d5,←d1,hd7,←d2];rfl
    ·show 4001-s2.tr.length<4001-s.tr.length;omega
   ·refine aI hb2 ?_;refine Or.inr (eI _ (eI _ (aI hS ?_)));refine aI (fun q6=>by cases q6) (fun q6=> ?_);refine aI (show s.df.length+1≤1073741824 by omega) ?_;refine Or.inr (eI _ (eI _ (aI (FCall.of_q ti_ok [61] gZ (kU s2.P (by omega)) rfl) ?_)));refine aI (show s.cu.length+1≤1073741824 by omega) ?_;have hd7:(sK (packN s.P) (elt (dflt uPort) (prsN (packN s.P)) 0).1 (elt (dflt uPort) (prsN (packN s.P)) 0).2==7)=false:=q5;refine lp_next s2 r ?_ ?_
    ·refine hd [(20000,120),(20001,1000120),(20002,127),(20003,134)] rfl (aI rfl (aI rfl trivial)) ⟨trivial,⟨rfl,rfl,⟨rfl,rfl⟩,trivial⟩,⟨rfl,nP⟩,⟨rfl,nP⟩,⟨?_,nP⟩,⟨d4.symm,nP⟩,trivial⟩;rw[d5,←d1,hd7];rfl
    ·show 4001-s2.tr.length<4001-s.tr.length;omega
end
end Go.Proofs.YtjijpkphkicoeaaGreat
namespace Go.Proofs.YtjijpkphkicoeaaGreat
open Go Go.RowKit Go.Proofs Go.Tr
def IntsRes(f:Nat)(args:List SV)(l:List Int)(c:Int):Prop:=
 (l=[]∧FCall Tryz.prog f args [] (.tup [.raw (.slice none 0 0),.int .i64 c]) [])∨FCall Tryz.prog f args [] (.tup [.sl 10000,.int .i64 c]) [.row 10000 2 1 (.int .i64) l []]
theorem ints_any{f:Nat}{args:List SV}{l:List Int}{c:Int}{vs:List Value}{w:World}(h:IntsRes f args l c)(hd:∀β,Dens ⟨w,[]⟩ β args vs):
  Calls Tryz.prog f vs.toArray w fun e w'=>∃(B0:Option Addr) (d0:Nat) (q0:List Nat),e=.returned (.tuple #[.slice B0 l.length d0,.int .i64 c])∧Ext w w'∧T1 w' (.sl l.length (l.flatMap intE)) q0 (.slice B0 l.length d0)∧Own w.heap.size w' (q0):=by
 rcases h with⟨rfl,h⟩|h
 ·refine(h.2 ⟨w,[]⟩ (fun _=>undef) w [] vs (Inv.start0 w) (hd _)).mono ?_;rintro e w' ⟨v',β',rfl,_,h1,h2⟩;unfold Den at h1;obtain⟨us,rfl,h1⟩:=h1;unfold Dens at h1;obtain⟨y1,us1,rfl,k1,h1⟩:=h1;unfold Dens at h1;obtain⟨y2,us2,rfl,k2,h1⟩:=h1;unfold Dens at h1;subst h1;unfold Den at k1 k2;subst k2;obtain⟨rfl,_⟩:=k1;exact⟨none,0,[],rfl,h2.to_ext,T1.empty none,Own.nil _ _⟩
 ·refine(h.2 ⟨w,[]⟩ (fun _=>undef) w [] vs (Inv.start0 w) (hd _)).mono ?_;rintro e w' ⟨v',β',rfl,_,h1,h2⟩;have hI':Inv (Cx.mk w []).w0 [] w' [Tok.res ⟨w,[]⟩ β' (.row 10000 2 1 (.int .i64) l [])]:=by simpa using h2
  obtain⟨A,c',q,r1,r2,r3⟩:=hI'.row1';unfold Den at h1;obtain⟨us,rfl,h1⟩:=h1;unfold Dens at h1;obtain⟨y1,us1,rfl,k1,h1⟩:=h1;unfold Dens at h1;obtain⟨y2,us2,rfl,k2,h1⟩:=h1;unfold Dens at h1;subst h1;unfold Den at k1 k2;obtain⟨rfl,_⟩:=k1;subst k2;rw[r1];refine⟨A,c',q,rfl,h2.to_ext,?_,r3⟩;rw[enc_ints]at r2;exact r2
theorem askN_cases(bk:List (List NAgent))(xs:List NAgent)(sch:List Int)(st:Int):askN (vldB bk xs) (schedB sch&&inB st 0 4000)=0∨∃c,c≠0∧askN (vldB bk xs) (schedB sch&&inB st 0 4000)=c:=by
 by_cases h:askN (vldB bk xs) (schedB sch&&inB st 0 4000)=0
 ·exact .inl h
 ·exact .inr ⟨_,h,rfl⟩
end Go.Proofs.YtjijpkphkicoeaaGreat
namespace Go.Tr
open Go Go.RowKit
end Go.Tr
namespace Go.Proofs.YtjijpkphkicoeaaGreat
open Go Go.RowKit Go.Proofs Go.Tr
section
variable (bk:List (List NAgent))(xs:List NAgent)(sch:List Int)(st:Int)
theorem Q6{c:Int}(h:FCall Tryz.prog 64 [.rsl uNet bk,.rp uNet xs,.rsl (.int .i64) sch,.int .i64 st] [] (.tup [.raw (.slice none 0 0),.raw (.slice none 0 0),.int .i64 c]) []):FCall Tryz.prog 64 [.rsl uNet bk,.ptr 10000 0,.rsl (.int .i64) sch,.int .i64 st] [.cel 10000 30 [.rsl uAgent xs]] (.tup [.raw (.slice none 0 0),.raw (.slice none 0 0),.int .i64 c]) [.cel 10000 30 [.rsl uAgent xs]]:=
 FCall.of_f (r2:=.tup [.raw (.slice none 0 0),.raw (.slice none 0 0),.int .i64 c]) (ts2:=[]) ti_ok [0,61,0,0] xu h rfl rfl rfl
theorem Q7{df cu:List Int}(h:FCall Tryz.prog 64 [.rsl uNet bk,.rp uNet xs,.rsl (.int .i64) sch,.int .i64 st] [] (.tup [.sl 10000,.sl 10001,.int .i64 0]) [.row 10000 2 1 (.int .i64) df [],.row 10001 2 1 (.int .i64) cu []]):FCall Tryz.prog 64 [.rsl uNet bk,.ptr 10000 0,.rsl (.int .i64) sch,.int .i64 st] [.cel 10000 30 [.rsl uAgent xs]] (.tup [.sl 10001,.sl 10002,.int .i64 0]) [.row 10001 2 1 (.int .i64) df [],.row 10002 2 1 (.int .i64) cu [],.cel 10000 30 [.rsl uAgent xs]]:=
 FCall.of_f (r2:=.tup [.sl 10001,.sl 10002,.int .i64 0]) (ts2:=[.row 10001 2 1 (.int .i64) df [],.row 10002 2 1 (.int .i64) cu []]) ti_ok [0,61,0,0] xu h rfl rfl rfl
theorem tQ:callOk Tryz.prog 28=true:=by kernel_rfl
theorem tT:callOk Tryz.prog 26=true:=by kernel_rfl
theorem mW{c:Int}(hc:c≠0)(h:FCall Tryz.prog 65 [.rsl uNet bk,.agg [.rsl uAgent xs],.rsl (.int .i64) sch,.int .i64 st] [] (.tup [.raw (.pointer none),.int .i64 c]) []):FCall Tryz.prog 28 [.rsl uNet bk,.agg [.rsl uAgent xs],.rsl (.int .i64) sch,.int .i64 st] [] (.tup [.raw (.slice none 0 0),.int .i64 c]) ([]):=by
 refine FCall.intro (nt:=27) ti_ok mixed tQ Tryz.func28 rfl rfl rfl rfl rfl rfl ?_;refine Or.inr (eI _ (eI _ (aI (h) ?_)));refine aI (fun q=> ?_) (fun q=> ?_)
 ·exact fin [] (aI rfl trivial)
 ·exfalso;have q2:(c !=0)=false:=q;simp at q2;exact hc q2
theorem mX{c:Int}(hc:c≠0)(h:FCall Tryz.prog 64 [.rsl uNet bk,.rp uNet xs,.rsl (.int .i64) sch,.int .i64 st] [] (.tup [.raw (.slice none 0 0),.raw (.slice none 0 0),.int .i64 c]) []):FCall Tryz.prog 26 [.rsl uNet bk,.agg [.rsl uAgent xs],.rsl (.int .i64) sch,.int .i64 st] [] (.tup [.raw (.slice none 0 0),.int .i64 c]) ([]):=by
 refine FCall.intro (nt:=25) ti_ok mixed tT Tryz.func26 rfl rfl rfl rfl rfl rfl ?_;refine Or.inr (eI _ (eI _ (aI (Q6 bk xs sch st h) ?_)));refine aI (fun q=> ?_) (fun q=> ?_)
 ·exact fin [] (aI rfl trivial)
 ·exfalso;have q2:(c !=0)=false:=q;simp at q2;exact hc q2
theorem AZ{t:GSt}(h:FCall Tryz.prog 65 [.rsl uNet bk,.agg [.rsl uAgent xs],.rsl (.int .i64) sch,.int .i64 st] [] (.tup [.ptr 10000 0,.int .i64 0]) (tU t.xs [] bk t.kv t.cn t.tr t.cu t.ex)):FCall Tryz.prog 28 [.rsl uNet bk,.agg [.rsl uAgent xs],.rsl (.int .i64) sch,.int .i64 st] [] (.tup [.sl 10000,.int .i64 0]) ([.row 10000 2 1 (.int .i64) t.cu []]):=by
 refine FCall.intro (nt:=27) ti_ok mixed tQ Tryz.func28 rfl rfl rfl rfl rfl rfl ?_;refine Or.inr (eI _ (eI _ (aI (h) ?_)));refine aI (fun q=>by cases q) (fun _=> ?_);refine fin [(10000,6000017)] (aI rfl ?_);exact⟨⟨rfl,nP⟩,trivial⟩
theorem A8{df cu:List Int}(h:FCall Tryz.prog 64 [.rsl uNet bk,.rp uNet xs,.rsl (.int .i64) sch,.int .i64 st] [] (.tup [.sl 10000,.sl 10001,.int .i64 0]) [.row 10000 2 1 (.int .i64) df [],.row 10001 2 1 (.int .i64) cu []]):FCall Tryz.prog 26 [.rsl uNet bk,.agg [.rsl uAgent xs],.rsl (.int .i64) sch,.int .i64 st] [] (.tup [.sl 10000,.int .i64 0]) ([.row 10000 2 1 (.int .i64) cu []]):=by
 refine FCall.intro (nt:=25) ti_ok mixed tT Tryz.func26 rfl rfl rfl rfl rfl rfl ?_;refine Or.inr (eI _ (eI _ (aI (Q7 bk xs sch st h) ?_)));refine aI (fun q=>by cases q) (fun _=> ?_);refine fin [(10000,1000017)] (aI rfl ?_);exact⟨⟨rfl,nP⟩,trivial⟩
end
end Go.Proofs.YtjijpkphkicoeaaGreat
