
/- One interaction of the program's nets, and of the reference's runs. -/
import Derived.Test.YtjijpkphkicoeaaGreatShort
import Derived.Test.YtjijpkphkicoeaaGreatIo
import Derived.Test.YtjijpkphkicoeaaGreatJh
import Derived.Test.YtjijpkphkicoeaaGreatNz
import Derived.Test.YtjijpkphkicoeaaGreatYd
import Derived.Test.YtjijpkphkicoeaaGreatRn
import Derived.Test.YtjijpkphkicoeaaGreatUg
import Derived.Test.YtjijpkphkicoeaaGreatRh
import Derived.Test.YtjijpkphkicoeaaGreatKEv
import Derived.Test.YtjijpkphkicoeaaGreatKDbg
set_option maxHeartbeats 4000000
set_option maxRecDepth 100000
set_option linter.unusedSimpArgs false
set_option linter.unusedVariables false
set_option linter.unusedSectionVars false
namespace Go.Proofs.YtjijpkphkicoeaaGreat
open Go Go.RowKit Go.Proofs Go.Tr
inductive Wv(bk:List (List aj))(kv:List (Int×Bool))(xs ys:List aj)(a b:Int):Prop
 |bad (code:Int) (hc:code≠0) (ho:E9 bk ys a b=code)
  (hI:∀us,aA Tryz.prog 60 [.ptr 10000 0,vP (a,b)] (tW xs us bk kv) (.int .i64 code) (tW xs us bk kv))
  (hB:∀us pk tr,aA Tryz.prog 90 [.rsl aR bk,.ptr 10000 0,.int .i64 a,.int .i64 b] (tB ys us pk tr) (.int .i64 code) (tB ys us pk tr))
 |ok (x':List aj) (kv':List (Int×Bool)) (ho:E9 bk ys a b=0) (nx:Wy bk ys a b)
  (hI:∀us,aA Tryz.prog 60 [.ptr 10000 0,vP (a,b)] (tW xs us bk kv) (.int .i64 0) (PU 10003 x' us bk kv'))
  (hB:∀us pk tr,aA Tryz.prog 90 [.rsl aR bk,.ptr 10000 0,.int .i64 a,.int .i64 b] (tB ys us pk tr) (.int .i64 0) (PS 10003 (sF bk ys a b) [] pk tr))
  (tw:Tr.Twin kv' x' (sF bk ys a b)) (l0:xs.length≤x'.length) (l1:x'.length≤xs.length+600) (wl:GI (fun _=>False) xs→GI (fun _=>False) x') (lv:x'.length≤kv'.length+600)
theorem nR{bk:List (List aj)}{kv:List (Int×Bool)}{xs ys:List aj}{a b:Int}(T:Tr.Twin kv xs ys)(k:l8 (Gone kv) xs a b)(ra:(ah xs a).1≠1)(rb:(ah xs b).1≠1)(hb:Ja bk)(hl:xs.length≤700000):Wv bk kv xs ys a b:=by
 have ha0:0≤a∧a<(xs.length:Nat):=⟨k.px.1,k.px.2.1⟩;have hb0:0≤b∧b<(xs.length:Nat):=⟨k.py.1,k.py.2.1⟩;have hlen:=T.len;have ha1:0≤a∧a<(ys.length:Nat):=by rw[←hlen];exact ha0
 have hb1:0≤b∧b<(ys.length:Nat):=by rw[←hlen];exact hb0
 have ea:=T.at_ ha0.1 ha0.2 k.lx;have eb:=T.at_ hb0.1 hb0.2 k.ly;have wa:=T.wf a ha0.1 ha0.2 k.lx;have wb:=T.wf b hb0.1 hb0.2 k.ly;have ef:aC ys a b=aC xs a b:=by unfold aC;rw[ea,eb]
 obtain⟨q1,q2⟩:=Ct wa wb ra rb;obtain⟨c1,c2⟩:=Ui wa wb ra rb hb.toBkW;have kf:=k.first T.st
 have rf:(ah xs (aC xs a b).1).1≠1∧(ah xs (aC xs a b).2).1≠1:=by
  unfold aC;cases aZ (ah xs a).1 (ah xs a).2.1 (ah xs b).1 (ah xs b).2.1==2
  ·exact⟨ra,rb⟩
  ·exact⟨rb,ra⟩
 have hx7:(bg (ah xs (a,b).1) (ah xs (a,b).2)).1=7→0≤(ah xs (bif (bg (ah xs (a,b).1) (ah xs (a,b).2)).2 then(a,b).2 else(a,b).1)).2.2.1∧0≤(ah xs (bif (bg (ah xs (a,b).1) (ah xs (a,b).2)).2 then(a,b).2 else(a,b).1)).2.1∧(ah xs (bif (bg (ah xs (a,b).1) (ah xs (a,b).2)).2 then(a,b).2 else(a,b).1)).2.1≤8:=fun e=>by
  have e':(bg (ah xs a) (ah xs b)).1=7:=e;obtain⟨k1,k2,k3,k4,k5⟩:=q2 (by rw[e'];decide);rw[e']at k3;have e2:(bif (bg (ah xs (a,b).1) (ah xs (a,b).2)).2 then(a,b).2 else(a,b).1)=(aC xs a b).1:=k1;rw[e2];have w1:=T.wf (aC xs a b).1 kf.px.1 kf.px.2.1 kf.lx;have h1:=uE w1 ((iC k3 (by decide)).2.2.2.2.2.2 rfl).1;have h2:=wL w1;refine⟨h1.1,?_⟩;omega
 generalize hxy:aC xs a b=xy at*;obtain⟨x,y⟩:=xy;simp only at q1 q2 c1 c2 kf rf;have hx0:0≤x∧x<(xs.length:Nat):=⟨kf.px.1,kf.px.2.1⟩;have hy0:0≤y∧y<(xs.length:Nat):=⟨kf.py.1,kf.py.2.1⟩;have ex:=T.at_ hx0.1 hx0.2 kf.lx;have ey:=T.at_ hy0.1 hy0.2 kf.ly
 have hv:bK (ah ys (aC ys a b).1) (ah ys (aC ys a b).2)=7→0≤(ah ys (aC ys a b).1).2.2.1:=fun e=>by
  rw[ef]at e ⊢;simp only at e ⊢;rw[ex,ey]at e;rw[ex];obtain⟨k1,k2,k3,k4,k5⟩:=q2 (by rw[q1,e];decide);rw[q1,e]at k3;exact(uE (T.wf x hx0.1 hx0.2 kf.lx) ((iC k3 (by decide)).2.2.2.2.2.2 rfl).1).1
 have hly:ys.length≤800000:=by omega
 cases hge:gK bk (ah xs x) (ah xs y)with
 |mk g e=>
  rw[hge]at c1 c2
  have hgy:gK bk (ah ys (aC ys a b).1) (ah ys (aC ys a b).2)=(g,e):=by
   rw[ef];simp only;rw[ex,ey];exact hge
  have hout:E9 bk ys a b=if e≠0 then e else if 600<IntKind.i64.wrap ((bP ys ys.length:Nat)+g)then 4 else 0:=by unfold E9;rw[hgy]
  by_cases he:e=0
  ·subst he;obtain⟨k1,k2,k3⟩:=c2 rfl
   have hn8:bK (ah xs x) (ah xs y)≠8:=fun e8=>by
    unfold gK at hge;rw[e8]at hge;cases hge
   obtain⟨_,_,hr,h1,h7⟩:=q2 (by rw[q1];exact hn8);rw[q1]at hr h1 h7;generalize hc:bK (ah xs x) (ah xs y)=c at*;have hc7:1≤c∧c≤7:=⟨h1,h7⟩
   have hcl:iw (ah xs x) (ah xs y)=false:=by
    unfold bK at hc;cases h:iw (ah xs x) (ah xs y)with
    |false=>rfl
    |true=>rw[h]at hc;exact absurd hc.symm hn8
   obtain⟨sx,sy,v0,tw,hln⟩:=T.next (bk:=bk) kf hb.toBkV rf.1 rf.2 hr hc7 hcl k3;have h7':c=7→0≤(ah xs x).2.2.1∧(ah xs x).2.2.1<(bk.length:Nat):=fun e=>⟨v0 e,(k3 e).1⟩
   have hlv:=T.live;have hw:IntKind.i64.wrap ((xs.length:Nat)-(kv.length:Nat))=((bP ys ys.length:Nat):Int):=by rw[←hlv,qO _ (by omega)];omega
   have hck:checkN bk xs (a,b)=(c,x,y,0):=k1
   by_cases hf:600<IntKind.i64.wrap ((bP ys ys.length:Nat)+g)
   ·refine .bad 4 (by decide) (by rw[hout,if_neg (by decide),if_pos hf]) (fun us=> ?_) (fun us pk tr=> ?_)
    ·exact OW xs us bk kv (a,b) ha0 hb0 hb.ok hb.small hx7 hck hx0 hy0 h7' (by rw[hw,k2];exact hf)
    ·exact Uk bk ys us pk tr a b ha1 hb1 hb.small hly hv hgy hf
   ·have pA:ak ys (y,0):=by
     have:=T.st.ag.port kf.py kf.ly;exact this.1
    have wx:=T.wf x hx0.1 hx0.2 kf.lx;have lx:=wL wx;have lx2:0≤(ah xs x).2.1∧(ah xs x).2.1≤8:=by omega
    have hpos:0<xs.length:=T.rl;have hbkv:∀v:Int,0≤v→bO bk v=bO bk (v.toNat:Nat):=fun v h=>by rw[show((v.toNat:Nat):Int)=v by omega]
    have exq:ah ys (aC ys a b).1=ah xs x:=by rw[ef];exact ex
    have hnc:EH ys a b=c:=by unfold EH;rw[ef];show bK (ah ys x) (ah ys y)=c;rw[ex,ey];exact hc
    have hny:sF bk ys a b=fO bk ys c x y:=by unfold sF;rw[hnc,ef]
    have nx:Wy bk ys a b:=by
     refine⟨?_,?_,?_⟩
     ·rw[hnc,ef];exact sy
     ·rw[hnc];exact hc7
     ·rw[hnc,ef];show c=7→0≤(ah ys x).2.2.1∧(ah ys x).2.2.1<(bk.length:Nat);rw[ex];exact h7'
    have wy:=T.wf y hy0.1 hy0.2 kf.ly
    have gl:=Q8 (bk:=bk) (xs:=xs) (c:=c) (x:=x) (y:=y) hc7 (fu wy) (fu wx) (fun e=>by
     rcases(iC hr (by omega)).2.2.2.2.2.1 e with h|h
     ·exact .inl h.1
     ·exact .inr h.1) (fun e=>⟨(hb.exp (v0 e) (k3 e).1 xs (ah xs x).2.1 ((xs.length:Int)-1) rfl hpos).two,hb.tl _ (v0 e) (k3 e).1⟩)
    have hgx:bn false kv x=false:=by
     cases hq:bn false kv x with
     |false=>rfl
     |true=>exact absurd hq kf.lx
    have hgy2:bn false kv y=false:=by
     cases hq:bn false kv y with
     |false=>rfl
     |true=>exact absurd hq kf.ly
    have rl:=Vf T.kt (c:=c) hgx hgy2 kf.ne;have nl:=Kc (c:=c) hb (fu wy).2 (fu wx).2 h7'
    have g2:(fP c x y).length≤2:=by
     unfold fP;cases c==7<;>simp
    have hll:=tV ys ys.length;have hwr:IntKind.i64.wrap ((bP ys ys.length:Nat)+g)=(bP ys ys.length:Nat)+g:=qO _ (by rw[k2]at gl;omega);refine .ok (gH bk xs c x y) (kW kv (fP c x y)) (by rw[hout,if_neg (by decide),if_neg hf]) nx (fun us=> ?_) (fun us pk tr=> ?_) (by rw[hny];exact tw) (by omega) ?_ (fun w=>FR w hx0 hy0 id id hr hc7 hb.toBkW (fun e e9=>uL hcl e9 (by have q:=(iC hr (by omega)).2.2.2.2.2.1 e;omega)) k3) (by rw[hwr]at hf;rw[k2]at gl;omega)
    ·refine UA xs us bk kv (a,b) ha0 hb0 hb.ok hb.small hx7 hck hc7 sx.toIntPre T.al T.p0 (by omega) h7' (by rw[hw,k2];exact hf) fun e us=> ?_
     have F:=hb.exp (v0 e) (k3 e).1 xs (ah xs x).2.1 ((xs.length:Int)-1) rfl hpos;have hsm:bE (bO bk (ah xs x).2.2.1):=by rw[hbkv _ (v0 e)];exact hb.small _
     have hok8:∀i:Nat,0≤(ah (bO bk (ah xs x).2.2.1) i).2.1∧(ah (bO bk (ah xs x).2.2.1) i).2.1≤8:=by rw[hbkv _ (v0 e)];exact fun i=>hb.ok _ i
     have htl:=hb.tl _ (v0 e) (k3 e).1;exact expI (bO bk (ah xs x).2.2.1) xs us bk kv x y hx0 (h7' e) rfl (by omega) hsm F.two (by omega) F.r0 lx2 hok8 (k3 e).2 F.bs F.ps F.rs kf.py.app F.top
    ·rw[hny];refine YF bk ys us pk tr a b ha1 hb1 hb.small hly hv (by rw[ef]) (by rw[ex,ey];exact hc) (by rw[ex,ey];exact hge) hc7 sy T.Bw T.Yg (by rw[ex];exact h7') hf fun e us=> ?_
     rw[ex];have F:=hb.exp (v0 e) (k3 e).1 ys (ah xs x).2.1 ((ys.length:Int)-1) rfl (by omega);have hsm:bE (bO bk (ah xs x).2.2.1):=by rw[hbkv _ (v0 e)];exact hb.small _
     have hok8:∀i:Nat,0≤(ah (bO bk (ah xs x).2.2.1) i).2.1∧(ah (bO bk (ah xs x).2.2.1) i).2.1≤8:=by rw[hbkv _ (v0 e)];exact fun i=>hb.ok _ i
     have htl:=hb.tl _ (v0 e) (k3 e).1;have htop:=F.top;rw[F.pe,←F.ex,Int.add_comm]at htop;exact expB (bO bk (ah xs x).2.2.1) ys us pk tr x y (ah xs x).2.1 (by rw[ex]) (by rw[←hlen];exact hx0) (by omega) hsm (by have:=F.two;omega) (by omega) (Int.ofNat_lt.1 F.r0.2.2.2) lx2 hok8 F.bt pA htop
    ·have n1:=(fu wx).2;have n2:=(fu (T.wf y hy0.1 hy0.2 kf.ly)).2;have:=Kc (c:=c) hb n2 n1 h7';omega
  ·refine .bad e he (by rw[hout,if_pos he]) (fun us=> ?_) (fun us pk tr=> ?_)
   ·have h1:=c1 he;have:=Rj xs us bk kv (a,b) ha0 hb0 hb.ok hb.small hx7 (by rw[h1];exact he);rw[h1]at this;exact this
   ·exact WV bk ys us pk tr a b ha1 hb1 hb.small hly hv hgy he
end Go.Proofs.YtjijpkphkicoeaaGreat
namespace Go.Tr
open Go Go.RowKit
section
variable {kv:List (Int×Bool)}{xs N P:List aj}
theorem RS.Py(h:RS kv xs N P):(yc xs kv).length=(dO N).length∧(dO P).length=(dO N).length:=by
 obtain⟨Y,f,TY,rf⟩:=h.tx;obtain⟨k,z,TN⟩:=h.tn;obtain⟨k2,z2,g,TP,rg⟩:=h.tp;rw[TY.acts,TN.PD rf,TN.PD rg,qV,qV];exact⟨rfl,rfl⟩
theorem RS.pos(h:RS kv xs N P):0<P.length:=by
 obtain⟨k2,z2,g,TP,rg⟩:=h.tp;exact TP.pos
theorem RS.Sl(h:RS kv xs N P):∀i:Nat,i<P.length→bS P i=true→0<(ah P (i:Nat)).2.2.2.2.length:=by
 obtain⟨k2,z2,g,TP,rg⟩:=h.tp;exact TP.Sm
theorem RS.live(h:RS kv xs N P):bP P P.length+kv.length=xs.length∧bP N N.length=bP P P.length:=by
 obtain⟨Y,f,TY,rf⟩:=h.tx;obtain⟨k2,z2,g,TP,rg⟩:=h.tp;have:=TY.live;rw[rf.bP]at this;rw[rg.bP];exact⟨this,rfl⟩
end
end Go.Tr
namespace Go.Proofs.YtjijpkphkicoeaaGreat
open Go Go.RowKit Go.Proofs Go.Tr
def TF(xs:List aj)(p:Int×Int):Prop:=(0≤p.1∧p.1<(xs.length:Nat))∧0≤p.2∧p.2<(xs.length:Nat)
inductive Qe(bk:List (List aj))(kv:List (Int×Bool))(xs N P:List aj)(X Q:Int×Int):Prop
 |bad (code:Int) (hc:code≠0)
  (hI:∀us,aA Tryz.prog 60 [.ptr 10000 0,vP X] (tW xs us bk kv) (.int .i64 code) (tW xs us bk kv))
  (hB:∀us pk tr,aA Tryz.prog 90 [.rsl aR bk,.ptr 10000 0,.int .i64 Q.1,.int .i64 Q.2] (tB P us pk tr) (.int .i64 code) (tB P us pk tr))
 |ok (x' N' P':List aj) (kv':List (Int×Bool)) (c v:Int) (hc:1≤c∧c≤7)
  (hI:∀us,aA Tryz.prog 60 [.ptr 10000 0,vP X] (tW xs us bk kv) (.int .i64 0) (PU 10003 x' us bk kv'))
  (hB:∀us pk tr,aA Tryz.prog 90 [.rsl aR bk,.ptr 10000 0,.int .i64 Q.1,.int .i64 Q.2] (tB P us pk tr) (.int .i64 0) (PS 10003 P' [] pk tr))
  (st:RS kv' x' N' P') (l0:xs.length≤x'.length) (l1:x'.length≤xs.length+600) (lp:P'.length≤P.length+600)
  (cX:(bg (ah xs X.1) (ah xs X.2)).1=c) (cQ:bK (ah P Q.1) (ah P Q.2)=c)
  (vX:(ah xs (bif (bg (ah xs X.1) (ah xs X.2)).2 then X.2 else X.1)).2.2.1=v) (vQ:UU P Q.1 Q.2=v) (vb:c=7→0≤v∧v<(bk.length:Nat)) (lv:x'.length≤kv'.length+600)
structure Vy(xs P:List aj)(X Q:Int×Int):Prop where
 hX:TF xs X
 hQ:TF P Q
theorem KH{bk:List (List aj)}{kv:List (Int×Bool)}{xs N P:List aj}(h:RS kv xs N P)(hb:Ja bk)(hx:xs.length≤3000)(hp:P.length≤3000){p:Int×Int}(hN:p∈dO N){Y:List aj}{f g:Nat→Nat}(TY:Tr.Twin kv xs Y)(rf:Ren f N Y){kp:List (Int×Bool)}{zp:List aj}(TP:Tr.Twin kp zp P)(rg:Ren g N P):
  Vy xs P (pF f p) (pF g p)∧Qe bk kv xs N P (pF f p) (pF g p):=by
 have hlv:=h.live;obtain⟨kn,zn,TN⟩:=h.tn;have mY:pF f p∈dO Y:=by rw[TN.PD rf];exact List.mem_map_of_mem hN
 have mP:pF g p∈dO P:=by rw[TN.PD rg];exact List.mem_map_of_mem hN
 obtain⟨a,b⟩:=p;obtain⟨kpN,raN,rbN,_⟩:=TN.DJ hN;obtain⟨kpY,raY,rbY,_⟩:=TY.DJ mY;obtain⟨kpP,raP,rbP,_⟩:=TP.DJ mP;have lN:=TN.len;have lY:=TY.len;have lP:=TP.len;have leY:=rf.le;have ha:0≤a∧a<(N.length:Nat):=by rw[←lN];exact⟨kpN.px.1,kpN.px.2.1⟩
 have hb':0≤b∧b<(N.length:Nat):=by rw[←lN];exact⟨kpN.py.1,kpN.py.2.1⟩
 have oY:=rf.E9 (bk:=bk) ha hb';have oP:=rg.E9 (bk:=bk) ha hb';have iX:TF xs (pF f (a,b)):=⟨⟨kpY.px.1,kpY.px.2.1⟩,kpY.py.1,kpY.py.2.1⟩
 have iQ:TF P (pF g (a,b)):=by
  have q1:=kpP.px.2.1;have q2:=kpP.py.2.1;rw[lP]at q1 q2;exact⟨⟨kpP.px.1,q1⟩,kpP.py.1,q2⟩
 refine⟨⟨iX,iQ⟩,?_⟩;cases nR TN kpN raN rbN hb (by omega)with
 |bad code hc ho _ _=>
  cases nR TY kpY raY rbY hb (by omega)with
  |ok _ _ ho2=>exact absurd (ho.symm.trans (oY.symm.trans ho2)) hc
  |bad c2 hc2 ho2 hI _=>
   cases nR TP kpP raP rbP hb (by omega)with
   |ok _ _ ho3=>exact absurd (ho.symm.trans (oP.symm.trans ho3)) hc
   |bad c3 hc3 ho3 _ hB=>
    have e2:c2=code:=ho2.symm.trans (oY.trans ho);have e3:c3=code:=ho3.symm.trans (oP.trans ho);subst e2 e3;exact .bad _ hc hI hB
 |ok zn' kn' ho nx _ _ tw _ _ _ _=>
  cases nR TY kpY raY rbY hb (by omega)with
  |bad c2 hc2 ho2=>exact absurd (ho2.symm.trans (oY.trans ho)) hc2
  |ok x' kv' ho2 nx2 hI _ twY l0 l1 wl lv=>
   cases nR TP kpP raP rbP hb (by omega)with
   |bad c3 hc3 ho3=>exact absurd (ho3.symm.trans (oP.trans ho)) hc3
   |ok zp' kp' ho3 nx3 _ hB twP l2 l3 _ _=>
    have rY:=rf.sF ha hb' nx TN.Bw TN.Yg hb.toBkW;have rP:=rg.sF ha hb' nx TN.Bw TN.Yg hb.toBkW;have wa:Wf (ah xs (fI f a)):=TY.wf _ kpY.px.1 kpY.px.2.1 kpY.lx;have wb:Wf (ah xs (fI f b)):=TY.wf _ kpY.py.1 kpY.py.2.1 kpY.ly;have ce:=Ct (a:=fI f a) (b:=fI f b) wa wb raY rbY;have eyA:=TY.at_ kpY.px.1 kpY.px.2.1 kpY.lx;have eyB:=TY.at_ kpY.py.1 kpY.py.2.1 kpY.ly
    have cY:EH Y (fI f a) (fI f b)=bK (ah xs (fI f a)) (ah xs (fI f b)):=by
     unfold EH;rw[oW];show bK (ah Y (pF f (a,b)).1) (ah Y (pF f (a,b)).2)=_;rw[eyA,eyB];rfl
    have c1:(bg (ah xs (fI f a)) (ah xs (fI f b))).1=EH N a b:=by
     rw[←rf.EH ha hb',cY,ce.1,oW]
    have hl:=twP.len;refine .ok x' (sF bk N a b) (sF bk P (fI g a) (fI g b)) kv' (EH N a b) (UU N a b) nx.hc hI hB ⟨⟨_,f,twY,rY⟩,wl h.wx,⟨_,_,tw⟩,⟨_,_,g,twP,rP⟩⟩ l0 l1 (by show(sF bk P (fI g a) (fI g b)).length≤_;have:zp'.length=(sF bk P (fI g a) (fI g b)).length:=hl;omega) c1 ?_ ?_ (rg.UU ha hb') ?_ lv
    ·show bK (ah P (fI g a)) (ah P (fI g b))=_;rw[←rg.EH ha hb'];unfold EH;rw[oW]
    ·have k1:=(ce.2 (by rw[c1];have:=nx.hc;intro e8;rw[e8]at this;omega)).1;show(ah xs (bif (bg (ah xs (fI f a)) (ah xs (fI f b))).2 then fI f b else fI f a)).2.2.1=_;rw[k1]
     have ef:aC xs (fI f a) (fI f b)=aC Y (fI f a) (fI f b):=by
      unfold aC;rw[show ah Y (fI f a)=ah xs (fI f a) from eyA,show ah Y (fI f b)=ah xs (fI f b) from eyB]
     have kf:=kpY.first TY.st;have e1:ah Y (aC xs (fI f a) (fI f b)).1=ah xs (aC xs (fI f a) (fI f b)).1:=TY.at_ kf.px.1 kf.px.2.1 kf.lx;rw[←e1,ef];exact rf.UU ha hb'
    ·intro e;have:=nx.h7 e;exact this
theorem Vi{bk:List (List aj)}{kv:List (Int×Bool)}{xs N P:List aj}(h:RS kv xs N P)(hb:Ja bk)(hx:xs.length≤3000)(hp:P.length≤3000){k:Int}(h0:0≤k)(h1:k<((dO P).length:Nat)):
  Vy xs P (elt (dflt aM) (yc xs kv) k) (elt (dflt aM) (dO P) k)∧Qe bk kv xs N P (elt (dflt aM) (yc xs kv) k) (elt (dflt aM) (dO P) k):=by
 have hpl:=h.Py;obtain⟨Y,f,TY,rf⟩:=h.tx;obtain⟨kn,zn,TN⟩:=h.tn;obtain⟨kp,zp,g,TP,rg⟩:=h.tp;have qY:=Ren.Nc (TN.PD rf) h0 (by omega);have qP:=Ren.Nc (TN.PD rg) h0 (by omega);rw[TY.acts,qY,qP];exact KH h hb hx hp (Mg (ys:=N) h0 (by omega)) TY rf TP rg
theorem Dv(ys:List aj)(us:List Value)(pk:Int)(tr:List Int)(hs:bE ys)(hl:ys.length≤900000)(hA:aW ys):aA Tryz.prog 49 [.ptr 10000 0] (tB ys us pk tr) (.tup []) (PS 10003 (dx ys) [] pk tr):=by
 refine aA.intro (nt:=89) aH mixed (by kernel_rfl) Tryz.func49 rfl rfl rfl rfl rfl rfl ?_;refine lp Nat (fun i=>[(4,.int .i64 (i:Nat)),(3,.int .i64 (fM ys i:Nat)),(2,.sl 20000)]) (fun i=>[.bV 10000 66 [.sl 10001,.sl 10002,.int .i64 pk],.row 10001 131 5 aD ys us,.row 10002 2 1 (.int .i64) tr [],.row 20000 2 1 (.int .i64) (Av ys i) []]) (fun i=>ys.length-i) (fun i=>i≤ys.length) 0 (Nat.zero_le _) ?_ ?_
 ·exact hd [(20000,9)] rfl (aI (aI rfl rfl) (aI (aI rfl rfl) (aI rfl trivial))) ⟨trivial,⟨rfl,rfl,⟨rfl,rfl⟩,trivial⟩,⟨rfl,pR _⟩,⟨rfl,nP⟩,⟨rfl,nP⟩,trivial⟩
 intro i hi;refine aI (fun q1=> ?_) (fun q1=> ?_)
 ·have hlt:i<ys.length:=by
   have q2:decide (((i:Nat):Int)<(ys.length:Nat))=true:=q1;simp only[qQ]at q2;omega
  have hbd:0≤((i:Nat):Int)∧((i:Nat):Int)<(ys.length:Nat):=by omega
  have hc:=MX ys i;have hst:fM ys (i+1)=bif bS ys i then fM ys i+1 else fM ys i:=rfl
  refine aI (show(Av ys i).length+1≤1073741824 by rw[Ke];omega) ?_;refine aI hbd ?_;refine aI (fun q2=> ?_) (fun q2=> ?_)
  ·have q3:bS ys i=true:=q2;rw[q3]at hst;refine aP (i+1) hlt ?_ ?_
   ·refine hd [(20000,22)] rfl (aI (aI (dB (by omega)) rfl) (aI (aI ?_ rfl) (aI rfl trivial))) ⟨trivial,⟨rfl,rfl,⟨rfl,rfl⟩,trivial⟩,⟨rfl,pR _⟩,⟨rfl,nP⟩,⟨(F4 ys i).symm,nP⟩,trivial⟩;show IntKind.i64.wrap (((fM ys i:Nat):Int)+1)=((fM ys (i+1):Nat):Int);rw[hst];exact dB (by omega)
   ·show ys.length-(i+1)<ys.length-i;omega
  ·have q3:bS ys i=false:=q2;rw[q3]at hst;refine aP (i+1) hlt ?_ ?_
   ·refine hd [(20000,22)] rfl (aI (aI (dB (by omega)) rfl) (aI (aI ?_ rfl) (aI rfl trivial))) ⟨trivial,⟨rfl,rfl,⟨rfl,rfl⟩,trivial⟩,⟨rfl,pR _⟩,⟨rfl,nP⟩,⟨(F4 ys i).symm,nP⟩,trivial⟩;show((fM ys i:Nat):Int)=((fM ys (i+1):Nat):Int);rw[hst];rfl
   ·show ys.length-(i+1)<ys.length-i;omega
 have hie:i=ys.length:=by
  have q2:decide (((i:Nat):Int)<(ys.length:Nat))=false:=q1;simp only[decide_eq_false_iff_not]at q2;have hi':i≤ys.length:=hi;omega
 subst hie;refine lp Nat (fun k=>[(6,.int .i64 (k:Nat)),(2,.sl 20000),(5,.sl 20001)]) (fun k=>[.bV 10000 66 [.sl 10001,.sl 10002,.int .i64 pk],.row 10001 131 5 aD ys us,.row 10002 2 1 (.int .i64) tr [],.row 20000 2 1 (.int .i64) (Av ys ys.length) [],.row 20001 131 5 aD (dS ys k) []]) (fun k=>ys.length-k) (fun k=>k≤ys.length) 0 (Nat.zero_le _) ?_ ?_
 ·exact hd [(20001,34)] rfl (aI (aI rfl rfl) (aI rfl (aI rfl trivial))) ⟨trivial,⟨rfl,rfl,⟨rfl,rfl⟩,trivial⟩,⟨rfl,pR _⟩,⟨rfl,nP⟩,⟨rfl,nP⟩,⟨rfl,nP⟩,trivial⟩
 intro k hk;have hk':k≤ys.length:=hk;refine aI (fun q1=> ?_) (fun q1=> ?_)
 ·have hlt:k<ys.length:=by
   have q2:decide (((k:Nat):Int)<(ys.length:Nat))=true:=q1;simp only[qQ]at q2;omega
  have hbd:0≤((k:Nat):Int)∧((k:Nat):Int)<(ys.length:Nat):=by omega
  have hpl:=Dx ys k;have hst:dS ys (k+1)=bif bS ys k then dS ys k++[rH (kr ys) (ah ys (k:Nat))]else dS ys k:=rfl
  refine aI hbd ?_;refine aI (fun q2=> ?_) (fun q2=> ?_)
  ·have q3:bS ys k=true:=q2;rw[q3]at hst;refine aI hbd ?_;have hsk:=hs.2 k;have hsk2:(ah ys (k:Nat)).2.2.2.2.length≤1048576:=hsk.2;refine Or.inr (eI _ (eI _ (aI (yE ys us ((k:Nat):Int) hsk.1 hsk.2) ?_)));refine lp Nat (fun j=>[(8,.int .i64 (j:Nat)),(2,.sl 21000),(5,.sl 21001)]) (fun j=>[.bV 7 131 [.int .i64 (ah ys (k:Nat)).1,.int .i64 (ah ys (k:Nat)).2.1,.int .i64 (ah ys (k:Nat)).2.2.1,.sl 59,.sl 21002],.bV 10000 66 [.sl 10001,.sl 10002,.int .i64 pk],.row 10001 131 5 aD ys us,.row 10002 2 1 (.int .i64) tr [],.row 21000 2 1 (.int .i64) (Av ys ys.length) [],.row 21001 131 5 aD (dS ys k) [],.row 59 2 1 (.int .i64) (ah ys (k:Nat)).2.2.2.1 [],.row 21002 102 2 aM (iV (kr ys) (ah ys (k:Nat)).2.2.2.2 j) []]) (fun j=>(ah ys (k:Nat)).2.2.2.2.length-j) (fun j=>j≤(ah ys (k:Nat)).2.2.2.2.length) 0 (Nat.zero_le _) ?_ ?_
   ·exact hd [(21000,20000),(21001,20001),(21002,1000059)] rfl (aI (aI rfl rfl) (aI rfl (aI rfl trivial))) ⟨trivial,⟨⟨rfl,rfl⟩,⟨rfl,rfl⟩,⟨rfl,rfl⟩,rfl,rfl,trivial⟩,trivial,⟨rfl,rfl,⟨rfl,rfl⟩,trivial⟩,⟨rfl,pR _⟩,⟨rfl,nP⟩,⟨rfl,nP⟩,⟨rfl,nP⟩,⟨rfl,nP⟩,⟨rfl,nP⟩,trivial⟩
   intro j hj;have hj':j≤(ah ys (k:Nat)).2.2.2.2.length:=hj;refine aI (fun q4=> ?_) (fun q4=> ?_)
   ·have hlt2:j<(ah ys (k:Nat)).2.2.2.2.length:=by
     have q5:decide (((j:Nat):Int)<((iV (kr ys) (ah ys (k:Nat)).2.2.2.2 j).length:Nat))=true:=q4;rw[xw]at q5;simp only[qQ]at q5;omega
    have hbnd:0≤((j:Nat):Int)∧((j:Nat):Int)<((iV (kr ys) (ah ys (k:Nat)).2.2.2.2 j).length:Nat):=by rw[xw];omega
    have hin:ak ys (au ys (((k:Nat):Int),((j:Nat):Int))):=hA _ ⟨hbd.1,hbd.2,by show(0:Int)≤(j:Nat);omega,by show((j:Nat):Int)<((ah ys (k:Nat)).2.2.2.2.length:Nat);omega⟩;have hpe:elt (dflt aM) (iV (kr ys) (ah ys (k:Nat)).2.2.2.2 j) ((j:Nat):Int)=au ys (((k:Nat):Int),((j:Nat):Int)):=DU hlt2;refine aI hbnd ?_;refine aI (show 0≤(elt (dflt aM) (iV (kr ys) (ah ys (k:Nat)).2.2.2.2 j) ((j:Nat):Int)).1∧(elt (dflt aM) (iV (kr ys) (ah ys (k:Nat)).2.2.2.2 j) ((j:Nat):Int)).1<((Av ys ys.length).length:Nat) by rw[hpe,Ke];exact⟨hin.1,hin.2.1⟩) ?_
    refine aI hbnd ?_;refine aI (by kernel_rfl) ?_;refine aP (j+1) hlt2 ?_ ?_
    ·refine hd [] rfl (aI (aI (dB (by omega)) rfl) (aI rfl (aI rfl trivial))) ⟨trivial,⟨⟨rfl,rfl⟩,⟨rfl,rfl⟩,⟨rfl,rfl⟩,rfl,rfl,trivial⟩,trivial,⟨rfl,rfl,⟨rfl,rfl⟩,trivial⟩,⟨rfl,pR _⟩,⟨rfl,nP⟩,⟨rfl,nP⟩,⟨rfl,nP⟩,⟨rfl,nP⟩,⟨?_,nP⟩,trivial⟩;show(iV (kr ys) (ah ys (k:Nat)).2.2.2.2 j).set j (elt 0 (Av ys ys.length) (elt (dflt aM) (iV (kr ys) (ah ys (k:Nat)).2.2.2.2 j) ((j:Nat):Int)).1,(elt (dflt aM) (iV (kr ys) (ah ys (k:Nat)).2.2.2.2 j) ((j:Nat):Int)).2)=iV (kr ys) (ah ys (k:Nat)).2.2.2.2 (j+1);rw[DV hlt2,DU hlt2]
     have e2:elt (dflt aM) (ah ys (k:Nat)).2.2.2.2 ((j:Nat):Int)=au ys (((k:Nat):Int),((j:Nat):Int)):=rfl;rw[e2,UR ys hin.1 hin.2.1]
    ·show(ah ys (k:Nat)).2.2.2.2.length-(j+1)<(ah ys (k:Nat)).2.2.2.2.length-j;omega
   have hje:j=(ah ys (k:Nat)).2.2.2.2.length:=by
    have q5:decide (((j:Nat):Int)<((iV (kr ys) (ah ys (k:Nat)).2.2.2.2 j).length:Nat))=false:=q4;rw[xw]at q5;simp only[decide_eq_false_iff_not]at q5;omega
   refine aI (show(dS ys k).length+1≤1073741824 by omega) ?_;refine aP (k+1) hlt ?_ ?_
   ·refine hd [(20000,21000),(20001,84)] rfl (aI (aI (dB (by omega)) rfl) (aI rfl (aI rfl trivial))) ⟨trivial,⟨rfl,rfl,⟨rfl,rfl⟩,trivial⟩,⟨rfl,pR _⟩,⟨rfl,nP⟩,⟨rfl,nP⟩,⟨?_,nP⟩,trivial⟩;show dS ys k++[((ah ys (k:Nat)).1,(ah ys (k:Nat)).2.1,(ah ys (k:Nat)).2.2.1,(ah ys (k:Nat)).2.2.2.1,iV (kr ys) (ah ys (k:Nat)).2.2.2.2 j)]=dS ys (k+1);rw[hst,hje,Gh];rfl
   ·show ys.length-(k+1)<ys.length-k;omega
  ·have q3:bS ys k=false:=q2;rw[q3]at hst;refine aP (k+1) hlt ?_ ?_
   ·exact hd [] rfl (aI (aI (dB (by omega)) rfl) (aI rfl (aI rfl trivial))) ⟨trivial,⟨rfl,rfl,⟨rfl,rfl⟩,trivial⟩,⟨rfl,pR _⟩,⟨rfl,nP⟩,⟨rfl,nP⟩,⟨hst.symm,nP⟩,trivial⟩
   ·show ys.length-(k+1)<ys.length-k;omega
 have hke:k=ys.length:=by
  have q2:decide (((k:Nat):Int)<(ys.length:Nat))=false:=q1;simp only[decide_eq_false_iff_not]at q2;omega
 subst hke;refine fin [(10003,20001)] (aI rfl ?_);exact⟨trivial,⟨rfl,rfl,⟨rfl,rfl⟩,trivial⟩,⟨rfl,nP⟩,⟨rfl,nP⟩,trivial⟩
theorem Ga:bH Tryz.prog 52=true:=by kernel_rfl
theorem Cj(xs:List aj)(hs:bE xs):aA Tryz.prog 48 [.rp aR xs] [] (.ptr 10000 0) [.bV 10000 66 [.sl 10001,.raw (.slice none 0 0),.int .i64 (xs.length:Nat)],.row 10001 131 5 aD xs []]:=by
 refine aA.intro (nt:=12) aH mixed (by kernel_rfl) Tryz.func48 rfl rfl rfl rfl rfl rfl ?_;refine Or.inr (eI _ (eI _ (aI (U2 xs hs) ?_)));refine aI (by kernel_rfl) ?_;refine fin [(10000,11),(10001,4)] (aI rfl ?_);exact⟨trivial,⟨rfl,rfl,⟨rfl,rfl⟩,trivial⟩,⟨rfl,nP⟩,trivial⟩
abbrev ZQ(xs:List aj)(pk:Int)(tr:List Int):List Tok:=[.bV 10000 66 [.sl 10003,.sl 10004,.int .i64 pk],.row 10003 131 5 aD xs [],.row 10004 2 1 (.int .i64) tr []]
theorem aA.perm{P:Program}{f:Nat}{args:List SV}{ts:List Tok}{r:SV}{ts' ts2:List Tok}(h:aA P f args ts r ts')(hp:ts'.Perm ts2):aA P f args ts r ts2:=by
 refine⟨h.1,fun cx β w fr vs hI hd=>(h.2 cx β w fr vs hI hd).mono ?_⟩;rintro e w' ⟨v,β',rfl,h1,h2,h3⟩;exact⟨v,β',rfl,h1,h2,h3.perm ((hp.map _).append_right fr)⟩
theorem Xj(P:List aj)(pk:Int)(tr:List Int)(hl:P.length≤1000000):aA Tryz.prog 92 [.ptr 10000 0] (tB P [] pk tr) (.int .i64 (bP P P.length:Nat)) [.bV 10000 66 [.sl 10001,.sl 10002,.int .i64 pk],.row 10002 2 1 (.int .i64) tr [],.row 10001 131 5 aD P []]:=
 aA.perm (aA.oh (ts:=tB P [] pk tr) aH [61] Ay (J5 P hl) rfl) (List.Perm.cons _ (List.Perm.swap _ _ _))
section
variable (bk:List (List aj))(P:List aj)(us:List Value)(pk:Int)(tr:List Int)(Q:Int×Int)(hQ:TF P Q)
include hQ
theorem SY{code:Int}(hc:code≠0)(hB:aA Tryz.prog 90 [.rsl aR bk,.ptr 10000 0,.int .i64 Q.1,.int .i64 Q.2] (tB P us pk tr) (.int .i64 code) (tB P us pk tr)):aA Tryz.prog 52 [.rsl aR bk,.ptr 10000 0,vP Q] (tB P us pk tr) (.int .i64 code) (tB P us pk tr):=by
 refine aA.intro (nt:=60) aH mixed Ga Tryz.func52 rfl rfl rfl rfl rfl rfl ?_;refine aI hQ.1 ?_;refine aI hQ.2 ?_;refine Or.inl (eI _ (eI _ (aI (G5 P us Q.1 Q.2) (eI [] (aI rfl ?_)))));refine aI (by kernel_rfl) ?_;refine Or.inr (eI _ (eI _ (aI hB ?_)));refine aI (by kernel_rfl) ?_;refine aI (fun q1=> ?_) (fun q1=> ?_)
 ·exact fin [] (aI ⟨rfl,rfl⟩ ⟨trivial,⟨rfl,rfl,⟨rfl,rfl⟩,trivial⟩,⟨rfl,pR _⟩,⟨rfl,nP⟩,trivial⟩)
 ·exfalso;have q2:(code !=0)=false:=q1;simp at q2;exact hc q2
theorem Vl{P':List aj}{c:Int}(hl:P'.length≤1000000)(ht:tr.length≤100000)(cQ:bK (ah P Q.1) (ah P Q.2)=c)(hB:aA Tryz.prog 90 [.rsl aR bk,.ptr 10000 0,.int .i64 Q.1,.int .i64 Q.2] (tB P us pk tr) (.int .i64 0) (PS 10003 P' [] pk tr)):aA Tryz.prog 52 [.rsl aR bk,.ptr 10000 0,vP Q] (tB P us pk tr) (.int .i64 0) (ZQ P' (yx pk (bP P' P'.length:Nat)) (tr++[c])):=by
 have hC:=G5 P us Q.1 Q.2;rw[cQ]at hC;refine aA.intro (nt:=60) aH mixed Ga Tryz.func52 rfl rfl rfl rfl rfl rfl ?_;refine aI hQ.1 ?_;refine aI hQ.2 ?_;refine Or.inl (eI _ (eI _ (aI hC (eI [] (aI rfl ?_)))));refine aI (by kernel_rfl) ?_;refine Or.inr (eI _ (eI _ (aI hB ?_)));refine aI (by kernel_rfl) ?_;refine aI (fun q1=>by cases q1) (fun q1=> ?_);refine aI (show tr.length+1≤1073741824 by omega) ?_;refine Or.inl (eI _ (eI _ (aI (Xj P' pk (tr++[c]) hl) (eI [] (aI rfl ?_)))));refine Or.inl (eI _ (aI (maxS pk _) ?_));refine aI (by kernel_rfl) ?_;refine fin [(10003,34),(10004,45)] (aI ⟨rfl,rfl⟩ ?_)
 exact⟨trivial,⟨rfl,rfl,⟨rfl,rfl⟩,trivial⟩,⟨rfl,nP⟩,⟨rfl,nP⟩,trivial⟩
end
end Go.Proofs.YtjijpkphkicoeaaGreat
namespace Go.Proofs.YtjijpkphkicoeaaGreat
open Go Go.RowKit Go.Proofs Go.Tr
abbrev tU(xs:List aj)(us:List Value)(bk:List (List aj))(kv:List (Int×Bool))(cn tr cu ex:List Int):List Tok:=[.bV 10000 80 [.ptr 10001 0,.sl 10004,.sl 10005,.sl 10006,.sl 10007],.bV 10001 87 [.sl 10002,.rsl aR bk,.mp 10003],.row 10002 131 5 aD xs us,.map 10003 .bool kv,.row 10004 2 1 (.int .i64) cn [],.row 10005 2 1 (.int .i64) tr [],.row 10006 2 1 (.int .i64) cu [],.row 10007 2 1 (.int .i64) ex []]
abbrev Zw(xs:List aj)(us:List Value)(bk:List (List aj))(kv:List (Int×Bool))(cn tr cu ex:List Int):List Tok:=[.bV 10000 80 [.ptr 10008 0,.sl 10004,.sl 10011,.sl 10012,.sl 10013],.bV 10008 87 [.sl 10009,.rsl aR bk,.mp 10010],.row 10009 131 5 aD xs us,.map 10010 .bool kv,.row 10004 2 1 (.int .i64) cn [],.row 10011 2 1 (.int .i64) tr [],.row 10012 2 1 (.int .i64) cu [],.row 10013 2 1 (.int .i64) ex []]
section
variable (xs:List aj)(us:List Value)(bk:List (List aj))(kv:List (Int×Bool))(cn tr cu ex:List Int)
theorem Bj:aA Tryz.prog 57 [.ptr 10000 0] (tU xs us bk kv cn tr cu ex) (.int .i64 (tr.length:Nat)) (tU xs us bk kv cn tr cu ex):=by
 refine aA.intro (nt:=8) aH mixed (by kernel_rfl) Tryz.func57 rfl rfl rfl rfl rfl rfl ?_;refine fin [] (aI ⟨rfl,rfl⟩ ?_);exact⟨trivial,⟨rfl,rfl,rfl,rfl,rfl,trivial⟩,trivial,⟨rfl,rfl,rfl,trivial⟩,⟨rfl,pR _⟩,rfl,⟨rfl,nP⟩,⟨rfl,nP⟩,⟨rfl,nP⟩,⟨rfl,nP⟩,trivial⟩
end
end Go.Proofs.YtjijpkphkicoeaaGreat
namespace Go.Proofs.YtjijpkphkicoeaaGreat
open Go Go.RowKit Go.Proofs Go.Tr
section
variable (xs:List aj)(us:List Value)(bk:List (List aj))(kv:List (Int×Bool))(cn tr cu ex:List Int)
def tCU:List Tok:=[.bV 10000 73 [.ptr 10001 0],.bV 10001 80 [.ptr 10002 0,.sl 10005,.sl 10006,.sl 10007,.sl 10008],.bV 10002 87 [.sl 10003,.rsl aR bk,.mp 10004],.row 10003 131 5 aD xs us,.map 10004 .bool kv,.row 10005 2 1 (.int .i64) cn [],.row 10006 2 1 (.int .i64) tr [],.row 10007 2 1 (.int .i64) cu [],.row 10008 2 1 (.int .i64) ex []]
def Zv(ps:List (Int×Int)):List Tok:=[.row 10000 71 2 aM ps [],.bV 10001 73 [.ptr 10002 0],.bV 10002 80 [.ptr 10003 0,.sl 10006,.sl 10007,.sl 10008,.sl 10009],.bV 10003 87 [.sl 10004,.rsl aR bk,.mp 10005],.row 10004 131 5 aD xs us,.map 10005 .bool kv,.row 10006 2 1 (.int .i64) cn [],.row 10007 2 1 (.int .i64) tr [],.row 10008 2 1 (.int .i64) cu [],.row 10009 2 1 (.int .i64) ex []]
def tDU(ps:List (Int×Int)):List Tok:=[.row 10010 71 2 aM ps [],.bV 10001 73 [.ptr 10002 0],.bV 10002 80 [.ptr 10003 0,.sl 10006,.sl 10007,.sl 10008,.sl 10009],.bV 10003 87 [.sl 10004,.rsl aR bk,.mp 10005],.row 10004 131 5 aD xs us,.map 10005 .bool kv,.row 10006 2 1 (.int .i64) cn [],.row 10007 2 1 (.int .i64) tr [],.row 10008 2 1 (.int .i64) cu [],.row 10009 2 1 (.int .i64) ex []]
theorem VA(p:Int×Int):aA Tryz.prog 100 [vP p,.ptr 10000 0] (tCU xs us bk kv cn tr cu ex) (.bool (bn false kv p.1)) (tCU xs us bk kv cn tr cu ex):=by
 refine aA.intro (nt:=14) aH mixed (by kernel_rfl) Tryz.func100 rfl rfl rfl rfl rfl rfl ?_;refine aI (by kernel_rfl) ?_;refine fin [] (aI rfl ?_);exact⟨trivial,⟨rfl,trivial⟩,trivial,⟨rfl,rfl,rfl,rfl,rfl,trivial⟩,trivial,⟨rfl,rfl,rfl,trivial⟩,⟨rfl,pR _⟩,rfl,⟨rfl,nP⟩,⟨rfl,nP⟩,⟨rfl,nP⟩,⟨rfl,nP⟩,trivial⟩
theorem idxU(ps:List (Int×Int))(hl:ps.length≤1000000):aA Tryz.prog 156 [.sl 10000,.fn 100 [.ptr 10001 0]] (Zv xs us bk kv cn tr cu ex ps) (.int .i64 (zu (j5 kv) ps 0)) (Zv xs us bk kv cn tr cu ex ps):=by
 refine aA.intro (nt:=19) aH mixed (by kernel_rfl) Tryz.func156 rfl rfl rfl rfl rfl rfl ?_;refine lp Nat (fun i=>[(8,.int .i64 (i:Nat))]) (fun _=>Zv xs us bk kv cn tr cu ex ps) (fun i=>ps.length-i) (fun i=>i≤ps.length∧zu (j5 kv) ps 0=zu (j5 kv) (ps.drop i) i) 0 ⟨Nat.zero_le _,rfl⟩ ?_ ?_
 ·exact hd [] rfl (aI (aI rfl rfl) trivial) ⟨⟨rfl,nP⟩,trivial,⟨rfl,trivial⟩,trivial,⟨rfl,rfl,rfl,rfl,rfl,trivial⟩,trivial,⟨rfl,rfl,rfl,trivial⟩,⟨rfl,pR _⟩,rfl,⟨rfl,nP⟩,⟨rfl,nP⟩,⟨rfl,nP⟩,⟨rfl,nP⟩,trivial⟩
 rintro i ⟨hi,he⟩;refine aI (fun q1=> ?_) (fun q1=> ?_)
 ·have hlt:i<ps.length:=ZL q1;refine aI (show 0≤((i:Nat):Int)∧((i:Nat):Int)<(ps.length:Nat) by omega) ?_;refine Or.inr (eI _ (eI _ (aI (VA xs us bk kv cn tr cu ex (ps.getD i (0,0))) ?_)));rw[Cy (0,0) hlt]at he;refine aI (fun q2=> ?_) (fun q2=> ?_)
  ·rw[he,show zu (j5 kv) (ps.getD i (0,0)::ps.drop (i+1)) i=i by unfold zu;rw[show j5 kv (ps.getD i (0,0))=true from q2];rfl];exact fin [] (aI ⟨rfl,rfl⟩ ⟨⟨rfl,nP⟩,trivial,⟨rfl,trivial⟩,trivial,⟨rfl,rfl,rfl,rfl,rfl,trivial⟩,trivial,⟨rfl,rfl,rfl,trivial⟩,⟨rfl,pR _⟩,rfl,⟨rfl,nP⟩,⟨rfl,nP⟩,⟨rfl,nP⟩,⟨rfl,nP⟩,trivial⟩)
  ·refine aP (i+1) ⟨hlt,?_⟩ ?_ ?_
   ·rw[he]
    conv=>lhs;unfold zu
    rw[show j5 kv (ps.getD i (0,0))=false from q2];rfl
   ·exact hd [] rfl (aI (aI (dB (by omega)) rfl) trivial) ⟨⟨rfl,nP⟩,trivial,⟨rfl,trivial⟩,trivial,⟨rfl,rfl,rfl,rfl,rfl,trivial⟩,trivial,⟨rfl,rfl,rfl,trivial⟩,⟨rfl,pR _⟩,rfl,⟨rfl,nP⟩,⟨rfl,nP⟩,⟨rfl,nP⟩,⟨rfl,nP⟩,trivial⟩
   ·show ps.length-(i+1)<ps.length-i;omega
 ·have hge:ps.length≤i:=ZK q1;have hie:i=ps.length:=by omega
  subst hie;rw[he,List.drop_length];exact fin [] (aI ⟨rfl,rfl⟩ ⟨⟨rfl,nP⟩,trivial,⟨rfl,trivial⟩,trivial,⟨rfl,rfl,rfl,rfl,rfl,trivial⟩,trivial,⟨rfl,rfl,rfl,trivial⟩,⟨rfl,pR _⟩,rfl,⟨rfl,nP⟩,⟨rfl,nP⟩,⟨rfl,nP⟩,⟨rfl,nP⟩,trivial⟩)
structure ZR(ps:List (Int×Int))(s:Nat×Nat×List (Int×Int)):Prop where
 le:s.1<s.2.1∧s.2.1≤ps.length
 len:s.2.2.length=ps.length
 front:s.2.2.take s.1=(ps.take s.2.1).filter fun p=> !(j5 kv p)
 rest:s.2.2.drop s.2.1=ps.drop s.2.1
theorem delU(ps:List (Int×Int))(hl:ps.length≤1000000):aA Tryz.prog 98 [.sl 10000,.fn 100 [.ptr 10001 0]] (Zv xs us bk kv cn tr cu ex ps) (.sl 10010) (tDU xs us bk kv cn tr cu ex (ps.filter fun p=> !(j5 kv p))):=by
 refine aA.intro (nt:=42) aH mixed (by kernel_rfl) Tryz.func98 rfl rfl rfl rfl rfl rfl ?_;refine Or.inr (eI _ (eI _ (aI (idxU xs us bk kv cn tr cu ex ps hl) ?_)));refine aI (fun q1=> ?_) (fun q1=> ?_)
 ·have q2:(zu (j5 kv) ps 0== -1)=true:=q1;refine fin [(10010,10000)] (aI rfl ?_);refine⟨⟨?_,nP⟩,trivial,⟨rfl,trivial⟩,trivial,⟨rfl,rfl,rfl,rfl,rfl,trivial⟩,trivial,⟨rfl,rfl,rfl,trivial⟩,⟨rfl,pR _⟩,rfl,⟨rfl,nP⟩,⟨rfl,nP⟩,⟨rfl,nP⟩,⟨rfl,nP⟩,trivial⟩;exact(filter_all (JR ps 0 (Int.le_refl 0) (by simpa using q2))).symm
 have q2:(zu (j5 kv) ps 0== -1)=false:=q1;obtain⟨m,e1,hm,e2,e3⟩:=JU (g:=j5 kv) (0,0) ps 0 (by simpa using q2);rw[Int.zero_add]at e1;rw[e1];refine lp (Nat×Nat×List (Int×Int)) (fun s=>[(5,.int .i64 (s.1:Nat)),(6,.int .i64 (s.2.1:Nat))]) (fun s=>Zv xs us bk kv cn tr cu ex s.2.2) (fun s=>ps.length-s.2.1) (ZR kv ps) (m,m+1,ps) ⟨⟨by show m<m+1;omega,by show m+1≤ps.length;omega⟩,rfl,?_,rfl⟩ ?_ ?_
 ·show ps.take m=(ps.take (m+1)).filter fun p=> !(j5 kv p)
  rw[List.take_add_one,List.filter_append,filter_all e2];have e4:j5 kv ps[m]=true:=by rw[←e3,qC,qB hm];rfl
  rw[show ps[m]?.toList=[ps[m]] by rw[qB hm];rfl,Ho e4,qS]
 ·exact hd [] rfl (aI (aI rfl rfl) (aI (aI (dB (by omega)) rfl) trivial)) ⟨⟨rfl,nP⟩,trivial,⟨rfl,trivial⟩,trivial,⟨rfl,rfl,rfl,rfl,rfl,trivial⟩,trivial,⟨rfl,rfl,rfl,trivial⟩,⟨rfl,pR _⟩,rfl,⟨rfl,nP⟩,⟨rfl,nP⟩,⟨rfl,nP⟩,⟨rfl,nP⟩,trivial⟩
 rintro⟨i,j,zs⟩ ⟨⟨h1,h2⟩,h3,h4,h5⟩;have h1':i<j:=h1;have h2':j≤ps.length:=h2;have h3':zs.length=ps.length:=h3;have h4':zs.take i=(ps.take j).filter fun p=> !(j5 kv p):=h4
 have h5':zs.drop j=ps.drop j:=h5;refine aI (fun q3=> ?_) (fun q3=> ?_)
 ·have hlt:j<zs.length:=ZL q3;have hjp:j<ps.length:=by omega
  refine aI (show 0≤((j:Nat):Int)∧((j:Nat):Int)<(zs.length:Nat) by omega) ?_;refine Or.inr (eI _ (eI _ (aI (VA xs us bk kv cn tr cu ex (zs.getD j (0,0))) ?_)))
  have hz:zs.getD j (0,0)=ps.getD j (0,0):=by
   have a:=Cy (0,0) hlt;have b:=Cy (0,0) hjp;rw[a,b]at h5';exact(List.cons.inj h5').1
  have h5n:zs.drop (j+1)=ps.drop (j+1):=by
   have a:=Cy (0,0) hlt;have b:=Cy (0,0) hjp;rw[a,b]at h5';exact(List.cons.inj h5').2
  have ht:ps.take (j+1)=ps.take j++[ps.getD j (0,0)]:=by rw[List.take_add_one,qB hjp,qC,qB hjp];rfl
  refine aI (fun q4=> ?_) (fun q4=> ?_)
  ·have q5:j5 kv (zs.getD j (0,0))=false:=Eq.mp (Bool.not_eq_true' _) q4;rw[hz]at q5;refine aI (show 0≤((i:Nat):Int)∧((i:Nat):Int)<(zs.length:Nat) by omega) ?_;refine aP (i+1,j+1,zs.set i (zs.getD j (0,0))) ⟨⟨by show i+1<j+1;omega,by show j+1≤ps.length;omega⟩,by show(zs.set i _).length=_;rw[List.length_set];exact h3',?_,?_⟩ ?_ ?_
   ·show(zs.set i (zs.getD j (0,0))).take (i+1)=(ps.take (j+1)).filter fun p=> !(j5 kv p)
    rw[ht,List.filter_append,←h4',hz,SK (by omega),QS q5]
   ·show(zs.set i (zs.getD j (0,0))).drop (j+1)=ps.drop (j+1);rw[List.drop_set_of_lt (by omega)];exact h5n
   ·exact hd [] rfl (aI (aI (dB (by omega)) rfl) (aI (aI (dB (by omega)) rfl) trivial)) ⟨⟨rfl,nP⟩,trivial,⟨rfl,trivial⟩,trivial,⟨rfl,rfl,rfl,rfl,rfl,trivial⟩,trivial,⟨rfl,rfl,rfl,trivial⟩,⟨rfl,pR _⟩,rfl,⟨rfl,nP⟩,⟨rfl,nP⟩,⟨rfl,nP⟩,⟨rfl,nP⟩,trivial⟩
   ·show ps.length-(j+1)<ps.length-j;omega
  ·have q5:j5 kv (zs.getD j (0,0))=true:=Eq.mp (Bool.not_eq_false' _) q4;rw[hz]at q5;refine aP (i,j+1,zs) ⟨⟨by show i<j+1;omega,by show j+1≤ps.length;omega⟩,h3',?_,h5n⟩ ?_ ?_
   ·show zs.take i=(ps.take (j+1)).filter fun p=> !(j5 kv p)
    rw[ht,List.filter_append,←h4',Ho q5,qS]
   ·exact hd [] rfl (aI (aI rfl rfl) (aI (aI (dB (by omega)) rfl) trivial)) ⟨⟨rfl,nP⟩,trivial,⟨rfl,trivial⟩,trivial,⟨rfl,rfl,rfl,rfl,rfl,trivial⟩,trivial,⟨rfl,rfl,rfl,trivial⟩,⟨rfl,pR _⟩,rfl,⟨rfl,nP⟩,⟨rfl,nP⟩,⟨rfl,nP⟩,⟨rfl,nP⟩,trivial⟩
   ·show ps.length-(j+1)<ps.length-j;omega
 ·have hge:zs.length≤j:=ZK q3;have hje:j=ps.length:=by omega
  subst hje;rw[List.take_length]at h4';have hli:(zs.take i).length=i:=by rw[List.length_take];omega
  refine aI (show 0≤((i:Nat):Int)∧((i:Nat):Int)<(zs.length:Nat) by omega) ?_;refine aI (show i+(zs.length-i)=zs.length by omega) ?_;refine aI ?_ ?_
  ·show 0≤((i:Nat):Int)∧((i:Nat):Int)≤(((zs.take i++List.replicate (zs.length-i) (dflt aM)).length:Nat):Int);rw[qA,List.length_replicate,hli];omega
  refine fin [(10010,41)] (aI rfl ?_);refine⟨⟨?_,nP⟩,trivial,⟨rfl,trivial⟩,trivial,⟨rfl,rfl,rfl,rfl,rfl,trivial⟩,trivial,⟨rfl,rfl,rfl,trivial⟩,⟨rfl,pR _⟩,rfl,⟨rfl,nP⟩,⟨rfl,nP⟩,⟨rfl,nP⟩,⟨rfl,nP⟩,trivial⟩;show(zs.take i++List.replicate (zs.length-i) (dflt aM)).take i=ps.filter fun p=> !(j5 kv p)
  rw[←h4',List.take_left' hli]
end
theorem ZW(xs:List aj)(us:List Value)(bk:List (List aj))(kv:List (Int×Bool))(cn tr cu ex:List Int)(hl:xs.length≤1000000)(hp:Gz xs):aA Tryz.prog 55 [.ptr 10000 0] (tU xs us bk kv cn tr cu ex) (.sl 10008) (.row 10008 71 2 aM (yc xs kv) []::tU xs us bk kv cn tr cu ex):=by
 refine aA.intro (nt:=12) aH mixed (by kernel_rfl) Tryz.func55 rfl rfl rfl rfl rfl rfl ?_;refine Or.inr (eI _ (eI _ (aI (XA xs us bk kv hl hp) ?_)));refine Or.inr (eI _ (eI _ (aI (delU xs us bk kv cn tr cu ex (kI (KD xs) xs xs.length) (Nat.le_trans (DI _ _ _) hl)) ?_)));refine fin [(10008,11)] (aI rfl ?_);exact⟨⟨rfl,nP⟩,trivial,⟨rfl,rfl,rfl,rfl,rfl,trivial⟩,trivial,⟨rfl,rfl,rfl,trivial⟩,⟨rfl,pR _⟩,rfl,⟨rfl,nP⟩,⟨rfl,nP⟩,⟨rfl,nP⟩,⟨rfl,nP⟩,trivial⟩
end Go.Proofs.YtjijpkphkicoeaaGreat
namespace Go.Tr
open Go Go.RowKit
def Fh(cn:List Int):Prop:=cn.length=7∧∀z∈cn,0≤z∧z≤1000000
def rZ(cn:List Int)(c:Int):List Int:=cn.set (c-1).toNat (elt 0 cn (c-1)+1)
theorem WS{cn:List Int}(h:Fh cn){k:Int}(h0:0≤k)(h7:k<7):0≤elt 0 cn k∧elt 0 cn k≤1000000:=by
 have h1:=h.1;unfold elt;rw[qC,qB (by omega)];exact h.2 _ (List.getElem_mem _)
theorem Qw{cn:List Int}(h:Fh cn){c:Int}(hc:1≤c∧c≤7):0≤IntKind.i64.wrap (c-1)∧IntKind.i64.wrap (c-1)<(cn.length:Nat):=by
 have:=h.1;rw[qO _ (by omega)];omega
theorem Qy{cn:List Int}(h:Fh cn){c:Int}(hc:1≤c∧c≤7):cn.set (IntKind.i64.wrap (c-1)).toNat (IntKind.i64.wrap (elt 0 cn (IntKind.i64.wrap (c-1))+1))=rZ cn c:=by
 have:=WS h (k:=c-1) (by omega) (by omega);rw[qO (c-1) (by omega),qO _ (by omega)];rfl
theorem aA.Zj{P:Program}{f:Nat}{args:List SV}{ts:List Tok}{r:SV}{t:Tok}{ts':List Tok}(h:aA P f args ts r (t::ts')):aA P f args ts r (ts'++[t]):=by
 refine⟨h.1,fun cx β w fr vs hI hd=>(h.2 cx β w fr vs hI hd).mono ?_⟩;rintro e w' ⟨v,β',rfl,h1,h2,h3⟩;refine⟨v,β',rfl,h1,h2,h3.perm ?_⟩;rw[qZ,List.map_cons,qF];exact(List.perm_middle (l₁:=ts'.map (Tok.res cx β')) (l₂:=fr) (a:=Tok.res cx β' t)).symm
end Go.Tr
namespace Go.Proofs.YtjijpkphkicoeaaGreat
open Go Go.RowKit Go.Proofs Go.Tr
theorem Iu:bH Tryz.prog 121=true:=by kernel_rfl
theorem Il(xs:List aj)(bk:List (List aj))(h:bE xs):aA Tryz.prog 58 [.rsl aR bk,.agg [.sl 10000]] [.row 10000 131 5 aD xs []] (.ptr 10001 0) [.bV 10001 87 [.sl 10002,.rsl aR bk,.mp 10003],.row 10002 131 5 aD xs [],.map 10003 .bool []]:=by
 refine aA.intro (nt:=11) aH mixed NU Tryz.func58 rfl rfl rfl rfl rfl rfl ?_;refine Or.inr (eI _ (eI _ (aI (aA.yC (r2:=.agg [.sl 10001]) (ts2:=[.row 10001 131 5 aD xs []]) aH [30] F7 (y8 xs h) rfl rfl rfl) ?_)));refine fin [(10001,10),(10002,6),(10003,8)] (aI rfl ?_);exact⟨trivial,⟨rfl,rfl,rfl,trivial⟩,⟨rfl,nP⟩,rfl,trivial⟩
section
variable (xs:List aj)(us:List Value)(bk:List (List aj))(kv:List (Int×Bool))(cn tr cu ex:List Int)(X:Int×Int)(hX:TF xs X)
include hX
theorem Ku{code:Int}(hc:code≠0)(hI:aA Tryz.prog 60 [.ptr 10000 0,vP X] (tW xs us bk kv) (.int .i64 code) (tW xs us bk kv)):aA Tryz.prog 121 [.ptr 10000 0,vP X] (tU xs us bk kv cn tr cu ex) (.int .i64 code) (tU xs us bk kv cn tr cu ex):=by
 refine aA.intro (nt:=119) aH mixed Iu Tryz.func121 rfl rfl rfl rfl rfl rfl ?_;refine Or.inr (eI _ (eI _ (aI (aA.oh aH [61,0] wZ (yZ xs X hX.1 hX.2) rfl) ?_)));refine aI (by kernel_rfl) ?_;refine aI (fun q1=> ?_) (fun q1=> ?_)
 ·refine aI hX.2 ?_;refine Or.inr (eI _ (eI _ (aI hI ?_)));refine aI (by kernel_rfl) ?_;refine aI (fun q2=> ?_) (fun q2=> ?_)
  ·exact fin [] (aI ⟨rfl,rfl⟩ ⟨trivial,⟨rfl,rfl,rfl,rfl,rfl,trivial⟩,trivial,⟨rfl,rfl,rfl,trivial⟩,⟨rfl,pR _⟩,rfl,⟨rfl,nP⟩,⟨rfl,nP⟩,⟨rfl,nP⟩,⟨rfl,nP⟩,trivial⟩)
  ·exfalso;have q3:(code !=0)=false:=q2;simp at q3;exact hc q3
 ·refine aI hX.1 ?_;refine Or.inr (eI _ (eI _ (aI hI ?_)));refine aI (by kernel_rfl) ?_;refine aI (fun q2=> ?_) (fun q2=> ?_)
  ·exact fin [] (aI ⟨rfl,rfl⟩ ⟨trivial,⟨rfl,rfl,rfl,rfl,rfl,trivial⟩,trivial,⟨rfl,rfl,rfl,trivial⟩,⟨rfl,pR _⟩,rfl,⟨rfl,nP⟩,⟨rfl,nP⟩,⟨rfl,nP⟩,⟨rfl,nP⟩,trivial⟩)
  ·exfalso;have q3:(code !=0)=false:=q2;simp at q3;exact hc q3
theorem IC{x':List aj}{kv':List (Int×Bool)}{c v:Int}(hlx:x'.length≤800000)(hbig:x'.length≤2400)(hc:1≤c∧c≤7)(cX:(bg (ah xs X.1) (ah xs X.2)).1=c)(vX:(ah xs (bif (bg (ah xs X.1) (ah xs X.2)).2 then X.2 else X.1)).2.2.1=v)(hn:Fh cn)(ht:tr.length≤100000)(hu:cu.length≤100000)(he:ex.length≤100000)
  (hI:aA Tryz.prog 60 [.ptr 10000 0,vP X] (tW xs us bk kv) (.int .i64 0) (PU 10003 x' us bk kv')):aA Tryz.prog 121 [.ptr 10000 0,vP X] (tU xs us bk kv cn tr cu ex) (.int .i64 0) (Zw x' us bk kv' (rZ cn c) (tr++[c]) (cu++[IntKind.i64.wrap ((x'.length:Nat)-(kv'.length:Nat))]) (bif c==7 then ex++[v]else ex)):=by
 have hC:=yZ xs X hX.1 hX.2;rw[cX]at hC;have hcn:=Qy hn hc;have hcb:=Qw hn hc;refine aA.intro (nt:=119) aH mixed Iu Tryz.func121 rfl rfl rfl rfl rfl rfl ?_;refine Or.inr (eI _ (eI _ (aI (aA.oh aH [61,0] wZ hC rfl) ?_)));refine aI (by kernel_rfl) ?_;refine aI (fun q1=> ?_) (fun q1=> ?_)
 ·have hv:(ah xs X.2).2.2.1=v:=by rw[←vX,show(bg (ah xs X.1) (ah xs X.2)).2=true from q1];rfl
  refine aI hX.2 ?_;refine Or.inr (eI _ (eI _ (aI hI ?_)));refine aI (by kernel_rfl) ?_;refine aI (fun q2=>by cases q2) (fun q2=> ?_);refine aI (fun q3=> ?_) (fun q3=> ?_)
  ·refine aI (show ex.length+1≤1073741824 by omega) ?_;refine aI hcb ?_;refine aI hcb ?_;refine aI (show tr.length+1≤1073741824 by omega) ?_;refine Or.inr (eI _ (eI _ (aI (sO x' us bk kv') ?_)));refine aI (show cu.length+1≤1073741824 by omega) ?_;refine aI (by kernel_rfl) ?_;refine aI (fun q4=> ?_) (fun q4=> ?_)
   ·exfalso;have q5:decide ((2400:Int)<(x'.length:Nat))=true:=q4;simp at q5;omega
   ·have hxx:(ex++[(ah xs X.2).2.2.1]:List Int)=bif c==7 then ex++[v]else ex:=by rw[show(c==7)=true from q3,hv];rfl
    refine fin [(10008,10001),(10009,43),(10010,10003),(10011,76),(10012,90),(10013,56)] (aI ⟨rfl,rfl⟩ ?_);exact⟨trivial,⟨rfl,rfl,rfl,rfl,rfl,trivial⟩,trivial,⟨rfl,rfl,rfl,trivial⟩,⟨rfl,pR _⟩,rfl,⟨hcn,nP⟩,⟨rfl,nP⟩,⟨rfl,nP⟩,⟨hxx,nP⟩,trivial⟩
  ·refine aI hcb ?_;refine aI hcb ?_;refine aI (show tr.length+1≤1073741824 by omega) ?_;refine Or.inr (eI _ (eI _ (aI (sO x' us bk kv') ?_)));refine aI (show cu.length+1≤1073741824 by omega) ?_;refine aI (by kernel_rfl) ?_;refine aI (fun q4=> ?_) (fun q4=> ?_)
   ·exfalso;have q5:decide ((2400:Int)<(x'.length:Nat))=true:=q4;simp at q5;omega
   ·have hxx:(ex:List Int)=bif c==7 then ex++[v]else ex:=by rw[show(c==7)=false from q3];rfl
    refine fin [(10008,10001),(10009,43),(10010,10003),(10011,76),(10012,90),(10013,10007)] (aI ⟨rfl,rfl⟩ ?_);exact⟨trivial,⟨rfl,rfl,rfl,rfl,rfl,trivial⟩,trivial,⟨rfl,rfl,rfl,trivial⟩,⟨rfl,pR _⟩,rfl,⟨hcn,nP⟩,⟨rfl,nP⟩,⟨rfl,nP⟩,⟨hxx,nP⟩,trivial⟩
 ·have hv:(ah xs X.1).2.2.1=v:=by rw[←vX,show(bg (ah xs X.1) (ah xs X.2)).2=false from q1];rfl
  refine aI hX.1 ?_;refine Or.inr (eI _ (eI _ (aI hI ?_)));refine aI (by kernel_rfl) ?_;refine aI (fun q2=>by cases q2) (fun q2=> ?_);refine aI (fun q3=> ?_) (fun q3=> ?_)
  ·refine aI (show ex.length+1≤1073741824 by omega) ?_;refine aI hcb ?_;refine aI hcb ?_;refine aI (show tr.length+1≤1073741824 by omega) ?_;refine Or.inr (eI _ (eI _ (aI (sO x' us bk kv') ?_)));refine aI (show cu.length+1≤1073741824 by omega) ?_;refine aI (by kernel_rfl) ?_;refine aI (fun q4=> ?_) (fun q4=> ?_)
   ·exfalso;have q5:decide ((2400:Int)<(x'.length:Nat))=true:=q4;simp at q5;omega
   ·have hxx:(ex++[(ah xs X.1).2.2.1]:List Int)=bif c==7 then ex++[v]else ex:=by rw[show(c==7)=true from q3,hv];rfl
    refine fin [(10008,10001),(10009,43),(10010,10003),(10011,76),(10012,90),(10013,56)] (aI ⟨rfl,rfl⟩ ?_);exact⟨trivial,⟨rfl,rfl,rfl,rfl,rfl,trivial⟩,trivial,⟨rfl,rfl,rfl,trivial⟩,⟨rfl,pR _⟩,rfl,⟨hcn,nP⟩,⟨rfl,nP⟩,⟨rfl,nP⟩,⟨hxx,nP⟩,trivial⟩
  ·refine aI hcb ?_;refine aI hcb ?_;refine aI (show tr.length+1≤1073741824 by omega) ?_;refine Or.inr (eI _ (eI _ (aI (sO x' us bk kv') ?_)));refine aI (show cu.length+1≤1073741824 by omega) ?_;refine aI (by kernel_rfl) ?_;refine aI (fun q4=> ?_) (fun q4=> ?_)
   ·exfalso;have q5:decide ((2400:Int)<(x'.length:Nat))=true:=q4;simp at q5;omega
   ·have hxx:(ex:List Int)=bif c==7 then ex++[v]else ex:=by rw[show(c==7)=false from q3];rfl
    refine fin [(10008,10001),(10009,43),(10010,10003),(10011,76),(10012,90),(10013,10007)] (aI ⟨rfl,rfl⟩ ?_);exact⟨trivial,⟨rfl,rfl,rfl,rfl,rfl,trivial⟩,trivial,⟨rfl,rfl,rfl,trivial⟩,⟨rfl,pR _⟩,rfl,⟨hcn,nP⟩,⟨rfl,nP⟩,⟨rfl,nP⟩,⟨hxx,nP⟩,trivial⟩
theorem IE{x':List aj}{kv':List (Int×Bool)}{c v:Int}(hlx:x'.length≤800000)(hbig:2400<x'.length)(hls:x9 x' kv')(hns:bE (BG x' kv'))(hc:1≤c∧c≤7)(cX:(bg (ah xs X.1) (ah xs X.2)).1=c)(vX:(ah xs (bif (bg (ah xs X.1) (ah xs X.2)).2 then X.2 else X.1)).2.2.1=v)(hn:Fh cn)(ht:tr.length≤100000)(hu:cu.length≤100000)(he:ex.length≤100000)
  (hI:aA Tryz.prog 60 [.ptr 10000 0,vP X] (tW xs us bk kv) (.int .i64 0) (PU 10003 x' us bk kv')):aA Tryz.prog 121 [.ptr 10000 0,vP X] (tU xs us bk kv cn tr cu ex) (.int .i64 0) (Zw (BG x' kv') [] bk [] (rZ cn c) (tr++[c]) (cu++[IntKind.i64.wrap ((x'.length:Nat)-(kv'.length:Nat))]) (bif c==7 then ex++[v]else ex)):=by
 have hC:=yZ xs X hX.1 hX.2;rw[cX]at hC;have hcn:=Qy hn hc;have hcb:=Qw hn hc;refine aA.intro (nt:=119) aH mixed Iu Tryz.func121 rfl rfl rfl rfl rfl rfl ?_;refine Or.inr (eI _ (eI _ (aI (aA.oh aH [61,0] wZ hC rfl) ?_)));refine aI (by kernel_rfl) ?_;refine aI (fun q1=> ?_) (fun q1=> ?_)
 ·have hv:(ah xs X.2).2.2.1=v:=by rw[←vX,show(bg (ah xs X.1) (ah xs X.2)).2=true from q1];rfl
  refine aI hX.2 ?_;refine Or.inr (eI _ (eI _ (aI hI ?_)));refine aI (by kernel_rfl) ?_;refine aI (fun q2=>by cases q2) (fun q2=> ?_);refine aI (fun q3=> ?_) (fun q3=> ?_)
  ·refine aI (show ex.length+1≤1073741824 by omega) ?_;refine aI hcb ?_;refine aI hcb ?_;refine aI (show tr.length+1≤1073741824 by omega) ?_;refine Or.inr (eI _ (eI _ (aI (sO x' us bk kv') ?_)));refine aI (show cu.length+1≤1073741824 by omega) ?_;refine aI (by kernel_rfl) ?_;refine aI (fun q4=> ?_) (fun q4=> ?_)
   ·have hxx:(ex++[(ah xs X.2).2.2.1]:List Int)=bif c==7 then ex++[v]else ex:=by rw[show(c==7)=true from q3,hv];rfl
    refine Or.inl (eI _ (eI _ (aI (Cb x' us bk kv' hls (by omega)).Zj (eI [_] (aI rfl ?_)))));refine Or.inr (eI _ (eI _ (aI (Il (BG x' kv') bk hns) ?_)));refine aI (by kernel_rfl) ?_;refine fin [(10008,116),(10009,1000116),(10010,2000116),(10011,76),(10012,90),(10013,56)] (aI ⟨rfl,rfl⟩ ?_);exact⟨trivial,⟨rfl,rfl,rfl,rfl,rfl,trivial⟩,trivial,⟨rfl,rfl,rfl,trivial⟩,⟨rfl,nP⟩,rfl,⟨hcn,nP⟩,⟨rfl,nP⟩,⟨rfl,nP⟩,⟨hxx,nP⟩,trivial⟩
   ·exfalso;have q5:decide ((2400:Int)<(x'.length:Nat))=false:=q4;simp at q5;omega
  ·refine aI hcb ?_;refine aI hcb ?_;refine aI (show tr.length+1≤1073741824 by omega) ?_;refine Or.inr (eI _ (eI _ (aI (sO x' us bk kv') ?_)));refine aI (show cu.length+1≤1073741824 by omega) ?_;refine aI (by kernel_rfl) ?_;refine aI (fun q4=> ?_) (fun q4=> ?_)
   ·have hxx:(ex:List Int)=bif c==7 then ex++[v]else ex:=by rw[show(c==7)=false from q3];rfl
    refine Or.inl (eI _ (eI _ (aI (Cb x' us bk kv' hls (by omega)).Zj (eI [_] (aI rfl ?_)))));refine Or.inr (eI _ (eI _ (aI (Il (BG x' kv') bk hns) ?_)));refine aI (by kernel_rfl) ?_;refine fin [(10008,116),(10009,1000116),(10010,2000116),(10011,76),(10012,90),(10013,10007)] (aI ⟨rfl,rfl⟩ ?_);exact⟨trivial,⟨rfl,rfl,rfl,rfl,rfl,trivial⟩,trivial,⟨rfl,rfl,rfl,trivial⟩,⟨rfl,nP⟩,rfl,⟨hcn,nP⟩,⟨rfl,nP⟩,⟨rfl,nP⟩,⟨hxx,nP⟩,trivial⟩
   ·exfalso;have q5:decide ((2400:Int)<(x'.length:Nat))=false:=q4;simp at q5;omega
 ·have hv:(ah xs X.1).2.2.1=v:=by rw[←vX,show(bg (ah xs X.1) (ah xs X.2)).2=false from q1];rfl
  refine aI hX.1 ?_;refine Or.inr (eI _ (eI _ (aI hI ?_)));refine aI (by kernel_rfl) ?_;refine aI (fun q2=>by cases q2) (fun q2=> ?_);refine aI (fun q3=> ?_) (fun q3=> ?_)
  ·refine aI (show ex.length+1≤1073741824 by omega) ?_;refine aI hcb ?_;refine aI hcb ?_;refine aI (show tr.length+1≤1073741824 by omega) ?_;refine Or.inr (eI _ (eI _ (aI (sO x' us bk kv') ?_)));refine aI (show cu.length+1≤1073741824 by omega) ?_;refine aI (by kernel_rfl) ?_;refine aI (fun q4=> ?_) (fun q4=> ?_)
   ·have hxx:(ex++[(ah xs X.1).2.2.1]:List Int)=bif c==7 then ex++[v]else ex:=by rw[show(c==7)=true from q3,hv];rfl
    refine Or.inl (eI _ (eI _ (aI (Cb x' us bk kv' hls (by omega)).Zj (eI [_] (aI rfl ?_)))));refine Or.inr (eI _ (eI _ (aI (Il (BG x' kv') bk hns) ?_)));refine aI (by kernel_rfl) ?_;refine fin [(10008,116),(10009,1000116),(10010,2000116),(10011,76),(10012,90),(10013,56)] (aI ⟨rfl,rfl⟩ ?_);exact⟨trivial,⟨rfl,rfl,rfl,rfl,rfl,trivial⟩,trivial,⟨rfl,rfl,rfl,trivial⟩,⟨rfl,nP⟩,rfl,⟨hcn,nP⟩,⟨rfl,nP⟩,⟨rfl,nP⟩,⟨hxx,nP⟩,trivial⟩
   ·exfalso;have q5:decide ((2400:Int)<(x'.length:Nat))=false:=q4;simp at q5;omega
  ·refine aI hcb ?_;refine aI hcb ?_;refine aI (show tr.length+1≤1073741824 by omega) ?_;refine Or.inr (eI _ (eI _ (aI (sO x' us bk kv') ?_)));refine aI (show cu.length+1≤1073741824 by omega) ?_;refine aI (by kernel_rfl) ?_;refine aI (fun q4=> ?_) (fun q4=> ?_)
   ·have hxx:(ex:List Int)=bif c==7 then ex++[v]else ex:=by rw[show(c==7)=false from q3];rfl
    refine Or.inl (eI _ (eI _ (aI (Cb x' us bk kv' hls (by omega)).Zj (eI [_] (aI rfl ?_)))));refine Or.inr (eI _ (eI _ (aI (Il (BG x' kv') bk hns) ?_)));refine aI (by kernel_rfl) ?_;refine fin [(10008,116),(10009,1000116),(10010,2000116),(10011,76),(10012,90),(10013,10007)] (aI ⟨rfl,rfl⟩ ?_);exact⟨trivial,⟨rfl,rfl,rfl,rfl,rfl,trivial⟩,trivial,⟨rfl,rfl,rfl,trivial⟩,⟨rfl,nP⟩,rfl,⟨hcn,nP⟩,⟨rfl,nP⟩,⟨rfl,nP⟩,⟨hxx,nP⟩,trivial⟩
   ·exfalso;have q5:decide ((2400:Int)<(x'.length:Nat))=false:=q4;simp at q5;omega
end
end Go.Proofs.YtjijpkphkicoeaaGreat
namespace Go.Tr
open Go Go.RowKit
def Cu(tr:List Int):List Int:=tr.foldl rZ (List.replicate 7 0)
theorem Fw(tr:List Int)(c:Int):Cu (tr++[c])=rZ (Cu tr) c:=by unfold Cu;rw[List.foldl_append];rfl
theorem Qv{cn:List Int}{k:Nat}(h:cn.length=7∧∀z∈cn,0≤z∧z≤(k:Int))(c:Int):(rZ cn c).length=7∧∀z∈rZ cn c,0≤z∧z≤((k+1:Nat):Int):=by
 unfold rZ;refine⟨by rw[List.length_set];exact h.1,fun z hz=> ?_⟩;rcases List.mem_or_eq_of_mem_set hz with e|e
 ·have:=h.2 z e;omega
 ·subst e
  have:0≤elt 0 cn (c-1)∧elt 0 cn (c-1)≤(k:Int):=by
   unfold elt;rw[qC];cases hg:cn[(c-1).toNat]? with
   |none=>exact⟨Int.le_refl 0,by show(0:Int)≤k;omega⟩
   |some z=>exact h.2 z (List.mem_of_getElem? hg)
  omega
theorem JL:∀(tr:List Int) (cn:List Int) (k:Nat),(cn.length=7∧∀z∈cn,0≤z∧z≤(k:Int))→(tr.foldl rZ cn).length=7∧∀z∈tr.foldl rZ cn,0≤z∧z≤((k+tr.length:Nat):Int)
 |[],cn,k,h=>h
 |c::tr,cn,k,h=>by
  rw[List.foldl_cons,qI];have:=JL tr _ _ (Qv h c);rw[show k+1+tr.length=k+(tr.length+1) by omega]at this;exact this
theorem Qu{tr:List Int}(h:tr.length≤100000):Fh (Cu tr):=by
 have:=JL tr (List.replicate 7 0) 0 ⟨rfl,fun z hz=>by rw[List.eq_of_mem_replicate hz];exact⟨Int.le_refl 0,Int.le_refl 0⟩⟩;exact⟨this.1,fun z hz=>by have:=this.2 z hz;omega⟩
def iF:List Int→Int
 |[]=>0
 |a::l=>l.foldl yx a
theorem Sg{l:List Int}(h:0<l.length)(n:Int):iF (l++[n])=yx (iF l) n:=by
 cases l with
 |nil=>exact absurd h (by simp)
 |cons a l=>
  show(l++[n]).foldl yx a=yx (l.foldl yx a) n;rw[List.foldl_append];rfl
theorem Dw(ys:List aj):∀n:Nat,(dS ys n).length=fM ys n
 |0=>rfl
 |n+1=>by
  show(bif bS ys n then dS ys n++[rH (kr ys) (ah ys (n:Nat))]else dS ys n).length=bif bS ys n then fM ys n+1 else fM ys n
  have ih:=Dw ys n;cases bS ys n
  ·exact ih
  ·simp only[qG,qA,qJ];omega
theorem Az(ys:List aj):(dx ys).length=bP ys ys.length:=by
 rw[rz];exact Dw ys ys.length
def dU(al:Bool)(P:List aj):List aj:=bif al then dx P else bif decide (1200<(P.length:Int))then dx P else P
structure kY where
 kv:List (Int×Bool)
 xs:List aj
 N:List aj
 P:List aj
 cn:List Int
 tr:List Int
 cu:List Int
 ex:List Int
 df:List Int
structure vI(bk:List (List aj))(s:kY):Prop where
 rs:RS s.kv s.xs s.N s.P
 lx:s.xs.length≤2400
 lp:s.P.length≤1800
 lv:s.xs.length≤s.kv.length+600
 cn:s.cn=Cu s.tr
 ct:∀z∈s.tr,1≤z∧z≤7
 cu:s.cu.length=s.tr.length+1
 ex:s.ex.length≤s.tr.length
 eb:∀z∈s.ex,0≤z∧z<(bk.length:Nat)
 tr:s.tr.length≤4000
 df:s.df.filter (fun z=>decide (0≤z))=s.ex
 dl:s.df.length=s.tr.length
section
variable {bk:List (List aj)}{s:kY}
theorem vI.ref(g:vI bk s)(al:Bool):(∃N1,RS s.kv s.xs N1 (dU al s.P))∧(dU al s.P).length≤1200:=by
 have hl:=g.rs.live;have h3:=g.lv
 have hp:(∃N1,RS s.kv s.xs N1 (dx s.P))∧(dx s.P).length≤1200:=by
  obtain⟨h1,h2⟩:=g.rs.V3;refine⟨⟨dx s.N,by rw[h2];exact h1⟩,?_⟩;rw[Az];omega
 unfold dU;cases al with
 |true=>exact hp
 |false=>
  cases hd:decide (1200<(s.P.length:Int))with
  |false=>
   refine⟨⟨s.N,g.rs⟩,?_⟩;have:¬1200<(s.P.length:Int):=by simpa using hd
   show s.P.length≤1200;omega
  |true=>exact hp
theorem vI.Py(g:vI bk s)(al:Bool):(yc s.xs s.kv).length=(dO (dU al s.P)).length:=by
 obtain⟨⟨N1,h⟩,_⟩:=g.ref al;rw[h.Py.1,h.Py.2]
theorem RS.small{kv:List (Int×Bool)}{xs N P:List aj}(h:RS kv xs N P)(hl:P.length≤100000):bE P∧aW P:=by
 obtain⟨k,z,g,T,_⟩:=h.tp;refine⟨⟨by omega,fun i=> ?_⟩,T.Bw⟩;have hlen:=T.len
 by_cases hi:i<P.length
 ·cases hv:bS P i with
  |true=>
   have w:=T.Ih hi hv;have w1:=wf_data w;have w2:=(fu w).2;exact⟨by show(ah P (i:Nat)).2.2.2.1.length≤1048576;omega,by show(ah P (i:Nat)).2.2.2.2.length≤1048576;omega⟩
  |false=>
   have e:ah P (i:Nat)=Bg:=by
    rw[T.bS (by omega)]at hv
    have hg:Gone k ((i:Nat):Int):=by
     show bn false k ((i:Nat):Int)=true;cases hq:bn false k ((i:Nat):Int)with
     |true=>rfl
     |false=>rw[hq]at hv;cases hv
    exact(T.hole _ hg).2
   rw[e];decide
 ·rw[nO (by omega)];decide
end
end Go.Tr
namespace Go.Proofs.YtjijpkphkicoeaaGreat
open Go Go.RowKit Go.Proofs Go.Tr
theorem RS.SN{kv:List (Int×Bool)}{xs N P:List aj}(h:RS kv xs N P)(hl:P.length≤100000):x9 xs kv∧Go.Proofs.YtjijpkphkicoeaaGreat.BG xs kv=dx N∧bE (dx N):=by
 obtain⟨Y,f,T,r⟩:=h.tx;obtain⟨k,z,TN⟩:=h.tn;have e:Go.Proofs.YtjijpkphkicoeaaGreat.BG xs kv=dx Y:=T.pack;refine⟨KW T,by rw[e,r.pack TN.Bw],?_⟩;have F:=TN.R7;have hl2:=F.1.len;obtain⟨_,h2⟩:=h.live;have h3:=tV P P.length;have hp:(dx N).length≤100000:=by rw[Az,h2];omega
 exact KX F.1 (by omega)
variable (al:Bool)(bk:List (List aj))(sch:List Int)(most:Int)
abbrev gX(s:kY):Int×Int:=sQ sch (yc s.xs s.kv) (s.tr.length:Nat)
abbrev gQ(s:kY):Int×Int:=sQ sch (dO (dU al s.P)) (s.tr.length:Nat)
def Vz(P:List aj)(Q:Int×Int)(s s':kY):Prop:=∃c v:Int,EH P Q.1 Q.2=c∧UU P Q.1 Q.2=v∧s'.tr=s.tr++[c]∧s'.cu=s.cu++[((bP s'.P s'.P.length:Nat):Int)]∧s'.df=s.df++[bif c==7 then v else -1]
inductive Cg:kY→Bool→Int→kY→Prop
 |done (s:kY) (g:vI bk s) (h:(dO (dU al s.P)).length=0):Cg s true 0 s
 |most (s:kY) (g:vI bk s) (h:0<(dO (dU al s.P)).length) (e:((s.tr.length:Nat):Int)=most):Cg s false 0 s
 |bad (s:kY) (g:vI bk s) (h:0<(dO (dU al s.P)).length) (e:((s.tr.length:Nat):Int)<most) (code:Int) (hc:code≠0)
  (hI:aA Tryz.prog 121 [.ptr 10000 0,vP (gX sch s)] (tU s.xs [] bk s.kv s.cn s.tr s.cu s.ex) (.int .i64 code) (tU s.xs [] bk s.kv s.cn s.tr s.cu s.ex))
  (hS:aA Tryz.prog 52 [.rsl aR bk,.ptr 10000 0,vP (gQ al sch s)] (tB (dU al s.P) [] (iF s.cu) s.tr) (.int .i64 code) (tB (dU al s.P) [] (iF s.cu) s.tr)) (hQ:TF (dU al s.P) (gQ al sch s)):Cg s false code s
 |next (s s':kY) (g:vI bk s) (h:0<(dO (dU al s.P)).length) (e:((s.tr.length:Nat):Int)<most) (l:s'.tr.length=s.tr.length+1) {b:Bool} {c:Int} {t:kY}
  (hI:aA Tryz.prog 121 [.ptr 10000 0,vP (gX sch s)] (tU s.xs [] bk s.kv s.cn s.tr s.cu s.ex) (.int .i64 0) (Zw s'.xs [] bk s'.kv s'.cn s'.tr s'.cu s'.ex))
  (hS:aA Tryz.prog 52 [.rsl aR bk,.ptr 10000 0,vP (gQ al sch s)] (tB (dU al s.P) [] (iF s.cu) s.tr) (.int .i64 0) (ZQ s'.P (iF s'.cu) s'.tr)) (r:Cg s' b c t) (hQ:TF (dU al s.P) (gQ al sch s)) (d:Vz (dU al s.P) (gQ al sch s) s s'):Cg s b c t
variable {al bk sch most}
theorem Cg.ok{s t:kY}{b:Bool}{c:Int}(h:Cg al bk sch most s b c t):vI bk s:=by
 cases h with
 |done _ g=>exact g
 |most _ g=>exact g
 |bad _ g=>exact g
 |next _ _ g=>exact g
theorem Cg.end_{s t:kY}{b:Bool}{c:Int}(h:Cg al bk sch most s b c t):vI bk t:=by
 induction h with
 |done _ g=>exact g
 |most _ g=>exact g
 |bad _ g=>exact g
 |next _ _ _ _ _ _ _ _ _ _ _ ih=>exact ih
inductive GStep(al:Bool)(bk:List (List aj))(s:kY)(X Q:Int×Int):Prop
 |bad (code:Int) (hc:code≠0)
  (hI:aA Tryz.prog 121 [.ptr 10000 0,vP X] (tU s.xs [] bk s.kv s.cn s.tr s.cu s.ex) (.int .i64 code) (tU s.xs [] bk s.kv s.cn s.tr s.cu s.ex))
  (hS:aA Tryz.prog 52 [.rsl aR bk,.ptr 10000 0,vP Q] (tB (dU al s.P) [] (iF s.cu) s.tr) (.int .i64 code) (tB (dU al s.P) [] (iF s.cu) s.tr))
 |ok (s':kY) (g':vI bk s') (l:s'.tr.length=s.tr.length+1)
  (hI:aA Tryz.prog 121 [.ptr 10000 0,vP X] (tU s.xs [] bk s.kv s.cn s.tr s.cu s.ex) (.int .i64 0) (Zw s'.xs [] bk s'.kv s'.cn s'.tr s'.cu s'.ex))
  (hS:aA Tryz.prog 52 [.rsl aR bk,.ptr 10000 0,vP Q] (tB (dU al s.P) [] (iF s.cu) s.tr) (.int .i64 0) (ZQ s'.P (iF s'.cu) s'.tr)) (d:Vz (dU al s.P) Q s s')
theorem QY{s:kY}(g:vI bk s)(he:s.tr.length<4000){N1:List aj}{X Q:Int×Int}(lp:(dU al s.P).length≤1200)(iX:TF s.xs X)(iQ:TF (dU al s.P) Q)(st:Qe bk s.kv s.xs N1 (dU al s.P) X Q):GStep al bk s X Q:=by
 have lx:=g.lx;have lt:=g.tr;have lcu:=g.cu;have lex:=g.ex;have hcn:=Qu (tr:=s.tr) (by omega);rw[←g.cn]at hcn;cases st with
 |bad code hc hI hB=>
  exact .bad code hc (Ku s.xs [] bk s.kv s.cn s.tr s.cu s.ex X iX hc (hI [])) (SY bk (dU al s.P) [] (iF s.cu) s.tr Q iQ hc (hB [] _ _))
 |ok x' N' P' kv' c v hc hI hB rs' l0 l1 l2 cX cQ vX vQ vb lv=>
  have hl:=rs'.live;have hli:=tV P' P'.length;have ew:IntKind.i64.wrap ((x'.length:Nat)-(kv'.length:Nat))=((bP P' P'.length:Nat):Int):=by rw[qO _ (by omega)];omega
  have hSB:=Vl bk (dU al s.P) [] (iF s.cu) s.tr Q iQ (by omega) (by omega) cQ (hB [] _ _);rw[←Sg (by omega)]at hSB
  have hex:(bif c==7 then s.ex++[v]else s.ex).length≤s.tr.length+1:=by
   cases c==7
   ·show s.ex.length≤_;omega
   ·show(s.ex++[v]).length≤_;rw[qA,qJ];omega
  have heb:∀z∈(bif c==7 then s.ex++[v]else s.ex),0≤z∧z<(bk.length:Nat):=fun z hz=>by
   cases h7:c==7 with
   |false=>rw[h7]at hz;exact g.eb z hz
   |true=>
    rw[h7,qG,qT,qX]at hz;rcases hz with hz|rfl
    ·exact g.eb z hz
    ·exact vb (by simpa using h7)
  have hct:∀z∈s.tr++[c],1≤z∧z≤7:=fun z hz=>by
   rw[qT,qX]at hz;rcases hz with hz|rfl
   ·exact g.ct z hz
   ·exact hc
  have hln:(s.tr++[c]).length=s.tr.length+1:=by rw[qA,qJ]
  have hlc:(s.cu++[((bP P' P'.length:Nat):Int)]).length=(s.tr++[c]).length+1:=by rw[qA,qJ,hln];omega
  have hdf:(s.df++[bif c==7 then v else -1]).filter (fun z=>decide (0≤z))=bif c==7 then s.ex++[v]else s.ex:=by
   rw[List.filter_append,g.df];cases h7:c==7 with
   |false=>show s.ex++[(-1:Int)].filter (fun z=>decide (0≤z))=s.ex;simp
   |true=>
    have:=vb (by simpa using h7);show s.ex++[v].filter (fun z=>decide (0≤z))=s.ex++[v];simp[this.1]
  have hdl:(s.df++[bif c==7 then v else -1]).length=(s.tr++[c]).length:=by rw[qA,qJ,hln,g.dl]
  have hC:EH (dU al s.P) Q.1 Q.2=c:=by unfold EH;rw[oW];exact cQ
  by_cases hbig:2400<x'.length
  ·obtain⟨sx,ex,sn⟩:=RS.SN rs' (by omega);have hP:=IE s.xs [] bk s.kv s.cn s.tr s.cu s.ex X iX (by omega) hbig sx (by rw[ex];exact sn) hc cX vX hcn (by omega) (by omega) (by omega) (hI []);rw[ex,ew]at hP
   have g':vI bk ⟨[],dx N',dx N',P',rZ s.cn c,s.tr++[c],s.cu++[((bP P' P'.length:Nat):Int)],bif c==7 then s.ex++[v]else s.ex,s.df++[bif c==7 then v else -1]⟩:=by
    have hpl:(dx N').length≤600:=by rw[Az,hl.2];omega
    exact⟨rs'.YX.1,by show(dx N').length≤2400;omega,by show P'.length≤1800;omega,by show(dx N').length≤([]:List (Int×Bool)).length+600;rw[qR];omega,by show rZ s.cn c=Cu (s.tr++[c]);rw[Fw,g.cn],hct,hlc,by rw[hln];exact hex,heb,by rw[hln];omega,hdf,hdl⟩
   exact .ok _ g' hln hP hSB ⟨c,v,hC,vQ,rfl,rfl,rfl⟩
  ·have hP:=IC s.xs [] bk s.kv s.cn s.tr s.cu s.ex X iX (by omega) (by omega) hc cX vX hcn (by omega) (by omega) (by omega) (hI []);rw[ew]at hP
   have g':vI bk ⟨kv',x',N',P',rZ s.cn c,s.tr++[c],s.cu++[((bP P' P'.length:Nat):Int)],bif c==7 then s.ex++[v]else s.ex,s.df++[bif c==7 then v else -1]⟩:=
    ⟨rs',by show x'.length≤2400;omega,by show P'.length≤1800;omega,lv,by show rZ s.cn c=Cu (s.tr++[c]);rw[Fw,g.cn],hct,hlc,by rw[hln];exact hex,heb,by rw[hln];omega,hdf,hdl⟩
   exact .ok _ g' hln hP hSB ⟨c,v,hC,vQ,rfl,rfl,rfl⟩
theorem Ns(hb:Ja bk)(hsch:∀z∈sch,0≤z)(hm:most≤4000):∀(n:Nat) {s:kY},vI bk s→((s.tr.length:Nat):Int)≤most→most≤((s.tr.length+n:Nat):Int)→∃b c t,Cg al bk sch most s b c t
 |n,s,g,h1,h2=>by
  by_cases hp:(dO (dU al s.P)).length=0
  ·exact⟨_,_,_,.done s g hp⟩
  have hp':0<(dO (dU al s.P)).length:=by omega
  by_cases he:((s.tr.length:Nat):Int)=most
  ·exact⟨_,_,_,.most s g hp' he⟩
  have he':((s.tr.length:Nat):Int)<most:=by omega
  obtain⟨⟨N1,rs⟩,lp⟩:=g.ref al;have hb2:=Cc hsch (n:=(((dO (dU al s.P)).length:Nat):Int)) (by omega) ((s.tr.length:Nat):Int);have eX:gX sch s=elt (dflt aM) (yc s.xs s.kv) (Mq sch (((dO (dU al s.P)).length:Nat):Int) ((s.tr.length:Nat):Int)):=by unfold gX sQ;rw[g.Py al]
  have lx:=g.lx;obtain⟨⟨iX,iQ⟩,st⟩:=Vi rs hb (by omega) (by omega) hb2.1 hb2.2;rw[←eX]at iX st;cases QY g (by omega) lp iX iQ st with
  |bad code hc hI hS=>exact⟨_,_,_,.bad s g hp' he' code hc hI hS iQ⟩
  |ok s' g' l hI hS d=>
   match n with
   |0=>omega
   |n+1=>
    obtain⟨b,cd,t,r⟩:=Ns hb hsch hm n g' (by omega) (by omega);exact⟨b,cd,t,.next s s' g hp' he' l hI hS r iQ d⟩
end Go.Proofs.YtjijpkphkicoeaaGreat
namespace Go.Proofs.YtjijpkphkicoeaaGreat
open Go Go.RowKit Go.Proofs Go.Tr
theorem R9(ys:List aj)(us:List Value)(pk:Int)(tr:List Int)(hl:ys.length≤1000000)(h0:0<ys.length)(hp:∀i:Nat,i<ys.length→bS ys i=true→0<(ah ys (i:Nat)).2.2.2.2.length):
  aA Tryz.prog 50 [.ptr 10000 0] (tB ys us pk tr) (.sl 10003) ([.row 10003 71 2 aM (dO ys) []]++tB ys us pk tr):=
 aA.yC (ts2:=[.row 10003 71 2 aM (dO ys) []]) aH [61] RZ (Xz ys hl h0 hp) rfl rfl rfl
section
variable (bk:List (List aj))(sch:List Int)(most:Int)
abbrev tU0(s:kY):List Tok:=[.bV 10000 80 [.ptr 10001 0,.sl 10004,.raw (.slice none 0 0),.sl 10005,.raw (.slice none 0 0)],.bV 10001 87 [.sl 10002,.rsl aR bk,.mp 10003],.row 10002 131 5 aD s.xs [],.map 10003 .bool s.kv,.row 10004 2 1 (.int .i64) s.cn [],.row 10005 2 1 (.int .i64) s.cu []]
abbrev tUr(t:kY):List Tok:=[.bV 10000 80 [.ptr 10006 0,.sl 10004,.sl 10009,.sl 10010,.sl 10011],.bV 10006 87 [.sl 10007,.rsl aR bk,.mp 10008],.row 10007 131 5 aD t.xs [],.map 10008 .bool t.kv,.row 10004 2 1 (.int .i64) t.cn [],.row 10009 2 1 (.int .i64) t.tr [],.row 10010 2 1 (.int .i64) t.cu [],.row 10011 2 1 (.int .i64) t.ex []]
def gUT(s:kY):List Tok:=[.bV 10000 80 [.ptr 20000 0,.sl 10004,.sl 20003,.sl 20004,.sl 20005],.bV 20000 87 [.sl 20001,.rsl aR bk,.mp 20002],.row 20001 131 5 aD s.xs [],.map 20002 .bool s.kv,.row 10004 2 1 (.int .i64) s.cn [],.row 20003 2 1 (.int .i64) s.tr [],.row 20004 2 1 (.int .i64) s.cu [],.row 20005 2 1 (.int .i64) s.ex []]
theorem XL{al:Bool}{s0 t:kY}{b:Bool}{c:Int}(hsch:∀z∈sch,0≤z)(h0:s0.tr=[])(h1:s0.ex=[])(R:Cg al bk sch most s0 b c t):aA Tryz.prog 119 [.ptr 10000 0,.rsl (.int .i64) sch,.int .i64 most] (tU0 bk s0) (.tup [.bool b,.int .i64 c]) (tUr bk t):=by
 refine aA.intro (nt:=29) aH mixed (by kernel_rfl) Tryz.func119 rfl rfl rfl rfl rfl rfl ?_;refine lp kY (fun _=>[]) (gUT bk) (fun s=>4001-s.tr.length) (fun s=>Cg al bk sch most s b c t) s0 R ?_ ?_
 ·exact Nt [⟨3010000,30000,2,1,(.int .i64)⟩,⟨5010000,30001,2,1,(.int .i64)⟩] [(20000,10001),(20001,10002),(20002,10003),(20003,30000),(20004,10005),(20005,30001)] rfl (aI trivial ⟨trivial,⟨rfl,rfl,rfl,rfl,rfl,trivial⟩,trivial,⟨rfl,rfl,rfl,trivial⟩,⟨rfl,nP⟩,rfl,⟨rfl,nP⟩,⟨h0.symm,nP⟩,⟨rfl,nP⟩,⟨h1.symm,nP⟩,trivial⟩)
 intro s hR;have g:vI bk s:=Cg.ok hR;have lt:=g.tr;have lx:=g.lx;have pl:=g.Py al;refine Or.inr (eI _ (eI _ (aI (ZW s.xs [] bk s.kv s.cn s.tr s.cu s.ex (by omega) (PX g.rs.wx)) ?_)));refine aI (fun q2=> ?_) (fun q2=> ?_)
 ·have q2':((((yc s.xs s.kv).length:Nat):Int)==0)=true:=q2;have hz:(yc s.xs s.kv).length=0:=by simpa using q2'
  cases hR with
  |done=>exact fin [(10006,20000),(10007,20001),(10008,20002),(10009,20003),(10010,20004),(10011,20005)] (aI rfl ⟨trivial,⟨rfl,rfl,rfl,rfl,rfl,trivial⟩,trivial,⟨rfl,rfl,rfl,trivial⟩,⟨rfl,nP⟩,rfl,⟨rfl,nP⟩,⟨rfl,nP⟩,⟨rfl,nP⟩,⟨rfl,nP⟩,trivial⟩)
  |most _ _ h=>omega
  |bad _ _ h=>omega
  |next _ _ _ h=>omega
 have q2':((((yc s.xs s.kv).length:Nat):Int)==0)=false:=q2;have hz0:¬(((yc s.xs s.kv).length:Nat):Int)=0:=by simpa using q2'
 have hz:0<(yc s.xs s.kv).length:=by omega
 refine Or.inr (eI _ (eI _ (aI (Bj s.xs [] bk s.kv s.cn s.tr s.cu s.ex) ?_)));refine aI (fun q3=> ?_) (fun q3=> ?_)
 ·have q4:(((s.tr.length:Nat):Int)==most)=true:=q3;have q5:((s.tr.length:Nat):Int)=most:=by simpa using q4
  cases hR with
  |done _ _ h=>omega
  |most=>exact fin [(10006,20000),(10007,20001),(10008,20002),(10009,20003),(10010,20004),(10011,20005)] (aI rfl ⟨trivial,⟨rfl,rfl,rfl,rfl,rfl,trivial⟩,trivial,⟨rfl,rfl,rfl,trivial⟩,⟨rfl,nP⟩,rfl,⟨rfl,nP⟩,⟨rfl,nP⟩,⟨rfl,nP⟩,⟨rfl,nP⟩,trivial⟩)
  |bad _ _ _ h=>omega
  |next _ _ _ _ h=>omega
 have q4:(((s.tr.length:Nat):Int)==most)=false:=q3;have q5:¬((s.tr.length:Nat):Int)=most:=by simpa using q4
 refine Or.inr (eI _ (eI _ (aI (Bj s.xs [] bk s.kv s.cn s.tr s.cu s.ex) ?_)));refine Or.inr (eI _ (eI _ (aI (selE sch (yc s.xs s.kv) ((s.tr.length:Nat):Int) hsch (by omega) hz) ?_)));cases hR with
 |done _ _ h=>omega
 |most _ _ _ h=>omega
 |bad _ _ _ _ c2 hc2 hI hS=>
  refine Or.inr (eI _ (eI _ (aI hI ?_)));refine aI (fun q6=> ?_) (fun q6=> ?_)
  ·exact fin [(10006,20000),(10007,20001),(10008,20002),(10009,20003),(10010,20004),(10011,20005)] (aI rfl ⟨trivial,⟨rfl,rfl,rfl,rfl,rfl,trivial⟩,trivial,⟨rfl,rfl,rfl,trivial⟩,⟨rfl,nP⟩,rfl,⟨rfl,nP⟩,⟨rfl,nP⟩,⟨rfl,nP⟩,⟨rfl,nP⟩,trivial⟩)
  ·exfalso;have q7:(c !=0)=false:=q6;simp at q7;exact hc2 q7
 |next _ s2 _ _ _ l hI hS r=>
  refine Or.inr (eI _ (eI _ (aI hI ?_)));refine aI (fun q6=>by cases q6) (fun q6=> ?_);refine aP s2 r ?_ ?_
  ·exact hd [(20000,25),(20001,1000025),(20002,2000025),(20003,3000025),(20004,4000025),(20005,5000025)] rfl trivial ⟨trivial,⟨rfl,rfl,rfl,rfl,rfl,trivial⟩,trivial,⟨rfl,rfl,rfl,trivial⟩,⟨rfl,nP⟩,rfl,⟨rfl,nP⟩,⟨rfl,nP⟩,⟨rfl,nP⟩,⟨rfl,nP⟩,trivial⟩
  ·show 4001-s2.tr.length<4001-s.tr.length;omega
end
end Go.Proofs.YtjijpkphkicoeaaGreat
namespace Go.Tr
open Go Go.RowKit
theorem PL{l:List Int}(h:bY l=true):∀z∈l,0≤z:=fun z hz=>by
 unfold bY at h;rw[qD]at h;obtain⟨i,hi,rfl⟩:=List.mem_iff_getElem.1 hz;have:=jX h.2 hi;have e:dZ l i=l[i]:=by unfold dZ;rw[qC,qB hi];rfl
 rw[e]at this;exact(iU this).1
end Go.Tr
namespace Go.Proofs.YtjijpkphkicoeaaGreat
open Go Go.RowKit Go.Proofs Go.Tr
section
variable (a0:List aQ){A0:Option Addr}{c0:Nat}{p0:List Nat}(a1:aQ){p1:List Nat}{u1:List Value}(a2:List Int){A2:Option Addr}{c2:Nat}{p2:List Nat}(a3:Int)(r0:List gM)(r1:Int)
end
end Go.Proofs.YtjijpkphkicoeaaGreat
namespace Go.Proofs.YtjijpkphkicoeaaGreat
open Go Go.RowKit Go.Proofs Go.Tr
theorem R3:bH Tryz.prog 54=true:=by kernel_rfl
abbrev g0(xs:List aj):kY:=⟨[],xs,xs,xs,List.replicate 7 0,[],[(xs.length:Int)],[],[]⟩
section
variable (bk:List (List aj))(xs:List aj)(sch:List Int)(st:Int)
theorem UO(h:bE xs):aA Tryz.prog 97 [.rsl aR bk,.agg [.rsl aD xs]] [] (.ptr 10000 0) (tU0 bk (g0 xs)):=by
 refine aA.intro (nt:=15) aH mixed (by kernel_rfl) Tryz.func97 rfl rfl rfl rfl rfl rfl ?_;refine Or.inr (eI _ (eI _ (aI (Xr xs bk h) ?_)));refine aI (by decide) ?_;refine aI (by kernel_rfl) ?_;refine fin [(10000,14),(10001,7),(10002,1000007),(10003,2000007),(10004,8),(10005,12)] (aI rfl ?_);exact⟨trivial,⟨rfl,rfl,rfl,rfl,rfl,trivial⟩,trivial,⟨rfl,rfl,rfl,trivial⟩,⟨rfl,nP⟩,rfl,⟨rfl,nP⟩,⟨rfl,nP⟩,trivial⟩
theorem MN(h:mg (ku bk xs) (bY sch&&dX st 0 4000)=0):ku bk xs=true∧bY sch=true∧dX st 0 4000=true:=by
 revert h;cases ku bk xs<;>cases bY sch<;>cases dX st 0 4000<;>simp[mg]
theorem VY(q:(bif (bif !bY sch then true else decide (st<0))then true else decide (4000<st))=true):(bY sch&&dX st 0 4000)=false:=by
 rw[←Ql];unfold U0;simp only[List.any_cons,List.any_nil,Bool.or_false];revert q;cases bY sch<;>cases decide (st<0)<;>cases decide (4000<st)<;>simp
theorem YW(q:(bif (bif !bY sch then true else decide (st<0))then true else decide (4000<st))=false):(bY sch&&dX st 0 4000)=true:=by
 rw[←Ql];unfold U0;simp only[List.any_cons,List.any_nil,Bool.or_false];revert q;cases bY sch<;>cases decide (st<0)<;>cases decide (4000<st)<;>simp
theorem Ve{c:Int}(h:mg (ku bk xs) (bY sch&&dX st 0 4000)=c)(hc:c≠0):aA Tryz.prog 54 [.rsl aR bk,.agg [.rsl aD xs],.rsl (.int .i64) sch,.int .i64 st] [] (.tup [.raw (.pointer none),.int .i64 c]) []:=by
 refine aA.intro (nt:=34) aH mixed R3 Tryz.func54 rfl rfl rfl rfl rfl rfl ?_;refine Or.inl (eI _ (aI (Wo bk) ?_));refine Or.inl (eI _ (aI (fun _=>YP xs) ?_));refine aI (fun q=> ?_) (fun q=> ?_)
 ·have e:c=1:=by rw[←h,Tp bk xs q];rfl
  subst e;exact fin [] (aI rfl trivial)
 have hv:=Wt bk xs q;refine Or.inl (eI _ (aI (SH sch) ?_));refine aI (fun q2=> ?_) (fun q2=> ?_)
 ·have e:c=2:=by rw[←h,hv,VY sch st q2];rfl
  subst e;exact fin [] (aI rfl trivial)
 ·exfalso;rw[hv,YW sch st q2]at h;exact hc h.symm
theorem DL(hs:bE xs)(h:mg (ku bk xs) (bY sch&&dX st 0 4000)=0):aA Tryz.prog 54 [.rsl aR bk,.agg [.rsl aD xs],.rsl (.int .i64) sch,.int .i64 st] [] (.tup [.ptr 10000 0,.int .i64 0]) (tU0 bk (g0 xs)):=by
 obtain⟨hv,hsc,hi⟩:=MN bk xs sch st h;refine aA.intro (nt:=34) aH mixed R3 Tryz.func54 rfl rfl rfl rfl rfl rfl ?_;refine Or.inl (eI _ (aI (Wo bk) ?_));refine Or.inl (eI _ (aI (fun _=>YP xs) ?_));refine aI (fun q=> ?_) (fun q=> ?_)
 ·have e:=Tp bk xs q;rw[hv]at e;cases e
 refine Or.inl (eI _ (aI (SH sch) ?_));refine aI (fun q2=> ?_) (fun q2=> ?_)
 ·have e:=VY sch st q2;rw[hsc,hi]at e;cases e
 refine Or.inr (eI _ (eI _ (aI (UO bk xs hs) ?_)));refine fin [(10000,33),(10001,1000033),(10002,2000033),(10003,3000033),(10004,4000033),(10005,5000033)] (aI rfl ?_);exact⟨trivial,⟨rfl,rfl,rfl,rfl,rfl,trivial⟩,trivial,⟨rfl,rfl,rfl,trivial⟩,⟨rfl,nP⟩,rfl,⟨rfl,nP⟩,⟨rfl,nP⟩,trivial⟩
end
theorem VI{bk:List (List aj)}{xs:List aj}(nn:Je xs):vI bk (g0 xs):=by
 have hl:=nn.l2;refine⟨RS.start nn.twin,by show xs.length≤2400;omega,by show xs.length≤1800;omega,by show xs.length≤([]:List (Int×Bool)).length+600;rw[qR];omega,rfl,(fun z hz=>by cases hz),rfl,Nat.le_refl _,(fun z hz=>by cases hz),by show([]:List Int).length≤4000;decide,rfl,rfl⟩
theorem Vj(al:Bool){bk:List (List aj)}{xs:List aj}{sch:List Int}{st:Int}(h:mg (ku bk xs) (bY sch&&dX st 0 4000)=0):bE xs∧(∀z∈sch,0≤z)∧∃b c t,Cg al bk sch st (g0 xs) b c t:=by
 obtain⟨hv,hsc,hi⟩:=MN bk xs sch st h;unfold ku at hv;rw[qD]at hv;have nb:=(Jr hv.1).1;have nn:=BS hv.2;have hl2:=nn.l2
 have hs:bE xs:=by
  refine⟨by omega,fun i=> ?_⟩
  by_cases hi:i<xs.length
  ·have w:=nn.wf (i:Nat) (by omega) (by omega);have h1:=wf_data w;have h2:=(fu w).2;exact⟨by show(ah xs (i:Nat)).2.2.2.1.length≤1048576;omega,by show(ah xs (i:Nat)).2.2.2.2.length≤1048576;omega⟩
  ·rw[nO (by omega)];decide
 have hsp:=PL hsc;have hst:=iU hi;exact⟨hs,hsp,Ns nb hsp hst.2 4000 (VI nn) (by show((([]:List Int).length:Nat):Int)≤st;rw[qR];omega) (by show st≤((([]:List Int).length+4000:Nat):Int);rw[qR];omega)⟩
end Go.Proofs.YtjijpkphkicoeaaGreat
namespace Go.Proofs.YtjijpkphkicoeaaGreat
open Go Go.RowKit Go.Proofs Go.Tr
theorem xg:bH Tryz.prog 65=true:=by kernel_rfl
section
variable (bk:List (List aj))(xs:List aj)(sch:List Int)(st:Int)
theorem Za{c:Int}(hc:c≠0)(h:mg (ku bk xs) (bY sch&&dX st 0 4000)=c):aA Tryz.prog 65 [.rsl aR bk,.agg [.rsl aD xs],.rsl (.int .i64) sch,.int .i64 st] [] (.tup [.raw (.pointer none),.int .i64 c]) ([]):=by
 refine aA.intro (nt:=39) aH mixed xg Tryz.func65 rfl rfl rfl rfl rfl rfl ?_;refine Or.inr (eI _ (eI _ (aI (Ve bk xs sch st h hc) ?_)));refine aI (fun q=> ?_) (fun q=> ?_)
 ·exact fin [] (aI rfl trivial)
 ·exfalso;have q2:(c !=0)=false:=q;simp at q2;exact hc q2
theorem Zb{c:Int}(hc:c≠0)(hs:bE xs)(hsch:∀z∈sch,0≤z)(h:mg (ku bk xs) (bY sch&&dX st 0 4000)=0){al b:Bool}{t:kY}(R:Cg al bk sch st (g0 xs) b c t):aA Tryz.prog 65 [.rsl aR bk,.agg [.rsl aD xs],.rsl (.int .i64) sch,.int .i64 st] [] (.tup [.raw (.pointer none),.int .i64 c]) ([]):=by
 refine aA.intro (nt:=39) aH mixed xg Tryz.func65 rfl rfl rfl rfl rfl rfl ?_;refine Or.inr (eI _ (eI _ (aI (DL bk xs sch st hs h) ?_)));refine aI (fun q=>by cases q) (fun _=> ?_);refine Or.inr (eI _ (eI _ (aI (XL bk sch st hsch rfl rfl R) ?_)));refine aI (fun q=> ?_) (fun q=> ?_)
 ·exact fin [] (aI rfl trivial)
 ·exfalso;have q2:(c !=0)=false:=q;simp at q2;exact hc q2
theorem Zc(hs:bE xs)(hsch:∀z∈sch,0≤z)(h:mg (ku bk xs) (bY sch&&dX st 0 4000)=0){al:Bool}{t:kY}(R:Cg al bk sch st (g0 xs) false 0 t):aA Tryz.prog 65 [.rsl aR bk,.agg [.rsl aD xs],.rsl (.int .i64) sch,.int .i64 st] [] (.tup [.raw (.pointer none),.int .i64 12]) ([]):=by
 refine aA.intro (nt:=39) aH mixed xg Tryz.func65 rfl rfl rfl rfl rfl rfl ?_;refine Or.inr (eI _ (eI _ (aI (DL bk xs sch st hs h) ?_)));refine aI (fun q=>by cases q) (fun _=> ?_);refine Or.inr (eI _ (eI _ (aI (XL bk sch st hsch rfl rfl R) ?_)));refine aI (fun q=>by cases q) (fun _=> ?_);refine aI (fun _=> ?_) (fun q=>by cases q);exact fin [] (aI rfl trivial)
theorem Zd(hs:bE xs)(hsch:∀z∈sch,0≤z)(h:mg (ku bk xs) (bY sch&&dX st 0 4000)=0){al:Bool}{t:kY}(R:Cg al bk sch st (g0 xs) true 0 t):aA Tryz.prog 65 [.rsl aR bk,.agg [.rsl aD xs],.rsl (.int .i64) sch,.int .i64 st] [] (.tup [.ptr 10000 0,.int .i64 0]) (tU t.xs [] bk t.kv t.cn t.tr t.cu t.ex):=by
 refine aA.intro (nt:=39) aH mixed xg Tryz.func65 rfl rfl rfl rfl rfl rfl ?_;refine Or.inr (eI _ (eI _ (aI (DL bk xs sch st hs h) ?_)));refine aI (fun q=>by cases q) (fun _=> ?_);refine Or.inr (eI _ (eI _ (aI (XL bk sch st hsch rfl rfl R) ?_)));refine aI (fun q=>by cases q) (fun _=> ?_);refine aI (fun q=>by cases q) (fun _=> ?_);refine fin [(10000,18),(10001,28),(10002,1000028),(10003,2000028),(10004,4000018),(10005,3000028),(10006,4000028),(10007,5000028)] (aI rfl ?_);exact⟨trivial,⟨rfl,rfl,rfl,rfl,rfl,trivial⟩,trivial,⟨rfl,rfl,rfl,trivial⟩,⟨rfl,nP⟩,rfl,⟨rfl,nP⟩,⟨rfl,nP⟩,⟨rfl,nP⟩,⟨rfl,nP⟩,trivial⟩
end
end Go.Proofs.YtjijpkphkicoeaaGreat
namespace Go.Proofs.YtjijpkphkicoeaaGreat
open Go Go.RowKit Go.Proofs Go.Tr
theorem ZbB:bH Tryz.prog 64=true:=by kernel_rfl
def ZbM(s:kY):List Tok:=[.bV 30 66 [.sl 20000,.sl 20001,.int .i64 (iF s.cu)],.row 20000 131 5 aD s.P [],.row 20001 2 1 (.int .i64) s.tr [],.row 20002 2 1 (.int .i64) s.df [],.row 20003 2 1 (.int .i64) s.cu []]
section
variable (bk:List (List aj))(xs:List aj)(sch:List Int)(st:Int)
theorem ZbJ{c:Int}(hc:c≠0)(h:mg (ku bk xs) (bY sch&&dX st 0 4000)=c):aA Tryz.prog 64 [.rsl aR bk,.rp aR xs,.rsl (.int .i64) sch,.int .i64 st] [] (.tup [.raw (.slice none 0 0),.raw (.slice none 0 0),.int .i64 c]) []:=by
 have hA:=WL bk xs sch st;rw[h]at hA;refine aA.intro (nt:=135) aH mixed ZbB Tryz.func64 rfl rfl rfl rfl rfl rfl ?_;refine Or.inl (eI _ (aI hA ?_));refine aI (fun q=> ?_) (fun q=> ?_)
 ·exact fin [] (aI rfl trivial)
 ·exfalso;have q2:(c !=0)=false:=q;simp at q2;exact hc q2
theorem ZbK{b:Bool}{c:Int}(hc:c≠0)(hs:bE xs)(hsch:∀z∈sch,0≤z)(h:mg (ku bk xs) (bY sch&&dX st 0 4000)=0){t:kY}(R:Cg true bk sch st (g0 xs) b c t):aA Tryz.prog 64 [.rsl aR bk,.rp aR xs,.rsl (.int .i64) sch,.int .i64 st] [] (.tup [.raw (.slice none 0 0),.raw (.slice none 0 0),.int .i64 c]) ([]):=by
 have hA:=WL bk xs sch st;rw[h]at hA;refine aA.intro (nt:=135) aH mixed ZbB Tryz.func64 rfl rfl rfl rfl rfl rfl ?_;refine Or.inl (eI _ (aI hA ?_));refine aI (fun q=>by cases q) (fun _=> ?_);refine Or.inr (eI _ (eI _ (aI (Cj xs hs) ?_)));refine lp kY (fun _=>[(13,.sl 20002),(14,.sl 20003)]) ZbM (fun s=>4001-s.tr.length) (fun s=>Cg true bk sch st s b c t) (g0 xs) R ?_ ?_
 ·exact Nt [⟨2000030,30000,2,1,(.int .i64)⟩] [(20000,1000030),(20001,30000),(20002,31),(20003,37)] rfl (aI (aI rfl (aI rfl trivial)) ⟨trivial,⟨rfl,rfl,⟨rfl,rfl⟩,trivial⟩,⟨rfl,nP⟩,⟨rfl,nP⟩,⟨rfl,nP⟩,⟨rfl,nP⟩,trivial⟩)
 intro s hR;have g:vI bk s:=Cg.ok hR;obtain⟨⟨N1,rs1⟩,lp1⟩:=g.ref true;have er:dU true s.P=dx s.P:=rfl;rw[er]at rs1 lp1;have lt:=g.tr;have lP:=g.lp;have lc:=g.cu;have ld:=g.dl;obtain⟨sm,al⟩:=g.rs.small (by omega);refine Or.inr (eI _ (eI _ (aI (Dv s.P [] (iF s.cu) s.tr sm (by omega) al) ?_)));refine Or.inr (eI _ (eI _ (aI (R9 (dx s.P) [] (iF s.cu) s.tr (by omega) rs1.pos rs1.Sl) ?_)));refine aI (fun q2=> ?_) (fun q2=> ?_)
 ·have q2':((((dO (dx s.P)).length:Nat):Int)==0)=true:=q2;have hz:(dO (dx s.P)).length=0:=by simpa using q2'
  cases hR with
  |done=>exact absurd rfl hc
  |most _ _ h=>rw[er]at h;omega
  |bad _ _ h=>rw[er]at h;omega
  |next _ _ _ h=>rw[er]at h;omega
 have q2':((((dO (dx s.P)).length:Nat):Int)==0)=false:=q2;have hz0:¬(((dO (dx s.P)).length:Nat):Int)=0:=by simpa using q2'
 have hz:0<(dO (dx s.P)).length:=by omega
 refine aI (fun q8=> ?_) (fun q8=> ?_)
 ·have q9:decide (st≤((s.tr.length:Nat):Int))=true:=q8;have q10:st≤((s.tr.length:Nat):Int):=by simpa using q9
  cases hR with
  |done _ _ h=>rw[er]at h;omega
  |most=>exact absurd rfl hc
  |bad _ _ _ h=>omega
  |next _ _ _ _ h=>omega
 have q9:decide (st≤((s.tr.length:Nat):Int))=false:=q8;have q10:¬st≤((s.tr.length:Nat):Int):=by simpa using q9
 have hb:=Cc hsch (n:=(((dO (dx s.P)).length:Nat):Int)) (by omega) ((s.tr.length:Nat):Int);cases hR with
 |done _ _ h=>rw[er]at h;omega
 |most _ _ _ h=>omega
 |bad _ _ _ _ c2 hc2 hI hS hQ=>
  unfold gQ at hS hQ;rw[er]at hS hQ;refine aI (fun q3=> ?_) (fun q3=> ?_)
  ·have q4:decide (0<((sch.length:Nat):Int))=true:=q3;have q11:0<((sch.length:Nat):Int):=by simpa using q4
   have e:=Wn sch (dO (dx t.P)) ((t.tr.length:Nat):Int) q4;have e0:elt 0 sch (((t.tr.length:Nat):Int).tmod ((sch.length:Nat):Int))=AP sch ((t.tr.length:Nat):Int):=by unfold AP;rw[q4];rfl
   have hb2:0≤(elt 0 sch (((t.tr.length:Nat):Int).tmod ((sch.length:Nat):Int))).tmod (((dO (dx t.P)).length:Nat):Int)∧(elt 0 sch (((t.tr.length:Nat):Int).tmod ((sch.length:Nat):Int))).tmod (((dO (dx t.P)).length:Nat):Int)<(((dO (dx t.P)).length:Nat):Int):=by rw[e0];exact hb
   refine aI (show((sch.length:Nat):Int)≠0 by omega) ?_;refine aI (Ou (by omega) q11) ?_;refine aI (show(((dO (dx t.P)).length:Nat):Int)≠0 by omega) ?_;rw[←e]at hS hQ;have hF:=wV (xs:=dx t.P) hQ.1 hQ.2;refine aI hb2 ?_;refine aI hb2 ?_;refine Or.inr (eI _ (eI _ (aI (aA.oh (ts:=tB (dx t.P) [] (iF t.cu) t.tr) aH [61,0,0] Dp (Lu (dx t.P) (elt (dflt aM) (dO (dx t.P)) ((elt 0 sch (((t.tr.length:Nat):Int).tmod ((sch.length:Nat):Int))).tmod (((dO (dx t.P)).length:Nat):Int))).1 (elt (dflt aM) (dO (dx t.P)) ((elt 0 sch (((t.tr.length:Nat):Int).tmod ((sch.length:Nat):Int))).tmod (((dO (dx t.P)).length:Nat):Int))).2 hQ.1 hQ.2) rfl) ?_)))
   refine aI (by kernel_rfl) ?_;refine aI hF.1 ?_;refine aI hF.2 ?_;refine Or.inl (eI _ (eI _ (aI (G5 (dx t.P) [] (aC (dx t.P) (elt (dflt aM) (dO (dx t.P)) ((elt 0 sch (((t.tr.length:Nat):Int).tmod ((sch.length:Nat):Int))).tmod (((dO (dx t.P)).length:Nat):Int))).1 (elt (dflt aM) (dO (dx t.P)) ((elt 0 sch (((t.tr.length:Nat):Int).tmod ((sch.length:Nat):Int))).tmod (((dO (dx t.P)).length:Nat):Int))).2).1 (aC (dx t.P) (elt (dflt aM) (dO (dx t.P)) ((elt 0 sch (((t.tr.length:Nat):Int).tmod ((sch.length:Nat):Int))).tmod (((dO (dx t.P)).length:Nat):Int))).1 (elt (dflt aM) (dO (dx t.P)) ((elt 0 sch (((t.tr.length:Nat):Int).tmod ((sch.length:Nat):Int))).tmod (((dO (dx t.P)).length:Nat):Int))).2).2) (eI [] (aI rfl ?_)))))
   refine aI (by kernel_rfl) ?_;refine aI (fun q5=> ?_) (fun q5=> ?_)
   ·refine aI hF.1 ?_;refine aI hb2 ?_;refine Or.inr (eI _ (eI _ (aI hS ?_)));refine aI (fun q6=> ?_) (fun q6=> ?_)
    ·exact fin [] (aI rfl trivial)
    ·exfalso;have q7:(c !=0)=false:=q6;simp at q7;exact hc q7
   ·refine aI hb2 ?_;refine Or.inr (eI _ (eI _ (aI hS ?_)));refine aI (fun q6=> ?_) (fun q6=> ?_)
    ·exact fin [] (aI rfl trivial)
    ·exfalso;have q7:(c !=0)=false:=q6;simp at q7;exact hc q7
  ·have q4:decide (0<((sch.length:Nat):Int))=false:=q3;have e:=Wm sch (dO (dx t.P)) ((t.tr.length:Nat):Int) q4;have hb2:(0:Int)≤0∧(0:Int)<(((dO (dx t.P)).length:Nat):Int):=by omega
   rw[←e]at hS hQ;have hF:=wV (xs:=dx t.P) hQ.1 hQ.2;refine aI hb2 ?_;refine aI hb2 ?_;refine Or.inr (eI _ (eI _ (aI (aA.oh (ts:=tB (dx t.P) [] (iF t.cu) t.tr) aH [61,0,0] Dp (Lu (dx t.P) (elt (dflt aM) (dO (dx t.P)) 0).1 (elt (dflt aM) (dO (dx t.P)) 0).2 hQ.1 hQ.2) rfl) ?_)));refine aI (by kernel_rfl) ?_;refine aI hF.1 ?_;refine aI hF.2 ?_;refine Or.inl (eI _ (eI _ (aI (G5 (dx t.P) [] (aC (dx t.P) (elt (dflt aM) (dO (dx t.P)) 0).1 (elt (dflt aM) (dO (dx t.P)) 0).2).1 (aC (dx t.P) (elt (dflt aM) (dO (dx t.P)) 0).1 (elt (dflt aM) (dO (dx t.P)) 0).2).2) (eI [] (aI rfl ?_)))))
   refine aI (by kernel_rfl) ?_;refine aI (fun q5=> ?_) (fun q5=> ?_)
   ·refine aI hF.1 ?_;refine aI hb2 ?_;refine Or.inr (eI _ (eI _ (aI hS ?_)));refine aI (fun q6=> ?_) (fun q6=> ?_)
    ·exact fin [] (aI rfl trivial)
    ·exfalso;have q7:(c !=0)=false:=q6;simp at q7;exact hc q7
   ·refine aI hb2 ?_;refine Or.inr (eI _ (eI _ (aI hS ?_)));refine aI (fun q6=> ?_) (fun q6=> ?_)
    ·exact fin [] (aI rfl trivial)
    ·exfalso;have q7:(c !=0)=false:=q6;simp at q7;exact hc q7
 |next _ s2 _ _ _ l hI hS r hQ d=>
  obtain⟨c1,v1,d1,d2,d3,d4,d5⟩:=d;have g2:vI bk s2:=Cg.ok r;have lP2:=g2.lp;unfold gQ at hS hQ d1 d2;rw[er]at hS hQ d1 d2;refine aI (fun q3=> ?_) (fun q3=> ?_)
  ·have q4:decide (0<((sch.length:Nat):Int))=true:=q3;have q11:0<((sch.length:Nat):Int):=by simpa using q4
   have e:=Wn sch (dO (dx s.P)) ((s.tr.length:Nat):Int) q4;have e0:elt 0 sch (((s.tr.length:Nat):Int).tmod ((sch.length:Nat):Int))=AP sch ((s.tr.length:Nat):Int):=by unfold AP;rw[q4];rfl
   have hb2:0≤(elt 0 sch (((s.tr.length:Nat):Int).tmod ((sch.length:Nat):Int))).tmod (((dO (dx s.P)).length:Nat):Int)∧(elt 0 sch (((s.tr.length:Nat):Int).tmod ((sch.length:Nat):Int))).tmod (((dO (dx s.P)).length:Nat):Int)<(((dO (dx s.P)).length:Nat):Int):=by rw[e0];exact hb
   refine aI (show((sch.length:Nat):Int)≠0 by omega) ?_;refine aI (Ou (by omega) q11) ?_;refine aI (show(((dO (dx s.P)).length:Nat):Int)≠0 by omega) ?_;rw[←e]at hS hQ d1 d2;have hF:=wV (xs:=dx s.P) hQ.1 hQ.2;refine aI hb2 ?_;refine aI hb2 ?_;refine Or.inr (eI _ (eI _ (aI (aA.oh (ts:=tB (dx s.P) [] (iF s.cu) s.tr) aH [61,0,0] Dp (Lu (dx s.P) (elt (dflt aM) (dO (dx s.P)) ((elt 0 sch (((s.tr.length:Nat):Int).tmod ((sch.length:Nat):Int))).tmod (((dO (dx s.P)).length:Nat):Int))).1 (elt (dflt aM) (dO (dx s.P)) ((elt 0 sch (((s.tr.length:Nat):Int).tmod ((sch.length:Nat):Int))).tmod (((dO (dx s.P)).length:Nat):Int))).2 hQ.1 hQ.2) rfl) ?_)))
   refine aI (by kernel_rfl) ?_;refine aI hF.1 ?_;refine aI hF.2 ?_;refine Or.inl (eI _ (eI _ (aI (G5 (dx s.P) [] (aC (dx s.P) (elt (dflt aM) (dO (dx s.P)) ((elt 0 sch (((s.tr.length:Nat):Int).tmod ((sch.length:Nat):Int))).tmod (((dO (dx s.P)).length:Nat):Int))).1 (elt (dflt aM) (dO (dx s.P)) ((elt 0 sch (((s.tr.length:Nat):Int).tmod ((sch.length:Nat):Int))).tmod (((dO (dx s.P)).length:Nat):Int))).2).1 (aC (dx s.P) (elt (dflt aM) (dO (dx s.P)) ((elt 0 sch (((s.tr.length:Nat):Int).tmod ((sch.length:Nat):Int))).tmod (((dO (dx s.P)).length:Nat):Int))).1 (elt (dflt aM) (dO (dx s.P)) ((elt 0 sch (((s.tr.length:Nat):Int).tmod ((sch.length:Nat):Int))).tmod (((dO (dx s.P)).length:Nat):Int))).2).2) (eI [] (aI rfl ?_)))))
   refine aI (by kernel_rfl) ?_;refine aI (fun q5=> ?_) (fun q5=> ?_)
   ·refine aI hF.1 ?_;refine aI hb2 ?_;refine Or.inr (eI _ (eI _ (aI hS ?_)));refine aI (fun q6=>by cases q6) (fun q6=> ?_);refine aI (show s.df.length+1≤1073741824 by omega) ?_;refine Or.inr (eI _ (eI _ (aI (aA.oh aH [61] Ay (J5 s2.P (by omega)) rfl) ?_)));refine aI (show s.cu.length+1≤1073741824 by omega) ?_;have hd7:(EH (dx s.P) (elt (dflt aM) (dO (dx s.P)) ((elt 0 sch (((s.tr.length:Nat):Int).tmod ((sch.length:Nat):Int))).tmod (((dO (dx s.P)).length:Nat):Int))).1 (elt (dflt aM) (dO (dx s.P)) ((elt 0 sch (((s.tr.length:Nat):Int).tmod ((sch.length:Nat):Int))).tmod (((dO (dx s.P)).length:Nat):Int))).2==7)=true:=q5
    refine aP s2 r ?_ ?_
    ·refine hd [(20000,120),(20001,1000120),(20002,127),(20003,134)] rfl (aI rfl (aI rfl trivial)) ⟨trivial,⟨rfl,rfl,⟨rfl,rfl⟩,trivial⟩,⟨rfl,nP⟩,⟨rfl,nP⟩,⟨?_,nP⟩,⟨d4.symm,nP⟩,trivial⟩;rw[d5,←d1,hd7,←d2];rfl
    ·show 4001-s2.tr.length<4001-s.tr.length;omega
   ·refine aI hb2 ?_;refine Or.inr (eI _ (eI _ (aI hS ?_)));refine aI (fun q6=>by cases q6) (fun q6=> ?_);refine aI (show s.df.length+1≤1073741824 by omega) ?_;refine Or.inr (eI _ (eI _ (aI (aA.oh aH [61] Ay (J5 s2.P (by omega)) rfl) ?_)));refine aI (show s.cu.length+1≤1073741824 by omega) ?_;have hd7:(EH (dx s.P) (elt (dflt aM) (dO (dx s.P)) ((elt 0 sch (((s.tr.length:Nat):Int).tmod ((sch.length:Nat):Int))).tmod (((dO (dx s.P)).length:Nat):Int))).1 (elt (dflt aM) (dO (dx s.P)) ((elt 0 sch (((s.tr.length:Nat):Int).tmod ((sch.length:Nat):Int))).tmod (((dO (dx s.P)).length:Nat):Int))).2==7)=false:=q5
    refine aP s2 r ?_ ?_
    ·refine hd [(20000,120),(20001,1000120),(20002,127),(20003,134)] rfl (aI rfl (aI rfl trivial)) ⟨trivial,⟨rfl,rfl,⟨rfl,rfl⟩,trivial⟩,⟨rfl,nP⟩,⟨rfl,nP⟩,⟨?_,nP⟩,⟨d4.symm,nP⟩,trivial⟩;rw[d5,←d1,hd7];rfl
    ·show 4001-s2.tr.length<4001-s.tr.length;omega
  ·have q4:decide (0<((sch.length:Nat):Int))=false:=q3;have e:=Wm sch (dO (dx s.P)) ((s.tr.length:Nat):Int) q4;have hb2:(0:Int)≤0∧(0:Int)<(((dO (dx s.P)).length:Nat):Int):=by omega
   rw[←e]at hS hQ d1 d2;have hF:=wV (xs:=dx s.P) hQ.1 hQ.2;refine aI hb2 ?_;refine aI hb2 ?_;refine Or.inr (eI _ (eI _ (aI (aA.oh (ts:=tB (dx s.P) [] (iF s.cu) s.tr) aH [61,0,0] Dp (Lu (dx s.P) (elt (dflt aM) (dO (dx s.P)) 0).1 (elt (dflt aM) (dO (dx s.P)) 0).2 hQ.1 hQ.2) rfl) ?_)));refine aI (by kernel_rfl) ?_;refine aI hF.1 ?_;refine aI hF.2 ?_;refine Or.inl (eI _ (eI _ (aI (G5 (dx s.P) [] (aC (dx s.P) (elt (dflt aM) (dO (dx s.P)) 0).1 (elt (dflt aM) (dO (dx s.P)) 0).2).1 (aC (dx s.P) (elt (dflt aM) (dO (dx s.P)) 0).1 (elt (dflt aM) (dO (dx s.P)) 0).2).2) (eI [] (aI rfl ?_)))))
   refine aI (by kernel_rfl) ?_;refine aI (fun q5=> ?_) (fun q5=> ?_)
   ·refine aI hF.1 ?_;refine aI hb2 ?_;refine Or.inr (eI _ (eI _ (aI hS ?_)));refine aI (fun q6=>by cases q6) (fun q6=> ?_);refine aI (show s.df.length+1≤1073741824 by omega) ?_;refine Or.inr (eI _ (eI _ (aI (aA.oh aH [61] Ay (J5 s2.P (by omega)) rfl) ?_)));refine aI (show s.cu.length+1≤1073741824 by omega) ?_;have hd7:(EH (dx s.P) (elt (dflt aM) (dO (dx s.P)) 0).1 (elt (dflt aM) (dO (dx s.P)) 0).2==7)=true:=q5;refine aP s2 r ?_ ?_
    ·refine hd [(20000,120),(20001,1000120),(20002,127),(20003,134)] rfl (aI rfl (aI rfl trivial)) ⟨trivial,⟨rfl,rfl,⟨rfl,rfl⟩,trivial⟩,⟨rfl,nP⟩,⟨rfl,nP⟩,⟨?_,nP⟩,⟨d4.symm,nP⟩,trivial⟩;rw[d5,←d1,hd7,←d2];rfl
    ·show 4001-s2.tr.length<4001-s.tr.length;omega
   ·refine aI hb2 ?_;refine Or.inr (eI _ (eI _ (aI hS ?_)));refine aI (fun q6=>by cases q6) (fun q6=> ?_);refine aI (show s.df.length+1≤1073741824 by omega) ?_;refine Or.inr (eI _ (eI _ (aI (aA.oh aH [61] Ay (J5 s2.P (by omega)) rfl) ?_)));refine aI (show s.cu.length+1≤1073741824 by omega) ?_;have hd7:(EH (dx s.P) (elt (dflt aM) (dO (dx s.P)) 0).1 (elt (dflt aM) (dO (dx s.P)) 0).2==7)=false:=q5;refine aP s2 r ?_ ?_
    ·refine hd [(20000,120),(20001,1000120),(20002,127),(20003,134)] rfl (aI rfl (aI rfl trivial)) ⟨trivial,⟨rfl,rfl,⟨rfl,rfl⟩,trivial⟩,⟨rfl,nP⟩,⟨rfl,nP⟩,⟨?_,nP⟩,⟨d4.symm,nP⟩,trivial⟩;rw[d5,←d1,hd7];rfl
    ·show 4001-s2.tr.length<4001-s.tr.length;omega
theorem ZbL(hs:bE xs)(hsch:∀z∈sch,0≤z)(h:mg (ku bk xs) (bY sch&&dX st 0 4000)=0){t:kY}(R:Cg true bk sch st (g0 xs) false 0 t):aA Tryz.prog 64 [.rsl aR bk,.rp aR xs,.rsl (.int .i64) sch,.int .i64 st] [] (.tup [.raw (.slice none 0 0),.raw (.slice none 0 0),.int .i64 12]) ([]):=by
 have hA:=WL bk xs sch st;rw[h]at hA;refine aA.intro (nt:=135) aH mixed ZbB Tryz.func64 rfl rfl rfl rfl rfl rfl ?_;refine Or.inl (eI _ (aI hA ?_));refine aI (fun q=>by cases q) (fun _=> ?_);refine Or.inr (eI _ (eI _ (aI (Cj xs hs) ?_)));refine lp kY (fun _=>[(13,.sl 20002),(14,.sl 20003)]) ZbM (fun s=>4001-s.tr.length) (fun s=>Cg true bk sch st s false 0 t) (g0 xs) R ?_ ?_
 ·exact Nt [⟨2000030,30000,2,1,(.int .i64)⟩] [(20000,1000030),(20001,30000),(20002,31),(20003,37)] rfl (aI (aI rfl (aI rfl trivial)) ⟨trivial,⟨rfl,rfl,⟨rfl,rfl⟩,trivial⟩,⟨rfl,nP⟩,⟨rfl,nP⟩,⟨rfl,nP⟩,⟨rfl,nP⟩,trivial⟩)
 intro s hR;have g:vI bk s:=Cg.ok hR;obtain⟨⟨N1,rs1⟩,lp1⟩:=g.ref true;have er:dU true s.P=dx s.P:=rfl;rw[er]at rs1 lp1;have lt:=g.tr;have lP:=g.lp;have lc:=g.cu;have ld:=g.dl;obtain⟨sm,al⟩:=g.rs.small (by omega);refine Or.inr (eI _ (eI _ (aI (Dv s.P [] (iF s.cu) s.tr sm (by omega) al) ?_)));refine Or.inr (eI _ (eI _ (aI (R9 (dx s.P) [] (iF s.cu) s.tr (by omega) rs1.pos rs1.Sl) ?_)));refine aI (fun q2=> ?_) (fun q2=> ?_)
 ·have q2':((((dO (dx s.P)).length:Nat):Int)==0)=true:=q2;have hz:(dO (dx s.P)).length=0:=by simpa using q2'
  cases hR with
  |most _ _ h=>rw[er]at h;omega
  |bad _ _ h _ _ hc2=>exact absurd rfl hc2
  |next _ _ _ h=>rw[er]at h;omega
 have q2':((((dO (dx s.P)).length:Nat):Int)==0)=false:=q2;have hz0:¬(((dO (dx s.P)).length:Nat):Int)=0:=by simpa using q2'
 have hz:0<(dO (dx s.P)).length:=by omega
 refine aI (fun q8=> ?_) (fun q8=> ?_)
 ·have q9:decide (st≤((s.tr.length:Nat):Int))=true:=q8;have q10:st≤((s.tr.length:Nat):Int):=by simpa using q9
  cases hR with
  |most=>exact fin [] (aI rfl trivial)
  |bad _ _ _ _ _ hc2=>exact absurd rfl hc2
  |next _ _ _ _ h=>omega
 have q9:decide (st≤((s.tr.length:Nat):Int))=false:=q8;have q10:¬st≤((s.tr.length:Nat):Int):=by simpa using q9
 have hb:=Cc hsch (n:=(((dO (dx s.P)).length:Nat):Int)) (by omega) ((s.tr.length:Nat):Int);cases hR with
 |most _ _ _ h=>omega
 |bad _ _ _ _ _ hc2=>exact absurd rfl hc2
 |next _ s2 _ _ _ l hI hS r hQ d=>
  obtain⟨c1,v1,d1,d2,d3,d4,d5⟩:=d;have g2:vI bk s2:=Cg.ok r;have lP2:=g2.lp;unfold gQ at hS hQ d1 d2;rw[er]at hS hQ d1 d2;refine aI (fun q3=> ?_) (fun q3=> ?_)
  ·have q4:decide (0<((sch.length:Nat):Int))=true:=q3;have q11:0<((sch.length:Nat):Int):=by simpa using q4
   have e:=Wn sch (dO (dx s.P)) ((s.tr.length:Nat):Int) q4;have e0:elt 0 sch (((s.tr.length:Nat):Int).tmod ((sch.length:Nat):Int))=AP sch ((s.tr.length:Nat):Int):=by unfold AP;rw[q4];rfl
   have hb2:0≤(elt 0 sch (((s.tr.length:Nat):Int).tmod ((sch.length:Nat):Int))).tmod (((dO (dx s.P)).length:Nat):Int)∧(elt 0 sch (((s.tr.length:Nat):Int).tmod ((sch.length:Nat):Int))).tmod (((dO (dx s.P)).length:Nat):Int)<(((dO (dx s.P)).length:Nat):Int):=by rw[e0];exact hb
   refine aI (show((sch.length:Nat):Int)≠0 by omega) ?_;refine aI (Ou (by omega) q11) ?_;refine aI (show(((dO (dx s.P)).length:Nat):Int)≠0 by omega) ?_;rw[←e]at hS hQ d1 d2;have hF:=wV (xs:=dx s.P) hQ.1 hQ.2;refine aI hb2 ?_;refine aI hb2 ?_;refine Or.inr (eI _ (eI _ (aI (aA.oh (ts:=tB (dx s.P) [] (iF s.cu) s.tr) aH [61,0,0] Dp (Lu (dx s.P) (elt (dflt aM) (dO (dx s.P)) ((elt 0 sch (((s.tr.length:Nat):Int).tmod ((sch.length:Nat):Int))).tmod (((dO (dx s.P)).length:Nat):Int))).1 (elt (dflt aM) (dO (dx s.P)) ((elt 0 sch (((s.tr.length:Nat):Int).tmod ((sch.length:Nat):Int))).tmod (((dO (dx s.P)).length:Nat):Int))).2 hQ.1 hQ.2) rfl) ?_)))
   refine aI (by kernel_rfl) ?_;refine aI hF.1 ?_;refine aI hF.2 ?_;refine Or.inl (eI _ (eI _ (aI (G5 (dx s.P) [] (aC (dx s.P) (elt (dflt aM) (dO (dx s.P)) ((elt 0 sch (((s.tr.length:Nat):Int).tmod ((sch.length:Nat):Int))).tmod (((dO (dx s.P)).length:Nat):Int))).1 (elt (dflt aM) (dO (dx s.P)) ((elt 0 sch (((s.tr.length:Nat):Int).tmod ((sch.length:Nat):Int))).tmod (((dO (dx s.P)).length:Nat):Int))).2).1 (aC (dx s.P) (elt (dflt aM) (dO (dx s.P)) ((elt 0 sch (((s.tr.length:Nat):Int).tmod ((sch.length:Nat):Int))).tmod (((dO (dx s.P)).length:Nat):Int))).1 (elt (dflt aM) (dO (dx s.P)) ((elt 0 sch (((s.tr.length:Nat):Int).tmod ((sch.length:Nat):Int))).tmod (((dO (dx s.P)).length:Nat):Int))).2).2) (eI [] (aI rfl ?_)))))
   refine aI (by kernel_rfl) ?_;refine aI (fun q5=> ?_) (fun q5=> ?_)
   ·refine aI hF.1 ?_;refine aI hb2 ?_;refine Or.inr (eI _ (eI _ (aI hS ?_)));refine aI (fun q6=>by cases q6) (fun q6=> ?_);refine aI (show s.df.length+1≤1073741824 by omega) ?_;refine Or.inr (eI _ (eI _ (aI (aA.oh aH [61] Ay (J5 s2.P (by omega)) rfl) ?_)));refine aI (show s.cu.length+1≤1073741824 by omega) ?_;have hd7:(EH (dx s.P) (elt (dflt aM) (dO (dx s.P)) ((elt 0 sch (((s.tr.length:Nat):Int).tmod ((sch.length:Nat):Int))).tmod (((dO (dx s.P)).length:Nat):Int))).1 (elt (dflt aM) (dO (dx s.P)) ((elt 0 sch (((s.tr.length:Nat):Int).tmod ((sch.length:Nat):Int))).tmod (((dO (dx s.P)).length:Nat):Int))).2==7)=true:=q5
    refine aP s2 r ?_ ?_
    ·refine hd [(20000,120),(20001,1000120),(20002,127),(20003,134)] rfl (aI rfl (aI rfl trivial)) ⟨trivial,⟨rfl,rfl,⟨rfl,rfl⟩,trivial⟩,⟨rfl,nP⟩,⟨rfl,nP⟩,⟨?_,nP⟩,⟨d4.symm,nP⟩,trivial⟩;rw[d5,←d1,hd7,←d2];rfl
    ·show 4001-s2.tr.length<4001-s.tr.length;omega
   ·refine aI hb2 ?_;refine Or.inr (eI _ (eI _ (aI hS ?_)));refine aI (fun q6=>by cases q6) (fun q6=> ?_);refine aI (show s.df.length+1≤1073741824 by omega) ?_;refine Or.inr (eI _ (eI _ (aI (aA.oh aH [61] Ay (J5 s2.P (by omega)) rfl) ?_)));refine aI (show s.cu.length+1≤1073741824 by omega) ?_;have hd7:(EH (dx s.P) (elt (dflt aM) (dO (dx s.P)) ((elt 0 sch (((s.tr.length:Nat):Int).tmod ((sch.length:Nat):Int))).tmod (((dO (dx s.P)).length:Nat):Int))).1 (elt (dflt aM) (dO (dx s.P)) ((elt 0 sch (((s.tr.length:Nat):Int).tmod ((sch.length:Nat):Int))).tmod (((dO (dx s.P)).length:Nat):Int))).2==7)=false:=q5
    refine aP s2 r ?_ ?_
    ·refine hd [(20000,120),(20001,1000120),(20002,127),(20003,134)] rfl (aI rfl (aI rfl trivial)) ⟨trivial,⟨rfl,rfl,⟨rfl,rfl⟩,trivial⟩,⟨rfl,nP⟩,⟨rfl,nP⟩,⟨?_,nP⟩,⟨d4.symm,nP⟩,trivial⟩;rw[d5,←d1,hd7];rfl
    ·show 4001-s2.tr.length<4001-s.tr.length;omega
  ·have q4:decide (0<((sch.length:Nat):Int))=false:=q3;have e:=Wm sch (dO (dx s.P)) ((s.tr.length:Nat):Int) q4;have hb2:(0:Int)≤0∧(0:Int)<(((dO (dx s.P)).length:Nat):Int):=by omega
   rw[←e]at hS hQ d1 d2;have hF:=wV (xs:=dx s.P) hQ.1 hQ.2;refine aI hb2 ?_;refine aI hb2 ?_;refine Or.inr (eI _ (eI _ (aI (aA.oh (ts:=tB (dx s.P) [] (iF s.cu) s.tr) aH [61,0,0] Dp (Lu (dx s.P) (elt (dflt aM) (dO (dx s.P)) 0).1 (elt (dflt aM) (dO (dx s.P)) 0).2 hQ.1 hQ.2) rfl) ?_)));refine aI (by kernel_rfl) ?_;refine aI hF.1 ?_;refine aI hF.2 ?_;refine Or.inl (eI _ (eI _ (aI (G5 (dx s.P) [] (aC (dx s.P) (elt (dflt aM) (dO (dx s.P)) 0).1 (elt (dflt aM) (dO (dx s.P)) 0).2).1 (aC (dx s.P) (elt (dflt aM) (dO (dx s.P)) 0).1 (elt (dflt aM) (dO (dx s.P)) 0).2).2) (eI [] (aI rfl ?_)))))
   refine aI (by kernel_rfl) ?_;refine aI (fun q5=> ?_) (fun q5=> ?_)
   ·refine aI hF.1 ?_;refine aI hb2 ?_;refine Or.inr (eI _ (eI _ (aI hS ?_)));refine aI (fun q6=>by cases q6) (fun q6=> ?_);refine aI (show s.df.length+1≤1073741824 by omega) ?_;refine Or.inr (eI _ (eI _ (aI (aA.oh aH [61] Ay (J5 s2.P (by omega)) rfl) ?_)));refine aI (show s.cu.length+1≤1073741824 by omega) ?_;have hd7:(EH (dx s.P) (elt (dflt aM) (dO (dx s.P)) 0).1 (elt (dflt aM) (dO (dx s.P)) 0).2==7)=true:=q5;refine aP s2 r ?_ ?_
    ·refine hd [(20000,120),(20001,1000120),(20002,127),(20003,134)] rfl (aI rfl (aI rfl trivial)) ⟨trivial,⟨rfl,rfl,⟨rfl,rfl⟩,trivial⟩,⟨rfl,nP⟩,⟨rfl,nP⟩,⟨?_,nP⟩,⟨d4.symm,nP⟩,trivial⟩;rw[d5,←d1,hd7,←d2];rfl
    ·show 4001-s2.tr.length<4001-s.tr.length;omega
   ·refine aI hb2 ?_;refine Or.inr (eI _ (eI _ (aI hS ?_)));refine aI (fun q6=>by cases q6) (fun q6=> ?_);refine aI (show s.df.length+1≤1073741824 by omega) ?_;refine Or.inr (eI _ (eI _ (aI (aA.oh aH [61] Ay (J5 s2.P (by omega)) rfl) ?_)));refine aI (show s.cu.length+1≤1073741824 by omega) ?_;have hd7:(EH (dx s.P) (elt (dflt aM) (dO (dx s.P)) 0).1 (elt (dflt aM) (dO (dx s.P)) 0).2==7)=false:=q5;refine aP s2 r ?_ ?_
    ·refine hd [(20000,120),(20001,1000120),(20002,127),(20003,134)] rfl (aI rfl (aI rfl trivial)) ⟨trivial,⟨rfl,rfl,⟨rfl,rfl⟩,trivial⟩,⟨rfl,nP⟩,⟨rfl,nP⟩,⟨?_,nP⟩,⟨d4.symm,nP⟩,trivial⟩;rw[d5,←d1,hd7];rfl
    ·show 4001-s2.tr.length<4001-s.tr.length;omega
theorem ZbP(hs:bE xs)(hsch:∀z∈sch,0≤z)(h:mg (ku bk xs) (bY sch&&dX st 0 4000)=0){t:kY}(R:Cg true bk sch st (g0 xs) true 0 t):aA Tryz.prog 64 [.rsl aR bk,.rp aR xs,.rsl (.int .i64) sch,.int .i64 st] [] (.tup [.sl 10000,.sl 10001,.int .i64 0]) ([.row 10000 2 1 (.int .i64) t.df [],.row 10001 2 1 (.int .i64) t.cu []]):=by
 have hA:=WL bk xs sch st;rw[h]at hA;refine aA.intro (nt:=135) aH mixed ZbB Tryz.func64 rfl rfl rfl rfl rfl rfl ?_;refine Or.inl (eI _ (aI hA ?_));refine aI (fun q=>by cases q) (fun _=> ?_);refine Or.inr (eI _ (eI _ (aI (Cj xs hs) ?_)));refine lp kY (fun _=>[(13,.sl 20002),(14,.sl 20003)]) ZbM (fun s=>4001-s.tr.length) (fun s=>Cg true bk sch st s true 0 t) (g0 xs) R ?_ ?_
 ·exact Nt [⟨2000030,30000,2,1,(.int .i64)⟩] [(20000,1000030),(20001,30000),(20002,31),(20003,37)] rfl (aI (aI rfl (aI rfl trivial)) ⟨trivial,⟨rfl,rfl,⟨rfl,rfl⟩,trivial⟩,⟨rfl,nP⟩,⟨rfl,nP⟩,⟨rfl,nP⟩,⟨rfl,nP⟩,trivial⟩)
 intro s hR;have g:vI bk s:=Cg.ok hR;obtain⟨⟨N1,rs1⟩,lp1⟩:=g.ref true;have er:dU true s.P=dx s.P:=rfl;rw[er]at rs1 lp1;have lt:=g.tr;have lP:=g.lp;have lc:=g.cu;have ld:=g.dl;obtain⟨sm,al⟩:=g.rs.small (by omega);refine Or.inr (eI _ (eI _ (aI (Dv s.P [] (iF s.cu) s.tr sm (by omega) al) ?_)));refine Or.inr (eI _ (eI _ (aI (R9 (dx s.P) [] (iF s.cu) s.tr (by omega) rs1.pos rs1.Sl) ?_)));refine aI (fun q2=> ?_) (fun q2=> ?_)
 ·have q2':((((dO (dx s.P)).length:Nat):Int)==0)=true:=q2;have hz:(dO (dx s.P)).length=0:=by simpa using q2'
  cases hR with
  |done=>exact fin [(10000,20002),(10001,20003)] (aI rfl ⟨⟨rfl,nP⟩,⟨rfl,nP⟩,trivial⟩)
  |next _ _ _ h=>rw[er]at h;omega
 have q2':((((dO (dx s.P)).length:Nat):Int)==0)=false:=q2;have hz0:¬(((dO (dx s.P)).length:Nat):Int)=0:=by simpa using q2'
 have hz:0<(dO (dx s.P)).length:=by omega
 refine aI (fun q8=> ?_) (fun q8=> ?_)
 ·have q9:decide (st≤((s.tr.length:Nat):Int))=true:=q8;have q10:st≤((s.tr.length:Nat):Int):=by simpa using q9
  cases hR with
  |done _ _ h=>rw[er]at h;omega
  |next _ _ _ _ h=>omega
 have q9:decide (st≤((s.tr.length:Nat):Int))=false:=q8;have q10:¬st≤((s.tr.length:Nat):Int):=by simpa using q9
 have hb:=Cc hsch (n:=(((dO (dx s.P)).length:Nat):Int)) (by omega) ((s.tr.length:Nat):Int);cases hR with
 |done _ _ h=>rw[er]at h;omega
 |next _ s2 _ _ _ l hI hS r hQ d=>
  obtain⟨c1,v1,d1,d2,d3,d4,d5⟩:=d;have g2:vI bk s2:=Cg.ok r;have lP2:=g2.lp;unfold gQ at hS hQ d1 d2;rw[er]at hS hQ d1 d2;refine aI (fun q3=> ?_) (fun q3=> ?_)
  ·have q4:decide (0<((sch.length:Nat):Int))=true:=q3;have q11:0<((sch.length:Nat):Int):=by simpa using q4
   have e:=Wn sch (dO (dx s.P)) ((s.tr.length:Nat):Int) q4;have e0:elt 0 sch (((s.tr.length:Nat):Int).tmod ((sch.length:Nat):Int))=AP sch ((s.tr.length:Nat):Int):=by unfold AP;rw[q4];rfl
   have hb2:0≤(elt 0 sch (((s.tr.length:Nat):Int).tmod ((sch.length:Nat):Int))).tmod (((dO (dx s.P)).length:Nat):Int)∧(elt 0 sch (((s.tr.length:Nat):Int).tmod ((sch.length:Nat):Int))).tmod (((dO (dx s.P)).length:Nat):Int)<(((dO (dx s.P)).length:Nat):Int):=by rw[e0];exact hb
   refine aI (show((sch.length:Nat):Int)≠0 by omega) ?_;refine aI (Ou (by omega) q11) ?_;refine aI (show(((dO (dx s.P)).length:Nat):Int)≠0 by omega) ?_;rw[←e]at hS hQ d1 d2;have hF:=wV (xs:=dx s.P) hQ.1 hQ.2;refine aI hb2 ?_;refine aI hb2 ?_;refine Or.inr (eI _ (eI _ (aI (aA.oh (ts:=tB (dx s.P) [] (iF s.cu) s.tr) aH [61,0,0] Dp (Lu (dx s.P) (elt (dflt aM) (dO (dx s.P)) ((elt 0 sch (((s.tr.length:Nat):Int).tmod ((sch.length:Nat):Int))).tmod (((dO (dx s.P)).length:Nat):Int))).1 (elt (dflt aM) (dO (dx s.P)) ((elt 0 sch (((s.tr.length:Nat):Int).tmod ((sch.length:Nat):Int))).tmod (((dO (dx s.P)).length:Nat):Int))).2 hQ.1 hQ.2) rfl) ?_)))
   refine aI (by kernel_rfl) ?_;refine aI hF.1 ?_;refine aI hF.2 ?_;refine Or.inl (eI _ (eI _ (aI (G5 (dx s.P) [] (aC (dx s.P) (elt (dflt aM) (dO (dx s.P)) ((elt 0 sch (((s.tr.length:Nat):Int).tmod ((sch.length:Nat):Int))).tmod (((dO (dx s.P)).length:Nat):Int))).1 (elt (dflt aM) (dO (dx s.P)) ((elt 0 sch (((s.tr.length:Nat):Int).tmod ((sch.length:Nat):Int))).tmod (((dO (dx s.P)).length:Nat):Int))).2).1 (aC (dx s.P) (elt (dflt aM) (dO (dx s.P)) ((elt 0 sch (((s.tr.length:Nat):Int).tmod ((sch.length:Nat):Int))).tmod (((dO (dx s.P)).length:Nat):Int))).1 (elt (dflt aM) (dO (dx s.P)) ((elt 0 sch (((s.tr.length:Nat):Int).tmod ((sch.length:Nat):Int))).tmod (((dO (dx s.P)).length:Nat):Int))).2).2) (eI [] (aI rfl ?_)))))
   refine aI (by kernel_rfl) ?_;refine aI (fun q5=> ?_) (fun q5=> ?_)
   ·refine aI hF.1 ?_;refine aI hb2 ?_;refine Or.inr (eI _ (eI _ (aI hS ?_)));refine aI (fun q6=>by cases q6) (fun q6=> ?_);refine aI (show s.df.length+1≤1073741824 by omega) ?_;refine Or.inr (eI _ (eI _ (aI (aA.oh aH [61] Ay (J5 s2.P (by omega)) rfl) ?_)));refine aI (show s.cu.length+1≤1073741824 by omega) ?_;have hd7:(EH (dx s.P) (elt (dflt aM) (dO (dx s.P)) ((elt 0 sch (((s.tr.length:Nat):Int).tmod ((sch.length:Nat):Int))).tmod (((dO (dx s.P)).length:Nat):Int))).1 (elt (dflt aM) (dO (dx s.P)) ((elt 0 sch (((s.tr.length:Nat):Int).tmod ((sch.length:Nat):Int))).tmod (((dO (dx s.P)).length:Nat):Int))).2==7)=true:=q5
    refine aP s2 r ?_ ?_
    ·refine hd [(20000,120),(20001,1000120),(20002,127),(20003,134)] rfl (aI rfl (aI rfl trivial)) ⟨trivial,⟨rfl,rfl,⟨rfl,rfl⟩,trivial⟩,⟨rfl,nP⟩,⟨rfl,nP⟩,⟨?_,nP⟩,⟨d4.symm,nP⟩,trivial⟩;rw[d5,←d1,hd7,←d2];rfl
    ·show 4001-s2.tr.length<4001-s.tr.length;omega
   ·refine aI hb2 ?_;refine Or.inr (eI _ (eI _ (aI hS ?_)));refine aI (fun q6=>by cases q6) (fun q6=> ?_);refine aI (show s.df.length+1≤1073741824 by omega) ?_;refine Or.inr (eI _ (eI _ (aI (aA.oh aH [61] Ay (J5 s2.P (by omega)) rfl) ?_)));refine aI (show s.cu.length+1≤1073741824 by omega) ?_;have hd7:(EH (dx s.P) (elt (dflt aM) (dO (dx s.P)) ((elt 0 sch (((s.tr.length:Nat):Int).tmod ((sch.length:Nat):Int))).tmod (((dO (dx s.P)).length:Nat):Int))).1 (elt (dflt aM) (dO (dx s.P)) ((elt 0 sch (((s.tr.length:Nat):Int).tmod ((sch.length:Nat):Int))).tmod (((dO (dx s.P)).length:Nat):Int))).2==7)=false:=q5
    refine aP s2 r ?_ ?_
    ·refine hd [(20000,120),(20001,1000120),(20002,127),(20003,134)] rfl (aI rfl (aI rfl trivial)) ⟨trivial,⟨rfl,rfl,⟨rfl,rfl⟩,trivial⟩,⟨rfl,nP⟩,⟨rfl,nP⟩,⟨?_,nP⟩,⟨d4.symm,nP⟩,trivial⟩;rw[d5,←d1,hd7];rfl
    ·show 4001-s2.tr.length<4001-s.tr.length;omega
  ·have q4:decide (0<((sch.length:Nat):Int))=false:=q3;have e:=Wm sch (dO (dx s.P)) ((s.tr.length:Nat):Int) q4;have hb2:(0:Int)≤0∧(0:Int)<(((dO (dx s.P)).length:Nat):Int):=by omega
   rw[←e]at hS hQ d1 d2;have hF:=wV (xs:=dx s.P) hQ.1 hQ.2;refine aI hb2 ?_;refine aI hb2 ?_;refine Or.inr (eI _ (eI _ (aI (aA.oh (ts:=tB (dx s.P) [] (iF s.cu) s.tr) aH [61,0,0] Dp (Lu (dx s.P) (elt (dflt aM) (dO (dx s.P)) 0).1 (elt (dflt aM) (dO (dx s.P)) 0).2 hQ.1 hQ.2) rfl) ?_)));refine aI (by kernel_rfl) ?_;refine aI hF.1 ?_;refine aI hF.2 ?_;refine Or.inl (eI _ (eI _ (aI (G5 (dx s.P) [] (aC (dx s.P) (elt (dflt aM) (dO (dx s.P)) 0).1 (elt (dflt aM) (dO (dx s.P)) 0).2).1 (aC (dx s.P) (elt (dflt aM) (dO (dx s.P)) 0).1 (elt (dflt aM) (dO (dx s.P)) 0).2).2) (eI [] (aI rfl ?_)))))
   refine aI (by kernel_rfl) ?_;refine aI (fun q5=> ?_) (fun q5=> ?_)
   ·refine aI hF.1 ?_;refine aI hb2 ?_;refine Or.inr (eI _ (eI _ (aI hS ?_)));refine aI (fun q6=>by cases q6) (fun q6=> ?_);refine aI (show s.df.length+1≤1073741824 by omega) ?_;refine Or.inr (eI _ (eI _ (aI (aA.oh aH [61] Ay (J5 s2.P (by omega)) rfl) ?_)));refine aI (show s.cu.length+1≤1073741824 by omega) ?_;have hd7:(EH (dx s.P) (elt (dflt aM) (dO (dx s.P)) 0).1 (elt (dflt aM) (dO (dx s.P)) 0).2==7)=true:=q5;refine aP s2 r ?_ ?_
    ·refine hd [(20000,120),(20001,1000120),(20002,127),(20003,134)] rfl (aI rfl (aI rfl trivial)) ⟨trivial,⟨rfl,rfl,⟨rfl,rfl⟩,trivial⟩,⟨rfl,nP⟩,⟨rfl,nP⟩,⟨?_,nP⟩,⟨d4.symm,nP⟩,trivial⟩;rw[d5,←d1,hd7,←d2];rfl
    ·show 4001-s2.tr.length<4001-s.tr.length;omega
   ·refine aI hb2 ?_;refine Or.inr (eI _ (eI _ (aI hS ?_)));refine aI (fun q6=>by cases q6) (fun q6=> ?_);refine aI (show s.df.length+1≤1073741824 by omega) ?_;refine Or.inr (eI _ (eI _ (aI (aA.oh aH [61] Ay (J5 s2.P (by omega)) rfl) ?_)));refine aI (show s.cu.length+1≤1073741824 by omega) ?_;have hd7:(EH (dx s.P) (elt (dflt aM) (dO (dx s.P)) 0).1 (elt (dflt aM) (dO (dx s.P)) 0).2==7)=false:=q5;refine aP s2 r ?_ ?_
    ·refine hd [(20000,120),(20001,1000120),(20002,127),(20003,134)] rfl (aI rfl (aI rfl trivial)) ⟨trivial,⟨rfl,rfl,⟨rfl,rfl⟩,trivial⟩,⟨rfl,nP⟩,⟨rfl,nP⟩,⟨?_,nP⟩,⟨d4.symm,nP⟩,trivial⟩;rw[d5,←d1,hd7];rfl
    ·show 4001-s2.tr.length<4001-s.tr.length;omega
end
end Go.Proofs.YtjijpkphkicoeaaGreat
namespace Go.Proofs.YtjijpkphkicoeaaGreat
open Go Go.RowKit Go.Proofs Go.Tr
def Zbe(f:Nat)(args:List SV)(l:List Int)(c:Int):Prop:=
 (l=[]∧aA Tryz.prog f args [] (.tup [.raw (.slice none 0 0),.int .i64 c]) [])∨aA Tryz.prog f args [] (.tup [.sl 10000,.int .i64 c]) [.row 10000 2 1 (.int .i64) l []]
theorem Zbm{f:Nat}{args:List SV}{l:List Int}{c:Int}{vs:List Value}{w:World}(h:Zbe f args l c)(hd:∀β,aN ⟨w,[]⟩ β args vs):
  Calls Tryz.prog f vs.toArray w fun e w'=>∃(B0:Option Addr) (d0:Nat) (q0:List Nat),e=.returned (.tuple #[.slice B0 l.length d0,.int .i64 c])∧Ext w w'∧T1 w' (.sl l.length (l.flatMap bM)) q0 (.slice B0 l.length d0)∧Own w.heap.size w' (q0):=by
 rcases h with⟨rfl,h⟩|h
 ·refine(h.2 ⟨w,[]⟩ (fun _=>undef) w [] vs (Inv.AU w) (hd _)).mono ?_;rintro e w' ⟨v',β',rfl,_,h1,h2⟩;unfold Den at h1;obtain⟨us,rfl,h1⟩:=h1;unfold aN at h1;obtain⟨y1,us1,rfl,k1,h1⟩:=h1;unfold aN at h1;obtain⟨y2,us2,rfl,k2,h1⟩:=h1;unfold aN at h1;subst h1;unfold Den at k1 k2;subst k2;obtain⟨rfl,_⟩:=k1;exact⟨none,0,[],rfl,h2.En,T1.empty none,Own.nil _ _⟩
 ·refine(h.2 ⟨w,[]⟩ (fun _=>undef) w [] vs (Inv.AU w) (hd _)).mono ?_;rintro e w' ⟨v',β',rfl,_,h1,h2⟩;have hI':Inv (Cx.mk w []).w0 [] w' [Tok.res ⟨w,[]⟩ β' (.row 10000 2 1 (.int .i64) l [])]:=by simpa using h2
  obtain⟨A,c',q,r1,r2,r3⟩:=hI'.Zbn;unfold Den at h1;obtain⟨us,rfl,h1⟩:=h1;unfold aN at h1;obtain⟨y1,us1,rfl,k1,h1⟩:=h1;unfold aN at h1;obtain⟨y2,us2,rfl,k2,h1⟩:=h1;unfold aN at h1;subst h1;unfold Den at k1 k2;obtain⟨rfl,_⟩:=k1;subst k2;rw[r1];refine⟨A,c',q,rfl,h2.En,?_,r3⟩;rw[vV]at r2;exact r2
theorem La(bk:List (List aj))(xs:List aj)(sch:List Int)(st:Int):mg (ku bk xs) (bY sch&&dX st 0 4000)=0∨∃c,c≠0∧mg (ku bk xs) (bY sch&&dX st 0 4000)=c:=by
 by_cases h:mg (ku bk xs) (bY sch&&dX st 0 4000)=0
 ·exact .inl h
 ·exact .inr ⟨_,h,rfl⟩
end Go.Proofs.YtjijpkphkicoeaaGreat
namespace Go.Tr
open Go Go.RowKit
def Zbu(l:List Int)(d:Int):List Int:=l.set d.toNat (elt 0 l d+1)
def Zbo(n:Nat)(ex:List Int):List Int:=ex.foldl Zbu (List.replicate n 0)
theorem ZbG(n:Nat)(ex:List Int)(d:Int):Zbo n (ex++[d])=Zbu (Zbo n ex) d:=by unfold Zbo;rw[List.foldl_append];rfl
theorem ZbC:∀(ex:List Int) (l:List Int) (n k:Nat),(l.length=n∧∀z∈l,0≤z∧z≤(k:Int))→(ex.foldl Zbu l).length=n∧∀z∈ex.foldl Zbu l,0≤z∧z≤((k+ex.length:Nat):Int)
 |[],l,n,k,h=>h
 |d::ex,l,n,k,h=>by
  rw[List.foldl_cons,qI]
  have h2:(Zbu l d).length=n∧∀z∈Zbu l d,0≤z∧z≤((k+1:Nat):Int):=by
   unfold Zbu;refine⟨by rw[List.length_set];exact h.1,fun z hz=> ?_⟩;rcases List.mem_or_eq_of_mem_set hz with e|e
   ·have:=h.2 z e;omega
   ·subst e
    have:0≤elt 0 l d∧elt 0 l d≤(k:Int):=by
     unfold elt;rw[qC];cases hg:l[d.toNat]? with
     |none=>exact⟨Int.le_refl 0,by show(0:Int)≤k;omega⟩
     |some z=>exact h.2 z (List.mem_of_getElem? hg)
    omega
  have:=ZbC ex _ n _ h2;rw[show k+1+ex.length=k+(ex.length+1) by omega]at this;exact this
theorem ZbA(n:Nat)(ex:List Int):(Zbo n ex).length=n∧∀d:Int,0≤elt 0 (Zbo n ex) d∧elt 0 (Zbo n ex) d≤((ex.length:Nat):Int):=by
 have h:=ZbC ex (List.replicate n 0) n 0 ⟨List.length_replicate,fun z hz=>by rw[List.eq_of_mem_replicate hz];exact⟨Int.le_refl 0,Int.le_refl 0⟩⟩;refine⟨h.1,fun d=> ?_⟩;unfold elt;rw[qC];cases hg:(Zbo n ex)[d.toNat]? with
 |none=>exact⟨Int.le_refl 0,by show(0:Int)≤((ex.length:Nat):Int);omega⟩
 |some z=>have:=h.2 z (List.mem_of_getElem? hg);exact⟨this.1,by show z≤_;omega⟩
theorem ZbI{l:List Int}{i:Nat}(h:i<l.length):l.take (i+1)=l.take i++[elt 0 l ((i:Nat):Int)]:=by
 rw[List.take_add_one,qB h];unfold elt;rw[qK,qC,qB h];rfl
theorem ZbH{l:List Int}{i:Nat}(h:i<l.length):elt 0 l ((i:Nat):Int)∈l:=by
 unfold elt;rw[qK,qC,qB h];exact List.getElem_mem h
end Go.Tr
namespace Go.Proofs.YtjijpkphkicoeaaGreat
open Go Go.RowKit Go.Proofs Go.Tr
section
variable (bk:List (List aj))(xs:List aj)(sch:List Int)(st:Int)
theorem ZbN{c:Int}(h:aA Tryz.prog 64 [.rsl aR bk,.rp aR xs,.rsl (.int .i64) sch,.int .i64 st] [] (.tup [.raw (.slice none 0 0),.raw (.slice none 0 0),.int .i64 c]) []):aA Tryz.prog 64 [.rsl aR bk,.ptr 10000 0,.rsl (.int .i64) sch,.int .i64 st] [.bV 10000 30 [.rsl aD xs]] (.tup [.raw (.slice none 0 0),.raw (.slice none 0 0),.int .i64 c]) [.bV 10000 30 [.rsl aD xs]]:=
 aA.yC (r2:=.tup [.raw (.slice none 0 0),.raw (.slice none 0 0),.int .i64 c]) (ts2:=[]) aH [0,61,0,0] ZbB h rfl rfl rfl
theorem ZbO{df cu:List Int}(h:aA Tryz.prog 64 [.rsl aR bk,.rp aR xs,.rsl (.int .i64) sch,.int .i64 st] [] (.tup [.sl 10000,.sl 10001,.int .i64 0]) [.row 10000 2 1 (.int .i64) df [],.row 10001 2 1 (.int .i64) cu []]):aA Tryz.prog 64 [.rsl aR bk,.ptr 10000 0,.rsl (.int .i64) sch,.int .i64 st] [.bV 10000 30 [.rsl aD xs]] (.tup [.sl 10001,.sl 10002,.int .i64 0]) [.row 10001 2 1 (.int .i64) df [],.row 10002 2 1 (.int .i64) cu [],.bV 10000 30 [.rsl aD xs]]:=
 aA.yC (r2:=.tup [.sl 10001,.sl 10002,.int .i64 0]) (ts2:=[.row 10001 2 1 (.int .i64) df [],.row 10002 2 1 (.int .i64) cu []]) aH [0,61,0,0] ZbB h rfl rfl rfl
theorem Zbw:bH Tryz.prog 30=true:=by kernel_rfl
theorem Zbx:bH Tryz.prog 29=true:=by kernel_rfl
theorem Zbs{c:Int}(hc:c≠0)(h:aA Tryz.prog 65 [.rsl aR bk,.agg [.rsl aD xs],.rsl (.int .i64) sch,.int .i64 st] [] (.tup [.raw (.pointer none),.int .i64 c]) []):aA Tryz.prog 30 [.rsl aR bk,.agg [.rsl aD xs],.rsl (.int .i64) sch,.int .i64 st] [] (.tup [.raw (.slice none 0 0),.int .i64 c]) ([]):=by
 refine aA.intro (nt:=46) aH mixed Zbw Tryz.func30 rfl rfl rfl rfl rfl rfl ?_;refine Or.inr (eI _ (eI _ (aI (h) ?_)));refine aI (fun q=> ?_) (fun q=> ?_)
 ·exact fin [] (aI rfl trivial)
 ·exfalso;have q2:(c !=0)=false:=q;simp at q2;exact hc q2
theorem Zbt{c:Int}(hc:c≠0)(h:aA Tryz.prog 64 [.rsl aR bk,.rp aR xs,.rsl (.int .i64) sch,.int .i64 st] [] (.tup [.raw (.slice none 0 0),.raw (.slice none 0 0),.int .i64 c]) []):aA Tryz.prog 29 [.rsl aR bk,.agg [.rsl aD xs],.rsl (.int .i64) sch,.int .i64 st] [] (.tup [.raw (.slice none 0 0),.int .i64 c]) ([]):=by
 refine aA.intro (nt:=58) aH mixed Zbx Tryz.func29 rfl rfl rfl rfl rfl rfl ?_;refine Or.inr (eI _ (eI _ (aI (ZbN bk xs sch st h) ?_)));refine aI (fun q=> ?_) (fun q=> ?_)
 ·exact fin [] (aI rfl trivial)
 ·exfalso;have q2:(c !=0)=false:=q;simp at q2;exact hc q2
theorem ZbE{t:kY}(h:aA Tryz.prog 65 [.rsl aR bk,.agg [.rsl aD xs],.rsl (.int .i64) sch,.int .i64 st] [] (.tup [.ptr 10000 0,.int .i64 0]) (tU t.xs [] bk t.kv t.cn t.tr t.cu t.ex))(hb:bk.length≤1000)(hl:t.ex.length≤100000)(he:∀z∈t.ex,0≤z∧z<(bk.length:Nat)):aA Tryz.prog 30 [.rsl aR bk,.agg [.rsl aD xs],.rsl (.int .i64) sch,.int .i64 st] [] (.tup [.sl 10000,.int .i64 0]) ([.row 10000 2 1 (.int .i64) (Zbo bk.length t.ex) []]):=by
 refine aA.intro (nt:=46) aH mixed Zbw Tryz.func30 rfl rfl rfl rfl rfl rfl ?_;refine Or.inr (eI _ (eI _ (aI (h) ?_)));refine aI (fun q=>by cases q) (fun _=> ?_);refine aI ?_ ?_
 ·exact⟨by omega,by omega,by omega⟩
 refine lp Nat (fun i=>[(34,.int .i64 (i:Nat))]) (fun i=>[.row 7000020 2 1 (.int .i64) t.ex [],.row 28 2 1 (.int .i64) (Zbo bk.length (t.ex.take i)) []]) (fun i=>t.ex.length-i) (fun i=>i≤t.ex.length) 0 (Nat.zero_le _) ?_ ?_
 ·exact hd [] rfl (aI (aI rfl rfl) trivial) ⟨⟨rfl,nP⟩,⟨rfl,nP⟩,trivial⟩
 intro i hi;refine aI (fun q1=> ?_) (fun q1=> ?_)
 ·have hlt:i<t.ex.length:=ZL q1;have hk:0≤((i:Nat):Int)∧((i:Nat):Int)<(t.ex.length:Nat):=by omega
  have hz:=he _ (ZbH hlt);have hd1:=ZbA bk.length (t.ex.take i);have hd2:=hd1.2 (elt 0 t.ex ((i:Nat):Int));rw[List.length_take]at hd2;have hbd:0≤elt 0 t.ex ((i:Nat):Int)∧elt 0 t.ex ((i:Nat):Int)<((Zbo bk.length (t.ex.take i)).length:Nat):=by rw[hd1.1];exact hz
  refine aI hk ?_;refine aI hbd ?_;refine aI hbd ?_;refine aP (i+1) hlt ?_ ?_
  ·refine hd [] rfl (aI (aI (dB (by omega)) rfl) trivial) ⟨⟨rfl,nP⟩,⟨?_,nP⟩,trivial⟩;rw[ZbI hlt,ZbG];show(Zbo bk.length (t.ex.take i)).set (elt 0 t.ex ((i:Nat):Int)).toNat (IntKind.i64.wrap (elt 0 (Zbo bk.length (t.ex.take i)) (elt 0 t.ex ((i:Nat):Int))+1))=Zbu (Zbo bk.length (t.ex.take i)) (elt 0 t.ex ((i:Nat):Int));unfold Zbu;rw[qO _ (by omega)]
  ·show t.ex.length-(i+1)<t.ex.length-i;omega
 ·have hge:t.ex.length≤i:=ZK q1;have hi':i≤t.ex.length:=hi;obtain rfl:i=t.ex.length:=by omega
  refine fin [(10000,28)] (aI rfl ?_);refine⟨⟨?_,nP⟩,trivial⟩;show Zbo bk.length (t.ex.take t.ex.length)=Zbo bk.length t.ex;rw[List.take_length]
theorem ZbF{df cu:List Int}(h:aA Tryz.prog 64 [.rsl aR bk,.rp aR xs,.rsl (.int .i64) sch,.int .i64 st] [] (.tup [.sl 10000,.sl 10001,.int .i64 0]) [.row 10000 2 1 (.int .i64) df [],.row 10001 2 1 (.int .i64) cu []])(hb:bk.length≤1000)(hl:df.length≤100000)(he:∀z∈df.filter (fun z=>decide (0≤z)),0≤z∧z<(bk.length:Nat)):aA Tryz.prog 29 [.rsl aR bk,.agg [.rsl aD xs],.rsl (.int .i64) sch,.int .i64 st] [] (.tup [.sl 10000,.int .i64 0]) ([.row 10000 2 1 (.int .i64) (Zbo bk.length (df.filter fun z=>decide (0≤z))) []]):=by
 refine aA.intro (nt:=58) aH mixed Zbx Tryz.func29 rfl rfl rfl rfl rfl rfl ?_;refine Or.inr (eI _ (eI _ (aI (ZbO bk xs sch st h) ?_)));refine aI (fun q=>by cases q) (fun _=> ?_);refine lp Nat (fun i=>[(14,.int .i64 (i:Nat)),(13,.sl 20000)]) (fun i=>[.row 20 2 1 (.int .i64) df [],.row 20000 2 1 (.int .i64) (List.replicate i 0) []]) (fun i=>bk.length-i) (fun i=>i≤bk.length) 0 (Nat.zero_le _) ?_ ?_
 ·exact hd [(20000,27)] rfl (aI (aI rfl rfl) (aI rfl trivial)) ⟨⟨rfl,nP⟩,⟨rfl,nP⟩,trivial⟩
 intro i hi;refine aI (fun q1=> ?_) (fun q1=> ?_)
 ·have hlt:i<bk.length:=ZL q1;refine aI (show(List.replicate i (0:Int)).length+1≤1073741824 by rw[List.length_replicate];omega) ?_;refine aP (i+1) hlt ?_ ?_
  ·refine hd [(20000,36)] rfl (aI (aI (dB (by omega)) rfl) (aI rfl trivial)) ⟨⟨rfl,nP⟩,⟨?_,nP⟩,trivial⟩;show List.replicate i (0:Int)++[0]=List.replicate (i+1) 0;rw[List.replicate_succ']
  ·show bk.length-(i+1)<bk.length-i;omega
 have hge:bk.length≤i:=ZK q1;have hi':i≤bk.length:=hi;obtain rfl:i=bk.length:=by omega
 refine lp Nat (fun i=>[(15,.int .i64 (i:Nat)),(13,.sl 20001)]) (fun i=>[.row 20 2 1 (.int .i64) df [],.row 20001 2 1 (.int .i64) (Zbo bk.length ((df.take i).filter fun z=>decide (0≤z))) []]) (fun i=>df.length-i) (fun i=>i≤df.length) 0 (Nat.zero_le _) ?_ ?_
 ·exact hd [(20001,20000)] rfl (aI (aI rfl rfl) (aI rfl trivial)) ⟨⟨rfl,nP⟩,⟨rfl,nP⟩,trivial⟩
 intro i hi;refine aI (fun q1=> ?_) (fun q1=> ?_)
 ·have hlt:i<df.length:=ZL q1;have hk:0≤((i:Nat):Int)∧((i:Nat):Int)<(df.length:Nat):=by omega
  refine aI hk ?_;refine aI (fun q2=> ?_) (fun q2=> ?_)
  ·have q3:decide (0≤elt 0 df ((i:Nat):Int))=true:=q2;have hz:=he _ (List.mem_filter.2 ⟨ZbH hlt,q3⟩);have hd1:=ZbA bk.length ((df.take i).filter fun z=>decide (0≤z));have hd2:=hd1.2 (elt 0 df ((i:Nat):Int));have hfl:=List.length_filter_le (fun z:Int=>decide (0≤z)) (df.take i);rw[List.length_take]at hfl;have hbd:0≤elt 0 df ((i:Nat):Int)∧elt 0 df ((i:Nat):Int)<((Zbo bk.length ((df.take i).filter fun z=>decide (0≤z))).length:Nat):=by rw[hd1.1];exact hz
   refine aI hk ?_;refine aI hbd ?_;refine aI hbd ?_;refine aP (i+1) hlt ?_ ?_
   ·refine hd [] rfl (aI (aI (dB (by omega)) rfl) (aI rfl trivial)) ⟨⟨rfl,nP⟩,⟨?_,nP⟩,trivial⟩;have ef:[elt 0 df ((i:Nat):Int)].filter (fun z=>decide (0≤z))=[elt 0 df ((i:Nat):Int)]:=by simp only[List.filter_cons,q3,if_true,List.filter_nil]
    rw[ZbI hlt,List.filter_append,ef,ZbG];show(Zbo bk.length ((df.take i).filter fun z=>decide (0≤z))).set (elt 0 df ((i:Nat):Int)).toNat (IntKind.i64.wrap (elt 0 (Zbo bk.length ((df.take i).filter fun z=>decide (0≤z))) (elt 0 df ((i:Nat):Int))+1))=Zbu (Zbo bk.length ((df.take i).filter fun z=>decide (0≤z))) (elt 0 df ((i:Nat):Int));unfold Zbu;rw[qO _ (by omega)]
   ·show df.length-(i+1)<df.length-i;omega
  ·have q3:decide (0≤elt 0 df ((i:Nat):Int))=false:=q2;refine aP (i+1) hlt ?_ ?_
   ·refine hd [] rfl (aI (aI (dB (by omega)) rfl) (aI rfl trivial)) ⟨⟨rfl,nP⟩,⟨?_,nP⟩,trivial⟩;have ef:[elt 0 df ((i:Nat):Int)].filter (fun z=>decide (0≤z))=[]:=by simp only[List.filter_cons,q3,Bool.false_eq_true,if_false,List.filter_nil]
    rw[ZbI hlt,List.filter_append,ef,qS];rfl
   ·show df.length-(i+1)<df.length-i;omega
 ·have hge:df.length≤i:=ZK q1;have hi':i≤df.length:=hi;obtain rfl:i=df.length:=by omega
  refine fin [(10000,20001)] (aI rfl ?_);refine⟨⟨?_,nP⟩,trivial⟩;show Zbo bk.length ((df.take df.length).filter fun z=>decide (0≤z))=Zbo bk.length (df.filter fun z=>decide (0≤z));rw[List.take_length]
end
end Go.Proofs.YtjijpkphkicoeaaGreat
