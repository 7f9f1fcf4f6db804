
/- One interaction of a reduction, on both sides. -/
import Derived.Test.YtemalpelcdmemaaGreatYe
set_option linter.unusedSimpArgs false
set_option linter.unusedVariables false
namespace Go.Tr
open Go Go.RowKit
section
variable {kv:List (Int×Bool)}{xs N P:List NAgent}
theorem RS.Rz(h:RS kv xs N P):(zQ xs kv).length=(prsN N).length∧(prsN P).length=(prsN N).length:=by
 obtain⟨Y,f,TY,rf⟩:=h.tx;obtain⟨k,z,TN⟩:=h.tn;obtain⟨k2,z2,g,TP,rg⟩:=h.tp;rw[TY.acts,TN.Xe rf,TN.Xe rg,List.length_map,List.length_map];exact⟨rfl,rfl⟩
theorem RS.pos(h:RS kv xs N P):0<P.length:=by
 obtain⟨k2,z2,g,TP,rg⟩:=h.tp;exact TP.pos
theorem RS.portsP(h:RS kv xs N P):∀i:Nat,i<P.length→cB P i=true→0<(ah P (i:Nat)).2.2.2.2.length:=by
 obtain⟨k2,z2,g,TP,rg⟩:=h.tp;exact TP.Va
theorem RS.live(h:RS kv xs N P):bR P P.length+kv.length=xs.length∧bR N N.length=bR P P.length:=by
 obtain⟨Y,f,TY,rf⟩:=h.tx;obtain⟨k2,z2,g,TP,rg⟩:=h.tp;have:=TY.live;rw[rf.bR]at this;rw[rg.bR];exact⟨this,rfl⟩
end
end Go.Tr
namespace Go.Proofs.YtemalpelcdmemaaGreat
open Go Go.RowKit Go.Proofs Go.Tr
def XV(xs:List NAgent)(p:Int×Int):Prop:=(0≤p.1∧p.1<(xs.length:Nat))∧0≤p.2∧p.2<(xs.length:Nat)
inductive ZL(bk:List (List NAgent))(kv:List (Int×Bool))(xs N P:List NAgent)(X Q:Int×Int):Prop
 |bad (code:Int) (hc:code≠0)
  (hI:∀us,FCall Tryz.prog 103 [.ptr 10000 0,vP X] (tW xs us bk kv) (.int .i64 code) (tW xs us bk kv))
  (hB:∀us pk tr,FCall Tryz.prog 126 [.rsl uNet bk,.ptr 10000 0,.int .i64 Q.1,.int .i64 Q.2] (tB P us pk tr) (.int .i64 code) (tB P us pk tr))
 |ok (x' N' P':List NAgent) (kv':List (Int×Bool)) (c v:Int) (hc:1≤c∧c≤7)
  (hI:∀us,FCall Tryz.prog 103 [.ptr 10000 0,vP X] (tW xs us bk kv) (.int .i64 0) (RL 10003 x' us bk kv'))
  (hB:∀us pk tr,FCall Tryz.prog 126 [.rsl uNet bk,.ptr 10000 0,.int .i64 Q.1,.int .i64 Q.2] (tB P us pk tr) (.int .i64 0) (R4 10003 P' [] pk tr))
  (st:RS kv' x' N' P') (l0:xs.length≤x'.length) (l1:x'.length≤xs.length+600) (lp:P'.length≤P.length+600)
  (cX:(bn (ah xs X.1) (ah xs X.2)).1=c) (cQ:bO (ah P Q.1) (ah P Q.2)=c)
  (vX:(ah xs (bif (bn (ah xs X.1) (ah xs X.2)).2 then X.2 else X.1)).2.2.1=v) (vQ:WW P Q.1 Q.2=v) (vb:c=7→0≤v∧v<(bk.length:Nat)) (lv:x'.length≤kv'.length+600)
structure ZK(xs P:List NAgent)(X Q:Int×Int):Prop where
 hX:XV xs X
 hQ:XV P Q
theorem Xu{bk:List (List NAgent)}{kv:List (Int×Bool)}{xs N P:List NAgent}(h:RS kv xs N P)(hb:Np bk)(hx:xs.length≤3000)(hp:P.length≤3000){k:Int}(h0:0≤k)(h1:k<((prsN P).length:Nat)):
  ZK xs P (elt (dflt uPort) (zQ xs kv) k) (elt (dflt uPort) (prsN P) k)∧ZL bk kv xs N P (elt (dflt uPort) (zQ xs kv) k) (elt (dflt uPort) (prsN P) k):=by
 have hpl:=h.Rz;obtain⟨Y,f,TY,rf⟩:=h.tx;obtain⟨kn,zn,TN⟩:=h.tn;obtain⟨kp,zp,g,TP,rg⟩:=h.tp;have eY:=TN.Xe rf;have eP:=TN.Xe rg;have hN:=Gh (ys:=N) h0 (by omega);have qY:=Ren.Pv eY h0 (by omega);have qP:=Ren.Pv eP h0 (by omega);have mY:=Gh (ys:=Y) h0 (by rw[←TY.acts];omega);have mP:=Gh (ys:=P) h0 h1;rw[TY.acts,qY,qP];rw[qY]at mY;rw[qP]at mP;generalize elt (dflt uPort) (prsN N) k=p at*;obtain⟨a,b⟩:=p;obtain⟨kpN,raN,rbN,_⟩:=TN.Gi hN;obtain⟨kpY,raY,rbY,_⟩:=TY.Gi mY;obtain⟨kpP,raP,rbP,_⟩:=TP.Gi mP
 have lN:=TN.len;have lY:=TY.len;have lP:=TP.len;have leY:=rf.le;have ha:0≤a∧a<(N.length:Nat):=by rw[←lN];exact⟨kpN.px.1,kpN.px.2.1⟩
 have hb':0≤b∧b<(N.length:Nat):=by rw[←lN];exact⟨kpN.py.1,kpN.py.2.1⟩
 have oY:=rf.Ii (bk:=bk) ha hb';have oP:=rg.Ii (bk:=bk) ha hb';have iX:XV xs (pF f (a,b)):=⟨⟨kpY.px.1,kpY.px.2.1⟩,kpY.py.1,kpY.py.2.1⟩
 have iQ:XV P (pF g (a,b)):=by
  have q1:=kpP.px.2.1;have q2:=kpP.py.2.1;rw[lP]at q1 q2;exact⟨⟨kpP.px.1,q1⟩,kpP.py.1,q2⟩
 refine⟨⟨iX,iQ⟩,?_⟩;cases pW TN kpN raN rbN hb (by omega)with
 |bad code hc ho _ _=>
  cases pW TY kpY raY rbY hb (by omega)with
  |ok _ _ ho2=>exact absurd (ho.symm.trans (oY.symm.trans ho2)) hc
  |bad c2 hc2 ho2 hI _=>
   cases pW TP kpP raP rbP hb (by omega)with
   |ok _ _ ho3=>exact absurd (ho.symm.trans (oP.symm.trans ho3)) hc
   |bad c3 hc3 ho3 _ hB=>
    have e2:c2=code:=ho2.symm.trans (oY.trans ho);have e3:c3=code:=ho3.symm.trans (oP.trans ho);subst e2 e3;exact .bad _ hc hI hB
 |ok zn' kn' ho nx _ _ tw _ _ _ _=>
  cases pW TY kpY raY rbY hb (by omega)with
  |bad c2 hc2 ho2=>exact absurd (ho2.symm.trans (oY.trans ho)) hc2
  |ok x' kv' ho2 nx2 hI _ twY l0 l1 wl lv=>
   cases pW TP kpP raP rbP hb (by omega)with
   |bad c3 hc3 ho3=>exact absurd (ho3.symm.trans (oP.trans ho)) hc3
   |ok zp' kp' ho3 nx3 _ hB twP l2 l3 _ _=>
    have rY:=rf.uh ha hb' nx TN.JN TN.p0y hb.toBkW;have rP:=rg.uh ha hb' nx TN.JN TN.p0y hb.toBkW;have wa:Wf (ah xs (fI f a)):=TY.wf _ kpY.px.1 kpY.px.2.1 kpY.lx;have wb:Wf (ah xs (fI f b)):=TY.wf _ kpY.py.1 kpY.py.2.1 kpY.ly;have ce:=Fb (a:=fI f a) (b:=fI f b) wa wb raY rbY;have eyA:=TY.at_ kpY.px.1 kpY.px.2.1 kpY.lx;have eyB:=TY.at_ kpY.py.1 kpY.py.2.1 kpY.ly
    have cY:nxC Y (fI f a) (fI f b)=bO (ah xs (fI f a)) (ah xs (fI f b)):=by
     unfold nxC;rw[qR];show bO (ah Y (pF f (a,b)).1) (ah Y (pF f (a,b)).2)=_;rw[eyA,eyB];rfl
    have c1:(bn (ah xs (fI f a)) (ah xs (fI f b))).1=nxC N a b:=by
     rw[←rf.nxC ha hb',cY,ce.1,qR]
    have hl:=twP.len;refine .ok x' (uh bk N a b) (uh bk P (fI g a) (fI g b)) kv' (nxC N a b) (WW N a b) nx.hc hI hB ⟨⟨_,f,twY,rY⟩,wl h.wx,⟨_,_,tw⟩,⟨_,_,g,twP,rP⟩⟩ l0 l1 (by show(uh bk P (fI g a) (fI g b)).length≤_;have:zp'.length=(uh bk P (fI g a) (fI g b)).length:=hl;omega) c1 ?_ ?_ (rg.WW ha hb') ?_ lv
    ·show bO (ah P (fI g a)) (ah P (fI g b))=_;rw[←rg.nxC ha hb'];unfold nxC;rw[qR]
    ·have k1:=(ce.2 (by rw[c1];have:=nx.hc;intro e8;rw[e8]at this;omega)).1;show(ah xs (bif (bn (ah xs (fI f a)) (ah xs (fI f b))).2 then fI f b else fI f a)).2.2.1=_;rw[k1]
     have ef:firstS xs (fI f a) (fI f b)=firstS Y (fI f a) (fI f b):=by
      unfold firstS;rw[show ah Y (fI f a)=ah xs (fI f a) from eyA,show ah Y (fI f b)=ah xs (fI f b) from eyB]
     have kf:=kpY.first TY.st;have e1:ah Y (firstS xs (fI f a) (fI f b)).1=ah xs (firstS xs (fI f a) (fI f b)).1:=TY.at_ kf.px.1 kf.px.2.1 kf.lx;rw[←e1,ef];exact rf.WW ha hb'
    ·intro e;have:=nx.h7 e;exact this
end Go.Proofs.YtemalpelcdmemaaGreat
