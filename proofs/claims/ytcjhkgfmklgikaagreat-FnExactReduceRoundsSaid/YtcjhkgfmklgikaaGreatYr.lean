
/- One interaction of the program's nets, and of the reference's runs. -/
import Derived.Test.YtcjhkgfmklgikaaGreatShort
import Derived.Test.YtcjhkgfmklgikaaGreatIo
import Derived.Test.YtcjhkgfmklgikaaGreatJh
import Derived.Test.YtcjhkgfmklgikaaGreatNy
import Derived.Test.YtcjhkgfmklgikaaGreatYd
import Derived.Test.YtcjhkgfmklgikaaGreatRg
import Derived.Test.YtcjhkgfmklgikaaGreatUg
import Derived.Test.YtcjhkgfmklgikaaGreatRm
import Derived.Test.YtcjhkgfmklgikaaGreatKEv
import Derived.Test.YtcjhkgfmklgikaaGreatKDbg
set_option maxRecDepth 100000
set_option linter.unusedSimpArgs false
set_option linter.unusedVariables false
set_option linter.unusedSectionVars false
namespace Go.Proofs.YtcjhkgfmklgikaaGreat
open Go Go.RowKit Go.Proofs Go.Tr
inductive ZbD(bk:List (List aj))(kv:List (Int×Bool))(xs ys:List aj)(a b:Int):Prop
 |bad (code:Int) (hc:code≠0) (ho:TT bk ys a b=code)
  (hI:∀us,aA Tryz.prog 38 [.ptr 10000 0,vP (a,b)] (tW xs us bk kv) (.int .i64 code) (tW xs us bk kv))
  (hB:∀us pk tr,aA Tryz.prog 58 [.rsl bO bk,.ptr 10000 0,.int .i64 a,.int .i64 b] (tB ys us pk tr) (.int .i64 code) (tB ys us pk tr))
 |ok (x':List aj) (kv':List (Int×Bool)) (ho:TT bk ys a b=0) (nx:YE bk ys a b)
  (hI:∀us,aA Tryz.prog 38 [.ptr 10000 0,vP (a,b)] (tW xs us bk kv) (.int .i64 0) (RV 10003 x' us bk kv'))
  (hB:∀us pk tr,aA Tryz.prog 58 [.rsl bO bk,.ptr 10000 0,.int .i64 a,.int .i64 b] (tB ys us pk tr) (.int .i64 0) (U5 10003 (MX bk ys a b) [] pk tr))
  (tw:Tr.Twin kv' x' (MX bk ys a b)) (l0:xs.length≤x'.length) (l1:x'.length≤xs.length+600) (wl:yI (fun _=>False) xs→yI (fun _=>False) x') (lv:x'.length≤kv'.length+600)
theorem ZaE{bk:List (List aj)}{kv:List (Int×Bool)}{xs ys:List aj}{a b:Int}(T:Tr.Twin kv xs ys)(k:lG (Gone kv) xs a b)(ra:(ah xs a).1≠1)(rb:(ah xs b).1≠1)(hb:Kg bk)(hl:xs.length≤700000):ZbD bk kv xs ys a b:=by
 have ha0:0≤a∧a<(xs.length:Nat):=⟨k.px.1,k.px.2.1⟩;have hb0:0≤b∧b<(xs.length:Nat):=⟨k.py.1,k.py.2.1⟩;have hlen:=T.len;have ha1:0≤a∧a<(ys.length:Nat):=by rw[←hlen];exact ha0
 have hb1:0≤b∧b<(ys.length:Nat):=by rw[←hlen];exact hb0
 have ea:=T.at_ ha0.1 ha0.2 k.lx;have eb:=T.at_ hb0.1 hb0.2 k.ly;have wa:=T.wf a ha0.1 ha0.2 k.lx;have wb:=T.wf b hb0.1 hb0.2 k.ly;have ef:aC ys a b=aC xs a b:=by unfold aC;rw[ea,eb]
 obtain⟨q1,q2⟩:=Ce wa wb ra rb;obtain⟨c1,c2⟩:=S9 wa wb ra rb hb.toBkW;have kf:=k.first T.st
 have rf:(ah xs (aC xs a b).1).1≠1∧(ah xs (aC xs a b).2).1≠1:=by
  unfold aC;cases aX (ah xs a).1 (ah xs a).2.1 (ah xs b).1 (ah xs b).2.1==2
  ·exact⟨ra,rb⟩
  ·exact⟨rb,ra⟩
 have hx7:(bJ (ah xs (a,b).1) (ah xs (a,b).2)).1=7→0≤(ah xs (bif (bJ (ah xs (a,b).1) (ah xs (a,b).2)).2 then(a,b).2 else(a,b).1)).2.2.1∧0≤(ah xs (bif (bJ (ah xs (a,b).1) (ah xs (a,b).2)).2 then(a,b).2 else(a,b).1)).2.1∧(ah xs (bif (bJ (ah xs (a,b).1) (ah xs (a,b).2)).2 then(a,b).2 else(a,b).1)).2.1≤8:=fun e=>by
  have e':(bJ (ah xs a) (ah xs b)).1=7:=e;obtain⟨k1,k2,k3,k4,k5⟩:=q2 (by rw[e'];decide);rw[e']at k3;have e2:(bif (bJ (ah xs (a,b).1) (ah xs (a,b).2)).2 then(a,b).2 else(a,b).1)=(aC xs a b).1:=k1;rw[e2];have w1:=T.wf (aC xs a b).1 kf.px.1 kf.px.2.1 kf.lx;have h1:=uE w1 ((iT k3 (by decide)).2.2.2.2.2.2 rfl).1;have h2:=wT w1;refine⟨h1.1,?_⟩;omega
 generalize hxy:aC xs a b=xy at*;obtain⟨x,y⟩:=xy;simp only at q1 q2 c1 c2 kf rf;have hx0:0≤x∧x<(xs.length:Nat):=⟨kf.px.1,kf.px.2.1⟩;have hy0:0≤y∧y<(xs.length:Nat):=⟨kf.py.1,kf.py.2.1⟩;have ex:=T.at_ hx0.1 hx0.2 kf.lx;have ey:=T.at_ hy0.1 hy0.2 kf.ly
 have hv:bF (ah ys (aC ys a b).1) (ah ys (aC ys a b).2)=7→0≤(ah ys (aC ys a b).1).2.2.1:=fun e=>by
  rw[ef]at e ⊢;simp only at e ⊢;rw[ex,ey]at e;rw[ex];obtain⟨k1,k2,k3,k4,k5⟩:=q2 (by rw[q1,e];decide);rw[q1,e]at k3;exact(uE (T.wf x hx0.1 hx0.2 kf.lx) ((iT k3 (by decide)).2.2.2.2.2.2 rfl).1).1
 have hly:ys.length≤800000:=by omega
 cases hge:gM bk (ah xs x) (ah xs y)with
 |mk g e=>
  rw[hge]at c1 c2
  have hgy:gM bk (ah ys (aC ys a b).1) (ah ys (aC ys a b).2)=(g,e):=by
   rw[ef];simp only;rw[ex,ey];exact hge
  have hout:TT bk ys a b=if e≠0 then e else if 600<IntKind.i64.wrap ((dh ys ys.length:Nat)+g)then 4 else 0:=by unfold TT;rw[hgy]
  by_cases he:e=0
  ·subst he;obtain⟨k1,k2,k3⟩:=c2 rfl
   have hn8:bF (ah xs x) (ah xs y)≠8:=fun e8=>by
    unfold gM at hge;rw[e8]at hge;cases hge
   obtain⟨_,_,hr,h1,h7⟩:=q2 (by rw[q1];exact hn8);rw[q1]at hr h1 h7;generalize hc:bF (ah xs x) (ah xs y)=c at*;have hc7:1≤c∧c≤7:=⟨h1,h7⟩
   have hcl:iB (ah xs x) (ah xs y)=false:=by
    unfold bF at hc;cases h:iB (ah xs x) (ah xs y)with
    |false=>rfl
    |true=>rw[h]at hc;exact absurd hc.symm hn8
   obtain⟨sx,sy,v0,tw,hln⟩:=T.next (bk:=bk) kf hb.toBkV rf.1 rf.2 hr hc7 hcl k3;have h7':c=7→0≤(ah xs x).2.2.1∧(ah xs x).2.2.1<(bk.length:Nat):=fun e=>⟨v0 e,(k3 e).1⟩
   have hlv:=T.live;have hw:IntKind.i64.wrap ((xs.length:Nat)-(kv.length:Nat))=((dh ys ys.length:Nat):Int):=by rw[←hlv,qO _ (by omega)];omega
   have hck:checkN bk xs (a,b)=(c,x,y,0):=k1
   by_cases hf:600<IntKind.i64.wrap ((dh ys ys.length:Nat)+g)
   ·refine .bad 4 (by decide) (by rw[hout,if_neg (by decide),if_pos hf]) (fun us=> ?_) (fun us pk tr=> ?_)
    ·exact Oa xs us bk kv (a,b) ha0 hb0 hb.ok hb.small hx7 hck hx0 hy0 h7' (by rw[hw,k2];exact hf)
    ·exact Yn bk ys us pk tr a b ha1 hb1 hb.small hly hv hgy hf
   ·have pA:ak ys (y,0):=by
     have:=T.st.ag.port kf.py kf.ly;exact this.1
    have wx:=T.wf x hx0.1 hx0.2 kf.lx;have lx:=wT wx;have lx2:0≤(ah xs x).2.1∧(ah xs x).2.1≤8:=by omega
    have hpos:0<xs.length:=T.rl;have hbkv:∀v:Int,0≤v→bP bk v=bP bk (v.toNat:Nat):=fun v h=>by rw[show((v.toNat:Nat):Int)=v by omega]
    have exq:ah ys (aC ys a b).1=ah xs x:=by rw[ef];exact ex
    have hnc:Sn ys a b=c:=by unfold Sn;rw[ef];show bF (ah ys x) (ah ys y)=c;rw[ex,ey];exact hc
    have hny:MX bk ys a b=fT bk ys c x y:=by unfold MX;rw[hnc,ef]
    have nx:YE bk ys a b:=by
     refine⟨?_,?_,?_⟩
     ·rw[hnc,ef];exact sy
     ·rw[hnc];exact hc7
     ·rw[hnc,ef];show c=7→0≤(ah ys x).2.2.1∧(ah ys x).2.2.1<(bk.length:Nat);rw[ex];exact h7'
    have wy:=T.wf y hy0.1 hy0.2 kf.ly
    have gl:=Xw (bk:=bk) (xs:=xs) (c:=c) (x:=x) (y:=y) hc7 (iN wy) (iN wx) (fun e=>by
     rcases(iT hr (by omega)).2.2.2.2.2.1 e with h|h
     ·exact .inl h.1
     ·exact .inr h.1) (fun e=>⟨(hb.exp (v0 e) (k3 e).1 xs (ah xs x).2.1 ((xs.length:Int)-1) rfl hpos).two,hb.tl _ (v0 e) (k3 e).1⟩)
    have hgx:bE false kv x=false:=by
     cases hq:bE false kv x with
     |false=>rfl
     |true=>exact absurd hq kf.lx
    have hgy2:bE false kv y=false:=by
     cases hq:bE false kv y with
     |false=>rfl
     |true=>exact absurd hq kf.ly
    have rl:=Yy T.kt (c:=c) hgx hgy2 kf.ne;have nl:=QI (c:=c) hb (iN wy).2 (iN wx).2 h7'
    have g2:(gD c x y).length≤2:=by
     unfold gD;cases c==7<;>simp
    have hll:=Fw ys ys.length;have hwr:IntKind.i64.wrap ((dh ys ys.length:Nat)+g)=(dh ys ys.length:Nat)+g:=qO _ (by rw[k2]at gl;omega);refine .ok (gy bk xs c x y) (kW kv (gD c x y)) (by rw[hout,if_neg (by decide),if_neg hf]) nx (fun us=> ?_) (fun us pk tr=> ?_) (by rw[hny];exact tw) (by omega) ?_ (fun w=>Fj w hx0 hy0 id id hr hc7 hb.toBkW (fun e e9=>uL hcl e9 (by have q:=(iT hr (by omega)).2.2.2.2.2.1 e;omega)) k3) (by rw[hwr]at hf;rw[k2]at gl;omega)
    ·refine TB xs us bk kv (a,b) ha0 hb0 hb.ok hb.small hx7 hck hc7 sx.toIntPre T.al T.p0 (by omega) h7' (by rw[hw,k2];exact hf) fun e us=> ?_
     have F:=hb.exp (v0 e) (k3 e).1 xs (ah xs x).2.1 ((xs.length:Int)-1) rfl hpos;have hsm:dH (bP bk (ah xs x).2.2.1):=by rw[hbkv _ (v0 e)];exact hb.small _
     have hok8:∀i:Nat,0≤(ah (bP bk (ah xs x).2.2.1) i).2.1∧(ah (bP bk (ah xs x).2.2.1) i).2.1≤8:=by rw[hbkv _ (v0 e)];exact fun i=>hb.ok _ i
     have htl:=hb.tl _ (v0 e) (k3 e).1;exact Zl (bP bk (ah xs x).2.2.1) xs us bk kv x y hx0 (h7' e) rfl (by omega) hsm F.two (by omega) F.r0 lx2 hok8 (k3 e).2 F.bs F.ps F.rs kf.py.app F.top
    ·rw[hny];refine ZO bk ys us pk tr a b ha1 hb1 hb.small hly hv (by rw[ef]) (by rw[ex,ey];exact hc) (by rw[ex,ey];exact hge) hc7 sy T.Kl T.Yw (by rw[ex];exact h7') hf fun e us=> ?_
     rw[ex];have F:=hb.exp (v0 e) (k3 e).1 ys (ah xs x).2.1 ((ys.length:Int)-1) rfl (by omega);have hsm:dH (bP bk (ah xs x).2.2.1):=by rw[hbkv _ (v0 e)];exact hb.small _
     have hok8:∀i:Nat,0≤(ah (bP bk (ah xs x).2.2.1) i).2.1∧(ah (bP bk (ah xs x).2.2.1) i).2.1≤8:=by rw[hbkv _ (v0 e)];exact fun i=>hb.ok _ i
     have htl:=hb.tl _ (v0 e) (k3 e).1;have htop:=F.top;rw[F.pe,←F.ex,Int.add_comm]at htop;exact expB (bP bk (ah xs x).2.2.1) ys us pk tr x y (ah xs x).2.1 (by rw[ex]) (by rw[←hlen];exact hx0) (by omega) hsm (by have:=F.two;omega) (by omega) (Int.ofNat_lt.1 F.r0.2.2.2) lx2 hok8 F.bt pA htop
    ·have n1:=(iN wx).2;have n2:=(iN (T.wf y hy0.1 hy0.2 kf.ly)).2;have:=QI (c:=c) hb n2 n1 h7';omega
  ·refine .bad e he (by rw[hout,if_pos he]) (fun us=> ?_) (fun us pk tr=> ?_)
   ·have h1:=c1 he;have:=Ql xs us bk kv (a,b) ha0 hb0 hb.ok hb.small hx7 (by rw[h1];exact he);rw[h1]at this;exact this
   ·exact Ze bk ys us pk tr a b ha1 hb1 hb.small hly hv hgy he
end Go.Proofs.YtcjhkgfmklgikaaGreat
namespace Go.Tr
open Go Go.RowKit
section
variable {kv:List (Int×Bool)}{xs N P:List aj}
theorem RS.ZaF(h:RS kv xs N P):(WU xs kv).length=(kH N).length∧(kH P).length=(kH N).length:=by
 obtain⟨Y,f,TY,rf⟩:=h.tx;obtain⟨k,z,TN⟩:=h.tn;obtain⟨k2,z2,g,TP,rg⟩:=h.tp;rw[TY.acts,TN.ZbL rf,TN.ZbL rg,qV,qV];exact⟨rfl,rfl⟩
theorem RS.pos(h:RS kv xs N P):0<P.length:=by
 obtain⟨k2,z2,g,TP,rg⟩:=h.tp;exact TP.pos
theorem RS.live(h:RS kv xs N P):dh P P.length+kv.length=xs.length∧dh N N.length=dh P P.length:=by
 obtain⟨Y,f,TY,rf⟩:=h.tx;obtain⟨k2,z2,g,TP,rg⟩:=h.tp;have:=TY.live;rw[rf.dh]at this;rw[rg.dh];exact⟨this,rfl⟩
end
end Go.Tr
namespace Go.Proofs.YtcjhkgfmklgikaaGreat
open Go Go.RowKit Go.Proofs Go.Tr
def ZU(xs:List aj)(p:Int×Int):Prop:=(0≤p.1∧p.1<(xs.length:Nat))∧0≤p.2∧p.2<(xs.length:Nat)
set_option maxHeartbeats 4000000 in
theorem ZbC(ys:List aj)(us:List Value)(pk:Int)(tr:List Int)(hs:dH ys)(hl:ys.length≤900000)(hA:bf ys):aA Tryz.prog 27 [.ptr 10000 0] (tB ys us pk tr) (.tup []) (U5 10003 (mI ys) [] pk tr):=by
 refine aA.intro (nt:=89) aJ mixed (by kernel_rfl) Tryz.func27 rfl rfl rfl rfl rfl rfl ?_;refine lp Nat (fun i=>[(4,.int .i64 (i:Nat)),(3,.int .i64 (iC ys i:Nat)),(2,.sl 20000)]) (fun i=>[.dD 10000 56 [.sl 10001,.sl 10002,.int .i64 pk],.row 10001 111 5 aG ys us,.row 10002 2 1 (.int .i64) tr [],.row 20000 2 1 (.int .i64) (KV ys i) []]) (fun i=>ys.length-i) (fun i=>i≤ys.length) 0 (Nat.zero_le _) ?_ ?_
 ·exact hd [(20000,9)] rfl (aI (aI rfl rfl) (aI (aI rfl rfl) (aI rfl trivial))) ⟨trivial,⟨rfl,rfl,⟨rfl,rfl⟩,trivial⟩,⟨rfl,pR _⟩,⟨rfl,nP⟩,⟨rfl,nP⟩,trivial⟩
 intro i hi;refine aI (fun q1=> ?_) (fun q1=> ?_)
 ·have hlt:i<ys.length:=by
   have q2:decide (((i:Nat):Int)<(ys.length:Nat))=true:=q1;simp only[qQ]at q2;omega
  have hbd:0≤((i:Nat):Int)∧((i:Nat):Int)<(ys.length:Nat):=by omega
  have hc:=SS ys i;have hst:iC ys (i+1)=bif dL ys i then iC ys i+1 else iC ys i:=rfl
  refine aI (show(KV ys i).length+1≤1073741824 by rw[XF];omega) ?_;refine aI hbd ?_;refine aI (fun q2=> ?_) (fun q2=> ?_)
  ·have q3:dL ys i=true:=q2;rw[q3]at hst;refine bB (i+1) hlt ?_ ?_
   ·refine hd [(20000,22)] rfl (aI (aI (eB (by omega)) rfl) (aI (aI ?_ rfl) (aI rfl trivial))) ⟨trivial,⟨rfl,rfl,⟨rfl,rfl⟩,trivial⟩,⟨rfl,pR _⟩,⟨rfl,nP⟩,⟨(WQ ys i).symm,nP⟩,trivial⟩;show IntKind.i64.wrap (((iC ys i:Nat):Int)+1)=((iC ys (i+1):Nat):Int);rw[hst];exact eB (by omega)
   ·show ys.length-(i+1)<ys.length-i;omega
  ·have q3:dL ys i=false:=q2;rw[q3]at hst;refine bB (i+1) hlt ?_ ?_
   ·refine hd [(20000,22)] rfl (aI (aI (eB (by omega)) rfl) (aI (aI ?_ rfl) (aI rfl trivial))) ⟨trivial,⟨rfl,rfl,⟨rfl,rfl⟩,trivial⟩,⟨rfl,pR _⟩,⟨rfl,nP⟩,⟨(WQ ys i).symm,nP⟩,trivial⟩;show((iC ys i:Nat):Int)=((iC ys (i+1):Nat):Int);rw[hst];rfl
   ·show ys.length-(i+1)<ys.length-i;omega
 have hie:i=ys.length:=by
  have q2:decide (((i:Nat):Int)<(ys.length:Nat))=false:=q1;simp only[qP]at q2;have hi':i≤ys.length:=hi;omega
 subst hie;refine lp Nat (fun k=>[(6,.int .i64 (k:Nat)),(2,.sl 20000),(5,.sl 20001)]) (fun k=>[.dD 10000 56 [.sl 10001,.sl 10002,.int .i64 pk],.row 10001 111 5 aG ys us,.row 10002 2 1 (.int .i64) tr [],.row 20000 2 1 (.int .i64) (KV ys ys.length) [],.row 20001 111 5 aG (iw ys k) []]) (fun k=>ys.length-k) (fun k=>k≤ys.length) 0 (Nat.zero_le _) ?_ ?_
 ·exact hd [(20001,34)] rfl (aI (aI rfl rfl) (aI rfl (aI rfl trivial))) ⟨trivial,⟨rfl,rfl,⟨rfl,rfl⟩,trivial⟩,⟨rfl,pR _⟩,⟨rfl,nP⟩,⟨rfl,nP⟩,⟨rfl,nP⟩,trivial⟩
 intro k hk;have hk':k≤ys.length:=hk;refine aI (fun q1=> ?_) (fun q1=> ?_)
 ·have hlt:k<ys.length:=by
   have q2:decide (((k:Nat):Int)<(ys.length:Nat))=true:=q1;simp only[qQ]at q2;omega
  have hbd:0≤((k:Nat):Int)∧((k:Nat):Int)<(ys.length:Nat):=by omega
  have hpl:=K4 ys k;have hst:iw ys (k+1)=bif dL ys k then iw ys k++[sG (tX ys) (ah ys (k:Nat))]else iw ys k:=rfl
  refine aI hbd ?_;refine aI (fun q2=> ?_) (fun q2=> ?_)
  ·have q3:dL ys k=true:=q2;rw[q3]at hst;refine aI hbd ?_;have hsk:=hs.2 k;have hsk2:(ah ys (k:Nat)).2.2.2.2.length≤1048576:=hsk.2;refine Or.inr (eI _ (eI _ (aI (Aq ys us ((k:Nat):Int) hsk.1 hsk.2) ?_)));refine lp Nat (fun j=>[(8,.int .i64 (j:Nat)),(2,.sl 21000),(5,.sl 21001)]) (fun j=>[.dD 7 111 [.int .i64 (ah ys (k:Nat)).1,.int .i64 (ah ys (k:Nat)).2.1,.int .i64 (ah ys (k:Nat)).2.2.1,.sl 59,.sl 21002],.dD 10000 56 [.sl 10001,.sl 10002,.int .i64 pk],.row 10001 111 5 aG ys us,.row 10002 2 1 (.int .i64) tr [],.row 21000 2 1 (.int .i64) (KV ys ys.length) [],.row 21001 111 5 aG (iw ys k) [],.row 59 2 1 (.int .i64) (ah ys (k:Nat)).2.2.2.1 [],.row 21002 86 2 aR (oJ (tX ys) (ah ys (k:Nat)).2.2.2.2 j) []]) (fun j=>(ah ys (k:Nat)).2.2.2.2.length-j) (fun j=>j≤(ah ys (k:Nat)).2.2.2.2.length) 0 (Nat.zero_le _) ?_ ?_
   ·exact hd [(21000,20000),(21001,20001),(21002,1000059)] rfl (aI (aI rfl rfl) (aI rfl (aI rfl trivial))) ⟨trivial,⟨⟨rfl,rfl⟩,⟨rfl,rfl⟩,⟨rfl,rfl⟩,rfl,rfl,trivial⟩,trivial,⟨rfl,rfl,⟨rfl,rfl⟩,trivial⟩,⟨rfl,pR _⟩,⟨rfl,nP⟩,⟨rfl,nP⟩,⟨rfl,nP⟩,⟨rfl,nP⟩,⟨rfl,nP⟩,trivial⟩
   intro j hj;have hj':j≤(ah ys (k:Nat)).2.2.2.2.length:=hj;refine aI (fun q4=> ?_) (fun q4=> ?_)
   ·have hlt2:j<(ah ys (k:Nat)).2.2.2.2.length:=by
     have q5:decide (((j:Nat):Int)<((oJ (tX ys) (ah ys (k:Nat)).2.2.2.2 j).length:Nat))=true:=q4;rw[OI]at q5;simp only[qQ]at q5;omega
    have hbnd:0≤((j:Nat):Int)∧((j:Nat):Int)<((oJ (tX ys) (ah ys (k:Nat)).2.2.2.2 j).length:Nat):=by rw[OI];omega
    have hin:ak ys (au ys (((k:Nat):Int),((j:Nat):Int))):=hA _ ⟨hbd.1,hbd.2,by show(0:Int)≤(j:Nat);omega,by show((j:Nat):Int)<((ah ys (k:Nat)).2.2.2.2.length:Nat);omega⟩;have hpe:elt (dflt aR) (oJ (tX ys) (ah ys (k:Nat)).2.2.2.2 j) ((j:Nat):Int)=au ys (((k:Nat):Int),((j:Nat):Int)):=RF hlt2;refine aI hbnd ?_;refine aI (show 0≤(elt (dflt aR) (oJ (tX ys) (ah ys (k:Nat)).2.2.2.2 j) ((j:Nat):Int)).1∧(elt (dflt aR) (oJ (tX ys) (ah ys (k:Nat)).2.2.2.2 j) ((j:Nat):Int)).1<((KV ys ys.length).length:Nat) by rw[hpe,XF];exact⟨hin.1,hin.2.1⟩) ?_
    refine aI hbnd ?_;refine aI (by kernel_rfl) ?_;refine bB (j+1) hlt2 ?_ ?_
    ·refine hd [] rfl (aI (aI (eB (by omega)) rfl) (aI rfl (aI rfl trivial))) ⟨trivial,⟨⟨rfl,rfl⟩,⟨rfl,rfl⟩,⟨rfl,rfl⟩,rfl,rfl,trivial⟩,trivial,⟨rfl,rfl,⟨rfl,rfl⟩,trivial⟩,⟨rfl,pR _⟩,⟨rfl,nP⟩,⟨rfl,nP⟩,⟨rfl,nP⟩,⟨rfl,nP⟩,⟨?_,nP⟩,trivial⟩;show(oJ (tX ys) (ah ys (k:Nat)).2.2.2.2 j).set j (elt 0 (KV ys ys.length) (elt (dflt aR) (oJ (tX ys) (ah ys (k:Nat)).2.2.2.2 j) ((j:Nat):Int)).1,(elt (dflt aR) (oJ (tX ys) (ah ys (k:Nat)).2.2.2.2 j) ((j:Nat):Int)).2)=oJ (tX ys) (ah ys (k:Nat)).2.2.2.2 (j+1);rw[Lh hlt2,RF hlt2]
     have e2:elt (dflt aR) (ah ys (k:Nat)).2.2.2.2 ((j:Nat):Int)=au ys (((k:Nat):Int),((j:Nat):Int)):=rfl;rw[e2,Yt ys hin.1 hin.2.1]
    ·show(ah ys (k:Nat)).2.2.2.2.length-(j+1)<(ah ys (k:Nat)).2.2.2.2.length-j;omega
   have hje:j=(ah ys (k:Nat)).2.2.2.2.length:=by
    have q5:decide (((j:Nat):Int)<((oJ (tX ys) (ah ys (k:Nat)).2.2.2.2 j).length:Nat))=false:=q4;rw[OI]at q5;simp only[qP]at q5;omega
   refine aI (show(iw ys k).length+1≤1073741824 by omega) ?_;refine bB (k+1) hlt ?_ ?_
   ·refine hd [(20000,21000),(20001,84)] rfl (aI (aI (eB (by omega)) rfl) (aI rfl (aI rfl trivial))) ⟨trivial,⟨rfl,rfl,⟨rfl,rfl⟩,trivial⟩,⟨rfl,pR _⟩,⟨rfl,nP⟩,⟨rfl,nP⟩,⟨?_,nP⟩,trivial⟩;show iw ys k++[((ah ys (k:Nat)).1,(ah ys (k:Nat)).2.1,(ah ys (k:Nat)).2.2.1,(ah ys (k:Nat)).2.2.2.1,oJ (tX ys) (ah ys (k:Nat)).2.2.2.2 j)]=iw ys (k+1);rw[hst,hje,OH];rfl
   ·show ys.length-(k+1)<ys.length-k;omega
  ·have q3:dL ys k=false:=q2;rw[q3]at hst;refine bB (k+1) hlt ?_ ?_
   ·exact hd [] rfl (aI (aI (eB (by omega)) rfl) (aI rfl (aI rfl trivial))) ⟨trivial,⟨rfl,rfl,⟨rfl,rfl⟩,trivial⟩,⟨rfl,pR _⟩,⟨rfl,nP⟩,⟨rfl,nP⟩,⟨hst.symm,nP⟩,trivial⟩
   ·show ys.length-(k+1)<ys.length-k;omega
 have hke:k=ys.length:=by
  have q2:decide (((k:Nat):Int)<(ys.length:Nat))=false:=q1;simp only[qP]at q2;omega
 subst hke;refine fin [(10003,20001)] (aI rfl ?_);exact⟨trivial,⟨rfl,rfl,⟨rfl,rfl⟩,trivial⟩,⟨rfl,nP⟩,⟨rfl,nP⟩,trivial⟩
theorem Zbe:bK Tryz.prog 26=true:=by kernel_rfl
theorem Zax:bK Tryz.prog 30=true:=by kernel_rfl
theorem ZbF(xs:List aj)(hs:dH xs):aA Tryz.prog 26 [.rp bO xs] [] (.ptr 10000 0) [.dD 10000 56 [.sl 10001,.raw (.slice none 0 0),.int .i64 (xs.length:Nat)],.row 10001 111 5 aG xs []]:=by
 refine aA.intro (nt:=12) aJ mixed Zbe Tryz.func26 rfl rfl rfl rfl rfl rfl ?_;refine Or.inr (eI _ (eI _ (aI (TV xs hs) ?_)));refine aI (by kernel_rfl) ?_;refine fin [(10000,11),(10001,4)] (aI rfl ?_);exact⟨trivial,⟨rfl,rfl,⟨rfl,rfl⟩,trivial⟩,⟨rfl,nP⟩,trivial⟩
abbrev tB2(xs:List aj)(pk:Int)(tr:List Int):List Tok:=[.dD 10000 56 [.sl 10003,.sl 10004,.int .i64 pk],.row 10003 111 5 aG xs [],.row 10004 2 1 (.int .i64) tr []]
theorem aA.perm{P:Program}{f:Nat}{args:List SV}{ts:List Tok}{r:SV}{ts' ts2:List Tok}(h:aA P f args ts r ts')(hp:ts'.Perm ts2):aA P f args ts r ts2:=by
 refine⟨h.1,fun cx β w fr vs hI hd=>(h.2 cx β w fr vs hI hd).mono ?_⟩;rintro e w' ⟨v,β',rfl,h1,h2,h3⟩;exact⟨v,β',rfl,h1,h2,h3.perm ((hp.map _).append_right fr)⟩
theorem ZbH(P:List aj)(pk:Int)(tr:List Int)(hl:P.length≤1000000):aA Tryz.prog 60 [.ptr 10000 0] (tB P [] pk tr) (.int .i64 (dh P P.length:Nat)) [.dD 10000 56 [.sl 10001,.sl 10002,.int .i64 pk],.row 10002 2 1 (.int .i64) tr [],.row 10001 111 5 aG P []]:=
 aA.perm (aA.o9 (ts:=tB P [] pk tr) aJ [51] Dh (MN P hl) rfl) (List.Perm.cons _ (List.Perm.swap _ _ _))
section
variable (bk:List (List aj))(P:List aj)(us:List Value)(pk:Int)(tr:List Int)(Q:Int×Int)(hQ:ZU P Q)
include hQ
theorem Zbn{code:Int}(hc:code≠0)(hB:aA Tryz.prog 58 [.rsl bO bk,.ptr 10000 0,.int .i64 Q.1,.int .i64 Q.2] (tB P us pk tr) (.int .i64 code) (tB P us pk tr)):aA Tryz.prog 30 [.rsl bO bk,.ptr 10000 0,vP Q] (tB P us pk tr) (.int .i64 code) (tB P us pk tr):=by
 refine aA.intro (nt:=60) aJ mixed Zax Tryz.func30 rfl rfl rfl rfl rfl rfl ?_;refine aI hQ.1 ?_;refine aI hQ.2 ?_;refine Or.inl (eI _ (eI _ (aI (Gn P us Q.1 Q.2) (eI [] (aI rfl ?_)))));refine aI (by kernel_rfl) ?_;refine Or.inr (eI _ (eI _ (aI hB ?_)));refine aI (by kernel_rfl) ?_;refine aI (fun q1=> ?_) (fun q1=> ?_)
 ·exact fin [] (aI ⟨rfl,rfl⟩ ⟨trivial,⟨rfl,rfl,⟨rfl,rfl⟩,trivial⟩,⟨rfl,pR _⟩,⟨rfl,nP⟩,trivial⟩)
 ·exfalso;have q2:(code !=0)=false:=q1;simp at q2;exact hc q2
theorem Zby{P':List aj}{c:Int}(hl:P'.length≤1000000)(ht:tr.length≤100000)(cQ:bF (ah P Q.1) (ah P Q.2)=c)(hB:aA Tryz.prog 58 [.rsl bO bk,.ptr 10000 0,.int .i64 Q.1,.int .i64 Q.2] (tB P us pk tr) (.int .i64 0) (U5 10003 P' [] pk tr)):aA Tryz.prog 30 [.rsl bO bk,.ptr 10000 0,vP Q] (tB P us pk tr) (.int .i64 0) (tB2 P' (G5 pk (dh P' P'.length:Nat)) (tr++[c])):=by
 have hC:=Gn P us Q.1 Q.2;rw[cQ]at hC;refine aA.intro (nt:=60) aJ mixed Zax Tryz.func30 rfl rfl rfl rfl rfl rfl ?_;refine aI hQ.1 ?_;refine aI hQ.2 ?_;refine Or.inl (eI _ (eI _ (aI hC (eI [] (aI rfl ?_)))));refine aI (by kernel_rfl) ?_;refine Or.inr (eI _ (eI _ (aI hB ?_)));refine aI (by kernel_rfl) ?_;refine aI (fun q1=>by cases q1) (fun q1=> ?_);refine aI (show tr.length+1≤1073741824 by omega) ?_;refine Or.inl (eI _ (eI _ (aI (ZbH P' pk (tr++[c]) hl) (eI [] (aI rfl ?_)))));refine Or.inl (eI _ (aI (maxS pk _) ?_));refine aI (by kernel_rfl) ?_;refine fin [(10003,34),(10004,45)] (aI ⟨rfl,rfl⟩ ?_)
 exact⟨trivial,⟨rfl,rfl,⟨rfl,rfl⟩,trivial⟩,⟨rfl,nP⟩,⟨rfl,nP⟩,trivial⟩
end
end Go.Proofs.YtcjhkgfmklgikaaGreat
namespace Go.Proofs.YtcjhkgfmklgikaaGreat
open Go Go.RowKit Go.Proofs Go.Tr
abbrev tU(xs:List aj)(us:List Value)(bk:List (List aj))(kv:List (Int×Bool))(cn tr cu ex:List Int):List Tok:=[.dD 10000 71 [.ptr 10001 0,.sl 10004,.sl 10005,.sl 10006,.sl 10007],.dD 10001 78 [.sl 10002,.rsl bO bk,.mp 10003],.row 10002 111 5 aG xs us,.map 10003 .bool kv,.row 10004 2 1 (.int .i64) cn [],.row 10005 2 1 (.int .i64) tr [],.row 10006 2 1 (.int .i64) cu [],.row 10007 2 1 (.int .i64) ex []]
section
variable (xs:List aj)(us:List Value)(bk:List (List aj))(kv:List (Int×Bool))(cn tr cu ex:List Int)
theorem ZbA:aA Tryz.prog 35 [.ptr 10000 0] (tU xs us bk kv cn tr cu ex) (.int .i64 (tr.length:Nat)) (tU xs us bk kv cn tr cu ex):=by
 refine aA.intro (nt:=8) aJ mixed (by kernel_rfl) Tryz.func35 rfl rfl rfl rfl rfl rfl ?_;refine fin [] (aI ⟨rfl,rfl⟩ ?_);exact⟨trivial,⟨rfl,rfl,rfl,rfl,rfl,trivial⟩,trivial,⟨rfl,rfl,rfl,trivial⟩,⟨rfl,pR _⟩,rfl,⟨rfl,nP⟩,⟨rfl,nP⟩,⟨rfl,nP⟩,⟨rfl,nP⟩,trivial⟩
end
end Go.Proofs.YtcjhkgfmklgikaaGreat
namespace Go.Proofs.YtcjhkgfmklgikaaGreat
open Go Go.RowKit Go.Proofs Go.Tr
section
variable (xs:List aj)(us:List Value)(bk:List (List aj))(kv:List (Int×Bool))(cn tr cu ex:List Int)
def tCU:List Tok:=[.dD 10000 64 [.ptr 10001 0],.dD 10001 71 [.ptr 10002 0,.sl 10005,.sl 10006,.sl 10007,.sl 10008],.dD 10002 78 [.sl 10003,.rsl bO bk,.mp 10004],.row 10003 111 5 aG xs us,.map 10004 .bool kv,.row 10005 2 1 (.int .i64) cn [],.row 10006 2 1 (.int .i64) tr [],.row 10007 2 1 (.int .i64) cu [],.row 10008 2 1 (.int .i64) ex []]
def tKU(ps:List (Int×Int)):List Tok:=[.row 10000 62 2 aR ps [],.dD 10001 64 [.ptr 10002 0],.dD 10002 71 [.ptr 10003 0,.sl 10006,.sl 10007,.sl 10008,.sl 10009],.dD 10003 78 [.sl 10004,.rsl bO bk,.mp 10005],.row 10004 111 5 aG xs us,.map 10005 .bool kv,.row 10006 2 1 (.int .i64) cn [],.row 10007 2 1 (.int .i64) tr [],.row 10008 2 1 (.int .i64) cu [],.row 10009 2 1 (.int .i64) ex []]
def tDU(ps:List (Int×Int)):List Tok:=[.row 10010 62 2 aR ps [],.dD 10001 64 [.ptr 10002 0],.dD 10002 71 [.ptr 10003 0,.sl 10006,.sl 10007,.sl 10008,.sl 10009],.dD 10003 78 [.sl 10004,.rsl bO bk,.mp 10005],.row 10004 111 5 aG xs us,.map 10005 .bool kv,.row 10006 2 1 (.int .i64) cn [],.row 10007 2 1 (.int .i64) tr [],.row 10008 2 1 (.int .i64) cu [],.row 10009 2 1 (.int .i64) ex []]
theorem Zbz(p:Int×Int):aA Tryz.prog 68 [vP p,.ptr 10000 0] (tCU xs us bk kv cn tr cu ex) (.bool (bE false kv p.1)) (tCU xs us bk kv cn tr cu ex):=by
 refine aA.intro (nt:=14) aJ mixed (by kernel_rfl) Tryz.func68 rfl rfl rfl rfl rfl rfl ?_;refine aI (by kernel_rfl) ?_;refine fin [] (aI rfl ?_);exact⟨trivial,⟨rfl,trivial⟩,trivial,⟨rfl,rfl,rfl,rfl,rfl,trivial⟩,trivial,⟨rfl,rfl,rfl,trivial⟩,⟨rfl,pR _⟩,rfl,⟨rfl,nP⟩,⟨rfl,nP⟩,⟨rfl,nP⟩,⟨rfl,nP⟩,trivial⟩
theorem idxU(ps:List (Int×Int))(hl:ps.length≤1000000):aA Tryz.prog 125 [.sl 10000,.fn 68 [.ptr 10001 0]] (tKU xs us bk kv cn tr cu ex ps) (.int .i64 (zh (MG kv) ps 0)) (tKU xs us bk kv cn tr cu ex ps):=by
 refine aA.intro (nt:=19) aJ mixed (by kernel_rfl) Tryz.func125 rfl rfl rfl rfl rfl rfl ?_;refine lp Nat (fun i=>[(8,.int .i64 (i:Nat))]) (fun _=>tKU xs us bk kv cn tr cu ex ps) (fun i=>ps.length-i) (fun i=>i≤ps.length∧zh (MG kv) ps 0=zh (MG kv) (ps.drop i) i) 0 ⟨Nat.zero_le _,rfl⟩ ?_ ?_
 ·exact hd [] rfl (aI (aI rfl rfl) trivial) ⟨⟨rfl,nP⟩,trivial,⟨rfl,trivial⟩,trivial,⟨rfl,rfl,rfl,rfl,rfl,trivial⟩,trivial,⟨rfl,rfl,rfl,trivial⟩,⟨rfl,pR _⟩,rfl,⟨rfl,nP⟩,⟨rfl,nP⟩,⟨rfl,nP⟩,⟨rfl,nP⟩,trivial⟩
 rintro i ⟨hi,he⟩;refine aI (fun q1=> ?_) (fun q1=> ?_)
 ·have hlt:i<ps.length:=ltU q1;refine aI (show 0≤((i:Nat):Int)∧((i:Nat):Int)<(ps.length:Nat) by omega) ?_;refine Or.inr (eI _ (eI _ (aI (Zbz xs us bk kv cn tr cu ex (ps.getD i (0,0))) ?_)));rw[Vu (0,0) hlt]at he;refine aI (fun q2=> ?_) (fun q2=> ?_)
  ·rw[he,show zh (MG kv) (ps.getD i (0,0)::ps.drop (i+1)) i=i by unfold zh;rw[show MG kv (ps.getD i (0,0))=true from q2];rfl];exact fin [] (aI ⟨rfl,rfl⟩ ⟨⟨rfl,nP⟩,trivial,⟨rfl,trivial⟩,trivial,⟨rfl,rfl,rfl,rfl,rfl,trivial⟩,trivial,⟨rfl,rfl,rfl,trivial⟩,⟨rfl,pR _⟩,rfl,⟨rfl,nP⟩,⟨rfl,nP⟩,⟨rfl,nP⟩,⟨rfl,nP⟩,trivial⟩)
  ·refine bB (i+1) ⟨hlt,?_⟩ ?_ ?_
   ·rw[he]
    conv=>lhs;unfold zh
    rw[show MG kv (ps.getD i (0,0))=false from q2];rfl
   ·exact hd [] rfl (aI (aI (eB (by omega)) rfl) trivial) ⟨⟨rfl,nP⟩,trivial,⟨rfl,trivial⟩,trivial,⟨rfl,rfl,rfl,rfl,rfl,trivial⟩,trivial,⟨rfl,rfl,rfl,trivial⟩,⟨rfl,pR _⟩,rfl,⟨rfl,nP⟩,⟨rfl,nP⟩,⟨rfl,nP⟩,⟨rfl,nP⟩,trivial⟩
   ·show ps.length-(i+1)<ps.length-i;omega
 ·have hge:ps.length≤i:=geU q1;have hie:i=ps.length:=by omega
  subst hie;rw[he,List.drop_length];exact fin [] (aI ⟨rfl,rfl⟩ ⟨⟨rfl,nP⟩,trivial,⟨rfl,trivial⟩,trivial,⟨rfl,rfl,rfl,rfl,rfl,trivial⟩,trivial,⟨rfl,rfl,rfl,trivial⟩,⟨rfl,pR _⟩,rfl,⟨rfl,nP⟩,⟨rfl,nP⟩,⟨rfl,nP⟩,⟨rfl,nP⟩,trivial⟩)
structure DelU(ps:List (Int×Int))(s:Nat×Nat×List (Int×Int)):Prop where
 le:s.1<s.2.1∧s.2.1≤ps.length
 len:s.2.2.length=ps.length
 front:s.2.2.take s.1=(ps.take s.2.1).filter fun p=> !(MG kv p)
 rest:s.2.2.drop s.2.1=ps.drop s.2.1
set_option maxHeartbeats 4000000 in
theorem delU(ps:List (Int×Int))(hl:ps.length≤1000000):aA Tryz.prog 66 [.sl 10000,.fn 68 [.ptr 10001 0]] (tKU xs us bk kv cn tr cu ex ps) (.sl 10010) (tDU xs us bk kv cn tr cu ex (ps.filter fun p=> !(MG kv p))):=by
 refine aA.intro (nt:=42) aJ mixed (by kernel_rfl) Tryz.func66 rfl rfl rfl rfl rfl rfl ?_;refine Or.inr (eI _ (eI _ (aI (idxU xs us bk kv cn tr cu ex ps hl) ?_)));refine aI (fun q1=> ?_) (fun q1=> ?_)
 ·have q2:(zh (MG kv) ps 0== -1)=true:=q1;refine fin [(10010,10000)] (aI rfl ?_);refine⟨⟨?_,nP⟩,trivial,⟨rfl,trivial⟩,trivial,⟨rfl,rfl,rfl,rfl,rfl,trivial⟩,trivial,⟨rfl,rfl,rfl,trivial⟩,⟨rfl,pR _⟩,rfl,⟨rfl,nP⟩,⟨rfl,nP⟩,⟨rfl,nP⟩,⟨rfl,nP⟩,trivial⟩;exact(filter_all (Qi ps 0 (Int.le_refl 0) (by simpa using q2))).symm
 have q2:(zh (MG kv) ps 0== -1)=false:=q1;obtain⟨m,e1,hm,e2,e3⟩:=Qj (g:=MG kv) (0,0) ps 0 (by simpa using q2);rw[Int.zero_add]at e1;rw[e1];refine lp (Nat×Nat×List (Int×Int)) (fun s=>[(5,.int .i64 (s.1:Nat)),(6,.int .i64 (s.2.1:Nat))]) (fun s=>tKU xs us bk kv cn tr cu ex s.2.2) (fun s=>ps.length-s.2.1) (DelU kv ps) (m,m+1,ps) ⟨⟨by show m<m+1;omega,by show m+1≤ps.length;omega⟩,rfl,?_,rfl⟩ ?_ ?_
 ·show ps.take m=(ps.take (m+1)).filter fun p=> !(MG kv p)
  rw[List.take_add_one,List.filter_append,filter_all e2];have e4:MG kv ps[m]=true:=by rw[←e3,qC,qB hm];rfl
  rw[show ps[m]?.toList=[ps[m]] by rw[qB hm];rfl,Tn e4,qS]
 ·exact hd [] rfl (aI (aI rfl rfl) (aI (aI (eB (by omega)) rfl) trivial)) ⟨⟨rfl,nP⟩,trivial,⟨rfl,trivial⟩,trivial,⟨rfl,rfl,rfl,rfl,rfl,trivial⟩,trivial,⟨rfl,rfl,rfl,trivial⟩,⟨rfl,pR _⟩,rfl,⟨rfl,nP⟩,⟨rfl,nP⟩,⟨rfl,nP⟩,⟨rfl,nP⟩,trivial⟩
 rintro⟨i,j,zs⟩ ⟨⟨h1,h2⟩,h3,h4,h5⟩;have h1':i<j:=h1;have h2':j≤ps.length:=h2;have h3':zs.length=ps.length:=h3;have h4':zs.take i=(ps.take j).filter fun p=> !(MG kv p):=h4
 have h5':zs.drop j=ps.drop j:=h5;refine aI (fun q3=> ?_) (fun q3=> ?_)
 ·have hlt:j<zs.length:=ltU q3;have hjp:j<ps.length:=by omega
  refine aI (show 0≤((j:Nat):Int)∧((j:Nat):Int)<(zs.length:Nat) by omega) ?_;refine Or.inr (eI _ (eI _ (aI (Zbz xs us bk kv cn tr cu ex (zs.getD j (0,0))) ?_)))
  have hz:zs.getD j (0,0)=ps.getD j (0,0):=by
   have a:=Vu (0,0) hlt;have b:=Vu (0,0) hjp;rw[a,b]at h5';exact(List.cons.inj h5').1
  have h5n:zs.drop (j+1)=ps.drop (j+1):=by
   have a:=Vu (0,0) hlt;have b:=Vu (0,0) hjp;rw[a,b]at h5';exact(List.cons.inj h5').2
  have ht:ps.take (j+1)=ps.take j++[ps.getD j (0,0)]:=by rw[List.take_add_one,qB hjp,qC,qB hjp];rfl
  refine aI (fun q4=> ?_) (fun q4=> ?_)
  ·have q5:MG kv (zs.getD j (0,0))=false:=Eq.mp (Bool.not_eq_true' _) q4;rw[hz]at q5;refine aI (show 0≤((i:Nat):Int)∧((i:Nat):Int)<(zs.length:Nat) by omega) ?_;refine bB (i+1,j+1,zs.set i (zs.getD j (0,0))) ⟨⟨by show i+1<j+1;omega,by show j+1≤ps.length;omega⟩,by show(zs.set i _).length=_;rw[List.length_set];exact h3',?_,?_⟩ ?_ ?_
   ·show(zs.set i (zs.getD j (0,0))).take (i+1)=(ps.take (j+1)).filter fun p=> !(MG kv p)
    rw[ht,List.filter_append,←h4',hz,Yb (by omega),Vy q5]
   ·show(zs.set i (zs.getD j (0,0))).drop (j+1)=ps.drop (j+1);rw[List.drop_set_of_lt (by omega)];exact h5n
   ·exact hd [] rfl (aI (aI (eB (by omega)) rfl) (aI (aI (eB (by omega)) rfl) trivial)) ⟨⟨rfl,nP⟩,trivial,⟨rfl,trivial⟩,trivial,⟨rfl,rfl,rfl,rfl,rfl,trivial⟩,trivial,⟨rfl,rfl,rfl,trivial⟩,⟨rfl,pR _⟩,rfl,⟨rfl,nP⟩,⟨rfl,nP⟩,⟨rfl,nP⟩,⟨rfl,nP⟩,trivial⟩
   ·show ps.length-(j+1)<ps.length-j;omega
  ·have q5:MG kv (zs.getD j (0,0))=true:=Eq.mp (Bool.not_eq_false' _) q4;rw[hz]at q5;refine bB (i,j+1,zs) ⟨⟨by show i<j+1;omega,by show j+1≤ps.length;omega⟩,h3',?_,h5n⟩ ?_ ?_
   ·show zs.take i=(ps.take (j+1)).filter fun p=> !(MG kv p)
    rw[ht,List.filter_append,←h4',Tn q5,qS]
   ·exact hd [] rfl (aI (aI rfl rfl) (aI (aI (eB (by omega)) rfl) trivial)) ⟨⟨rfl,nP⟩,trivial,⟨rfl,trivial⟩,trivial,⟨rfl,rfl,rfl,rfl,rfl,trivial⟩,trivial,⟨rfl,rfl,rfl,trivial⟩,⟨rfl,pR _⟩,rfl,⟨rfl,nP⟩,⟨rfl,nP⟩,⟨rfl,nP⟩,⟨rfl,nP⟩,trivial⟩
   ·show ps.length-(j+1)<ps.length-j;omega
 ·have hge:zs.length≤j:=geU q3;have hje:j=ps.length:=by omega
  subst hje;rw[List.take_length]at h4';have hli:(zs.take i).length=i:=by rw[List.length_take];omega
  refine aI (show 0≤((i:Nat):Int)∧((i:Nat):Int)<(zs.length:Nat) by omega) ?_;refine aI (show i+(zs.length-i)=zs.length by omega) ?_;refine aI ?_ ?_
  ·show 0≤((i:Nat):Int)∧((i:Nat):Int)≤(((zs.take i++List.replicate (zs.length-i) (dflt aR)).length:Nat):Int);rw[qA,List.length_replicate,hli];omega
  refine fin [(10010,41)] (aI rfl ?_);refine⟨⟨?_,nP⟩,trivial,⟨rfl,trivial⟩,trivial,⟨rfl,rfl,rfl,rfl,rfl,trivial⟩,trivial,⟨rfl,rfl,rfl,trivial⟩,⟨rfl,pR _⟩,rfl,⟨rfl,nP⟩,⟨rfl,nP⟩,⟨rfl,nP⟩,⟨rfl,nP⟩,trivial⟩;show(zs.take i++List.replicate (zs.length-i) (dflt aR)).take i=ps.filter fun p=> !(MG kv p)
  rw[←h4',List.take_left' hli]
end
theorem Zbp(xs:List aj)(us:List Value)(bk:List (List aj))(kv:List (Int×Bool))(cn tr cu ex:List Int)(hl:xs.length≤1000000)(hp:Vf xs):aA Tryz.prog 33 [.ptr 10000 0] (tU xs us bk kv cn tr cu ex) (.sl 10008) (.row 10008 62 2 aR (WU xs kv) []::tU xs us bk kv cn tr cu ex):=by
 refine aA.intro (nt:=12) aJ mixed (by kernel_rfl) Tryz.func33 rfl rfl rfl rfl rfl rfl ?_;refine Or.inr (eI _ (eI _ (aI (ZbK xs us bk kv hl hp) ?_)));refine Or.inr (eI _ (eI _ (aI (delU xs us bk kv cn tr cu ex (sP (WR xs) xs xs.length) (Nat.le_trans (Ro _ _ _) hl)) ?_)));refine fin [(10008,11)] (aI rfl ?_);exact⟨⟨rfl,nP⟩,trivial,⟨rfl,rfl,rfl,rfl,rfl,trivial⟩,trivial,⟨rfl,rfl,rfl,trivial⟩,⟨rfl,pR _⟩,rfl,⟨rfl,nP⟩,⟨rfl,nP⟩,⟨rfl,nP⟩,⟨rfl,nP⟩,trivial⟩
end Go.Proofs.YtcjhkgfmklgikaaGreat
namespace Go.Tr
open Go Go.RowKit
def ZaL(cn:List Int):Prop:=cn.length=7∧∀z∈cn,0≤z∧z≤1000000
def Zaf(cn:List Int)(c:Int):List Int:=cn.set (c-1).toNat (elt 0 cn (c-1)+1)
theorem ZbG{cn:List Int}(h:ZaL cn){k:Int}(h0:0≤k)(h7:k<7):0≤elt 0 cn k∧elt 0 cn k≤1000000:=by
 have h1:=h.1;unfold elt;rw[qC,qB (by omega)];exact h.2 _ (List.getElem_mem _)
theorem Zaz{cn:List Int}(h:ZaL cn){c:Int}(hc:1≤c∧c≤7):0≤IntKind.i64.wrap (c-1)∧IntKind.i64.wrap (c-1)<(cn.length:Nat):=by
 have:=h.1;rw[qO _ (by omega)];omega
theorem ZaA{cn:List Int}(h:ZaL cn){c:Int}(hc:1≤c∧c≤7):cn.set (IntKind.i64.wrap (c-1)).toNat (IntKind.i64.wrap (elt 0 cn (IntKind.i64.wrap (c-1))+1))=Zaf cn c:=by
 have:=ZbG h (k:=c-1) (by omega) (by omega);rw[qO (c-1) (by omega),qO _ (by omega)];rfl
end Go.Tr
namespace Go.Proofs.YtcjhkgfmklgikaaGreat
open Go Go.RowKit Go.Proofs Go.Tr
theorem Zbb(xs:List aj)(bk:List (List aj))(h:dH xs):aA Tryz.prog 36 [.rsl bO bk,.agg [.sl 10000]] [.row 10000 111 5 aG xs []] (.ptr 10001 0) [.dD 10001 78 [.sl 10002,.rsl bO bk,.mp 10003],.row 10002 111 5 aG xs [],.map 10003 .bool []]:=by
 refine aA.intro (nt:=11) aJ mixed ZaN Tryz.func36 rfl rfl rfl rfl rfl rfl ?_;refine Or.inr (eI _ (eI _ (aI (aA.Ey (r2:=.agg [.sl 10001]) (ts2:=[.row 10001 111 5 aG xs []]) aJ [30] Zaw (Ci xs h) rfl rfl rfl) ?_)));refine fin [(10001,10),(10002,6),(10003,8)] (aI rfl ?_);exact⟨trivial,⟨rfl,rfl,rfl,trivial⟩,⟨rfl,nP⟩,rfl,trivial⟩
section
variable (xs:List aj)(us:List Value)(bk:List (List aj))(kv:List (Int×Bool))(cn tr cu ex:List Int)(X:Int×Int)(hX:ZU xs X)
include hX
end
end Go.Proofs.YtcjhkgfmklgikaaGreat
namespace Go.Tr
open Go Go.RowKit
def Zab(tr:List Int):List Int:=tr.foldl Zaf (List.replicate 7 0)
theorem Zav(tr:List Int)(c:Int):Zab (tr++[c])=Zaf (Zab tr) c:=by unfold Zab;rw[List.foldl_append];rfl
theorem Za2{cn:List Int}{k:Nat}(h:cn.length=7∧∀z∈cn,0≤z∧z≤(k:Int))(c:Int):(Zaf cn c).length=7∧∀z∈Zaf cn c,0≤z∧z≤((k+1:Nat):Int):=by
 unfold Zaf;refine⟨by rw[List.length_set];exact h.1,fun z hz=> ?_⟩;rcases List.mem_or_eq_of_mem_set hz with e|e
 ·have:=h.2 z e;omega
 ·subst e
  have:0≤elt 0 cn (c-1)∧elt 0 cn (c-1)≤(k:Int):=by
   unfold elt;rw[qC];cases hg:cn[(c-1).toNat]? with
   |none=>exact⟨Int.le_refl 0,by show(0:Int)≤k;omega⟩
   |some z=>exact h.2 z (List.mem_of_getElem? hg)
  omega
theorem ZaD:∀(tr:List Int) (cn:List Int) (k:Nat),(cn.length=7∧∀z∈cn,0≤z∧z≤(k:Int))→(tr.foldl Zaf cn).length=7∧∀z∈tr.foldl Zaf cn,0≤z∧z≤((k+tr.length:Nat):Int)
 |[],cn,k,h=>h
 |c::tr,cn,k,h=>by
  rw[List.foldl_cons,qI];have:=ZaD tr _ _ (Za2 h c);rw[show k+1+tr.length=k+(tr.length+1) by omega]at this;exact this
theorem Zae{tr:List Int}(h:tr.length≤100000):ZaL (Zab tr):=by
 have:=ZaD tr (List.replicate 7 0) 0 ⟨rfl,fun z hz=>by rw[List.eq_of_mem_replicate hz];exact⟨Int.le_refl 0,Int.le_refl 0⟩⟩;exact⟨this.1,fun z hz=>by have:=this.2 z hz;omega⟩
theorem Zas(ys:List aj):∀n:Nat,(iw ys n).length=iC ys n
 |0=>rfl
 |n+1=>by
  show(bif dL ys n then iw ys n++[sG (tX ys) (ah ys (n:Nat))]else iw ys n).length=bif dL ys n then iC ys n+1 else iC ys n
  have ih:=Zas ys n;cases dL ys n
  ·exact ih
  ·simp only[qG,qA,qJ];omega
theorem Zay(ys:List aj):(mI ys).length=dh ys ys.length:=by
 rw[uQ];exact Zas ys ys.length
def Zbt(al:Bool)(P:List aj):List aj:=bif al then mI P else bif decide (1200<(P.length:Int))then mI P else P
structure ZL where
 kv:List (Int×Bool)
 xs:List aj
 N:List aj
 P:List aj
 cn:List Int
 tr:List Int
 cu:List Int
 ex:List Int
 df:List Int
structure GOk(bk:List (List aj))(s:ZL):Prop where
 rs:RS s.kv s.xs s.N s.P
 lx:s.xs.length≤2400
 lp:s.P.length≤1800
 lv:s.xs.length≤s.kv.length+600
 cn:s.cn=Zab s.tr
 ct:∀z∈s.tr,1≤z∧z≤7
 cu:s.cu.length=s.tr.length+1
 ex:s.ex.length≤s.tr.length
 eb:∀z∈s.ex,0≤z∧z<(bk.length:Nat)
 tr:s.tr.length≤4000
 df:s.df.filter (fun z=>decide (0≤z))=s.ex
 dl:s.df.length=s.tr.length
section
variable {bk:List (List aj)}{s:ZL}
theorem GOk.ref(g:GOk bk s)(al:Bool):(∃N1,RS s.kv s.xs N1 (Zbt al s.P))∧(Zbt al s.P).length≤1200:=by
 have hl:=g.rs.live;have h3:=g.lv
 have hp:(∃N1,RS s.kv s.xs N1 (mI s.P))∧(mI s.P).length≤1200:=by
  obtain⟨h1,h2⟩:=g.rs.ZX;refine⟨⟨mI s.N,by rw[h2];exact h1⟩,?_⟩;rw[Zay];omega
 unfold Zbt;cases al with
 |true=>exact hp
 |false=>
  cases hd:decide (1200<(s.P.length:Int))with
  |false=>
   refine⟨⟨s.N,g.rs⟩,?_⟩;have:¬1200<(s.P.length:Int):=by simpa using hd
   show s.P.length≤1200;omega
  |true=>exact hp
theorem GOk.ZaF(g:GOk bk s)(al:Bool):(WU s.xs s.kv).length=(kH (Zbt al s.P)).length:=by
 obtain⟨⟨N1,h⟩,_⟩:=g.ref al;rw[h.ZaF.1,h.ZaF.2]
theorem RS.small{kv:List (Int×Bool)}{xs N P:List aj}(h:RS kv xs N P)(hl:P.length≤100000):dH P∧bf P:=by
 obtain⟨k,z,g,T,_⟩:=h.tp;refine⟨⟨by omega,fun i=> ?_⟩,T.Kl⟩;have hlen:=T.len
 by_cases hi:i<P.length
 ·cases hv:dL P i with
  |true=>
   have w:=T.MO hi hv;have w1:=wf_data w;have w2:=(iN w).2;exact⟨by show(ah P (i:Nat)).2.2.2.1.length≤1048576;omega,by show(ah P (i:Nat)).2.2.2.2.length≤1048576;omega⟩
  |false=>
   have e:ah P (i:Nat)=Ba:=by
    rw[T.dL (by omega)]at hv
    have hg:Gone k ((i:Nat):Int):=by
     show bE false k ((i:Nat):Int)=true;cases hq:bE false k ((i:Nat):Int)with
     |true=>rfl
     |false=>rw[hq]at hv;cases hv
    exact(T.hole _ hg).2
   rw[e];decide
 ·rw[sZ (by omega)];decide
end
end Go.Tr
namespace Go.Proofs.YtcjhkgfmklgikaaGreat
open Go Go.RowKit Go.Proofs Go.Tr
variable (al:Bool)(bk:List (List aj))(sch:List Int)(most:Int)
variable {al bk sch most}
end Go.Proofs.YtcjhkgfmklgikaaGreat
namespace Go.Proofs.YtcjhkgfmklgikaaGreat
open Go Go.RowKit Go.Proofs Go.Tr
theorem Zbk(ys:List aj)(us:List Value)(pk:Int)(tr:List Int)(hl:ys.length≤1000000)(h0:0<ys.length)(hp:∀i:Nat,i<ys.length→dL ys i=true→0<(ah ys (i:Nat)).2.2.2.2.length):
  aA Tryz.prog 28 [.ptr 10000 0] (tB ys us pk tr) (.sl 10003) ([.row 10003 62 2 aR (kH ys) []]++tB ys us pk tr):=
 aA.Ey (ts2:=[.row 10003 62 2 aR (kH ys) []]) aJ [51] Zbg (ZbJ ys hl h0 hp) rfl rfl rfl
section
variable (bk:List (List aj))(sch:List Int)(most:Int)
abbrev tU0(s:ZL):List Tok:=[.dD 10000 71 [.ptr 10001 0,.sl 10004,.raw (.slice none 0 0),.sl 10005,.raw (.slice none 0 0)],.dD 10001 78 [.sl 10002,.rsl bO bk,.mp 10003],.row 10002 111 5 aG s.xs [],.map 10003 .bool s.kv,.row 10004 2 1 (.int .i64) s.cn [],.row 10005 2 1 (.int .i64) s.cu []]
end
end Go.Proofs.YtcjhkgfmklgikaaGreat
namespace Go.Tr
open Go Go.RowKit
end Go.Tr
namespace Go.Proofs.YtcjhkgfmklgikaaGreat
open Go Go.RowKit Go.Proofs Go.Tr
section
variable (a0:List aO){A0:Option Addr}{c0:Nat}{p0:List Nat}(a1:aO){p1:List Nat}{u1:List Value}(a2:List Int){A2:Option Addr}{c2:Nat}{p2:List Nat}(a3:Int)(r0:List aP)(r1:Int)
end
end Go.Proofs.YtcjhkgfmklgikaaGreat
namespace Go.Proofs.YtcjhkgfmklgikaaGreat
open Go Go.RowKit Go.Proofs Go.Tr
theorem Zbh:bK Tryz.prog 32=true:=by kernel_rfl
abbrev g0(xs:List aj):ZL:=⟨[],xs,xs,xs,List.replicate 7 0,[],[(xs.length:Int)],[],[]⟩
section
variable (bk:List (List aj))(xs:List aj)(sch:List Int)(st:Int)
theorem Zbq(h:dH xs):aA Tryz.prog 65 [.rsl bO bk,.agg [.rsl aG xs]] [] (.ptr 10000 0) (tU0 bk (g0 xs)):=by
 refine aA.intro (nt:=15) aJ mixed (by kernel_rfl) Tryz.func65 rfl rfl rfl rfl rfl rfl ?_;refine Or.inr (eI _ (eI _ (aI (VN xs bk h) ?_)));refine aI (by decide) ?_;refine aI (by kernel_rfl) ?_;refine fin [(10000,14),(10001,7),(10002,1000007),(10003,2000007),(10004,8),(10005,12)] (aI rfl ?_);exact⟨trivial,⟨rfl,rfl,rfl,rfl,rfl,trivial⟩,trivial,⟨rfl,rfl,rfl,trivial⟩,⟨rfl,nP⟩,rfl,⟨rfl,nP⟩,⟨rfl,nP⟩,trivial⟩
theorem Zar(h:nT (lF bk xs) (dM sch&&dS st 0 4000)=0):lF bk xs=true∧dM sch=true∧dS st 0 4000=true:=by
 revert h;cases lF bk xs<;>cases dM sch<;>cases dS st 0 4000<;>simp[nT]
theorem ZbB(q:(bif (bif !dM sch then true else decide (st<0))then true else decide (4000<st))=true):(dM sch&&dS st 0 4000)=false:=by
 rw[←Vm];unfold Bu;simp only[List.any_cons,List.any_nil,Bool.or_false];revert q;cases dM sch<;>cases decide (st<0)<;>cases decide (4000<st)<;>simp
theorem ZbQ(q:(bif (bif !dM sch then true else decide (st<0))then true else decide (4000<st))=false):(dM sch&&dS st 0 4000)=true:=by
 rw[←Vm];unfold Bu;simp only[List.any_cons,List.any_nil,Bool.or_false];revert q;cases dM sch<;>cases decide (st<0)<;>cases decide (4000<st)<;>simp
theorem Zbs{c:Int}(h:nT (lF bk xs) (dM sch&&dS st 0 4000)=c)(hc:c≠0):aA Tryz.prog 32 [.rsl bO bk,.agg [.rsl aG xs],.rsl (.int .i64) sch,.int .i64 st] [] (.tup [.raw (.pointer none),.int .i64 c]) []:=by
 refine aA.intro (nt:=34) aJ mixed Zbh Tryz.func32 rfl rfl rfl rfl rfl rfl ?_;refine Or.inl (eI _ (aI (U6 bk) ?_));refine Or.inl (eI _ (aI (fun _=>XC xs) ?_));refine aI (fun q=> ?_) (fun q=> ?_)
 ·have e:c=1:=by rw[←h,R8 bk xs q];rfl
  subst e;exact fin [] (aI rfl trivial)
 have hv:=Vb bk xs q;refine Or.inl (eI _ (aI (RL sch) ?_));refine aI (fun q2=> ?_) (fun q2=> ?_)
 ·have e:c=2:=by rw[←h,hv,ZbB sch st q2];rfl
  subst e;exact fin [] (aI rfl trivial)
 ·exfalso;rw[hv,ZbQ sch st q2]at h;exact hc h.symm
theorem Zbm(hs:dH xs)(h:nT (lF bk xs) (dM sch&&dS st 0 4000)=0):aA Tryz.prog 32 [.rsl bO bk,.agg [.rsl aG xs],.rsl (.int .i64) sch,.int .i64 st] [] (.tup [.ptr 10000 0,.int .i64 0]) (tU0 bk (g0 xs)):=by
 obtain⟨hv,hsc,hi⟩:=Zar bk xs sch st h;refine aA.intro (nt:=34) aJ mixed Zbh Tryz.func32 rfl rfl rfl rfl rfl rfl ?_;refine Or.inl (eI _ (aI (U6 bk) ?_));refine Or.inl (eI _ (aI (fun _=>XC xs) ?_));refine aI (fun q=> ?_) (fun q=> ?_)
 ·have e:=R8 bk xs q;rw[hv]at e;cases e
 refine Or.inl (eI _ (aI (RL sch) ?_));refine aI (fun q2=> ?_) (fun q2=> ?_)
 ·have e:=ZbB sch st q2;rw[hsc,hi]at e;cases e
 refine Or.inr (eI _ (eI _ (aI (Zbq bk xs hs) ?_)));refine fin [(10000,33),(10001,1000033),(10002,2000033),(10003,3000033),(10004,4000033),(10005,5000033)] (aI rfl ?_);exact⟨trivial,⟨rfl,rfl,rfl,rfl,rfl,trivial⟩,trivial,⟨rfl,rfl,rfl,trivial⟩,⟨rfl,nP⟩,rfl,⟨rfl,nP⟩,⟨rfl,nP⟩,trivial⟩
theorem ZbE:aA Tryz.prog 25 [.rsl bO bk,.ptr 10000 0,.rsl (.int .i64) sch,.int .i64 st] [.dD 10000 30 [.rsl aG xs]] (.int .i64 (nT (lF bk xs) (dM sch&&dS st 0 4000))) [.dD 10000 30 [.rsl aG xs]]:=aA.o9 aJ [0,51,0,0] Zbd (YJ bk xs sch st) rfl
end
theorem ZaU{bk:List (List aj)}{xs:List aj}{sch:List Int}{st:Int}(h:nT (lF bk xs) (dM sch&&dS st 0 4000)=0):dH xs:=by
 obtain⟨hv,_,_⟩:=Zar bk xs sch st h;unfold lF at hv;rw[qD]at hv;have nn:=MS hv.2;have hl2:=nn.l2;refine⟨by omega,fun i=> ?_⟩
 by_cases hi:i<xs.length
 ·have w:=nn.wf (i:Nat) (by omega) (by omega);have h1:=wf_data w;have h2:=(iN w).2;exact⟨by show(ah xs (i:Nat)).2.2.2.1.length≤1048576;omega,by show(ah xs (i:Nat)).2.2.2.2.length≤1048576;omega⟩
 ·rw[sZ (by omega)];decide
end Go.Proofs.YtcjhkgfmklgikaaGreat
namespace Go.Proofs.YtcjhkgfmklgikaaGreat
open Go Go.RowKit Go.Proofs Go.Tr
theorem Zbf:bK Tryz.prog 29=true:=by kernel_rfl
theorem Za4(tr:List Int)(ht:tr.length≤100000)(hr:∀z∈tr,1≤z∧z≤7):aA Tryz.prog 29 [.rsl (.int .i64) tr] [] (.sl 10000) [.row 10000 2 1 (.int .i64) (Zab tr) []]:=by
 refine aA.intro (nt:=23) aJ mixed Zbf Tryz.func29 rfl rfl rfl rfl rfl rfl ?_;refine lp Nat (fun i=>[(4,.int .i64 (i:Nat)),(3,.sl 20000)]) (fun i=>[.row 20000 2 1 (.int .i64) (Zab (tr.take i)) []]) (fun i=>tr.length-i) (fun i=>i≤tr.length) 0 (Nat.zero_le _) ?_ ?_
 ·exact hd [(20000,5)] rfl (aI (aI rfl rfl) (aI rfl trivial)) ⟨⟨rfl,nP⟩,trivial⟩
 intro i hi;refine aI (fun q1=> ?_) (fun q1=> ?_)
 ·have hlt:i<tr.length:=ltU q1;have hk:0≤((i:Nat):Int)∧((i:Nat):Int)<(tr.length:Nat):=by omega
  have hcn:=Zae (tr:=tr.take i) (by rw[List.length_take];omega)
  have ei:elt 0 tr ((i:Nat):Int)=tr[i]:=by
   unfold elt;rw[qK,qC,qB hlt];rfl
  have hz:=hr _ (List.getElem_mem hlt);rw[←ei]at hz;have hb:=Zaz hcn hz;refine aI hk ?_;refine aI hb ?_;refine aI hb ?_;refine bB (i+1) hlt ?_ ?_
  ·refine hd [] rfl (aI (aI (eB (by omega)) rfl) (aI rfl trivial)) ⟨⟨?_,nP⟩,trivial⟩;have e:tr.take (i+1)=tr.take i++[elt 0 tr ((i:Nat):Int)]:=by rw[List.take_add_one,qB hlt,ei];rfl
   rw[e,Zav];exact ZaA hcn hz
  ·show tr.length-(i+1)<tr.length-i;omega
 ·have hge:tr.length≤i:=geU q1;have hi':i≤tr.length:=hi;obtain rfl:i=tr.length:=by omega
  refine fin [(10000,20000)] (aI rfl ?_);refine⟨⟨?_,nP⟩,trivial⟩;show Zab (tr.take tr.length)=Zab tr;rw[List.take_length]
section
variable (bk:List (List aj))(xs:List aj)(sch:List Int)(st:Int)
theorem Za0(hs:dH xs):aA Tryz.prog 26 [.ptr 10000 0] [.dD 10000 30 [.rsl aG xs]] (.ptr 10001 0) [.dD 10001 56 [.sl 10002,.raw (.slice none 0 0),.int .i64 (xs.length:Nat)],.row 10002 111 5 aG xs [],.dD 10000 30 [.rsl aG xs]]:=
 aA.Ey (r2:=.ptr 10001 0) (ts2:=[.dD 10001 56 [.sl 10002,.raw (.slice none 0 0),.int .i64 (xs.length:Nat)],.row 10002 111 5 aG xs []]) aJ [51] Zbe (ZbF xs hs) rfl rfl rfl
theorem Za3(tr:List Int)(ht:tr.length≤100000)(hr:∀z∈tr,1≤z∧z≤7):aA Tryz.prog 29 [.sl 10000] [.row 10000 2 1 (.int .i64) tr []] (.sl 10001) [.row 10001 2 1 (.int .i64) (Zab tr) [],.row 10000 2 1 (.int .i64) tr []]:=
 aA.Ey (r2:=.sl 10001) (ts2:=[.row 10001 2 1 (.int .i64) (Zab tr) []]) aJ [31] Zbf (Za4 tr ht hr) rfl rfl rfl
end
end Go.Proofs.YtcjhkgfmklgikaaGreat
namespace Go.Proofs.YtcjhkgfmklgikaaGreat
open Go Go.RowKit Go.Proofs Go.Tr
end Go.Proofs.YtcjhkgfmklgikaaGreat
namespace Go.Tr
open Go Go.RowKit
theorem Inv.ZbS{cx:Cx}{β:Nat→Value}{w:World}{g g2:Nat}{t t2:TypeId}{s s2:Nat}{u u2:U}{xs:List (El u)}{ys:List (El u2)}{us us2:List Value}(h:Inv cx.w0 [] w [Tok.res cx β (.row g t s u xs us),Tok.res cx β (.row g2 t2 s2 u2 ys us2)]):
  ∃A c q A2 c2 q2,(β g=.slice A (List.length (α:=El u) xs) c∧T1 w (.sl (List.length (α:=El u) xs) (List.flatMap (enc u) xs)) q (.slice A (List.length (α:=El u) xs) c))∧(β g2=.slice A2 (List.length (α:=El u2) ys) c2∧T1 w (.sl (List.length (α:=El u2) ys) (List.flatMap (enc u2) ys)) q2 (.slice A2 (List.length (α:=El u2) ys) c2))∧Own cx.w0.heap.size w (q++q2):=by
 obtain⟨G,⟨F,G',rfl,⟨hs,bs,raw,rfl,hg,_⟩,⟨F2,G2,rfl,⟨hs2,bs2,raw2,rfl,hg2,_⟩,rfl,_⟩,hd⟩,h3⟩:=h.sep;obtain⟨A,c,q,h1,h2,h4,h5⟩:=hg.XZ (by subst hs;exact EY xs);obtain⟨A2,c2,q2,k1,k2,k4,k5⟩:=hg2.XZ (by subst hs2;exact EY ys);refine⟨A,c,q,A2,c2,q2,⟨h1,h2⟩,⟨k1,k2⟩,?_,fun b hb=> ?_⟩
 ·refine List.nodup_append.2 ⟨h4.1,k4.1,fun a ha b hb e=> ?_⟩;subst e;exact hd a (by simpa using h5 a ha) (by simpa using k5 a hb)
 ·rcases qT.1 hb with hb|hb
  ·exact⟨(h3 b (by rcases qT.1 (h5 b hb)with h|h<;>simp[h])).elim (fun h=>by simp at h) id,(h4.2 b hb).2⟩
  ·exact⟨(h3 b (by rcases qT.1 (k5 b hb)with h|h<;>simp[h])).elim (fun h=>by simp at h) id,(k4.2 b hb).2⟩
end Go.Tr
namespace Go.Proofs.YtcjhkgfmklgikaaGreat
open Go Go.RowKit Go.Proofs Go.Tr
end Go.Proofs.YtcjhkgfmklgikaaGreat
