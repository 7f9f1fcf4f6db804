
/- One interaction of the program's and of the reference's nets. -/
import Derived.Test.YtcjhkgfmklgikaaGreatShort
import Derived.Test.YtcjhkgfmklgikaaGreatIo
import Derived.Test.YtcjhkgfmklgikaaGreatJh
import Derived.Test.YtcjhkgfmklgikaaGreatNy
import Derived.Test.YtcjhkgfmklgikaaGreatRa
set_option maxRecDepth 100000
set_option linter.unusedSimpArgs false
set_option linter.unusedVariables false
set_option linter.unusedSectionVars false
namespace Go.Proofs.YtcjhkgfmklgikaaGreat
open Go Go.RowKit Go.Proofs Go.Tr
inductive Inter(bk:List (List aj))(kv:List (Int×Bool))(xs ys:List aj)(a b:Int):Prop
 |bad (code:Int) (hc:code≠0)
  (hI:∀us,aA Tryz.prog 38 [.ptr 10000 0,vP (a,b)] (tW xs us bk kv) (.int .i64 code) (tW xs us bk kv))
  (hA:∀us,aA Tryz.prog 58 [.rsl bO bk,.ptr 10000 0,.int .i64 a,.int .i64 b] (tA ys us) (.int .i64 code) (tA ys us))
 |ok (x' y':List aj) (kv':List (Int×Bool))
  (hI:∀us,aA Tryz.prog 38 [.ptr 10000 0,vP (a,b)] (tW xs us bk kv) (.int .i64 0) (RV 10003 x' us bk kv'))
  (hA:∀us,aA Tryz.prog 58 [.rsl bO bk,.ptr 10000 0,.int .i64 a,.int .i64 b] (tA ys us) (.int .i64 0) (J3 10002 y' []))
  (tw:Tr.Twin kv' x' y') (l0:xs.length≤x'.length) (l1:x'.length≤xs.length+600)
  (sg:x'.map sig=xs.map sig++VP bk (ah xs a) (ah xs b)) (cl:bF (ah xs a) (ah xs b)≠8) (wl:yI (fun _=>False) xs→yI (fun _=>False) x')
theorem KM{bk:List (List aj)}{kv:List (Int×Bool)}{xs ys:List aj}{a b:Int}(T:Tr.Twin kv xs ys)(k:lG (Gone kv) xs a b)(ra:(ah xs a).1≠1)(rb:(ah xs b).1≠1)(hb:Kg bk)(hl:xs.length≤700000):Inter bk kv xs ys a b:=by
 have ha0:0≤a∧a<(xs.length:Nat):=⟨k.px.1,k.px.2.1⟩;have hb0:0≤b∧b<(xs.length:Nat):=⟨k.py.1,k.py.2.1⟩;have hlen:=T.len;have ha1:0≤a∧a<(ys.length:Nat):=by rw[←hlen];exact ha0
 have hb1:0≤b∧b<(ys.length:Nat):=by rw[←hlen];exact hb0
 have ea:=T.at_ ha0.1 ha0.2 k.lx;have eb:=T.at_ hb0.1 hb0.2 k.ly;have wa:=T.wf a ha0.1 ha0.2 k.lx;have wb:=T.wf b hb0.1 hb0.2 k.ly;have ef:aC ys a b=aC xs a b:=by unfold aC;rw[ea,eb]
 obtain⟨q1,q2⟩:=Ce wa wb ra rb;obtain⟨c1,c2⟩:=S9 wa wb ra rb hb.toBkW;have kf:=k.first T.st
 have rf:(ah xs (aC xs a b).1).1≠1∧(ah xs (aC xs a b).2).1≠1:=by
  unfold aC;cases aX (ah xs a).1 (ah xs a).2.1 (ah xs b).1 (ah xs b).2.1==2
  ·exact⟨ra,rb⟩
  ·exact⟨rb,ra⟩
 have hx7:(bJ (ah xs (a,b).1) (ah xs (a,b).2)).1=7→0≤(ah xs (bif (bJ (ah xs (a,b).1) (ah xs (a,b).2)).2 then(a,b).2 else(a,b).1)).2.2.1∧0≤(ah xs (bif (bJ (ah xs (a,b).1) (ah xs (a,b).2)).2 then(a,b).2 else(a,b).1)).2.1∧(ah xs (bif (bJ (ah xs (a,b).1) (ah xs (a,b).2)).2 then(a,b).2 else(a,b).1)).2.1≤8:=fun e=>by
  have e':(bJ (ah xs a) (ah xs b)).1=7:=e;obtain⟨k1,k2,k3,k4,k5⟩:=q2 (by rw[e'];decide);rw[e']at k3;have e2:(bif (bJ (ah xs (a,b).1) (ah xs (a,b).2)).2 then(a,b).2 else(a,b).1)=(aC xs a b).1:=k1;rw[e2];have w1:=T.wf (aC xs a b).1 kf.px.1 kf.px.2.1 kf.lx;have h1:=uE w1 ((iT k3 (by decide)).2.2.2.2.2.2 rfl).1;have h2:=wT w1;refine⟨h1.1,?_⟩;omega
 generalize hxy:aC xs a b=xy at*;obtain⟨x,y⟩:=xy;simp only at q1 q2 c1 c2 kf rf;have hx0:0≤x∧x<(xs.length:Nat):=⟨kf.px.1,kf.px.2.1⟩;have hy0:0≤y∧y<(xs.length:Nat):=⟨kf.py.1,kf.py.2.1⟩;have ex:=T.at_ hx0.1 hx0.2 kf.lx;have ey:=T.at_ hy0.1 hy0.2 kf.ly
 have hv:bF (ah ys (aC ys a b).1) (ah ys (aC ys a b).2)=7→0≤(ah ys (aC ys a b).1).2.2.1:=fun e=>by
  rw[ef]at e ⊢;simp only at e ⊢;rw[ex,ey]at e;rw[ex];obtain⟨k1,k2,k3,k4,k5⟩:=q2 (by rw[q1,e];decide);rw[q1,e]at k3;exact(uE (T.wf x hx0.1 hx0.2 kf.lx) ((iT k3 (by decide)).2.2.2.2.2.2 rfl).1).1
 have hly:ys.length≤800000:=by omega
 cases hge:gM bk (ah xs x) (ah xs y)with
 |mk g e=>
  rw[hge]at c1 c2
  have hgy:gM bk (ah ys (aC ys a b).1) (ah ys (aC ys a b).2)=(g,e):=by
   rw[ef];simp only;rw[ex,ey];exact hge
  by_cases he:e=0
  ·subst he;obtain⟨k1,k2,k3⟩:=c2 rfl
   have hn8:bF (ah xs x) (ah xs y)≠8:=fun e8=>by
    unfold gM at hge;rw[e8]at hge;cases hge
   obtain⟨_,_,hr,h1,h7⟩:=q2 (by rw[q1];exact hn8);rw[q1]at hr h1 h7;generalize hc:bF (ah xs x) (ah xs y)=c at*;have hc7:1≤c∧c≤7:=⟨h1,h7⟩
   have hcl:iB (ah xs x) (ah xs y)=false:=by
    unfold bF at hc;cases h:iB (ah xs x) (ah xs y)with
    |false=>rfl
    |true=>rw[h]at hc;exact absurd hc.symm hn8
   obtain⟨sx,sy,v0,tw,hln⟩:=T.next (bk:=bk) kf hb.toBkV rf.1 rf.2 hr hc7 hcl k3;have h7':c=7→0≤(ah xs x).2.2.1∧(ah xs x).2.2.1<(bk.length:Nat):=fun e=>⟨v0 e,(k3 e).1⟩
   have hlv:=T.live;have hw:IntKind.i64.wrap ((xs.length:Nat)-(kv.length:Nat))=((dh ys ys.length:Nat):Int):=by rw[←hlv,qO _ (by omega)];omega
   have hck:checkN bk xs (a,b)=(c,x,y,0):=k1
   by_cases hf:600<IntKind.i64.wrap ((dh ys ys.length:Nat)+g)
   ·refine .bad 4 (by decide) (fun us=> ?_) (fun us=> ?_)
    ·exact Oa xs us bk kv (a,b) ha0 hb0 hb.ok hb.small hx7 hck hx0 hy0 h7' (by rw[hw,k2];exact hf)
    ·exact Tc bk ys us a b ha1 hb1 hb.small hly hv hgy hf
   ·have pA:ak ys (y,0):=by
     have:=T.st.ag.port kf.py kf.ly;exact this.1
    have wx:=T.wf x hx0.1 hx0.2 kf.lx;have lx:=wT wx;have lx2:0≤(ah xs x).2.1∧(ah xs x).2.1≤8:=by omega
    have hpos:0<xs.length:=T.rl;have hbkv:∀v:Int,0≤v→bP bk v=bP bk (v.toNat:Nat):=fun v h=>by rw[show((v.toNat:Nat):Int)=v by omega]
    have exq:ah ys (aC ys a b).1=ah xs x:=by rw[ef];exact ex
    refine .ok (gy bk xs c x y) (fT bk ys c x y) (kW kv (gD c x y)) (fun us=> ?_) (fun us=> ?_) tw (by omega) ?_ ?_ ?_ fun w=>Fj w hx0 hy0 id id hr hc7 hb.toBkW (fun e e9=>uL hcl e9 (by have q:=(iT hr (by omega)).2.2.2.2.2.1 e;omega)) k3
    ·refine TB xs us bk kv (a,b) ha0 hb0 hb.ok hb.small hx7 hck hc7 sx.toIntPre T.al T.p0 (by omega) h7' (by rw[hw,k2];exact hf) fun e us=> ?_
     have F:=hb.exp (v0 e) (k3 e).1 xs (ah xs x).2.1 ((xs.length:Int)-1) rfl hpos;have hsm:dH (bP bk (ah xs x).2.2.1):=by rw[hbkv _ (v0 e)];exact hb.small _
     have hok8:∀i:Nat,0≤(ah (bP bk (ah xs x).2.2.1) i).2.1∧(ah (bP bk (ah xs x).2.2.1) i).2.1≤8:=by rw[hbkv _ (v0 e)];exact fun i=>hb.ok _ i
     have htl:=hb.tl _ (v0 e) (k3 e).1;exact Zl (bP bk (ah xs x).2.2.1) xs us bk kv x y hx0 (h7' e) rfl (by omega) hsm F.two (by omega) F.r0 lx2 hok8 (k3 e).2 F.bs F.ps F.rs kf.py.app F.top
    ·refine Xq bk ys us a b ha1 hb1 hb.small hly hv (by rw[ef]) (by rw[ex,ey];exact hc) (by rw[ex,ey];exact hge) hc7 sy T.Kl T.Yw (by rw[ex];exact h7') hf fun e us=> ?_
     rw[ex];have F:=hb.exp (v0 e) (k3 e).1 ys (ah xs x).2.1 ((ys.length:Int)-1) rfl (by omega);have hsm:dH (bP bk (ah xs x).2.2.1):=by rw[hbkv _ (v0 e)];exact hb.small _
     have hok8:∀i:Nat,0≤(ah (bP bk (ah xs x).2.2.1) i).2.1∧(ah (bP bk (ah xs x).2.2.1) i).2.1≤8:=by rw[hbkv _ (v0 e)];exact fun i=>hb.ok _ i
     have htl:=hb.tl _ (v0 e) (k3 e).1;have htop:=F.top;rw[F.pe,←F.ex,Int.add_comm]at htop;exact Zk (bP bk (ah xs x).2.2.1) ys us x y (ah xs x).2.1 (by rw[ex]) (by rw[←hlen];exact hx0) (by omega) hsm (by have:=F.two;omega) (by omega) (Int.ofNat_lt.1 F.r0.2.2.2) lx2 hok8 F.bt pA htop
    ·have n1:=(iN wx).2;have n2:=(iN (T.wf y hy0.1 hy0.2 kf.ly)).2;have:=QI (c:=c) hb n2 n1 h7';omega
    ·have hf1:=oV xs a b;rw[hxy]at hf1;have hf2:c=bF (ah xs a) (ah xs b):=by rw[←hf1,←hc]
     have:=KL (bk:=bk) (xs:=xs) (x:=a) (y:=b) (by rw[←hf2];exact hc7) (z:=x) (w:=y) (by omega) hxy;rw[hc]at this;exact this
    ·have hf1:=oV xs a b;rw[hxy]at hf1;have hf2:bF (ah xs x) (ah xs y)=bF (ah xs a) (ah xs b):=hf1;rw[←hf2,hc];exact hn8
  ·refine .bad e he (fun us=> ?_) (fun us=> ?_)
   ·have h1:=c1 he;have:=Ql xs us bk kv (a,b) ha0 hb0 hb.ok hb.small hx7 (by rw[h1];exact he);rw[h1]at this;exact this
   ·exact Vt bk ys us a b ha1 hb1 hb.small hly hv hgy he
section
variable {bk:List (List aj)}{kv:List (Int×Bool)}{xs ys:List aj}
end
end Go.Proofs.YtcjhkgfmklgikaaGreat
namespace Go.Proofs.YtcjhkgfmklgikaaGreat
open Go Go.RowKit Go.Proofs Go.Tr
theorem TV(xs:List aj)(h:dH xs):aA Tryz.prog 43 [.rp bO xs] [] (.agg [.sl 10000]) [.row 10000 111 5 aG xs []]:=by
 obtain⟨hl,ha⟩:=h;refine aA.intro (nt:=28) aJ mixed (by kernel_rfl) Tryz.func43 rfl rfl rfl rfl rfl rfl ?_;refine lp Nat (fun i=>[(4,.int .i64 (i:Nat))]) (fun i=>[.dD 2 30 [.raw (.slice none 0 0)],.dD 3 30 [.sl 20000],.row 20000 111 5 aG (xs.take i) []]) (fun i=>xs.length-i) (fun i=>i≤xs.length) 0 (Nat.zero_le _) ?_ ?_
 ·exact Tz [⟨1000003,30000,111,5,aG⟩] [(20000,30000)] rfl (aI (aI (aI rfl rfl) trivial) ⟨trivial,⟨rfl,trivial⟩,trivial,⟨rfl,trivial⟩,⟨rfl,nP⟩,trivial⟩)
 intro i hi;refine aI (fun q1=> ?_) (fun q1=> ?_)
 ·have hlt:i<xs.length:=by simpa using q1
  refine aI (by show(0:Int)≤(i:Nat)∧((i:Nat):Int)<(xs.length:Nat);omega) ?_;refine Or.inr (eI _ (eI _ (aI (Ht (ah xs i) (ha i).1 (ha i).2) ?_)));refine aI (by show(xs.take i).length+1≤_;rw[List.length_take];omega) ?_;refine aI (by kernel_rfl) ?_;refine bB (i+1) hlt ?_ ?_
  ·refine hd [(20000,25)] rfl (aI (aI (eB (by omega)) rfl) trivial) ⟨trivial,⟨rfl,trivial⟩,trivial,⟨rfl,trivial⟩,⟨?_,nP⟩,trivial⟩;show xs.take i++[ah xs i]=xs.take (i+1);rw[List.take_add_one,qB hlt];unfold ah elt;rw[qK,qC,qB hlt];rfl
  ·show xs.length-(i+1)<xs.length-i;omega
 ·have hge:xs.length≤i:=by simpa using q1
  refine fin [(10000,20000)] (aI rfl ?_);refine⟨⟨?_,nP⟩,trivial⟩;show xs.take i=xs;rw[qN hge]
section
variable (bk:List (List aj))(xs:List aj)(es:List aT)
variable (hB:lH (bk.map gN)=true)(hN:iG (gN xs)=true)
include hB hN
end
end Go.Proofs.YtcjhkgfmklgikaaGreat
namespace Go.Proofs.YtcjhkgfmklgikaaGreat
open Go Go.RowKit Go.Proofs Go.Tr
section
variable (bk:List (List aj))(xs:List aj)(a b:List aT)
end
end Go.Proofs.YtcjhkgfmklgikaaGreat
namespace Go.Proofs.YtcjhkgfmklgikaaGreat
open Go Go.RowKit Go.Proofs Go.Tr
def KV(ys:List aj)(i:Nat):List Int:=(List.range i).map fun j:Nat=>((iC ys j:Nat):Int)
theorem XF(ys:List aj)(i:Nat):(KV ys i).length=i:=by unfold KV;simp
theorem WQ(ys:List aj)(i:Nat):KV ys (i+1)=KV ys i++[((iC ys i:Nat):Int)]:=by unfold KV;rw[List.range_succ,qZ];rfl
theorem Yt(ys:List aj){n:Nat}{x:Int}(h0:0≤x)(h1:x<((n:Nat):Int)):elt 0 (KV ys n) x=tX ys x:=by
 unfold elt KV tX;rw[qC,qY,List.getElem?_range (by omega)];rfl
theorem K4(ys:List aj):∀n:Nat,(iw ys n).length≤n
 |0=>Nat.le_refl 0
 |n+1=>by
  unfold iw;have:=K4 ys n;cases dL ys n
  ·simp only[qH];omega
  ·simp only[qG,qA,qJ];omega
section
variable (bk:List (List aj))(xs:List aj)(a:List aT)
end
end Go.Proofs.YtcjhkgfmklgikaaGreat
namespace Go.Proofs.YtcjhkgfmklgikaaGreat
open Go Go.RowKit Go.Proofs Go.Tr
section
variable (bk:List (List aj))(xs:List aj)(es:List aT)
variable (hB:lH (bk.map gN)=true)(hN:iG (gN xs)=true)
include hB hN
end
end Go.Proofs.YtcjhkgfmklgikaaGreat
namespace Go.Proofs.YtcjhkgfmklgikaaGreat
open Go Go.RowKit Go.Proofs Go.Tr
theorem Na:bK Tryz.prog 69=true:=by kernel_rfl
set_option maxHeartbeats 4000000 in
theorem V7(xs:List aj)(ord:List Int)(hs:∀j:Nat,j<ord.length→(ah xs (elt 0 ord (j:Nat))).2.2.2.1.length≤1048576∧(ah xs (elt 0 ord (j:Nat))).2.2.2.2.length≤1048576)(hl:ord.length≤1000000)(ho:∀j:Nat,j<ord.length→0≤elt 0 ord (j:Nat)∧elt 0 ord (j:Nat)<(xs.length:Nat)):aA Tryz.prog 69 [.rp bO xs,.rsl (.int .i64) ord] [] (.agg [.sl 10000]) [.row 10000 111 5 aG (sF xs ord ord.length) []]:=by
 refine aA.intro (nt:=67) aJ mixed Na Tryz.func69 rfl rfl rfl rfl rfl rfl ?_;refine lp Nat (fun i=>[(16,.int .i64 (i:Nat))]) (fun i=>[.dD 4 30 [.raw (.slice none 0 0)],.map 13 (.int .i64) (LB ord i)]) (fun i=>ord.length-i) (fun i=>i≤ord.length) 0 (Nat.zero_le _) ?_ ?_
 ·exact hd [] rfl (aI (aI rfl rfl) trivial) ⟨trivial,⟨rfl,trivial⟩,rfl,trivial⟩
 intro i hi;refine aI (fun q1=> ?_) (fun q1=> ?_)
 ·have hlt:i<ord.length:=by
   have q2:decide (((i:Nat):Int)<(ord.length:Nat))=true:=q1;simp only[qQ]at q2;omega
  refine aI (show 0≤((i:Nat):Int)∧((i:Nat):Int)<(ord.length:Nat) by omega) ?_;refine bB (i+1) hlt ?_ ?_
  ·exact hd [] rfl (aI (aI (eB (by omega)) rfl) trivial) ⟨trivial,⟨rfl,trivial⟩,rfl,trivial⟩
  ·show ord.length-(i+1)<ord.length-i;omega
 have hie:i=ord.length:=by
  have q2:decide (((i:Nat):Int)<(ord.length:Nat))=false:=q1;simp only[qP]at q2;have hi':i≤ord.length:=hi;omega
 subst hie;refine lp Nat (fun k=>[(27,.int .i64 (k:Nat))]) (fun k=>[.dD 4 30 [.raw (.slice none 0 0)],.map 13 (.int .i64) (LB ord ord.length),.dD 8 30 [.sl 20000],.row 20000 111 5 aG (sF xs ord k) []]) (fun k=>ord.length-k) (fun k=>k≤ord.length) 0 (Nat.zero_le _) ?_ ?_
 ·exact Tz [⟨1000008,30000,111,5,aG⟩] [(20000,30000)] rfl (aI (aI (aI rfl rfl) trivial) ⟨trivial,⟨rfl,trivial⟩,rfl,trivial,⟨rfl,trivial⟩,⟨rfl,nP⟩,trivial⟩)
 intro k hk;refine aI (fun q1=> ?_) (fun q1=> ?_)
 ·have hlt:k<ord.length:=by
   have q2:decide (((k:Nat):Int)<(ord.length:Nat))=true:=q1;simp only[qQ]at q2;omega
  have hok:=ho k hlt;have hrl:(sF xs ord k).length=k:=by rw[Dt _ _ _ (by omega),qV,List.length_take];omega
  refine aI (show 0≤((k:Nat):Int)∧((k:Nat):Int)<(ord.length:Nat) by omega) ?_;refine aI hok ?_;have hsk:=hs k hlt;generalize hx:ah xs (elt 0 ord ((k:Nat):Int))=a at*
  have hcp:aA Tryz.prog 126 [.agg [.int .i64 (ah xs (elt 0 ord ((k:Nat):Int))).1,.int .i64 (ah xs (elt 0 ord ((k:Nat):Int))).2.1,.int .i64 (ah xs (elt 0 ord ((k:Nat):Int))).2.2.1,.rsl (.int .i64) (ah xs (elt 0 ord ((k:Nat):Int))).2.2.2.1,.rsl aR (ah xs (elt 0 ord ((k:Nat):Int))).2.2.2.2]] [] (.agg [.int .i64 a.1,.int .i64 a.2.1,.int .i64 a.2.2.1,.sl 10000,.sl 10001]) [.row 10000 2 1 (.int .i64) a.2.2.2.1 [],.row 10001 86 2 aR a.2.2.2.2 []]:=by
   rw[hx];exact Ch a hsk.1 hsk.2
  refine Or.inr (eI _ (eI _ (aI hcp ?_)));refine lp Nat (fun j=>[(42,.int .i64 (j:Nat))]) (fun j=>[.dD 11 111 [.int .i64 a.1,.int .i64 a.2.1,.int .i64 a.2.2.1,.sl 38,.sl 21001],.dD 4 30 [.raw (.slice none 0 0)],.map 13 (.int .i64) (LB ord ord.length),.dD 8 30 [.sl 21000],.row 21000 111 5 aG (sF xs ord k) [],.row 38 2 1 (.int .i64) a.2.2.2.1 [],.row 21001 86 2 aR (oJ (Nw ord) a.2.2.2.2 j) []]) (fun j=>a.2.2.2.2.length-j) (fun j=>j≤a.2.2.2.2.length) 0 (Nat.zero_le _) ?_ ?_
  ·exact hd [(21000,20000),(21001,1000038)] rfl (aI (aI rfl rfl) trivial) ⟨trivial,⟨⟨rfl,rfl⟩,⟨rfl,rfl⟩,⟨rfl,rfl⟩,rfl,rfl,trivial⟩,trivial,⟨rfl,trivial⟩,rfl,trivial,⟨rfl,trivial⟩,⟨rfl,nP⟩,⟨rfl,nP⟩,⟨rfl,nP⟩,trivial⟩
  intro j hj;have hj':j≤a.2.2.2.2.length:=hj;refine aI (fun q3=> ?_) (fun q3=> ?_)
  ·have hlt2:j<a.2.2.2.2.length:=by
    have q4:decide (((j:Nat):Int)<(a.2.2.2.2.length:Nat))=true:=q3;simp only[qQ]at q4;omega
   have hbnd:0≤((j:Nat):Int)∧((j:Nat):Int)<((oJ (Nw ord) a.2.2.2.2 j).length:Nat):=by rw[OI];omega
   refine aI hbnd ?_;refine aI hbnd ?_;refine aI (by kernel_rfl) ?_;refine bB (j+1) hlt2 ?_ ?_
   ·refine hd [] rfl (aI (aI (eB (by omega)) rfl) trivial) ⟨trivial,⟨⟨rfl,rfl⟩,⟨rfl,rfl⟩,⟨rfl,rfl⟩,rfl,rfl,trivial⟩,trivial,⟨rfl,trivial⟩,rfl,trivial,⟨rfl,trivial⟩,⟨rfl,nP⟩,⟨rfl,nP⟩,⟨?_,nP⟩,trivial⟩;show(oJ (Nw ord) a.2.2.2.2 j).set j (Nw ord (elt (dflt aR) (oJ (Nw ord) a.2.2.2.2 j) ((j:Nat):Int)).1,(elt (dflt aR) (oJ (Nw ord) a.2.2.2.2 j) ((j:Nat):Int)).2)=oJ (Nw ord) a.2.2.2.2 (j+1);rw[Lh hlt2,RF hlt2]
   ·show a.2.2.2.2.length-(j+1)<a.2.2.2.2.length-j;omega
  have hje:j=a.2.2.2.2.length:=by
   have q4:decide (((j:Nat):Int)<(a.2.2.2.2.length:Nat))=false:=q3;simp only[qP]at q4;omega
  refine aI (show(sF xs ord k).length+1≤1073741824 by omega) ?_;refine bB (k+1) hlt ?_ ?_
  ·refine hd [(20000,63)] rfl (aI (aI (eB (by omega)) rfl) trivial) ⟨trivial,⟨rfl,trivial⟩,rfl,trivial,⟨rfl,trivial⟩,⟨?_,nP⟩,trivial⟩;show sF xs ord k++[(a.1,a.2.1,a.2.2.1,a.2.2.2.1,oJ (Nw ord) a.2.2.2.2 j)]=sF xs ord k++[sG (Nw ord) (ah xs (elt 0 ord ((k:Nat):Int)))];rw[hx,hje,OH];rfl
  ·show ord.length-(k+1)<ord.length-k;omega
 have hke:k=ord.length:=by
  have q2:decide (((k:Nat):Int)<(ord.length:Nat))=false:=q1;simp only[qP]at q2;have hk':k≤ord.length:=hk;omega
 subst hke;refine fin [(10000,20000)] (aI rfl ?_);exact⟨⟨rfl,nP⟩,trivial⟩
theorem V8(xs:List aj)(us:List Value)(bk:List (List aj))(kv:List (Int×Bool))(ord:List Int)(hs:∀j:Nat,j<ord.length→(ah xs (elt 0 ord (j:Nat))).2.2.2.1.length≤1048576∧(ah xs (elt 0 ord (j:Nat))).2.2.2.2.length≤1048576)(hl:ord.length≤1000000)(ho:∀j:Nat,j<ord.length→0≤elt 0 ord (j:Nat)∧elt 0 ord (j:Nat)<(xs.length:Nat)):
  aA Tryz.prog 69 [.ptr 10000 0,.sl 10003] (tW xs us bk kv++[.row 10003 2 1 (.int .i64) ord []]) (.agg [.sl 10004]) ([.row 10004 111 5 aG (sF xs ord ord.length) []]++(tW xs us bk kv++[.row 10003 2 1 (.int .i64) ord []])):=
 aA.Ey (ts2:=[.row 10004 111 5 aG (sF xs ord ord.length) []]) aJ [51,0] Na (V7 xs ord hs hl ho) rfl rfl rfl
theorem FI(kv:List (Int×Bool)):∀n:Nat,(d9 kv n).length≤n
 |0=>Nat.le_refl 0
 |n+1=>by
  unfold d9;have:=FI kv n;cases bE false kv ((n:Nat):Int)
  ·simp only[Bool.not_false,qG,qA,qJ];omega
  ·simp only[Bool.not_true,qH];omega
theorem Dk(kv:List (Int×Bool)):∀n:Nat,∀z∈d9 kv n,0≤z∧z<((n:Nat):Int)
 |0,z,h=>by cases h
 |n+1,z,h=>by
  unfold d9 at h;cases hg:bE false kv ((n:Nat):Int)with
  |false=>
   rw[hg]at h;simp only[Bool.not_false,qG,qT,qX]at h;rcases h with h|h
   ·have:=Dk kv n z h;omega
   ·omega
  |true=>
   rw[hg]at h;simp only[Bool.not_true,qH]at h;have:=Dk kv n z h;omega
theorem JD(kv:List (Int×Bool))(n:Nat){j:Nat}(h:j<(d9 kv n).length):0≤elt 0 (d9 kv n) (j:Nat)∧elt 0 (d9 kv n) (j:Nat)<((n:Nat):Int):=by
 refine Dk kv n _ ?_;unfold elt;rw[qK,qC,qB h];exact List.getElem_mem h
def V9(xs:List aj)(kv:List (Int×Bool)):List aj:=sF xs (d9 kv xs.length) (d9 kv xs.length).length
def F5(xs:List aj)(kv:List (Int×Bool)):Prop:=∀i:Nat,i<xs.length→bE false kv ((i:Nat):Int)=false→(ah xs (i:Nat)).2.2.2.1.length≤1048576∧(ah xs (i:Nat)).2.2.2.2.length≤1048576
theorem yj(kv:List (Int×Bool)):∀n:Nat,∀z∈d9 kv n,bE false kv z=false
 |0,z,h=>by cases h
 |n+1,z,h=>by
  unfold d9 at h;cases hg:bE false kv ((n:Nat):Int)with
  |false=>
   rw[hg]at h;simp only[Bool.not_false,qG,qT,qX]at h;rcases h with h|h
   ·exact yj kv n z h
   ·rw[h];exact hg
  |true=>
   rw[hg]at h;simp only[Bool.not_true,qH]at h;exact yj kv n z h
theorem F5.ord{xs:List aj}{kv:List (Int×Bool)}(h:F5 xs kv)(j:Nat)(hj:j<(d9 kv xs.length).length):(ah xs (elt 0 (d9 kv xs.length) (j:Nat))).2.2.2.1.length≤1048576∧(ah xs (elt 0 (d9 kv xs.length) (j:Nat))).2.2.2.2.length≤1048576:=by
 have h1:=JD kv xs.length hj
 have h2:bE false kv (elt 0 (d9 kv xs.length) (j:Nat))=false:=by
  refine yj kv xs.length _ ?_;unfold elt;rw[qK,qC,qB hj];exact List.getElem_mem hj
 have e:(((elt 0 (d9 kv xs.length) (j:Nat)).toNat:Nat):Int)=elt 0 (d9 kv xs.length) (j:Nat):=by omega
 have:=h (elt 0 (d9 kv xs.length) (j:Nat)).toNat (by omega) (by rw[e];exact h2)
 rwa[e]at this
theorem Yz(xs:List aj)(us:List Value)(bk:List (List aj))(kv:List (Int×Bool))(hs:F5 xs kv)(hl:xs.length≤900000):aA Tryz.prog 34 [.ptr 10000 0] (tW xs us bk kv) (.agg [.sl 10003]) (.row 10003 111 5 aG (V9 xs kv) []::tW xs us bk kv):=by
 refine aA.intro (nt:=31) aJ mixed (by kernel_rfl) Tryz.func34 rfl rfl rfl rfl rfl rfl ?_;refine lp Nat (fun i=>[(11,.int .i64 (i:Nat)),(3,.sl 20001)]) (fun i=>[.dD 2 30 [.raw (.slice none 0 0)],.dD 10000 78 [.sl 10001,.rsl bO bk,.mp 10002],.row 10001 111 5 aG xs us,.map 10002 .bool kv,.row 20001 2 1 (.int .i64) (d9 kv i) []]) (fun i=>xs.length-i) (fun i=>i≤xs.length) 0 (Nat.zero_le _) ?_ ?_
 ·exact Tz [⟨3,30000,2,1,.int .i64⟩] [(20001,30000)] rfl (aI (aI (aI rfl rfl) (aI rfl trivial)) ⟨trivial,⟨rfl,trivial⟩,trivial,⟨rfl,rfl,rfl,trivial⟩,⟨rfl,pR _⟩,rfl,⟨rfl,nP⟩,trivial⟩)
 intro i hi;have hol:=FI kv i;refine aI (fun q1=> ?_) (fun q1=> ?_)
 ·have hlt:i<xs.length:=by
   have q2:decide (((i:Nat):Int)<(xs.length:Nat))=true:=q1;simp only[qQ]at q2;omega
  have hst:d9 kv (i+1)=bif !(bE false kv ((i:Nat):Int))then d9 kv i++[((i:Nat):Int)]else d9 kv i:=rfl
  refine aI (fun q2=> ?_) (fun q2=> ?_)
  ·have q3:(!(bE false kv ((i:Nat):Int)))=true:=q2;rw[q3]at hst;refine aI (show(d9 kv i).length+1≤1073741824 by omega) ?_;refine bB (i+1) hlt ?_ ?_
   ·refine hd [(20001,24)] rfl (aI (aI (eB (by omega)) rfl) (aI rfl trivial)) ⟨trivial,⟨rfl,trivial⟩,trivial,⟨rfl,rfl,rfl,trivial⟩,⟨rfl,pR _⟩,rfl,⟨hst.symm,nP⟩,trivial⟩
   ·show xs.length-(i+1)<xs.length-i;omega
  ·have q3:(!(bE false kv ((i:Nat):Int)))=false:=q2;rw[q3]at hst;refine bB (i+1) hlt ?_ ?_
   ·refine hd [] rfl (aI (aI (eB (by omega)) rfl) (aI rfl trivial)) ⟨trivial,⟨rfl,trivial⟩,trivial,⟨rfl,rfl,rfl,trivial⟩,⟨rfl,pR _⟩,rfl,⟨hst.symm,nP⟩,trivial⟩
   ·show xs.length-(i+1)<xs.length-i;omega
 have hie:i=xs.length:=by
  have q2:decide (((i:Nat):Int)<(xs.length:Nat))=false:=q1;simp only[qP]at q2;have hi':i≤xs.length:=hi;omega
 subst hie;refine Or.inr (eI _ (eI _ (aI (V8 xs us bk kv (d9 kv xs.length) hs.ord (by omega) fun j hj=>JD kv _ hj) ?_)));refine fin [(10003,30)] (aI rfl ?_);exact⟨⟨rfl,nP⟩,trivial,⟨rfl,rfl,rfl,trivial⟩,⟨rfl,pR _⟩,rfl,trivial⟩
section
variable (bk:List (List aj))(xs:List aj)(a:List aT)
end
end Go.Proofs.YtcjhkgfmklgikaaGreat
namespace Go.Tr
open Go Go.RowKit
def YG(P:List aj):Prop:=P.length≤3000∧∀a∈P,a.2.2.2.1.length≤4∧a.2.2.2.2.length≤4
theorem Twin.MO{kv:List (Int×Bool)}{xs ys:List aj}(T:Twin kv xs ys){k:Nat}(hk:k<ys.length)(h:Tr.dL ys k=true):Wf (ah ys (k:Nat)):=by
 have hl:=T.len;rw[T.dL (by omega)]at h
 have hd:¬Gone kv ((k:Nat):Int):=fun e=>by
  have e':bE false kv ((k:Nat):Int)=true:=e;rw[e']at h;cases h
 rw[T.at_ (by omega) (by omega) hd];exact T.wf _ (by omega) (by omega) hd
end Go.Tr
namespace Go.Proofs.YtcjhkgfmklgikaaGreat
open Go Go.RowKit Go.Proofs Go.Tr
theorem U8{kv:List (Int×Bool)}{xs ys:List aj}(T:Tr.Twin kv xs ys):F5 xs kv:=fun i hi hg=>by
 have hd:¬Gone kv ((i:Nat):Int):=fun e=>by
  have e':bE false kv ((i:Nat):Int)=true:=e;rw[hg]at e';cases e'
 have w:=T.wf (i:Nat) (by omega) (by omega) hd;have w1:=wf_data w;have w2:=(iN w).2;omega
theorem wR{kv:List (Int×Bool)}{xs ys:List aj}(T:Tr.Twin kv xs ys)(hl:xs.length≤1000000):dH ys:=by
 have hlen:=T.len;refine⟨by omega,fun i=> ?_⟩
 by_cases hi:i<ys.length
 ·cases hv:dL ys i with
  |true=>
   have w:=T.MO hi hv;have w1:=wf_data w;have w2:=(iN w).2;exact⟨by show(ah ys (i:Nat)).2.2.2.1.length≤1048576;omega,by show(ah ys (i:Nat)).2.2.2.2.length≤1048576;omega⟩
  |false=>
   rw[T.dL (by omega)]at hv
   have hg:Gone kv ((i:Nat):Int):=by
    show bE false kv ((i:Nat):Int)=true;cases hq:bE false kv ((i:Nat):Int)with
    |true=>rfl
    |false=>rw[hq]at hv;cases hv
   rw[(T.hole _ hg).2];decide
 ·rw[sZ (by omega)];decide
section
variable (bk:List (List aj))(xs:List aj)(a b:List aT)
theorem LK.small{xs:List aj}(h:LK xs):dH xs:=by
 have hl:=h.l2;refine⟨by omega,fun i=> ?_⟩
 by_cases hi:i<xs.length
 ·have w:=h.wf (i:Nat) (by omega) (by omega);have h1:=wf_data w;have h2:=(iN w).2;exact⟨by show(ah xs (i:Nat)).2.2.2.1.length≤1048576;omega,by show(ah xs (i:Nat)).2.2.2.2.length≤1048576;omega⟩
 ·rw[sZ (by omega)];decide
end
end Go.Proofs.YtcjhkgfmklgikaaGreat
