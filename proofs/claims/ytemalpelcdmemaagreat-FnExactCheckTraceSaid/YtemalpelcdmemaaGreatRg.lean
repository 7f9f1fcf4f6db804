
/- One interaction of the program's and of the reference's nets. -/
import Derived.Test.YtemalpelcdmemaaGreatShort
import Derived.Test.YtemalpelcdmemaaGreatIo
import Derived.Test.YtemalpelcdmemaaGreatJh
import Derived.Test.YtemalpelcdmemaaGreatNy
import Derived.Test.YtemalpelcdmemaaGreatRa
set_option maxHeartbeats 4000000
set_option maxRecDepth 100000
set_option linter.unusedSimpArgs false
set_option linter.unusedVariables false
set_option linter.unusedSectionVars false
namespace Go.Proofs.YtemalpelcdmemaaGreat
open Go Go.RowKit Go.Proofs Go.Tr
inductive Inter(bk:List (List NAgent))(kv:List (Int×Bool))(xs ys:List NAgent)(a b:Int):Prop
 |bad (code:Int) (hc:code≠0)
  (hI:∀us,FCall Tryz.prog 103 [.ptr 10000 0,vP (a,b)] (tW xs us bk kv) (.int .i64 code) (tW xs us bk kv))
  (hA:∀us,FCall Tryz.prog 126 [.rsl uNet bk,.ptr 10000 0,.int .i64 a,.int .i64 b] (tA ys us) (.int .i64 code) (tA ys us))
 |ok (x' y':List NAgent) (kv':List (Int×Bool))
  (hI:∀us,FCall Tryz.prog 103 [.ptr 10000 0,vP (a,b)] (tW xs us bk kv) (.int .i64 0) (M7 10003 x' us bk kv'))
  (hA:∀us,FCall Tryz.prog 126 [.rsl uNet bk,.ptr 10000 0,.int .i64 a,.int .i64 b] (tA ys us) (.int .i64 0) (AP 10002 y' []))
  (tw:Tr.Twin kv' x' y') (l0:xs.length≤x'.length) (l1:x'.length≤xs.length+600)
  (sg:x'.map sig=xs.map sig++Mg bk (agAt xs a) (agAt xs b)) (cl:aM (agAt xs a) (agAt xs b)≠8)
theorem FJ{bk:List (List NAgent)}{kv:List (Int×Bool)}{xs ys:List NAgent}{a b:Int}(T:Tr.Twin kv xs ys)(k:iX (Gone kv) xs a b)(ra:(agAt xs a).1≠1)(rb:(agAt xs b).1≠1)(hb:ET bk)(hl:xs.length≤700000):Inter bk kv xs ys a b:=by
 have ha0:0≤a∧a<(xs.length:Nat):=⟨k.px.1,k.px.2.1⟩;have hb0:0≤b∧b<(xs.length:Nat):=⟨k.py.1,k.py.2.1⟩;have hlen:=T.len;have ha1:0≤a∧a<(ys.length:Nat):=by rw[←hlen];exact ha0
 have hb1:0≤b∧b<(ys.length:Nat):=by rw[←hlen];exact hb0
 have ea:=T.at_ ha0.1 ha0.2 k.lx;have eb:=T.at_ hb0.1 hb0.2 k.ly;have wa:=T.wf a ha0.1 ha0.2 k.lx;have wb:=T.wf b hb0.1 hb0.2 k.ly;have ef:ak ys a b=ak xs a b:=by unfold ak;rw[ea,eb]
 obtain⟨q1,q2⟩:=wU wa wb ra rb;obtain⟨c1,c2⟩:=NP wa wb ra rb hb.toBkW;have kf:=k.first T.st
 have rf:(agAt xs (ak xs a b).1).1≠1∧(agAt xs (ak xs a b).2).1≠1:=by
  unfold ak;cases aJ (agAt xs a).1 (agAt xs a).2.1 (agAt xs b).1 (agAt xs b).2.1==2
  ·exact⟨ra,rb⟩
  ·exact⟨rb,ra⟩
 have hx7:(aN (agAt xs (a,b).1) (agAt xs (a,b).2)).1=7→0≤(agAt xs (bif (aN (agAt xs (a,b).1) (agAt xs (a,b).2)).2 then(a,b).2 else(a,b).1)).2.2.1∧0≤(agAt xs (bif (aN (agAt xs (a,b).1) (agAt xs (a,b).2)).2 then(a,b).2 else(a,b).1)).2.1∧(agAt xs (bif (aN (agAt xs (a,b).1) (agAt xs (a,b).2)).2 then(a,b).2 else(a,b).1)).2.1≤8:=fun e=>by
  have e':(aN (agAt xs a) (agAt xs b)).1=7:=e;obtain⟨k1,k2,k3,k4,k5⟩:=q2 (by rw[e'];decide);rw[e']at k3;have e2:(bif (aN (agAt xs (a,b).1) (agAt xs (a,b).2)).2 then(a,b).2 else(a,b).1)=(ak xs a b).1:=k1;rw[e2];have w1:=T.wf (ak xs a b).1 kf.px.1 kf.px.2.1 kf.lx;have h1:=nC w1 ((fD k3 (by decide)).2.2.2.2.2.2 rfl).1;have h2:=pQ w1;refine⟨h1.1,?_⟩;omega
 generalize hxy:ak xs a b=xy at*;obtain⟨x,y⟩:=xy;simp only at q1 q2 c1 c2 kf rf;have hx0:0≤x∧x<(xs.length:Nat):=⟨kf.px.1,kf.px.2.1⟩;have hy0:0≤y∧y<(xs.length:Nat):=⟨kf.py.1,kf.py.2.1⟩;have ex:=T.at_ hx0.1 hx0.2 kf.lx;have ey:=T.at_ hy0.1 hy0.2 kf.ly
 have hv:aM (agAt ys (ak ys a b).1) (agAt ys (ak ys a b).2)=7→0≤(agAt ys (ak ys a b).1).2.2.1:=fun e=>by
  rw[ef]at e ⊢;simp only at e ⊢;rw[ex,ey]at e;rw[ex];obtain⟨k1,k2,k3,k4,k5⟩:=q2 (by rw[q1,e];decide);rw[q1,e]at k3;exact(nC (T.wf x hx0.1 hx0.2 kf.lx) ((fD k3 (by decide)).2.2.2.2.2.2 rfl).1).1
 have hly:ys.length≤800000:=by omega
 cases hge:gI bk (agAt xs x) (agAt xs y)with
 |mk g e=>
  rw[hge]at c1 c2
  have hgy:gI bk (agAt ys (ak ys a b).1) (agAt ys (ak ys a b).2)=(g,e):=by
   rw[ef];simp only;rw[ex,ey];exact hge
  by_cases he:e=0
  ·subst he;obtain⟨k1,k2,k3⟩:=c2 rfl
   have hn8:aM (agAt xs x) (agAt xs y)≠8:=fun e8=>by
    unfold gI at hge;rw[e8]at hge;cases hge
   obtain⟨_,_,hr,h1,h7⟩:=q2 (by rw[q1];exact hn8);rw[q1]at hr h1 h7;generalize hc:aM (agAt xs x) (agAt xs y)=c at*;have hc7:1≤c∧c≤7:=⟨h1,h7⟩
   have hcl:dB (agAt xs x) (agAt xs y)=false:=by
    unfold aM at hc;cases h:dB (agAt xs x) (agAt xs y)with
    |false=>rfl
    |true=>rw[h]at hc;exact absurd hc.symm hn8
   obtain⟨sx,sy,v0,tw,hln⟩:=T.next (bk:=bk) kf hb.toBkV rf.1 rf.2 hr hc7 hcl k3;have h7':c=7→0≤(agAt xs x).2.2.1∧(agAt xs x).2.2.1<(bk.length:Nat):=fun e=>⟨v0 e,(k3 e).1⟩
   have hlv:=T.live;have hw:IntKind.i64.wrap ((xs.length:Nat)-(kv.length:Nat))=((liveTo ys ys.length:Nat):Int):=by rw[←hlv,IntWalk.i64_in _ (by omega)];omega
   have hck:checkN bk xs (a,b)=(c,x,y,0):=k1
   by_cases hf:600<IntKind.i64.wrap ((liveTo ys ys.length:Nat)+g)
   ·refine .bad 4 (by decide) (fun us=> ?_) (fun us=> ?_)
    ·exact JC xs us bk kv (a,b) ha0 hb0 hb.ok hb.small hx7 hck hx0 hy0 h7' (by rw[hw,k2];exact hf)
    ·exact NR bk ys us a b ha1 hb1 hb.small hly hv hgy hf
   ·have pA:PortIn ys (y,0):=by
     have:=T.st.ag.port kf.py kf.ly;exact this.1
    have wx:=T.wf x hx0.1 hx0.2 kf.lx;have lx:=pQ wx;have lx2:0≤(agAt xs x).2.1∧(agAt xs x).2.1≤8:=by omega
    have hpos:0<xs.length:=T.rl;have hbkv:∀v:Int,0≤v→bkAt bk v=bkAt bk (v.toNat:Nat):=fun v h=>by rw[show((v.toNat:Nat):Int)=v by omega]
    have exq:agAt ys (ak ys a b).1=agAt xs x:=by rw[ef];exact ex
    refine .ok (cK bk xs c x y) (doneS bk ys c x y) (iL kv (dG c x y)) (fun us=> ?_) (fun us=> ?_) tw (by omega) ?_ ?_ ?_
    ·refine Od xs us bk kv (a,b) ha0 hb0 hb.ok hb.small hx7 hck hc7 sx.toIntPre T.al T.p0 (by omega) h7' (by rw[hw,k2];exact hf) fun e us=> ?_
     have F:=hb.exp (v0 e) (k3 e).1 xs (agAt xs x).2.1 ((xs.length:Int)-1) rfl hpos;have hsm:bn (bkAt bk (agAt xs x).2.2.1):=by rw[hbkv _ (v0 e)];exact hb.small _
     have hok8:∀i:Nat,0≤(agAt (bkAt bk (agAt xs x).2.2.1) i).2.1∧(agAt (bkAt bk (agAt xs x).2.2.1) i).2.1≤8:=by rw[hbkv _ (v0 e)];exact fun i=>hb.ok _ i
     have htl:=hb.tl _ (v0 e) (k3 e).1;exact TV (bkAt bk (agAt xs x).2.2.1) xs us bk kv x y hx0 (h7' e) rfl (by omega) hsm F.two (by omega) F.r0 lx2 hok8 (k3 e).2 F.bs F.ps F.rs kf.py.app F.top
    ·refine RI bk ys us a b ha1 hb1 hb.small hly hv (by rw[ef]) (by rw[ex,ey];exact hc) (by rw[ex,ey];exact hge) hc7 sy T.ally T.p0y (by rw[ex];exact h7') hf fun e us=> ?_
     rw[ex];have F:=hb.exp (v0 e) (k3 e).1 ys (agAt xs x).2.1 ((ys.length:Int)-1) rfl (by omega);have hsm:bn (bkAt bk (agAt xs x).2.2.1):=by rw[hbkv _ (v0 e)];exact hb.small _
     have hok8:∀i:Nat,0≤(agAt (bkAt bk (agAt xs x).2.2.1) i).2.1∧(agAt (bkAt bk (agAt xs x).2.2.1) i).2.1≤8:=by rw[hbkv _ (v0 e)];exact fun i=>hb.ok _ i
     have htl:=hb.tl _ (v0 e) (k3 e).1;have htop:=F.top;rw[F.pe,←F.ex,Int.add_comm]at htop;exact TU (bkAt bk (agAt xs x).2.2.1) ys us x y (agAt xs x).2.1 (by rw[ex]) (by rw[←hlen];exact hx0) (by omega) hsm (by have:=F.two;omega) (by omega) (Int.ofNat_lt.1 F.r0.2.2.2) lx2 hok8 F.bt pA htop
    ·have n1:=(eD wx).2;have n2:=(eD (T.wf y hy0.1 hy0.2 kf.ly)).2;have:=Mc (c:=c) hb n2 n1 h7';omega
    ·have hf1:=kG xs a b;rw[hxy]at hf1;have hf2:c=aM (agAt xs a) (agAt xs b):=by rw[←hf1,←hc]
     have:=FI (bk:=bk) (xs:=xs) (x:=a) (y:=b) (by rw[←hf2];exact hc7) (z:=x) (w:=y) (by omega) hxy;rw[hc]at this;exact this
    ·have hf1:=kG xs a b;rw[hxy]at hf1;have hf2:aM (agAt xs x) (agAt xs y)=aM (agAt xs a) (agAt xs b):=hf1;rw[←hf2,hc];exact hn8
  ·refine .bad e he (fun us=> ?_) (fun us=> ?_)
   ·have h1:=c1 he;have:=LA xs us bk kv (a,b) ha0 hb0 hb.ok hb.small hx7 (by rw[h1];exact he);rw[h1]at this;exact this
   ·exact Qj bk ys us a b ha1 hb1 hb.small hly hv hgy he
theorem uh:∀{a b:List Int},a.length=b.length→bH a b=true→a=b
 |[],[],_,_=>rfl
 |[],_::_,hl,_=>by cases hl
 |_::_,[],hl,_=>by cases hl
 |x::a,y::b,hl,h=>by
  unfold bH at h;rw[Bool.and_eq_true,beq_iff_eq]at h;rw[h.1,uh (by simpa using hl) h.2]
section
variable {bk:List (List NAgent)}{kv:List (Int×Bool)}{xs ys:List NAgent}
theorem EF(T:Tr.Twin kv xs ys)(k:Int):jm ys k=fG xs kv k:=by
 have hl:=T.len;unfold jm fG;cases hb:hasB xs k with
 |false=>
  have e:dH k 0 ((ys.length:Int)-1)=false:=by
   cases h:dH k 0 ((ys.length:Int)-1)with
   |false=>rfl
   |true=>
    have:=eH h
    have h2:hasB xs k=true:=by
     unfold hasB;rw[show decide (0≤k)=true by simp;omega];simp only[cond_true,decide_eq_true_eq];omega
    rw[h2]at hb;cases hb
  rw[e];rfl
 |true=>
  obtain⟨h0,h1⟩:=Ll hb
  have e:dH k 0 ((ys.length:Int)-1)=true:=by
   unfold dH;simp only[Bool.and_eq_true,decide_eq_true_eq];omega
  rw[e];simp only[cond_true];cases hk:kvGet false kv k with
  |true=>
   rw[(T.hole k hk).2];rfl
  |false=>
   have hd:¬Gone kv k:=fun e=>by
    have e':kvGet false kv k=true:=e;rw[hk]at e';cases e'
   rw[T.at_ h0 h1 hd];have:=wH (T.wf k h0 h1 hd);simp;omega
theorem jI{k:Int}(h:fG xs kv k=true):(0≤k∧k<(xs.length:Nat))∧¬Gone kv k:=by
 refine⟨gU h,fun e=> ?_⟩;have e':kvGet false kv k=true:=e;unfold fG at h;rw[e']at h;cases hb:hasB xs k<;>rw[hb]at h<;>cases h
theorem En(T:Tr.Twin kv xs ys){k:Int}(h:(0≤k∧k<(xs.length:Nat))∧¬Gone kv k):(agAt xs k).1=1↔k=0:=by
 constructor
 ·intro e
  by_cases h0:k=0
  ·exact h0
  ·exact absurd e (T.uq k (by omega) h.1.2 h.2)
 ·intro e;rw[e];exact T.r1
theorem Jf(T:Tr.Twin kv xs ys){a b:Int}(ha:fG xs kv a=true)(hb:fG xs kv b=true):nG ys a b=kC xs a b:=by
 have la:=jI ha;have lb:=jI hb;have ra:=En T la;have rb:=En T lb;unfold nG kC;rw[T.at_ la.1.1 la.1.2 la.2]
 by_cases h:a<b
 ·rw[show decide (a<b)=true by simpa using h];simp only[cond_true]
  have nb:((agAt xs b).1 !=1)=true:=by
   rw[bne_iff_ne];intro e;have:=rb.1 e;omega
  rw[nb]
  by_cases h0:0<a
  ·rw[show decide (0<a)=true by simpa using h0,show((agAt xs a).1 !=1)=true by rw[bne_iff_ne];intro e;have:=ra.1 e;omega];simp only[cond_true];cases bH _ _<;>rfl
  ·rw[show decide (0<a)=false by simpa using h0,show((agAt xs a).1 !=1)=false by simp;exact ra.2 (by omega)];cases bH _ _<;>rfl
 ·rw[show decide (a<b)=false by simpa using h];cases decide (0<a)<;>rfl
theorem CG(T:Tr.Twin kv xs ys){a b:Int}(ha:fG xs kv a=true)(hb:fG xs kv b=true)(h:kC xs a b=true):iX (Gone kv) xs a b∧(agAt xs a).1≠1∧(agAt xs b).1≠1:=by
 have la:=jI ha;have lb:=jI hb;have wa:=(eD (T.wf a la.1.1 la.1.2 la.2)).1;have wb:=(eD (T.wf b lb.1.1 lb.1.2 lb.2)).1;unfold kC at h;cases h1:decide (a<b)with
 |false=>rw[h1]at h;simp at h
 |true=>
  cases h2:bH [(elt (dflt uPort) (agAt xs a).2.2.2.2 0).1,(elt (dflt uPort) (agAt xs a).2.2.2.2 0).2] [b,0]with
  |false=>rw[h1,h2]at h;simp at h
  |true=>
   cases h3:((agAt xs a).1 !=1)with
   |false=>rw[h1,h2,h3]at h;simp at h
   |true=>
    rw[h1,h2,h3]at h;simp only[cond_true]at h;have e:=uh (by rfl) h2;simp only[List.cons.injEq,and_true]at e;have hlt:a<b:=by simpa using h1
    refine⟨⟨by omega,la.2,lb.2,⟨la.1.1,la.1.2,Int.le_refl 0,?_⟩,⟨lb.1.1,lb.1.2,Int.le_refl 0,?_⟩,Prod.ext e.1 e.2⟩,by simpa using h3,by simpa using h⟩
    ·show(0:Int)<((agAt xs a).2.2.2.2.length:Nat);omega
    ·show(0:Int)<((agAt xs b).2.2.2.2.length:Nat);omega
end
inductive Both(bk:List (List NAgent))(kv:List (Int×Bool))(xs ys:List NAgent)(ev:List NEvent)(e:NEvent):Prop
 |bad (code:Int) (hc:code≠0)
  (hI:∀us,FCall Tryz.prog 115 [.ptr 10000 0,tH e] (tR xs us bk kv ev) (.int .i64 code) (tR xs us bk kv ev))
  (hS:∀us,FCall Tryz.prog 108 [.rsl uNet bk,.ptr 10000 0,tH e] (tA ys us) (.int .i64 code) (tA ys us))
 |full (code:Int) (hc:code≠0) (x' y':List NAgent) (kv':List (Int×Bool)) (ev':List NEvent)
  (hI:∀us,FCall Tryz.prog 115 [.ptr 10000 0,tH e] (tR xs us bk kv ev) (.int .i64 code) (M6 10005 10006 x' us bk kv' ev'))
  (hS:∀us,FCall Tryz.prog 108 [.rsl uNet bk,.ptr 10000 0,tH e] (tA ys us) (.int .i64 code) (AP 10002 y' []))
 |next (x' y':List NAgent) (kv':List (Int×Bool))
  (hI:∀us,FCall Tryz.prog 115 [.ptr 10000 0,tH e] (tR xs us bk kv ev) (.int .i64 0) (M6 10005 10006 x' us bk kv' (ev++[e])))
  (hS:∀us,FCall Tryz.prog 108 [.rsl uNet bk,.ptr 10000 0,tH e] (tA ys us) (.int .i64 0) (AP 10002 y' []))
  (tw:Tr.Twin kv' x' y') (l1:x'.length≤3000) (hr:∀(es:List NEvent) (s':List zm),ku bk (x'.map sig) es s'→ku bk (xs.map sig) (e::es) s')
theorem Jh{bk:List (List NAgent)}{kv:List (Int×Bool)}{xs ys:List NAgent}{ev:List NEvent}(T:Tr.Twin kv xs ys)(hb:ET bk)(hl:xs.length≤3000)(he:ev.length≤1000)(e:NEvent):Both bk kv xs ys ev e:=by
 have hlen:=T.len;have t1:=EF T e.1;have t2:=EF T e.2.1;cases h3:(fG xs kv e.1&&fG xs kv e.2.1)with
 |false=>exact .bad 3 (by decide) (fun us=>OI xs us bk kv ev e h3) (fun us=>R7 bk ys us e (by omega) (by rw[t1,t2];exact h3))
 |true=>
  rw[Bool.and_eq_true]at h3;obtain⟨ha,hb2⟩:=h3;have hta:jm ys e.1=true:=by rw[t1];exact ha
  have htb:jm ys e.2.1=true:=by rw[t2];exact hb2
  have la:=jI ha;have wa:=(eD (T.wf e.1 la.1.1 la.1.2 la.2)).1;have lb:=jI hb2;have hpa:0<(agAt ys e.1).2.2.2.2.length:=by rw[T.at_ la.1.1 la.1.2 la.2];exact wa
  have hact:=Jf T ha hb2;have ia:=gU ha;have ib:=gU hb2;cases h5:kC xs e.1 e.2.1 with
  |false=>exact .bad 5 (by decide) (fun us=>OJ xs us bk kv ev e ha hb2 wa h5) (fun us=>R8 bk ys us e (by omega) hta htb hpa (by rw[hact];exact h5))
  |true=>
   have h5s:nG ys e.1 e.2.1=true:=by rw[hact];exact h5
   obtain⟨kp,ra,rb⟩:=CG T ha hb2 h5;have iay:0≤e.1∧e.1<(ys.length:Nat):=by rw[←hlen];exact ia
   have iby:0≤e.2.1∧e.2.1<(ys.length:Nat):=by rw[←hlen];exact ib
   cases FJ T kp ra rb hb (by omega)with
   |bad code hc hI hA=>
    refine .bad code hc (fun us=> ?_) (fun us=> ?_)
    ·exact J5 xs us bk kv ev e ha hb2 wa h5 hc (J3 xs us bk kv ev (e.1,e.2.1) hc (F6 xs us bk kv ev (e.1,e.2.1) ia ib hc (hI us)))
    ·exact Oy bk ys us e (by omega) hta htb hpa h5s hc (RJ bk ys us e.1 e.2.1 iay iby hc (hA us))
   |ok x' y' kv' hI hA tw l0 l1 sg cl=>
    have hlen':=tw.len
    have hcl:(aN (agAt xs e.1) (agAt xs e.2.1)).1=aM (agAt ys e.1) (agAt ys e.2.1):=by
     rw[T.at_ la.1.1 la.1.2 la.2,T.at_ lb.1.1 lb.1.2 lb.2,(wU (T.wf e.1 la.1.1 la.1.2 la.2) (T.wf e.2.1 lb.1.1 lb.1.2 lb.2) ra rb).1,kG]
    have hR:=fun us=>MP xs us bk kv ev (e.1,e.2.1) (JW xs us bk kv ev (e.1,e.2.1) ia ib (by omega) l0 he (hI us))
    have hE:=fun us=>Qk bk ys us e.1 e.2.1 iay iby (by omega) (by omega) (hA us)
    rw[←hcl,←hlen,←hlen']at hE
    by_cases h4:(3000:Int)<(x'.length:Int)
    ·rw[show decide ((3000:Int)<(x'.length:Int))=true by simpa using h4]at hR hE;simp only[cond_true]at hR hE;exact .full 4 (by decide) _ _ _ _ (fun us=>Gg xs us bk kv ev e ha hb2 wa h5 (by decide) (hR us)) (fun us=>MG bk ys us e (by omega) hta htb hpa h5s (by decide) (hE us))
    ·rw[show decide ((3000:Int)<(x'.length:Int))=false by simpa using h4]at hR hE;simp only[cond_false]at hR hE;have hQ:=fun us=>MQ xs us bk kv ev e ha hb2 wa h5 he (hR us)
     have hS:=fun us=>QF bk ys us e (by omega) hta htb hpa h5s (hE us)
     generalize hf:((e.1,e.2.1,(aN (agAt xs e.1) (agAt xs e.2.1)).1,(xs.length:Int),(x'.length:Int)-(xs.length:Int)):NEvent)=f at*;cases hq:bH (iJ f) (iJ e)with
     |false=>
      rw[hq]at hQ hS;exact .full 14 (by decide) _ _ _ _ hQ hS
     |true=>
      rw[hq]at hQ hS
      have hef:f=e:=by
       have:=uh (by rfl) hq;unfold iJ at this;simp only[List.cons.injEq,and_true]at this;obtain⟨q1,q2,q3,q4,q5⟩:=this;exact Prod.ext q1 (Prod.ext q2 (Prod.ext q3 (Prod.ext q4 q5)))
      subst hef;have q1:f.2.2.2.1=(xs.length:Int):=by rw[←hf]
      have q2:f.2.2.2.2=(x'.length:Int)-(xs.length:Int):=by rw[←hf]
      have hlt:f.1<f.2.1:=by
       unfold kC at h5;cases h1:decide (f.1<f.2.1)with
       |false=>rw[h1]at h5;simp at h5
       |true=>simpa using h1
      refine .next _ _ _ hQ hS tw (by omega) fun es s' hrun=> ?_
      have sga:∀i:Int,0≤i→i<(xs.length:Nat)→sig (I4 (xs.map sig) i)=sig (agAt xs i):=fun i i0 i1=>by
       unfold I4 Sz agAt elt;rw[OP,List.getD_eq_getElem?_getD,List.getD_eq_getElem?_getD,List.getElem?_map,List.getElem?_eq_getElem (by omega)];rfl
      have ea:=sga f.1 ia.1 ia.2;have eb:=sga f.2.1 ib.1 ib.2;have hnw:=Mh (bk:=bk) ea eb;have hD:Duo (agAt xs f.1) (agAt xs f.2.1):=⟨T.wf f.1 la.1.1 la.1.2 la.2,T.wf f.2.1 lb.1.1 lb.1.2 lb.2,ra,rb,cl⟩;have hxl:(x'.map sig).length=(xs.map sig).length+(Mg bk (agAt xs f.1) (agAt xs f.2.1)).length:=by rw[sg,List.length_append]
      rw[List.length_map,List.length_map]at hxl;refine .step ia.1 hlt (by rw[List.length_map];exact ib.2) (by rw[List.length_map];exact q1) ?_ (hD.sigs ea.symm eb.symm) ?_
      ·rw[hnw,q2];omega
      ·rw[hnw,←sg];exact hrun
end Go.Proofs.YtemalpelcdmemaaGreat
namespace Go.Proofs.YtemalpelcdmemaaGreat
open Go Go.RowKit Go.Proofs Go.Tr
abbrev Rf:=List (Int×Bool)×List NAgent×List NAgent×List NEvent×List NEvent
inductive Runs(bk:List (List NAgent)):List (Int×Bool)→List NAgent→List NAgent→List NEvent→List NEvent→Int→List (Int×Bool)→List NAgent→List NAgent→Prop
 |done (kv:List (Int×Bool)) (xs ys:List NAgent) (ev:List NEvent):Runs bk kv xs ys ev [] 0 kv xs ys
 |bad {kv:List (Int×Bool)} {xs ys:List NAgent} {ev es:List NEvent} {e:NEvent} (code:Int) (hc:code≠0)
  (hI:∀us,FCall Tryz.prog 115 [.ptr 10000 0,tH e] (tR xs us bk kv ev) (.int .i64 code) (tR xs us bk kv ev))
  (hS:∀us,FCall Tryz.prog 108 [.rsl uNet bk,.ptr 10000 0,tH e] (tA ys us) (.int .i64 code) (tA ys us)):Runs bk kv xs ys ev (e::es) code kv xs ys
 |full {kv:List (Int×Bool)} {xs ys:List NAgent} {ev es:List NEvent} {e:NEvent} (code:Int) (hc:code≠0) (x' y':List NAgent) (kv':List (Int×Bool)) (ev':List NEvent)
  (hI:∀us,FCall Tryz.prog 115 [.ptr 10000 0,tH e] (tR xs us bk kv ev) (.int .i64 code) (M6 10005 10006 x' us bk kv' ev'))
  (hS:∀us,FCall Tryz.prog 108 [.rsl uNet bk,.ptr 10000 0,tH e] (tA ys us) (.int .i64 code) (AP 10002 y' [])):Runs bk kv xs ys ev (e::es) code kv' x' y'
 |next {kv:List (Int×Bool)} {xs ys:List NAgent} {ev es:List NEvent} {e:NEvent} (x' y':List NAgent) (kv':List (Int×Bool)) {code:Int} {k:List (Int×Bool)} {f g:List NAgent}
  (hI:∀us,FCall Tryz.prog 115 [.ptr 10000 0,tH e] (tR xs us bk kv ev) (.int .i64 0) (M6 10005 10006 x' us bk kv' (ev++[e])))
  (hS:∀us,FCall Tryz.prog 108 [.rsl uNet bk,.ptr 10000 0,tH e] (tA ys us) (.int .i64 0) (AP 10002 y' [])) (r:Runs bk kv' x' y' (ev++[e]) es code k f g):Runs bk kv xs ys ev (e::es) code k f g
theorem Es{bk:List (List NAgent)}(hb:ET bk):∀(es:List NEvent) {kv:List (Int×Bool)} {xs ys:List NAgent} {ev:List NEvent},Tr.Twin kv xs ys→xs.length≤3000→ev.length+es.length≤1000→
  ∃code k f g,Runs bk kv xs ys ev es code k f g∧(code=0→Tr.Twin k f g∧f.length≤3000∧ku bk (xs.map sig) es (f.map sig))
 |[],kv,xs,ys,ev,T,hl,he=>⟨0,kv,xs,ys,.done _ _ _ _,fun _=>⟨T,hl,.done _⟩⟩
 |e::es,kv,xs,ys,ev,T,hl,he=>by
  rw[List.length_cons]at he;cases Jh (ev:=ev) T hb hl (by omega) e with
  |bad code hc hI hS=>exact⟨code,_,_,_,.bad code hc hI hS,fun h=>absurd h hc⟩
  |full code hc x' y' kv' ev' hI hS=>exact⟨code,_,_,_,.full code hc x' y' kv' ev' hI hS,fun h=>absurd h hc⟩
  |next x' y' kv' hI hS tw l1 hr=>
   obtain⟨code,k,f,g,r,h⟩:=Es hb es (ev:=ev++[e]) tw l1 (by rw[List.length_append,List.length_singleton];omega);refine⟨code,k,f,g,.next x' y' kv' hI hS r,fun h0=> ?_⟩;obtain⟨t1,t2,t3⟩:=h h0;exact⟨t1,t2,hr es _ t3⟩
theorem qg:callOk Tryz.prog 62=true:=by kernel_rfl
def Ui(bk:List (List NAgent))(s:Rf):List Tok:=[.cel 27 87 [.ptr 1000027 0,.sl 20001],.cel 1000027 109 [.sl 20000,.rsl uNet bk,.mp 3000027],.row 20000 150 5 uAgent s.2.1 [],.map 3000027 .bool s.1,.row 20001 74 5 uEvent s.2.2.2.1 []]
section
variable (bk:List (List NAgent))(xs:List NAgent)(es:List NEvent)
theorem Fb(h:(bookB (bk.map gN)&&netB (gN xs))=false):FCall Tryz.prog 62 [.rsl uNet bk,.agg [.rsl uAgent xs],.rsl uEvent es] [] (.tup [.raw (.pointer none),.int .i64 1]) []:=by
 refine FCall.intro (nt:=42) ti_ok mixed qg Tryz.func62 rfl rfl rfl rfl rfl rfl ?_;refine Or.inl (eI _ (aI (tmplI bk) ?_));refine Or.inl (eI _ (aI (fun _=>netI xs) ?_));refine aI (fun q=> ?_) (fun q=> ?_)
 ·refine fin [] (aI rfl ?_);exact trivial
 ·exfalso;have q1:(bif !bookB (bk.map gN)then true else !netB (gN xs))=false:=q;revert q1 h;cases bookB (bk.map gN)<;>cases netB (gN xs)<;>simp
variable (hB:bookB (bk.map gN)=true)(hN:netB (gN xs)=true)
include hB hN
theorem CZ(h:300<es.length):FCall Tryz.prog 62 [.rsl uNet bk,.agg [.rsl uAgent xs],.rsl uEvent es] [] (.tup [.raw (.pointer none),.int .i64 2]) []:=by
 refine FCall.intro (nt:=42) ti_ok mixed qg Tryz.func62 rfl rfl rfl rfl rfl rfl ?_;refine Or.inl (eI _ (aI (tmplI bk) ?_));refine Or.inl (eI _ (aI (fun _=>netI xs) ?_));refine aI (fun q=> ?_) (fun q=> ?_)
 ·exfalso;have q1:(bif !bookB (bk.map gN)then true else !netB (gN xs))=true:=q;rw[hB,hN]at q1;cases q1
 refine aI (fun q1=> ?_) (fun q1=> ?_)
 ·refine fin [] (aI rfl ?_);exact trivial
 ·exfalso;have q2:decide ((300:Int)<(es.length:Nat))=false:=q1;simp only[decide_eq_false_iff_not]at q2;omega
theorem Fa{code:Int}{k:List (Int×Bool)}{f g:List NAgent}(hs:bn xs)(hl:es.length≤300)(hc:code≠0)(R:Runs bk [] xs xs [] es code k f g):FCall Tryz.prog 62 [.rsl uNet bk,.agg [.rsl uAgent xs],.rsl uEvent es] [] (.tup [.raw (.pointer none),.int .i64 code]) []:=by
 refine FCall.intro (nt:=42) ti_ok mixed qg Tryz.func62 rfl rfl rfl rfl rfl rfl ?_;refine Or.inl (eI _ (aI (tmplI bk) ?_));refine Or.inl (eI _ (aI (fun _=>netI xs) ?_));refine aI (fun q=> ?_) (fun q=> ?_)
 ·exfalso;have q1:(bif !bookB (bk.map gN)then true else !netB (gN xs))=true:=q;rw[hB,hN]at q1;cases q1
 refine aI (fun q1=> ?_) (fun q1=> ?_)
 ·exfalso;have q2:decide ((300:Int)<(es.length:Nat))=true:=q1;simp only[decide_eq_true_eq]at q2;omega
 refine Or.inr (eI _ (eI _ (aI (Im xs bk hs) ?_)));refine lp Rf (fun s=>[(30,.int .i64 (s.2.2.2.1.length:Nat))]) (Ui bk) (fun s=>s.2.2.2.2.length) (fun s=>Runs bk s.1 s.2.1 s.2.2.1 s.2.2.2.1 s.2.2.2.2 code k f g∧s.2.2.2.1++s.2.2.2.2=es) ([],xs,xs,[],es) ⟨R,rfl⟩ ?_ ?_
 ·exact hdm [⟨2000027,30000,74,5,uEvent⟩] [(20000,2000027),(20001,30000)] rfl (aI (aI (aI rfl rfl) trivial) ⟨trivial,⟨rfl,rfl,trivial⟩,trivial,⟨rfl,rfl,rfl,trivial⟩,⟨rfl,List.nil_prefix⟩,rfl,⟨rfl,List.nil_prefix⟩,trivial⟩)
 rintro⟨kv,zs,ys,ev,rest⟩ ⟨hR,hes⟩;have hes':ev++rest=es:=hes;have hR':Runs bk kv zs ys ev rest code k f g:=hR;refine aI (fun q2=> ?_) (fun q2=> ?_)
 ·have hlt:ev.length<es.length:=by
   have q3:decide (((ev.length:Nat):Int)<(es.length:Nat))=true:=q2;simp only[decide_eq_true_eq]at q3;omega
  refine aI (show 0≤((ev.length:Nat):Int)∧((ev.length:Nat):Int)<(es.length:Nat) by omega) ?_
  have hel:∀{e:NEvent} {r:List NEvent},rest=e::r→elt (dflt uEvent) es ((ev.length:Nat):Int)=e:=fun {e r} he=>by
   unfold elt;rw[←hes',he,Int.toNat_natCast,List.getD_eq_getElem?_getD,List.getElem?_append_right (Nat.le_refl _),Nat.sub_self];rfl
  cases hR' with
  |done=>rw[List.append_nil]at hes';rw[hes']at hlt;omega
  |bad c2 hc hI hS=>
   have hI2:=hI [];rw[←hel rfl]at hI2;refine Or.inr (eI _ (eI _ (aI hI2 ?_)));refine aI (fun q3=> ?_) (fun q3=> ?_)
   ·refine fin [] (aI rfl ?_);exact trivial
   ·exfalso;have q4:(code !=0)=false:=q3;simp at q4;exact hc q4
  |full c2 hc x' y' kv' ev' hI hS=>
   have hI2:=hI [];rw[←hel rfl]at hI2;refine Or.inr (eI _ (eI _ (aI hI2 ?_)));refine aI (fun q3=> ?_) (fun q3=> ?_)
   ·refine fin [] (aI rfl ?_);exact trivial
   ·exfalso;have q4:(code !=0)=false:=q3;simp at q4;exact hc q4
  | @next _ _ _ _ r e x' y' kv' _ _ _ _ hI hS R2=>
   have hI2:=hI [];have he:=hel rfl;rw[←he]at hI2;refine Or.inr (eI _ (eI _ (aI hI2 ?_)));refine aI (fun q3=>by cases q3) (fun q3=> ?_);refine lp_next (kv',x',y',ev++[e],r) ⟨R2,by rw[←hes'];simp⟩ ?_ ?_
   ·refine hd [(20000,36),(20001,1000036)] rfl (aI (aI ?_ rfl) trivial) ⟨trivial,⟨rfl,rfl,trivial⟩,trivial,⟨rfl,rfl,rfl,trivial⟩,⟨rfl,List.nil_prefix⟩,rfl,⟨?_,List.nil_prefix⟩,trivial⟩
    ·show IntKind.i64.wrap (((ev.length:Nat):Int)+1)=(((ev++[e]).length:Nat):Int);rw[List.length_append,List.length_singleton];exact wrapS (by omega)
    ·show ev++[elt (dflt uEvent) es ((ev.length:Nat):Int)]=ev++[e];rw[he]
   ·show r.length<(e::r).length;rw[List.length_cons];omega
 ·exfalso
  have hge:es.length≤ev.length:=by
   have q3:decide (((ev.length:Nat):Int)<(es.length:Nat))=false:=q2;simp only[decide_eq_false_iff_not]at q3;omega
  have:rest=[]:=by
   have:=congrArg List.length hes';rw[List.length_append]at this;exact List.eq_nil_of_length_eq_zero (by omega)
  subst this;cases hR';exact hc rfl
theorem Jo{k:List (Int×Bool)}{f g:List NAgent}(hs:bn xs)(hl:es.length≤300)(R:Runs bk [] xs xs [] es 0 k f g):FCall Tryz.prog 62 [.rsl uNet bk,.agg [.rsl uAgent xs],.rsl uEvent es] [] (.tup [.ptr 10000 0,.int .i64 0]) (tR f [] bk k es):=by
 refine FCall.intro (nt:=42) ti_ok mixed qg Tryz.func62 rfl rfl rfl rfl rfl rfl ?_;refine Or.inl (eI _ (aI (tmplI bk) ?_));refine Or.inl (eI _ (aI (fun _=>netI xs) ?_));refine aI (fun q=> ?_) (fun q=> ?_)
 ·exfalso;have q1:(bif !bookB (bk.map gN)then true else !netB (gN xs))=true:=q;rw[hB,hN]at q1;cases q1
 refine aI (fun q1=> ?_) (fun q1=> ?_)
 ·exfalso;have q2:decide ((300:Int)<(es.length:Nat))=true:=q1;simp only[decide_eq_true_eq]at q2;omega
 refine Or.inr (eI _ (eI _ (aI (Im xs bk hs) ?_)));refine lp Rf (fun s=>[(30,.int .i64 (s.2.2.2.1.length:Nat))]) (Ui bk) (fun s=>s.2.2.2.2.length) (fun s=>Runs bk s.1 s.2.1 s.2.2.1 s.2.2.2.1 s.2.2.2.2 0 k f g∧s.2.2.2.1++s.2.2.2.2=es) ([],xs,xs,[],es) ⟨R,rfl⟩ ?_ ?_
 ·exact hdm [⟨2000027,30000,74,5,uEvent⟩] [(20000,2000027),(20001,30000)] rfl (aI (aI (aI rfl rfl) trivial) ⟨trivial,⟨rfl,rfl,trivial⟩,trivial,⟨rfl,rfl,rfl,trivial⟩,⟨rfl,List.nil_prefix⟩,rfl,⟨rfl,List.nil_prefix⟩,trivial⟩)
 rintro⟨kv,zs,ys,ev,rest⟩ ⟨hR,hes⟩;have hes':ev++rest=es:=hes;have hR':Runs bk kv zs ys ev rest 0 k f g:=hR;refine aI (fun q2=> ?_) (fun q2=> ?_)
 ·have hlt:ev.length<es.length:=by
   have q3:decide (((ev.length:Nat):Int)<(es.length:Nat))=true:=q2;simp only[decide_eq_true_eq]at q3;omega
  refine aI (show 0≤((ev.length:Nat):Int)∧((ev.length:Nat):Int)<(es.length:Nat) by omega) ?_
  have hel:∀{e:NEvent} {r:List NEvent},rest=e::r→elt (dflt uEvent) es ((ev.length:Nat):Int)=e:=fun {e r} he=>by
   unfold elt;rw[←hes',he,Int.toNat_natCast,List.getD_eq_getElem?_getD,List.getElem?_append_right (Nat.le_refl _),Nat.sub_self];rfl
  cases hR' with
  |done=>rw[List.append_nil]at hes';rw[hes']at hlt;omega
  |bad c2 hc hI hS=>exact absurd rfl hc
  |full c2 hc x' y' kv' ev' hI hS=>exact absurd rfl hc
  | @next _ _ _ _ r e x' y' kv' _ _ _ _ hI hS R2=>
   have hI2:=hI [];have he:=hel rfl;rw[←he]at hI2;refine Or.inr (eI _ (eI _ (aI hI2 ?_)));refine aI (fun q3=>by cases q3) (fun q3=> ?_);refine lp_next (kv',x',y',ev++[e],r) ⟨R2,by rw[←hes'];simp⟩ ?_ ?_
   ·refine hd [(20000,36),(20001,1000036)] rfl (aI (aI ?_ rfl) trivial) ⟨trivial,⟨rfl,rfl,trivial⟩,trivial,⟨rfl,rfl,rfl,trivial⟩,⟨rfl,List.nil_prefix⟩,rfl,⟨?_,List.nil_prefix⟩,trivial⟩
    ·show IntKind.i64.wrap (((ev.length:Nat):Int)+1)=(((ev++[e]).length:Nat):Int);rw[List.length_append,List.length_singleton];exact wrapS (by omega)
    ·show ev++[elt (dflt uEvent) es ((ev.length:Nat):Int)]=ev++[e];rw[he]
   ·show r.length<(e::r).length;rw[List.length_cons];omega
 ·have hge:es.length≤ev.length:=by
   have q3:decide (((ev.length:Nat):Int)<(es.length:Nat))=false:=q2;simp only[decide_eq_false_iff_not]at q3;omega
  have:rest=[]:=by
   have:=congrArg List.length hes';rw[List.length_append]at this;exact List.eq_nil_of_length_eq_zero (by omega)
  subst this;rw[List.append_nil]at hes';subst hes';cases hR';refine fin [(10000,27),(10001,1000027),(10002,20000),(10003,3000027),(10004,20001)] (aI rfl ?_);exact⟨trivial,⟨rfl,rfl,trivial⟩,trivial,⟨rfl,rfl,rfl,trivial⟩,⟨rfl,List.nil_prefix⟩,rfl,⟨rfl,List.nil_prefix⟩,trivial⟩
end
end Go.Proofs.YtemalpelcdmemaaGreat
namespace Go.Proofs.YtemalpelcdmemaaGreat
open Go Go.RowKit Go.Proofs Go.Tr
theorem IB:callOk Tryz.prog 122=true:=by kernel_rfl
theorem QM(xs:List NAgent)(ord:List Int)(hs:∀j:Nat,j<ord.length→(agAt xs (elt 0 ord (j:Nat))).2.2.2.1.length≤1048576∧(agAt xs (elt 0 ord (j:Nat))).2.2.2.2.length≤1048576)(hl:ord.length≤1000000)(ho:∀j:Nat,j<ord.length→0≤elt 0 ord (j:Nat)∧elt 0 ord (j:Nat)<(xs.length:Nat)):FCall Tryz.prog 122 [.rp uNet xs,.rsl (.int .i64) ord] [] (.agg [.sl 10000]) [.row 10000 150 5 uAgent (l8 xs ord ord.length) []]:=by
 refine FCall.intro (nt:=67) ti_ok mixed IB Tryz.func122 rfl rfl rfl rfl rfl rfl ?_;refine lp Nat (fun i=>[(16,.int .i64 (i:Nat))]) (fun i=>[.cel 4 36 [.raw (.slice none 0 0)],.map 13 (.int .i64) (Gw ord i)]) (fun i=>ord.length-i) (fun i=>i≤ord.length) 0 (Nat.zero_le _) ?_ ?_
 ·exact hd [] rfl (aI (aI rfl rfl) trivial) ⟨trivial,⟨rfl,trivial⟩,rfl,trivial⟩
 intro i hi;refine aI (fun q1=> ?_) (fun q1=> ?_)
 ·have hlt:i<ord.length:=by
   have q2:decide (((i:Nat):Int)<(ord.length:Nat))=true:=q1;simp only[decide_eq_true_eq]at q2;omega
  refine aI (show 0≤((i:Nat):Int)∧((i:Nat):Int)<(ord.length:Nat) by omega) ?_;refine lp_next (i+1) hlt ?_ ?_
  ·exact hd [] rfl (aI (aI (wrapS (by omega)) rfl) trivial) ⟨trivial,⟨rfl,trivial⟩,rfl,trivial⟩
  ·show ord.length-(i+1)<ord.length-i;omega
 have hie:i=ord.length:=by
  have q2:decide (((i:Nat):Int)<(ord.length:Nat))=false:=q1;simp only[decide_eq_false_iff_not]at q2;have hi':i≤ord.length:=hi;omega
 subst hie;refine lp Nat (fun k=>[(27,.int .i64 (k:Nat))]) (fun k=>[.cel 4 36 [.raw (.slice none 0 0)],.map 13 (.int .i64) (Gw ord ord.length),.cel 8 36 [.sl 20000],.row 20000 150 5 uAgent (l8 xs ord k) []]) (fun k=>ord.length-k) (fun k=>k≤ord.length) 0 (Nat.zero_le _) ?_ ?_
 ·exact hdm [⟨1000008,30000,150,5,uAgent⟩] [(20000,30000)] rfl (aI (aI (aI rfl rfl) trivial) ⟨trivial,⟨rfl,trivial⟩,rfl,trivial,⟨rfl,trivial⟩,⟨rfl,List.nil_prefix⟩,trivial⟩)
 intro k hk;refine aI (fun q1=> ?_) (fun q1=> ?_)
 ·have hlt:k<ord.length:=by
   have q2:decide (((k:Nat):Int)<(ord.length:Nat))=true:=q1;simp only[decide_eq_true_eq]at q2;omega
  have hok:=ho k hlt;have hrl:(l8 xs ord k).length=k:=by rw[yF _ _ _ (by omega),List.length_map,List.length_take];omega
  refine aI (show 0≤((k:Nat):Int)∧((k:Nat):Int)<(ord.length:Nat) by omega) ?_;refine aI hok ?_;have hsk:=hs k hlt;generalize hx:agAt xs (elt 0 ord ((k:Nat):Int))=a at*
  have hcp:FCall Tryz.prog 180 [.agg [.int .i64 (agAt xs (elt 0 ord ((k:Nat):Int))).1,.int .i64 (agAt xs (elt 0 ord ((k:Nat):Int))).2.1,.int .i64 (agAt xs (elt 0 ord ((k:Nat):Int))).2.2.1,.rsl (.int .i64) (agAt xs (elt 0 ord ((k:Nat):Int))).2.2.2.1,.rsl uPort (agAt xs (elt 0 ord ((k:Nat):Int))).2.2.2.2]] [] (.agg [.int .i64 a.1,.int .i64 a.2.1,.int .i64 a.2.2.1,.sl 10000,.sl 10001]) [.row 10000 2 1 (.int .i64) a.2.2.2.1 [],.row 10001 104 2 uPort a.2.2.2.2 []]:=by
   rw[hx];exact wW a hsk.1 hsk.2
  refine Or.inr (eI _ (eI _ (aI hcp ?_)));refine lp Nat (fun j=>[(42,.int .i64 (j:Nat))]) (fun j=>[.cel 11 150 [.int .i64 a.1,.int .i64 a.2.1,.int .i64 a.2.2.1,.sl 38,.sl 21001],.cel 4 36 [.raw (.slice none 0 0)],.map 13 (.int .i64) (Gw ord ord.length),.cel 8 36 [.sl 21000],.row 21000 150 5 uAgent (l8 xs ord k) [],.row 38 2 1 (.int .i64) a.2.2.2.1 [],.row 21001 104 2 uPort (dW (I8 ord) a.2.2.2.2 j) []]) (fun j=>a.2.2.2.2.length-j) (fun j=>j≤a.2.2.2.2.length) 0 (Nat.zero_le _) ?_ ?_
  ·exact hd [(21000,20000),(21001,1000038)] rfl (aI (aI rfl rfl) trivial) ⟨trivial,⟨⟨rfl,rfl⟩,⟨rfl,rfl⟩,⟨rfl,rfl⟩,rfl,rfl,trivial⟩,trivial,⟨rfl,trivial⟩,rfl,trivial,⟨rfl,trivial⟩,⟨rfl,List.nil_prefix⟩,⟨rfl,List.nil_prefix⟩,⟨rfl,List.nil_prefix⟩,trivial⟩
  intro j hj;have hj':j≤a.2.2.2.2.length:=hj;refine aI (fun q3=> ?_) (fun q3=> ?_)
  ·have hlt2:j<a.2.2.2.2.length:=by
    have q4:decide (((j:Nat):Int)<(a.2.2.2.2.length:Nat))=true:=q3;simp only[decide_eq_true_eq]at q4;omega
   have hbnd:0≤((j:Nat):Int)∧((j:Nat):Int)<((dW (I8 ord) a.2.2.2.2 j).length:Nat):=by rw[ql];omega
   refine aI hbnd ?_;refine aI hbnd ?_;refine aI (by kernel_rfl) ?_;refine lp_next (j+1) hlt2 ?_ ?_
   ·refine hd [] rfl (aI (aI (wrapS (by omega)) rfl) trivial) ⟨trivial,⟨⟨rfl,rfl⟩,⟨rfl,rfl⟩,⟨rfl,rfl⟩,rfl,rfl,trivial⟩,trivial,⟨rfl,trivial⟩,rfl,trivial,⟨rfl,trivial⟩,⟨rfl,List.nil_prefix⟩,⟨rfl,List.nil_prefix⟩,⟨?_,List.nil_prefix⟩,trivial⟩;show(dW (I8 ord) a.2.2.2.2 j).set j (I8 ord (elt (dflt uPort) (dW (I8 ord) a.2.2.2.2 j) ((j:Nat):Int)).1,(elt (dflt uPort) (dW (I8 ord) a.2.2.2.2 j) ((j:Nat):Int)).2)=dW (I8 ord) a.2.2.2.2 (j+1);rw[yJ hlt2,yI hlt2]
   ·show a.2.2.2.2.length-(j+1)<a.2.2.2.2.length-j;omega
  have hje:j=a.2.2.2.2.length:=by
   have q4:decide (((j:Nat):Int)<(a.2.2.2.2.length:Nat))=false:=q3;simp only[decide_eq_false_iff_not]at q4;omega
  refine aI (show(l8 xs ord k).length+1≤1073741824 by omega) ?_;refine lp_next (k+1) hlt ?_ ?_
  ·refine hd [(20000,63)] rfl (aI (aI (wrapS (by omega)) rfl) trivial) ⟨trivial,⟨rfl,trivial⟩,rfl,trivial,⟨rfl,trivial⟩,⟨?_,List.nil_prefix⟩,trivial⟩;show l8 xs ord k++[(a.1,a.2.1,a.2.2.1,a.2.2.2.1,dW (I8 ord) a.2.2.2.2 j)]=l8 xs ord k++[rnA (I8 ord) (agAt xs (elt 0 ord ((k:Nat):Int)))];rw[hx,hje,Ay];rfl
  ·show ord.length-(k+1)<ord.length-k;omega
 have hke:k=ord.length:=by
  have q2:decide (((k:Nat):Int)<(ord.length:Nat))=false:=q1;simp only[decide_eq_false_iff_not]at q2;have hk':k≤ord.length:=hk;omega
 subst hke;refine fin [(10000,20000)] (aI rfl ?_);exact⟨⟨rfl,List.nil_prefix⟩,trivial⟩
theorem QN(xs:List NAgent)(us:List Value)(bk:List (List NAgent))(kv:List (Int×Bool))(ord:List Int)(hs:∀j:Nat,j<ord.length→(agAt xs (elt 0 ord (j:Nat))).2.2.2.1.length≤1048576∧(agAt xs (elt 0 ord (j:Nat))).2.2.2.2.length≤1048576)(hl:ord.length≤1000000)(ho:∀j:Nat,j<ord.length→0≤elt 0 ord (j:Nat)∧elt 0 ord (j:Nat)<(xs.length:Nat)):
  FCall Tryz.prog 122 [.ptr 10000 0,.sl 10003] (tW xs us bk kv++[.row 10003 2 1 (.int .i64) ord []]) (.agg [.sl 10004]) ([.row 10004 150 5 uAgent (l8 xs ord ord.length) []]++(tW xs us bk kv++[.row 10003 2 1 (.int .i64) ord []])):=
 FCall.of_f (ts2:=[.row 10004 150 5 uAgent (l8 xs ord ord.length) []]) ti_ok [71,0] IB (QM xs ord hs hl ho) rfl rfl rfl
theorem Ar(kv:List (Int×Bool)):∀n:Nat,(ordTo kv n).length≤n
 |0=>Nat.le_refl 0
 |n+1=>by
  unfold ordTo;have:=Ar kv n;cases kvGet false kv ((n:Nat):Int)
  ·simp only[Bool.not_false,cond_true,List.length_append,List.length_singleton];omega
  ·simp only[Bool.not_true,cond_false];omega
theorem yu(kv:List (Int×Bool)):∀n:Nat,∀z∈ordTo kv n,0≤z∧z<((n:Nat):Int)
 |0,z,h=>by cases h
 |n+1,z,h=>by
  unfold ordTo at h;cases hg:kvGet false kv ((n:Nat):Int)with
  |false=>
   rw[hg]at h;simp only[Bool.not_false,cond_true,List.mem_append,List.mem_singleton]at h;rcases h with h|h
   ·have:=yu kv n z h;omega
   ·omega
  |true=>
   rw[hg]at h;simp only[Bool.not_true,cond_false]at h;have:=yu kv n z h;omega
theorem Eb(kv:List (Int×Bool))(n:Nat){j:Nat}(h:j<(ordTo kv n).length):0≤elt 0 (ordTo kv n) (j:Nat)∧elt 0 (ordTo kv n) (j:Nat)<((n:Nat):Int):=by
 refine yu kv n _ ?_;unfold elt;rw[Int.toNat_natCast,List.getD_eq_getElem?_getD,List.getElem?_eq_getElem h];exact List.getElem_mem h
def MR(xs:List NAgent)(kv:List (Int×Bool)):List NAgent:=l8 xs (ordTo kv xs.length) (ordTo kv xs.length).length
def wK(xs:List NAgent)(kv:List (Int×Bool)):Prop:=∀i:Nat,i<xs.length→kvGet false kv ((i:Nat):Int)=false→(agAt xs (i:Nat)).2.2.2.1.length≤1048576∧(agAt xs (i:Nat)).2.2.2.2.length≤1048576
theorem qX(kv:List (Int×Bool)):∀n:Nat,∀z∈ordTo kv n,kvGet false kv z=false
 |0,z,h=>by cases h
 |n+1,z,h=>by
  unfold ordTo at h;cases hg:kvGet false kv ((n:Nat):Int)with
  |false=>
   rw[hg]at h;simp only[Bool.not_false,cond_true,List.mem_append,List.mem_singleton]at h;rcases h with h|h
   ·exact qX kv n z h
   ·rw[h];exact hg
  |true=>
   rw[hg]at h;simp only[Bool.not_true,cond_false]at h;exact qX kv n z h
theorem wK.ord{xs:List NAgent}{kv:List (Int×Bool)}(h:wK xs kv)(j:Nat)(hj:j<(ordTo kv xs.length).length):(agAt xs (elt 0 (ordTo kv xs.length) (j:Nat))).2.2.2.1.length≤1048576∧(agAt xs (elt 0 (ordTo kv xs.length) (j:Nat))).2.2.2.2.length≤1048576:=by
 have h1:=Eb kv xs.length hj
 have h2:kvGet false kv (elt 0 (ordTo kv xs.length) (j:Nat))=false:=by
  refine qX kv xs.length _ ?_;unfold elt;rw[Int.toNat_natCast,List.getD_eq_getElem?_getD,List.getElem?_eq_getElem hj];exact List.getElem_mem hj
 have e:(((elt 0 (ordTo kv xs.length) (j:Nat)).toNat:Nat):Int)=elt 0 (ordTo kv xs.length) (j:Nat):=by omega
 have:=h (elt 0 (ordTo kv xs.length) (j:Nat)).toNat (by omega) (by rw[e];exact h2)
 rwa[e]at this
theorem OL(xs:List NAgent)(us:List Value)(bk:List (List NAgent))(kv:List (Int×Bool))(hs:wK xs kv)(hl:xs.length≤900000):FCall Tryz.prog 67 [.ptr 10000 0] (tW xs us bk kv) (.agg [.sl 10003]) (.row 10003 150 5 uAgent (MR xs kv) []::tW xs us bk kv):=by
 refine FCall.intro (nt:=31) ti_ok mixed (by kernel_rfl) Tryz.func67 rfl rfl rfl rfl rfl rfl ?_;refine lp Nat (fun i=>[(11,.int .i64 (i:Nat)),(3,.sl 20001)]) (fun i=>[.cel 2 36 [.raw (.slice none 0 0)],.cel 10000 109 [.sl 10001,.rsl uNet bk,.mp 10002],.row 10001 150 5 uAgent xs us,.map 10002 .bool kv,.row 20001 2 1 (.int .i64) (ordTo kv i) []]) (fun i=>xs.length-i) (fun i=>i≤xs.length) 0 (Nat.zero_le _) ?_ ?_
 ·exact hdm [⟨3,30000,2,1,.int .i64⟩] [(20001,30000)] rfl (aI (aI (aI rfl rfl) (aI rfl trivial)) ⟨trivial,⟨rfl,trivial⟩,trivial,⟨rfl,rfl,rfl,trivial⟩,⟨rfl,List.prefix_refl _⟩,rfl,⟨rfl,List.nil_prefix⟩,trivial⟩)
 intro i hi;have hol:=Ar kv i;refine aI (fun q1=> ?_) (fun q1=> ?_)
 ·have hlt:i<xs.length:=by
   have q2:decide (((i:Nat):Int)<(xs.length:Nat))=true:=q1;simp only[decide_eq_true_eq]at q2;omega
  have hst:ordTo kv (i+1)=bif !(kvGet false kv ((i:Nat):Int))then ordTo kv i++[((i:Nat):Int)]else ordTo kv i:=rfl
  refine aI (fun q2=> ?_) (fun q2=> ?_)
  ·have q3:(!(kvGet false kv ((i:Nat):Int)))=true:=q2;rw[q3]at hst;refine aI (show(ordTo kv i).length+1≤1073741824 by omega) ?_;refine lp_next (i+1) hlt ?_ ?_
   ·refine hd [(20001,24)] rfl (aI (aI (wrapS (by omega)) rfl) (aI rfl trivial)) ⟨trivial,⟨rfl,trivial⟩,trivial,⟨rfl,rfl,rfl,trivial⟩,⟨rfl,List.prefix_refl _⟩,rfl,⟨hst.symm,List.nil_prefix⟩,trivial⟩
   ·show xs.length-(i+1)<xs.length-i;omega
  ·have q3:(!(kvGet false kv ((i:Nat):Int)))=false:=q2;rw[q3]at hst;refine lp_next (i+1) hlt ?_ ?_
   ·refine hd [] rfl (aI (aI (wrapS (by omega)) rfl) (aI rfl trivial)) ⟨trivial,⟨rfl,trivial⟩,trivial,⟨rfl,rfl,rfl,trivial⟩,⟨rfl,List.prefix_refl _⟩,rfl,⟨hst.symm,List.nil_prefix⟩,trivial⟩
   ·show xs.length-(i+1)<xs.length-i;omega
 have hie:i=xs.length:=by
  have q2:decide (((i:Nat):Int)<(xs.length:Nat))=false:=q1;simp only[decide_eq_false_iff_not]at q2;have hi':i≤xs.length:=hi;omega
 subst hie;refine Or.inr (eI _ (eI _ (aI (QN xs us bk kv (ordTo kv xs.length) hs.ord (by omega) fun j hj=>Eb kv _ hj) ?_)));refine fin [(10003,30)] (aI rfl ?_);exact⟨⟨rfl,List.nil_prefix⟩,trivial,⟨rfl,rfl,rfl,trivial⟩,⟨rfl,List.prefix_refl _⟩,rfl,trivial⟩
theorem Pw:callOk Tryz.prog 27=true:=by kernel_rfl
section
variable (bk:List (List NAgent))(xs:List NAgent)(a:List NEvent)
theorem TH{c:Int}(hc:c≠0)(h:FCall Tryz.prog 62 [.rsl uNet bk,.agg [.rsl uAgent xs],.rsl uEvent a] [] (.tup [.raw (.pointer none),.int .i64 c]) []):FCall Tryz.prog 27 [.rsl uNet bk,.agg [.rsl uAgent xs],.rsl uEvent a] [] (.tup [.agg [.raw (.slice none 0 0)],.int .i64 c]) []:=by
 refine FCall.intro (nt:=26) ti_ok mixed Pw Tryz.func27 rfl rfl rfl rfl rfl rfl ?_;refine Or.inr (eI _ (eI _ (aI h ?_)));refine aI (fun q=> ?_) (fun q=> ?_)
 ·exact fin [] (aI rfl trivial)
 ·exfalso;have q2:(c !=0)=false:=q;simp at q2;exact hc q2
theorem TJ{k:List (Int×Bool)}{f:List NAgent}(hs:wK f k)(hl:f.length≤900000)(h1:FCall Tryz.prog 62 [.rsl uNet bk,.agg [.rsl uAgent xs],.rsl uEvent a] [] (.tup [.ptr 10000 0,.int .i64 0]) (tR f [] bk k a)):FCall Tryz.prog 27 [.rsl uNet bk,.agg [.rsl uAgent xs],.rsl uEvent a] [] (.tup [.agg [.sl 10000],.int .i64 0]) [.row 10000 150 5 uAgent (MR f k) []]:=by
 refine FCall.intro (nt:=26) ti_ok mixed Pw Tryz.func27 rfl rfl rfl rfl rfl rfl ?_;refine Or.inr (eI _ (eI _ (aI h1 ?_)));refine aI (fun q=>by cases q) (fun _=> ?_);refine Or.inr (eI _ (eI _ (aI (OL f [] bk k hs hl) ?_)));refine fin [(10000,25)] (aI rfl ?_);exact⟨⟨rfl,List.nil_prefix⟩,trivial⟩
end
end Go.Proofs.YtemalpelcdmemaaGreat
namespace Go.Proofs.YtemalpelcdmemaaGreat
open Go Go.RowKit Go.Proofs Go.Tr
theorem IG(xs:List NAgent)(h:bn xs):FCall Tryz.prog 71 [.rp uNet xs] [] (.agg [.sl 10000]) [.row 10000 150 5 uAgent xs []]:=by
 obtain⟨hl,ha⟩:=h;refine FCall.intro (nt:=28) ti_ok mixed (by kernel_rfl) Tryz.func71 rfl rfl rfl rfl rfl rfl ?_;refine lp Nat (fun i=>[(4,.int .i64 (i:Nat))]) (fun i=>[.cel 2 36 [.raw (.slice none 0 0)],.cel 3 36 [.sl 20000],.row 20000 150 5 uAgent (xs.take i) []]) (fun i=>xs.length-i) (fun i=>i≤xs.length) 0 (Nat.zero_le _) ?_ ?_
 ·exact hdm [⟨1000003,30000,150,5,uAgent⟩] [(20000,30000)] rfl (aI (aI (aI rfl rfl) trivial) ⟨trivial,⟨rfl,trivial⟩,trivial,⟨rfl,trivial⟩,⟨rfl,List.nil_prefix⟩,trivial⟩)
 intro i hi;refine aI (fun q1=> ?_) (fun q1=> ?_)
 ·have hlt:i<xs.length:=by simpa using q1
  refine aI (by show(0:Int)≤(i:Nat)∧((i:Nat):Int)<(xs.length:Nat);omega) ?_;refine Or.inr (eI _ (eI _ (aI (FZ (agAt xs i) (ha i).1 (ha i).2) ?_)));refine aI (by show(xs.take i).length+1≤_;rw[List.length_take];omega) ?_;refine aI (by kernel_rfl) ?_;refine lp_next (i+1) hlt ?_ ?_
  ·refine hd [(20000,25)] rfl (aI (aI (wrapS (by omega)) rfl) trivial) ⟨trivial,⟨rfl,trivial⟩,trivial,⟨rfl,trivial⟩,⟨?_,List.nil_prefix⟩,trivial⟩;show xs.take i++[agAt xs i]=xs.take (i+1);rw[List.take_add_one,List.getElem?_eq_getElem hlt];unfold agAt elt;rw[Int.toNat_natCast,List.getD_eq_getElem?_getD,List.getElem?_eq_getElem hlt];rfl
  ·show xs.length-(i+1)<xs.length-i;omega
 ·have hge:xs.length≤i:=by simpa using q1
  refine fin [(10000,20000)] (aI rfl ?_);refine⟨⟨?_,List.nil_prefix⟩,trivial⟩;show xs.take i=xs;rw[List.take_of_length_le hge]
theorem jE:callOk Tryz.prog 58=true:=by kernel_rfl
def Uj(s:Rf):List Tok:=[.cel 6 36 [.raw (.slice none 0 0)],.cel 8 36 [.sl 20000],.row 20000 150 5 uAgent s.2.2.1 []]
section
variable (bk:List (List NAgent))(xs:List NAgent)(es:List NEvent)
theorem Jm(h:(bookB (bk.map gN)&&netB (gN xs))=false):FCall Tryz.prog 58 [.rsl uNet bk,.rp uNet xs,.rsl uEvent es] [] (.tup [.agg [.raw (.slice none 0 0)],.int .i64 1]) []:=by
 refine FCall.intro (nt:=43) ti_ok mixed jE Tryz.func58 rfl rfl rfl rfl rfl rfl ?_;refine Or.inl (eI _ (aI (GK bk) ?_));refine Or.inl (eI _ (aI (fun _=>Ol xs) ?_));refine aI (fun q=> ?_) (fun q=> ?_)
 ·refine fin [] (aI rfl ?_);exact trivial
 ·exfalso;have q1:(bif !bookB (bk.map gN)then true else !netB (gN xs))=false:=q;revert q1 h;cases bookB (bk.map gN)<;>cases netB (gN xs)<;>simp
variable (hB:bookB (bk.map gN)=true)(hN:netB (gN xs)=true)
include hB hN
theorem E9(h:300<es.length):FCall Tryz.prog 58 [.rsl uNet bk,.rp uNet xs,.rsl uEvent es] [] (.tup [.agg [.raw (.slice none 0 0)],.int .i64 2]) []:=by
 refine FCall.intro (nt:=43) ti_ok mixed jE Tryz.func58 rfl rfl rfl rfl rfl rfl ?_;refine Or.inl (eI _ (aI (GK bk) ?_));refine Or.inl (eI _ (aI (fun _=>Ol xs) ?_));refine aI (fun q=> ?_) (fun q=> ?_)
 ·exfalso;have q1:(bif !bookB (bk.map gN)then true else !netB (gN xs))=true:=q;rw[hB,hN]at q1;cases q1
 refine aI (fun q1=> ?_) (fun q1=> ?_)
 ·refine fin [] (aI rfl ?_);exact trivial
 ·exfalso;have q2:decide ((300:Int)<(es.length:Nat))=false:=q1;simp only[decide_eq_false_iff_not]at q2;omega
theorem Jl{code:Int}{k:List (Int×Bool)}{f g:List NAgent}(hs:bn xs)(hl:es.length≤300)(hc:code≠0)(R:Runs bk [] xs xs [] es code k f g):FCall Tryz.prog 58 [.rsl uNet bk,.rp uNet xs,.rsl uEvent es] [] (.tup [.agg [.raw (.slice none 0 0)],.int .i64 code]) []:=by
 refine FCall.intro (nt:=43) ti_ok mixed jE Tryz.func58 rfl rfl rfl rfl rfl rfl ?_;refine Or.inl (eI _ (aI (GK bk) ?_));refine Or.inl (eI _ (aI (fun _=>Ol xs) ?_));refine aI (fun q=> ?_) (fun q=> ?_)
 ·exfalso;have q1:(bif !bookB (bk.map gN)then true else !netB (gN xs))=true:=q;rw[hB,hN]at q1;cases q1
 refine aI (fun q1=> ?_) (fun q1=> ?_)
 ·exfalso;have q2:decide ((300:Int)<(es.length:Nat))=true:=q1;simp only[decide_eq_true_eq]at q2;omega
 refine Or.inr (eI _ (eI _ (aI (IG xs hs) ?_)));refine lp Rf (fun s=>[(9,.int .i64 (s.2.2.2.1.length:Nat))]) Uj (fun s=>s.2.2.2.2.length) (fun s=>Runs bk s.1 s.2.1 s.2.2.1 s.2.2.2.1 s.2.2.2.2 code k f g∧s.2.2.2.1++s.2.2.2.2=es) ([],xs,xs,[],es) ⟨R,rfl⟩ ?_ ?_
 ·exact hd [(20000,25)] rfl (aI (aI rfl rfl) trivial) ⟨trivial,⟨rfl,trivial⟩,trivial,⟨rfl,trivial⟩,⟨rfl,List.nil_prefix⟩,trivial⟩
 rintro⟨kv,zs,ys,ev,rest⟩ ⟨hR,hes⟩;have hes':ev++rest=es:=hes;have hR':Runs bk kv zs ys ev rest code k f g:=hR;refine aI (fun q2=> ?_) (fun q2=> ?_)
 ·have hlt:ev.length<es.length:=by
   have q3:decide (((ev.length:Nat):Int)<(es.length:Nat))=true:=q2;simp only[decide_eq_true_eq]at q3;omega
  refine aI (show 0≤((ev.length:Nat):Int)∧((ev.length:Nat):Int)<(es.length:Nat) by omega) ?_
  have hel:∀{e:NEvent} {r:List NEvent},rest=e::r→elt (dflt uEvent) es ((ev.length:Nat):Int)=e:=fun {e r} he=>by
   unfold elt;rw[←hes',he,Int.toNat_natCast,List.getD_eq_getElem?_getD,List.getElem?_append_right (Nat.le_refl _),Nat.sub_self];rfl
  cases hR' with
  |done=>rw[List.append_nil]at hes';rw[hes']at hlt;omega
  |bad c2 hc hI hS=>
   have hI2:=hS [];rw[←hel rfl]at hI2;refine Or.inr (eI _ (eI _ (aI hI2 ?_)));refine aI (fun q3=> ?_) (fun q3=> ?_)
   ·refine fin [] (aI rfl ?_);exact trivial
   ·exfalso;have q4:(code !=0)=false:=q3;simp at q4;exact hc q4
  |full c2 hc x' y' kv' ev' hI hS=>
   have hI2:=hS [];rw[←hel rfl]at hI2;refine Or.inr (eI _ (eI _ (aI hI2 ?_)));refine aI (fun q3=> ?_) (fun q3=> ?_)
   ·refine fin [] (aI rfl ?_);exact trivial
   ·exfalso;have q4:(code !=0)=false:=q3;simp at q4;exact hc q4
  | @next _ _ _ _ r e x' y' kv' _ _ _ _ hI hS R2=>
   have hI2:=hS [];have he:=hel rfl;rw[←he]at hI2;refine Or.inr (eI _ (eI _ (aI hI2 ?_)));refine aI (fun q3=>by cases q3) (fun q3=> ?_);refine lp_next (kv',x',y',ev++[e],r) ⟨R2,by rw[←hes'];simp⟩ ?_ ?_
   ·refine hd [(20000,37)] rfl (aI (aI ?_ rfl) trivial) ⟨trivial,⟨rfl,trivial⟩,trivial,⟨rfl,trivial⟩,⟨rfl,List.nil_prefix⟩,trivial⟩;show IntKind.i64.wrap (((ev.length:Nat):Int)+1)=(((ev++[e]).length:Nat):Int);rw[List.length_append,List.length_singleton];exact wrapS (by omega)
   ·show r.length<(e::r).length;rw[List.length_cons];omega
 ·exfalso
  have hge:es.length≤ev.length:=by
   have q3:decide (((ev.length:Nat):Int)<(es.length:Nat))=false:=q2;simp only[decide_eq_false_iff_not]at q3;omega
  have:rest=[]:=by
   have:=congrArg List.length hes';rw[List.length_append]at this;exact List.eq_nil_of_length_eq_zero (by omega)
  subst this;cases hR';exact hc rfl
theorem KG{k:List (Int×Bool)}{f g:List NAgent}(hs:bn xs)(hl:es.length≤300)(R:Runs bk [] xs xs [] es 0 k f g):FCall Tryz.prog 58 [.rsl uNet bk,.rp uNet xs,.rsl uEvent es] [] (.tup [.agg [.sl 10000],.int .i64 0]) [.row 10000 150 5 uAgent g []]:=by
 refine FCall.intro (nt:=43) ti_ok mixed jE Tryz.func58 rfl rfl rfl rfl rfl rfl ?_;refine Or.inl (eI _ (aI (GK bk) ?_));refine Or.inl (eI _ (aI (fun _=>Ol xs) ?_));refine aI (fun q=> ?_) (fun q=> ?_)
 ·exfalso;have q1:(bif !bookB (bk.map gN)then true else !netB (gN xs))=true:=q;rw[hB,hN]at q1;cases q1
 refine aI (fun q1=> ?_) (fun q1=> ?_)
 ·exfalso;have q2:decide ((300:Int)<(es.length:Nat))=true:=q1;simp only[decide_eq_true_eq]at q2;omega
 refine Or.inr (eI _ (eI _ (aI (IG xs hs) ?_)));refine lp Rf (fun s=>[(9,.int .i64 (s.2.2.2.1.length:Nat))]) Uj (fun s=>s.2.2.2.2.length) (fun s=>Runs bk s.1 s.2.1 s.2.2.1 s.2.2.2.1 s.2.2.2.2 0 k f g∧s.2.2.2.1++s.2.2.2.2=es) ([],xs,xs,[],es) ⟨R,rfl⟩ ?_ ?_
 ·exact hd [(20000,25)] rfl (aI (aI rfl rfl) trivial) ⟨trivial,⟨rfl,trivial⟩,trivial,⟨rfl,trivial⟩,⟨rfl,List.nil_prefix⟩,trivial⟩
 rintro⟨kv,zs,ys,ev,rest⟩ ⟨hR,hes⟩;have hes':ev++rest=es:=hes;have hR':Runs bk kv zs ys ev rest 0 k f g:=hR;refine aI (fun q2=> ?_) (fun q2=> ?_)
 ·have hlt:ev.length<es.length:=by
   have q3:decide (((ev.length:Nat):Int)<(es.length:Nat))=true:=q2;simp only[decide_eq_true_eq]at q3;omega
  refine aI (show 0≤((ev.length:Nat):Int)∧((ev.length:Nat):Int)<(es.length:Nat) by omega) ?_
  have hel:∀{e:NEvent} {r:List NEvent},rest=e::r→elt (dflt uEvent) es ((ev.length:Nat):Int)=e:=fun {e r} he=>by
   unfold elt;rw[←hes',he,Int.toNat_natCast,List.getD_eq_getElem?_getD,List.getElem?_append_right (Nat.le_refl _),Nat.sub_self];rfl
  cases hR' with
  |done=>rw[List.append_nil]at hes';rw[hes']at hlt;omega
  |bad c2 hc hI hS=>exact absurd rfl hc
  |full c2 hc x' y' kv' ev' hI hS=>exact absurd rfl hc
  | @next _ _ _ _ r e x' y' kv' _ _ _ _ hI hS R2=>
   have hI2:=hS [];have he:=hel rfl;rw[←he]at hI2;refine Or.inr (eI _ (eI _ (aI hI2 ?_)));refine aI (fun q3=>by cases q3) (fun q3=> ?_);refine lp_next (kv',x',y',ev++[e],r) ⟨R2,by rw[←hes'];simp⟩ ?_ ?_
   ·refine hd [(20000,37)] rfl (aI (aI ?_ rfl) trivial) ⟨trivial,⟨rfl,trivial⟩,trivial,⟨rfl,trivial⟩,⟨rfl,List.nil_prefix⟩,trivial⟩;show IntKind.i64.wrap (((ev.length:Nat):Int)+1)=(((ev++[e]).length:Nat):Int);rw[List.length_append,List.length_singleton];exact wrapS (by omega)
   ·show r.length<(e::r).length;rw[List.length_cons];omega
 ·have hge:es.length≤ev.length:=by
   have q3:decide (((ev.length:Nat):Int)<(es.length:Nat))=false:=q2;simp only[decide_eq_false_iff_not]at q3;omega
  have:rest=[]:=by
   have:=congrArg List.length hes';rw[List.length_append]at this;exact List.eq_nil_of_length_eq_zero (by omega)
  subst this;cases hR';refine fin [(10000,20000)] (aI rfl ?_);exact⟨⟨rfl,List.nil_prefix⟩,trivial⟩
end
end Go.Proofs.YtemalpelcdmemaaGreat
namespace Go.Proofs.YtemalpelcdmemaaGreat
open Go Go.RowKit Go.Proofs Go.Tr
section
variable (bk:List (List NAgent))(xs:List NAgent)(a b:List NEvent)
theorem Qe{es:List NEvent}{c:Int}(h:FCall Tryz.prog 58 [.rsl uNet bk,.rp uNet xs,.rsl uEvent es] [] (.tup [.agg [.raw (.slice none 0 0)],.int .i64 c]) []):FCall Tryz.prog 58 [.rsl uNet bk,.ptr 10000 0,.rsl uEvent es] [.cel 10000 36 [.rsl uAgent xs]] (.tup [.agg [.raw (.slice none 0 0)],.int .i64 c]) [.cel 10000 36 [.rsl uAgent xs]]:=
 FCall.of_f (ts2:=[]) ti_ok [0,71,0] jE h rfl rfl rfl
theorem RB{es:List NEvent}{g:List NAgent}(h:FCall Tryz.prog 58 [.rsl uNet bk,.rp uNet xs,.rsl uEvent es] [] (.tup [.agg [.sl 10000],.int .i64 0]) [.row 10000 150 5 uAgent g []]):FCall Tryz.prog 58 [.rsl uNet bk,.ptr 10000 0,.rsl uEvent es] [.cel 10000 36 [.rsl uAgent xs]] (.tup [.agg [.sl 10001],.int .i64 0]) [.row 10001 150 5 uAgent g [],.cel 10000 36 [.rsl uAgent xs]]:=
 FCall.of_f (ts2:=[.row 10001 150 5 uAgent g []]) ti_ok [0,71,0] jE h rfl rfl rfl
end
end Go.Proofs.YtemalpelcdmemaaGreat
namespace Go.Proofs.YtemalpelcdmemaaGreat
open Go Go.RowKit Go.Proofs Go.Tr
def uJ(ys:List NAgent)(i:Nat):List Int:=(List.range i).map fun j:Nat=>((cntY ys j:Nat):Int)
theorem DU(ys:List NAgent)(i:Nat):(uJ ys i).length=i:=by unfold uJ;simp
theorem Ak(ys:List NAgent)(i:Nat):uJ ys (i+1)=uJ ys i++[((cntY ys i:Nat):Int)]:=by unfold uJ;rw[List.range_succ,List.map_append];rfl
theorem Oo(ys:List NAgent){n:Nat}{x:Int}(h0:0≤x)(h1:x<((n:Nat):Int)):elt 0 (uJ ys n) x=nowF ys x:=by
 unfold elt uJ nowF;rw[List.getD_eq_getElem?_getD,List.getElem?_map,List.getElem?_range (by omega)];rfl
theorem yA(ys:List NAgent):∀n:Nat,(packTo ys n).length≤n
 |0=>Nat.le_refl 0
 |n+1=>by
  unfold packTo;have:=yA ys n;cases liveY ys n
  ·simp only[cond_false];omega
  ·simp only[cond_true,List.length_append,List.length_singleton];omega
theorem R5(ys:List NAgent)(us:List Value)(hs:bn ys)(hl:ys.length≤900000)(hA:AllIn ys):FCall Tryz.prog 66 [.ptr 10000 0] (tA ys us) (.tup []) (AP 10002 (packN ys) []):=by
 refine FCall.intro (nt:=89) ti_ok mixed (by kernel_rfl) Tryz.func66 rfl rfl rfl rfl rfl rfl ?_;refine lp Nat (fun i=>[(4,.int .i64 (i:Nat)),(3,.int .i64 (cntY ys i:Nat)),(2,.sl 20000)]) (fun i=>[.cel 10000 36 [.sl 10001],.row 10001 150 5 uAgent ys us,.row 20000 2 1 (.int .i64) (uJ ys i) []]) (fun i=>ys.length-i) (fun i=>i≤ys.length) 0 (Nat.zero_le _) ?_ ?_
 ·exact hd [(20000,9)] rfl (aI (aI rfl rfl) (aI (aI rfl rfl) (aI rfl trivial))) ⟨trivial,⟨rfl,trivial⟩,⟨rfl,List.prefix_refl _⟩,⟨rfl,List.nil_prefix⟩,trivial⟩
 intro i hi;refine aI (fun q1=> ?_) (fun q1=> ?_)
 ·have hlt:i<ys.length:=by
   have q2:decide (((i:Nat):Int)<(ys.length:Nat))=true:=q1;simp only[decide_eq_true_eq]at q2;omega
  have hbd:0≤((i:Nat):Int)∧((i:Nat):Int)<(ys.length:Nat):=by omega
  have hc:=GZ ys i;have hst:cntY ys (i+1)=bif liveY ys i then cntY ys i+1 else cntY ys i:=rfl
  refine aI (show(uJ ys i).length+1≤1073741824 by rw[DU];omega) ?_;refine aI hbd ?_;refine aI (fun q2=> ?_) (fun q2=> ?_)
  ·have q3:liveY ys i=true:=q2;rw[q3]at hst;refine lp_next (i+1) hlt ?_ ?_
   ·refine hd [(20000,22)] rfl (aI (aI (wrapS (by omega)) rfl) (aI (aI ?_ rfl) (aI rfl trivial))) ⟨trivial,⟨rfl,trivial⟩,⟨rfl,List.prefix_refl _⟩,⟨(Ak ys i).symm,List.nil_prefix⟩,trivial⟩;show IntKind.i64.wrap (((cntY ys i:Nat):Int)+1)=((cntY ys (i+1):Nat):Int);rw[hst];exact wrapS (by omega)
   ·show ys.length-(i+1)<ys.length-i;omega
  ·have q3:liveY ys i=false:=q2;rw[q3]at hst;refine lp_next (i+1) hlt ?_ ?_
   ·refine hd [(20000,22)] rfl (aI (aI (wrapS (by omega)) rfl) (aI (aI ?_ rfl) (aI rfl trivial))) ⟨trivial,⟨rfl,trivial⟩,⟨rfl,List.prefix_refl _⟩,⟨(Ak ys i).symm,List.nil_prefix⟩,trivial⟩;show((cntY ys i:Nat):Int)=((cntY ys (i+1):Nat):Int);rw[hst];rfl
   ·show ys.length-(i+1)<ys.length-i;omega
 have hie:i=ys.length:=by
  have q2:decide (((i:Nat):Int)<(ys.length:Nat))=false:=q1;simp only[decide_eq_false_iff_not]at q2;have hi':i≤ys.length:=hi;omega
 subst hie;refine lp Nat (fun k=>[(6,.int .i64 (k:Nat)),(2,.sl 20000),(5,.sl 20001)]) (fun k=>[.cel 10000 36 [.sl 10001],.row 10001 150 5 uAgent ys us,.row 20000 2 1 (.int .i64) (uJ ys ys.length) [],.row 20001 150 5 uAgent (packTo ys k) []]) (fun k=>ys.length-k) (fun k=>k≤ys.length) 0 (Nat.zero_le _) ?_ ?_
 ·exact hd [(20001,34)] rfl (aI (aI rfl rfl) (aI rfl (aI rfl trivial))) ⟨trivial,⟨rfl,trivial⟩,⟨rfl,List.prefix_refl _⟩,⟨rfl,List.nil_prefix⟩,⟨rfl,List.nil_prefix⟩,trivial⟩
 intro k hk;have hk':k≤ys.length:=hk;refine aI (fun q1=> ?_) (fun q1=> ?_)
 ·have hlt:k<ys.length:=by
   have q2:decide (((k:Nat):Int)<(ys.length:Nat))=true:=q1;simp only[decide_eq_true_eq]at q2;omega
  have hbd:0≤((k:Nat):Int)∧((k:Nat):Int)<(ys.length:Nat):=by omega
  have hpl:=yA ys k;have hst:packTo ys (k+1)=bif liveY ys k then packTo ys k++[rnA (nowF ys) (agAt ys (k:Nat))]else packTo ys k:=rfl
  refine aI hbd ?_;refine aI (fun q2=> ?_) (fun q2=> ?_)
  ·have q3:liveY ys k=true:=q2;rw[q3]at hst;refine aI hbd ?_;have hsk:=hs.2 k;have hsk2:(agAt ys (k:Nat)).2.2.2.2.length≤1048576:=hsk.2;refine Or.inr (eI _ (eI _ (aI (yx ys us ((k:Nat):Int) hsk.1 hsk.2) ?_)));refine lp Nat (fun j=>[(8,.int .i64 (j:Nat)),(2,.sl 21000),(5,.sl 21001)]) (fun j=>[.cel 7 150 [.int .i64 (agAt ys (k:Nat)).1,.int .i64 (agAt ys (k:Nat)).2.1,.int .i64 (agAt ys (k:Nat)).2.2.1,.sl 59,.sl 21002],.cel 10000 36 [.sl 10001],.row 10001 150 5 uAgent ys us,.row 21000 2 1 (.int .i64) (uJ ys ys.length) [],.row 21001 150 5 uAgent (packTo ys k) [],.row 59 2 1 (.int .i64) (agAt ys (k:Nat)).2.2.2.1 [],.row 21002 104 2 uPort (dW (nowF ys) (agAt ys (k:Nat)).2.2.2.2 j) []]) (fun j=>(agAt ys (k:Nat)).2.2.2.2.length-j) (fun j=>j≤(agAt ys (k:Nat)).2.2.2.2.length) 0 (Nat.zero_le _) ?_ ?_
   ·exact hd [(21000,20000),(21001,20001),(21002,1000059)] rfl (aI (aI rfl rfl) (aI rfl (aI rfl trivial))) ⟨trivial,⟨⟨rfl,rfl⟩,⟨rfl,rfl⟩,⟨rfl,rfl⟩,rfl,rfl,trivial⟩,trivial,⟨rfl,trivial⟩,⟨rfl,List.prefix_refl _⟩,⟨rfl,List.nil_prefix⟩,⟨rfl,List.nil_prefix⟩,⟨rfl,List.nil_prefix⟩,⟨rfl,List.nil_prefix⟩,trivial⟩
   intro j hj;have hj':j≤(agAt ys (k:Nat)).2.2.2.2.length:=hj;refine aI (fun q4=> ?_) (fun q4=> ?_)
   ·have hlt2:j<(agAt ys (k:Nat)).2.2.2.2.length:=by
     have q5:decide (((j:Nat):Int)<((dW (nowF ys) (agAt ys (k:Nat)).2.2.2.2 j).length:Nat))=true:=q4;rw[ql]at q5;simp only[decide_eq_true_eq]at q5;omega
    have hbnd:0≤((j:Nat):Int)∧((j:Nat):Int)<((dW (nowF ys) (agAt ys (k:Nat)).2.2.2.2 j).length:Nat):=by rw[ql];omega
    have hin:PortIn ys (peerN ys (((k:Nat):Int),((j:Nat):Int))):=hA _ ⟨hbd.1,hbd.2,by show(0:Int)≤(j:Nat);omega,by show((j:Nat):Int)<((agAt ys (k:Nat)).2.2.2.2.length:Nat);omega⟩;have hpe:elt (dflt uPort) (dW (nowF ys) (agAt ys (k:Nat)).2.2.2.2 j) ((j:Nat):Int)=peerN ys (((k:Nat):Int),((j:Nat):Int)):=yI hlt2;refine aI hbnd ?_;refine aI (show 0≤(elt (dflt uPort) (dW (nowF ys) (agAt ys (k:Nat)).2.2.2.2 j) ((j:Nat):Int)).1∧(elt (dflt uPort) (dW (nowF ys) (agAt ys (k:Nat)).2.2.2.2 j) ((j:Nat):Int)).1<((uJ ys ys.length).length:Nat) by rw[hpe,DU];exact⟨hin.1,hin.2.1⟩) ?_
    refine aI hbnd ?_;refine aI (by kernel_rfl) ?_;refine lp_next (j+1) hlt2 ?_ ?_
    ·refine hd [] rfl (aI (aI (wrapS (by omega)) rfl) (aI rfl (aI rfl trivial))) ⟨trivial,⟨⟨rfl,rfl⟩,⟨rfl,rfl⟩,⟨rfl,rfl⟩,rfl,rfl,trivial⟩,trivial,⟨rfl,trivial⟩,⟨rfl,List.prefix_refl _⟩,⟨rfl,List.nil_prefix⟩,⟨rfl,List.nil_prefix⟩,⟨rfl,List.nil_prefix⟩,⟨?_,List.nil_prefix⟩,trivial⟩;show(dW (nowF ys) (agAt ys (k:Nat)).2.2.2.2 j).set j (elt 0 (uJ ys ys.length) (elt (dflt uPort) (dW (nowF ys) (agAt ys (k:Nat)).2.2.2.2 j) ((j:Nat):Int)).1,(elt (dflt uPort) (dW (nowF ys) (agAt ys (k:Nat)).2.2.2.2 j) ((j:Nat):Int)).2)=dW (nowF ys) (agAt ys (k:Nat)).2.2.2.2 (j+1)
     rw[yJ hlt2,yI hlt2];have e2:elt (dflt uPort) (agAt ys (k:Nat)).2.2.2.2 ((j:Nat):Int)=peerN ys (((k:Nat):Int),((j:Nat):Int)):=rfl;rw[e2,Oo ys hin.1 hin.2.1]
    ·show(agAt ys (k:Nat)).2.2.2.2.length-(j+1)<(agAt ys (k:Nat)).2.2.2.2.length-j;omega
   have hje:j=(agAt ys (k:Nat)).2.2.2.2.length:=by
    have q5:decide (((j:Nat):Int)<((dW (nowF ys) (agAt ys (k:Nat)).2.2.2.2 j).length:Nat))=false:=q4;rw[ql]at q5;simp only[decide_eq_false_iff_not]at q5;omega
   refine aI (show(packTo ys k).length+1≤1073741824 by omega) ?_;refine lp_next (k+1) hlt ?_ ?_
   ·refine hd [(20000,21000),(20001,84)] rfl (aI (aI (wrapS (by omega)) rfl) (aI rfl (aI rfl trivial))) ⟨trivial,⟨rfl,trivial⟩,⟨rfl,List.prefix_refl _⟩,⟨rfl,List.nil_prefix⟩,⟨?_,List.nil_prefix⟩,trivial⟩;show packTo ys k++[((agAt ys (k:Nat)).1,(agAt ys (k:Nat)).2.1,(agAt ys (k:Nat)).2.2.1,(agAt ys (k:Nat)).2.2.2.1,dW (nowF ys) (agAt ys (k:Nat)).2.2.2.2 j)]=packTo ys (k+1);rw[hst,hje,Ay];rfl
   ·show ys.length-(k+1)<ys.length-k;omega
  ·have q3:liveY ys k=false:=q2;rw[q3]at hst;refine lp_next (k+1) hlt ?_ ?_
   ·exact hd [] rfl (aI (aI (wrapS (by omega)) rfl) (aI rfl (aI rfl trivial))) ⟨trivial,⟨rfl,trivial⟩,⟨rfl,List.prefix_refl _⟩,⟨rfl,List.nil_prefix⟩,⟨hst.symm,List.nil_prefix⟩,trivial⟩
   ·show ys.length-(k+1)<ys.length-k;omega
 have hke:k=ys.length:=by
  have q2:decide (((k:Nat):Int)<(ys.length:Nat))=false:=q1;simp only[decide_eq_false_iff_not]at q2;omega
 subst hke;refine fin [(10002,20001)] (aI rfl ?_);exact⟨trivial,⟨rfl,trivial⟩,⟨rfl,List.nil_prefix⟩,trivial⟩
theorem Px:callOk Tryz.prog 26=true:=by kernel_rfl
section
variable (bk:List (List NAgent))(xs:List NAgent)(a:List NEvent)
theorem TK{c:Int}(hc:c≠0)(h:FCall Tryz.prog 58 [.rsl uNet bk,.rp uNet xs,.rsl uEvent a] [] (.tup [.agg [.raw (.slice none 0 0)],.int .i64 c]) []):FCall Tryz.prog 26 [.rsl uNet bk,.agg [.rsl uAgent xs],.rsl uEvent a] [] (.tup [.agg [.raw (.slice none 0 0)],.int .i64 c]) []:=by
 refine FCall.intro (nt:=22) ti_ok mixed Px Tryz.func26 rfl rfl rfl rfl rfl rfl ?_;refine Or.inr (eI _ (eI _ (aI (Qe bk xs h) ?_)));refine aI (fun q=> ?_) (fun q=> ?_)
 ·exact fin [] (aI rfl trivial)
 ·exfalso;have q2:(c !=0)=false:=q;simp at q2;exact hc q2
theorem TL{g:List NAgent}(hs:bn g)(hl:g.length≤900000)(hA:AllIn g)(h1:FCall Tryz.prog 58 [.rsl uNet bk,.rp uNet xs,.rsl uEvent a] [] (.tup [.agg [.sl 10000],.int .i64 0]) [.row 10000 150 5 uAgent g []]):FCall Tryz.prog 26 [.rsl uNet bk,.agg [.rsl uAgent xs],.rsl uEvent a] [] (.tup [.agg [.sl 10000],.int .i64 0]) [.row 10000 150 5 uAgent (packN g) []]:=by
 refine FCall.intro (nt:=22) ti_ok mixed Px Tryz.func26 rfl rfl rfl rfl rfl rfl ?_;refine Or.inr (eI _ (eI _ (aI (RB bk xs h1) ?_)));refine aI (fun q=>by cases q) (fun _=> ?_);refine Or.inr (eI _ (eI _ (aI (R5 g [] hs hl hA) ?_)));refine fin [(10000,20)] (aI rfl ?_);exact⟨⟨rfl,List.nil_prefix⟩,trivial⟩
end
end Go.Proofs.YtemalpelcdmemaaGreat
namespace Go.Proofs.YtemalpelcdmemaaGreat
open Go Go.RowKit Go.Proofs Go.Tr
section
variable (bk:List (List NAgent))(xs:List NAgent)(a b:List NEvent)
inductive Ck(es:List NEvent):Prop
 |bad (c:Int) (hc:c≠0) (hI:FCall Tryz.prog 62 [.rsl uNet bk,.agg [.rsl uAgent xs],.rsl uEvent es] [] (.tup [.raw (.pointer none),.int .i64 c]) [])
  (hS:FCall Tryz.prog 58 [.rsl uNet bk,.rp uNet xs,.rsl uEvent es] [] (.tup [.agg [.raw (.slice none 0 0)],.int .i64 c]) [])
 |ok (k:List (Int×Bool)) (f g:List NAgent) (hI:FCall Tryz.prog 62 [.rsl uNet bk,.agg [.rsl uAgent xs],.rsl uEvent es] [] (.tup [.ptr 10000 0,.int .i64 0]) (tR f [] bk k es))
  (hS:FCall Tryz.prog 58 [.rsl uNet bk,.rp uNet xs,.rsl uEvent es] [] (.tup [.agg [.sl 10000],.int .i64 0]) [.row 10000 150 5 uAgent g []])
  (tw:Tr.Twin k f g) (l1:f.length≤3000) (le:es.length≤300) (hB:ET bk) (hN:vg xs) (run:ku bk (xs.map sig) es (f.map sig))
theorem vg.small{xs:List NAgent}(h:vg xs):bn xs:=by
 have hl:=h.l2;refine⟨by omega,fun i=> ?_⟩
 by_cases hi:i<xs.length
 ·have w:=h.wf (i:Nat) (by omega) (by omega);have h1:=wf_data w;have h2:=(eD w).2;exact⟨by show(agAt xs (i:Nat)).2.2.2.1.length≤1048576;omega,by show(agAt xs (i:Nat)).2.2.2.2.length≤1048576;omega⟩
 ·rw[mH (by omega)];decide
theorem Qf(es:List NEvent):Ck bk xs es:=by
 cases hv:(bookB (bk.map gN)&&netB (gN xs))with
 |false=>exact .bad 1 (by decide) (Fb bk xs es hv) (Jm bk xs es hv)
 |true=>
  rw[Bool.and_eq_true]at hv;obtain⟨hB,hN⟩:=hv
  by_cases hl:300<es.length
  ·exact .bad 2 (by decide) (CZ bk xs es hB hN hl) (E9 bk xs es hB hN hl)
  ·have nb:=(KF hB).1;have nn:=Il hN;have hl2:=nn.l2;have hs:bn xs:=vg.small nn;obtain⟨code,k,f,g,R,h⟩:=Es nb es (ev:=[]) nn.twin (by omega) (by rw[List.length_nil];omega)
   by_cases hc:code=0
   ·subst hc;obtain⟨t1,t2,t3⟩:=h rfl;exact .ok k f g (Jo bk xs es hB hN hs (by omega) R) (KG bk xs es hB hN hs (by omega) R) t1 t2 (by omega) nb nn t3
   ·exact .bad code hc (Fa bk xs es hB hN hs (by omega) hc R) (Jl bk xs es hB hN hs (by omega) hc R)
end
end Go.Proofs.YtemalpelcdmemaaGreat
