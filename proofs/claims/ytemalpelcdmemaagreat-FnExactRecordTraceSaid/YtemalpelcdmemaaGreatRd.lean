
/- One interaction of the program's and of the reference's nets. -/
import Derived.Test.YtemalpelcdmemaaGreatShort
import Derived.Test.YtemalpelcdmemaaGreatIp
import Derived.Test.YtemalpelcdmemaaGreatJh
import Derived.Test.YtemalpelcdmemaaGreatNw
import Derived.Test.YtemalpelcdmemaaGreatRa
set_option linter.unusedSimpArgs false
set_option linter.unusedVariables false
set_option linter.unusedSectionVars false
namespace Go.Proofs.YtemalpelcdmemaaGreat
open Go Go.RowKit Go.Proofs Go.Tr
inductive Inter(bk:List (List NAgent))(kv:List (Int×Bool))(xs ys:List NAgent)(a b:Int):Prop
 |bad (code:Int) (hc:code≠0)
  (hI:∀us,FCall Tryz.prog 103 [.ptr 10000 0,vP (a,b)] (tW xs us bk kv) (.int .i64 code) (tW xs us bk kv))
  (hA:∀us,FCall Tryz.prog 126 [.rsl uNet bk,.ptr 10000 0,.int .i64 a,.int .i64 b] (tA ys us) (.int .i64 code) (tA ys us))
 |ok (x' y':List NAgent) (kv':List (Int×Bool))
  (hI:∀us,FCall Tryz.prog 103 [.ptr 10000 0,vP (a,b)] (tW xs us bk kv) (.int .i64 0) (Zh 10003 x' us bk kv'))
  (hA:∀us,FCall Tryz.prog 126 [.rsl uNet bk,.ptr 10000 0,.int .i64 a,.int .i64 b] (tA ys us) (.int .i64 0) (Rl 10002 y' []))
  (tw:Tr.Twin kv' x' y') (l0:xs.length≤x'.length) (l1:x'.length≤xs.length+600)
  (sg:x'.map sig=xs.map sig++nwA bk (agAt xs a) (agAt xs b)) (cl:bX (agAt xs a) (agAt xs b)≠8) (wl:K9 (fun _=>False) xs→K9 (fun _=>False) x')
theorem Sk{bk:List (List NAgent)}{kv:List (Int×Bool)}{xs ys:List NAgent}{a b:Int}(T:Tr.Twin kv xs ys)(k:oI (Gone kv) xs a b)(ra:(agAt xs a).1≠1)(rb:(agAt xs b).1≠1)(hb:Rx bk)(hl:xs.length≤700000):Inter bk kv xs ys a b:=by
 have ha0:0≤a∧a<(xs.length:Nat):=⟨k.px.1,k.px.2.1⟩;have hb0:0≤b∧b<(xs.length:Nat):=⟨k.py.1,k.py.2.1⟩;have hlen:=T.len;have ha1:0≤a∧a<(ys.length:Nat):=by rw[←hlen];exact ha0
 have hb1:0≤b∧b<(ys.length:Nat):=by rw[←hlen];exact hb0
 have ea:=T.at_ ha0.1 ha0.2 k.lx;have eb:=T.at_ hb0.1 hb0.2 k.ly;have wa:=T.wf a ha0.1 ha0.2 k.lx;have wb:=T.wf b hb0.1 hb0.2 k.ly;have ef:aG ys a b=aG xs a b:=by unfold aG;rw[ea,eb]
 obtain⟨q1,q2⟩:=Ic wa wb ra rb;obtain⟨c1,c2⟩:=ZV wa wb ra rb hb.toBkW;have kf:=k.first T.st
 have rf:(agAt xs (aG xs a b).1).1≠1∧(agAt xs (aG xs a b).2).1≠1:=by
  unfold aG;cases bS (agAt xs a).1 (agAt xs a).2.1 (agAt xs b).1 (agAt xs b).2.1==2
  ·exact⟨ra,rb⟩
  ·exact⟨rb,ra⟩
 have hx7:(cO (agAt xs (a,b).1) (agAt xs (a,b).2)).1=7→0≤(agAt xs (bif (cO (agAt xs (a,b).1) (agAt xs (a,b).2)).2 then(a,b).2 else(a,b).1)).2.2.1∧0≤(agAt xs (bif (cO (agAt xs (a,b).1) (agAt xs (a,b).2)).2 then(a,b).2 else(a,b).1)).2.1∧(agAt xs (bif (cO (agAt xs (a,b).1) (agAt xs (a,b).2)).2 then(a,b).2 else(a,b).1)).2.1≤8:=fun e=>by
  have e':(cO (agAt xs a) (agAt xs b)).1=7:=e;obtain⟨k1,k2,k3,k4,k5⟩:=q2 (by rw[e'];decide);rw[e']at k3;have e2:(bif (cO (agAt xs (a,b).1) (agAt xs (a,b).2)).2 then(a,b).2 else(a,b).1)=(aG xs a b).1:=k1;rw[e2];have w1:=T.wf (aG xs a b).1 kf.px.1 kf.px.2.1 kf.lx;have h1:=xL w1 ((jP k3 (by decide)).2.2.2.2.2.2 rfl).1;have h2:=zX w1;refine⟨h1.1,?_⟩;omega
 generalize hxy:aG xs a b=xy at*;obtain⟨x,y⟩:=xy;simp only at q1 q2 c1 c2 kf rf;have hx0:0≤x∧x<(xs.length:Nat):=⟨kf.px.1,kf.px.2.1⟩;have hy0:0≤y∧y<(xs.length:Nat):=⟨kf.py.1,kf.py.2.1⟩;have ex:=T.at_ hx0.1 hx0.2 kf.lx;have ey:=T.at_ hy0.1 hy0.2 kf.ly
 have hv:bX (agAt ys (aG ys a b).1) (agAt ys (aG ys a b).2)=7→0≤(agAt ys (aG ys a b).1).2.2.1:=fun e=>by
  rw[ef]at e ⊢;simp only at e ⊢;rw[ex,ey]at e;rw[ex];obtain⟨k1,k2,k3,k4,k5⟩:=q2 (by rw[q1,e];decide);rw[q1,e]at k3;exact(xL (T.wf x hx0.1 hx0.2 kf.lx) ((jP k3 (by decide)).2.2.2.2.2.2 rfl).1).1
 have hly:ys.length≤800000:=by omega
 cases hge:mO bk (agAt xs x) (agAt xs y)with
 |mk g e=>
  rw[hge]at c1 c2
  have hgy:mO bk (agAt ys (aG ys a b).1) (agAt ys (aG ys a b).2)=(g,e):=by
   rw[ef];simp only;rw[ex,ey];exact hge
  by_cases he:e=0
  ·subst he;obtain⟨k1,k2,k3⟩:=c2 rfl
   have hn8:bX (agAt xs x) (agAt xs y)≠8:=fun e8=>by
    unfold mO at hge;rw[e8]at hge;cases hge
   obtain⟨_,_,hr,h1,h7⟩:=q2 (by rw[q1];exact hn8);rw[q1]at hr h1 h7;generalize hc:bX (agAt xs x) (agAt xs y)=c at*;have hc7:1≤c∧c≤7:=⟨h1,h7⟩
   have hcl:ji (agAt xs x) (agAt xs y)=false:=by
    unfold bX at hc;cases h:ji (agAt xs x) (agAt xs y)with
    |false=>rfl
    |true=>rw[h]at hc;exact absurd hc.symm hn8
   obtain⟨sx,sy,v0,tw,hln⟩:=T.next (bk:=bk) kf hb.toBkV rf.1 rf.2 hr hc7 hcl k3;have h7':c=7→0≤(agAt xs x).2.2.1∧(agAt xs x).2.2.1<(bk.length:Nat):=fun e=>⟨v0 e,(k3 e).1⟩
   have hlv:=T.live;have hw:IntKind.i64.wrap ((xs.length:Nat)-(kv.length:Nat))=((liveTo ys ys.length:Nat):Int):=by rw[←hlv,IntWalk.i64_in _ (by omega)];omega
   have hck:checkN bk xs (a,b)=(c,x,y,0):=k1
   by_cases hf:600<IntKind.i64.wrap ((liveTo ys ys.length:Nat)+g)
   ·refine .bad 4 (by decide) (fun us=> ?_) (fun us=> ?_)
    ·exact Wt xs us bk kv (a,b) ha0 hb0 hb.ok hb.small hx7 hck hx0 hy0 h7' (by rw[hw,k2];exact hf)
    ·exact ZX bk ys us a b ha1 hb1 hb.small hly hv hgy hf
   ·have pA:PortIn ys (y,0):=by
     have:=T.st.ag.port kf.py kf.ly;exact this.1
    have wx:=T.wf x hx0.1 hx0.2 kf.lx;have lx:=zX wx;have lx2:0≤(agAt xs x).2.1∧(agAt xs x).2.1≤8:=by omega
    have hpos:0<xs.length:=T.rl;have hbkv:∀v:Int,0≤v→bkAt bk v=bkAt bk (v.toNat:Nat):=fun v h=>by rw[show((v.toNat:Nat):Int)=v by omega]
    have exq:agAt ys (aG ys a b).1=agAt xs x:=by rw[ef];exact ex
    refine .ok (gY bk xs c x y) (doneS bk ys c x y) (oF kv (jf c x y)) (fun us=> ?_) (fun us=> ?_) tw (by omega) ?_ ?_ ?_ fun w=>LM w hx0 hy0 id id hr hc7 hb.toBkW (fun e e9=>xU hcl e9 (by have q:=(jP hr (by omega)).2.2.2.2.2.1 e;omega)) k3
    ·refine Zaf xs us bk kv (a,b) ha0 hb0 hb.ok hb.small hx7 hck hc7 sx.toIntPre T.al T.p0 (by omega) h7' (by rw[hw,k2];exact hf) fun e us=> ?_
     have F:=hb.exp (v0 e) (k3 e).1 xs (agAt xs x).2.1 ((xs.length:Int)-1) rfl hpos;have hsm:eT (bkAt bk (agAt xs x).2.2.1):=by rw[hbkv _ (v0 e)];exact hb.small _
     have hok8:∀i:Nat,0≤(agAt (bkAt bk (agAt xs x).2.2.1) i).2.1∧(agAt (bkAt bk (agAt xs x).2.2.1) i).2.1≤8:=by rw[hbkv _ (v0 e)];exact fun i=>hb.ok _ i
     have htl:=hb.tl _ (v0 e) (k3 e).1;exact expI (bkAt bk (agAt xs x).2.2.1) xs us bk kv x y hx0 (h7' e) rfl (by omega) hsm F.two (by omega) F.r0 lx2 hok8 (k3 e).2 F.bs F.ps F.rs kf.py.app F.top
    ·refine ZcK bk ys us a b ha1 hb1 hb.small hly hv (by rw[ef]) (by rw[ex,ey];exact hc) (by rw[ex,ey];exact hge) hc7 sy T.ally T.p0y (by rw[ex];exact h7') hf fun e us=> ?_
     rw[ex];have F:=hb.exp (v0 e) (k3 e).1 ys (agAt xs x).2.1 ((ys.length:Int)-1) rfl (by omega);have hsm:eT (bkAt bk (agAt xs x).2.2.1):=by rw[hbkv _ (v0 e)];exact hb.small _
     have hok8:∀i:Nat,0≤(agAt (bkAt bk (agAt xs x).2.2.1) i).2.1∧(agAt (bkAt bk (agAt xs x).2.2.1) i).2.1≤8:=by rw[hbkv _ (v0 e)];exact fun i=>hb.ok _ i
     have htl:=hb.tl _ (v0 e) (k3 e).1;have htop:=F.top;rw[F.pe,←F.ex,Int.add_comm]at htop;exact expA (bkAt bk (agAt xs x).2.2.1) ys us x y (agAt xs x).2.1 (by rw[ex]) (by rw[←hlen];exact hx0) (by omega) hsm (by have:=F.two;omega) (by omega) (Int.ofNat_lt.1 F.r0.2.2.2) lx2 hok8 F.bt pA htop
    ·have n1:=(om wx).2;have n2:=(om (T.wf y hy0.1 hy0.2 kf.ly)).2;have:=Yw (c:=c) hb n2 n1 h7';omega
    ·have hf1:=uj xs a b;rw[hxy]at hf1;have hf2:c=bX (agAt xs a) (agAt xs b):=by rw[←hf1,←hc]
     have:=Sj (bk:=bk) (xs:=xs) (x:=a) (y:=b) (by rw[←hf2];exact hc7) (z:=x) (w:=y) (by omega) hxy;rw[hc]at this;exact this
    ·have hf1:=uj xs a b;rw[hxy]at hf1;have hf2:bX (agAt xs x) (agAt xs y)=bX (agAt xs a) (agAt xs b):=hf1;rw[←hf2,hc];exact hn8
  ·refine .bad e he (fun us=> ?_) (fun us=> ?_)
   ·have h1:=c1 he;have:=Yd xs us bk kv (a,b) ha0 hb0 hb.ok hb.small hx7 (by rw[h1];exact he);rw[h1]at this;exact this
   ·exact ZbB bk ys us a b ha1 hb1 hb.small hly hv hgy he
section
variable {bk:List (List NAgent)}{kv:List (Int×Bool)}{xs ys:List NAgent}
end
inductive Both(bk:List (List NAgent))(kv:List (Int×Bool))(xs ys:List NAgent)(ev:List NEvent)(e:NEvent):Prop
 |bad (code:Int) (hc:code≠0)
  (hI:∀us,FCall Tryz.prog 115 [.ptr 10000 0,Rw e] (tR xs us bk kv ev) (.int .i64 code) (tR xs us bk kv ev))
  (hS:∀us,FCall Tryz.prog 108 [.rsl uNet bk,.ptr 10000 0,Rw e] (tA ys us) (.int .i64 code) (tA ys us))
 |full (code:Int) (hc:code≠0) (x' y':List NAgent) (kv':List (Int×Bool)) (ev':List NEvent)
  (hI:∀us,FCall Tryz.prog 115 [.ptr 10000 0,Rw e] (tR xs us bk kv ev) (.int .i64 code) (tRn 10005 10006 x' us bk kv' ev'))
  (hS:∀us,FCall Tryz.prog 108 [.rsl uNet bk,.ptr 10000 0,Rw e] (tA ys us) (.int .i64 code) (Rl 10002 y' []))
 |next (x' y':List NAgent) (kv':List (Int×Bool))
  (hI:∀us,FCall Tryz.prog 115 [.ptr 10000 0,Rw e] (tR xs us bk kv ev) (.int .i64 0) (tRn 10005 10006 x' us bk kv' (ev++[e])))
  (hS:∀us,FCall Tryz.prog 108 [.rsl uNet bk,.ptr 10000 0,Rw e] (tA ys us) (.int .i64 0) (Rl 10002 y' []))
  (tw:Tr.Twin kv' x' y') (l1:x'.length≤3000) (hr:∀(es:List NEvent) (s':List Xj),Xi bk (x'.map sig) es s'→Xi bk (xs.map sig) (e::es) s')
end Go.Proofs.YtemalpelcdmemaaGreat
namespace Go.Proofs.YtemalpelcdmemaaGreat
open Go Go.RowKit Go.Proofs Go.Tr
theorem Qz:callOk Tryz.prog 71=true:=by kernel_rfl
set_option maxRecDepth 100000 in
theorem Zau(xs:List NAgent)(h:eT xs):FCall Tryz.prog 71 [.rp uNet xs] [] (.agg [.sl 10000]) [.row 10000 150 5 uAgent xs []]:=by
 obtain⟨hl,ha⟩:=h;refine FCall.intro (nt:=28) ti_ok mixed Qz Tryz.func71 rfl rfl rfl rfl rfl rfl ?_;refine lp Nat (fun i=>[(4,.int .i64 (i:Nat))]) (fun i=>[.cel 2 36 [.raw (.slice none 0 0)],.cel 3 36 [.sl 20000],.row 20000 150 5 uAgent (xs.take i) []]) (fun i=>xs.length-i) (fun i=>i≤xs.length) 0 (Nat.zero_le _) ?_ ?_
 ·exact hdm [⟨1000003,30000,150,5,uAgent⟩] [(20000,30000)] rfl (aI (aI (aI rfl rfl) trivial) ⟨trivial,⟨rfl,trivial⟩,trivial,⟨rfl,trivial⟩,⟨rfl,List.nil_prefix⟩,trivial⟩)
 intro i hi;refine aI (fun q1=> ?_) (fun q1=> ?_)
 ·have hlt:i<xs.length:=by simpa using q1
  refine aI (by show(0:Int)≤(i:Nat)∧((i:Nat):Int)<(xs.length:Nat);omega) ?_;refine Or.inr (eI _ (eI _ (aI (Ta (agAt xs i) (ha i).1 (ha i).2) ?_)));refine aI (by show(xs.take i).length+1≤_;rw[List.length_take];omega) ?_;refine aI (by kernel_rfl) ?_;refine lp_next (i+1) hlt ?_ ?_
  ·refine hd [(20000,25)] rfl (aI (aI (wrapS (by omega)) rfl) trivial) ⟨trivial,⟨rfl,trivial⟩,trivial,⟨rfl,trivial⟩,⟨?_,List.nil_prefix⟩,trivial⟩;show xs.take i++[agAt xs i]=xs.take (i+1);rw[List.take_add_one,List.getElem?_eq_getElem hlt];unfold agAt elt;rw[Int.toNat_natCast,List.getD_eq_getElem?_getD,List.getElem?_eq_getElem hlt];rfl
  ·show xs.length-(i+1)<xs.length-i;omega
 ·have hge:xs.length≤i:=by simpa using q1
  refine fin [(10000,20000)] (aI rfl ?_);refine⟨⟨?_,List.nil_prefix⟩,trivial⟩;show xs.take i=xs;rw[List.take_of_length_le hge]
section
variable (bk:List (List NAgent))(xs:List NAgent)(es:List NEvent)
variable (hB:bookB (bk.map gN)=true)(hN:netB (gN xs)=true)
include hB hN
end
end Go.Proofs.YtemalpelcdmemaaGreat
