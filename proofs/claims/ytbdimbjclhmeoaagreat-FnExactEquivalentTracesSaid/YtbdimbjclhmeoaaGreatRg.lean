
/- One interaction of the program's and of the reference's nets. -/
import Derived.Test.YtbdimbjclhmeoaaGreatJh
import Derived.Test.YtbdimbjclhmeoaaGreatZs
import Derived.Test.YtbdimbjclhmeoaaGreatRa
set_option maxHeartbeats 4000000
set_option maxRecDepth 100000
set_option linter.unusedSimpArgs false
set_option linter.unusedVariables false
set_option linter.unusedSectionVars false
namespace Go.Proofs.YtbdimbjclhmeoaaGreat
open Go Go.RowKit Go.Proofs Go.Tr
inductive Inter(bk:List (List ak))(kv:List (Int×Bool))(xs ys:List ak)(a b:Int):Prop
 |bad (code:Int) (hc:code≠0)
  (hI:∀us,aA Tryz.prog 147 [.ptr 10000 0,vP (a,b)] (tW xs us bk kv) (.int .i64 code) (tW xs us bk kv))
  (hA:∀us,aA Tryz.prog 125 [.rsl aZ bk,.ptr 10000 0,.int .i64 a,.int .i64 b] (tA ys us) (.int .i64 code) (tA ys us))
  (ho:w9 bk ys a b=code)
 |ok (x' y':List ak) (kv':List (Int×Bool))
  (hI:∀us,aA Tryz.prog 147 [.ptr 10000 0,vP (a,b)] (tW xs us bk kv) (.int .i64 0) (VN 10003 x' us bk kv'))
  (hA:∀us,aA Tryz.prog 125 [.rsl aZ bk,.ptr 10000 0,.int .i64 a,.int .i64 b] (tA ys us) (.int .i64 0) (Ir 10002 y' []))
  (tw:Tr.Twin kv' x' y') (l0:xs.length<=x'.length) (l1:x'.length<=xs.length+600)
  (sg:x'.map sig=xs.map sig++Db bk (ah xs a) (ah xs b)) (cl:aR (ah xs a) (ah xs b)≠8) (wl:RV (fun _=>False) xs->RV (fun _=>False) x')
  (ho:w9 bk ys a b=0) (hy:y'=aX bk ys a b)
theorem Ec{bk:iQ}{kv:kT}{xs ys:aS}{a b:Int}(T:Tr.Twin kv xs ys)(k:iw (Gone kv) xs a b)(ra:(ah xs a).1≠1)(rb:(ah xs b).1≠1)(hb:rZ bk)(hl:xs.length<=700000):Inter bk kv xs ys a b:=by
 have ha0:0<=a/\a<(xs.length:Nat):=⟨k.px.1,k.px.2.1⟩;have hb0:0<=b/\b<(xs.length:Nat):=⟨k.py.1,k.py.2.1⟩;have hlen:=T.len;have ha1:0<=a/\a<(ys.length:Nat):=by rw[<-hlen];exact ha0
 have hb1:0<=b/\b<(ys.length:Nat):=by rw[<-hlen];exact hb0
 have ea:=T.at_ ha0.1 ha0.2 k.lx;have eb:=T.at_ hb0.1 hb0.2 k.ly;have wa:=T.wf a ha0.1 ha0.2 k.lx;have wb:=T.wf b hb0.1 hb0.2 k.ly;have ef:au ys a b=au xs a b:=by unfold au;rw[ea,eb]
 obtain⟨q1,q2⟩:=wG wa wb ra rb;obtain⟨c1,c2⟩:=OO wa wb ra rb hb.toBkW;have kf:=k.first T.st
 have rf:(ah xs (au xs a b).1).1≠1/\(ah xs (au xs a b).2).1≠1:=by
  unfold au;cases aP (ah xs a).1 (ah xs a).2.1 (ah xs b).1 (ah xs b).2.1==2
  .exact⟨ra,rb⟩
  .exact⟨rb,ra⟩
 have hx7:(bn (ah xs (a,b).1) (ah xs (a,b).2)).1=7->0<=(ah xs (bif (bn (ah xs (a,b).1) (ah xs (a,b).2)).2 then(a,b).2 else(a,b).1)).2.2.1/\0<=(ah xs (bif (bn (ah xs (a,b).1) (ah xs (a,b).2)).2 then(a,b).2 else(a,b).1)).2.1/\(ah xs (bif (bn (ah xs (a,b).1) (ah xs (a,b).2)).2 then(a,b).2 else(a,b).1)).2.1<=8:=fun e=>by
  have e':(bn (ah xs a) (ah xs b)).1=7:=e;obtain⟨k1,k2,k3,k4,k5⟩:=q2 (by rw[e'];decide);rw[e']at k3;have e2:(bif (bn (ah xs (a,b).1) (ah xs (a,b).2)).2 then(a,b).2 else(a,b).1)=(au xs a b).1:=k1;rw[e2];have w1:=T.wf (au xs a b).1 kf.px.1 kf.px.2.1 kf.lx;have h1:=rV w1 ((eP k3 (by decide)).2.2.2.2.2.2 rfl).1;have h2:=xE w1;refine⟨h1.1,?_⟩;omega
 generalize hxy:au xs a b=xy at*;obtain⟨x,y⟩:=xy;simp only at q1 q2 c1 c2 kf rf;have hx0:0<=x/\x<(xs.length:Nat):=⟨kf.px.1,kf.px.2.1⟩;have hy0:0<=y/\y<(xs.length:Nat):=⟨kf.py.1,kf.py.2.1⟩;have ex:=T.at_ hx0.1 hx0.2 kf.lx;have ey:=T.at_ hy0.1 hy0.2 kf.ly
 have hv:aR (ah ys (au ys a b).1) (ah ys (au ys a b).2)=7->0<=(ah ys (au ys a b).1).2.2.1:=fun e=>by
  rw[ef]at e |-;simp only at e |-;rw[ex,ey]at e;rw[ex];obtain⟨k1,k2,k3,k4,k5⟩:=q2 (by rw[q1,e];decide);rw[q1,e]at k3;exact(rV (T.wf x hx0.1 hx0.2 kf.lx) ((eP k3 (by decide)).2.2.2.2.2.2 rfl).1).1
 have hly:ys.length<=800000:=by omega
 cases hge:dM bk (ah xs x) (ah xs y)with
 |mk g e=>
  rw[hge]at c1 c2
  have hgy:dM bk (ah ys (au ys a b).1) (ah ys (au ys a b).2)=(g,e):=by
   rw[ef];simp only;rw[ex,ey];exact hge
  have hout:w9 bk ys a b=if e≠0 then e else if 600<IntKind.i64.wrap ((fE ys ys.length:Nat)+g)then 4 else 0:=by unfold w9;rw[hgy]
  by_cases he:e=0
  .subst he;obtain⟨k1,k2,k3⟩:=c2 rfl
   have hn8:aR (ah xs x) (ah xs y)≠8:=fun e8=>by
    unfold dM at hge;rw[e8]at hge;cases hge
   obtain⟨_,_,hr,h1,h7⟩:=q2 (by rw[q1];exact hn8);rw[q1]at hr h1 h7;generalize hc:aR (ah xs x) (ah xs y)=c at*;have hc7:1<=c/\c<=7:=⟨h1,h7⟩
   have hcl:eO (ah xs x) (ah xs y)=false:=by
    unfold aR at hc;cases h:eO (ah xs x) (ah xs y)with
    |false=>rfl
    |true=>rw[h]at hc;exact absurd hc.symm hn8
   obtain⟨sx,sy,v0,tw,hln⟩:=T.next (bk:=bk) kf hb.toBkV rf.1 rf.2 hr hc7 hcl k3;have h7':c=7->0<=(ah xs x).2.2.1/\(ah xs x).2.2.1<(bk.length:Nat):=fun e=>⟨v0 e,(k3 e).1⟩
   have hlv:=T.live;have hw:IntKind.i64.wrap ((xs.length:Nat)-(kv.length:Nat))=((fE ys ys.length:Nat):Int):=by rw[<-hlv,qO _ (by omega)];omega
   have hck:checkN bk xs (a,b)=(c,x,y,0):=k1
   by_cases hf:600<IntKind.i64.wrap ((fE ys ys.length:Nat)+g)
   .refine .bad 4 (by decide) (fun us=> ?_) (fun us=> ?_) (by rw[hout,if_neg (by decide),if_pos hf])
    .exact QT xs us bk kv (a,b) ha0 hb0 hb.ok hb.small hx7 hck hx0 hy0 h7' (by rw[hw,k2];exact hf)
    .exact WL bk ys us a b ha1 hb1 hb.small hly hv hgy hf
   .have pA:aj ys (y,0):=by
     have:=T.st.ag.port kf.py kf.ly;exact this.1
    have wx:=T.wf x hx0.1 hx0.2 kf.lx;have lx:=xE wx;have lx2:0<=(ah xs x).2.1/\(ah xs x).2.1<=8:=by omega
    have hpos:0<xs.length:=T.rl;have hbkv:∀v:Int,0<=v->bG bk v=bG bk (v.toNat:Nat):=fun v h=>by rw[show((v.toNat:Nat):Int)=v by omega]
    have exq:ah ys (au ys a b).1=ah xs x:=by rw[ef];exact ex
    have hnc:oO ys a b=c:=by unfold oO;rw[ef];show aR (ah ys x) (ah ys y)=c;rw[ex,ey];exact hc
    have hny:dX bk ys c x y=aX bk ys a b:=by unfold aX;rw[hnc,ef]
    refine .ok (aW bk xs c x y) (dX bk ys c x y) (fU kv (bR c x y)) (fun us=> ?_) (fun us=> ?_) tw (by omega) ?_ ?_ ?_ (fun w=>G6 w hx0 hy0 id id hr hc7 hb.toBkW (fun e e9=>uV hcl e9 (by have q:=(eP hr (by omega)).2.2.2.2.2.1 e;omega)) k3) (by rw[hout,if_neg (by decide),if_neg hf]) hny
    .refine Xm xs us bk kv (a,b) ha0 hb0 hb.ok hb.small hx7 hck hc7 sx.toIntPre T.al T.p0 (by omega) h7' (by rw[hw,k2];exact hf) fun e us=> ?_
     have F:=hb.exp (v0 e) (k3 e).1 xs (ah xs x).2.1 ((xs.length:Int)-1) rfl hpos;have hsm:dK (bG bk (ah xs x).2.2.1):=by rw[hbkv _ (v0 e)];exact hb.small _
     have hok8:∀i:Nat,0<=(ah (bG bk (ah xs x).2.2.1) i).2.1/\(ah (bG bk (ah xs x).2.2.1) i).2.1<=8:=by rw[hbkv _ (v0 e)];exact fun i=>hb.ok _ i
     have htl:=hb.tl _ (v0 e) (k3 e).1;exact expI (bG bk (ah xs x).2.2.1) xs us bk kv x y hx0 (h7' e) rfl (by omega) hsm F.two (by omega) F.r0 lx2 hok8 (k3 e).2 F.bs F.ps F.rs kf.py.app F.top
    .refine Za3 bk ys us a b ha1 hb1 hb.small hly hv (by rw[ef]) (by rw[ex,ey];exact hc) (by rw[ex,ey];exact hge) hc7 sy T.ZaH T.p0y (by rw[ex];exact h7') hf fun e us=> ?_
     rw[ex];have F:=hb.exp (v0 e) (k3 e).1 ys (ah xs x).2.1 ((ys.length:Int)-1) rfl (by omega);have hsm:dK (bG bk (ah xs x).2.2.1):=by rw[hbkv _ (v0 e)];exact hb.small _
     have hok8:∀i:Nat,0<=(ah (bG bk (ah xs x).2.2.1) i).2.1/\(ah (bG bk (ah xs x).2.2.1) i).2.1<=8:=by rw[hbkv _ (v0 e)];exact fun i=>hb.ok _ i
     have htl:=hb.tl _ (v0 e) (k3 e).1;have htop:=F.top;rw[F.pe,<-F.ex,Int.add_comm]at htop;exact expA (bG bk (ah xs x).2.2.1) ys us x y (ah xs x).2.1 (by rw[ex]) (by rw[<-hlen];exact hx0) (by omega) hsm (by have:=F.two;omega) (by omega) (Int.ofNat_lt.1 F.r0.2.2.2) lx2 hok8 F.bt pA htop
    .have n1:=(gY wx).2;have n2:=(gY (T.wf y hy0.1 hy0.2 kf.ly)).2;have:=UF (c:=c) hb n2 n1 h7';omega
    .have hf1:=fq xs a b;rw[hxy]at hf1;have hf2:c=aR (ah xs a) (ah xs b):=by rw[<-hf1,<-hc]
     have:=Eb (bk:=bk) (xs:=xs) (x:=a) (y:=b) (by rw[<-hf2];exact hc7) (z:=x) (w:=y) (by omega) hxy;rw[hc]at this;exact this
    .have hf1:=fq xs a b;rw[hxy]at hf1;have hf2:aR (ah xs x) (ah xs y)=aR (ah xs a) (ah xs b):=hf1;rw[<-hf2,hc];exact hn8
  .refine .bad e he (fun us=> ?_) (fun us=> ?_) (by rw[hout,if_pos he])
   .have h1:=c1 he;have:=TY xs us bk kv (a,b) ha0 hb0 hb.ok hb.small hx7 (by rw[h1];exact he);rw[h1]at this;exact this
   .exact Zj bk ys us a b ha1 hb1 hb.small hly hv hgy he
theorem xP:∀{a b:List Int},a.length=b.length->bT a b=true->a=b
 |[],[],_,_=>rfl
 |[],_::_,hl,_=>by cases hl
 |_::_,[],hl,_=>by cases hl
 |x::a,y::b,hl,h=>by
  unfold bT at h;rw[qD,beq_iff_eq]at h;rw[h.1,xP (by simpa using hl) h.2]
section
variable {bk:iQ}{kv:kT}{xs ys:aS}
theorem FP(T:Tr.Twin kv xs ys)(k:Int):kH ys k=fK xs kv k:=by
 have hl:=T.len;unfold kH fK;cases hb:hasB xs k with
 |false=>
  have e:gG k 0 ((ys.length:Int)-1)=false:=by
   cases h:gG k 0 ((ys.length:Int)-1)with
   |false=>rfl
   |true=>
    have:=iU h
    have h2:hasB xs k=true:=by
     unfold hasB;rw[show decide (0<=k)=true by simp;omega];simp only[qG,qQ];omega
    rw[h2]at hb;cases hb
  rw[e];rfl
 |true=>
  obtain⟨h0,h1⟩:=TL hb
  have e:gG k 0 ((ys.length:Int)-1)=true:=by
   unfold gG;simp only[qD,qQ];omega
  rw[e];simp only[qG];cases hk:dS false kv k with
  |true=>
   rw[(T.hole k hk).2];rfl
  |false=>
   have hd:¬Gone kv k:=fun e=>by
    have e':dS false kv k=true:=e;rw[hk]at e';cases e'
   rw[T.at_ h0 h1 hd];have:=AJ (T.wf k h0 h1 hd);simp;omega
theorem mg{k:Int}(h:fK xs kv k=true):(0<=k/\k<(xs.length:Nat))/\¬Gone kv k:=by
 refine⟨kI h,fun e=> ?_⟩;have e':dS false kv k=true:=e;unfold fK at h;rw[e']at h;cases hb:hasB xs k<;>rw[hb]at h<;>cases h
theorem LM(T:Tr.Twin kv xs ys){k:Int}(h:(0<=k/\k<(xs.length:Nat))/\¬Gone kv k):(ah xs k).1=1↔k=0:=by
 constructor
 .intro e
  by_cases h0:k=0
  .exact h0
  .exact absurd e (T.uq k (by omega) h.1.2 h.2)
 .intro e;rw[e];exact T.r1
theorem Gs(T:Tr.Twin kv xs ys){a b:Int}(ha:fK xs kv a=true)(hb:fK xs kv b=true):nV ys a b=nU xs a b:=by
 have la:=mg ha;have lb:=mg hb;have ra:=LM T la;have rb:=LM T lb;unfold nV nU;rw[T.at_ la.1.1 la.1.2 la.2]
 by_cases h:a<b
 .rw[show decide (a<b)=true by simpa using h];simp only[qG]
  have nb:((ah xs b).1 !=1)=true:=by
   rw[bne_iff_ne];intro e;have:=rb.1 e;omega
  rw[nb]
  by_cases h0:0<a
  .rw[show decide (0<a)=true by simpa using h0,show((ah xs a).1 !=1)=true by rw[bne_iff_ne];intro e;have:=ra.1 e;omega];simp only[qG];cases bT _ _<;>rfl
  .rw[show decide (0<a)=false by simpa using h0,show((ah xs a).1 !=1)=false by simp;exact ra.2 (by omega)];cases bT _ _<;>rfl
 .rw[show decide (a<b)=false by simpa using h];cases decide (0<a)<;>rfl
theorem Kh(T:Tr.Twin kv xs ys){a b:Int}(ha:fK xs kv a=true)(hb:fK xs kv b=true)(h:nU xs a b=true):iw (Gone kv) xs a b/\(ah xs a).1≠1/\(ah xs b).1≠1:=by
 have la:=mg ha;have lb:=mg hb;have wa:=(gY (T.wf a la.1.1 la.1.2 la.2)).1;have wb:=(gY (T.wf b lb.1.1 lb.1.2 lb.2)).1;unfold nU at h;cases h1:decide (a<b)with
 |false=>rw[h1]at h;simp at h
 |true=>
  cases h2:bT [(elt (dflt aK) (ah xs a).2.2.2.2 0).1,(elt (dflt aK) (ah xs a).2.2.2.2 0).2] [b,0]with
  |false=>rw[h1,h2]at h;simp at h
  |true=>
   cases h3:((ah xs a).1 !=1)with
   |false=>rw[h1,h2,h3]at h;simp at h
   |true=>
    rw[h1,h2,h3]at h;simp only[qG]at h;have e:=xP (by rfl) h2;simp only[List.cons.injEq,and_true]at e;have hlt:a<b:=by simpa using h1
    refine⟨⟨by omega,la.2,lb.2,⟨la.1.1,la.1.2,Int.le_refl 0,?_⟩,⟨lb.1.1,lb.1.2,Int.le_refl 0,?_⟩,Prod.ext e.1 e.2⟩,by simpa using h3,by simpa using h⟩
    .show(0:Int)<((ah xs a).2.2.2.2.length:Nat);omega
    .show(0:Int)<((ah xs b).2.2.2.2.length:Nat);omega
end
theorem KM(e:aB):bT (jI e) (jI e)=true:=by unfold jI;simp[bT]
theorem mI{ys:aS}{k:Int}:kH ys k=true↔dx ys k:=by
 unfold kH dx gG;cases h:(decide (0<=k)&&decide (k<=(ys.length:Int)-1))with
 |true=>
  simp only[qD,qQ]at h;simp only[qG,bne_iff_ne,ne_eq];exact⟨fun e=>⟨h.1,by omega,e⟩,fun e=>e.2.2⟩
 |false=>
  simp only[qH,Bool.false_eq_true,false_iff];rintro⟨h0,h1, -⟩;have:(decide (0<=k)&&decide (k<=(ys.length:Int)-1))=true:=by simp only[qD,qQ];omega
  rw[this]at h;cases h
theorem uP{ys:aS}{a b:Int}:nV ys a b=true↔yT ys a b:=by
 unfold nV yT;have e:ay ys (a,0)=elt (dflt aK) (ah ys a).2.2.2.2 0:=rfl;rw[e];generalize elt (dflt aK) (ah ys a).2.2.2.2 0=p;cases h1:decide (0<a)with
 |false=>simp only[qH];simp at h1;constructor;(intro h;cases h);(rintro⟨h, -⟩;omega)
 |true=>
  cases h2:decide (a<b)with
  |false=>simp only[qG,qH];simp at h2;constructor;(intro h;cases h);(rintro⟨-,h, -⟩;omega)
  |true=>
   simp only[qG];simp at h1 h2;constructor
   .intro h;have:=xP (by rfl) h;simp only[List.cons.injEq,and_true]at this;exact⟨h1,h2,Prod.ext this.1 this.2⟩
   .rintro⟨-, -,h⟩;rw[h];simp[bT]
inductive Both(bk:List (List ak))(kv:List (Int×Bool))(xs ys:List ak)(ev:List aB)(e:aB):Prop
 |bad (code:Int) (hc:code≠0)
  (hI:∀us,aA Tryz.prog 76 [.ptr 10000 0,yI e] (tR xs us bk kv ev) (.int .i64 code) (tR xs us bk kv ev))
  (hS:∀us,aA Tryz.prog 67 [.rsl aZ bk,.ptr 10000 0,yI e] (tA ys us) (.int .i64 code) (tA ys us))
  (hz:rG bk ys e=code)
 |full (code:Int) (hc:code≠0) (x' y':List ak) (kv':List (Int×Bool)) (ev':List aB)
  (hI:∀us,aA Tryz.prog 76 [.ptr 10000 0,yI e] (tR xs us bk kv ev) (.int .i64 code) (RX 10005 10006 x' us bk kv' ev'))
  (hS:∀us,aA Tryz.prog 67 [.rsl aZ bk,.ptr 10000 0,yI e] (tA ys us) (.int .i64 code) (Ir 10002 y' []))
  (hz:rG bk ys e=code)
 |next (x' y':List ak) (kv':List (Int×Bool))
  (hI:∀us,aA Tryz.prog 76 [.ptr 10000 0,yI e] (tR xs us bk kv ev) (.int .i64 0) (RX 10005 10006 x' us bk kv' (ev++[e])))
  (hS:∀us,aA Tryz.prog 67 [.rsl aZ bk,.ptr 10000 0,yI e] (tA ys us) (.int .i64 0) (Ir 10002 y' []))
  (tw:Tr.Twin kv' x' y') (l1:x'.length<=3000) (hr:∀(es:List aB) (s':List oU),yR bk (x'.map sig) es s'->yR bk (xs.map sig) (e::es) s')
  (hz:rG bk ys e=0) (hy:y'=Eu bk ys e)
theorem Qw{bk:iQ}{kv:kT}{xs ys:aS}{ev:List aB}(T:Tr.Twin kv xs ys)(hb:rZ bk)(hl:xs.length<=3000)(he:ev.length<=1000)(e:aB):Both bk kv xs ys ev e:=by
 have hlen:=T.len;have t1:=FP T e.1;have t2:=FP T e.2.1;cases h3:(fK xs kv e.1&&fK xs kv e.2.1)with
 |false=>
  refine .bad 3 (by decide) (fun us=>XW xs us bk kv ev e h3) (fun us=>Zbv bk ys us e (by omega) (by rw[t1,t2];exact h3)) ?_;unfold rG;rw[if_pos];rintro⟨q1,q2⟩;rw[<-t1,<-t2,mI.2 q1,mI.2 q2]at h3;cases h3
 |true=>
  rw[qD]at h3;obtain⟨ha,hb2⟩:=h3;have hta:kH ys e.1=true:=by rw[t1];exact ha
  have htb:kH ys e.2.1=true:=by rw[t2];exact hb2
  have la:=mg ha;have wa:=(gY (T.wf e.1 la.1.1 la.1.2 la.2)).1;have lb:=mg hb2;have hpa:0<(ah ys e.1).2.2.2.2.length:=by rw[T.at_ la.1.1 la.1.2 la.2];exact wa
  have hact:=Gs T ha hb2;have ia:=kI ha;have ib:=kI hb2;cases h5:nU xs e.1 e.2.1 with
  |false=>
   refine .bad 5 (by decide) (fun us=>XY xs us bk kv ev e ha hb2 wa h5) (fun us=>Zbw bk ys us e (by omega) hta htb hpa (by rw[hact];exact h5)) ?_;unfold rG;rw[if_neg (fun q=>q ⟨mI.1 hta,mI.1 htb⟩),if_pos];intro q;rw[<-hact,uP.2 q]at h5;cases h5
  |true=>
   have h5s:nV ys e.1 e.2.1=true:=by rw[hact];exact h5
   obtain⟨kp,ra,rb⟩:=Kh T ha hb2 h5;have iay:0<=e.1/\e.1<(ys.length:Nat):=by rw[<-hlen];exact ia
   have iby:0<=e.2.1/\e.2.1<(ys.length:Nat):=by rw[<-hlen];exact ib
   have hpz:rG bk ys e=if w9 bk ys e.1 e.2.1≠0 then w9 bk ys e.1 e.2.1 else if(3000:Int)<((aX bk ys e.1 e.2.1).length:Nat)then 4 else if KN bk ys e.1 e.2.1≠e then 14 else 0:=by
    unfold rG;rw[if_neg (fun q=>q ⟨mI.1 hta,mI.1 htb⟩),if_neg (fun q=>q (uP.1 h5s))]
   cases Ec T kp ra rb hb (by omega)with
   |bad code hc hI hA ho=>
    refine .bad code hc (fun us=> ?_) (fun us=> ?_) (by rw[hpz,ho,if_pos hc])
    .exact RA xs us bk kv ev e ha hb2 wa h5 hc (Ry xs us bk kv ev (e.1,e.2.1) hc (EO xs us bk kv ev (e.1,e.2.1) ia ib hc (hI us)))
    .exact XF bk ys us e (by omega) hta htb hpa h5s hc (Yu bk ys us e.1 e.2.1 iay iby hc (hA us))
   |ok x' y' kv' hI hA tw l0 l1 sg cl wl ho hy=>
    rw[ho,if_neg (by decide),<-hy]at hpz;have hev:KN bk ys e.1 e.2.1=(e.1,e.2.1,aR (ah ys e.1) (ah ys e.2.1),((ys.length:Nat):Int),((y'.length:Nat):Int)-((ys.length:Nat):Int)):=by unfold KN;rw[<-hy]
    have hlen':=tw.len
    have hcl:(bn (ah xs e.1) (ah xs e.2.1)).1=aR (ah ys e.1) (ah ys e.2.1):=by
     rw[T.at_ la.1.1 la.1.2 la.2,T.at_ lb.1.1 lb.1.2 lb.2,(wG (T.wf e.1 la.1.1 la.1.2 la.2) (T.wf e.2.1 lb.1.1 lb.1.2 lb.2) ra rb).1,fq]
    have hR:=fun us=>Vt xs us bk kv ev (e.1,e.2.1) (H8 xs us bk kv ev (e.1,e.2.1) ia ib (by omega) l0 he (hI us))
    have hE:=fun us=>Tf bk ys us e.1 e.2.1 iay iby (by omega) (by omega) (hA us)
    rw[<-hcl,<-hlen,<-hlen']at hE;rw[<-hcl,<-hlen,<-hlen']at hev;rw[<-hlen']at hpz
    by_cases h4:(3000:Int)<(x'.length:Int)
    .rw[show decide ((3000:Int)<(x'.length:Int))=true by simpa using h4]at hR hE;simp only[qG]at hR hE;exact .full 4 (by decide) _ _ _ _ (fun us=>NR xs us bk kv ev e ha hb2 wa h5 (by decide) (hR us)) (fun us=>Ve bk ys us e (by omega) hta htb hpa h5s (by decide) (hE us)) (by rw[hpz,if_pos h4])
    .rw[show decide ((3000:Int)<(x'.length:Int))=false by simpa using h4]at hR hE;simp only[qH]at hR hE;have hQ:=fun us=>Vv xs us bk kv ev e ha hb2 wa h5 he (hR us)
     have hS:=fun us=>ZO bk ys us e (by omega) hta htb hpa h5s (hE us)
     rw[if_neg h4]at hpz;generalize hf:((e.1,e.2.1,(bn (ah xs e.1) (ah xs e.2.1)).1,(xs.length:Int),(x'.length:Int)-(xs.length:Int)):aB)=f at*;cases hq:bT (jI f) (jI e)with
     |false=>
      rw[hq]at hQ hS;exact .full 14 (by decide) _ _ _ _ hQ hS (by rw[hpz,hev,if_pos (fun q=>by rw[q,KM]at hq;cases hq)])
     |true=>
      rw[hq]at hQ hS
      have hef:f=e:=by
       have:=xP (by rfl) hq;unfold jI at this;simp only[List.cons.injEq,and_true]at this;obtain⟨q1,q2,q3,q4,q5⟩:=this;exact Prod.ext q1 (Prod.ext q2 (Prod.ext q3 (Prod.ext q4 q5)))
      subst hef;have q1:f.2.2.2.1=(xs.length:Int):=by rw[<-hf]
      have q2:f.2.2.2.2=(x'.length:Int)-(xs.length:Int):=by rw[<-hf]
      have hlt:f.1<f.2.1:=by
       unfold nU at h5;cases h1:decide (f.1<f.2.1)with
       |false=>rw[h1]at h5;simp at h5
       |true=>simpa using h1
      refine .next _ _ _ hQ hS tw (by omega) (fun es s' hrun=> ?_) (by rw[hpz,hev,if_neg (fun q=>q rfl)]) hy
      have sga:∀i:Int,0<=i->i<(xs.length:Nat)->sig (vL (xs.map sig) i)=sig (ah xs i):=fun i i0 i1=>by
       unfold vL VH ah elt;rw[Dk,qC,qC,qY,qB (by omega)];rfl
      have ea:=sga f.1 ia.1 ia.2;have eb:=sga f.2.1 ib.1 ib.2;have hnw:=Ai (bk:=bk) ea eb;have hD:Duo (ah xs f.1) (ah xs f.2.1):=⟨T.wf f.1 la.1.1 la.1.2 la.2,T.wf f.2.1 lb.1.1 lb.1.2 lb.2,ra,rb,cl⟩;have hxl:(x'.map sig).length=(xs.map sig).length+(Db bk (ah xs f.1) (ah xs f.2.1)).length:=by rw[sg,qA]
      rw[qV,qV]at hxl;refine .step ia.1 hlt (by rw[qV];exact ib.2) (by rw[qV];exact q1) ?_ (hD.sigs ea.symm eb.symm) ?_
      .rw[hnw,q2];omega
      .rw[hnw,<-sg];exact hrun
end Go.Proofs.YtbdimbjclhmeoaaGreat
namespace Go.Proofs.YtbdimbjclhmeoaaGreat
open Go Go.RowKit Go.Proofs Go.Tr
abbrev CSt:=List (Int×Bool)×List ak×List ak×List aB×List aB
inductive Runs(bk:List (List ak)):List (Int×Bool)->List ak->List ak->List aB->List aB->Int->List (Int×Bool)->List ak->List ak->Prop
 |done (kv:List (Int×Bool)) (xs ys:List ak) (ev:List aB):Runs bk kv xs ys ev [] 0 kv xs ys
 |bad {kv:List (Int×Bool)} {xs ys:List ak} {ev es:List aB} {e:aB} (code:Int) (hc:code≠0)
  (hI:∀us,aA Tryz.prog 76 [.ptr 10000 0,yI e] (tR xs us bk kv ev) (.int .i64 code) (tR xs us bk kv ev))
  (hS:∀us,aA Tryz.prog 67 [.rsl aZ bk,.ptr 10000 0,yI e] (tA ys us) (.int .i64 code) (tA ys us)):Runs bk kv xs ys ev (e::es) code kv xs ys
 |full {kv:List (Int×Bool)} {xs ys:List ak} {ev es:List aB} {e:aB} (code:Int) (hc:code≠0) (x' y':List ak) (kv':List (Int×Bool)) (ev':List aB)
  (hI:∀us,aA Tryz.prog 76 [.ptr 10000 0,yI e] (tR xs us bk kv ev) (.int .i64 code) (RX 10005 10006 x' us bk kv' ev'))
  (hS:∀us,aA Tryz.prog 67 [.rsl aZ bk,.ptr 10000 0,yI e] (tA ys us) (.int .i64 code) (Ir 10002 y' [])):Runs bk kv xs ys ev (e::es) code kv' x' y'
 |next {kv:List (Int×Bool)} {xs ys:List ak} {ev es:List aB} {e:aB} (x' y':List ak) (kv':List (Int×Bool)) {code:Int} {k:List (Int×Bool)} {f g:List ak}
  (hI:∀us,aA Tryz.prog 76 [.ptr 10000 0,yI e] (tR xs us bk kv ev) (.int .i64 0) (RX 10005 10006 x' us bk kv' (ev++[e])))
  (hS:∀us,aA Tryz.prog 67 [.rsl aZ bk,.ptr 10000 0,yI e] (tA ys us) (.int .i64 0) (Ir 10002 y' [])) (r:Runs bk kv' x' y' (ev++[e]) es code k f g):Runs bk kv xs ys ev (e::es) code k f g
theorem Ii{bk:iQ}(hb:rZ bk):∀(es:List aB) {kv:kT} {xs ys:aS} {ev:List aB},Tr.Twin kv xs ys->xs.length<=3000->ev.length+es.length<=1000->
  ∃code k f g,Runs bk kv xs ys ev es code k f g/\(code=0->Tr.Twin k f g/\f.length<=3000/\yR bk (xs.map sig) es (f.map sig))/\code=Fp bk ys es/\(code=0->g=MV bk ys es)
 |[],kv,xs,ys,ev,T,hl,he=>⟨0,kv,xs,ys,.done _ _ _ _,fun _=>⟨T,hl,.done _⟩,rfl,fun _=>rfl⟩
 |e::es,kv,xs,ys,ev,T,hl,he=>by
  rw[qI]at he
  have hbad:∀{code:Int},code≠0->rG bk ys e=code->code=Fp bk ys (e::es):=fun {code} hc hz=>by
   unfold Fp;rw[hz,if_pos hc]
  cases Qw (ev:=ev) T hb hl (by omega) e with
  |bad code hc hI hS hz=>exact⟨code,_,_,_,.bad code hc hI hS,fun h=>absurd h hc,hbad hc hz,fun h=>absurd h hc⟩
  |full code hc x' y' kv' ev' hI hS hz=>exact⟨code,_,_,_,.full code hc x' y' kv' ev' hI hS,fun h=>absurd h hc,hbad hc hz,fun h=>absurd h hc⟩
  |next x' y' kv' hI hS tw l1 hr hz hy=>
   obtain⟨code,k,f,g,r,h,hc,hg⟩:=Ii hb es (ev:=ev++[e]) tw l1 (by rw[qA,qJ];omega);refine⟨code,k,f,g,.next x' y' kv' hI hS r,fun h0=> ?_,?_,fun h0=> ?_⟩
   .obtain⟨t1,t2,t3⟩:=h h0;exact⟨t1,t2,hr es _ t3⟩
   .rw[hc,hy]
    conv=>rhs;unfold Fp
    rw[hz,if_neg (by decide)]
   .rw[hg h0,hy];rfl
theorem JI(xs:aS)(h:dK xs):aA Tryz.prog 66 [.rp aZ xs] [] (.agg [.sl 10000]) [.row 10000 117 5 aD xs []]:=by
 obtain⟨hl,ha⟩:=h;refine aA.intro (nt:=28) aG mixed (by kernel_rfl) Tryz.func66 rfl rfl rfl rfl rfl rfl ?_;refine lp Nat (fun i=>[(4,.int .i64 (i:Nat))]) (fun i=>[.dL 2 37 [.raw (.slice none 0 0)],.dL 3 37 [.sl 20000],.row 20000 117 5 aD (xs.take i) []]) (fun i=>xs.length-i) (fun i=>i<=xs.length) 0 (Nat.zero_le _) ?_ ?_
 .exact Yz [⟨1000003,30000,117,5,aD⟩] [(20000,30000)] rfl (aI (aI (aI rfl rfl) trivial) ⟨trivial,⟨rfl,trivial⟩,trivial,⟨rfl,trivial⟩,⟨rfl,nP⟩,trivial⟩)
 intro i hi;refine aI (fun q1=> ?_) (fun q1=> ?_)
 .have hlt:i<xs.length:=by simpa using q1
  refine aI (by show(0:Int)<=(i:Nat)/\((i:Nat):Int)<(xs.length:Nat);omega) ?_;refine oY (Nt (ah xs i) (ha i).1 (ha i).2) ?_;refine aI (by show(xs.take i).length+1<=_;rw[List.length_take];omega) ?_;refine aI (by kernel_rfl) ?_;refine aY (i+1) hlt ?_ ?_
  .refine hd [(20000,25)] rfl (aI (aI (dG (by omega)) rfl) trivial) ⟨trivial,⟨rfl,trivial⟩,trivial,⟨rfl,trivial⟩,⟨?_,nP⟩,trivial⟩;show xs.take i++[ah xs i]=xs.take (i+1);rw[List.take_add_one,qB hlt];unfold ah elt;rw[qK,qC,qB hlt];rfl
  .show xs.length-(i+1)<xs.length-i;omega
 .have hge:xs.length<=i:=by simpa using q1
  refine fin [(10000,20000)] (aI rfl ?_);refine⟨⟨?_,nP⟩,trivial⟩;show xs.take i=xs;rw[qN hge]
theorem nR:bH Tryz.prog 37=true:=by kernel_rfl
def csT(s:CSt):List Tok:=[.dL 6 37 [.raw (.slice none 0 0)],.dL 8 37 [.sl 20000],.row 20000 117 5 aD s.2.2.1 []]
section
variable (bk:iQ)(xs:aS)(es:List aB)
theorem QA(h:(jM (bk.map gN)&&iB (gN xs))=false):aA Tryz.prog 37 [.rsl aZ bk,.rp aZ xs,.rsl aV es] [] (.tup [.agg [.raw (.slice none 0 0)],.int .i64 1]) []:=by
 refine aA.intro (nt:=43) aG mixed nR Tryz.func37 rfl rfl rfl rfl rfl rfl ?_;refine oZ (OD bk) ?_;refine oZ (fun _=>Xv xs) ?_;refine aI (fun q=> ?_) (fun q=> ?_)
 .refine fin [] (aI rfl ?_);exact trivial
 .exfalso;have q1:(bif !jM (bk.map gN)then true else !iB (gN xs))=false:=q;revert q1 h;cases jM (bk.map gN)<;>cases iB (gN xs)<;>simp
variable (hB:jM (bk.map gN)=true)(hN:iB (gN xs)=true)
include hB hN
theorem MF(h:300<es.length):aA Tryz.prog 37 [.rsl aZ bk,.rp aZ xs,.rsl aV es] [] (.tup [.agg [.raw (.slice none 0 0)],.int .i64 2]) []:=by
 refine aA.intro (nt:=43) aG mixed nR Tryz.func37 rfl rfl rfl rfl rfl rfl ?_;refine oZ (OD bk) ?_;refine oZ (fun _=>Xv xs) ?_;refine aI (fun q=> ?_) (fun q=> ?_)
 .exfalso;have q1:(bif !jM (bk.map gN)then true else !iB (gN xs))=true:=q;rw[hB,hN]at q1;cases q1
 refine aI (fun q1=> ?_) (fun q1=> ?_)
 .refine fin [] (aI rfl ?_);exact trivial
 .exfalso;have q2:decide ((300:Int)<(es.length:Nat))=false:=q1;simp only[qP]at q2;omega
theorem Qz{code:Int}{k:kT}{f g:aS}(hs:dK xs)(hl:es.length<=300)(hc:code≠0)(R:Runs bk [] xs xs [] es code k f g):aA Tryz.prog 37 [.rsl aZ bk,.rp aZ xs,.rsl aV es] [] (.tup [.agg [.raw (.slice none 0 0)],.int .i64 code]) []:=by
 refine aA.intro (nt:=43) aG mixed nR Tryz.func37 rfl rfl rfl rfl rfl rfl ?_;refine oZ (OD bk) ?_;refine oZ (fun _=>Xv xs) ?_;refine aI (fun q=> ?_) (fun q=> ?_)
 .exfalso;have q1:(bif !jM (bk.map gN)then true else !iB (gN xs))=true:=q;rw[hB,hN]at q1;cases q1
 refine aI (fun q1=> ?_) (fun q1=> ?_)
 .exfalso;have q2:decide ((300:Int)<(es.length:Nat))=true:=q1;simp only[qQ]at q2;omega
 refine oY (JI xs hs) ?_;refine lp CSt (fun s=>[(9,.int .i64 (s.2.2.2.1.length:Nat))]) csT (fun s=>s.2.2.2.2.length) (fun s=>Runs bk s.1 s.2.1 s.2.2.1 s.2.2.2.1 s.2.2.2.2 code k f g/\s.2.2.2.1++s.2.2.2.2=es) ([],xs,xs,[],es) ⟨R,rfl⟩ ?_ ?_
 .exact hd [(20000,25)] rfl (aI (aI rfl rfl) trivial) ⟨trivial,⟨rfl,trivial⟩,trivial,⟨rfl,trivial⟩,⟨rfl,nP⟩,trivial⟩
 rintro⟨kv,zs,ys,ev,rest⟩ ⟨hR,hes⟩;have hes':ev++rest=es:=hes;have hR':Runs bk kv zs ys ev rest code k f g:=hR;refine aI (fun q2=> ?_) (fun q2=> ?_)
 .have hlt:ev.length<es.length:=by
   have q3:decide (((ev.length:Nat):Int)<(es.length:Nat))=true:=q2;simp only[qQ]at q3;omega
  refine aI (show 0<=((ev.length:Nat):Int)/\((ev.length:Nat):Int)<(es.length:Nat) by omega) ?_
  have hel:∀{e:aB} {r:List aB},rest=e::r->elt (dflt aV) es ((ev.length:Nat):Int)=e:=fun {e r} he=>by
   unfold elt;rw[<-hes',he,qK,qC,qL (Nat.le_refl _),Nat.sub_self];rfl
  cases hR' with
  |done=>rw[qS]at hes';rw[hes']at hlt;omega
  |bad c2 hc hI hS=>
   have hI2:=hS [];rw[<-hel rfl]at hI2;refine oY hI2 ?_;refine aI (fun q3=> ?_) (fun q3=> ?_)
   .refine fin [] (aI rfl ?_);exact trivial
   .exfalso;have q4:(code !=0)=false:=q3;simp at q4;exact hc q4
  |full c2 hc x' y' kv' ev' hI hS=>
   have hI2:=hS [];rw[<-hel rfl]at hI2;refine oY hI2 ?_;refine aI (fun q3=> ?_) (fun q3=> ?_)
   .refine fin [] (aI rfl ?_);exact trivial
   .exfalso;have q4:(code !=0)=false:=q3;simp at q4;exact hc q4
  | @next _ _ _ _ r e x' y' kv' _ _ _ _ hI hS R2=>
   have hI2:=hS [];have he:=hel rfl;rw[<-he]at hI2;refine oY hI2 ?_;refine aI (fun q3=>by cases q3) (fun q3=> ?_);refine aY (kv',x',y',ev++[e],r) ⟨R2,by rw[<-hes'];simp⟩ ?_ ?_
   .refine hd [(20000,37)] rfl (aI (aI ?_ rfl) trivial) ⟨trivial,⟨rfl,trivial⟩,trivial,⟨rfl,trivial⟩,⟨rfl,nP⟩,trivial⟩;show IntKind.i64.wrap (((ev.length:Nat):Int)+1)=(((ev++[e]).length:Nat):Int);rw[qA,qJ];exact dG (by omega)
   .show r.length<(e::r).length;rw[qI];omega
 .exfalso
  have hge:es.length<=ev.length:=by
   have q3:decide (((ev.length:Nat):Int)<(es.length:Nat))=false:=q2;simp only[qP]at q3;omega
  have:rest=[]:=by
   have:=congrArg List.length hes';rw[qA]at this;exact List.eq_nil_of_length_eq_zero (by omega)
  subst this;cases hR';exact hc rfl
theorem Sn{k:kT}{f g:aS}(hs:dK xs)(hl:es.length<=300)(R:Runs bk [] xs xs [] es 0 k f g):aA Tryz.prog 37 [.rsl aZ bk,.rp aZ xs,.rsl aV es] [] (.tup [.agg [.sl 10000],.int .i64 0]) [.row 10000 117 5 aD g []]:=by
 refine aA.intro (nt:=43) aG mixed nR Tryz.func37 rfl rfl rfl rfl rfl rfl ?_;refine oZ (OD bk) ?_;refine oZ (fun _=>Xv xs) ?_;refine aI (fun q=> ?_) (fun q=> ?_)
 .exfalso;have q1:(bif !jM (bk.map gN)then true else !iB (gN xs))=true:=q;rw[hB,hN]at q1;cases q1
 refine aI (fun q1=> ?_) (fun q1=> ?_)
 .exfalso;have q2:decide ((300:Int)<(es.length:Nat))=true:=q1;simp only[qQ]at q2;omega
 refine oY (JI xs hs) ?_;refine lp CSt (fun s=>[(9,.int .i64 (s.2.2.2.1.length:Nat))]) csT (fun s=>s.2.2.2.2.length) (fun s=>Runs bk s.1 s.2.1 s.2.2.1 s.2.2.2.1 s.2.2.2.2 0 k f g/\s.2.2.2.1++s.2.2.2.2=es) ([],xs,xs,[],es) ⟨R,rfl⟩ ?_ ?_
 .exact hd [(20000,25)] rfl (aI (aI rfl rfl) trivial) ⟨trivial,⟨rfl,trivial⟩,trivial,⟨rfl,trivial⟩,⟨rfl,nP⟩,trivial⟩
 rintro⟨kv,zs,ys,ev,rest⟩ ⟨hR,hes⟩;have hes':ev++rest=es:=hes;have hR':Runs bk kv zs ys ev rest 0 k f g:=hR;refine aI (fun q2=> ?_) (fun q2=> ?_)
 .have hlt:ev.length<es.length:=by
   have q3:decide (((ev.length:Nat):Int)<(es.length:Nat))=true:=q2;simp only[qQ]at q3;omega
  refine aI (show 0<=((ev.length:Nat):Int)/\((ev.length:Nat):Int)<(es.length:Nat) by omega) ?_
  have hel:∀{e:aB} {r:List aB},rest=e::r->elt (dflt aV) es ((ev.length:Nat):Int)=e:=fun {e r} he=>by
   unfold elt;rw[<-hes',he,qK,qC,qL (Nat.le_refl _),Nat.sub_self];rfl
  cases hR' with
  |done=>rw[qS]at hes';rw[hes']at hlt;omega
  |bad c2 hc hI hS=>exact absurd rfl hc
  |full c2 hc x' y' kv' ev' hI hS=>exact absurd rfl hc
  | @next _ _ _ _ r e x' y' kv' _ _ _ _ hI hS R2=>
   have hI2:=hS [];have he:=hel rfl;rw[<-he]at hI2;refine oY hI2 ?_;refine aI (fun q3=>by cases q3) (fun q3=> ?_);refine aY (kv',x',y',ev++[e],r) ⟨R2,by rw[<-hes'];simp⟩ ?_ ?_
   .refine hd [(20000,37)] rfl (aI (aI ?_ rfl) trivial) ⟨trivial,⟨rfl,trivial⟩,trivial,⟨rfl,trivial⟩,⟨rfl,nP⟩,trivial⟩;show IntKind.i64.wrap (((ev.length:Nat):Int)+1)=(((ev++[e]).length:Nat):Int);rw[qA,qJ];exact dG (by omega)
   .show r.length<(e::r).length;rw[qI];omega
 .have hge:es.length<=ev.length:=by
   have q3:decide (((ev.length:Nat):Int)<(es.length:Nat))=false:=q2;simp only[qP]at q3;omega
  have:rest=[]:=by
   have:=congrArg List.length hes';rw[qA]at this;exact List.eq_nil_of_length_eq_zero (by omega)
  subst this;cases hR';refine fin [(10000,20000)] (aI rfl ?_);exact⟨⟨rfl,nP⟩,trivial⟩
end
end Go.Proofs.YtbdimbjclhmeoaaGreat
namespace Go.Proofs.YtbdimbjclhmeoaaGreat
open Go Go.RowKit Go.Proofs Go.Tr
theorem Yt{es:List aB}{i:Nat}(h:i<es.length):es.drop i=elt (dflt aV) es (i:Nat)::es.drop (i+1):=by
 unfold elt;rw[qK,qC,qB h];exact List.drop_eq_getElem_cons h
theorem Za7{es:List aB}{i:Nat}(h:i<es.length):elt (dflt aV) es (i:Nat)∈es:=by
 unfold elt;rw[qK,qC,qB h];exact List.getElem_mem h
def EvB(es:List aB):Prop:=∀e∈es,(0<=fH e/\fH e<=1000000)/\0<=nD e/\nD e<=1000000
theorem Zb(es:List aB)(k:Int)(hl:es.length<=1000000)(hb:EvB es)(hk: -1000000<=k/\k<=1000000):aJ Tryz.prog 200 [.rsl aV es,.int .i64 k] (.agg [.int .i64 (nC es 0 k).1,.int .i64 (nC es 0 k).2]):=by
 refine aJ.intro (nt:=36) aG mixed (by kernel_rfl) Tryz.func200 rfl rfl rfl rfl rfl ?_;refine lp Nat (fun i=>[(9,.int .i64 (i:Nat))]) (fun _=>[.dL 4 233 [.int .i64 0,.int .i64 0]]) (fun i=>es.length-i) (fun i=>i<=es.length/\nC es 0 k=nC (es.drop i) (i:Nat) k) 0 ⟨Nat.zero_le _,rfl⟩ ?_ ?_
 .exact hd [] rfl (aI (aI rfl rfl) trivial) ⟨trivial,⟨⟨rfl,rfl⟩,⟨rfl,rfl⟩,trivial⟩,trivial⟩
 rintro i ⟨hi,he⟩;refine aI (fun q1=> ?_) (fun q1=> ?_)
 .have hlt:i<es.length:=by
   have q2:decide (((i:Nat):Int)<(es.length:Nat))=true:=q1;simp only[qQ]at q2;omega
  have hm:=hb _ (Za7 hlt);rw[Yt hlt]at he;generalize hx:elt (dflt aV) es ((i:Nat):Int)=e at*;have hw:IntKind.i64.wrap (fH e+nD e)=fH e+nD e:=qO _ (by omega);refine aI (show 0<=((i:Nat):Int)/\((i:Nat):Int)<(es.length:Nat) by omega) ?_;refine aI (fun q2=> ?_) (fun q2=> ?_)
  .have q3:(bif decide (fH e<=k)then decide (k<IntKind.i64.wrap (fH e+nD e))else false)=true:=by rw[<-hx];exact q2
   rw[hw]at q3;cases c1:decide (fH e<=k)with
   |false=>rw[c1]at q3;cases q3
   |true=>
    rw[c1]at q3;have d1:fH e<=k:=by simpa using c1
    have d2:k<fH e+nD e:=by simpa using q3
    rw[he,IK d1 d2];have hw2:IntKind.i64.wrap (k-fH e)=k-fH e:=qO _ (by omega);rw[<-hw2,<-hx];exact rfl
  .have q3:(bif decide (fH e<=k)then decide (k<IntKind.i64.wrap (fH e+nD e))else false)=false:=by rw[<-hx];exact q2
   rw[hw]at q3
   have hn:¬(fH e<=k/\k<fH e+nD e):=fun⟨d1,d2⟩=>by
    rw[show decide (fH e<=k)=true by simpa using d1,show decide (k<fH e+nD e)=true by simpa using d2]at q3;cases q3
   refine aY (i+1) ⟨hlt,?_⟩ ?_ ?_
   .rw[he,CQ hn];congr 1
   .exact hd [] rfl (aI (aI (dG (by omega)) rfl) trivial) ⟨trivial,⟨⟨rfl,rfl⟩,⟨rfl,rfl⟩,trivial⟩,trivial⟩
   .show es.length-(i+1)<es.length-i;omega
 .have hge:es.length<=i:=by
   have q2:decide (((i:Nat):Int)<(es.length:Nat))=false:=q1;simp only[qP]at q2;omega
  rw[he,List.drop_of_length_le hge];exact rfl
theorem minQ(a b:Int):aJ Tryz.prog 70 [.int .i64 a,.int .i64 b] (.int .i64 (min a b)):=by
 refine aJ.intro (nt:=10) aG mixed (by kernel_rfl) Tryz.func70 rfl rfl rfl rfl rfl ?_;refine aI (fun q=> ?_) (fun q=> ?_)
 .have q2:decide (a<b)=true:=q;simp only[qQ]at q2;rw[show min a b=a by omega];exact⟨rfl,rfl⟩
 .have q2:decide (a<b)=false:=q;simp only[qP]at q2;rw[show min a b=b by omega];exact⟨rfl,rfl⟩
theorem maxQ(a b:Int):aJ Tryz.prog 71 [.int .i64 a,.int .i64 b] (.int .i64 (max a b)):=by
 have h:=maxS a b
 have e:Jz a b=max a b:=by
  unfold Jz;cases hd:decide (b<a)with
  |true=>simp only[qQ]at hd;simp only[qG];omega
  |false=>simp only[qP]at hd;simp only[qH];omega
 rw[e]at h;exact h
theorem Za9(b:List aB)(u v:Int)(hl:b.length<=1000000):aJ Tryz.prog 94 [.rsl aV b,.int .i64 u,.int .i64 v] (.int .i64 (j6 (wP u v) b 0)):=by
 refine aJ.intro (nt:=35) aG mixed (by kernel_rfl) Tryz.func94 rfl rfl rfl rfl rfl ?_;refine lp Nat (fun i=>[(7,.int .i64 (i:Nat))]) (fun _=>[]) (fun i=>b.length-i) (fun i=>i<=b.length/\j6 (wP u v) b 0=j6 (wP u v) (b.drop i) i) 0 ⟨Nat.zero_le _,rfl⟩ ?_ ?_
 .exact hd [] rfl (aI (aI rfl rfl) trivial) trivial
 rintro i ⟨hi,he⟩;refine aI (fun q1=> ?_) (fun q1=> ?_)
 .have hlt:i<b.length:=by
   have q2:decide (((i:Nat):Int)<(b.length:Nat))=true:=q1;simp only[qQ]at q2;omega
  rw[Yt hlt]at he;have hbd:0<=((i:Nat):Int)/\((i:Nat):Int)<(b.length:Nat):=by omega
  refine aI hbd ?_;refine oZ (minQ u v) ?_;refine aI (fun _=>hbd) ?_;refine oZ (fun _=>maxQ u v) ?_;refine aI (by kernel_rfl) ?_;refine aI (fun q2=> ?_) (fun q2=> ?_)
  .rw[he,show j6 (wP u v) (elt (dflt aV) b ((i:Nat):Int)::b.drop (i+1)) i=i by unfold j6;rw[show wP u v (elt (dflt aV) b ((i:Nat):Int))=true from q2];rfl];exact⟨rfl,rfl⟩
  .refine aY (i+1) ⟨hlt,?_⟩ ?_ ?_
   .rw[he]
    conv=>lhs;unfold j6
    rw[show wP u v (elt (dflt aV) b ((i:Nat):Int))=false from q2];rfl
   .exact hd [] rfl (aI (aI (dG (by omega)) rfl) trivial) trivial
   .show b.length-(i+1)<b.length-i;omega
 .have hge:b.length<=i:=by
   have q2:decide (((i:Nat):Int)<(b.length:Nat))=false:=q1;simp only[qP]at q2;omega
  rw[he,List.drop_of_length_le hge];exact⟨rfl,rfl⟩
section
variable (bk:iQ)(xs:aS)(a b:List aB)
theorem Zcg{es:List aB}{c:Int}(h:aA Tryz.prog 37 [.rsl aZ bk,.rp aZ xs,.rsl aV es] [] (.tup [.agg [.raw (.slice none 0 0)],.int .i64 c]) []):aA Tryz.prog 37 [.rsl aZ bk,.ptr 10000 0,.rsl aV es] [.dL 10000 37 [.rsl aD xs]] (.tup [.agg [.raw (.slice none 0 0)],.int .i64 c]) [.dL 10000 37 [.rsl aD xs]]:=
 aA.Ey (ts2:=[]) aG [0,64,0] nR h rfl rfl rfl
theorem Zb5{es:List aB}{g:aS}(h:aA Tryz.prog 37 [.rsl aZ bk,.rp aZ xs,.rsl aV es] [] (.tup [.agg [.sl 10000],.int .i64 0]) [.row 10000 117 5 aD g []]):aA Tryz.prog 37 [.rsl aZ bk,.ptr 10000 0,.rsl aV es] [.dL 10000 37 [.rsl aD xs]] (.tup [.agg [.sl 10001],.int .i64 0]) [.row 10001 117 5 aD g [],.dL 10000 37 [.rsl aD xs]]:=
 aA.Ey (ts2:=[.row 10001 117 5 aD g []]) aG [0,64,0] nR h rfl rfl rfl
end
end Go.Proofs.YtbdimbjclhmeoaaGreat
namespace Go.Proofs.YtbdimbjclhmeoaaGreat
open Go Go.RowKit Go.Proofs Go.Tr
theorem xX:bH Tryz.prog 44=true:=by kernel_rfl
def ckT(bk:List (List ak))(s:CSt):List Tok:=[.dL 27 106 [.ptr 1000027 0,.sl 20001],.dL 1000027 130 [.sl 20000,.rsl aZ bk,.mp 3000027],.row 20000 117 5 aD s.2.1 [],.map 3000027 .bool s.1,.row 20001 67 5 aV s.2.2.2.1 []]
section
variable (bk:iQ)(xs:aS)(es:List aB)
theorem MH(h:(jM (bk.map gN)&&iB (gN xs))=false):aA Tryz.prog 44 [.rsl aZ bk,.agg [.rsl aD xs],.rsl aV es] [] (.tup [.raw (.pointer none),.int .i64 1]) []:=by
 refine aA.intro (nt:=42) aG mixed xX Tryz.func44 rfl rfl rfl rfl rfl rfl ?_;refine oZ (Qn bk) ?_;refine oZ (fun _=>UA xs) ?_;refine aI (fun q=> ?_) (fun q=> ?_)
 .refine fin [] (aI rfl ?_);exact trivial
 .exfalso;have q1:(bif !jM (bk.map gN)then true else !iB (gN xs))=false:=q;revert q1 h;cases jM (bk.map gN)<;>cases iB (gN xs)<;>simp
variable (hB:jM (bk.map gN)=true)(hN:iB (gN xs)=true)
include hB hN
theorem Kt(h:300<es.length):aA Tryz.prog 44 [.rsl aZ bk,.agg [.rsl aD xs],.rsl aV es] [] (.tup [.raw (.pointer none),.int .i64 2]) []:=by
 refine aA.intro (nt:=42) aG mixed xX Tryz.func44 rfl rfl rfl rfl rfl rfl ?_;refine oZ (Qn bk) ?_;refine oZ (fun _=>UA xs) ?_;refine aI (fun q=> ?_) (fun q=> ?_)
 .exfalso;have q1:(bif !jM (bk.map gN)then true else !iB (gN xs))=true:=q;rw[hB,hN]at q1;cases q1
 refine aI (fun q1=> ?_) (fun q1=> ?_)
 .refine fin [] (aI rfl ?_);exact trivial
 .exfalso;have q2:decide ((300:Int)<(es.length:Nat))=false:=q1;simp only[qP]at q2;omega
theorem MG{code:Int}{k:kT}{f g:aS}(hs:dK xs)(hl:es.length<=300)(hc:code≠0)(R:Runs bk [] xs xs [] es code k f g):aA Tryz.prog 44 [.rsl aZ bk,.agg [.rsl aD xs],.rsl aV es] [] (.tup [.raw (.pointer none),.int .i64 code]) []:=by
 refine aA.intro (nt:=42) aG mixed xX Tryz.func44 rfl rfl rfl rfl rfl rfl ?_;refine oZ (Qn bk) ?_;refine oZ (fun _=>UA xs) ?_;refine aI (fun q=> ?_) (fun q=> ?_)
 .exfalso;have q1:(bif !jM (bk.map gN)then true else !iB (gN xs))=true:=q;rw[hB,hN]at q1;cases q1
 refine aI (fun q1=> ?_) (fun q1=> ?_)
 .exfalso;have q2:decide ((300:Int)<(es.length:Nat))=true:=q1;simp only[qQ]at q2;omega
 refine oY (JD xs bk hs) ?_;refine lp CSt (fun s=>[(30,.int .i64 (s.2.2.2.1.length:Nat))]) (ckT bk) (fun s=>s.2.2.2.2.length) (fun s=>Runs bk s.1 s.2.1 s.2.2.1 s.2.2.2.1 s.2.2.2.2 code k f g/\s.2.2.2.1++s.2.2.2.2=es) ([],xs,xs,[],es) ⟨R,rfl⟩ ?_ ?_
 .exact Yz [⟨2000027,30000,67,5,aV⟩] [(20000,2000027),(20001,30000)] rfl (aI (aI (aI rfl rfl) trivial) ⟨trivial,⟨rfl,rfl,trivial⟩,trivial,⟨rfl,rfl,rfl,trivial⟩,⟨rfl,nP⟩,rfl,⟨rfl,nP⟩,trivial⟩)
 rintro⟨kv,zs,ys,ev,rest⟩ ⟨hR,hes⟩;have hes':ev++rest=es:=hes;have hR':Runs bk kv zs ys ev rest code k f g:=hR;refine aI (fun q2=> ?_) (fun q2=> ?_)
 .have hlt:ev.length<es.length:=by
   have q3:decide (((ev.length:Nat):Int)<(es.length:Nat))=true:=q2;simp only[qQ]at q3;omega
  refine aI (show 0<=((ev.length:Nat):Int)/\((ev.length:Nat):Int)<(es.length:Nat) by omega) ?_
  have hel:∀{e:aB} {r:List aB},rest=e::r->elt (dflt aV) es ((ev.length:Nat):Int)=e:=fun {e r} he=>by
   unfold elt;rw[<-hes',he,qK,qC,qL (Nat.le_refl _),Nat.sub_self];rfl
  cases hR' with
  |done=>rw[qS]at hes';rw[hes']at hlt;omega
  |bad c2 hc hI hS=>
   have hI2:=hI [];rw[<-hel rfl]at hI2;refine oY hI2 ?_;refine aI (fun q3=> ?_) (fun q3=> ?_)
   .refine fin [] (aI rfl ?_);exact trivial
   .exfalso;have q4:(code !=0)=false:=q3;simp at q4;exact hc q4
  |full c2 hc x' y' kv' ev' hI hS=>
   have hI2:=hI [];rw[<-hel rfl]at hI2;refine oY hI2 ?_;refine aI (fun q3=> ?_) (fun q3=> ?_)
   .refine fin [] (aI rfl ?_);exact trivial
   .exfalso;have q4:(code !=0)=false:=q3;simp at q4;exact hc q4
  | @next _ _ _ _ r e x' y' kv' _ _ _ _ hI hS R2=>
   have hI2:=hI [];have he:=hel rfl;rw[<-he]at hI2;refine oY hI2 ?_;refine aI (fun q3=>by cases q3) (fun q3=> ?_);refine aY (kv',x',y',ev++[e],r) ⟨R2,by rw[<-hes'];simp⟩ ?_ ?_
   .refine hd [(20000,36),(20001,1000036)] rfl (aI (aI ?_ rfl) trivial) ⟨trivial,⟨rfl,rfl,trivial⟩,trivial,⟨rfl,rfl,rfl,trivial⟩,⟨rfl,nP⟩,rfl,⟨?_,nP⟩,trivial⟩
    .show IntKind.i64.wrap (((ev.length:Nat):Int)+1)=(((ev++[e]).length:Nat):Int);rw[qA,qJ];exact dG (by omega)
    .show ev++[elt (dflt aV) es ((ev.length:Nat):Int)]=ev++[e];rw[he]
   .show r.length<(e::r).length;rw[qI];omega
 .exfalso
  have hge:es.length<=ev.length:=by
   have q3:decide (((ev.length:Nat):Int)<(es.length:Nat))=false:=q2;simp only[qP]at q3;omega
  have:rest=[]:=by
   have:=congrArg List.length hes';rw[qA]at this;exact List.eq_nil_of_length_eq_zero (by omega)
  subst this;cases hR';exact hc rfl
theorem QB{k:kT}{f g:aS}(hs:dK xs)(hl:es.length<=300)(R:Runs bk [] xs xs [] es 0 k f g):aA Tryz.prog 44 [.rsl aZ bk,.agg [.rsl aD xs],.rsl aV es] [] (.tup [.ptr 10000 0,.int .i64 0]) (tR f [] bk k es):=by
 refine aA.intro (nt:=42) aG mixed xX Tryz.func44 rfl rfl rfl rfl rfl rfl ?_;refine oZ (Qn bk) ?_;refine oZ (fun _=>UA xs) ?_;refine aI (fun q=> ?_) (fun q=> ?_)
 .exfalso;have q1:(bif !jM (bk.map gN)then true else !iB (gN xs))=true:=q;rw[hB,hN]at q1;cases q1
 refine aI (fun q1=> ?_) (fun q1=> ?_)
 .exfalso;have q2:decide ((300:Int)<(es.length:Nat))=true:=q1;simp only[qQ]at q2;omega
 refine oY (JD xs bk hs) ?_;refine lp CSt (fun s=>[(30,.int .i64 (s.2.2.2.1.length:Nat))]) (ckT bk) (fun s=>s.2.2.2.2.length) (fun s=>Runs bk s.1 s.2.1 s.2.2.1 s.2.2.2.1 s.2.2.2.2 0 k f g/\s.2.2.2.1++s.2.2.2.2=es) ([],xs,xs,[],es) ⟨R,rfl⟩ ?_ ?_
 .exact Yz [⟨2000027,30000,67,5,aV⟩] [(20000,2000027),(20001,30000)] rfl (aI (aI (aI rfl rfl) trivial) ⟨trivial,⟨rfl,rfl,trivial⟩,trivial,⟨rfl,rfl,rfl,trivial⟩,⟨rfl,nP⟩,rfl,⟨rfl,nP⟩,trivial⟩)
 rintro⟨kv,zs,ys,ev,rest⟩ ⟨hR,hes⟩;have hes':ev++rest=es:=hes;have hR':Runs bk kv zs ys ev rest 0 k f g:=hR;refine aI (fun q2=> ?_) (fun q2=> ?_)
 .have hlt:ev.length<es.length:=by
   have q3:decide (((ev.length:Nat):Int)<(es.length:Nat))=true:=q2;simp only[qQ]at q3;omega
  refine aI (show 0<=((ev.length:Nat):Int)/\((ev.length:Nat):Int)<(es.length:Nat) by omega) ?_
  have hel:∀{e:aB} {r:List aB},rest=e::r->elt (dflt aV) es ((ev.length:Nat):Int)=e:=fun {e r} he=>by
   unfold elt;rw[<-hes',he,qK,qC,qL (Nat.le_refl _),Nat.sub_self];rfl
  cases hR' with
  |done=>rw[qS]at hes';rw[hes']at hlt;omega
  |bad c2 hc hI hS=>exact absurd rfl hc
  |full c2 hc x' y' kv' ev' hI hS=>exact absurd rfl hc
  | @next _ _ _ _ r e x' y' kv' _ _ _ _ hI hS R2=>
   have hI2:=hI [];have he:=hel rfl;rw[<-he]at hI2;refine oY hI2 ?_;refine aI (fun q3=>by cases q3) (fun q3=> ?_);refine aY (kv',x',y',ev++[e],r) ⟨R2,by rw[<-hes'];simp⟩ ?_ ?_
   .refine hd [(20000,36),(20001,1000036)] rfl (aI (aI ?_ rfl) trivial) ⟨trivial,⟨rfl,rfl,trivial⟩,trivial,⟨rfl,rfl,rfl,trivial⟩,⟨rfl,nP⟩,rfl,⟨?_,nP⟩,trivial⟩
    .show IntKind.i64.wrap (((ev.length:Nat):Int)+1)=(((ev++[e]).length:Nat):Int);rw[qA,qJ];exact dG (by omega)
    .show ev++[elt (dflt aV) es ((ev.length:Nat):Int)]=ev++[e];rw[he]
   .show r.length<(e::r).length;rw[qI];omega
 .have hge:es.length<=ev.length:=by
   have q3:decide (((ev.length:Nat):Int)<(es.length:Nat))=false:=q2;simp only[qP]at q3;omega
  have:rest=[]:=by
   have:=congrArg List.length hes';rw[qA]at this;exact List.eq_nil_of_length_eq_zero (by omega)
  subst this;rw[qS]at hes';subst hes';cases hR';refine fin [(10000,27),(10001,1000027),(10002,20000),(10003,3000027),(10004,20001)] (aI rfl ?_);exact⟨trivial,⟨rfl,rfl,trivial⟩,trivial,⟨rfl,rfl,rfl,trivial⟩,⟨rfl,nP⟩,rfl,⟨rfl,nP⟩,trivial⟩
end
end Go.Proofs.YtbdimbjclhmeoaaGreat
namespace Go.Proofs.YtbdimbjclhmeoaaGreat
open Go Go.RowKit Go.Proofs Go.Tr
section
variable (bk:iQ)(xs:aS)(a b:List aB)
theorem Dq.small{xs:aS}(h:Dq xs):dK xs:=by
 have hl:=h.l2;refine⟨by omega,fun i=> ?_⟩
 by_cases hi:i<xs.length
 .have w:=h.wf (i:Nat) (by omega) (by omega);have h1:=wf_data w;have h2:=(gY w).2;exact⟨by show(ah xs (i:Nat)).2.2.2.1.length<=1048576;omega,by show(ah xs (i:Nat)).2.2.2.2.length<=1048576;omega⟩
 .rw[wo (by omega)];decide
end
end Go.Proofs.YtbdimbjclhmeoaaGreat
