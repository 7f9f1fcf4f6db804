
/- PoolNet: the contracts for the law. -/
import Derived.Test.YtgiceoidjipgmaaGreatQm
import Derived.Test.YtgiceoidjipgmaaGreatPoolC
import Derived.Test.YtgiceoidjipgmaaGreatKDbg
set_option linter.unusedSimpArgs false
set_option linter.unusedVariables false
namespace Go.Tr
open Go Go.RowKit
def OD(xs:List ah):bV:=⟨xs.map gA⟩
theorem Cc(xs:List ah):(xs.map gA).flatMap ak.enc=List.flatMap (enc aL) xs:=by
 induction xs with
 |nil=>rfl
 |cons x l ih=>rw[List.map_cons,List.flatMap_cons,List.flatMap_cons,ih,Ak]
theorem Kl(xs:List ah):(OD xs).enc=[.sl xs.length (List.flatMap (enc aL) xs)]:=by
 show[D.sl (xs.map gA).length ((xs.map gA).flatMap ak.enc)]=[D.sl _ _];rw[Cc,List.length_map]
theorem uy(xs:List ah)(p q:bX)(i:Int):(aj (gI xs p q) i).2.2.2.1=(aj xs i).2.2.2.1:=by
 unfold gI;rw[Bn];split
 ·rename_i h;obtain⟨h1,h2⟩:=h;show(aj xs p.1).2.2.2.1=_;unfold aj elt;rw[h1]
 ·rfl
theorem vY(xs:List ah)(p q:bX)(i:Int):(aj (gG xs p q) i).2.2.2.1=(aj xs i).2.2.2.1:=by
 unfold gG;rw[uy,uy]
theorem EJ(xs:List ah)(s:yg)(p:bX)(w:ay)(i:Int):(aj (rX xs s p w).1 i).2.2.2.1=(aj s.1 i).2.2.2.1:=by
 unfold rX;cases (bF xs (xs.length+1) w).1.1==1 with
 |true=>exact vY _ _ _ _
 |false=>
  cases gF s.2 (bF xs (xs.length+1) w).1.2 with
  |true=>exact vY _ _ _ _
  |false=>rfl
theorem BJ(xs:List ah)(j:Nat)(s:yg)(i:Int):∀k,(aj (eH xs j s k).1 i).2.2.2.1=(aj s.1 i).2.2.2.1
 |0=>rfl
 |k+1=>by rw[eH,EJ];exact BJ xs j s i k
theorem vX(xs:List ah)(s:yg)(i:Int):∀j,(aj (bQ xs s j).1 i).2.2.2.1=(aj s.1 i).2.2.2.1
 |0=>rfl
 |j+1=>by
  rw[bQ];cases aZ (aj xs (j:Nat)).1 with
  |true=>exact(BJ xs j _ i _).trans (vX xs s i j)
  |false=>exact vX xs s i j
theorem BK(xs:List ah)(rs:List ay)(A:List ah)(i:Int):∀k,(aj (mO xs rs A k) i).2.2.2.1=(aj A i).2.2.2.1
 |0=>rfl
 |k+1=>by rw[mO,vY];exact BK xs rs A i k
theorem zM(xs:List ah){K:Nat}(hd:∀c∈xs,c.2.2.2.1.length≤K∧(bA c).length≤K):∀n,n≤xs.length→∀a∈bI xs n,a.2.2.2.1.length≤K∧a.2.2.2.2.length≤K+1
 |0,_,a,ha=>by
  rw[bI,List.mem_singleton]at ha;subst ha;exact⟨Nat.zero_le _,by show(List.replicate 1 _).length≤_;rw[List.length_replicate];omega⟩
 |n+1,hn,a,ha=>by
  rw[bI]at ha;cases hb:aZ (aj xs (n:Nat)).1 with
  |true=>
   rw[hb]at ha;rcases List.mem_append.1 ha with ha|ha
   ·exact zM xs hd n (by omega) a ha
   ·rw[List.mem_singleton]at ha;subst ha;obtain⟨h1,h2⟩:=hd _ (bR hn);exact⟨h1,by show(List.replicate _ _).length≤_;rw[List.length_replicate];omega⟩
  |false=>rw[hb]at ha;exact zM xs hd n (by omega) a ha
theorem Mi{xs:List ah}{a:ah}(h:a∈xs):∃i:Nat,i<xs.length∧aj xs (i:Nat)=a:=by
 obtain⟨i,hi,rfl⟩:=List.getElem_of_mem h;refine⟨i,hi,?_⟩;unfold aj elt;rw[Int.toNat_natCast,List.getD_eq_getElem?_getD,List.getElem?_eq_getElem hi];rfl
theorem KR(m:bE){K:Nat}(hd:∀c∈m.1,c.2.2.2.1.length≤K∧(bA c).length≤K):∀a∈jG m,a.2.2.2.1.length≤K∧a.2.2.2.2.length≤K+1:=fun a ha=>by
 have hu:=((rY m).FT m.1.length (Nat.le_refl _)).lW m.2.2.2 m.2.2.2.length;obtain⟨i,hi,rfl⟩:=Mi ha
 have e1:(aj (jG m) (i:Nat)).2.2.2.1=(aj (bI m.1 m.1.length) (i:Nat)).2.2.2.1:=by
  unfold jG;rw[BK,vX];unfold eP;rw[EJ]
 have e2:(aj (jG m) (i:Nat)).2.2.2.2.length=(aj (bI m.1 m.1.length) (i:Nat)).2.2.2.2.length:=hu.prt (i:Nat);rw[e1,e2];have hl:(jG m).length=(bI m.1 m.1.length).length:=hu.len;exact zM m.1 hd _ (Nat.le_refl _) _ (bR (by omega))
theorem GY{α:Type}{f:α→List D}{M:Nat}:∀{xs:List α},(∀x∈xs,cN (f x)≤M)→cN (xs.flatMap f)≤xs.length*M
 |[],_=>by rw[List.flatMap_nil,bM];exact Nat.zero_le _
 |x::xs,h=>by
  rw[List.flatMap_cons,bf,List.length_cons,Nat.add_mul];have h1:=h x (by simp);have h2:=GY (xs:=xs) fun y hy=>h y (by simp[hy])
  omega
theorem LP(a:ah):cN (enc aL a)=3+a.2.2.2.1.length+2*a.2.2.2.2.length:=by
 have e:enc aL a=[.v (.int .i64 a.1),.v (.int .i64 a.2.1),.v (.int .i64 a.2.2.1),.sl a.2.2.2.1.length (List.flatMap (enc (.int .i64)) a.2.2.2.1),.sl a.2.2.2.2.length (List.flatMap (enc aR) a.2.2.2.2)]:=rfl;have h1:∀l:List Int,cN (List.flatMap (enc (.int .i64)) l)=l.length:=fun l=>JQ l
 have h2:∀l:List (El aR),cN (List.flatMap (enc aR) l)=2*l.length:=fun l=>by
  induction l with
  |nil=>rw[List.flatMap_nil,bM];rfl
  |cons x l ih=>
   rw[List.flatMap_cons,bf,ih,List.length_cons];show cN [.v (.int .i64 x.1),.v (.int .i64 x.2)]+_=_;rw[bN,bN,bM,fV,fV];omega
 rw[e,bN,bN,bN,bN,bN,bM,fV,fV,fV,eD,eD,h1,h2];omega
end Go.Tr
namespace Go.Proofs.YtgiceoidjipgmaaGreat
open Go Go.RowKit Go.Proofs Go.Tr
def rU(x:bP):bV×Int:=(OD (eu (iX x)).1,(eu (iX x)).2)
theorem Cz{f:Nat}{x:bP}{p0:List Nat}{u0:List Value}{r0:bV}{r1:Int}(hR:(r0,r1)=rU x)(w:World)(h0:TN w x.enc p0 u0)(hf:Bl f [Di (iX x)] (eu (iX x))):
  Calls Tryz.prog f #[.agg u0.toArray] w fun e w'=>∃(v0:List Value) (q0:List Nat),e=.returned (.tuple #[.agg v0.toArray,.int .i64 r1])∧Ext w w'∧TN w' r0.enc q0 v0∧Own w.heap.size w' (q0):=by
 have e1:r0=OD (eu (iX x)).1:=congrArg Prod.fst hR;have e2:r1=(eu (iX x)).2:=congrArg Prod.snd hR;subst e1 e2;generalize eu (iX x)=R at hf
 have hd:∀β,au ⟨w,[]⟩ β [Di (iX x)] [.agg u0.toArray]:=fun β=>by
  unfold au;refine⟨_,_,rfl,?_,by unfold au;rfl⟩;unfold Den;refine⟨u0,rfl,jF qm (iX x) (kD.of (bs:=p0) ?_)⟩;rw[Kg];exact h0
 rcases hf with⟨h1,h⟩|h
 ·rw[h1];refine(h.2 ⟨w,[]⟩ (fun _=>undef) w [] [.agg u0.toArray] (Inv.qK w) (hd _)).mono ?_;rintro e w' ⟨v',β',rfl,_,h1,h2⟩;unfold Den at h1;obtain⟨us,rfl,h1⟩:=h1;unfold au at h1;obtain⟨y1,us1,rfl,k1,h1⟩:=h1;unfold au at h1;obtain⟨y2,us2,rfl,k2,h1⟩:=h1;unfold au at h1;subst h1;unfold Den at k1 k2;subst k2;obtain⟨vs1,rfl,k1⟩:=k1;unfold au at k1;obtain⟨y3,us3,rfl,k3,k1⟩:=k1;unfold au at k1;subst k1;unfold Den at k3;obtain⟨rfl,_⟩:=k3;exact⟨[.slice none 0 0],[],rfl,h2.xK,TN.fI (T1.empty none) TN.done,Own.nil _ _⟩
 ·refine(h.2 ⟨w,[]⟩ (fun _=>undef) w [] [.agg u0.toArray] (Inv.qK w) (hd _)).mono ?_;rintro e w' ⟨v',β',rfl,_,h1,h2⟩;have hI':Inv (Cx.mk w []).w0 [] w' [Tok.res ⟨w,[]⟩ β' (.row 10000 105 5 aL R.1 [])]:=by simpa using h2
  obtain⟨A,c',q,r1,r2,r3⟩:=hI'.PK;unfold Den at h1;obtain⟨us,rfl,h1⟩:=h1;unfold au at h1;obtain⟨y1,us1,rfl,k1,h1⟩:=h1;unfold au at h1;obtain⟨y2,us2,rfl,k2,h1⟩:=h1;unfold au at h1;subst h1;unfold Den at k1 k2;subst k2;obtain⟨vs1,rfl,k1⟩:=k1;unfold au at k1;obtain⟨y3,us3,rfl,k3,k1⟩:=k1;unfold au at k1;subst k1;unfold Den at k3;obtain⟨rfl,_⟩:=k3;refine⟨[β' 10000],q,rfl,h2.xK,?_,r3⟩;rw[Kl,r1];have:=TN.fI r2 (TN.done (w:=w'));rw[List.append_nil]at this;exact this
theorem AP(a0:bP){p0:List Nat}{u0:List Value}(r0:bV)(r1:Int)(hR:(r0,r1)=rU a0)(w:World)(h0:TN w a0.enc p0 u0)(hs:a0.small):Calls Tryz.prog 5 #[.agg u0.toArray] w fun e w'=>∃(v0:List Value) (q0:List Nat),e=.returned (.tuple #[.agg v0.toArray,.int .i64 r1])∧Ext w w'∧TN w' r0.enc q0 v0:=
 (Cz hR w h0 (IU _ (Fw hs))).mono fun _ _ ⟨v,q,h1,h2,h3,_⟩=>⟨v,q,h1,h2,h3⟩
theorem rV(a0:bP){p0:List Nat}{u0:List Value}(r0:bV)(r1:Int)(hR:(r0,r1)=rU a0)(w:World)(h0:TN w a0.enc p0 u0)(hs:a0.small):Calls Tryz.prog 7 #[.agg u0.toArray] w fun e w'=>∃(v0:List Value) (q0:List Nat),e=.returned (.tuple #[.agg v0.toArray,.int .i64 r1])∧Ext w w'∧TN w' r0.enc q0 v0∧Own w.heap.size w' (q0):=
 Cz hR w h0 (IQ _ (Fw hs))
theorem yI(a0:bP)(r0:bV)(r1:Int)(h:(r0,r1)=rU a0)(_:a0.small):r0.cnt≤1099511627776:=by
 have e1:r0=OD (eu (iX a0)).1:=congrArg Prod.fst h;subst e1;show cN (((eu (iX a0)).1.map gA).flatMap ak.enc)≤_;rw[Cc];unfold eu;cases a1:iL (iX a0)with
 |false=>show cN (List.flatMap (enc aL) [])≤_;rw[List.flatMap_nil,bM];omega
 |true=>
  have hp:GI (iX a0):=AQ (by rw[←pQ];exact a1);obtain⟨ho,hor⟩:=ru hp (iX a0).2.1.length;show cN (List.flatMap (enc aL) (je (iX a0)).1)≤_;unfold je;cases hd:decide (600<(jG (gB (iX a0))).length)with
  |true=>show cN (List.flatMap (enc aL) [])≤_;rw[List.flatMap_nil,bM];omega
  |false=>
   have hd:=of_decide_eq_false hd;show cN (List.flatMap (enc aL) (jG (gB (iX a0))))≤_;have hm:=KR (gB (iX a0)) (K:=1048576) fun c hc=>⟨ho.data c hc,ho.len c hc⟩
   have:=GY (f:=enc aL) (M:=4000000) (xs:=jG (gB (iX a0))) fun a ha=>by
    obtain⟨h1,h2⟩:=hm a ha;rw[LP];omega
   omega
end Go.Proofs.YtgiceoidjipgmaaGreat
