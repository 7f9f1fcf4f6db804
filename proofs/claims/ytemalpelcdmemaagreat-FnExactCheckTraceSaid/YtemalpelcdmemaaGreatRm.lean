
/- Data of the program as structures, and how they lie in memory. No program in it. Printed by gen_fam.py. -/
import Derived.Test.YtemalpelcdmemaaGreatSc
import Derived.Test.YtemalpelcdmemaaGreatNy
import Derived.Test.YtemalpelcdmemaaGreatVV
import Derived.Test.YtemalpelcdmemaaGreatRa
import Derived.Test.YtemalpelcdmemaaGreatRg
import Derived.Test.YtemalpelcdmemaaGreatKDbg
set_option linter.unusedSimpArgs false
set_option linter.unusedVariables false
namespace Go.Tr
open Go Go.RowKit
structure aD where
 a:Int
 b:Int
 class_:Int
 first_:Int
 count:Int
def aD.enc(x:aD):List D:=[.v (.int .i64 x.a),.v (.int .i64 x.b),.v (.int .i64 x.class_),.v (.int .i64 x.first_),.v (.int .i64 x.count)]
theorem aD.aK(x:aD):x.enc.length=5:=rfl
theorem aD.us{w:World}{x:aD}{bs us}(h0:TN w x.enc bs us):us=[.int .i64 x.a,.int .i64 x.b,.int .i64 x.class_,.int .i64 x.first_,.int .i64 x.count]∧bs=[]:=by
 unfold aD.enc at h0;obtain⟨u0,rfl,h1⟩:=TN.fJ h0;obtain⟨u1,rfl,h2⟩:=TN.fJ h1;obtain⟨u2,rfl,h3⟩:=TN.fJ h2;obtain⟨u3,rfl,h4⟩:=TN.fJ h3;obtain⟨u4,rfl,h5⟩:=TN.fJ h4;obtain⟨rfl,rfl⟩:=TN.end_ h5;exact⟨rfl,rfl⟩
theorem aD.qU{w:World}{x:aD}:TN w x.enc ([]) [.int .i64 x.a,.int .i64 x.b,.int .i64 x.class_,.int .i64 x.first_,.int .i64 x.count]:=by
 have h:=(show TN w [.v (.int .i64 x.a),.v (.int .i64 x.b),.v (.int .i64 x.class_),.v (.int .i64 x.first_),.v (.int .i64 x.count)] _ _ from TN.jR rfl (TN.jR rfl (TN.jR rfl (TN.jR rfl (TN.jR rfl (TN.done))))))
 try simp only[List.append_nil]at h
 unfold aD.enc
 first|exact h|simpa only[List.append_assoc]using h
theorem aD.mo{w:World}{xs:List aD}{bs:List Nat}{A:Option Addr}{n n' c:Nat}(h:T1 w (.sl n (xs.flatMap aD.enc)) bs (.slice A n' c))(hm:xs.length=n){k:Nat}(hk:k<n):
  ∃(b off:Nat) (x:aD),A=some ⟨b,off,none⟩∧b<w.heap.size∧Hid (xs[k]? =some x)∧w.cell? ⟨b,off+k*5,none⟩=some (.int .i64 x.a)∧w.cell? ⟨b,off+k*5+1,none⟩=some (.int .i64 x.b)∧w.cell? ⟨b,off+k*5+2,none⟩=some (.int .i64 x.class_)∧w.cell? ⟨b,off+k*5+3,none⟩=some (.int .i64 x.first_)∧w.cell? ⟨b,off+k*5+4,none⟩=some (.int .i64 x.count):=by
 obtain⟨_,b,off,p1,p2,p3,us,hA,_,hb,hc,ht⟩:=T1.at_ aD.aK h hm hk;obtain⟨rfl,_⟩:=aD.us ht;exact⟨b,off,xs[k],hA,hb,List.getElem?_eq_getElem (hm▸hk),hc 0 _ rfl,hc 1 _ rfl,hc 2 _ rfl,hc 3 _ rfl,hc 4 _ rfl⟩
theorem aD.xk{x y:aD}(h0:x.a=y.a)(h1:x.b=y.b)(h2:x.class_=y.class_)(h3:x.first_=y.first_)(h4:x.count=y.count):x=y:=by
 cases x;cases y;simp_all
def aD.wt(_x:aD):Nat:=0
def aD.small(_x:aD):Prop:=True
def lQ(x:aB):List NAgent:=x.agents.map nA
theorem Oa(x:aB):gN (lQ x)=x:=by
 unfold gN lQ;rw[List.map_map]
 have:x.agents.map (gA∘nA)=x.agents:=by
  conv=>rhs;rw[←List.map_id x.agents]
  exact List.map_congr_left fun a _=>H8 a
 rw[this]
theorem DL(x:aB):x.enc=enc uNet (lQ x):=by rw[←xC,Oa]
def LZ(e:aD):NEvent:=(e.a,e.b,e.class_,e.first_,e.count)
theorem Oj(e:aD):e.enc=enc uEvent (LZ e):=rfl
theorem JN(xs:List aB):xs.flatMap aB.enc=List.flatMap (enc uNet) (xs.map lQ):=by
 induction xs with
 |nil=>rfl
 |cons x l ih=>rw[List.map_cons,List.flatMap_cons,List.flatMap_cons,ih,DL]
theorem L6(xs:List aD):xs.flatMap aD.enc=List.flatMap (enc uEvent) (xs.map LZ):=by
 induction xs with
 |nil=>rfl
 |cons x l ih=>rw[List.map_cons,List.flatMap_cons,List.flatMap_cons,ih,Oj]
section
variable {cx:Cx}{β:Nat→Value}{w:World}
theorem Da{x:List aB}{A:Option Addr}{c:Nat}{p:List Nat}(h:T1 w (.sl x.length (x.flatMap aB.enc)) p (.slice A x.length c)):Den ⟨w,[]⟩ β (.rsl uNet (x.map lQ)) (.slice A x.length c):=by
 unfold Den;have e:(List.length (α:=El uNet) (x.map lQ))=x.length:=List.length_map _;rw[e,←JN];exact⟨p,h,fun b hb=>by simp⟩
theorem He{x:List aD}{A:Option Addr}{c:Nat}{p:List Nat}(h:T1 w (.sl x.length (x.flatMap aD.enc)) p (.slice A x.length c)):Den ⟨w,[]⟩ β (.rsl uEvent (x.map LZ)) (.slice A x.length c):=by
 unfold Den;have e:(List.length (α:=El uEvent) (x.map LZ))=x.length:=List.length_map _;rw[e,←L6];exact⟨p,h,fun b hb=>by simp⟩
theorem Hf{x:aB}{p:List Nat}{u:List Value}(h:TN w x.enc p u):Den ⟨w,[]⟩ β (.agg [.rsl uAgent (lQ x)]) (.agg u.toArray):=by
 unfold Den;refine⟨u,rfl,l9 uNet (lQ x) (rF.of (bs:=p) ?_)⟩;rw[←DL];exact h
theorem kR{s:SV}{v:Value}{l:List SV}{vs:List Value}(h:Den cx β s v)(k:aA cx β l vs):aA cx β (s::l) (v::vs):=by
 unfold aA;exact⟨v,vs,rfl,h,k⟩
theorem Db:aA cx β [] []:=by unfold aA;rfl
theorem FCall.plain{P:Program}{f:Nat}{args:List SV}{r:SV}{v:Value}{vs:List Value}{w:World}(h:FCall P f args [] r [])(hd:∀β,aA ⟨w,[]⟩ β args vs)(hv:∀β v',Den ⟨w,[]⟩ β r v'→v'=v):Calls P f vs.toArray w fun e w'=>e=.returned v∧Ext w w':=by
 refine(h.2 ⟨w,[]⟩ (fun _=>undef) w [] vs (Inv.pI w) (hd _)).mono ?_;rintro e w' ⟨v',β',rfl,_,h1,h2⟩;exact⟨by rw[hv _ _ h1],h2.rC⟩
end
end Go.Tr
namespace Go.Tr
open Go Go.RowKit
universe u
theorem zR{u:U}:∀xs:List (El u),(List.flatMap (enc u) xs).length=xs.length*u.size
 |[]=>by simp
 |x::xs=>by rw[List.flatMap_cons,List.length_append,aK,zR xs,List.length_cons,Nat.add_mul];omega
theorem Inv.Sq{cx:Cx}{β:Nat→Value}{w:World}{g:Nat}{t:TypeId}{s:Nat}{u:U}{xs:List (El u)}{us:List Value}(h:Inv cx.w0 [] w [Tok.res cx β (.row g t s u xs us)]):
  ∃A c q,β g=.slice A (List.length (α:=El u) xs) c∧T1 w (.sl (List.length (α:=El u) xs) (List.flatMap (enc u) xs)) q (.slice A (List.length (α:=El u) xs) c)∧Own cx.w0.heap.size w q:=by
 obtain⟨G,⟨F,G',rfl,⟨hs,bs,raw,rfl,hg,_⟩,rfl,_⟩,h3⟩:=h.sep;obtain⟨A,c,q,h1,h2,h4,h5⟩:=hg.Sn (by subst hs;exact zR xs);exact⟨A,c,q,h1,h2,h4.1,fun b hb=>⟨(h3 b (by simpa using h5 b hb)).elim (fun h=>by simp at h) id,(h4.2 b hb).2⟩⟩
def A9(P:List NAgent):Prop:=P.length≤3000∧∀a∈P,a.2.2.2.1.length≤4∧a.2.2.2.2.length≤4
theorem M5{α:Type}(f:α→Nat)(k:Nat):∀xs:List α,(∀x∈xs,f x≤k)→(xs.map f).sum≤k*xs.length
 |[],_=>by simp
 |x::xs,h=>by
  rw[List.map_cons,List.sum_cons,List.length_cons,Nat.mul_add];have h1:=h x (by simp);have h2:=M5 f k xs fun y hy=>h y (by simp[hy])
  omega
theorem J9{P:List NAgent}(h:A9 P):(gN P).cnt≤1099511627776:=by
 have h1:=aB.Bn (gN P)
 have h2:(gN P).wt≤100000:=by
  have e:(gN P).wt=(P.map gA).length+((P.map gA).map aj.wt).sum:=rfl;rw[e]
  have h3:=M5 aj.wt 8 (P.map gA) fun x hx=>by
   obtain⟨a,ha,rfl⟩:=List.mem_map.1 hx;have h4:=h.2 a ha;have e2:(gA a).wt=nD (fun _=>0) a.2.2.2.1+nD (fun _=>0) (a.2.2.2.2.map gP):=rfl;rw[e2,pV,pV,List.length_map];omega
  have h5:=h.1;rw[List.length_map]at h3 ⊢;omega
 omega
theorem yB{ys:List NAgent}:∀{n:Nat} {a:NAgent},a∈packTo ys n→∃k:Nat,k<n∧liveY ys k=true∧a=rnA (nowF ys) (agAt ys (k:Nat))
 |0,a,h=>by cases h
 |n+1,a,h=>by
  unfold packTo at h;cases hl:liveY ys n with
  |false=>
   rw[hl]at h;obtain⟨k,h1,h2,h3⟩:=yB (n:=n) h;exact⟨k,by omega,h2,h3⟩
  |true=>
   rw[hl]at h;simp only[cond_true,List.mem_append,List.mem_singleton]at h;rcases h with h|h
   ·obtain⟨k,h1,h2,h3⟩:=yB (n:=n) h;exact⟨k,by omega,h2,h3⟩
   ·exact⟨n,by omega,hl,h⟩
theorem Twin.Ih{kv:List (Int×Bool)}{xs ys:List NAgent}(T:Twin kv xs ys){k:Nat}(hk:k<ys.length)(h:Tr.liveY ys k=true):Wf (agAt ys (k:Nat)):=by
 have hl:=T.len;rw[T.liveY (by omega)]at h
 have hd:¬Gone kv ((k:Nat):Int):=fun e=>by
  have e':kvGet false kv ((k:Nat):Int)=true:=e;rw[e']at h;cases h
 rw[T.at_ (by omega) (by omega) hd];exact T.wf _ (by omega) (by omega) hd
theorem Twin.Gm{kv:List (Int×Bool)}{xs ys:List NAgent}(T:Twin kv xs ys)(h:xs.length≤3000):A9 (packN ys):=by
 have hl:=T.len
 have hlen:∀n:Nat,(Tr.packTo ys n).length≤n:=fun n=>by
  induction n with
  |zero=>exact Nat.le_refl 0
  |succ n ih=>
   unfold Tr.packTo;cases Tr.liveY ys n
   ·simp only[cond_false];omega
   ·simp only[cond_true,List.length_append,List.length_singleton];omega
 refine⟨Nat.le_trans (hlen ys.length) (by omega),fun a ha=> ?_⟩;obtain⟨k,h1,h2,rfl⟩:=yB ha;have w:=T.Ih h1 h2;have w1:=wf_data w;have w2:=(eD w).2;refine⟨w1,?_⟩;show(List.map _ _).length≤4;rw[List.length_map];exact w2
end Go.Tr
namespace Go.Proofs.YtemalpelcdmemaaGreat
open Go Go.RowKit Go.Proofs Go.Tr
def wL(f:Nat)(args:List SV)(P:List NAgent)(c:Int):Prop:=
 (P=[]∧FCall Tryz.prog f args [] (.tup [.agg [.raw (.slice none 0 0)],.int .i64 c]) [])∨FCall Tryz.prog f args [] (.tup [.agg [.sl 10000],.int .i64 c]) [.row 10000 150 5 uAgent P []]
theorem EM{kv:List (Int×Bool)}{xs ys:List NAgent}(T:Tr.Twin kv xs ys):wK xs kv:=fun i hi hg=>by
 have hd:¬Gone kv ((i:Nat):Int):=fun e=>by
  have e':kvGet false kv ((i:Nat):Int)=true:=e;rw[hg]at e';cases e'
 have w:=T.wf (i:Nat) (by omega) (by omega) hd;have w1:=wf_data w;have w2:=(eD w).2;omega
theorem EO{kv:List (Int×Bool)}{xs ys:List NAgent}(T:Tr.Twin kv xs ys)(hl:xs.length≤1000000):bn ys:=by
 have hlen:=T.len;refine⟨by omega,fun i=> ?_⟩
 by_cases hi:i<ys.length
 ·cases hv:liveY ys i with
  |true=>
   have w:=T.Ih hi hv;have w1:=wf_data w;have w2:=(eD w).2;exact⟨by show(agAt ys (i:Nat)).2.2.2.1.length≤1048576;omega,by show(agAt ys (i:Nat)).2.2.2.2.length≤1048576;omega⟩
  |false=>
   rw[T.liveY (by omega)]at hv
   have hg:Gone kv ((i:Nat):Int):=by
    show kvGet false kv ((i:Nat):Int)=true;cases hq:kvGet false kv ((i:Nat):Int)with
    |true=>rfl
    |false=>rw[hq]at hv;cases hv
   rw[(T.hole _ hg).2];decide
 ·rw[mH (by omega)];decide
theorem rY(bk:List (List NAgent))(xs:List NAgent)(a:List NEvent):∃(P:List NAgent) (c:Int),A9 P∧wL 27 [.rsl uNet bk,.agg [.rsl uAgent xs],.rsl uEvent a] P c∧wL 26 [.rsl uNet bk,.agg [.rsl uAgent xs],.rsl uEvent a] P c:=by
 cases Qf bk xs a with
 |bad c hc hI hS=>exact⟨[],c,⟨by decide,fun a ha=>by cases ha⟩,.inl ⟨rfl,TH bk xs a hc hI⟩,.inl ⟨rfl,TK bk xs a hc hS⟩⟩
 |ok k f g hI hS tw l1 le hB hN run=>
  have hl:=tw.len;have h1:=TJ bk xs a (EM tw) (by omega) hI;have e:Go.Proofs.YtemalpelcdmemaaGreat.MR f k=packN g:=tw.pack;rw[e]at h1;exact⟨packN g,0,tw.Gm l1,.inr h1,.inr (TL bk xs a (EO tw (by omega)) (by omega) tw.ally hS)⟩
noncomputable def lq(x0:List aB)(x1:aB)(x2:List aD):aB×Int:=
 (gN (Classical.choose (rY (x0.map lQ) (lQ x1) (x2.map LZ))),Classical.choose (Classical.choose_spec (rY (x0.map lQ) (lQ x1) (x2.map LZ))))
theorem jT(x0:List aB)(x1:aB)(x2:List aD)(r0:aB)(r1:Int)(h:(r0,r1)=lq x0 x1 x2):
  ∃P,r0=gN P∧A9 P∧wL 27 [.rsl uNet (x0.map lQ),.agg [.rsl uAgent (lQ x1)],.rsl uEvent (x2.map LZ)] P r1∧wL 26 [.rsl uNet (x0.map lQ),.agg [.rsl uAgent (lQ x1)],.rsl uEvent (x2.map LZ)] P r1:=by
 have k:=Classical.choose_spec (Classical.choose_spec (rY (x0.map lQ) (lQ x1) (x2.map LZ)));have h1:r0=gN (Classical.choose (rY (x0.map lQ) (lQ x1) (x2.map LZ))):=congrArg Prod.fst h;have h2:r1=Classical.choose (Classical.choose_spec (rY (x0.map lQ) (lQ x1) (x2.map LZ))):=congrArg Prod.snd h;subst h2;exact⟨_,h1,k⟩
theorem net_any{f:Nat}{args:List SV}{P:List NAgent}{c:Int}{vs:List Value}{w:World}(h:wL f args P c)(hd:∀β,aA ⟨w,[]⟩ β args vs):
  Calls Tryz.prog f vs.toArray w fun e w'=>∃(v0:List Value) (q0:List Nat),e=.returned (.tuple #[.agg v0.toArray,.int .i64 c])∧Ext w w'∧TN w' (gN P).enc q0 v0∧Own w.heap.size w' (q0):=by
 rcases h with⟨rfl,h⟩|h
 ·refine(h.2 ⟨w,[]⟩ (fun _=>undef) w [] vs (Inv.pI w) (hd _)).mono ?_;rintro e w' ⟨v',β',rfl,_,h1,h2⟩;unfold Den at h1;obtain⟨us,rfl,h1⟩:=h1;unfold aA at h1;obtain⟨y1,us1,rfl,k1,h1⟩:=h1;unfold aA at h1;obtain⟨y2,us2,rfl,k2,h1⟩:=h1;unfold aA at h1;subst h1;unfold Den at k1 k2;subst k2;obtain⟨vs1,rfl,k1⟩:=k1;unfold aA at k1;obtain⟨y3,us3,rfl,k3,k1⟩:=k1;unfold aA at k1;subst k1;unfold Den at k3;obtain⟨rfl,_⟩:=k3;exact⟨[.slice none 0 0],[],rfl,h2.rC,TN.kg (T1.empty none) TN.done,Own.nil _ _⟩
 ·refine(h.2 ⟨w,[]⟩ (fun _=>undef) w [] vs (Inv.pI w) (hd _)).mono ?_;rintro e w' ⟨v',β',rfl,_,h1,h2⟩;have hI':Inv (Cx.mk w []).w0 [] w' [Tok.res ⟨w,[]⟩ β' (.row 10000 150 5 uAgent P [])]:=by simpa using h2
  obtain⟨A,c',q,r1,r2,r3⟩:=hI'.Sq;unfold Den at h1;obtain⟨us,rfl,h1⟩:=h1;unfold aA at h1;obtain⟨y1,us1,rfl,k1,h1⟩:=h1;unfold aA at h1;obtain⟨y2,us2,rfl,k2,h1⟩:=h1;unfold aA at h1;subst h1;unfold Den at k1 k2;subst k2;obtain⟨vs1,rfl,k1⟩:=k1;unfold aA at k1;obtain⟨y3,us3,rfl,k3,k1⟩:=k1;unfold aA at k1;subst k1;unfold Den at k3;obtain⟨rfl,_⟩:=k3;refine⟨[β' 10000],q,rfl,h2.rC,?_,r3⟩;rw[xC,r1];have:=TN.kg r2 (TN.done (w:=w'));rw[List.append_nil]at this;exact this
section
variable (a0:List aB){A0:Option Addr}{c0:Nat}{p0:List Nat}(a1:aB){p1:List Nat}{u1:List Value}(a2:List aD){A2:Option Addr}{c2:Nat}{p2:List Nat}(r0:aB)(r1:Int)
theorem vN(hR:(r0,r1)=lq a0 a1 a2)(w:World)(h0:T1 w (.sl a0.length (a0.flatMap aB.enc)) p0 (.slice A0 a0.length c0))(h1:TN w a1.enc p1 u1)(h2:T1 w (.sl a2.length (a2.flatMap aD.enc)) p2 (.slice A2 a2.length c2)):
  Calls Tryz.prog 26 #[.slice A0 a0.length c0,.agg u1.toArray,.slice A2 a2.length c2] w fun e w'=>∃(v0:List Value) (q0:List Nat),e=.returned (.tuple #[.agg v0.toArray,.int .i64 r1])∧Ext w w'∧TN w' r0.enc q0 v0∧Own w.heap.size w' (q0):=by
 obtain⟨P,rfl,_,_,h⟩:=jT a0 a1 a2 r0 r1 hR;exact net_any (vs:=[.slice A0 a0.length c0,.agg u1.toArray,.slice A2 a2.length c2]) h (fun _=>kR (Da h0) (kR (Hf h1) (kR (He h2) Db)))
theorem ou(hR:(r0,r1)=lq a0 a1 a2)(w:World)(h0:T1 w (.sl a0.length (a0.flatMap aB.enc)) p0 (.slice A0 a0.length c0))(h1:TN w a1.enc p1 u1)(h2:T1 w (.sl a2.length (a2.flatMap aD.enc)) p2 (.slice A2 a2.length c2)):
  Calls Tryz.prog 27 #[.slice A0 a0.length c0,.agg u1.toArray,.slice A2 a2.length c2] w fun e w'=>∃(v0:List Value) (q0:List Nat),e=.returned (.tuple #[.agg v0.toArray,.int .i64 r1])∧Ext w w'∧TN w' r0.enc q0 v0∧Own w.heap.size w' (q0):=by
 obtain⟨P,rfl,_,h,_⟩:=jT a0 a1 a2 r0 r1 hR;exact net_any (vs:=[.slice A0 a0.length c0,.agg u1.toArray,.slice A2 a2.length c2]) h (fun _=>kR (Da h0) (kR (Hf h1) (kR (He h2) Db)))
theorem tT{Q0 Q1 Q2:Prop}(hR:(r0,r1)=lq a0 a1 a2)(_:Q0)(_:Q1)(_:Q2):r0.cnt≤1099511627776:=by
 obtain⟨P,rfl,h,_⟩:=jT a0 a1 a2 r0 r1 hR;exact J9 h
end
end Go.Proofs.YtemalpelcdmemaaGreat
