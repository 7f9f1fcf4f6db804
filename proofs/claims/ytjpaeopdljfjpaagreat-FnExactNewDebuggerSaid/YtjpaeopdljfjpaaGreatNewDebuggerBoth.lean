
/- A new debugger: the contracts for the law. -/
import Derived.Test.YtjpaeopdljfjpaaGreatShort
import Derived.Test.YtjpaeopdljfjpaaGreatGc
import Derived.Test.YtjpaeopdljfjpaaGreatRh
import Derived.Test.YtjpaeopdljfjpaaGreatKDbg
set_option linter.unusedSimpArgs false
set_option linter.unusedVariables false
namespace Go.Tr
open Go Go.RowKit
def Nv:List SV→List Tok→List D→Prop
 |[],ts,ds=>ts=[]∧ds=[]
 | .int k i::l,ts,ds=>∃ds',ds=.v (.int k i)::ds'∧Nv l ts ds'
 | .raw (.slice none 0 0)::l,ts,ds=>∃ds',ds=.sl 0 []::ds'∧Nv l ts ds'
 | .sl g::l,.row h _ _ u xs _::ts,ds=>g=h∧∃ds',ds=.sl (List.length (α:=El u) xs) (List.flatMap (enc u) xs)::ds'∧Nv l ts ds'
 |_,_,_=>False
theorem Og{cx:Cx}{β:Nat→Value}{w:World}{lo:Nat}:∀{l:List SV} {ts:List Tok} {ds:List D} {us:List Value} {G:List Nat},Nv l ts ds→aF cx β l us→Sep w (ts.map (Tok.res cx β)) G→(∀b∈G,lo≤b)→∃bs,TN w ds bs us∧Own lo w bs∧∀b∈bs,b∈G:=by
 intro l
 induction l with
 |nil=>
  intro ts ds us G h hd hs hG;unfold Nv at h;obtain⟨rfl,rfl⟩:=h;unfold aF at hd;subst hd;exact⟨[],TN.done,Own.nil _ _,by simp⟩
 |cons s l ih=>
  intro ts ds us G h hd hs hG;unfold aF at hd;obtain⟨v,vs,rfl,h1,h2⟩:=hd;unfold Nv at h;split at h
  ·rename_i heq;cases heq
  ·rename_i heq;injection heq with e1 e2
   subst e1 e2;obtain⟨ds',rfl,h⟩:=h;obtain⟨bs,k1,k2,k3⟩:=ih h h2 hs hG;rw[dA h1];exact⟨bs,TN.kE rfl k1,k2,k3⟩
  ·rename_i heq;injection heq with e1 e2
   subst e1 e2;obtain⟨ds',rfl,h⟩:=h;obtain⟨bs,k1,k2,k3⟩:=ih h h2 hs hG;unfold Den at h1;obtain⟨rfl,_⟩:=h1;refine⟨[]++bs,TN.jB (T1.empty none) k1,by simpa using k2,by simpa using k3⟩
  ·rename_i g l' hh t s' u xs us' ts' heq;injection heq with e1 e2
   subst e1 e2;obtain⟨rfl,ds',rfl,h⟩:=h;obtain⟨F,G',rfl,⟨hsz,bs0,raw,rfl,hg,_⟩,q2,q3⟩:=hs;obtain⟨bs,k1,k2,k3⟩:=ih h h2 q2 fun b hb=>hG b (List.mem_append_right _ hb)
   obtain⟨A,c,q,j1,j2,j4,j5⟩:=hg.Pp (by subst hsz;exact Bb xs);unfold Den at h1;obtain⟨rfl,_⟩:=h1;refine⟨q++bs,(by rw[j1];exact TN.jB j2 k1),⟨List.nodup_append.2 ⟨j4.1,k2.1,fun x hx y hy e=>q3 x (j5 x hx) (e▸k3 y hy)⟩,fun b hb=> ?_⟩,fun b hb=> ?_⟩
   ·rcases qT.1 hb with hb|hb
    ·exact⟨hG b (List.mem_append_left _ (j5 b hb)),(j4.2 b hb).2⟩
    ·exact k2.2 b hb
   ·rcases qT.1 hb with hb|hb
    ·exact List.mem_append_left _ (j5 b hb)
    ·exact List.mem_append_right _ (k3 b hb)
  ·exact h.elim
theorem yD{P:Program}{f:Nat}{args l:List SV}{ts:List Tok}{c:Int}{ds:List D}(h:bg P f args [] (.tup [.agg l,.int .i64 c]) ts)(hm:Nv l ts ds){vs:List Value}{w:World}(hd:∀β,aF ⟨w,[]⟩ β args vs):
  Calls P f vs.toArray w fun e w'=>∃(v0:List Value) (q0:List Nat),e=.returned (.tuple #[.agg v0.toArray,.int .i64 c])∧Ext w w'∧TN w' ds q0 v0∧Own w.heap.size w' (q0):=by
 refine(h.2 ⟨w,[]⟩ (fun _=>undef) w [] vs (Inv.uK w) (hd _)).mono ?_;rintro e' w' ⟨v,β',rfl,_,hd,hI⟩;rw[qS]at hI;unfold Den at hd;obtain⟨vs,rfl,hd⟩:=hd;unfold aF at hd;obtain⟨v1,vs1,rfl,hd1,hd⟩:=hd;unfold aF at hd;obtain⟨v2,vs2,rfl,hd2,hd⟩:=hd;unfold aF at hd;subst hd;unfold Den at hd1 hd2;obtain⟨us,rfl,hd1⟩:=hd1;subst hd2;obtain⟨G,hs,hG⟩:=hI.sep;obtain⟨bs,k1,k2,k3⟩:=Og (lo:=w.heap.size) hm hd1 hs fun b hb=>(hG b hb).elim (fun h=>by simp at h) id
 exact⟨us,bs,rfl,hI.Ae,k1,k2⟩
def PV(o:El bT):aB:=⟨o.1,o.2.1,o.2.2⟩
theorem MH(xs:List (El bT)):(xs.map PV).flatMap aB.enc=List.flatMap (enc bT) xs:=by
 induction xs with
 |nil=>rfl
 |cons x l ih=>rw[List.map_cons,qU,qU,ih];rfl
theorem uX{α:Type}{f:α→List D}{M:Nat}:∀{xs:List α},(∀x∈xs,cN (f x)≤M)→cN (xs.flatMap f)≤xs.length*M
 |[],_=>by rw[List.flatMap_nil,aZ];exact Nat.zero_le _
 |x::xs,h=>by
  rw[qU,aQ,qI,Nat.add_mul];have h1:=h x (by simp);have h2:=uX (xs:=xs) fun y hy=>h y (by simp[hy])
  omega
theorem J2(a:ah):cN (enc bf a)=3+a.2.2.2.1.length+2*a.2.2.2.2.length:=by
 have e:enc bf a=[.v (.int .i64 a.1),.v (.int .i64 a.2.1),.v (.int .i64 a.2.2.1),.sl a.2.2.2.1.length (List.flatMap (enc (.int .i64)) a.2.2.2.1),.sl a.2.2.2.2.length (List.flatMap (enc iO) a.2.2.2.2)]:=rfl;have h1:∀l:List Int,cN (List.flatMap (enc (.int .i64)) l)=l.length:=fun l=>BO l
 have h2:∀l:List (El iO),cN (List.flatMap (enc iO) l)=2*l.length:=fun l=>by
  induction l with
  |nil=>rw[List.flatMap_nil,aZ];rfl
  |cons x l ih=>
   rw[qU,aQ,ih,qI];show cN [.v (.int .i64 x.1),.v (.int .i64 x.2)]+_=_;rw[aY,aY,aZ,fV,fV];omega
 rw[e,aY,aY,aY,aY,aY,aZ,fV,fV,fV,dD,dD,h1,h2];omega
theorem J3{xs:List ah}(nn:Du xs):cN (List.flatMap (enc bf) xs)≤9000:=by
 have h:=uX (f:=enc bf) (M:=15) (xs:=xs) fun a ha=>by
  obtain⟨i,hi,rfl⟩:=List.mem_iff_getElem.1 ha;have w:=nn.wf ((i:Nat):Int) (by omega) (by omega);have e:au xs ((i:Nat):Int)=xs[i]:=uR hi;have w':Wf xs[i]:=e▸w;have h1:=wf_data w';have h2:=(oI w').2;rw[J2];omega
 have:=nn.l2;omega
end Go.Tr
namespace Go.Proofs.YtjpaeopdljfjpaaGreat
open Go Go.RowKit Go.Proofs Go.Tr
def Dn:aL:=⟨[],[],0,0,⟨[]⟩,[],[],[]⟩
def jT(a0:List aG)(a1:aG)(a2:List Int)(a3:Int):aL:=⟨a0,a2,a3,0,a1,(dx a1.agents.length).map PV,[],[⟨0,a1,(dx a1.agents.length).map PV⟩]⟩
noncomputable def iW(a0:List aG)(a1:aG)(a2:List Int)(a3:Int):aL×Int:=
 if qp (jh (a0.map fM) (fM a1)) (bn a2&&cB a3 1 50)=0 then(jT a0 a1 a2 a3,0)else(Dn,qp (jh (a0.map fM) (fM a1)) (bn a2&&cB a3 1 50))
theorem BU{v s:Bool}(h:qp v s=0):v=true∧s=true:=by revert h;cases v<;>cases s<;>simp[qp]
theorem Fu:Nv Fq [] Dn.enc:=⟨_,rfl,_,rfl,_,rfl,_,rfl,_,rfl,_,rfl,_,rfl,_,rfl,rfl,rfl⟩
theorem Bh(a0:List aG)(a1:aG)(a2:List Int)(a3:Int):(jT a0 a1 a2 a3).enc=[.sl (List.length (α:=El fG) (a0.map fM)) (List.flatMap (enc fG) (a0.map fM)),.sl a2.length (List.flatMap (enc (.int .i64)) a2),.v (.int .i64 a3),.v (.int .i64 0),.sl (List.length (α:=El bf) (fM a1)) (List.flatMap (enc bf) (fM a1)),
  .sl (List.length (α:=El bT) (dx (fM a1).length)) (List.flatMap (enc bT) (dx (fM a1).length)),.sl 0 [],.sl 1 (List.flatMap (enc qg) [((0:Int),fM a1,dx (fM a1).length)])]:=by
 have e1:(fM a1).length=a1.agents.length:=qV _
 have e2:List.flatMap (enc bf) (fM a1)=a1.agents.flatMap ay.enc:=by
  have:=rH a1;unfold aG.enc at this;have h:[D.sl a1.agents.length (a1.agents.flatMap ay.enc)]=[D.sl (fM a1).length (List.flatMap (enc bf) (fM a1))]:=this;injection h with h _
  injection h with _ h
  exact h.symm
 have e3:List.length (α:=El fG) (a0.map fM)=a0.length:=qV _;have e4:List.flatMap (enc qg) [((0:Int),fM a1,dx (fM a1).length)]=[.v (.int .i64 0),.sl (fM a1).length (List.flatMap (enc bf) (fM a1)),.sl (dx (fM a1).length).length (List.flatMap (enc bT) (dx (fM a1).length))]:=rfl;rw[e4,e2,e1,e3,←Bt,←MH];unfold jT aL.enc;simp only[qV,qU,List.flatMap_nil,qR,qS,qI];unfold aA.enc;simp only[qV];rfl
section
variable (a0:List aG){A0:Option Addr}{c0:Nat}{p0:List Nat}(a1:aG){p1:List Nat}{u1:List Value}(a2:List Int){A2:Option Addr}{c2:Nat}{p2:List Nat}(a3:Int)(r0:aL)(r1:Int)
theorem wW(hR:(r0,r1)=iW a0 a1 a2 a3)(w:World)(h0:T1 w (.sl a0.length (a0.flatMap aG.enc)) p0 (.slice A0 a0.length c0))(h1:TN w a1.enc p1 u1)(h2:T1 w (.sl a2.length (a2.flatMap aT)) p2 (.slice A2 a2.length c2)):
  Calls Tryz.prog 6 #[.slice A0 a0.length c0,.agg u1.toArray,.slice A2 a2.length c2,.int .i64 a3] w fun e w'=>∃(v0:List Value) (q0:List Nat),e=.returned (.tuple #[.agg v0.toArray,.int .i64 r1])∧Ext w w'∧TN w' r0.enc q0 v0∧Own w.heap.size w' (q0):=by
 have hd:∀β,aF ⟨w,[]⟩ β [.rsl fG (a0.map fM),.agg [.rsl bf (fM a1)],.rsl (.int .i64) a2,.int .i64 a3] [.slice A0 a0.length c0,.agg u1.toArray,.slice A2 a2.length c2,.int .i64 a3]:=fun _=>jI (DN h0) (jI (He h1) (jI (DL h2) (jI (G9 _) DR)))
 unfold iW at hR;split at hR
 ·rename_i hc;obtain⟨hv,hs⟩:=BU hc;rw[qD]at hs;obtain⟨rfl,rfl⟩:=Prod.mk.inj hR;rw[Bh];exact yD (OQ (a0.map fM) (fM a1) a2 a3 hv hs.1 hs.2) ⟨rfl,_,rfl,rfl,_,rfl,_,rfl,_,rfl,rfl,_,rfl,rfl,_,rfl,rfl,_,rfl,rfl,_,rfl,rfl,rfl⟩ hd
 ·rename_i hc;obtain⟨rfl,rfl⟩:=Prod.mk.inj hR;exact yD (MO (a0.map fM) (fM a1) a2 a3 _ hc rfl) Fu hd
theorem nX(hR:(r0,r1)=iW a0 a1 a2 a3)(w:World)(h0:T1 w (.sl a0.length (a0.flatMap aG.enc)) p0 (.slice A0 a0.length c0))(h1:TN w a1.enc p1 u1)(h2:T1 w (.sl a2.length (a2.flatMap aT)) p2 (.slice A2 a2.length c2)):
  Calls Tryz.prog 10 #[.slice A0 a0.length c0,.agg u1.toArray,.slice A2 a2.length c2,.int .i64 a3] w fun e w'=>∃(v0:List Value) (q0:List Nat),e=.returned (.tuple #[.agg v0.toArray,.int .i64 r1])∧Ext w w'∧TN w' r0.enc q0 v0∧Own w.heap.size w' (q0):=by
 have hd:∀β,aF ⟨w,[]⟩ β [.rsl fG (a0.map fM),.agg [.rsl bf (fM a1)],.rsl (.int .i64) a2,.int .i64 a3] [.slice A0 a0.length c0,.agg u1.toArray,.slice A2 a2.length c2,.int .i64 a3]:=fun _=>jI (DN h0) (jI (He h1) (jI (DL h2) (jI (G9 _) DR)))
 unfold iW at hR;split at hR
 ·rename_i hc;obtain⟨hv,hs⟩:=BU hc;rw[qD]at hs;obtain⟨rfl,rfl⟩:=Prod.mk.inj hR;rw[Bh];exact yD (OP (a0.map fM) (fM a1) a2 a3 hv hs.1 hs.2) ⟨rfl,_,rfl,rfl,_,rfl,_,rfl,_,rfl,rfl,_,rfl,rfl,_,rfl,_,rfl,rfl,_,rfl,rfl,rfl⟩ hd
 ·rename_i hc;obtain⟨rfl,rfl⟩:=Prod.mk.inj hR;exact yD (MN (a0.map fM) (fM a1) a2 a3 _ hc rfl) Fu hd
theorem vR{Q0 Q1 Q2:Prop}(hR:(r0,r1)=iW a0 a1 a2 a3)(_:Q0)(_:Q1)(_:Q2):r0.cnt≤1099511627776:=by
 unfold iW at hR;split at hR
 ·rename_i hc;obtain⟨hv,hs⟩:=BU hc;rw[qD]at hs;obtain⟨rfl,rfl⟩:=Prod.mk.inj hR;have hsl:=rW hs.1;unfold jh at hv;rw[qD]at hv;have nn:=vQ hv.2;have n1:=J3 nn;have n2:(fM a1).length≤600:=nn.l2
  have n3:a0.length≤24:=by
   have:=(DF hv.1).2
   rwa[qV]at this
  have n4:cN ((jT a0 a1 a2 a3).book.flatMap aG.enc)≤24*9000:=by
   show cN (a0.flatMap aG.enc)≤_;refine Nat.le_trans (uX (M:=9000) fun x hx=> ?_) (Nat.mul_le_mul_right _ n3)
   have hn:Du (fM x):=by
    have hb:=hv.1;unfold ig at hb;rw[qD,qV]at hb;obtain⟨i,hi,rfl⟩:=List.mem_iff_getElem.1 hx;have:=iF hb.2 (k:=i) (by rw[qV];exact hi);unfold jk at this;rw[qC,qY,qY,qB hi]at this;exact vQ this
   have h1:=J3 hn;rw[rH];show cN [D.sl _ (List.flatMap (enc bf) (fM x))]≤_;rw[aY,aZ,dD];omega
  have n5:(jT a0 a1 a2 a3).net.cnt≤9000:=by
   show a1.cnt≤_;have e:a1.cnt=cN a1.enc:=by unfold aG.cnt aG.enc;rw[aY,aZ,dD];omega
   rw[e,rH];show cN [D.sl _ (List.flatMap (enc bf) (fM a1))]≤_;rw[aY,aZ,dD];omega
  have n6:cN (((dx a1.agents.length).map PV).flatMap aB.enc)≤600*3:=by
   refine Nat.le_trans (uX (M:=3) fun x hx=> ?_) (Nat.mul_le_mul_right _ ?_)
   ·unfold aB.enc;rw[aY,aY,aY,aZ,fV,fV,fV];omega
   ·rw[qV,kP];have e1:(fM a1).length=a1.agents.length:=qV _;omega
  have n7:cN ((jT a0 a1 a2 a3).points.flatMap aA.enc)≤1+9000+600*3:=by
   show cN ([(⟨0,a1,(dx a1.agents.length).map PV⟩:aA)].flatMap aA.enc)≤_;rw[qU,List.flatMap_nil,qS];unfold aA.enc;rw[aY,aY,aY,aZ,fV,dD,dD];have e:cN (a1.agents.flatMap ay.enc)=a1.cnt:=rfl;have n5':a1.cnt≤9000:=n5;show 1+(cN (a1.agents.flatMap ay.enc)+(cN (((dx a1.agents.length).map PV).flatMap aB.enc)+0))≤_;rw[e];omega
  have n8:cN ((jT a0 a1 a2 a3).schedule.flatMap aT)≤200:=by
   show cN (a2.flatMap aT)≤_;rw[BO];exact hsl
  have n9:cN ((jT a0 a1 a2 a3).origins.flatMap aB.enc)≤600*3:=n6
  have n10:cN ((jT a0 a1 a2 a3).breaks.flatMap aH.enc)=0:=by
   show cN (([]:List aH).flatMap aH.enc)=0;rw[List.flatMap_nil,aZ]
  unfold aL.cnt;omega
 ·obtain⟨rfl,rfl⟩:=Prod.mk.inj hR;unfold Dn aL.cnt aG.cnt;simp[aZ]
end
end Go.Proofs.YtjpaeopdljfjpaaGreat
