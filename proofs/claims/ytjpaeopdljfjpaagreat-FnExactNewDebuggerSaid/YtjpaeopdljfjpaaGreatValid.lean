
/- Plain arithmetic: 32-bit wraps, the operators of the language, bounds as Bools. No program in it. -/
import Derived.Test.YtjpaeopdljfjpaaGreatShort
import Derived.Test.YtjpaeopdljfjpaaGreatSc
set_option linter.unusedSimpArgs false
set_option linter.unusedVariables false
namespace Go.Tr
open Go Go.RowKit
def cB(n lo hi:Int):Bool:=decide (lo≤n)&&decide (n≤hi)
theorem kI{n lo hi:Int}(h:cB n lo hi=true):lo≤n∧n≤hi:=by simpa[cB]using h
theorem NH{n lo hi:Int}(h:cB n lo hi=false):n<lo∨hi<n:=by
 simp only[cB,Bool.and_eq_false_iff,qP]at h;omega
theorem rD{n lo hi:Int}(h1:lo≤n)(h2:n≤hi):cB n lo hi=true:=by simp[cB,h1,h2]
theorem wO{n lo hi:Int}(h:n<lo∨hi<n):cB n lo hi=false:=by
 simp only[cB,Bool.and_eq_false_iff,qP];omega
def jV(k:Int):Bool:=cB k 1 12
def gQ(k:Int):Bool:=jV k&&k !=1&&k !=5&&k !=6
def KQ(n:Int):Bool:=cB n 0 8
def dK(k l:Int):Bool:=jV k&&(l==0||(gQ k&&KQ l))
def Nz(k:Int):Bool:=k==3||k==7||k==8||k==10||k==11
def RG(t k l:Int):Bool:=KQ t&&dK k l&&(k==6||k==12||(gQ k&&decide (t<l)))
def rule(ka la kb lb:Int):Int:=
 if ka=5 then 4
 else if ka=4 then(if kb==4&&la==lb then 2 else if RG la kb lb then 3 else 0)
 else if ka=2 then(if kb==3&&la==lb then 1 else 0)
 else if ka=6 then(if kb==7||kb==8 then 5 else if kb==11 then 6 else 0)
 else if ka=9 then(if kb==10 then 6 else 0)
 else if ka=12 then(if Nz kb then 7 else 0)
 else 0
def NP(ka la kb lb:Int):Bool:=dK ka la&&dK kb lb&&ka !=1&&kb !=1
def om(ka la kb lb:Int):Int:=if NP ka la kb lb then(if rule ka la kb lb=0 then(if rule kb lb ka la=0 then 8 else rule kb lb ka la)else rule ka la kb lb)else 0
def ou(ka la kb lb:Int):Int:=if NP ka la kb lb then(if rule ka la kb lb=0 then(if rule kb lb ka la=0 then 0 else 2)else 1)else 0
def bD(k f:Int):Int:=
 if k=9 then(if cB f 0 3 then f+1 else 0)else if f=0 then
  (if k=1∨k=5∨k=6∨k=12 then 1 else if k=8∨k=10∨k=11 then 2 else if k=2∨k=3∨k=4∨k=7 then 3 else 0)else 0
theorem zA{k:Int}(h:jV k=true):k=1∨k=2∨k=3∨k=4∨k=5∨k=6∨k=7∨k=8∨k=9∨k=10∨k=11∨k=12:=by
 have:=kI h;omega
theorem yc{k l:Int}(h:jV k=false):dK k l=false:=by simp[dK,h]
theorem nT{k:Int}(h:jV k=false):gQ k=false:=by simp[gQ,h]
structure aC where
 agent:Int
 slot:Int
def aC.enc(x:aC):List D:=[.v (.int .i64 x.agent),.v (.int .i64 x.slot)]
theorem aC.aR(x:aC):x.enc.length=2:=rfl
theorem aC.us{w:World}{x:aC}{bs us}(h0:TN w x.enc bs us):us=[.int .i64 x.agent,.int .i64 x.slot]∧bs=[]:=by
 unfold aC.enc at h0;obtain⟨u0,rfl,h1⟩:=TN.gL h0;obtain⟨u1,rfl,h2⟩:=TN.gL h1;obtain⟨rfl,rfl⟩:=TN.end_ h2;exact⟨rfl,rfl⟩
theorem aC.oZ{w:World}{x:aC}:TN w x.enc ([]) [.int .i64 x.agent,.int .i64 x.slot]:=by
 have h:=(show TN w [.v (.int .i64 x.agent),.v (.int .i64 x.slot)] _ _ from TN.kE rfl (TN.kE rfl (TN.done)))
 try simp only[qS]at h
 unfold aC.enc
 first|exact h|simpa only[qF]using h
theorem aC.lW{w:World}{xs:List aC}{bs:List Nat}{A:Option Addr}{n n' c:Nat}(h:T1 w (.sl n (xs.flatMap aC.enc)) bs (.slice A n' c))(hm:xs.length=n){k:Nat}(hk:k<n):
  ∃(b off:Nat) (x:aC),A=some ⟨b,off,none⟩∧b<w.heap.size∧Hid (xs[k]? =some x)∧w.cell? ⟨b,off+k*2,none⟩=some (.int .i64 x.agent)∧w.cell? ⟨b,off+k*2+1,none⟩=some (.int .i64 x.slot):=by
 obtain⟨_,b,off,p1,p2,p3,us,hA,_,hb,hc,ht⟩:=T1.at_ aC.aR h hm hk;obtain⟨rfl,_⟩:=aC.us ht;exact⟨b,off,xs[k],hA,hb,qB (hm▸hk),hc 0 _ rfl,hc 1 _ rfl⟩
theorem aC.vH{x y:aC}(h0:x.agent=y.agent)(h1:x.slot=y.slot):x=y:=by
 cases x;cases y;simp_all
def aC.wt(_x:aC):Nat:=0
def aC.small(_x:aC):Prop:=True
structure ay where
 kind:Int
 level:Int
 value:Int
 data:(List Int)
 aD:(List aC)
def ay.enc(x:ay):List D:=[.v (.int .i64 x.kind),.v (.int .i64 x.level),.v (.int .i64 x.value),.sl x.data.length (x.data.flatMap aT),.sl x.aD.length (x.aD.flatMap aC.enc)]
theorem ay.aR(x:ay):x.enc.length=5:=rfl
theorem ay.us{w:World}{x:ay}{bs us}(h0:TN w x.enc bs us):∃(A3:Option Addr) (c3:Nat) (b3:List Nat) (A4:Option Addr) (c4:Nat) (b4:List Nat),us=[.int .i64 x.kind,.int .i64 x.level,.int .i64 x.value,.slice A3 x.data.length c3,.slice A4 x.aD.length c4]∧bs=b3++b4∧T1 w (.sl x.data.length (x.data.flatMap aT)) b3 (.slice A3 x.data.length c3)∧x.data.length≤c3∧c3≤maxLen∧T1 w (.sl x.aD.length (x.aD.flatMap aC.enc)) b4 (.slice A4 x.aD.length c4)∧x.aD.length≤c4∧c4≤maxLen:=by
 unfold ay.enc at h0;obtain⟨u0,rfl,h1⟩:=TN.gL h0;obtain⟨u1,rfl,h2⟩:=TN.gL h1;obtain⟨u2,rfl,h3⟩:=TN.gL h2;obtain⟨A3,c3,b3,r3,u3,rfl,rfl,t3,l3,m3,h4⟩:=TN.eF h3;obtain⟨A4,c4,b4,r4,u4,rfl,rfl,t4,l4,m4,h5⟩:=TN.eF h4;obtain⟨rfl,rfl⟩:=TN.end_ h5;exact⟨A3,c3,b3,A4,c4,b4,rfl,by simp,t3,l3,m3,t4,l4,m4⟩
theorem ay.oZ{w:World}{x:ay}{A3 c3 b3}(t3:T1 w (.sl x.data.length (x.data.flatMap aT)) b3 (.slice A3 x.data.length c3)){A4 c4 b4}(t4:T1 w (.sl x.aD.length (x.aD.flatMap aC.enc)) b4 (.slice A4 x.aD.length c4)):TN w x.enc (b3++b4) [.int .i64 x.kind,.int .i64 x.level,.int .i64 x.value,.slice A3 x.data.length c3,.slice A4 x.aD.length c4]:=by
 have h:=(show TN w [.v (.int .i64 x.kind),.v (.int .i64 x.level),.v (.int .i64 x.value),.sl x.data.length (x.data.flatMap aT),.sl x.aD.length (x.aD.flatMap aC.enc)] _ _ from TN.kE rfl (TN.kE rfl (TN.kE rfl (TN.jB t3 (TN.jB t4 (TN.done))))))
 try simp only[qS]at h
 unfold ay.enc
 first|exact h|simpa only[qF]using h
theorem ay.lW{w:World}{xs:List ay}{bs:List Nat}{A:Option Addr}{n n' c:Nat}(h:T1 w (.sl n (xs.flatMap ay.enc)) bs (.slice A n' c))(hm:xs.length=n){k:Nat}(hk:k<n):
  ∃(b off:Nat) (x:ay) (A3:Option Addr) (c3:Nat) (b3:List Nat) (A4:Option Addr) (c4:Nat) (b4:List Nat),A=some ⟨b,off,none⟩∧b<w.heap.size∧Hid (xs[k]? =some x)∧w.cell? ⟨b,off+k*5,none⟩=some (.int .i64 x.kind)∧w.cell? ⟨b,off+k*5+1,none⟩=some (.int .i64 x.level)∧w.cell? ⟨b,off+k*5+2,none⟩=some (.int .i64 x.value)∧w.cell? ⟨b,off+k*5+3,none⟩=some (.slice A3 x.data.length c3)∧w.cell? ⟨b,off+k*5+4,none⟩=some (.slice A4 x.aD.length c4)∧T1 w (.sl x.data.length (x.data.flatMap aT)) b3 (.slice A3 x.data.length c3)∧x.data.length≤c3∧c3≤maxLen∧T1 w (.sl x.aD.length (x.aD.flatMap aC.enc)) b4 (.slice A4 x.aD.length c4)∧x.aD.length≤c4∧c4≤maxLen:=by
 obtain⟨_,b,off,p1,p2,p3,us,hA,_,hb,hc,ht⟩:=T1.at_ ay.aR h hm hk;obtain⟨A3,c3,b3,A4,c4,b4,rfl,_,t3,l3,m3,t4,l4,m4⟩:=ay.us ht;exact⟨b,off,xs[k],A3,c3,b3,A4,c4,b4,hA,hb,qB (hm▸hk),hc 0 _ rfl,hc 1 _ rfl,hc 2 _ rfl,hc 3 _ rfl,hc 4 _ rfl,t3,l3,m3,t4,l4,m4⟩
theorem ay.vH{x y:ay}(h0:x.kind=y.kind)(h1:x.level=y.level)(h2:x.value=y.value)(h3:x.data=y.data)(h4:x.aD=y.aD):x=y:=by
 cases x;cases y;simp_all
def ay.wt(x:ay):Nat:=qh (fun _=>0) x.data+qh (fun _=>0) x.aD
def ay.small(x:ay):Prop:=(x.data.length≤1048576)∧(x.aD.length≤1048576∧∀y∈x.aD,aC.small y)
structure aG where
 agents:(List ay)
def aG.enc(x:aG):List D:=[.sl x.agents.length (x.agents.flatMap ay.enc)]
theorem aG.aR(x:aG):x.enc.length=1:=rfl
theorem aG.us{w:World}{x:aG}{bs us}(h0:TN w x.enc bs us):∃(A0:Option Addr) (c0:Nat) (b0:List Nat),us=[.slice A0 x.agents.length c0]∧bs=b0∧T1 w (.sl x.agents.length (x.agents.flatMap ay.enc)) b0 (.slice A0 x.agents.length c0)∧x.agents.length≤c0∧c0≤maxLen:=by
 unfold aG.enc at h0;obtain⟨A0,c0,b0,r0,u0,rfl,rfl,t0,l0,m0,h1⟩:=TN.eF h0;obtain⟨rfl,rfl⟩:=TN.end_ h1;exact⟨A0,c0,b0,rfl,by simp,t0,l0,m0⟩
theorem aG.oZ{w:World}{x:aG}{A0 c0 b0}(t0:T1 w (.sl x.agents.length (x.agents.flatMap ay.enc)) b0 (.slice A0 x.agents.length c0)):TN w x.enc (b0) [.slice A0 x.agents.length c0]:=by
 have h:=(show TN w [.sl x.agents.length (x.agents.flatMap ay.enc)] _ _ from TN.jB t0 (TN.done))
 try simp only[qS]at h
 unfold aG.enc
 first|exact h|simpa only[qF]using h
theorem aG.lW{w:World}{xs:List aG}{bs:List Nat}{A:Option Addr}{n n' c:Nat}(h:T1 w (.sl n (xs.flatMap aG.enc)) bs (.slice A n' c))(hm:xs.length=n){k:Nat}(hk:k<n):
  ∃(b off:Nat) (x:aG) (A0:Option Addr) (c0:Nat) (b0:List Nat),A=some ⟨b,off,none⟩∧b<w.heap.size∧Hid (xs[k]? =some x)∧w.cell? ⟨b,off+k,none⟩=some (.slice A0 x.agents.length c0)∧T1 w (.sl x.agents.length (x.agents.flatMap ay.enc)) b0 (.slice A0 x.agents.length c0)∧x.agents.length≤c0∧c0≤maxLen:=by
 obtain⟨_,b,off,p1,p2,p3,us,hA,_,hb,hc,ht⟩:=T1.at_ aG.aR h hm hk;obtain⟨A0,c0,b0,rfl,_,t0,l0,m0⟩:=aG.us ht;exact⟨b,off,xs[k],A0,c0,b0,hA,hb,qB (hm▸hk),by simpa using hc 0 _ rfl,t0,l0,m0⟩
theorem aG.vH{x y:aG}(h0:x.agents=y.agents):x=y:=by
 cases x;cases y;simp_all
def aG.wt(x:aG):Nat:=qh ay.wt x.agents
def aG.small(x:aG):Prop:=(x.agents.length≤1048576∧∀y∈x.agents,ay.small y)
structure aB where
 step:Int
 def_:Int
 source:Int
def aB.enc(x:aB):List D:=[.v (.int .i64 x.step),.v (.int .i64 x.def_),.v (.int .i64 x.source)]
theorem aB.aR(x:aB):x.enc.length=3:=rfl
theorem aB.us{w:World}{x:aB}{bs us}(h0:TN w x.enc bs us):us=[.int .i64 x.step,.int .i64 x.def_,.int .i64 x.source]∧bs=[]:=by
 unfold aB.enc at h0;obtain⟨u0,rfl,h1⟩:=TN.gL h0;obtain⟨u1,rfl,h2⟩:=TN.gL h1;obtain⟨u2,rfl,h3⟩:=TN.gL h2;obtain⟨rfl,rfl⟩:=TN.end_ h3;exact⟨rfl,rfl⟩
theorem aB.oZ{w:World}{x:aB}:TN w x.enc ([]) [.int .i64 x.step,.int .i64 x.def_,.int .i64 x.source]:=by
 have h:=(show TN w [.v (.int .i64 x.step),.v (.int .i64 x.def_),.v (.int .i64 x.source)] _ _ from TN.kE rfl (TN.kE rfl (TN.kE rfl (TN.done))))
 try simp only[qS]at h
 unfold aB.enc
 first|exact h|simpa only[qF]using h
theorem aB.lW{w:World}{xs:List aB}{bs:List Nat}{A:Option Addr}{n n' c:Nat}(h:T1 w (.sl n (xs.flatMap aB.enc)) bs (.slice A n' c))(hm:xs.length=n){k:Nat}(hk:k<n):
  ∃(b off:Nat) (x:aB),A=some ⟨b,off,none⟩∧b<w.heap.size∧Hid (xs[k]? =some x)∧w.cell? ⟨b,off+k*3,none⟩=some (.int .i64 x.step)∧w.cell? ⟨b,off+k*3+1,none⟩=some (.int .i64 x.def_)∧w.cell? ⟨b,off+k*3+2,none⟩=some (.int .i64 x.source):=by
 obtain⟨_,b,off,p1,p2,p3,us,hA,_,hb,hc,ht⟩:=T1.at_ aB.aR h hm hk;obtain⟨rfl,_⟩:=aB.us ht;exact⟨b,off,xs[k],hA,hb,qB (hm▸hk),hc 0 _ rfl,hc 1 _ rfl,hc 2 _ rfl⟩
theorem aB.vH{x y:aB}(h0:x.step=y.step)(h1:x.def_=y.def_)(h2:x.source=y.source):x=y:=by
 cases x;cases y;simp_all
def aB.wt(_x:aB):Nat:=0
def aB.small(_x:aB):Prop:=True
structure aH where
 kind:Int
 value:Int
def aH.enc(x:aH):List D:=[.v (.int .i64 x.kind),.v (.int .i64 x.value)]
theorem aH.aR(x:aH):x.enc.length=2:=rfl
theorem aH.us{w:World}{x:aH}{bs us}(h0:TN w x.enc bs us):us=[.int .i64 x.kind,.int .i64 x.value]∧bs=[]:=by
 unfold aH.enc at h0;obtain⟨u0,rfl,h1⟩:=TN.gL h0;obtain⟨u1,rfl,h2⟩:=TN.gL h1;obtain⟨rfl,rfl⟩:=TN.end_ h2;exact⟨rfl,rfl⟩
theorem aH.oZ{w:World}{x:aH}:TN w x.enc ([]) [.int .i64 x.kind,.int .i64 x.value]:=by
 have h:=(show TN w [.v (.int .i64 x.kind),.v (.int .i64 x.value)] _ _ from TN.kE rfl (TN.kE rfl (TN.done)))
 try simp only[qS]at h
 unfold aH.enc
 first|exact h|simpa only[qF]using h
theorem aH.lW{w:World}{xs:List aH}{bs:List Nat}{A:Option Addr}{n n' c:Nat}(h:T1 w (.sl n (xs.flatMap aH.enc)) bs (.slice A n' c))(hm:xs.length=n){k:Nat}(hk:k<n):
  ∃(b off:Nat) (x:aH),A=some ⟨b,off,none⟩∧b<w.heap.size∧Hid (xs[k]? =some x)∧w.cell? ⟨b,off+k*2,none⟩=some (.int .i64 x.kind)∧w.cell? ⟨b,off+k*2+1,none⟩=some (.int .i64 x.value):=by
 obtain⟨_,b,off,p1,p2,p3,us,hA,_,hb,hc,ht⟩:=T1.at_ aH.aR h hm hk;obtain⟨rfl,_⟩:=aH.us ht;exact⟨b,off,xs[k],hA,hb,qB (hm▸hk),hc 0 _ rfl,hc 1 _ rfl⟩
theorem aH.vH{x y:aH}(h0:x.kind=y.kind)(h1:x.value=y.value):x=y:=by
 cases x;cases y;simp_all
def aH.wt(_x:aH):Nat:=0
def aH.small(_x:aH):Prop:=True
structure aA where
 at_:Int
 net:aG
 origins:(List aB)
def aA.enc(x:aA):List D:=[.v (.int .i64 x.at_),.sl x.net.agents.length (x.net.agents.flatMap ay.enc),.sl x.origins.length (x.origins.flatMap aB.enc)]
theorem aA.aR(x:aA):x.enc.length=3:=rfl
theorem aA.us{w:World}{x:aA}{bs us}(h0:TN w x.enc bs us):∃(A1:Option Addr) (c1:Nat) (b1:List Nat) (A2:Option Addr) (c2:Nat) (b2:List Nat),us=[.int .i64 x.at_,.slice A1 x.net.agents.length c1,.slice A2 x.origins.length c2]∧bs=b1++b2∧T1 w (.sl x.net.agents.length (x.net.agents.flatMap ay.enc)) b1 (.slice A1 x.net.agents.length c1)∧x.net.agents.length≤c1∧c1≤maxLen∧T1 w (.sl x.origins.length (x.origins.flatMap aB.enc)) b2 (.slice A2 x.origins.length c2)∧x.origins.length≤c2∧c2≤maxLen:=by
 unfold aA.enc at h0;obtain⟨u0,rfl,h1⟩:=TN.gL h0;obtain⟨A1,c1,b1,r1,u1,rfl,rfl,t1,l1,m1,h2⟩:=TN.eF h1;obtain⟨A2,c2,b2,r2,u2,rfl,rfl,t2,l2,m2,h3⟩:=TN.eF h2;obtain⟨rfl,rfl⟩:=TN.end_ h3;exact⟨A1,c1,b1,A2,c2,b2,rfl,by simp,t1,l1,m1,t2,l2,m2⟩
theorem aA.oZ{w:World}{x:aA}{A1 c1 b1}(t1:T1 w (.sl x.net.agents.length (x.net.agents.flatMap ay.enc)) b1 (.slice A1 x.net.agents.length c1)){A2 c2 b2}(t2:T1 w (.sl x.origins.length (x.origins.flatMap aB.enc)) b2 (.slice A2 x.origins.length c2)):TN w x.enc (b1++b2) [.int .i64 x.at_,.slice A1 x.net.agents.length c1,.slice A2 x.origins.length c2]:=by
 have h:=(show TN w [.v (.int .i64 x.at_),.sl x.net.agents.length (x.net.agents.flatMap ay.enc),.sl x.origins.length (x.origins.flatMap aB.enc)] _ _ from TN.kE rfl (TN.jB t1 (TN.jB t2 (TN.done))))
 try simp only[qS]at h
 unfold aA.enc
 first|exact h|simpa only[qF]using h
theorem aA.lW{w:World}{xs:List aA}{bs:List Nat}{A:Option Addr}{n n' c:Nat}(h:T1 w (.sl n (xs.flatMap aA.enc)) bs (.slice A n' c))(hm:xs.length=n){k:Nat}(hk:k<n):
  ∃(b off:Nat) (x:aA) (A1:Option Addr) (c1:Nat) (b1:List Nat) (A2:Option Addr) (c2:Nat) (b2:List Nat),A=some ⟨b,off,none⟩∧b<w.heap.size∧Hid (xs[k]? =some x)∧w.cell? ⟨b,off+k*3,none⟩=some (.int .i64 x.at_)∧w.cell? ⟨b,off+k*3+1,none⟩=some (.slice A1 x.net.agents.length c1)∧w.cell? ⟨b,off+k*3+2,none⟩=some (.slice A2 x.origins.length c2)∧T1 w (.sl x.net.agents.length (x.net.agents.flatMap ay.enc)) b1 (.slice A1 x.net.agents.length c1)∧x.net.agents.length≤c1∧c1≤maxLen∧T1 w (.sl x.origins.length (x.origins.flatMap aB.enc)) b2 (.slice A2 x.origins.length c2)∧x.origins.length≤c2∧c2≤maxLen:=by
 obtain⟨_,b,off,p1,p2,p3,us,hA,_,hb,hc,ht⟩:=T1.at_ aA.aR h hm hk;obtain⟨A1,c1,b1,A2,c2,b2,rfl,_,t1,l1,m1,t2,l2,m2⟩:=aA.us ht;exact⟨b,off,xs[k],A1,c1,b1,A2,c2,b2,hA,hb,qB (hm▸hk),hc 0 _ rfl,hc 1 _ rfl,hc 2 _ rfl,t1,l1,m1,t2,l2,m2⟩
theorem aA.vH{x y:aA}(h0:x.at_=y.at_)(h1:x.net=y.net)(h2:x.origins=y.origins):x=y:=by
 cases x;cases y;simp_all
def aA.wt(x:aA):Nat:=x.net.wt+qh (fun _=>0) x.origins
def aA.small(x:aA):Prop:=(x.net.small)∧(x.origins.length≤1048576∧∀y∈x.origins,aB.small y)
structure aL where
 book:(List aG)
 schedule:(List Int)
 every:Int
 at_:Int
 net:aG
 origins:(List aB)
 breaks:(List aH)
 points:(List aA)
def aL.enc(x:aL):List D:=[.sl x.book.length (x.book.flatMap aG.enc),.sl x.schedule.length (x.schedule.flatMap aT),.v (.int .i64 x.every),.v (.int .i64 x.at_),.sl x.net.agents.length (x.net.agents.flatMap ay.enc),.sl x.origins.length (x.origins.flatMap aB.enc),.sl x.breaks.length (x.breaks.flatMap aH.enc),.sl x.points.length (x.points.flatMap aA.enc)]
theorem aL.aR(x:aL):x.enc.length=8:=rfl
theorem aL.us{w:World}{x:aL}{bs us}(h0:TN w x.enc bs us):∃(A0:Option Addr) (c0:Nat) (b0:List Nat) (A1:Option Addr) (c1:Nat) (b1:List Nat) (A4:Option Addr) (c4:Nat) (b4:List Nat) (A5:Option Addr) (c5:Nat) (b5:List Nat) (A6:Option Addr) (c6:Nat) (b6:List Nat) (A7:Option Addr) (c7:Nat) (b7:List Nat),us=[.slice A0 x.book.length c0,.slice A1 x.schedule.length c1,.int .i64 x.every,.int .i64 x.at_,.slice A4 x.net.agents.length c4,.slice A5 x.origins.length c5,.slice A6 x.breaks.length c6,.slice A7 x.points.length c7]∧bs=b0++b1++b4++b5++b6++b7∧T1 w (.sl x.book.length (x.book.flatMap aG.enc)) b0 (.slice A0 x.book.length c0)∧x.book.length≤c0∧c0≤maxLen∧T1 w (.sl x.schedule.length (x.schedule.flatMap aT)) b1 (.slice A1 x.schedule.length c1)∧x.schedule.length≤c1∧c1≤maxLen∧T1 w (.sl x.net.agents.length (x.net.agents.flatMap ay.enc)) b4 (.slice A4 x.net.agents.length c4)∧x.net.agents.length≤c4∧c4≤maxLen∧T1 w (.sl x.origins.length (x.origins.flatMap aB.enc)) b5 (.slice A5 x.origins.length c5)∧x.origins.length≤c5∧c5≤maxLen∧T1 w (.sl x.breaks.length (x.breaks.flatMap aH.enc)) b6 (.slice A6 x.breaks.length c6)∧x.breaks.length≤c6∧c6≤maxLen∧T1 w (.sl x.points.length (x.points.flatMap aA.enc)) b7 (.slice A7 x.points.length c7)∧x.points.length≤c7∧c7≤maxLen:=by
 unfold aL.enc at h0;obtain⟨A0,c0,b0,r0,u0,rfl,rfl,t0,l0,m0,h1⟩:=TN.eF h0;obtain⟨A1,c1,b1,r1,u1,rfl,rfl,t1,l1,m1,h2⟩:=TN.eF h1;obtain⟨u2,rfl,h3⟩:=TN.gL h2;obtain⟨u3,rfl,h4⟩:=TN.gL h3;obtain⟨A4,c4,b4,r4,u4,rfl,rfl,t4,l4,m4,h5⟩:=TN.eF h4;obtain⟨A5,c5,b5,r5,u5,rfl,rfl,t5,l5,m5,h6⟩:=TN.eF h5;obtain⟨A6,c6,b6,r6,u6,rfl,rfl,t6,l6,m6,h7⟩:=TN.eF h6;obtain⟨A7,c7,b7,r7,u7,rfl,rfl,t7,l7,m7,h8⟩:=TN.eF h7;obtain⟨rfl,rfl⟩:=TN.end_ h8;exact⟨A0,c0,b0,A1,c1,b1,A4,c4,b4,A5,c5,b5,A6,c6,b6,A7,c7,b7,rfl,by simp,t0,l0,m0,t1,l1,m1,t4,l4,m4,t5,l5,m5,t6,l6,m6,t7,l7,m7⟩
theorem aL.oZ{w:World}{x:aL}{A0 c0 b0}(t0:T1 w (.sl x.book.length (x.book.flatMap aG.enc)) b0 (.slice A0 x.book.length c0)){A1 c1 b1}(t1:T1 w (.sl x.schedule.length (x.schedule.flatMap aT)) b1 (.slice A1 x.schedule.length c1)){A4 c4 b4}(t4:T1 w (.sl x.net.agents.length (x.net.agents.flatMap ay.enc)) b4 (.slice A4 x.net.agents.length c4)){A5 c5 b5}(t5:T1 w (.sl x.origins.length (x.origins.flatMap aB.enc)) b5 (.slice A5 x.origins.length c5)){A6 c6 b6}(t6:T1 w (.sl x.breaks.length (x.breaks.flatMap aH.enc)) b6 (.slice A6 x.breaks.length c6)){A7 c7 b7}(t7:T1 w (.sl x.points.length (x.points.flatMap aA.enc)) b7 (.slice A7 x.points.length c7)):TN w x.enc (b0++b1++b4++b5++b6++b7) [.slice A0 x.book.length c0,.slice A1 x.schedule.length c1,.int .i64 x.every,.int .i64 x.at_,.slice A4 x.net.agents.length c4,.slice A5 x.origins.length c5,.slice A6 x.breaks.length c6,.slice A7 x.points.length c7]:=by
 have h:=(show TN w [.sl x.book.length (x.book.flatMap aG.enc),.sl x.schedule.length (x.schedule.flatMap aT),.v (.int .i64 x.every),.v (.int .i64 x.at_),.sl x.net.agents.length (x.net.agents.flatMap ay.enc),.sl x.origins.length (x.origins.flatMap aB.enc),.sl x.breaks.length (x.breaks.flatMap aH.enc),.sl x.points.length (x.points.flatMap aA.enc)] _ _ from TN.jB t0 (TN.jB t1 (TN.kE rfl (TN.kE rfl (TN.jB t4 (TN.jB t5 (TN.jB t6 (TN.jB t7 (TN.done)))))))))
 try simp only[qS]at h
 unfold aL.enc
 first|exact h|simpa only[qF]using h
theorem aL.lW{w:World}{xs:List aL}{bs:List Nat}{A:Option Addr}{n n' c:Nat}(h:T1 w (.sl n (xs.flatMap aL.enc)) bs (.slice A n' c))(hm:xs.length=n){k:Nat}(hk:k<n):
  ∃(b off:Nat) (x:aL) (A0:Option Addr) (c0:Nat) (b0:List Nat) (A1:Option Addr) (c1:Nat) (b1:List Nat) (A4:Option Addr) (c4:Nat) (b4:List Nat) (A5:Option Addr) (c5:Nat) (b5:List Nat) (A6:Option Addr) (c6:Nat) (b6:List Nat) (A7:Option Addr) (c7:Nat) (b7:List Nat),A=some ⟨b,off,none⟩∧b<w.heap.size∧Hid (xs[k]? =some x)∧w.cell? ⟨b,off+k*8,none⟩=some (.slice A0 x.book.length c0)∧w.cell? ⟨b,off+k*8+1,none⟩=some (.slice A1 x.schedule.length c1)∧w.cell? ⟨b,off+k*8+2,none⟩=some (.int .i64 x.every)∧w.cell? ⟨b,off+k*8+3,none⟩=some (.int .i64 x.at_)∧w.cell? ⟨b,off+k*8+4,none⟩=some (.slice A4 x.net.agents.length c4)∧w.cell? ⟨b,off+k*8+5,none⟩=some (.slice A5 x.origins.length c5)∧w.cell? ⟨b,off+k*8+6,none⟩=some (.slice A6 x.breaks.length c6)∧w.cell? ⟨b,off+k*8+7,none⟩=some (.slice A7 x.points.length c7)∧T1 w (.sl x.book.length (x.book.flatMap aG.enc)) b0 (.slice A0 x.book.length c0)∧x.book.length≤c0∧c0≤maxLen∧T1 w (.sl x.schedule.length (x.schedule.flatMap aT)) b1 (.slice A1 x.schedule.length c1)∧x.schedule.length≤c1∧c1≤maxLen∧T1 w (.sl x.net.agents.length (x.net.agents.flatMap ay.enc)) b4 (.slice A4 x.net.agents.length c4)∧x.net.agents.length≤c4∧c4≤maxLen∧T1 w (.sl x.origins.length (x.origins.flatMap aB.enc)) b5 (.slice A5 x.origins.length c5)∧x.origins.length≤c5∧c5≤maxLen∧T1 w (.sl x.breaks.length (x.breaks.flatMap aH.enc)) b6 (.slice A6 x.breaks.length c6)∧x.breaks.length≤c6∧c6≤maxLen∧T1 w (.sl x.points.length (x.points.flatMap aA.enc)) b7 (.slice A7 x.points.length c7)∧x.points.length≤c7∧c7≤maxLen:=by
 obtain⟨_,b,off,p1,p2,p3,us,hA,_,hb,hc,ht⟩:=T1.at_ aL.aR h hm hk;obtain⟨A0,c0,b0,A1,c1,b1,A4,c4,b4,A5,c5,b5,A6,c6,b6,A7,c7,b7,rfl,_,t0,l0,m0,t1,l1,m1,t4,l4,m4,t5,l5,m5,t6,l6,m6,t7,l7,m7⟩:=aL.us ht;exact⟨b,off,xs[k],A0,c0,b0,A1,c1,b1,A4,c4,b4,A5,c5,b5,A6,c6,b6,A7,c7,b7,hA,hb,qB (hm▸hk),hc 0 _ rfl,hc 1 _ rfl,hc 2 _ rfl,hc 3 _ rfl,hc 4 _ rfl,hc 5 _ rfl,hc 6 _ rfl,hc 7 _ rfl,t0,l0,m0,t1,l1,m1,t4,l4,m4,t5,l5,m5,t6,l6,m6,t7,l7,m7⟩
theorem aL.vH{x y:aL}(h0:x.book=y.book)(h1:x.schedule=y.schedule)(h2:x.every=y.every)(h3:x.at_=y.at_)(h4:x.net=y.net)(h5:x.origins=y.origins)(h6:x.breaks=y.breaks)(h7:x.points=y.points):x=y:=by
 cases x;cases y;simp_all
def aL.wt(x:aL):Nat:=qh aG.wt x.book+qh (fun _=>0) x.schedule+x.net.wt+qh (fun _=>0) x.origins+qh (fun _=>0) x.breaks+qh aA.wt x.points
def aL.small(x:aL):Prop:=(x.book.length≤1048576∧∀y∈x.book,aG.small y)∧(x.schedule.length≤1048576)∧(x.net.small)∧(x.origins.length≤1048576∧∀y∈x.origins,aB.small y)∧(x.breaks.length≤1048576∧∀y∈x.breaks,aH.small y)∧(x.points.length≤1048576∧∀y∈x.points,aA.small y)
theorem aC.pt{w:World}{x:aC}{b o bs}(h:dV w b o x.enc bs):Kn w b (o) (.int .i64 x.agent)∧Kn w b (o+1) (.int .i64 x.slot):=by
 obtain⟨hlt,us,hc,ht⟩:=h;obtain⟨rfl,rfl⟩:=aC.us ht;exact⟨hc.always hlt 0 _ rfl,hc.always hlt 1 _ rfl⟩
theorem ay.pt{w:World}{x:ay}{b o bs}(h:dV w b o x.enc bs):∃(A3:Option Addr) (c3:Nat) (b3:List Nat) (A4:Option Addr) (c4:Nat) (b4:List Nat),Kn w b (o) (.int .i64 x.kind)∧Kn w b (o+1) (.int .i64 x.level)∧Kn w b (o+2) (.int .i64 x.value)∧Kn w b (o+3) (.slice A3 x.data.length c3)∧Kn w b (o+4) (.slice A4 x.aD.length c4)∧T1 w (.sl x.data.length (x.data.flatMap aT)) b3 (.slice A3 x.data.length c3)∧T1 w (.sl x.aD.length (x.aD.flatMap aC.enc)) b4 (.slice A4 x.aD.length c4):=by
 obtain⟨hlt,us,hc,ht⟩:=h;obtain⟨A3,c3,b3,A4,c4,b4,rfl,rfl,t3,l3,m3,t4,l4,m4⟩:=ay.us ht;exact⟨_,_,_,_,_,_,hc.always hlt 0 _ rfl,hc.always hlt 1 _ rfl,hc.always hlt 2 _ rfl,hc.always hlt 3 _ rfl,hc.always hlt 4 _ rfl,t3,t4⟩
theorem aG.pt{w:World}{x:aG}{b o bs}(h:dV w b o x.enc bs):∃(A0:Option Addr) (c0:Nat) (b0:List Nat),Kn w b (o) (.slice A0 x.agents.length c0)∧T1 w (.sl x.agents.length (x.agents.flatMap ay.enc)) b0 (.slice A0 x.agents.length c0):=by
 obtain⟨hlt,us,hc,ht⟩:=h;obtain⟨A0,c0,b0,rfl,rfl,t0,l0,m0⟩:=aG.us ht;exact⟨_,_,_,hc.always hlt 0 _ rfl,t0⟩
theorem aB.pt{w:World}{x:aB}{b o bs}(h:dV w b o x.enc bs):Kn w b (o) (.int .i64 x.step)∧Kn w b (o+1) (.int .i64 x.def_)∧Kn w b (o+2) (.int .i64 x.source):=by
 obtain⟨hlt,us,hc,ht⟩:=h;obtain⟨rfl,rfl⟩:=aB.us ht;exact⟨hc.always hlt 0 _ rfl,hc.always hlt 1 _ rfl,hc.always hlt 2 _ rfl⟩
theorem aH.pt{w:World}{x:aH}{b o bs}(h:dV w b o x.enc bs):Kn w b (o) (.int .i64 x.kind)∧Kn w b (o+1) (.int .i64 x.value):=by
 obtain⟨hlt,us,hc,ht⟩:=h;obtain⟨rfl,rfl⟩:=aH.us ht;exact⟨hc.always hlt 0 _ rfl,hc.always hlt 1 _ rfl⟩
theorem aA.pt{w:World}{x:aA}{b o bs}(h:dV w b o x.enc bs):∃(A1:Option Addr) (c1:Nat) (b1:List Nat) (A2:Option Addr) (c2:Nat) (b2:List Nat),Kn w b (o) (.int .i64 x.at_)∧Kn w b (o+1) (.slice A1 x.net.agents.length c1)∧Kn w b (o+2) (.slice A2 x.origins.length c2)∧T1 w (.sl x.net.agents.length (x.net.agents.flatMap ay.enc)) b1 (.slice A1 x.net.agents.length c1)∧T1 w (.sl x.origins.length (x.origins.flatMap aB.enc)) b2 (.slice A2 x.origins.length c2):=by
 obtain⟨hlt,us,hc,ht⟩:=h;obtain⟨A1,c1,b1,A2,c2,b2,rfl,rfl,t1,l1,m1,t2,l2,m2⟩:=aA.us ht;exact⟨_,_,_,_,_,_,hc.always hlt 0 _ rfl,hc.always hlt 1 _ rfl,hc.always hlt 2 _ rfl,t1,t2⟩
theorem aL.pt{w:World}{x:aL}{b o bs}(h:dV w b o x.enc bs):∃(A0:Option Addr) (c0:Nat) (b0:List Nat) (A1:Option Addr) (c1:Nat) (b1:List Nat) (A4:Option Addr) (c4:Nat) (b4:List Nat) (A5:Option Addr) (c5:Nat) (b5:List Nat) (A6:Option Addr) (c6:Nat) (b6:List Nat) (A7:Option Addr) (c7:Nat) (b7:List Nat),Kn w b (o) (.slice A0 x.book.length c0)∧Kn w b (o+1) (.slice A1 x.schedule.length c1)∧Kn w b (o+2) (.int .i64 x.every)∧Kn w b (o+3) (.int .i64 x.at_)∧Kn w b (o+4) (.slice A4 x.net.agents.length c4)∧Kn w b (o+5) (.slice A5 x.origins.length c5)∧Kn w b (o+6) (.slice A6 x.breaks.length c6)∧Kn w b (o+7) (.slice A7 x.points.length c7)∧T1 w (.sl x.book.length (x.book.flatMap aG.enc)) b0 (.slice A0 x.book.length c0)∧T1 w (.sl x.schedule.length (x.schedule.flatMap aT)) b1 (.slice A1 x.schedule.length c1)∧T1 w (.sl x.net.agents.length (x.net.agents.flatMap ay.enc)) b4 (.slice A4 x.net.agents.length c4)∧T1 w (.sl x.origins.length (x.origins.flatMap aB.enc)) b5 (.slice A5 x.origins.length c5)∧T1 w (.sl x.breaks.length (x.breaks.flatMap aH.enc)) b6 (.slice A6 x.breaks.length c6)∧T1 w (.sl x.points.length (x.points.flatMap aA.enc)) b7 (.slice A7 x.points.length c7):=by
 obtain⟨hlt,us,hc,ht⟩:=h;obtain⟨A0,c0,b0,A1,c1,b1,A4,c4,b4,A5,c5,b5,A6,c6,b6,A7,c7,b7,rfl,rfl,t0,l0,m0,t1,l1,m1,t4,l4,m4,t5,l5,m5,t6,l6,m6,t7,l7,m7⟩:=aL.us ht;exact⟨_,_,_,_,_,_,_,_,_,_,_,_,_,_,_,_,_,_,hc.always hlt 0 _ rfl,hc.always hlt 1 _ rfl,hc.always hlt 2 _ rfl,hc.always hlt 3 _ rfl,hc.always hlt 4 _ rfl,hc.always hlt 5 _ rfl,hc.always hlt 6 _ rfl,hc.always hlt 7 _ rfl,t0,t1,t4,t5,t6,t7⟩
theorem aC.Jw{w:World}{x:aC}{b bs}(h:dV w b 0 x.enc bs):Kn w b 0 (.int .i64 x.agent)∧Kn w b 1 (.int .i64 x.slot):=by
 have:=aC.pt h;simpa only[Nat.zero_add]using this
theorem ay.Jw{w:World}{x:ay}{b bs}(h:dV w b 0 x.enc bs):∃(A3:Option Addr) (c3:Nat) (b3:List Nat) (A4:Option Addr) (c4:Nat) (b4:List Nat),Kn w b 0 (.int .i64 x.kind)∧Kn w b 1 (.int .i64 x.level)∧Kn w b 2 (.int .i64 x.value)∧Kn w b 3 (.slice A3 x.data.length c3)∧Kn w b 4 (.slice A4 x.aD.length c4)∧T1 w (.sl x.data.length (x.data.flatMap aT)) b3 (.slice A3 x.data.length c3)∧T1 w (.sl x.aD.length (x.aD.flatMap aC.enc)) b4 (.slice A4 x.aD.length c4):=by
 have:=ay.pt h;simpa only[Nat.zero_add]using this
theorem aG.Jw{w:World}{x:aG}{b bs}(h:dV w b 0 x.enc bs):∃(A0:Option Addr) (c0:Nat) (b0:List Nat),Kn w b 0 (.slice A0 x.agents.length c0)∧T1 w (.sl x.agents.length (x.agents.flatMap ay.enc)) b0 (.slice A0 x.agents.length c0):=by
 have:=aG.pt h;simpa only[Nat.zero_add]using this
theorem aB.Jw{w:World}{x:aB}{b bs}(h:dV w b 0 x.enc bs):Kn w b 0 (.int .i64 x.step)∧Kn w b 1 (.int .i64 x.def_)∧Kn w b 2 (.int .i64 x.source):=by
 have:=aB.pt h;simpa only[Nat.zero_add]using this
theorem aH.Jw{w:World}{x:aH}{b bs}(h:dV w b 0 x.enc bs):Kn w b 0 (.int .i64 x.kind)∧Kn w b 1 (.int .i64 x.value):=by
 have:=aH.pt h;simpa only[Nat.zero_add]using this
theorem aA.Jw{w:World}{x:aA}{b bs}(h:dV w b 0 x.enc bs):∃(A1:Option Addr) (c1:Nat) (b1:List Nat) (A2:Option Addr) (c2:Nat) (b2:List Nat),Kn w b 0 (.int .i64 x.at_)∧Kn w b 1 (.slice A1 x.net.agents.length c1)∧Kn w b 2 (.slice A2 x.origins.length c2)∧T1 w (.sl x.net.agents.length (x.net.agents.flatMap ay.enc)) b1 (.slice A1 x.net.agents.length c1)∧T1 w (.sl x.origins.length (x.origins.flatMap aB.enc)) b2 (.slice A2 x.origins.length c2):=by
 have:=aA.pt h;simpa only[Nat.zero_add]using this
theorem aL.Jw{w:World}{x:aL}{b bs}(h:dV w b 0 x.enc bs):∃(A0:Option Addr) (c0:Nat) (b0:List Nat) (A1:Option Addr) (c1:Nat) (b1:List Nat) (A4:Option Addr) (c4:Nat) (b4:List Nat) (A5:Option Addr) (c5:Nat) (b5:List Nat) (A6:Option Addr) (c6:Nat) (b6:List Nat) (A7:Option Addr) (c7:Nat) (b7:List Nat),Kn w b 0 (.slice A0 x.book.length c0)∧Kn w b 1 (.slice A1 x.schedule.length c1)∧Kn w b 2 (.int .i64 x.every)∧Kn w b 3 (.int .i64 x.at_)∧Kn w b 4 (.slice A4 x.net.agents.length c4)∧Kn w b 5 (.slice A5 x.origins.length c5)∧Kn w b 6 (.slice A6 x.breaks.length c6)∧Kn w b 7 (.slice A7 x.points.length c7)∧T1 w (.sl x.book.length (x.book.flatMap aG.enc)) b0 (.slice A0 x.book.length c0)∧T1 w (.sl x.schedule.length (x.schedule.flatMap aT)) b1 (.slice A1 x.schedule.length c1)∧T1 w (.sl x.net.agents.length (x.net.agents.flatMap ay.enc)) b4 (.slice A4 x.net.agents.length c4)∧T1 w (.sl x.origins.length (x.origins.flatMap aB.enc)) b5 (.slice A5 x.origins.length c5)∧T1 w (.sl x.breaks.length (x.breaks.flatMap aH.enc)) b6 (.slice A6 x.breaks.length c6)∧T1 w (.sl x.points.length (x.points.flatMap aA.enc)) b7 (.slice A7 x.points.length c7):=by
 have:=aL.pt h;simpa only[Nat.zero_add]using this
end Go.Tr
namespace Go.Tr
def aC.cells(p:aC):List Value:=[.int .i64 p.agent,.int .i64 p.slot]
end Go.Tr
namespace Go.Tr
open Go Go.RowKit
theorem _root_.Go.Calls.q{P:Program}{f:FuncId}{args:Array Value}{W:World}{v:Value}(h:Calls P f args W fun e w'=>e=.returned v∧W=w'):Calls P f args W fun e w'=>e=.returned v∧Ext W w':=
 h.mono fun _ _ ⟨a,b⟩=>⟨a,b▸Below.refl _ _⟩
def dh(k p:Int):Int:=if k==9 then p-1 else 0
def fieldsOf(a:ay):Int:=dh a.kind a.aD.length
def iR(n:Int):Bool:=cB n 0 23
def mI(n:Int):Bool:=cB n (-2147483648) 2147483647
def jl(n:Int):Bool:=cB n 1 6
def bY(l:List Int)(k:Nat):Int:=l.getD k 0
theorem zw{l:List Int}{k:Nat}{x:Int}(h:Hid (l[k]? =some x)):bY l k=x:=by unfold bY;rw[qC,h.out];rfl
def ji(l:List Int):Bool:=bW l.length fun k=>iR (bY l k)
def dZ(a:ay):Bool:=
 if a.kind==6 then((a.data.length:Int)==0)&&mI a.value
 else if a.kind==7 then((a.data.length:Int)==0)&&jl a.value
 else if a.kind==8 then((a.data.length:Int)==1)&&jl a.value&&mI (bY a.data 0)
 else if a.kind==9 then((a.data.length:Int)==0)&&cB a.value 0 3
 else if a.kind==12 then((a.data.length:Int)==0)&&iR a.value
 else if a.kind==10 then a.value==0&&cB a.data.length 1 4&&ji a.data
 else if a.kind==11 then a.value==0&&((a.data.length:Int)==2)&&ji a.data
 else a.value==0&&((a.data.length:Int)==0)
def bP(a:ay):Bool:=decide (0<bD a.kind (fieldsOf a))&&(a.aD.length:Int)==bD a.kind (fieldsOf a)&&dK a.kind a.level&&dZ a
def K4:ay:=⟨0,0,0,[],[]⟩
def MP:aC:=⟨0,0⟩
def fB(l:List ay)(k:Nat):ay:=l.getD k K4
def iB(l:List aC)(k:Nat):aC:=l.getD k MP
theorem Cr{α:Type}{l:List α}{k:Nat}{x d:α}(h:Hid (l[k]? =some x)):l.getD k d=x:=by rw[qC,h.out];rfl
theorem iT{l:List ay}{k:Nat}{x:ay}(h:Hid (l[k]? =some x)):fB l k=x:=Cr h
theorem ow{l:List aC}{k:Nat}{x:aC}(h:Hid (l[k]? =some x)):iB l k=x:=Cr h
def fC(l:List ay)(k:Nat):Bool:=bP (fB l k)&&((fB l k).kind==1)==((k:Int)==0)
def dG(l:List ay):Bool:=cB l.length 1 600&&bW l.length (fC l)
def fQ(l:List ay)(p:aC):Bool:=cB p.agent 0 ((l.length:Int)-1)&&cB p.slot 0 (((fB l p.agent.toNat).aD.length:Int)-1)
def mM(l:List ay)(p:aC):aC:=iB (fB l p.agent.toNat).aD p.slot.toNat
noncomputable def lT(l:List ay)(me p:aC):Bool:= !kX p me&&fQ l p&&kX (mM l p) me
noncomputable def lZ(l:List ay)(i:Nat):Bool:=bW (fB l i).aD.length fun k=>lT l ⟨i,k⟩ (iB (fB l i).aD k)
noncomputable def eY(n:aG):Bool:=dG n.agents&&bW n.agents.length (lZ n.agents)
theorem EF{l:List ay}{p:aC}(h:fQ l p=true):∃(i k:Nat) (a:ay) (q:aC),p=⟨i,k⟩∧i<l.length∧Hid (l[i]? =some a)∧k<a.aD.length∧Hid (a.aD[k]? =some q)∧mM l p=q:=by
 unfold fQ at h;rw[qD]at h;obtain⟨h1,h2⟩:=h;have h1:=kI h1;have h2:=kI h2;obtain⟨pa,ps⟩:=p;simp only at h1 h2;obtain⟨i,rfl⟩:=Int.eq_ofNat_of_zero_le h1.1;obtain⟨k,rfl⟩:=Int.eq_ofNat_of_zero_le h2.1;have hi:i<l.length:=by omega
 have ha:Hid (l[i]? =some l[i]):=qB hi;rw[qK,iT ha]at h2;have hk:k<(l[i]).aD.length:=by omega
 have hq:Hid ((l[i]).aD[k]? =some (l[i]).aD[k]):=qB hk;refine⟨i,k,l[i],_,rfl,hi,ha,hk,hq,?_⟩;unfold mM;rw[qK,qK,iT ha,ow hq]
def OU:aG:=⟨[]⟩
def jk(l:List aG)(k:Nat):aG:=l.getD k OU
theorem Er{l:List aG}{k:Nat}{x:aG}(h:Hid (l[k]? =some x)):jk l k=x:=Cr h
noncomputable def ig(l:List aG):Bool:=decide ((l.length:Int)≤24)&&bW l.length fun k=>eY (jk l k)
def bn(l:List Int):Bool:=decide ((l.length:Int)≤200)&&bW l.length fun k=>cB (bY l k) 0 600
end Go.Tr
