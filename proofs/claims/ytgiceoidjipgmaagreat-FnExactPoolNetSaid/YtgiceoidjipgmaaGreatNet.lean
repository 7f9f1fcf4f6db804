
/- Plain arithmetic: 32-bit wraps, the operators of the language, bounds as Bools. No program in it. -/
import Derived.Test.YtgiceoidjipgmaaGreatSc
set_option linter.unusedSimpArgs false
set_option linter.unusedVariables false
namespace Go.Tr
open Go Go.RowKit
def bJ(n lo hi:Int):Bool:=decide (lo≤n)&&decide (n≤hi)
theorem EU{n lo hi:Int}(h:bJ n lo hi=true):lo≤n∧n≤hi:=by simpa[bJ]using h
theorem K6{n lo hi:Int}(h:bJ n lo hi=false):n<lo∨hi<n:=by
 simp only[bJ,Bool.and_eq_false_iff,decide_eq_false_iff_not]at h;omega
def kg(k:Int):Bool:=bJ k 1 12
def lS(k:Int):Bool:=kg k&&k !=1&&k !=5&&k !=6
def Ky(n:Int):Bool:=bJ n 0 8
def iZ(k l:Int):Bool:=kg k&&(l==0||(lS k&&Ky l))
def Nu(k:Int):Bool:=k==3||k==7||k==8||k==10||k==11
def Pm(t k l:Int):Bool:=Ky t&&iZ k l&&(k==6||k==12||(lS k&&decide (t<l)))
def rule(ka la kb lb:Int):Int:=
 if ka=5 then 4
 else if ka=4 then(if kb==4&&la==lb then 2 else if Pm la kb lb then 3 else 0)
 else if ka=2 then(if kb==3&&la==lb then 1 else 0)
 else if ka=6 then(if kb==7||kb==8 then 5 else if kb==11 then 6 else 0)
 else if ka=9 then(if kb==10 then 6 else 0)
 else if ka=12 then(if Nu kb then 7 else 0)
 else 0
def dw(k f:Int):Int:=
 if k=9 then(if bJ f 0 3 then f+1 else 0)else if f=0 then
  (if k=1∨k=5∨k=6∨k=12 then 1 else if k=8∨k=10∨k=11 then 2 else if k=2∨k=3∨k=4∨k=7 then 3 else 0)else 0
theorem wI{k:Int}(h:kg k=true):k=1∨k=2∨k=3∨k=4∨k=5∨k=6∨k=7∨k=8∨k=9∨k=10∨k=11∨k=12:=by
 have:=EU h;omega
theorem uP{k l:Int}(h:kg k=false):iZ k l=false:=by simp[iZ,h]
theorem mq{k:Int}(h:kg k=false):lS k=false:=by simp[lS,h]
structure aG where
 agent:Int
 slot:Int
def aG.enc(x:aG):List D:=[.v (.int .i64 x.agent),.v (.int .i64 x.slot)]
theorem aG.aT(x:aG):x.enc.length=2:=rfl
theorem aG.us{w:World}{x:aG}{bs us}(h0:TN w x.enc bs us):us=[.int .i64 x.agent,.int .i64 x.slot]∧bs=[]:=by
 unfold aG.enc at h0;obtain⟨u0,rfl,h1⟩:=TN.dF h0;obtain⟨u1,rfl,h2⟩:=TN.dF h1;obtain⟨rfl,rfl⟩:=TN.end_ h2;exact⟨rfl,rfl⟩
theorem aG.kK{w:World}{x:aG}:TN w x.enc ([]) [.int .i64 x.agent,.int .i64 x.slot]:=by
 have h:=(show TN w [.v (.int .i64 x.agent),.v (.int .i64 x.slot)] _ _ from TN.fH rfl (TN.fH rfl (TN.done)))
 try simp only[List.append_nil]at h
 unfold aG.enc
 first|exact h|simpa only[List.append_assoc]using h
theorem aG.iT{w:World}{xs:List aG}{bs:List Nat}{A:Option Addr}{n n' c:Nat}(h:T1 w (.sl n (xs.flatMap aG.enc)) bs (.slice A n' c))(hm:xs.length=n){k:Nat}(hk:k<n):
  ∃(b off:Nat) (x:aG),A=some ⟨b,off,none⟩∧b<w.heap.size∧Hid (xs[k]? =some x)∧w.cell? ⟨b,off+k*2,none⟩=some (.int .i64 x.agent)∧w.cell? ⟨b,off+k*2+1,none⟩=some (.int .i64 x.slot):=by
 obtain⟨_,b,off,p1,p2,p3,us,hA,_,hb,hc,ht⟩:=T1.at_ aG.aT h hm hk;obtain⟨rfl,_⟩:=aG.us ht;exact⟨b,off,xs[k],hA,hb,List.getElem?_eq_getElem (hm▸hk),hc 0 _ rfl,hc 1 _ rfl⟩
theorem aG.kZ{x y:aG}(h0:x.agent=y.agent)(h1:x.slot=y.slot):x=y:=by
 cases x;cases y;simp_all
def aG.wt(_x:aG):Nat:=0
def aG.small(_x:aG):Prop:=True
structure ak where
 kind:Int
 level:Int
 value:Int
 data:(List Int)
 aH:(List aG)
def ak.enc(x:ak):List D:=[.v (.int .i64 x.kind),.v (.int .i64 x.level),.v (.int .i64 x.value),.sl x.data.length (x.data.flatMap aP),.sl x.aH.length (x.aH.flatMap aG.enc)]
theorem ak.aT(x:ak):x.enc.length=5:=rfl
theorem ak.us{w:World}{x:ak}{bs us}(h0:TN w x.enc bs us):∃(A3:Option Addr) (c3:Nat) (b3:List Nat) (A4:Option Addr) (c4:Nat) (b4:List Nat),us=[.int .i64 x.kind,.int .i64 x.level,.int .i64 x.value,.slice A3 x.data.length c3,.slice A4 x.aH.length c4]∧bs=b3++b4∧T1 w (.sl x.data.length (x.data.flatMap aP)) b3 (.slice A3 x.data.length c3)∧x.data.length≤c3∧c3≤maxLen∧T1 w (.sl x.aH.length (x.aH.flatMap aG.enc)) b4 (.slice A4 x.aH.length c4)∧x.aH.length≤c4∧c4≤maxLen:=by
 unfold ak.enc at h0;obtain⟨u0,rfl,h1⟩:=TN.dF h0;obtain⟨u1,rfl,h2⟩:=TN.dF h1;obtain⟨u2,rfl,h3⟩:=TN.dF h2;obtain⟨A3,c3,b3,r3,u3,rfl,rfl,t3,l3,m3,h4⟩:=TN.dW h3;obtain⟨A4,c4,b4,r4,u4,rfl,rfl,t4,l4,m4,h5⟩:=TN.dW h4;obtain⟨rfl,rfl⟩:=TN.end_ h5;exact⟨A3,c3,b3,A4,c4,b4,rfl,by simp,t3,l3,m3,t4,l4,m4⟩
theorem ak.kK{w:World}{x:ak}{A3 c3 b3}(t3:T1 w (.sl x.data.length (x.data.flatMap aP)) b3 (.slice A3 x.data.length c3)){A4 c4 b4}(t4:T1 w (.sl x.aH.length (x.aH.flatMap aG.enc)) b4 (.slice A4 x.aH.length c4)):TN w x.enc (b3++b4) [.int .i64 x.kind,.int .i64 x.level,.int .i64 x.value,.slice A3 x.data.length c3,.slice A4 x.aH.length c4]:=by
 have h:=(show TN w [.v (.int .i64 x.kind),.v (.int .i64 x.level),.v (.int .i64 x.value),.sl x.data.length (x.data.flatMap aP),.sl x.aH.length (x.aH.flatMap aG.enc)] _ _ from TN.fH rfl (TN.fH rfl (TN.fH rfl (TN.fI t3 (TN.fI t4 (TN.done))))))
 try simp only[List.append_nil]at h
 unfold ak.enc
 first|exact h|simpa only[List.append_assoc]using h
theorem ak.iT{w:World}{xs:List ak}{bs:List Nat}{A:Option Addr}{n n' c:Nat}(h:T1 w (.sl n (xs.flatMap ak.enc)) bs (.slice A n' c))(hm:xs.length=n){k:Nat}(hk:k<n):
  ∃(b off:Nat) (x:ak) (A3:Option Addr) (c3:Nat) (b3:List Nat) (A4:Option Addr) (c4:Nat) (b4:List Nat),A=some ⟨b,off,none⟩∧b<w.heap.size∧Hid (xs[k]? =some x)∧w.cell? ⟨b,off+k*5,none⟩=some (.int .i64 x.kind)∧w.cell? ⟨b,off+k*5+1,none⟩=some (.int .i64 x.level)∧w.cell? ⟨b,off+k*5+2,none⟩=some (.int .i64 x.value)∧w.cell? ⟨b,off+k*5+3,none⟩=some (.slice A3 x.data.length c3)∧w.cell? ⟨b,off+k*5+4,none⟩=some (.slice A4 x.aH.length c4)∧T1 w (.sl x.data.length (x.data.flatMap aP)) b3 (.slice A3 x.data.length c3)∧x.data.length≤c3∧c3≤maxLen∧T1 w (.sl x.aH.length (x.aH.flatMap aG.enc)) b4 (.slice A4 x.aH.length c4)∧x.aH.length≤c4∧c4≤maxLen:=by
 obtain⟨_,b,off,p1,p2,p3,us,hA,_,hb,hc,ht⟩:=T1.at_ ak.aT h hm hk;obtain⟨A3,c3,b3,A4,c4,b4,rfl,_,t3,l3,m3,t4,l4,m4⟩:=ak.us ht;exact⟨b,off,xs[k],A3,c3,b3,A4,c4,b4,hA,hb,List.getElem?_eq_getElem (hm▸hk),hc 0 _ rfl,hc 1 _ rfl,hc 2 _ rfl,hc 3 _ rfl,hc 4 _ rfl,t3,l3,m3,t4,l4,m4⟩
theorem ak.kZ{x y:ak}(h0:x.kind=y.kind)(h1:x.level=y.level)(h2:x.value=y.value)(h3:x.data=y.data)(h4:x.aH=y.aH):x=y:=by
 cases x;cases y;simp_all
def ak.wt(x:ak):Nat:=jw (fun _=>0) x.data+jw (fun _=>0) x.aH
def ak.small(x:ak):Prop:=(x.data.length≤1048576)∧(x.aH.length≤1048576∧∀y∈x.aH,aG.small y)
structure bV where
 agents:(List ak)
def bV.enc(x:bV):List D:=[.sl x.agents.length (x.agents.flatMap ak.enc)]
theorem bV.aT(x:bV):x.enc.length=1:=rfl
theorem bV.us{w:World}{x:bV}{bs us}(h0:TN w x.enc bs us):∃(A0:Option Addr) (c0:Nat) (b0:List Nat),us=[.slice A0 x.agents.length c0]∧bs=b0∧T1 w (.sl x.agents.length (x.agents.flatMap ak.enc)) b0 (.slice A0 x.agents.length c0)∧x.agents.length≤c0∧c0≤maxLen:=by
 unfold bV.enc at h0;obtain⟨A0,c0,b0,r0,u0,rfl,rfl,t0,l0,m0,h1⟩:=TN.dW h0;obtain⟨rfl,rfl⟩:=TN.end_ h1;exact⟨A0,c0,b0,rfl,by simp,t0,l0,m0⟩
theorem bV.kK{w:World}{x:bV}{A0 c0 b0}(t0:T1 w (.sl x.agents.length (x.agents.flatMap ak.enc)) b0 (.slice A0 x.agents.length c0)):TN w x.enc (b0) [.slice A0 x.agents.length c0]:=by
 have h:=(show TN w [.sl x.agents.length (x.agents.flatMap ak.enc)] _ _ from TN.fI t0 (TN.done))
 try simp only[List.append_nil]at h
 unfold bV.enc
 first|exact h|simpa only[List.append_assoc]using h
theorem bV.iT{w:World}{xs:List bV}{bs:List Nat}{A:Option Addr}{n n' c:Nat}(h:T1 w (.sl n (xs.flatMap bV.enc)) bs (.slice A n' c))(hm:xs.length=n){k:Nat}(hk:k<n):
  ∃(b off:Nat) (x:bV) (A0:Option Addr) (c0:Nat) (b0:List Nat),A=some ⟨b,off,none⟩∧b<w.heap.size∧Hid (xs[k]? =some x)∧w.cell? ⟨b,off+k,none⟩=some (.slice A0 x.agents.length c0)∧T1 w (.sl x.agents.length (x.agents.flatMap ak.enc)) b0 (.slice A0 x.agents.length c0)∧x.agents.length≤c0∧c0≤maxLen:=by
 obtain⟨_,b,off,p1,p2,p3,us,hA,_,hb,hc,ht⟩:=T1.at_ bV.aT h hm hk;obtain⟨A0,c0,b0,rfl,_,t0,l0,m0⟩:=bV.us ht;exact⟨b,off,xs[k],A0,c0,b0,hA,hb,List.getElem?_eq_getElem (hm▸hk),by simpa using hc 0 _ rfl,t0,l0,m0⟩
theorem bV.kZ{x y:bV}(h0:x.agents=y.agents):x=y:=by
 cases x;cases y;simp_all
def bV.wt(x:bV):Nat:=jw ak.wt x.agents
def bV.small(x:bV):Prop:=(x.agents.length≤1048576∧∀y∈x.agents,ak.small y)
structure aW where
 step:Int
 def_:Int
 source:Int
def aW.enc(x:aW):List D:=[.v (.int .i64 x.step),.v (.int .i64 x.def_),.v (.int .i64 x.source)]
theorem aW.aT(x:aW):x.enc.length=3:=rfl
theorem aW.us{w:World}{x:aW}{bs us}(h0:TN w x.enc bs us):us=[.int .i64 x.step,.int .i64 x.def_,.int .i64 x.source]∧bs=[]:=by
 unfold aW.enc at h0;obtain⟨u0,rfl,h1⟩:=TN.dF h0;obtain⟨u1,rfl,h2⟩:=TN.dF h1;obtain⟨u2,rfl,h3⟩:=TN.dF h2;obtain⟨rfl,rfl⟩:=TN.end_ h3;exact⟨rfl,rfl⟩
theorem aW.kK{w:World}{x:aW}:TN w x.enc ([]) [.int .i64 x.step,.int .i64 x.def_,.int .i64 x.source]:=by
 have h:=(show TN w [.v (.int .i64 x.step),.v (.int .i64 x.def_),.v (.int .i64 x.source)] _ _ from TN.fH rfl (TN.fH rfl (TN.fH rfl (TN.done))))
 try simp only[List.append_nil]at h
 unfold aW.enc
 first|exact h|simpa only[List.append_assoc]using h
theorem aW.iT{w:World}{xs:List aW}{bs:List Nat}{A:Option Addr}{n n' c:Nat}(h:T1 w (.sl n (xs.flatMap aW.enc)) bs (.slice A n' c))(hm:xs.length=n){k:Nat}(hk:k<n):
  ∃(b off:Nat) (x:aW),A=some ⟨b,off,none⟩∧b<w.heap.size∧Hid (xs[k]? =some x)∧w.cell? ⟨b,off+k*3,none⟩=some (.int .i64 x.step)∧w.cell? ⟨b,off+k*3+1,none⟩=some (.int .i64 x.def_)∧w.cell? ⟨b,off+k*3+2,none⟩=some (.int .i64 x.source):=by
 obtain⟨_,b,off,p1,p2,p3,us,hA,_,hb,hc,ht⟩:=T1.at_ aW.aT h hm hk;obtain⟨rfl,_⟩:=aW.us ht;exact⟨b,off,xs[k],hA,hb,List.getElem?_eq_getElem (hm▸hk),hc 0 _ rfl,hc 1 _ rfl,hc 2 _ rfl⟩
theorem aW.kZ{x y:aW}(h0:x.step=y.step)(h1:x.def_=y.def_)(h2:x.source=y.source):x=y:=by
 cases x;cases y;simp_all
def aW.wt(_x:aW):Nat:=0
def aW.small(_x:aW):Prop:=True
structure bO where
 kind:Int
 value:Int
def bO.enc(x:bO):List D:=[.v (.int .i64 x.kind),.v (.int .i64 x.value)]
theorem bO.aT(x:bO):x.enc.length=2:=rfl
theorem bO.us{w:World}{x:bO}{bs us}(h0:TN w x.enc bs us):us=[.int .i64 x.kind,.int .i64 x.value]∧bs=[]:=by
 unfold bO.enc at h0;obtain⟨u0,rfl,h1⟩:=TN.dF h0;obtain⟨u1,rfl,h2⟩:=TN.dF h1;obtain⟨rfl,rfl⟩:=TN.end_ h2;exact⟨rfl,rfl⟩
theorem bO.kK{w:World}{x:bO}:TN w x.enc ([]) [.int .i64 x.kind,.int .i64 x.value]:=by
 have h:=(show TN w [.v (.int .i64 x.kind),.v (.int .i64 x.value)] _ _ from TN.fH rfl (TN.fH rfl (TN.done)))
 try simp only[List.append_nil]at h
 unfold bO.enc
 first|exact h|simpa only[List.append_assoc]using h
theorem bO.iT{w:World}{xs:List bO}{bs:List Nat}{A:Option Addr}{n n' c:Nat}(h:T1 w (.sl n (xs.flatMap bO.enc)) bs (.slice A n' c))(hm:xs.length=n){k:Nat}(hk:k<n):
  ∃(b off:Nat) (x:bO),A=some ⟨b,off,none⟩∧b<w.heap.size∧Hid (xs[k]? =some x)∧w.cell? ⟨b,off+k*2,none⟩=some (.int .i64 x.kind)∧w.cell? ⟨b,off+k*2+1,none⟩=some (.int .i64 x.value):=by
 obtain⟨_,b,off,p1,p2,p3,us,hA,_,hb,hc,ht⟩:=T1.at_ bO.aT h hm hk;obtain⟨rfl,_⟩:=bO.us ht;exact⟨b,off,xs[k],hA,hb,List.getElem?_eq_getElem (hm▸hk),hc 0 _ rfl,hc 1 _ rfl⟩
theorem bO.kZ{x y:bO}(h0:x.kind=y.kind)(h1:x.value=y.value):x=y:=by
 cases x;cases y;simp_all
def bO.wt(_x:bO):Nat:=0
def bO.small(_x:bO):Prop:=True
structure aB where
 at_:Int
 net:bV
 origins:(List aW)
def aB.enc(x:aB):List D:=[.v (.int .i64 x.at_),.sl x.net.agents.length (x.net.agents.flatMap ak.enc),.sl x.origins.length (x.origins.flatMap aW.enc)]
theorem aB.aT(x:aB):x.enc.length=3:=rfl
theorem aB.us{w:World}{x:aB}{bs us}(h0:TN w x.enc bs us):∃(A1:Option Addr) (c1:Nat) (b1:List Nat) (A2:Option Addr) (c2:Nat) (b2:List Nat),us=[.int .i64 x.at_,.slice A1 x.net.agents.length c1,.slice A2 x.origins.length c2]∧bs=b1++b2∧T1 w (.sl x.net.agents.length (x.net.agents.flatMap ak.enc)) b1 (.slice A1 x.net.agents.length c1)∧x.net.agents.length≤c1∧c1≤maxLen∧T1 w (.sl x.origins.length (x.origins.flatMap aW.enc)) b2 (.slice A2 x.origins.length c2)∧x.origins.length≤c2∧c2≤maxLen:=by
 unfold aB.enc at h0;obtain⟨u0,rfl,h1⟩:=TN.dF h0;obtain⟨A1,c1,b1,r1,u1,rfl,rfl,t1,l1,m1,h2⟩:=TN.dW h1;obtain⟨A2,c2,b2,r2,u2,rfl,rfl,t2,l2,m2,h3⟩:=TN.dW h2;obtain⟨rfl,rfl⟩:=TN.end_ h3;exact⟨A1,c1,b1,A2,c2,b2,rfl,by simp,t1,l1,m1,t2,l2,m2⟩
theorem aB.kK{w:World}{x:aB}{A1 c1 b1}(t1:T1 w (.sl x.net.agents.length (x.net.agents.flatMap ak.enc)) b1 (.slice A1 x.net.agents.length c1)){A2 c2 b2}(t2:T1 w (.sl x.origins.length (x.origins.flatMap aW.enc)) b2 (.slice A2 x.origins.length c2)):TN w x.enc (b1++b2) [.int .i64 x.at_,.slice A1 x.net.agents.length c1,.slice A2 x.origins.length c2]:=by
 have h:=(show TN w [.v (.int .i64 x.at_),.sl x.net.agents.length (x.net.agents.flatMap ak.enc),.sl x.origins.length (x.origins.flatMap aW.enc)] _ _ from TN.fH rfl (TN.fI t1 (TN.fI t2 (TN.done))))
 try simp only[List.append_nil]at h
 unfold aB.enc
 first|exact h|simpa only[List.append_assoc]using h
theorem aB.iT{w:World}{xs:List aB}{bs:List Nat}{A:Option Addr}{n n' c:Nat}(h:T1 w (.sl n (xs.flatMap aB.enc)) bs (.slice A n' c))(hm:xs.length=n){k:Nat}(hk:k<n):
  ∃(b off:Nat) (x:aB) (A1:Option Addr) (c1:Nat) (b1:List Nat) (A2:Option Addr) (c2:Nat) (b2:List Nat),A=some ⟨b,off,none⟩∧b<w.heap.size∧Hid (xs[k]? =some x)∧w.cell? ⟨b,off+k*3,none⟩=some (.int .i64 x.at_)∧w.cell? ⟨b,off+k*3+1,none⟩=some (.slice A1 x.net.agents.length c1)∧w.cell? ⟨b,off+k*3+2,none⟩=some (.slice A2 x.origins.length c2)∧T1 w (.sl x.net.agents.length (x.net.agents.flatMap ak.enc)) b1 (.slice A1 x.net.agents.length c1)∧x.net.agents.length≤c1∧c1≤maxLen∧T1 w (.sl x.origins.length (x.origins.flatMap aW.enc)) b2 (.slice A2 x.origins.length c2)∧x.origins.length≤c2∧c2≤maxLen:=by
 obtain⟨_,b,off,p1,p2,p3,us,hA,_,hb,hc,ht⟩:=T1.at_ aB.aT h hm hk;obtain⟨A1,c1,b1,A2,c2,b2,rfl,_,t1,l1,m1,t2,l2,m2⟩:=aB.us ht;exact⟨b,off,xs[k],A1,c1,b1,A2,c2,b2,hA,hb,List.getElem?_eq_getElem (hm▸hk),hc 0 _ rfl,hc 1 _ rfl,hc 2 _ rfl,t1,l1,m1,t2,l2,m2⟩
theorem aB.kZ{x y:aB}(h0:x.at_=y.at_)(h1:x.net=y.net)(h2:x.origins=y.origins):x=y:=by
 cases x;cases y;simp_all
def aB.wt(x:aB):Nat:=x.net.wt+jw (fun _=>0) x.origins
def aB.small(x:aB):Prop:=(x.net.small)∧(x.origins.length≤1048576∧∀y∈x.origins,aW.small y)
structure bB where
 book:(List bV)
 schedule:(List Int)
 every:Int
 at_:Int
 net:bV
 origins:(List aW)
 breaks:(List bO)
 points:(List aB)
def bB.enc(x:bB):List D:=[.sl x.book.length (x.book.flatMap bV.enc),.sl x.schedule.length (x.schedule.flatMap aP),.v (.int .i64 x.every),.v (.int .i64 x.at_),.sl x.net.agents.length (x.net.agents.flatMap ak.enc),.sl x.origins.length (x.origins.flatMap aW.enc),.sl x.breaks.length (x.breaks.flatMap bO.enc),.sl x.points.length (x.points.flatMap aB.enc)]
theorem bB.aT(x:bB):x.enc.length=8:=rfl
theorem bB.us{w:World}{x:bB}{bs us}(h0:TN w x.enc bs us):∃(A0:Option Addr) (c0:Nat) (b0:List Nat) (A1:Option Addr) (c1:Nat) (b1:List Nat) (A4:Option Addr) (c4:Nat) (b4:List Nat) (A5:Option Addr) (c5:Nat) (b5:List Nat) (A6:Option Addr) (c6:Nat) (b6:List Nat) (A7:Option Addr) (c7:Nat) (b7:List Nat),us=[.slice A0 x.book.length c0,.slice A1 x.schedule.length c1,.int .i64 x.every,.int .i64 x.at_,.slice A4 x.net.agents.length c4,.slice A5 x.origins.length c5,.slice A6 x.breaks.length c6,.slice A7 x.points.length c7]∧bs=b0++b1++b4++b5++b6++b7∧T1 w (.sl x.book.length (x.book.flatMap bV.enc)) b0 (.slice A0 x.book.length c0)∧x.book.length≤c0∧c0≤maxLen∧T1 w (.sl x.schedule.length (x.schedule.flatMap aP)) b1 (.slice A1 x.schedule.length c1)∧x.schedule.length≤c1∧c1≤maxLen∧T1 w (.sl x.net.agents.length (x.net.agents.flatMap ak.enc)) b4 (.slice A4 x.net.agents.length c4)∧x.net.agents.length≤c4∧c4≤maxLen∧T1 w (.sl x.origins.length (x.origins.flatMap aW.enc)) b5 (.slice A5 x.origins.length c5)∧x.origins.length≤c5∧c5≤maxLen∧T1 w (.sl x.breaks.length (x.breaks.flatMap bO.enc)) b6 (.slice A6 x.breaks.length c6)∧x.breaks.length≤c6∧c6≤maxLen∧T1 w (.sl x.points.length (x.points.flatMap aB.enc)) b7 (.slice A7 x.points.length c7)∧x.points.length≤c7∧c7≤maxLen:=by
 unfold bB.enc at h0;obtain⟨A0,c0,b0,r0,u0,rfl,rfl,t0,l0,m0,h1⟩:=TN.dW h0;obtain⟨A1,c1,b1,r1,u1,rfl,rfl,t1,l1,m1,h2⟩:=TN.dW h1;obtain⟨u2,rfl,h3⟩:=TN.dF h2;obtain⟨u3,rfl,h4⟩:=TN.dF h3;obtain⟨A4,c4,b4,r4,u4,rfl,rfl,t4,l4,m4,h5⟩:=TN.dW h4;obtain⟨A5,c5,b5,r5,u5,rfl,rfl,t5,l5,m5,h6⟩:=TN.dW h5;obtain⟨A6,c6,b6,r6,u6,rfl,rfl,t6,l6,m6,h7⟩:=TN.dW h6;obtain⟨A7,c7,b7,r7,u7,rfl,rfl,t7,l7,m7,h8⟩:=TN.dW h7;obtain⟨rfl,rfl⟩:=TN.end_ h8;exact⟨A0,c0,b0,A1,c1,b1,A4,c4,b4,A5,c5,b5,A6,c6,b6,A7,c7,b7,rfl,by simp,t0,l0,m0,t1,l1,m1,t4,l4,m4,t5,l5,m5,t6,l6,m6,t7,l7,m7⟩
theorem bB.kK{w:World}{x:bB}{A0 c0 b0}(t0:T1 w (.sl x.book.length (x.book.flatMap bV.enc)) b0 (.slice A0 x.book.length c0)){A1 c1 b1}(t1:T1 w (.sl x.schedule.length (x.schedule.flatMap aP)) b1 (.slice A1 x.schedule.length c1)){A4 c4 b4}(t4:T1 w (.sl x.net.agents.length (x.net.agents.flatMap ak.enc)) b4 (.slice A4 x.net.agents.length c4)){A5 c5 b5}(t5:T1 w (.sl x.origins.length (x.origins.flatMap aW.enc)) b5 (.slice A5 x.origins.length c5)){A6 c6 b6}(t6:T1 w (.sl x.breaks.length (x.breaks.flatMap bO.enc)) b6 (.slice A6 x.breaks.length c6)){A7 c7 b7}(t7:T1 w (.sl x.points.length (x.points.flatMap aB.enc)) b7 (.slice A7 x.points.length c7)):TN w x.enc (b0++b1++b4++b5++b6++b7) [.slice A0 x.book.length c0,.slice A1 x.schedule.length c1,.int .i64 x.every,.int .i64 x.at_,.slice A4 x.net.agents.length c4,.slice A5 x.origins.length c5,.slice A6 x.breaks.length c6,.slice A7 x.points.length c7]:=by
 have h:=(show TN w [.sl x.book.length (x.book.flatMap bV.enc),.sl x.schedule.length (x.schedule.flatMap aP),.v (.int .i64 x.every),.v (.int .i64 x.at_),.sl x.net.agents.length (x.net.agents.flatMap ak.enc),.sl x.origins.length (x.origins.flatMap aW.enc),.sl x.breaks.length (x.breaks.flatMap bO.enc),.sl x.points.length (x.points.flatMap aB.enc)] _ _ from TN.fI t0 (TN.fI t1 (TN.fH rfl (TN.fH rfl (TN.fI t4 (TN.fI t5 (TN.fI t6 (TN.fI t7 (TN.done)))))))))
 try simp only[List.append_nil]at h
 unfold bB.enc
 first|exact h|simpa only[List.append_assoc]using h
theorem bB.iT{w:World}{xs:List bB}{bs:List Nat}{A:Option Addr}{n n' c:Nat}(h:T1 w (.sl n (xs.flatMap bB.enc)) bs (.slice A n' c))(hm:xs.length=n){k:Nat}(hk:k<n):
  ∃(b off:Nat) (x:bB) (A0:Option Addr) (c0:Nat) (b0:List Nat) (A1:Option Addr) (c1:Nat) (b1:List Nat) (A4:Option Addr) (c4:Nat) (b4:List Nat) (A5:Option Addr) (c5:Nat) (b5:List Nat) (A6:Option Addr) (c6:Nat) (b6:List Nat) (A7:Option Addr) (c7:Nat) (b7:List Nat),A=some ⟨b,off,none⟩∧b<w.heap.size∧Hid (xs[k]? =some x)∧w.cell? ⟨b,off+k*8,none⟩=some (.slice A0 x.book.length c0)∧w.cell? ⟨b,off+k*8+1,none⟩=some (.slice A1 x.schedule.length c1)∧w.cell? ⟨b,off+k*8+2,none⟩=some (.int .i64 x.every)∧w.cell? ⟨b,off+k*8+3,none⟩=some (.int .i64 x.at_)∧w.cell? ⟨b,off+k*8+4,none⟩=some (.slice A4 x.net.agents.length c4)∧w.cell? ⟨b,off+k*8+5,none⟩=some (.slice A5 x.origins.length c5)∧w.cell? ⟨b,off+k*8+6,none⟩=some (.slice A6 x.breaks.length c6)∧w.cell? ⟨b,off+k*8+7,none⟩=some (.slice A7 x.points.length c7)∧T1 w (.sl x.book.length (x.book.flatMap bV.enc)) b0 (.slice A0 x.book.length c0)∧x.book.length≤c0∧c0≤maxLen∧T1 w (.sl x.schedule.length (x.schedule.flatMap aP)) b1 (.slice A1 x.schedule.length c1)∧x.schedule.length≤c1∧c1≤maxLen∧T1 w (.sl x.net.agents.length (x.net.agents.flatMap ak.enc)) b4 (.slice A4 x.net.agents.length c4)∧x.net.agents.length≤c4∧c4≤maxLen∧T1 w (.sl x.origins.length (x.origins.flatMap aW.enc)) b5 (.slice A5 x.origins.length c5)∧x.origins.length≤c5∧c5≤maxLen∧T1 w (.sl x.breaks.length (x.breaks.flatMap bO.enc)) b6 (.slice A6 x.breaks.length c6)∧x.breaks.length≤c6∧c6≤maxLen∧T1 w (.sl x.points.length (x.points.flatMap aB.enc)) b7 (.slice A7 x.points.length c7)∧x.points.length≤c7∧c7≤maxLen:=by
 obtain⟨_,b,off,p1,p2,p3,us,hA,_,hb,hc,ht⟩:=T1.at_ bB.aT h hm hk;obtain⟨A0,c0,b0,A1,c1,b1,A4,c4,b4,A5,c5,b5,A6,c6,b6,A7,c7,b7,rfl,_,t0,l0,m0,t1,l1,m1,t4,l4,m4,t5,l5,m5,t6,l6,m6,t7,l7,m7⟩:=bB.us ht;exact⟨b,off,xs[k],A0,c0,b0,A1,c1,b1,A4,c4,b4,A5,c5,b5,A6,c6,b6,A7,c7,b7,hA,hb,List.getElem?_eq_getElem (hm▸hk),hc 0 _ rfl,hc 1 _ rfl,hc 2 _ rfl,hc 3 _ rfl,hc 4 _ rfl,hc 5 _ rfl,hc 6 _ rfl,hc 7 _ rfl,t0,l0,m0,t1,l1,m1,t4,l4,m4,t5,l5,m5,t6,l6,m6,t7,l7,m7⟩
theorem bB.kZ{x y:bB}(h0:x.book=y.book)(h1:x.schedule=y.schedule)(h2:x.every=y.every)(h3:x.at_=y.at_)(h4:x.net=y.net)(h5:x.origins=y.origins)(h6:x.breaks=y.breaks)(h7:x.points=y.points):x=y:=by
 cases x;cases y;simp_all
def bB.wt(x:bB):Nat:=jw bV.wt x.book+jw (fun _=>0) x.schedule+x.net.wt+jw (fun _=>0) x.origins+jw (fun _=>0) x.breaks+jw aB.wt x.points
def bB.small(x:bB):Prop:=(x.book.length≤1048576∧∀y∈x.book,bV.small y)∧(x.schedule.length≤1048576)∧(x.net.small)∧(x.origins.length≤1048576∧∀y∈x.origins,aW.small y)∧(x.breaks.length≤1048576∧∀y∈x.breaks,bO.small y)∧(x.points.length≤1048576∧∀y∈x.points,aB.small y)
theorem aG.pt{w:World}{x:aG}{b o bs}(h:iD w b o x.enc bs):Kn w b (o) (.int .i64 x.agent)∧Kn w b (o+1) (.int .i64 x.slot):=by
 obtain⟨hlt,us,hc,ht⟩:=h;obtain⟨rfl,rfl⟩:=aG.us ht;exact⟨hc.always hlt 0 _ rfl,hc.always hlt 1 _ rfl⟩
theorem ak.pt{w:World}{x:ak}{b o bs}(h:iD w b o x.enc bs):∃(A3:Option Addr) (c3:Nat) (b3:List Nat) (A4:Option Addr) (c4:Nat) (b4:List Nat),Kn w b (o) (.int .i64 x.kind)∧Kn w b (o+1) (.int .i64 x.level)∧Kn w b (o+2) (.int .i64 x.value)∧Kn w b (o+3) (.slice A3 x.data.length c3)∧Kn w b (o+4) (.slice A4 x.aH.length c4)∧T1 w (.sl x.data.length (x.data.flatMap aP)) b3 (.slice A3 x.data.length c3)∧T1 w (.sl x.aH.length (x.aH.flatMap aG.enc)) b4 (.slice A4 x.aH.length c4):=by
 obtain⟨hlt,us,hc,ht⟩:=h;obtain⟨A3,c3,b3,A4,c4,b4,rfl,rfl,t3,l3,m3,t4,l4,m4⟩:=ak.us ht;exact⟨_,_,_,_,_,_,hc.always hlt 0 _ rfl,hc.always hlt 1 _ rfl,hc.always hlt 2 _ rfl,hc.always hlt 3 _ rfl,hc.always hlt 4 _ rfl,t3,t4⟩
theorem bV.pt{w:World}{x:bV}{b o bs}(h:iD w b o x.enc bs):∃(A0:Option Addr) (c0:Nat) (b0:List Nat),Kn w b (o) (.slice A0 x.agents.length c0)∧T1 w (.sl x.agents.length (x.agents.flatMap ak.enc)) b0 (.slice A0 x.agents.length c0):=by
 obtain⟨hlt,us,hc,ht⟩:=h;obtain⟨A0,c0,b0,rfl,rfl,t0,l0,m0⟩:=bV.us ht;exact⟨_,_,_,hc.always hlt 0 _ rfl,t0⟩
theorem aW.pt{w:World}{x:aW}{b o bs}(h:iD w b o x.enc bs):Kn w b (o) (.int .i64 x.step)∧Kn w b (o+1) (.int .i64 x.def_)∧Kn w b (o+2) (.int .i64 x.source):=by
 obtain⟨hlt,us,hc,ht⟩:=h;obtain⟨rfl,rfl⟩:=aW.us ht;exact⟨hc.always hlt 0 _ rfl,hc.always hlt 1 _ rfl,hc.always hlt 2 _ rfl⟩
theorem bO.pt{w:World}{x:bO}{b o bs}(h:iD w b o x.enc bs):Kn w b (o) (.int .i64 x.kind)∧Kn w b (o+1) (.int .i64 x.value):=by
 obtain⟨hlt,us,hc,ht⟩:=h;obtain⟨rfl,rfl⟩:=bO.us ht;exact⟨hc.always hlt 0 _ rfl,hc.always hlt 1 _ rfl⟩
theorem aB.pt{w:World}{x:aB}{b o bs}(h:iD w b o x.enc bs):∃(A1:Option Addr) (c1:Nat) (b1:List Nat) (A2:Option Addr) (c2:Nat) (b2:List Nat),Kn w b (o) (.int .i64 x.at_)∧Kn w b (o+1) (.slice A1 x.net.agents.length c1)∧Kn w b (o+2) (.slice A2 x.origins.length c2)∧T1 w (.sl x.net.agents.length (x.net.agents.flatMap ak.enc)) b1 (.slice A1 x.net.agents.length c1)∧T1 w (.sl x.origins.length (x.origins.flatMap aW.enc)) b2 (.slice A2 x.origins.length c2):=by
 obtain⟨hlt,us,hc,ht⟩:=h;obtain⟨A1,c1,b1,A2,c2,b2,rfl,rfl,t1,l1,m1,t2,l2,m2⟩:=aB.us ht;exact⟨_,_,_,_,_,_,hc.always hlt 0 _ rfl,hc.always hlt 1 _ rfl,hc.always hlt 2 _ rfl,t1,t2⟩
theorem bB.pt{w:World}{x:bB}{b o bs}(h:iD w b o x.enc bs):∃(A0:Option Addr) (c0:Nat) (b0:List Nat) (A1:Option Addr) (c1:Nat) (b1:List Nat) (A4:Option Addr) (c4:Nat) (b4:List Nat) (A5:Option Addr) (c5:Nat) (b5:List Nat) (A6:Option Addr) (c6:Nat) (b6:List Nat) (A7:Option Addr) (c7:Nat) (b7:List Nat),Kn w b (o) (.slice A0 x.book.length c0)∧Kn w b (o+1) (.slice A1 x.schedule.length c1)∧Kn w b (o+2) (.int .i64 x.every)∧Kn w b (o+3) (.int .i64 x.at_)∧Kn w b (o+4) (.slice A4 x.net.agents.length c4)∧Kn w b (o+5) (.slice A5 x.origins.length c5)∧Kn w b (o+6) (.slice A6 x.breaks.length c6)∧Kn w b (o+7) (.slice A7 x.points.length c7)∧T1 w (.sl x.book.length (x.book.flatMap bV.enc)) b0 (.slice A0 x.book.length c0)∧T1 w (.sl x.schedule.length (x.schedule.flatMap aP)) b1 (.slice A1 x.schedule.length c1)∧T1 w (.sl x.net.agents.length (x.net.agents.flatMap ak.enc)) b4 (.slice A4 x.net.agents.length c4)∧T1 w (.sl x.origins.length (x.origins.flatMap aW.enc)) b5 (.slice A5 x.origins.length c5)∧T1 w (.sl x.breaks.length (x.breaks.flatMap bO.enc)) b6 (.slice A6 x.breaks.length c6)∧T1 w (.sl x.points.length (x.points.flatMap aB.enc)) b7 (.slice A7 x.points.length c7):=by
 obtain⟨hlt,us,hc,ht⟩:=h;obtain⟨A0,c0,b0,A1,c1,b1,A4,c4,b4,A5,c5,b5,A6,c6,b6,A7,c7,b7,rfl,rfl,t0,l0,m0,t1,l1,m1,t4,l4,m4,t5,l5,m5,t6,l6,m6,t7,l7,m7⟩:=bB.us ht;exact⟨_,_,_,_,_,_,_,_,_,_,_,_,_,_,_,_,_,_,hc.always hlt 0 _ rfl,hc.always hlt 1 _ rfl,hc.always hlt 2 _ rfl,hc.always hlt 3 _ rfl,hc.always hlt 4 _ rfl,hc.always hlt 5 _ rfl,hc.always hlt 6 _ rfl,hc.always hlt 7 _ rfl,t0,t1,t4,t5,t6,t7⟩
end Go.Tr
namespace Go.Tr
def aG.cells(p:aG):List Value:=[.int .i64 p.agent,.int .i64 p.slot]
end Go.Tr
namespace Go.Tr
open Go Go.RowKit
theorem _root_.Go.Calls.q{P:Program}{f:FuncId}{args:Array Value}{W:World}{v:Value}(h:Calls P f args W fun e w'=>e=.returned v∧W=w'):Calls P f args W fun e w'=>e=.returned v∧Ext W w':=
 h.mono fun _ _ ⟨a,b⟩=>⟨a,b▸Below.refl _ _⟩
def gy(k p:Int):Int:=if k==9 then p-1 else 0
def fieldsOf(a:ak):Int:=gy a.kind a.aH.length
def jc(n:Int):Bool:=bJ n 0 23
def qD(n:Int):Bool:=bJ n (-2147483648) 2147483647
def jK(n:Int):Bool:=bJ n 1 6
def gD(l:List Int)(k:Nat):Int:=l.getD k 0
theorem Ii{l:List Int}{k:Nat}{x:Int}(h:Hid (l[k]? =some x)):gD l k=x:=by unfold gD;rw[List.getD_eq_getElem?_getD,h.out];rfl
def jH(l:List Int):Bool:=dM l.length fun k=>jc (gD l k)
def mo(a:ak):Bool:=
 if a.kind==6 then((a.data.length:Int)==0)&&qD a.value
 else if a.kind==7 then((a.data.length:Int)==0)&&jK a.value
 else if a.kind==8 then((a.data.length:Int)==1)&&jK a.value&&qD (gD a.data 0)
 else if a.kind==9 then((a.data.length:Int)==0)&&bJ a.value 0 3
 else if a.kind==12 then((a.data.length:Int)==0)&&jc a.value
 else if a.kind==10 then a.value==0&&bJ a.data.length 1 4&&jH a.data
 else if a.kind==11 then a.value==0&&((a.data.length:Int)==2)&&jH a.data
 else a.value==0&&((a.data.length:Int)==0)
def dz(a:ak):Bool:=decide (0<dw a.kind (fieldsOf a))&&(a.aH.length:Int)==dw a.kind (fieldsOf a)&&iZ a.kind a.level&&mo a
end Go.Tr
