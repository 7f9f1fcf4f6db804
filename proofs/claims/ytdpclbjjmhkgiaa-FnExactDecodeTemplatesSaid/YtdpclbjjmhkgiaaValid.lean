
/- Plain arithmetic: 32-bit wraps, the operators of the language, bounds as Bools. No program in it. -/
import Derived.Test.YtdpclbjjmhkgiaaSc
set_option linter.unusedSimpArgs false
set_option linter.unusedVariables false
namespace Go.Tr
open Go Go.RowKit
def iy(n lo hi:Int):Bool:=decide (lo≤n)&&decide (n≤hi)
theorem jl{n lo hi:Int}(h:iy n lo hi=true):lo≤n∧n≤hi:=by simpa[iy]using h
theorem WW{n lo hi:Int}(h:iy n lo hi=false):n<lo∨hi<n:=by
 simp only[iy,Bool.and_eq_false_iff,decide_eq_false_iff_not]at h;omega
theorem sJ{n lo hi:Int}(h1:lo≤n)(h2:n≤hi):iy n lo hi=true:=by simp[iy,h1,h2]
theorem AQ{n lo hi:Int}(h:n<lo∨hi<n):iy n lo hi=false:=by
 simp only[iy,Bool.and_eq_false_iff,decide_eq_false_iff_not];omega
def kV(k:Int):Bool:=iy k 1 12
def aG(k:Int):Bool:=kV k&&k !=1&&k !=5&&k !=6
def Ez(n:Int):Bool:=iy n 0 8
def fF(k l:Int):Bool:=kV k&&(l==0||(aG k&&Ez l))
def SI(k:Int):Bool:=k==3||k==7||k==8||k==10||k==11
def Yn(t k l:Int):Bool:=Ez t&&fF k l&&(k==6||k==12||(aG k&&decide (t<l)))
def rule(ka la kb lb:Int):Int:=
 if ka=5 then 4
 else if ka=4 then(if kb==4&&la==lb then 2 else if Yn la kb lb then 3 else 0)
 else if ka=2 then(if kb==3&&la==lb then 1 else 0)
 else if ka=6 then(if kb==7||kb==8 then 5 else if kb==11 then 6 else 0)
 else if ka=9 then(if kb==10 then 6 else 0)
 else if ka=12 then(if SI kb then 7 else 0)
 else 0
def Xj(ka la kb lb:Int):Bool:=fF ka la&&fF kb lb&&ka !=1&&kb !=1
def Db(ka la kb lb:Int):Int:=if Xj ka la kb lb then(if rule ka la kb lb=0 then(if rule kb lb ka la=0 then 0 else 2)else 1)else 0
def aL(k f:Int):Int:=
 if k=9 then(if iy f 0 3 then f+1 else 0)else if f=0 then
  (if k=1∨k=5∨k=6∨k=12 then 1 else if k=8∨k=10∨k=11 then 2 else if k=2∨k=3∨k=4∨k=7 then 3 else 0)else 0
theorem Jf{k:Int}(h:kV k=true):k=1∨k=2∨k=3∨k=4∨k=5∨k=6∨k=7∨k=8∨k=9∨k=10∨k=11∨k=12:=by
 have:=jl h;omega
theorem yt{k:Int}(h:kV k=false):aG k=false:=by simp[aG,h]
structure aF where
 agent:Int
 slot:Int
def aF.enc(x:aF):List D:=[.v (.int .i64 x.agent),.v (.int .i64 x.slot)]
theorem aF.aZ(x:aF):x.enc.length=2:=rfl
theorem aF.us{w:World}{x:aF}{bs us}(h0:TN w x.enc bs us):us=[.int .i64 x.agent,.int .i64 x.slot]∧bs=[]:=by
 unfold aF.enc at h0;obtain⟨u0,rfl,h1⟩:=TN.jX h0;obtain⟨u1,rfl,h2⟩:=TN.jX h1;obtain⟨rfl,rfl⟩:=TN.end_ h2;exact⟨rfl,rfl⟩
theorem aF.GU{w:World}{x:aF}:TN w x.enc ([]) [.int .i64 x.agent,.int .i64 x.slot]:=by
 have h:=(show TN w [.v (.int .i64 x.agent),.v (.int .i64 x.slot)] _ _ from TN.qz rfl (TN.qz rfl (TN.done)))
 try simp only[List.append_nil]at h
 unfold aF.enc
 first|exact h|simpa only[List.append_assoc]using h
theorem aF.zw{w:World}{xs:List aF}{bs:List Nat}{A:Option Addr}{n n' c:Nat}(h:T1 w (.sl n (xs.flatMap aF.enc)) bs (.slice A n' c))(hm:xs.length=n){k:Nat}(hk:k<n):
  ∃(b off:Nat) (x:aF),A=some ⟨b,off,none⟩∧b<w.heap.size∧Hid (xs[k]? =some x)∧w.cell? ⟨b,off+k*2,none⟩=some (.int .i64 x.agent)∧w.cell? ⟨b,off+k*2+1,none⟩=some (.int .i64 x.slot):=by
 obtain⟨_,b,off,p1,p2,p3,us,hA,_,hb,hc,ht⟩:=T1.at_ aF.aZ h hm hk;obtain⟨rfl,_⟩:=aF.us ht;exact⟨b,off,xs[k],hA,hb,List.getElem?_eq_getElem (hm▸hk),hc 0 _ rfl,hc 1 _ rfl⟩
theorem aF.DV{x y:aF}(h0:x.agent=y.agent)(h1:x.slot=y.slot):x=y:=by
 cases x;cases y;simp_all
def aF.small(_x:aF):Prop:=True
structure au where
 kind:Int
 level:Int
 value:Int
 data:(List Int)
 aH:(List aF)
def au.enc(x:au):List D:=[.v (.int .i64 x.kind),.v (.int .i64 x.level),.v (.int .i64 x.value),.sl x.data.length (x.data.flatMap bL),.sl x.aH.length (x.aH.flatMap aF.enc)]
theorem au.aZ(x:au):x.enc.length=5:=rfl
theorem au.us{w:World}{x:au}{bs us}(h0:TN w x.enc bs us):∃(A3:Option Addr) (c3:Nat) (b3:List Nat) (A4:Option Addr) (c4:Nat) (b4:List Nat),us=[.int .i64 x.kind,.int .i64 x.level,.int .i64 x.value,.slice A3 x.data.length c3,.slice A4 x.aH.length c4]∧bs=b3++b4∧T1 w (.sl x.data.length (x.data.flatMap bL)) b3 (.slice A3 x.data.length c3)∧x.data.length≤c3∧c3≤maxLen∧T1 w (.sl x.aH.length (x.aH.flatMap aF.enc)) b4 (.slice A4 x.aH.length c4)∧x.aH.length≤c4∧c4≤maxLen:=by
 unfold au.enc at h0;obtain⟨u0,rfl,h1⟩:=TN.jX h0;obtain⟨u1,rfl,h2⟩:=TN.jX h1;obtain⟨u2,rfl,h3⟩:=TN.jX h2;obtain⟨A3,c3,b3,r3,u3,rfl,rfl,t3,l3,m3,h4⟩:=TN.jD h3;obtain⟨A4,c4,b4,r4,u4,rfl,rfl,t4,l4,m4,h5⟩:=TN.jD h4;obtain⟨rfl,rfl⟩:=TN.end_ h5;exact⟨A3,c3,b3,A4,c4,b4,rfl,by simp,t3,l3,m3,t4,l4,m4⟩
theorem au.GU{w:World}{x:au}{A3 c3 b3}(t3:T1 w (.sl x.data.length (x.data.flatMap bL)) b3 (.slice A3 x.data.length c3)){A4 c4 b4}(t4:T1 w (.sl x.aH.length (x.aH.flatMap aF.enc)) b4 (.slice A4 x.aH.length c4)):TN w x.enc (b3++b4) [.int .i64 x.kind,.int .i64 x.level,.int .i64 x.value,.slice A3 x.data.length c3,.slice A4 x.aH.length c4]:=by
 have h:=(show TN w [.v (.int .i64 x.kind),.v (.int .i64 x.level),.v (.int .i64 x.value),.sl x.data.length (x.data.flatMap bL),.sl x.aH.length (x.aH.flatMap aF.enc)] _ _ from TN.qz rfl (TN.qz rfl (TN.qz rfl (TN.ni t3 (TN.ni t4 (TN.done))))))
 try simp only[List.append_nil]at h
 unfold au.enc
 first|exact h|simpa only[List.append_assoc]using h
theorem au.zw{w:World}{xs:List au}{bs:List Nat}{A:Option Addr}{n n' c:Nat}(h:T1 w (.sl n (xs.flatMap au.enc)) bs (.slice A n' c))(hm:xs.length=n){k:Nat}(hk:k<n):
  ∃(b off:Nat) (x:au) (A3:Option Addr) (c3:Nat) (b3:List Nat) (A4:Option Addr) (c4:Nat) (b4:List Nat),A=some ⟨b,off,none⟩∧b<w.heap.size∧Hid (xs[k]? =some x)∧w.cell? ⟨b,off+k*5,none⟩=some (.int .i64 x.kind)∧w.cell? ⟨b,off+k*5+1,none⟩=some (.int .i64 x.level)∧w.cell? ⟨b,off+k*5+2,none⟩=some (.int .i64 x.value)∧w.cell? ⟨b,off+k*5+3,none⟩=some (.slice A3 x.data.length c3)∧w.cell? ⟨b,off+k*5+4,none⟩=some (.slice A4 x.aH.length c4)∧T1 w (.sl x.data.length (x.data.flatMap bL)) b3 (.slice A3 x.data.length c3)∧x.data.length≤c3∧c3≤maxLen∧T1 w (.sl x.aH.length (x.aH.flatMap aF.enc)) b4 (.slice A4 x.aH.length c4)∧x.aH.length≤c4∧c4≤maxLen:=by
 obtain⟨_,b,off,p1,p2,p3,us,hA,_,hb,hc,ht⟩:=T1.at_ au.aZ h hm hk;obtain⟨A3,c3,b3,A4,c4,b4,rfl,_,t3,l3,m3,t4,l4,m4⟩:=au.us ht;exact⟨b,off,xs[k],A3,c3,b3,A4,c4,b4,hA,hb,List.getElem?_eq_getElem (hm▸hk),hc 0 _ rfl,hc 1 _ rfl,hc 2 _ rfl,hc 3 _ rfl,hc 4 _ rfl,t3,l3,m3,t4,l4,m4⟩
theorem au.DV{x y:au}(h0:x.kind=y.kind)(h1:x.level=y.level)(h2:x.value=y.value)(h3:x.data=y.data)(h4:x.aH=y.aH):x=y:=by
 cases x;cases y;simp_all
def au.small(x:au):Prop:=(x.data.length≤1048576)∧(x.aH.length≤1048576∧∀y∈x.aH,aF.small y)
structure aW where
 agents:(List au)
def aW.enc(x:aW):List D:=[.sl x.agents.length (x.agents.flatMap au.enc)]
theorem aW.aZ(x:aW):x.enc.length=1:=rfl
theorem aW.us{w:World}{x:aW}{bs us}(h0:TN w x.enc bs us):∃(A0:Option Addr) (c0:Nat) (b0:List Nat),us=[.slice A0 x.agents.length c0]∧bs=b0∧T1 w (.sl x.agents.length (x.agents.flatMap au.enc)) b0 (.slice A0 x.agents.length c0)∧x.agents.length≤c0∧c0≤maxLen:=by
 unfold aW.enc at h0;obtain⟨A0,c0,b0,r0,u0,rfl,rfl,t0,l0,m0,h1⟩:=TN.jD h0;obtain⟨rfl,rfl⟩:=TN.end_ h1;exact⟨A0,c0,b0,rfl,by simp,t0,l0,m0⟩
theorem aW.GU{w:World}{x:aW}{A0 c0 b0}(t0:T1 w (.sl x.agents.length (x.agents.flatMap au.enc)) b0 (.slice A0 x.agents.length c0)):TN w x.enc (b0) [.slice A0 x.agents.length c0]:=by
 have h:=(show TN w [.sl x.agents.length (x.agents.flatMap au.enc)] _ _ from TN.ni t0 (TN.done))
 try simp only[List.append_nil]at h
 unfold aW.enc
 first|exact h|simpa only[List.append_assoc]using h
theorem aW.zw{w:World}{xs:List aW}{bs:List Nat}{A:Option Addr}{n n' c:Nat}(h:T1 w (.sl n (xs.flatMap aW.enc)) bs (.slice A n' c))(hm:xs.length=n){k:Nat}(hk:k<n):
  ∃(b off:Nat) (x:aW) (A0:Option Addr) (c0:Nat) (b0:List Nat),A=some ⟨b,off,none⟩∧b<w.heap.size∧Hid (xs[k]? =some x)∧w.cell? ⟨b,off+k,none⟩=some (.slice A0 x.agents.length c0)∧T1 w (.sl x.agents.length (x.agents.flatMap au.enc)) b0 (.slice A0 x.agents.length c0)∧x.agents.length≤c0∧c0≤maxLen:=by
 obtain⟨_,b,off,p1,p2,p3,us,hA,_,hb,hc,ht⟩:=T1.at_ aW.aZ h hm hk;obtain⟨A0,c0,b0,rfl,_,t0,l0,m0⟩:=aW.us ht;exact⟨b,off,xs[k],A0,c0,b0,hA,hb,List.getElem?_eq_getElem (hm▸hk),by simpa using hc 0 _ rfl,t0,l0,m0⟩
theorem aW.DV{x y:aW}(h0:x.agents=y.agents):x=y:=by
 cases x;cases y;simp_all
def aW.small(x:aW):Prop:=(x.agents.length≤1048576∧∀y∈x.agents,au.small y)
structure bq where
 step:Int
 def_:Int
 source:Int
def bq.enc(x:bq):List D:=[.v (.int .i64 x.step),.v (.int .i64 x.def_),.v (.int .i64 x.source)]
theorem bq.aZ(x:bq):x.enc.length=3:=rfl
theorem bq.us{w:World}{x:bq}{bs us}(h0:TN w x.enc bs us):us=[.int .i64 x.step,.int .i64 x.def_,.int .i64 x.source]∧bs=[]:=by
 unfold bq.enc at h0;obtain⟨u0,rfl,h1⟩:=TN.jX h0;obtain⟨u1,rfl,h2⟩:=TN.jX h1;obtain⟨u2,rfl,h3⟩:=TN.jX h2;obtain⟨rfl,rfl⟩:=TN.end_ h3;exact⟨rfl,rfl⟩
theorem bq.GU{w:World}{x:bq}:TN w x.enc ([]) [.int .i64 x.step,.int .i64 x.def_,.int .i64 x.source]:=by
 have h:=(show TN w [.v (.int .i64 x.step),.v (.int .i64 x.def_),.v (.int .i64 x.source)] _ _ from TN.qz rfl (TN.qz rfl (TN.qz rfl (TN.done))))
 try simp only[List.append_nil]at h
 unfold bq.enc
 first|exact h|simpa only[List.append_assoc]using h
theorem bq.zw{w:World}{xs:List bq}{bs:List Nat}{A:Option Addr}{n n' c:Nat}(h:T1 w (.sl n (xs.flatMap bq.enc)) bs (.slice A n' c))(hm:xs.length=n){k:Nat}(hk:k<n):
  ∃(b off:Nat) (x:bq),A=some ⟨b,off,none⟩∧b<w.heap.size∧Hid (xs[k]? =some x)∧w.cell? ⟨b,off+k*3,none⟩=some (.int .i64 x.step)∧w.cell? ⟨b,off+k*3+1,none⟩=some (.int .i64 x.def_)∧w.cell? ⟨b,off+k*3+2,none⟩=some (.int .i64 x.source):=by
 obtain⟨_,b,off,p1,p2,p3,us,hA,_,hb,hc,ht⟩:=T1.at_ bq.aZ h hm hk;obtain⟨rfl,_⟩:=bq.us ht;exact⟨b,off,xs[k],hA,hb,List.getElem?_eq_getElem (hm▸hk),hc 0 _ rfl,hc 1 _ rfl,hc 2 _ rfl⟩
theorem bq.DV{x y:bq}(h0:x.step=y.step)(h1:x.def_=y.def_)(h2:x.source=y.source):x=y:=by
 cases x;cases y;simp_all
def bq.small(_x:bq):Prop:=True
structure dz where
 kind:Int
 value:Int
def dz.enc(x:dz):List D:=[.v (.int .i64 x.kind),.v (.int .i64 x.value)]
theorem dz.aZ(x:dz):x.enc.length=2:=rfl
theorem dz.us{w:World}{x:dz}{bs us}(h0:TN w x.enc bs us):us=[.int .i64 x.kind,.int .i64 x.value]∧bs=[]:=by
 unfold dz.enc at h0;obtain⟨u0,rfl,h1⟩:=TN.jX h0;obtain⟨u1,rfl,h2⟩:=TN.jX h1;obtain⟨rfl,rfl⟩:=TN.end_ h2;exact⟨rfl,rfl⟩
theorem dz.GU{w:World}{x:dz}:TN w x.enc ([]) [.int .i64 x.kind,.int .i64 x.value]:=by
 have h:=(show TN w [.v (.int .i64 x.kind),.v (.int .i64 x.value)] _ _ from TN.qz rfl (TN.qz rfl (TN.done)))
 try simp only[List.append_nil]at h
 unfold dz.enc
 first|exact h|simpa only[List.append_assoc]using h
theorem dz.zw{w:World}{xs:List dz}{bs:List Nat}{A:Option Addr}{n n' c:Nat}(h:T1 w (.sl n (xs.flatMap dz.enc)) bs (.slice A n' c))(hm:xs.length=n){k:Nat}(hk:k<n):
  ∃(b off:Nat) (x:dz),A=some ⟨b,off,none⟩∧b<w.heap.size∧Hid (xs[k]? =some x)∧w.cell? ⟨b,off+k*2,none⟩=some (.int .i64 x.kind)∧w.cell? ⟨b,off+k*2+1,none⟩=some (.int .i64 x.value):=by
 obtain⟨_,b,off,p1,p2,p3,us,hA,_,hb,hc,ht⟩:=T1.at_ dz.aZ h hm hk;obtain⟨rfl,_⟩:=dz.us ht;exact⟨b,off,xs[k],hA,hb,List.getElem?_eq_getElem (hm▸hk),hc 0 _ rfl,hc 1 _ rfl⟩
theorem dz.DV{x y:dz}(h0:x.kind=y.kind)(h1:x.value=y.value):x=y:=by
 cases x;cases y;simp_all
def dz.small(_x:dz):Prop:=True
structure aR where
 at_:Int
 net:aW
 origins:(List bq)
def aR.enc(x:aR):List D:=[.v (.int .i64 x.at_),.sl x.net.agents.length (x.net.agents.flatMap au.enc),.sl x.origins.length (x.origins.flatMap bq.enc)]
theorem aR.aZ(x:aR):x.enc.length=3:=rfl
theorem aR.us{w:World}{x:aR}{bs us}(h0:TN w x.enc bs us):∃(A1:Option Addr) (c1:Nat) (b1:List Nat) (A2:Option Addr) (c2:Nat) (b2:List Nat),us=[.int .i64 x.at_,.slice A1 x.net.agents.length c1,.slice A2 x.origins.length c2]∧bs=b1++b2∧T1 w (.sl x.net.agents.length (x.net.agents.flatMap au.enc)) b1 (.slice A1 x.net.agents.length c1)∧x.net.agents.length≤c1∧c1≤maxLen∧T1 w (.sl x.origins.length (x.origins.flatMap bq.enc)) b2 (.slice A2 x.origins.length c2)∧x.origins.length≤c2∧c2≤maxLen:=by
 unfold aR.enc at h0;obtain⟨u0,rfl,h1⟩:=TN.jX h0;obtain⟨A1,c1,b1,r1,u1,rfl,rfl,t1,l1,m1,h2⟩:=TN.jD h1;obtain⟨A2,c2,b2,r2,u2,rfl,rfl,t2,l2,m2,h3⟩:=TN.jD h2;obtain⟨rfl,rfl⟩:=TN.end_ h3;exact⟨A1,c1,b1,A2,c2,b2,rfl,by simp,t1,l1,m1,t2,l2,m2⟩
theorem aR.GU{w:World}{x:aR}{A1 c1 b1}(t1:T1 w (.sl x.net.agents.length (x.net.agents.flatMap au.enc)) b1 (.slice A1 x.net.agents.length c1)){A2 c2 b2}(t2:T1 w (.sl x.origins.length (x.origins.flatMap bq.enc)) b2 (.slice A2 x.origins.length c2)):TN w x.enc (b1++b2) [.int .i64 x.at_,.slice A1 x.net.agents.length c1,.slice A2 x.origins.length c2]:=by
 have h:=(show TN w [.v (.int .i64 x.at_),.sl x.net.agents.length (x.net.agents.flatMap au.enc),.sl x.origins.length (x.origins.flatMap bq.enc)] _ _ from TN.qz rfl (TN.ni t1 (TN.ni t2 (TN.done))))
 try simp only[List.append_nil]at h
 unfold aR.enc
 first|exact h|simpa only[List.append_assoc]using h
theorem aR.zw{w:World}{xs:List aR}{bs:List Nat}{A:Option Addr}{n n' c:Nat}(h:T1 w (.sl n (xs.flatMap aR.enc)) bs (.slice A n' c))(hm:xs.length=n){k:Nat}(hk:k<n):
  ∃(b off:Nat) (x:aR) (A1:Option Addr) (c1:Nat) (b1:List Nat) (A2:Option Addr) (c2:Nat) (b2:List Nat),A=some ⟨b,off,none⟩∧b<w.heap.size∧Hid (xs[k]? =some x)∧w.cell? ⟨b,off+k*3,none⟩=some (.int .i64 x.at_)∧w.cell? ⟨b,off+k*3+1,none⟩=some (.slice A1 x.net.agents.length c1)∧w.cell? ⟨b,off+k*3+2,none⟩=some (.slice A2 x.origins.length c2)∧T1 w (.sl x.net.agents.length (x.net.agents.flatMap au.enc)) b1 (.slice A1 x.net.agents.length c1)∧x.net.agents.length≤c1∧c1≤maxLen∧T1 w (.sl x.origins.length (x.origins.flatMap bq.enc)) b2 (.slice A2 x.origins.length c2)∧x.origins.length≤c2∧c2≤maxLen:=by
 obtain⟨_,b,off,p1,p2,p3,us,hA,_,hb,hc,ht⟩:=T1.at_ aR.aZ h hm hk;obtain⟨A1,c1,b1,A2,c2,b2,rfl,_,t1,l1,m1,t2,l2,m2⟩:=aR.us ht;exact⟨b,off,xs[k],A1,c1,b1,A2,c2,b2,hA,hb,List.getElem?_eq_getElem (hm▸hk),hc 0 _ rfl,hc 1 _ rfl,hc 2 _ rfl,t1,l1,m1,t2,l2,m2⟩
theorem aR.DV{x y:aR}(h0:x.at_=y.at_)(h1:x.net=y.net)(h2:x.origins=y.origins):x=y:=by
 cases x;cases y;simp_all
def aR.small(x:aR):Prop:=(x.net.small)∧(x.origins.length≤1048576∧∀y∈x.origins,bq.small y)
structure bG where
 book:(List aW)
 schedule:(List Int)
 every:Int
 at_:Int
 net:aW
 origins:(List bq)
 breaks:(List dz)
 points:(List aR)
def bG.enc(x:bG):List D:=[.sl x.book.length (x.book.flatMap aW.enc),.sl x.schedule.length (x.schedule.flatMap bL),.v (.int .i64 x.every),.v (.int .i64 x.at_),.sl x.net.agents.length (x.net.agents.flatMap au.enc),.sl x.origins.length (x.origins.flatMap bq.enc),.sl x.breaks.length (x.breaks.flatMap dz.enc),.sl x.points.length (x.points.flatMap aR.enc)]
theorem bG.aZ(x:bG):x.enc.length=8:=rfl
theorem bG.us{w:World}{x:bG}{bs us}(h0:TN w x.enc bs us):∃(A0:Option Addr) (c0:Nat) (b0:List Nat) (A1:Option Addr) (c1:Nat) (b1:List Nat) (A4:Option Addr) (c4:Nat) (b4:List Nat) (A5:Option Addr) (c5:Nat) (b5:List Nat) (A6:Option Addr) (c6:Nat) (b6:List Nat) (A7:Option Addr) (c7:Nat) (b7:List Nat),us=[.slice A0 x.book.length c0,.slice A1 x.schedule.length c1,.int .i64 x.every,.int .i64 x.at_,.slice A4 x.net.agents.length c4,.slice A5 x.origins.length c5,.slice A6 x.breaks.length c6,.slice A7 x.points.length c7]∧bs=b0++b1++b4++b5++b6++b7∧T1 w (.sl x.book.length (x.book.flatMap aW.enc)) b0 (.slice A0 x.book.length c0)∧x.book.length≤c0∧c0≤maxLen∧T1 w (.sl x.schedule.length (x.schedule.flatMap bL)) b1 (.slice A1 x.schedule.length c1)∧x.schedule.length≤c1∧c1≤maxLen∧T1 w (.sl x.net.agents.length (x.net.agents.flatMap au.enc)) b4 (.slice A4 x.net.agents.length c4)∧x.net.agents.length≤c4∧c4≤maxLen∧T1 w (.sl x.origins.length (x.origins.flatMap bq.enc)) b5 (.slice A5 x.origins.length c5)∧x.origins.length≤c5∧c5≤maxLen∧T1 w (.sl x.breaks.length (x.breaks.flatMap dz.enc)) b6 (.slice A6 x.breaks.length c6)∧x.breaks.length≤c6∧c6≤maxLen∧T1 w (.sl x.points.length (x.points.flatMap aR.enc)) b7 (.slice A7 x.points.length c7)∧x.points.length≤c7∧c7≤maxLen:=by
 unfold bG.enc at h0;obtain⟨A0,c0,b0,r0,u0,rfl,rfl,t0,l0,m0,h1⟩:=TN.jD h0;obtain⟨A1,c1,b1,r1,u1,rfl,rfl,t1,l1,m1,h2⟩:=TN.jD h1;obtain⟨u2,rfl,h3⟩:=TN.jX h2;obtain⟨u3,rfl,h4⟩:=TN.jX h3;obtain⟨A4,c4,b4,r4,u4,rfl,rfl,t4,l4,m4,h5⟩:=TN.jD h4;obtain⟨A5,c5,b5,r5,u5,rfl,rfl,t5,l5,m5,h6⟩:=TN.jD h5;obtain⟨A6,c6,b6,r6,u6,rfl,rfl,t6,l6,m6,h7⟩:=TN.jD h6;obtain⟨A7,c7,b7,r7,u7,rfl,rfl,t7,l7,m7,h8⟩:=TN.jD h7;obtain⟨rfl,rfl⟩:=TN.end_ h8;exact⟨A0,c0,b0,A1,c1,b1,A4,c4,b4,A5,c5,b5,A6,c6,b6,A7,c7,b7,rfl,by simp,t0,l0,m0,t1,l1,m1,t4,l4,m4,t5,l5,m5,t6,l6,m6,t7,l7,m7⟩
theorem bG.GU{w:World}{x:bG}{A0 c0 b0}(t0:T1 w (.sl x.book.length (x.book.flatMap aW.enc)) b0 (.slice A0 x.book.length c0)){A1 c1 b1}(t1:T1 w (.sl x.schedule.length (x.schedule.flatMap bL)) b1 (.slice A1 x.schedule.length c1)){A4 c4 b4}(t4:T1 w (.sl x.net.agents.length (x.net.agents.flatMap au.enc)) b4 (.slice A4 x.net.agents.length c4)){A5 c5 b5}(t5:T1 w (.sl x.origins.length (x.origins.flatMap bq.enc)) b5 (.slice A5 x.origins.length c5)){A6 c6 b6}(t6:T1 w (.sl x.breaks.length (x.breaks.flatMap dz.enc)) b6 (.slice A6 x.breaks.length c6)){A7 c7 b7}(t7:T1 w (.sl x.points.length (x.points.flatMap aR.enc)) b7 (.slice A7 x.points.length c7)):TN w x.enc (b0++b1++b4++b5++b6++b7) [.slice A0 x.book.length c0,.slice A1 x.schedule.length c1,.int .i64 x.every,.int .i64 x.at_,.slice A4 x.net.agents.length c4,.slice A5 x.origins.length c5,.slice A6 x.breaks.length c6,.slice A7 x.points.length c7]:=by
 have h:=(show TN w [.sl x.book.length (x.book.flatMap aW.enc),.sl x.schedule.length (x.schedule.flatMap bL),.v (.int .i64 x.every),.v (.int .i64 x.at_),.sl x.net.agents.length (x.net.agents.flatMap au.enc),.sl x.origins.length (x.origins.flatMap bq.enc),.sl x.breaks.length (x.breaks.flatMap dz.enc),.sl x.points.length (x.points.flatMap aR.enc)] _ _ from TN.ni t0 (TN.ni t1 (TN.qz rfl (TN.qz rfl (TN.ni t4 (TN.ni t5 (TN.ni t6 (TN.ni t7 (TN.done)))))))))
 try simp only[List.append_nil]at h
 unfold bG.enc
 first|exact h|simpa only[List.append_assoc]using h
theorem bG.zw{w:World}{xs:List bG}{bs:List Nat}{A:Option Addr}{n n' c:Nat}(h:T1 w (.sl n (xs.flatMap bG.enc)) bs (.slice A n' c))(hm:xs.length=n){k:Nat}(hk:k<n):
  ∃(b off:Nat) (x:bG) (A0:Option Addr) (c0:Nat) (b0:List Nat) (A1:Option Addr) (c1:Nat) (b1:List Nat) (A4:Option Addr) (c4:Nat) (b4:List Nat) (A5:Option Addr) (c5:Nat) (b5:List Nat) (A6:Option Addr) (c6:Nat) (b6:List Nat) (A7:Option Addr) (c7:Nat) (b7:List Nat),A=some ⟨b,off,none⟩∧b<w.heap.size∧Hid (xs[k]? =some x)∧w.cell? ⟨b,off+k*8,none⟩=some (.slice A0 x.book.length c0)∧w.cell? ⟨b,off+k*8+1,none⟩=some (.slice A1 x.schedule.length c1)∧w.cell? ⟨b,off+k*8+2,none⟩=some (.int .i64 x.every)∧w.cell? ⟨b,off+k*8+3,none⟩=some (.int .i64 x.at_)∧w.cell? ⟨b,off+k*8+4,none⟩=some (.slice A4 x.net.agents.length c4)∧w.cell? ⟨b,off+k*8+5,none⟩=some (.slice A5 x.origins.length c5)∧w.cell? ⟨b,off+k*8+6,none⟩=some (.slice A6 x.breaks.length c6)∧w.cell? ⟨b,off+k*8+7,none⟩=some (.slice A7 x.points.length c7)∧T1 w (.sl x.book.length (x.book.flatMap aW.enc)) b0 (.slice A0 x.book.length c0)∧x.book.length≤c0∧c0≤maxLen∧T1 w (.sl x.schedule.length (x.schedule.flatMap bL)) b1 (.slice A1 x.schedule.length c1)∧x.schedule.length≤c1∧c1≤maxLen∧T1 w (.sl x.net.agents.length (x.net.agents.flatMap au.enc)) b4 (.slice A4 x.net.agents.length c4)∧x.net.agents.length≤c4∧c4≤maxLen∧T1 w (.sl x.origins.length (x.origins.flatMap bq.enc)) b5 (.slice A5 x.origins.length c5)∧x.origins.length≤c5∧c5≤maxLen∧T1 w (.sl x.breaks.length (x.breaks.flatMap dz.enc)) b6 (.slice A6 x.breaks.length c6)∧x.breaks.length≤c6∧c6≤maxLen∧T1 w (.sl x.points.length (x.points.flatMap aR.enc)) b7 (.slice A7 x.points.length c7)∧x.points.length≤c7∧c7≤maxLen:=by
 obtain⟨_,b,off,p1,p2,p3,us,hA,_,hb,hc,ht⟩:=T1.at_ bG.aZ h hm hk;obtain⟨A0,c0,b0,A1,c1,b1,A4,c4,b4,A5,c5,b5,A6,c6,b6,A7,c7,b7,rfl,_,t0,l0,m0,t1,l1,m1,t4,l4,m4,t5,l5,m5,t6,l6,m6,t7,l7,m7⟩:=bG.us ht;exact⟨b,off,xs[k],A0,c0,b0,A1,c1,b1,A4,c4,b4,A5,c5,b5,A6,c6,b6,A7,c7,b7,hA,hb,List.getElem?_eq_getElem (hm▸hk),hc 0 _ rfl,hc 1 _ rfl,hc 2 _ rfl,hc 3 _ rfl,hc 4 _ rfl,hc 5 _ rfl,hc 6 _ rfl,hc 7 _ rfl,t0,l0,m0,t1,l1,m1,t4,l4,m4,t5,l5,m5,t6,l6,m6,t7,l7,m7⟩
theorem bG.DV{x y:bG}(h0:x.book=y.book)(h1:x.schedule=y.schedule)(h2:x.every=y.every)(h3:x.at_=y.at_)(h4:x.net=y.net)(h5:x.origins=y.origins)(h6:x.breaks=y.breaks)(h7:x.points=y.points):x=y:=by
 cases x;cases y;simp_all
def bG.small(x:bG):Prop:=(x.book.length≤1048576∧∀y∈x.book,aW.small y)∧(x.schedule.length≤1048576)∧(x.net.small)∧(x.origins.length≤1048576∧∀y∈x.origins,bq.small y)∧(x.breaks.length≤1048576∧∀y∈x.breaks,dz.small y)∧(x.points.length≤1048576∧∀y∈x.points,aR.small y)
theorem aF.pt{w:World}{x:aF}{b o bs}(h:gU w b o x.enc bs):Kn w b (o) (.int .i64 x.agent)∧Kn w b (o+1) (.int .i64 x.slot):=by
 obtain⟨hlt,us,hc,ht⟩:=h;obtain⟨rfl,rfl⟩:=aF.us ht;exact⟨hc.always hlt 0 _ rfl,hc.always hlt 1 _ rfl⟩
theorem au.pt{w:World}{x:au}{b o bs}(h:gU w b o x.enc bs):∃(A3:Option Addr) (c3:Nat) (b3:List Nat) (A4:Option Addr) (c4:Nat) (b4:List Nat),Kn w b (o) (.int .i64 x.kind)∧Kn w b (o+1) (.int .i64 x.level)∧Kn w b (o+2) (.int .i64 x.value)∧Kn w b (o+3) (.slice A3 x.data.length c3)∧Kn w b (o+4) (.slice A4 x.aH.length c4)∧T1 w (.sl x.data.length (x.data.flatMap bL)) b3 (.slice A3 x.data.length c3)∧T1 w (.sl x.aH.length (x.aH.flatMap aF.enc)) b4 (.slice A4 x.aH.length c4):=by
 obtain⟨hlt,us,hc,ht⟩:=h;obtain⟨A3,c3,b3,A4,c4,b4,rfl,rfl,t3,l3,m3,t4,l4,m4⟩:=au.us ht;exact⟨_,_,_,_,_,_,hc.always hlt 0 _ rfl,hc.always hlt 1 _ rfl,hc.always hlt 2 _ rfl,hc.always hlt 3 _ rfl,hc.always hlt 4 _ rfl,t3,t4⟩
theorem aW.pt{w:World}{x:aW}{b o bs}(h:gU w b o x.enc bs):∃(A0:Option Addr) (c0:Nat) (b0:List Nat),Kn w b (o) (.slice A0 x.agents.length c0)∧T1 w (.sl x.agents.length (x.agents.flatMap au.enc)) b0 (.slice A0 x.agents.length c0):=by
 obtain⟨hlt,us,hc,ht⟩:=h;obtain⟨A0,c0,b0,rfl,rfl,t0,l0,m0⟩:=aW.us ht;exact⟨_,_,_,hc.always hlt 0 _ rfl,t0⟩
theorem bq.pt{w:World}{x:bq}{b o bs}(h:gU w b o x.enc bs):Kn w b (o) (.int .i64 x.step)∧Kn w b (o+1) (.int .i64 x.def_)∧Kn w b (o+2) (.int .i64 x.source):=by
 obtain⟨hlt,us,hc,ht⟩:=h;obtain⟨rfl,rfl⟩:=bq.us ht;exact⟨hc.always hlt 0 _ rfl,hc.always hlt 1 _ rfl,hc.always hlt 2 _ rfl⟩
theorem dz.pt{w:World}{x:dz}{b o bs}(h:gU w b o x.enc bs):Kn w b (o) (.int .i64 x.kind)∧Kn w b (o+1) (.int .i64 x.value):=by
 obtain⟨hlt,us,hc,ht⟩:=h;obtain⟨rfl,rfl⟩:=dz.us ht;exact⟨hc.always hlt 0 _ rfl,hc.always hlt 1 _ rfl⟩
theorem aR.pt{w:World}{x:aR}{b o bs}(h:gU w b o x.enc bs):∃(A1:Option Addr) (c1:Nat) (b1:List Nat) (A2:Option Addr) (c2:Nat) (b2:List Nat),Kn w b (o) (.int .i64 x.at_)∧Kn w b (o+1) (.slice A1 x.net.agents.length c1)∧Kn w b (o+2) (.slice A2 x.origins.length c2)∧T1 w (.sl x.net.agents.length (x.net.agents.flatMap au.enc)) b1 (.slice A1 x.net.agents.length c1)∧T1 w (.sl x.origins.length (x.origins.flatMap bq.enc)) b2 (.slice A2 x.origins.length c2):=by
 obtain⟨hlt,us,hc,ht⟩:=h;obtain⟨A1,c1,b1,A2,c2,b2,rfl,rfl,t1,l1,m1,t2,l2,m2⟩:=aR.us ht;exact⟨_,_,_,_,_,_,hc.always hlt 0 _ rfl,hc.always hlt 1 _ rfl,hc.always hlt 2 _ rfl,t1,t2⟩
theorem bG.pt{w:World}{x:bG}{b o bs}(h:gU w b o x.enc bs):∃(A0:Option Addr) (c0:Nat) (b0:List Nat) (A1:Option Addr) (c1:Nat) (b1:List Nat) (A4:Option Addr) (c4:Nat) (b4:List Nat) (A5:Option Addr) (c5:Nat) (b5:List Nat) (A6:Option Addr) (c6:Nat) (b6:List Nat) (A7:Option Addr) (c7:Nat) (b7:List Nat),Kn w b (o) (.slice A0 x.book.length c0)∧Kn w b (o+1) (.slice A1 x.schedule.length c1)∧Kn w b (o+2) (.int .i64 x.every)∧Kn w b (o+3) (.int .i64 x.at_)∧Kn w b (o+4) (.slice A4 x.net.agents.length c4)∧Kn w b (o+5) (.slice A5 x.origins.length c5)∧Kn w b (o+6) (.slice A6 x.breaks.length c6)∧Kn w b (o+7) (.slice A7 x.points.length c7)∧T1 w (.sl x.book.length (x.book.flatMap aW.enc)) b0 (.slice A0 x.book.length c0)∧T1 w (.sl x.schedule.length (x.schedule.flatMap bL)) b1 (.slice A1 x.schedule.length c1)∧T1 w (.sl x.net.agents.length (x.net.agents.flatMap au.enc)) b4 (.slice A4 x.net.agents.length c4)∧T1 w (.sl x.origins.length (x.origins.flatMap bq.enc)) b5 (.slice A5 x.origins.length c5)∧T1 w (.sl x.breaks.length (x.breaks.flatMap dz.enc)) b6 (.slice A6 x.breaks.length c6)∧T1 w (.sl x.points.length (x.points.flatMap aR.enc)) b7 (.slice A7 x.points.length c7):=by
 obtain⟨hlt,us,hc,ht⟩:=h;obtain⟨A0,c0,b0,A1,c1,b1,A4,c4,b4,A5,c5,b5,A6,c6,b6,A7,c7,b7,rfl,rfl,t0,l0,m0,t1,l1,m1,t4,l4,m4,t5,l5,m5,t6,l6,m6,t7,l7,m7⟩:=bG.us ht;exact⟨_,_,_,_,_,_,_,_,_,_,_,_,_,_,_,_,_,_,hc.always hlt 0 _ rfl,hc.always hlt 1 _ rfl,hc.always hlt 2 _ rfl,hc.always hlt 3 _ rfl,hc.always hlt 4 _ rfl,hc.always hlt 5 _ rfl,hc.always hlt 6 _ rfl,hc.always hlt 7 _ rfl,t0,t1,t4,t5,t6,t7⟩
theorem aF.QA{w:World}{x:aF}{b bs}(h:gU w b 0 x.enc bs):Kn w b 0 (.int .i64 x.agent)∧Kn w b 1 (.int .i64 x.slot):=by
 have:=aF.pt h;simpa only[Nat.zero_add]using this
theorem au.QA{w:World}{x:au}{b bs}(h:gU w b 0 x.enc bs):∃(A3:Option Addr) (c3:Nat) (b3:List Nat) (A4:Option Addr) (c4:Nat) (b4:List Nat),Kn w b 0 (.int .i64 x.kind)∧Kn w b 1 (.int .i64 x.level)∧Kn w b 2 (.int .i64 x.value)∧Kn w b 3 (.slice A3 x.data.length c3)∧Kn w b 4 (.slice A4 x.aH.length c4)∧T1 w (.sl x.data.length (x.data.flatMap bL)) b3 (.slice A3 x.data.length c3)∧T1 w (.sl x.aH.length (x.aH.flatMap aF.enc)) b4 (.slice A4 x.aH.length c4):=by
 have:=au.pt h;simpa only[Nat.zero_add]using this
theorem aW.QA{w:World}{x:aW}{b bs}(h:gU w b 0 x.enc bs):∃(A0:Option Addr) (c0:Nat) (b0:List Nat),Kn w b 0 (.slice A0 x.agents.length c0)∧T1 w (.sl x.agents.length (x.agents.flatMap au.enc)) b0 (.slice A0 x.agents.length c0):=by
 have:=aW.pt h;simpa only[Nat.zero_add]using this
theorem bq.QA{w:World}{x:bq}{b bs}(h:gU w b 0 x.enc bs):Kn w b 0 (.int .i64 x.step)∧Kn w b 1 (.int .i64 x.def_)∧Kn w b 2 (.int .i64 x.source):=by
 have:=bq.pt h;simpa only[Nat.zero_add]using this
theorem dz.QA{w:World}{x:dz}{b bs}(h:gU w b 0 x.enc bs):Kn w b 0 (.int .i64 x.kind)∧Kn w b 1 (.int .i64 x.value):=by
 have:=dz.pt h;simpa only[Nat.zero_add]using this
theorem aR.QA{w:World}{x:aR}{b bs}(h:gU w b 0 x.enc bs):∃(A1:Option Addr) (c1:Nat) (b1:List Nat) (A2:Option Addr) (c2:Nat) (b2:List Nat),Kn w b 0 (.int .i64 x.at_)∧Kn w b 1 (.slice A1 x.net.agents.length c1)∧Kn w b 2 (.slice A2 x.origins.length c2)∧T1 w (.sl x.net.agents.length (x.net.agents.flatMap au.enc)) b1 (.slice A1 x.net.agents.length c1)∧T1 w (.sl x.origins.length (x.origins.flatMap bq.enc)) b2 (.slice A2 x.origins.length c2):=by
 have:=aR.pt h;simpa only[Nat.zero_add]using this
theorem bG.QA{w:World}{x:bG}{b bs}(h:gU w b 0 x.enc bs):∃(A0:Option Addr) (c0:Nat) (b0:List Nat) (A1:Option Addr) (c1:Nat) (b1:List Nat) (A4:Option Addr) (c4:Nat) (b4:List Nat) (A5:Option Addr) (c5:Nat) (b5:List Nat) (A6:Option Addr) (c6:Nat) (b6:List Nat) (A7:Option Addr) (c7:Nat) (b7:List Nat),Kn w b 0 (.slice A0 x.book.length c0)∧Kn w b 1 (.slice A1 x.schedule.length c1)∧Kn w b 2 (.int .i64 x.every)∧Kn w b 3 (.int .i64 x.at_)∧Kn w b 4 (.slice A4 x.net.agents.length c4)∧Kn w b 5 (.slice A5 x.origins.length c5)∧Kn w b 6 (.slice A6 x.breaks.length c6)∧Kn w b 7 (.slice A7 x.points.length c7)∧T1 w (.sl x.book.length (x.book.flatMap aW.enc)) b0 (.slice A0 x.book.length c0)∧T1 w (.sl x.schedule.length (x.schedule.flatMap bL)) b1 (.slice A1 x.schedule.length c1)∧T1 w (.sl x.net.agents.length (x.net.agents.flatMap au.enc)) b4 (.slice A4 x.net.agents.length c4)∧T1 w (.sl x.origins.length (x.origins.flatMap bq.enc)) b5 (.slice A5 x.origins.length c5)∧T1 w (.sl x.breaks.length (x.breaks.flatMap dz.enc)) b6 (.slice A6 x.breaks.length c6)∧T1 w (.sl x.points.length (x.points.flatMap aR.enc)) b7 (.slice A7 x.points.length c7):=by
 have:=bG.pt h;simpa only[Nat.zero_add]using this
end Go.Tr
namespace Go.Tr
def aF.cells(p:aF):List Value:=[.int .i64 p.agent,.int .i64 p.slot]
end Go.Tr
namespace Go.Tr
open Go Go.RowKit
theorem _root_.Go.Calls.q{P:Program}{f:FuncId}{args:Array Value}{W:World}{v:Value}(h:Calls P f args W fun e w'=>e=.returned v∧W=w'):Calls P f args W fun e w'=>e=.returned v∧Ext W w':=
 h.mono fun _ _ ⟨a,b⟩=>⟨a,b▸Below.refl _ _⟩
def dH(k p:Int):Int:=if k==9 then p-1 else 0
def fieldsOf(a:au):Int:=dH a.kind a.aH.length
def jr(n:Int):Bool:=iy n 0 23
def eH(n:Int):Bool:=iy n (-2147483648) 2147483647
def jK(n:Int):Bool:=iy n 1 6
def fM(l:List Int)(k:Nat):Int:=l.getD k 0
theorem OH{l:List Int}{k:Nat}{x:Int}(h:Hid (l[k]? =some x)):fM l k=x:=by unfold fM;rw[List.getD_eq_getElem?_getD,h.out];rfl
def jH(l:List Int):Bool:=dZ l.length fun k=>jr (fM l k)
def fG(a:au):Bool:=
 if a.kind==6 then((a.data.length:Int)==0)&&eH a.value
 else if a.kind==7 then((a.data.length:Int)==0)&&jK a.value
 else if a.kind==8 then((a.data.length:Int)==1)&&jK a.value&&eH (fM a.data 0)
 else if a.kind==9 then((a.data.length:Int)==0)&&iy a.value 0 3
 else if a.kind==12 then((a.data.length:Int)==0)&&jr a.value
 else if a.kind==10 then a.value==0&&iy a.data.length 1 4&&jH a.data
 else if a.kind==11 then a.value==0&&((a.data.length:Int)==2)&&jH a.data
 else a.value==0&&((a.data.length:Int)==0)
def eO(a:au):Bool:=decide (0<aL a.kind (fieldsOf a))&&(a.aH.length:Int)==aL a.kind (fieldsOf a)&&fF a.kind a.level&&fG a
def O6:au:=⟨0,0,0,[],[]⟩
def RF:aF:=⟨0,0⟩
def gF(l:List au)(k:Nat):au:=l.getD k O6
def jW(l:List aF)(k:Nat):aF:=l.getD k RF
theorem Er{α:Type}{l:List α}{k:Nat}{x d:α}(h:Hid (l[k]? =some x)):l.getD k d=x:=by rw[List.getD_eq_getElem?_getD,h.out];rfl
theorem nY{l:List au}{k:Nat}{x:au}(h:Hid (l[k]? =some x)):gF l k=x:=Er h
theorem uI{l:List aF}{k:Nat}{x:aF}(h:Hid (l[k]? =some x)):jW l k=x:=Er h
def eP(l:List au)(k:Nat):Bool:=eO (gF l k)&&((gF l k).kind==1)==((k:Int)==0)
def bP(l:List au):Bool:=iy l.length 1 600&&dZ l.length (eP l)
def iT(l:List au)(p:aF):Bool:=iy p.agent 0 ((l.length:Int)-1)&&iy p.slot 0 (((gF l p.agent.toNat).aH.length:Int)-1)
def mh(l:List au)(p:aF):aF:=jW (gF l p.agent.toNat).aH p.slot.toNat
noncomputable def xO(l:List au)(me p:aF):Bool:= !rO p me&&iT l p&&rO (mh l p) me
noncomputable def uP(l:List au)(i:Nat):Bool:=dZ (gF l i).aH.length fun k=>xO l ⟨i,k⟩ (jW (gF l i).aH k)
noncomputable def gW(n:aW):Bool:=bP n.agents&&dZ n.agents.length (uP n.agents)
theorem Pw{l:List au}{p:aF}(h:iT l p=true):∃(i k:Nat) (a:au) (q:aF),p=⟨i,k⟩∧i<l.length∧Hid (l[i]? =some a)∧k<a.aH.length∧Hid (a.aH[k]? =some q)∧mh l p=q:=by
 unfold iT at h;rw[Bool.and_eq_true]at h;obtain⟨h1,h2⟩:=h;have h1:=jl h1;have h2:=jl h2;obtain⟨pa,ps⟩:=p;simp only at h1 h2;obtain⟨i,rfl⟩:=Int.eq_ofNat_of_zero_le h1.1;obtain⟨k,rfl⟩:=Int.eq_ofNat_of_zero_le h2.1;have hi:i<l.length:=by omega
 have ha:Hid (l[i]? =some l[i]):=List.getElem?_eq_getElem hi;rw[Int.toNat_natCast,nY ha]at h2;have hk:k<(l[i]).aH.length:=by omega
 have hq:Hid ((l[i]).aH[k]? =some (l[i]).aH[k]):=List.getElem?_eq_getElem hk;refine⟨i,k,l[i],_,rfl,hi,ha,hk,hq,?_⟩;unfold mh;rw[Int.toNat_natCast,Int.toNat_natCast,nY ha,uI hq]
def nD:aW:=⟨[]⟩
def mX(l:List aW)(k:Nat):aW:=l.getD k nD
theorem OX{l:List aW}{k:Nat}{x:aW}(h:Hid (l[k]? =some x)):mX l k=x:=Er h
noncomputable def yT(l:List aW):Bool:=decide ((l.length:Int)≤24)&&dZ l.length fun k=>gW (mX l k)
end Go.Tr
