
/- Plain arithmetic: 32-bit wraps, the operators of the language, bounds as Bools. No program in it. -/
import Derived.Test.YtnamelcmcikeoaaSc
set_option linter.unusedSimpArgs false
set_option linter.unusedVariables false
namespace Go.Tr
open Go Go.RowKit
def fK(n lo hi:Int):Bool:=decide (lo≤n)&&decide (n≤hi)
theorem lg{n lo hi:Int}(h:fK n lo hi=true):lo≤n∧n≤hi:=by simpa[fK]using h
theorem NW{n lo hi:Int}(h:fK n lo hi=false):n<lo∨hi<n:=by
 simp only[fK,Bool.and_eq_false_iff,decide_eq_false_iff_not]at h;omega
theorem oW{n lo hi:Int}(h1:lo≤n)(h2:n≤hi):fK n lo hi=true:=by simp[fK,h1,h2]
theorem xB{n lo hi:Int}(h:n<lo∨hi<n):fK n lo hi=false:=by
 simp only[fK,Bool.and_eq_false_iff,decide_eq_false_iff_not];omega
def dz(k:Int):Bool:=fK k 1 12
def bn(k:Int):Bool:=dz k&&k !=1&&k !=5&&k !=6
def uJ(n:Int):Bool:=fK n 0 8
def dH(k l:Int):Bool:=dz k&&(l==0||(bn k&&uJ l))
def NM(k:Int):Bool:=k==3||k==7||k==8||k==10||k==11
def R9(t k l:Int):Bool:=uJ t&&dH k l&&(k==6||k==12||(bn k&&decide (t<l)))
def rule(ka la kb lb:Int):Int:=
 if ka=5 then 4
 else if ka=4 then(if kb==4&&la==lb then 2 else if R9 la kb lb then 3 else 0)
 else if ka=2 then(if kb==3&&la==lb then 1 else 0)
 else if ka=6 then(if kb==7||kb==8 then 5 else if kb==11 then 6 else 0)
 else if ka=9 then(if kb==10 then 6 else 0)
 else if ka=12 then(if NM kb then 7 else 0)
 else 0
def Q9(ka la kb lb:Int):Bool:=dH ka la&&dH kb lb&&ka !=1&&kb !=1
def zK(ka la kb lb:Int):Int:=if Q9 ka la kb lb then(if rule ka la kb lb=0 then(if rule kb lb ka la=0 then 0 else 2)else 1)else 0
def aV(k f:Int):Int:=
 if k=9 then(if fK f 0 3 then f+1 else 0)else if f=0 then
  (if k=1∨k=5∨k=6∨k=12 then 1 else if k=8∨k=10∨k=11 then 2 else if k=2∨k=3∨k=4∨k=7 then 3 else 0)else 0
theorem ru{k:Int}(h:dz k=true):k=1∨k=2∨k=3∨k=4∨k=5∨k=6∨k=7∨k=8∨k=9∨k=10∨k=11∨k=12:=by
 have:=lg h;omega
theorem vQ{k l:Int}(h:dz k=false):dH k l=false:=by simp[dH,h]
theorem nu{k:Int}(h:dz k=false):bn k=false:=by simp[bn,h]
structure aR where
 agent:Int
 slot:Int
def aR.enc(x:aR):List D:=[.v (.int .i64 x.agent),.v (.int .i64 x.slot)]
theorem aR.aY(x:aR):x.enc.length=2:=rfl
theorem aR.us{w:World}{x:aR}{bs us}(h0:TN w x.enc bs us):us=[.int .i64 x.agent,.int .i64 x.slot]∧bs=[]:=by
 unfold aR.enc at h0;obtain⟨u0,rfl,h1⟩:=TN.jT h0;obtain⟨u1,rfl,h2⟩:=TN.jT h1;obtain⟨rfl,rfl⟩:=TN.end_ h2;exact⟨rfl,rfl⟩
theorem aR.Iy{w:World}{x:aR}:TN w x.enc ([]) [.int .i64 x.agent,.int .i64 x.slot]:=by
 have h:=(show TN w [.v (.int .i64 x.agent),.v (.int .i64 x.slot)] _ _ from TN.nK rfl (TN.nK rfl (TN.done)))
 try simp only[List.append_nil]at h
 unfold aR.enc
 first|exact h|simpa only[List.append_assoc]using h
def aR.small(_x:aR):Prop:=True
structure aF where
 kind:Int
 level:Int
 value:Int
 data:(List Int)
 aQ:(List aR)
def aF.enc(x:aF):List D:=[.v (.int .i64 x.kind),.v (.int .i64 x.level),.v (.int .i64 x.value),.sl x.data.length (x.data.flatMap oZ),.sl x.aQ.length (x.aQ.flatMap aR.enc)]
theorem aF.aY(x:aF):x.enc.length=5:=rfl
theorem aF.us{w:World}{x:aF}{bs us}(h0:TN w x.enc bs us):∃(A3:Option Addr) (c3:Nat) (b3:List Nat) (A4:Option Addr) (c4:Nat) (b4:List Nat),us=[.int .i64 x.kind,.int .i64 x.level,.int .i64 x.value,.slice A3 x.data.length c3,.slice A4 x.aQ.length c4]∧bs=b3++b4∧T1 w (.sl x.data.length (x.data.flatMap oZ)) b3 (.slice A3 x.data.length c3)∧x.data.length≤c3∧c3≤maxLen∧T1 w (.sl x.aQ.length (x.aQ.flatMap aR.enc)) b4 (.slice A4 x.aQ.length c4)∧x.aQ.length≤c4∧c4≤maxLen:=by
 unfold aF.enc at h0;obtain⟨u0,rfl,h1⟩:=TN.jT h0;obtain⟨u1,rfl,h2⟩:=TN.jT h1;obtain⟨u2,rfl,h3⟩:=TN.jT h2;obtain⟨A3,c3,b3,r3,u3,rfl,rfl,t3,l3,m3,h4⟩:=TN.iY h3;obtain⟨A4,c4,b4,r4,u4,rfl,rfl,t4,l4,m4,h5⟩:=TN.iY h4;obtain⟨rfl,rfl⟩:=TN.end_ h5;exact⟨A3,c3,b3,A4,c4,b4,rfl,by simp,t3,l3,m3,t4,l4,m4⟩
theorem aF.Iy{w:World}{x:aF}{A3 c3 b3}(t3:T1 w (.sl x.data.length (x.data.flatMap oZ)) b3 (.slice A3 x.data.length c3)){A4 c4 b4}(t4:T1 w (.sl x.aQ.length (x.aQ.flatMap aR.enc)) b4 (.slice A4 x.aQ.length c4)):TN w x.enc (b3++b4) [.int .i64 x.kind,.int .i64 x.level,.int .i64 x.value,.slice A3 x.data.length c3,.slice A4 x.aQ.length c4]:=by
 have h:=(show TN w [.v (.int .i64 x.kind),.v (.int .i64 x.level),.v (.int .i64 x.value),.sl x.data.length (x.data.flatMap oZ),.sl x.aQ.length (x.aQ.flatMap aR.enc)] _ _ from TN.nK rfl (TN.nK rfl (TN.nK rfl (TN.mI t3 (TN.mI t4 (TN.done))))))
 try simp only[List.append_nil]at h
 unfold aF.enc
 first|exact h|simpa only[List.append_assoc]using h
def aF.small(x:aF):Prop:=(x.data.length≤1048576)∧(x.aQ.length≤1048576∧∀y∈x.aQ,aR.small y)
structure fU where
 agents:(List aF)
def fU.enc(x:fU):List D:=[.sl x.agents.length (x.agents.flatMap aF.enc)]
theorem fU.aY(x:fU):x.enc.length=1:=rfl
theorem fU.us{w:World}{x:fU}{bs us}(h0:TN w x.enc bs us):∃(A0:Option Addr) (c0:Nat) (b0:List Nat),us=[.slice A0 x.agents.length c0]∧bs=b0∧T1 w (.sl x.agents.length (x.agents.flatMap aF.enc)) b0 (.slice A0 x.agents.length c0)∧x.agents.length≤c0∧c0≤maxLen:=by
 unfold fU.enc at h0;obtain⟨A0,c0,b0,r0,u0,rfl,rfl,t0,l0,m0,h1⟩:=TN.iY h0;obtain⟨rfl,rfl⟩:=TN.end_ h1;exact⟨A0,c0,b0,rfl,by simp,t0,l0,m0⟩
theorem fU.Iy{w:World}{x:fU}{A0 c0 b0}(t0:T1 w (.sl x.agents.length (x.agents.flatMap aF.enc)) b0 (.slice A0 x.agents.length c0)):TN w x.enc (b0) [.slice A0 x.agents.length c0]:=by
 have h:=(show TN w [.sl x.agents.length (x.agents.flatMap aF.enc)] _ _ from TN.mI t0 (TN.done))
 try simp only[List.append_nil]at h
 unfold fU.enc
 first|exact h|simpa only[List.append_assoc]using h
def fU.small(x:fU):Prop:=(x.agents.length≤1048576∧∀y∈x.agents,aF.small y)
structure bK where
 step:Int
 def_:Int
 source:Int
def bK.enc(x:bK):List D:=[.v (.int .i64 x.step),.v (.int .i64 x.def_),.v (.int .i64 x.source)]
theorem bK.aY(x:bK):x.enc.length=3:=rfl
theorem bK.us{w:World}{x:bK}{bs us}(h0:TN w x.enc bs us):us=[.int .i64 x.step,.int .i64 x.def_,.int .i64 x.source]∧bs=[]:=by
 unfold bK.enc at h0;obtain⟨u0,rfl,h1⟩:=TN.jT h0;obtain⟨u1,rfl,h2⟩:=TN.jT h1;obtain⟨u2,rfl,h3⟩:=TN.jT h2;obtain⟨rfl,rfl⟩:=TN.end_ h3;exact⟨rfl,rfl⟩
theorem bK.Iy{w:World}{x:bK}:TN w x.enc ([]) [.int .i64 x.step,.int .i64 x.def_,.int .i64 x.source]:=by
 have h:=(show TN w [.v (.int .i64 x.step),.v (.int .i64 x.def_),.v (.int .i64 x.source)] _ _ from TN.nK rfl (TN.nK rfl (TN.nK rfl (TN.done))))
 try simp only[List.append_nil]at h
 unfold bK.enc
 first|exact h|simpa only[List.append_assoc]using h
def bK.small(_x:bK):Prop:=True
structure dW where
 kind:Int
 value:Int
def dW.enc(x:dW):List D:=[.v (.int .i64 x.kind),.v (.int .i64 x.value)]
theorem dW.aY(x:dW):x.enc.length=2:=rfl
theorem dW.us{w:World}{x:dW}{bs us}(h0:TN w x.enc bs us):us=[.int .i64 x.kind,.int .i64 x.value]∧bs=[]:=by
 unfold dW.enc at h0;obtain⟨u0,rfl,h1⟩:=TN.jT h0;obtain⟨u1,rfl,h2⟩:=TN.jT h1;obtain⟨rfl,rfl⟩:=TN.end_ h2;exact⟨rfl,rfl⟩
theorem dW.Iy{w:World}{x:dW}:TN w x.enc ([]) [.int .i64 x.kind,.int .i64 x.value]:=by
 have h:=(show TN w [.v (.int .i64 x.kind),.v (.int .i64 x.value)] _ _ from TN.nK rfl (TN.nK rfl (TN.done)))
 try simp only[List.append_nil]at h
 unfold dW.enc
 first|exact h|simpa only[List.append_assoc]using h
def dW.small(_x:dW):Prop:=True
structure aX where
 at_:Int
 net:fU
 origins:(List bK)
def aX.enc(x:aX):List D:=[.v (.int .i64 x.at_),.sl x.net.agents.length (x.net.agents.flatMap aF.enc),.sl x.origins.length (x.origins.flatMap bK.enc)]
theorem aX.aY(x:aX):x.enc.length=3:=rfl
theorem aX.us{w:World}{x:aX}{bs us}(h0:TN w x.enc bs us):∃(A1:Option Addr) (c1:Nat) (b1:List Nat) (A2:Option Addr) (c2:Nat) (b2:List Nat),us=[.int .i64 x.at_,.slice A1 x.net.agents.length c1,.slice A2 x.origins.length c2]∧bs=b1++b2∧T1 w (.sl x.net.agents.length (x.net.agents.flatMap aF.enc)) b1 (.slice A1 x.net.agents.length c1)∧x.net.agents.length≤c1∧c1≤maxLen∧T1 w (.sl x.origins.length (x.origins.flatMap bK.enc)) b2 (.slice A2 x.origins.length c2)∧x.origins.length≤c2∧c2≤maxLen:=by
 unfold aX.enc at h0;obtain⟨u0,rfl,h1⟩:=TN.jT h0;obtain⟨A1,c1,b1,r1,u1,rfl,rfl,t1,l1,m1,h2⟩:=TN.iY h1;obtain⟨A2,c2,b2,r2,u2,rfl,rfl,t2,l2,m2,h3⟩:=TN.iY h2;obtain⟨rfl,rfl⟩:=TN.end_ h3;exact⟨A1,c1,b1,A2,c2,b2,rfl,by simp,t1,l1,m1,t2,l2,m2⟩
theorem aX.Iy{w:World}{x:aX}{A1 c1 b1}(t1:T1 w (.sl x.net.agents.length (x.net.agents.flatMap aF.enc)) b1 (.slice A1 x.net.agents.length c1)){A2 c2 b2}(t2:T1 w (.sl x.origins.length (x.origins.flatMap bK.enc)) b2 (.slice A2 x.origins.length c2)):TN w x.enc (b1++b2) [.int .i64 x.at_,.slice A1 x.net.agents.length c1,.slice A2 x.origins.length c2]:=by
 have h:=(show TN w [.v (.int .i64 x.at_),.sl x.net.agents.length (x.net.agents.flatMap aF.enc),.sl x.origins.length (x.origins.flatMap bK.enc)] _ _ from TN.nK rfl (TN.mI t1 (TN.mI t2 (TN.done))))
 try simp only[List.append_nil]at h
 unfold aX.enc
 first|exact h|simpa only[List.append_assoc]using h
def aX.small(x:aX):Prop:=(x.net.small)∧(x.origins.length≤1048576∧∀y∈x.origins,bK.small y)
structure dB where
 book:(List fU)
 schedule:(List Int)
 every:Int
 at_:Int
 net:fU
 origins:(List bK)
 breaks:(List dW)
 points:(List aX)
def dB.enc(x:dB):List D:=[.sl x.book.length (x.book.flatMap fU.enc),.sl x.schedule.length (x.schedule.flatMap oZ),.v (.int .i64 x.every),.v (.int .i64 x.at_),.sl x.net.agents.length (x.net.agents.flatMap aF.enc),.sl x.origins.length (x.origins.flatMap bK.enc),.sl x.breaks.length (x.breaks.flatMap dW.enc),.sl x.points.length (x.points.flatMap aX.enc)]
theorem dB.aY(x:dB):x.enc.length=8:=rfl
theorem dB.us{w:World}{x:dB}{bs us}(h0:TN w x.enc bs us):∃(A0:Option Addr) (c0:Nat) (b0:List Nat) (A1:Option Addr) (c1:Nat) (b1:List Nat) (A4:Option Addr) (c4:Nat) (b4:List Nat) (A5:Option Addr) (c5:Nat) (b5:List Nat) (A6:Option Addr) (c6:Nat) (b6:List Nat) (A7:Option Addr) (c7:Nat) (b7:List Nat),us=[.slice A0 x.book.length c0,.slice A1 x.schedule.length c1,.int .i64 x.every,.int .i64 x.at_,.slice A4 x.net.agents.length c4,.slice A5 x.origins.length c5,.slice A6 x.breaks.length c6,.slice A7 x.points.length c7]∧bs=b0++b1++b4++b5++b6++b7∧T1 w (.sl x.book.length (x.book.flatMap fU.enc)) b0 (.slice A0 x.book.length c0)∧x.book.length≤c0∧c0≤maxLen∧T1 w (.sl x.schedule.length (x.schedule.flatMap oZ)) b1 (.slice A1 x.schedule.length c1)∧x.schedule.length≤c1∧c1≤maxLen∧T1 w (.sl x.net.agents.length (x.net.agents.flatMap aF.enc)) b4 (.slice A4 x.net.agents.length c4)∧x.net.agents.length≤c4∧c4≤maxLen∧T1 w (.sl x.origins.length (x.origins.flatMap bK.enc)) b5 (.slice A5 x.origins.length c5)∧x.origins.length≤c5∧c5≤maxLen∧T1 w (.sl x.breaks.length (x.breaks.flatMap dW.enc)) b6 (.slice A6 x.breaks.length c6)∧x.breaks.length≤c6∧c6≤maxLen∧T1 w (.sl x.points.length (x.points.flatMap aX.enc)) b7 (.slice A7 x.points.length c7)∧x.points.length≤c7∧c7≤maxLen:=by
 unfold dB.enc at h0;obtain⟨A0,c0,b0,r0,u0,rfl,rfl,t0,l0,m0,h1⟩:=TN.iY h0;obtain⟨A1,c1,b1,r1,u1,rfl,rfl,t1,l1,m1,h2⟩:=TN.iY h1;obtain⟨u2,rfl,h3⟩:=TN.jT h2;obtain⟨u3,rfl,h4⟩:=TN.jT h3;obtain⟨A4,c4,b4,r4,u4,rfl,rfl,t4,l4,m4,h5⟩:=TN.iY h4;obtain⟨A5,c5,b5,r5,u5,rfl,rfl,t5,l5,m5,h6⟩:=TN.iY h5;obtain⟨A6,c6,b6,r6,u6,rfl,rfl,t6,l6,m6,h7⟩:=TN.iY h6;obtain⟨A7,c7,b7,r7,u7,rfl,rfl,t7,l7,m7,h8⟩:=TN.iY h7;obtain⟨rfl,rfl⟩:=TN.end_ h8;exact⟨A0,c0,b0,A1,c1,b1,A4,c4,b4,A5,c5,b5,A6,c6,b6,A7,c7,b7,rfl,by simp,t0,l0,m0,t1,l1,m1,t4,l4,m4,t5,l5,m5,t6,l6,m6,t7,l7,m7⟩
theorem dB.Iy{w:World}{x:dB}{A0 c0 b0}(t0:T1 w (.sl x.book.length (x.book.flatMap fU.enc)) b0 (.slice A0 x.book.length c0)){A1 c1 b1}(t1:T1 w (.sl x.schedule.length (x.schedule.flatMap oZ)) b1 (.slice A1 x.schedule.length c1)){A4 c4 b4}(t4:T1 w (.sl x.net.agents.length (x.net.agents.flatMap aF.enc)) b4 (.slice A4 x.net.agents.length c4)){A5 c5 b5}(t5:T1 w (.sl x.origins.length (x.origins.flatMap bK.enc)) b5 (.slice A5 x.origins.length c5)){A6 c6 b6}(t6:T1 w (.sl x.breaks.length (x.breaks.flatMap dW.enc)) b6 (.slice A6 x.breaks.length c6)){A7 c7 b7}(t7:T1 w (.sl x.points.length (x.points.flatMap aX.enc)) b7 (.slice A7 x.points.length c7)):TN w x.enc (b0++b1++b4++b5++b6++b7) [.slice A0 x.book.length c0,.slice A1 x.schedule.length c1,.int .i64 x.every,.int .i64 x.at_,.slice A4 x.net.agents.length c4,.slice A5 x.origins.length c5,.slice A6 x.breaks.length c6,.slice A7 x.points.length c7]:=by
 have h:=(show TN w [.sl x.book.length (x.book.flatMap fU.enc),.sl x.schedule.length (x.schedule.flatMap oZ),.v (.int .i64 x.every),.v (.int .i64 x.at_),.sl x.net.agents.length (x.net.agents.flatMap aF.enc),.sl x.origins.length (x.origins.flatMap bK.enc),.sl x.breaks.length (x.breaks.flatMap dW.enc),.sl x.points.length (x.points.flatMap aX.enc)] _ _ from TN.mI t0 (TN.mI t1 (TN.nK rfl (TN.nK rfl (TN.mI t4 (TN.mI t5 (TN.mI t6 (TN.mI t7 (TN.done)))))))))
 try simp only[List.append_nil]at h
 unfold dB.enc
 first|exact h|simpa only[List.append_assoc]using h
def dB.small(x:dB):Prop:=(x.book.length≤1048576∧∀y∈x.book,fU.small y)∧(x.schedule.length≤1048576)∧(x.net.small)∧(x.origins.length≤1048576∧∀y∈x.origins,bK.small y)∧(x.breaks.length≤1048576∧∀y∈x.breaks,dW.small y)∧(x.points.length≤1048576∧∀y∈x.points,aX.small y)
theorem aR.pt{w:World}{x:aR}{b o bs}(h:dR w b o x.enc bs):Kn w b (o) (.int .i64 x.agent)∧Kn w b (o+1) (.int .i64 x.slot):=by
 obtain⟨hlt,us,hc,ht⟩:=h;obtain⟨rfl,rfl⟩:=aR.us ht;exact⟨hc.always hlt 0 _ rfl,hc.always hlt 1 _ rfl⟩
theorem aF.pt{w:World}{x:aF}{b o bs}(h:dR w b o x.enc bs):∃(A3:Option Addr) (c3:Nat) (b3:List Nat) (A4:Option Addr) (c4:Nat) (b4:List Nat),Kn w b (o) (.int .i64 x.kind)∧Kn w b (o+1) (.int .i64 x.level)∧Kn w b (o+2) (.int .i64 x.value)∧Kn w b (o+3) (.slice A3 x.data.length c3)∧Kn w b (o+4) (.slice A4 x.aQ.length c4)∧T1 w (.sl x.data.length (x.data.flatMap oZ)) b3 (.slice A3 x.data.length c3)∧T1 w (.sl x.aQ.length (x.aQ.flatMap aR.enc)) b4 (.slice A4 x.aQ.length c4):=by
 obtain⟨hlt,us,hc,ht⟩:=h;obtain⟨A3,c3,b3,A4,c4,b4,rfl,rfl,t3,l3,m3,t4,l4,m4⟩:=aF.us ht;exact⟨_,_,_,_,_,_,hc.always hlt 0 _ rfl,hc.always hlt 1 _ rfl,hc.always hlt 2 _ rfl,hc.always hlt 3 _ rfl,hc.always hlt 4 _ rfl,t3,t4⟩
theorem fU.pt{w:World}{x:fU}{b o bs}(h:dR w b o x.enc bs):∃(A0:Option Addr) (c0:Nat) (b0:List Nat),Kn w b (o) (.slice A0 x.agents.length c0)∧T1 w (.sl x.agents.length (x.agents.flatMap aF.enc)) b0 (.slice A0 x.agents.length c0):=by
 obtain⟨hlt,us,hc,ht⟩:=h;obtain⟨A0,c0,b0,rfl,rfl,t0,l0,m0⟩:=fU.us ht;exact⟨_,_,_,hc.always hlt 0 _ rfl,t0⟩
theorem bK.pt{w:World}{x:bK}{b o bs}(h:dR w b o x.enc bs):Kn w b (o) (.int .i64 x.step)∧Kn w b (o+1) (.int .i64 x.def_)∧Kn w b (o+2) (.int .i64 x.source):=by
 obtain⟨hlt,us,hc,ht⟩:=h;obtain⟨rfl,rfl⟩:=bK.us ht;exact⟨hc.always hlt 0 _ rfl,hc.always hlt 1 _ rfl,hc.always hlt 2 _ rfl⟩
theorem dW.pt{w:World}{x:dW}{b o bs}(h:dR w b o x.enc bs):Kn w b (o) (.int .i64 x.kind)∧Kn w b (o+1) (.int .i64 x.value):=by
 obtain⟨hlt,us,hc,ht⟩:=h;obtain⟨rfl,rfl⟩:=dW.us ht;exact⟨hc.always hlt 0 _ rfl,hc.always hlt 1 _ rfl⟩
theorem aX.pt{w:World}{x:aX}{b o bs}(h:dR w b o x.enc bs):∃(A1:Option Addr) (c1:Nat) (b1:List Nat) (A2:Option Addr) (c2:Nat) (b2:List Nat),Kn w b (o) (.int .i64 x.at_)∧Kn w b (o+1) (.slice A1 x.net.agents.length c1)∧Kn w b (o+2) (.slice A2 x.origins.length c2)∧T1 w (.sl x.net.agents.length (x.net.agents.flatMap aF.enc)) b1 (.slice A1 x.net.agents.length c1)∧T1 w (.sl x.origins.length (x.origins.flatMap bK.enc)) b2 (.slice A2 x.origins.length c2):=by
 obtain⟨hlt,us,hc,ht⟩:=h;obtain⟨A1,c1,b1,A2,c2,b2,rfl,rfl,t1,l1,m1,t2,l2,m2⟩:=aX.us ht;exact⟨_,_,_,_,_,_,hc.always hlt 0 _ rfl,hc.always hlt 1 _ rfl,hc.always hlt 2 _ rfl,t1,t2⟩
theorem dB.pt{w:World}{x:dB}{b o bs}(h:dR w b o x.enc bs):∃(A0:Option Addr) (c0:Nat) (b0:List Nat) (A1:Option Addr) (c1:Nat) (b1:List Nat) (A4:Option Addr) (c4:Nat) (b4:List Nat) (A5:Option Addr) (c5:Nat) (b5:List Nat) (A6:Option Addr) (c6:Nat) (b6:List Nat) (A7:Option Addr) (c7:Nat) (b7:List Nat),Kn w b (o) (.slice A0 x.book.length c0)∧Kn w b (o+1) (.slice A1 x.schedule.length c1)∧Kn w b (o+2) (.int .i64 x.every)∧Kn w b (o+3) (.int .i64 x.at_)∧Kn w b (o+4) (.slice A4 x.net.agents.length c4)∧Kn w b (o+5) (.slice A5 x.origins.length c5)∧Kn w b (o+6) (.slice A6 x.breaks.length c6)∧Kn w b (o+7) (.slice A7 x.points.length c7)∧T1 w (.sl x.book.length (x.book.flatMap fU.enc)) b0 (.slice A0 x.book.length c0)∧T1 w (.sl x.schedule.length (x.schedule.flatMap oZ)) b1 (.slice A1 x.schedule.length c1)∧T1 w (.sl x.net.agents.length (x.net.agents.flatMap aF.enc)) b4 (.slice A4 x.net.agents.length c4)∧T1 w (.sl x.origins.length (x.origins.flatMap bK.enc)) b5 (.slice A5 x.origins.length c5)∧T1 w (.sl x.breaks.length (x.breaks.flatMap dW.enc)) b6 (.slice A6 x.breaks.length c6)∧T1 w (.sl x.points.length (x.points.flatMap aX.enc)) b7 (.slice A7 x.points.length c7):=by
 obtain⟨hlt,us,hc,ht⟩:=h;obtain⟨A0,c0,b0,A1,c1,b1,A4,c4,b4,A5,c5,b5,A6,c6,b6,A7,c7,b7,rfl,rfl,t0,l0,m0,t1,l1,m1,t4,l4,m4,t5,l5,m5,t6,l6,m6,t7,l7,m7⟩:=dB.us ht;exact⟨_,_,_,_,_,_,_,_,_,_,_,_,_,_,_,_,_,_,hc.always hlt 0 _ rfl,hc.always hlt 1 _ rfl,hc.always hlt 2 _ rfl,hc.always hlt 3 _ rfl,hc.always hlt 4 _ rfl,hc.always hlt 5 _ rfl,hc.always hlt 6 _ rfl,hc.always hlt 7 _ rfl,t0,t1,t4,t5,t6,t7⟩
theorem aR.IW{w:World}{x:aR}{b bs}(h:dR w b 0 x.enc bs):Kn w b 0 (.int .i64 x.agent)∧Kn w b 1 (.int .i64 x.slot):=by
 have:=aR.pt h;simpa only[Nat.zero_add]using this
theorem aF.IW{w:World}{x:aF}{b bs}(h:dR w b 0 x.enc bs):∃(A3:Option Addr) (c3:Nat) (b3:List Nat) (A4:Option Addr) (c4:Nat) (b4:List Nat),Kn w b 0 (.int .i64 x.kind)∧Kn w b 1 (.int .i64 x.level)∧Kn w b 2 (.int .i64 x.value)∧Kn w b 3 (.slice A3 x.data.length c3)∧Kn w b 4 (.slice A4 x.aQ.length c4)∧T1 w (.sl x.data.length (x.data.flatMap oZ)) b3 (.slice A3 x.data.length c3)∧T1 w (.sl x.aQ.length (x.aQ.flatMap aR.enc)) b4 (.slice A4 x.aQ.length c4):=by
 have:=aF.pt h;simpa only[Nat.zero_add]using this
theorem fU.IW{w:World}{x:fU}{b bs}(h:dR w b 0 x.enc bs):∃(A0:Option Addr) (c0:Nat) (b0:List Nat),Kn w b 0 (.slice A0 x.agents.length c0)∧T1 w (.sl x.agents.length (x.agents.flatMap aF.enc)) b0 (.slice A0 x.agents.length c0):=by
 have:=fU.pt h;simpa only[Nat.zero_add]using this
theorem bK.IW{w:World}{x:bK}{b bs}(h:dR w b 0 x.enc bs):Kn w b 0 (.int .i64 x.step)∧Kn w b 1 (.int .i64 x.def_)∧Kn w b 2 (.int .i64 x.source):=by
 have:=bK.pt h;simpa only[Nat.zero_add]using this
theorem dW.IW{w:World}{x:dW}{b bs}(h:dR w b 0 x.enc bs):Kn w b 0 (.int .i64 x.kind)∧Kn w b 1 (.int .i64 x.value):=by
 have:=dW.pt h;simpa only[Nat.zero_add]using this
theorem aX.IW{w:World}{x:aX}{b bs}(h:dR w b 0 x.enc bs):∃(A1:Option Addr) (c1:Nat) (b1:List Nat) (A2:Option Addr) (c2:Nat) (b2:List Nat),Kn w b 0 (.int .i64 x.at_)∧Kn w b 1 (.slice A1 x.net.agents.length c1)∧Kn w b 2 (.slice A2 x.origins.length c2)∧T1 w (.sl x.net.agents.length (x.net.agents.flatMap aF.enc)) b1 (.slice A1 x.net.agents.length c1)∧T1 w (.sl x.origins.length (x.origins.flatMap bK.enc)) b2 (.slice A2 x.origins.length c2):=by
 have:=aX.pt h;simpa only[Nat.zero_add]using this
theorem dB.IW{w:World}{x:dB}{b bs}(h:dR w b 0 x.enc bs):∃(A0:Option Addr) (c0:Nat) (b0:List Nat) (A1:Option Addr) (c1:Nat) (b1:List Nat) (A4:Option Addr) (c4:Nat) (b4:List Nat) (A5:Option Addr) (c5:Nat) (b5:List Nat) (A6:Option Addr) (c6:Nat) (b6:List Nat) (A7:Option Addr) (c7:Nat) (b7:List Nat),Kn w b 0 (.slice A0 x.book.length c0)∧Kn w b 1 (.slice A1 x.schedule.length c1)∧Kn w b 2 (.int .i64 x.every)∧Kn w b 3 (.int .i64 x.at_)∧Kn w b 4 (.slice A4 x.net.agents.length c4)∧Kn w b 5 (.slice A5 x.origins.length c5)∧Kn w b 6 (.slice A6 x.breaks.length c6)∧Kn w b 7 (.slice A7 x.points.length c7)∧T1 w (.sl x.book.length (x.book.flatMap fU.enc)) b0 (.slice A0 x.book.length c0)∧T1 w (.sl x.schedule.length (x.schedule.flatMap oZ)) b1 (.slice A1 x.schedule.length c1)∧T1 w (.sl x.net.agents.length (x.net.agents.flatMap aF.enc)) b4 (.slice A4 x.net.agents.length c4)∧T1 w (.sl x.origins.length (x.origins.flatMap bK.enc)) b5 (.slice A5 x.origins.length c5)∧T1 w (.sl x.breaks.length (x.breaks.flatMap dW.enc)) b6 (.slice A6 x.breaks.length c6)∧T1 w (.sl x.points.length (x.points.flatMap aX.enc)) b7 (.slice A7 x.points.length c7):=by
 have:=dB.pt h;simpa only[Nat.zero_add]using this
end Go.Tr
namespace Go.Tr
def aR.cells(p:aR):List Value:=[.int .i64 p.agent,.int .i64 p.slot]
end Go.Tr
namespace Go.Tr
open Go Go.RowKit
theorem _root_.Go.Calls.q{P:Program}{f:FuncId}{args:Array Value}{W:World}{v:Value}(h:Calls P f args W fun e w'=>e=.returned v∧W=w'):Calls P f args W fun e w'=>e=.returned v∧Ext W w':=
 h.mono fun _ _ ⟨a,b⟩=>⟨a,b▸Below.refl _ _⟩
def bG(k p:Int):Int:=if k==9 then p-1 else 0
def fieldsOf(a:aF):Int:=bG a.kind a.aQ.length
def gU(n:Int):Bool:=fK n 0 23
def kK(n:Int):Bool:=fK n (-2147483648) 2147483647
def iI(n:Int):Bool:=fK n 1 6
def eT(l:List Int)(k:Nat):Int:=l.getD k 0
theorem CF{l:List Int}{k:Nat}{x:Int}(h:Hid (l[k]? =some x)):eT l k=x:=by unfold eT;rw[List.getD_eq_getElem?_getD,h.out];rfl
def iG(l:List Int):Bool:=dK l.length fun k=>gU (eT l k)
def bg(a:aF):Bool:=
 if a.kind==6 then((a.data.length:Int)==0)&&kK a.value
 else if a.kind==7 then((a.data.length:Int)==0)&&iI a.value
 else if a.kind==8 then((a.data.length:Int)==1)&&iI a.value&&kK (eT a.data 0)
 else if a.kind==9 then((a.data.length:Int)==0)&&fK a.value 0 3
 else if a.kind==12 then((a.data.length:Int)==0)&&gU a.value
 else if a.kind==10 then a.value==0&&fK a.data.length 1 4&&iG a.data
 else if a.kind==11 then a.value==0&&((a.data.length:Int)==2)&&iG a.data
 else a.value==0&&((a.data.length:Int)==0)
def bJ(a:aF):Bool:=decide (0<aV a.kind (fieldsOf a))&&(a.aQ.length:Int)==aV a.kind (fieldsOf a)&&dH a.kind a.level&&bg a
def Kw:aF:=⟨0,0,0,[],[]⟩
def MP:aR:=⟨0,0⟩
def fq(l:List aF)(k:Nat):aF:=l.getD k Kw
def gK(l:List aR)(k:Nat):aR:=l.getD k MP
theorem Ga{α:Type}{l:List α}{k:Nat}{x d:α}(h:Hid (l[k]? =some x)):l.getD k d=x:=by rw[List.getD_eq_getElem?_getD,h.out];rfl
theorem iL{l:List aF}{k:Nat}{x:aF}(h:Hid (l[k]? =some x)):fq l k=x:=Ga h
theorem nG{l:List aR}{k:Nat}{x:aR}(h:Hid (l[k]? =some x)):gK l k=x:=Ga h
def fu(l:List aF)(k:Nat):Bool:=bJ (fq l k)&&((fq l k).kind==1)==((k:Int)==0)
def cO(l:List aF):Bool:=fK l.length 1 600&&dK l.length (fu l)
def fH(l:List aF)(p:aR):Bool:=fK p.agent 0 ((l.length:Int)-1)&&fK p.slot 0 (((fq l p.agent.toNat).aQ.length:Int)-1)
def kV(l:List aF)(p:aR):aR:=gK (fq l p.agent.toNat).aQ p.slot.toNat
noncomputable def kR(l:List aF)(me p:aR):Bool:= !FX p me&&fH l p&&FX (kV l p) me
noncomputable def lD(l:List aF)(i:Nat):Bool:=dK (fq l i).aQ.length fun k=>kR l ⟨i,k⟩ (gK (fq l i).aQ k)
noncomputable def mo(n:fU):Bool:=cO n.agents&&dK n.agents.length (lD n.agents)
theorem Di{l:List aF}{p:aR}(h:fH l p=true):∃(i k:Nat) (a:aF) (q:aR),p=⟨i,k⟩∧i<l.length∧Hid (l[i]? =some a)∧k<a.aQ.length∧Hid (a.aQ[k]? =some q)∧kV l p=q:=by
 unfold fH at h;rw[Bool.and_eq_true]at h;obtain⟨h1,h2⟩:=h;have h1:=lg h1;have h2:=lg h2;obtain⟨pa,ps⟩:=p;simp only at h1 h2;obtain⟨i,rfl⟩:=Int.eq_ofNat_of_zero_le h1.1;obtain⟨k,rfl⟩:=Int.eq_ofNat_of_zero_le h2.1;have hi:i<l.length:=by omega
 have ha:Hid (l[i]? =some l[i]):=List.getElem?_eq_getElem hi;rw[Int.toNat_natCast,iL ha]at h2;have hk:k<(l[i]).aQ.length:=by omega
 have hq:Hid ((l[i]).aQ[k]? =some (l[i]).aQ[k]):=List.getElem?_eq_getElem hk;refine⟨i,k,l[i],_,rfl,hi,ha,hk,hq,?_⟩;unfold kV;rw[Int.toNat_natCast,Int.toNat_natCast,iL ha,nG hq]
end Go.Tr
