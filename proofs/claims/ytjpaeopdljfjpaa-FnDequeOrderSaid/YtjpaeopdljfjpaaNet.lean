
/- Plain arithmetic: 32-bit wraps, the operators of the language, bounds as Bools. No program in it. -/
import Derived.Test.YtjpaeopdljfjpaaSc
set_option linter.unusedSimpArgs false
set_option linter.unusedVariables false
namespace Go.Tr
open Go Go.RowKit
def aP(n lo hi:Int):Bool:=decide (lo≤n)&&decide (n≤hi)
theorem oZ{n lo hi:Int}(h:aP n lo hi=true):lo≤n∧n≤hi:=by simpa[aP]using h
theorem Kl{n lo hi:Int}(h1:lo≤n)(h2:n≤hi):aP n lo hi=true:=by simp[aP,h1,h2]
def JB(k:Int):Bool:=aP k 1 12
def Dc(k:Int):Bool:=JB k&&k !=1&&k !=5&&k !=6
def KT(n:Int):Bool:=aP n 0 8
def JV(k l:Int):Bool:=JB k&&(l==0||(Dc k&&KT l))
def KP(k:Int):Bool:=k==3||k==7||k==8||k==10||k==11
def LK(t k l:Int):Bool:=KT t&&JV k l&&(k==6||k==12||(Dc k&&decide (t<l)))
def rule(ka la kb lb:Int):Int:=
 if ka=5 then 4
 else if ka=4 then(if kb==4&&la==lb then 2 else if LK la kb lb then 3 else 0)
 else if ka=2 then(if kb==3&&la==lb then 1 else 0)
 else if ka=6 then(if kb==7||kb==8 then 5 else if kb==11 then 6 else 0)
 else if ka=9 then(if kb==10 then 6 else 0)
 else if ka=12 then(if KP kb then 7 else 0)
 else 0
structure kL where
 agent:Int
 slot:Int
def kL.enc(x:kL):List D:=[.v (.int .i64 x.agent),.v (.int .i64 x.slot)]
theorem kL.aV(x:kL):x.enc.length=2:=rfl
theorem kL.us{w:World}{x:kL}{bs us}(h0:TN w x.enc bs us):us=[.int .i64 x.agent,.int .i64 x.slot]∧bs=[]:=by
 unfold kL.enc at h0;obtain⟨u0,rfl,h1⟩:=TN.dZ h0;obtain⟨u1,rfl,h2⟩:=TN.dZ h1;obtain⟨rfl,rfl⟩:=TN.end_ h2;exact⟨rfl,rfl⟩
def kL.small(_x:kL):Prop:=True
structure gN where
 kind:Int
 level:Int
 value:Int
 data:(List Int)
 iT:(List kL)
def gN.enc(x:gN):List D:=[.v (.int .i64 x.kind),.v (.int .i64 x.level),.v (.int .i64 x.value),.sl x.data.length (x.data.flatMap au),.sl x.iT.length (x.iT.flatMap kL.enc)]
theorem gN.aV(x:gN):x.enc.length=5:=rfl
theorem gN.us{w:World}{x:gN}{bs us}(h0:TN w x.enc bs us):∃(A3:Option Addr) (c3:Nat) (b3:List Nat) (A4:Option Addr) (c4:Nat) (b4:List Nat),us=[.int .i64 x.kind,.int .i64 x.level,.int .i64 x.value,.slice A3 x.data.length c3,.slice A4 x.iT.length c4]∧bs=b3++b4∧T1 w (.sl x.data.length (x.data.flatMap au)) b3 (.slice A3 x.data.length c3)∧x.data.length≤c3∧c3≤maxLen∧T1 w (.sl x.iT.length (x.iT.flatMap kL.enc)) b4 (.slice A4 x.iT.length c4)∧x.iT.length≤c4∧c4≤maxLen:=by
 unfold gN.enc at h0;obtain⟨u0,rfl,h1⟩:=TN.dZ h0;obtain⟨u1,rfl,h2⟩:=TN.dZ h1;obtain⟨u2,rfl,h3⟩:=TN.dZ h2;obtain⟨A3,c3,b3,r3,u3,rfl,rfl,t3,l3,m3,h4⟩:=TN.eF h3;obtain⟨A4,c4,b4,r4,u4,rfl,rfl,t4,l4,m4,h5⟩:=TN.eF h4;obtain⟨rfl,rfl⟩:=TN.end_ h5;exact⟨A3,c3,b3,A4,c4,b4,rfl,by simp,t3,l3,m3,t4,l4,m4⟩
def gN.small(x:gN):Prop:=(x.data.length≤1048576)∧(x.iT.length≤1048576∧∀y∈x.iT,kL.small y)
structure pG where
 agents:(List gN)
def pG.enc(x:pG):List D:=[.sl x.agents.length (x.agents.flatMap gN.enc)]
theorem pG.aV(x:pG):x.enc.length=1:=rfl
theorem pG.us{w:World}{x:pG}{bs us}(h0:TN w x.enc bs us):∃(A0:Option Addr) (c0:Nat) (b0:List Nat),us=[.slice A0 x.agents.length c0]∧bs=b0∧T1 w (.sl x.agents.length (x.agents.flatMap gN.enc)) b0 (.slice A0 x.agents.length c0)∧x.agents.length≤c0∧c0≤maxLen:=by
 unfold pG.enc at h0;obtain⟨A0,c0,b0,r0,u0,rfl,rfl,t0,l0,m0,h1⟩:=TN.eF h0;obtain⟨rfl,rfl⟩:=TN.end_ h1;exact⟨A0,c0,b0,rfl,by simp,t0,l0,m0⟩
def pG.small(x:pG):Prop:=(x.agents.length≤1048576∧∀y∈x.agents,gN.small y)
structure fC where
 step:Int
 def_:Int
 source:Int
def fC.enc(x:fC):List D:=[.v (.int .i64 x.step),.v (.int .i64 x.def_),.v (.int .i64 x.source)]
theorem fC.aV(x:fC):x.enc.length=3:=rfl
theorem fC.us{w:World}{x:fC}{bs us}(h0:TN w x.enc bs us):us=[.int .i64 x.step,.int .i64 x.def_,.int .i64 x.source]∧bs=[]:=by
 unfold fC.enc at h0;obtain⟨u0,rfl,h1⟩:=TN.dZ h0;obtain⟨u1,rfl,h2⟩:=TN.dZ h1;obtain⟨u2,rfl,h3⟩:=TN.dZ h2;obtain⟨rfl,rfl⟩:=TN.end_ h3;exact⟨rfl,rfl⟩
def fC.small(_x:fC):Prop:=True
structure jH where
 kind:Int
 value:Int
def jH.enc(x:jH):List D:=[.v (.int .i64 x.kind),.v (.int .i64 x.value)]
theorem jH.aV(x:jH):x.enc.length=2:=rfl
theorem jH.us{w:World}{x:jH}{bs us}(h0:TN w x.enc bs us):us=[.int .i64 x.kind,.int .i64 x.value]∧bs=[]:=by
 unfold jH.enc at h0;obtain⟨u0,rfl,h1⟩:=TN.dZ h0;obtain⟨u1,rfl,h2⟩:=TN.dZ h1;obtain⟨rfl,rfl⟩:=TN.end_ h2;exact⟨rfl,rfl⟩
def jH.small(_x:jH):Prop:=True
structure dI where
 at_:Int
 net:pG
 origins:(List fC)
def dI.enc(x:dI):List D:=[.v (.int .i64 x.at_),.sl x.net.agents.length (x.net.agents.flatMap gN.enc),.sl x.origins.length (x.origins.flatMap fC.enc)]
theorem dI.aV(x:dI):x.enc.length=3:=rfl
theorem dI.us{w:World}{x:dI}{bs us}(h0:TN w x.enc bs us):∃(A1:Option Addr) (c1:Nat) (b1:List Nat) (A2:Option Addr) (c2:Nat) (b2:List Nat),us=[.int .i64 x.at_,.slice A1 x.net.agents.length c1,.slice A2 x.origins.length c2]∧bs=b1++b2∧T1 w (.sl x.net.agents.length (x.net.agents.flatMap gN.enc)) b1 (.slice A1 x.net.agents.length c1)∧x.net.agents.length≤c1∧c1≤maxLen∧T1 w (.sl x.origins.length (x.origins.flatMap fC.enc)) b2 (.slice A2 x.origins.length c2)∧x.origins.length≤c2∧c2≤maxLen:=by
 unfold dI.enc at h0;obtain⟨u0,rfl,h1⟩:=TN.dZ h0;obtain⟨A1,c1,b1,r1,u1,rfl,rfl,t1,l1,m1,h2⟩:=TN.eF h1;obtain⟨A2,c2,b2,r2,u2,rfl,rfl,t2,l2,m2,h3⟩:=TN.eF h2;obtain⟨rfl,rfl⟩:=TN.end_ h3;exact⟨A1,c1,b1,A2,c2,b2,rfl,by simp,t1,l1,m1,t2,l2,m2⟩
def dI.small(x:dI):Prop:=(x.net.small)∧(x.origins.length≤1048576∧∀y∈x.origins,fC.small y)
structure ig where
 book:(List pG)
 schedule:(List Int)
 every:Int
 at_:Int
 net:pG
 origins:(List fC)
 breaks:(List jH)
 points:(List dI)
def ig.enc(x:ig):List D:=[.sl x.book.length (x.book.flatMap pG.enc),.sl x.schedule.length (x.schedule.flatMap au),.v (.int .i64 x.every),.v (.int .i64 x.at_),.sl x.net.agents.length (x.net.agents.flatMap gN.enc),.sl x.origins.length (x.origins.flatMap fC.enc),.sl x.breaks.length (x.breaks.flatMap jH.enc),.sl x.points.length (x.points.flatMap dI.enc)]
theorem ig.aV(x:ig):x.enc.length=8:=rfl
theorem ig.us{w:World}{x:ig}{bs us}(h0:TN w x.enc bs us):∃(A0:Option Addr) (c0:Nat) (b0:List Nat) (A1:Option Addr) (c1:Nat) (b1:List Nat) (A4:Option Addr) (c4:Nat) (b4:List Nat) (A5:Option Addr) (c5:Nat) (b5:List Nat) (A6:Option Addr) (c6:Nat) (b6:List Nat) (A7:Option Addr) (c7:Nat) (b7:List Nat),us=[.slice A0 x.book.length c0,.slice A1 x.schedule.length c1,.int .i64 x.every,.int .i64 x.at_,.slice A4 x.net.agents.length c4,.slice A5 x.origins.length c5,.slice A6 x.breaks.length c6,.slice A7 x.points.length c7]∧bs=b0++b1++b4++b5++b6++b7∧T1 w (.sl x.book.length (x.book.flatMap pG.enc)) b0 (.slice A0 x.book.length c0)∧x.book.length≤c0∧c0≤maxLen∧T1 w (.sl x.schedule.length (x.schedule.flatMap au)) b1 (.slice A1 x.schedule.length c1)∧x.schedule.length≤c1∧c1≤maxLen∧T1 w (.sl x.net.agents.length (x.net.agents.flatMap gN.enc)) b4 (.slice A4 x.net.agents.length c4)∧x.net.agents.length≤c4∧c4≤maxLen∧T1 w (.sl x.origins.length (x.origins.flatMap fC.enc)) b5 (.slice A5 x.origins.length c5)∧x.origins.length≤c5∧c5≤maxLen∧T1 w (.sl x.breaks.length (x.breaks.flatMap jH.enc)) b6 (.slice A6 x.breaks.length c6)∧x.breaks.length≤c6∧c6≤maxLen∧T1 w (.sl x.points.length (x.points.flatMap dI.enc)) b7 (.slice A7 x.points.length c7)∧x.points.length≤c7∧c7≤maxLen:=by
 unfold ig.enc at h0;obtain⟨A0,c0,b0,r0,u0,rfl,rfl,t0,l0,m0,h1⟩:=TN.eF h0;obtain⟨A1,c1,b1,r1,u1,rfl,rfl,t1,l1,m1,h2⟩:=TN.eF h1;obtain⟨u2,rfl,h3⟩:=TN.dZ h2;obtain⟨u3,rfl,h4⟩:=TN.dZ h3;obtain⟨A4,c4,b4,r4,u4,rfl,rfl,t4,l4,m4,h5⟩:=TN.eF h4;obtain⟨A5,c5,b5,r5,u5,rfl,rfl,t5,l5,m5,h6⟩:=TN.eF h5;obtain⟨A6,c6,b6,r6,u6,rfl,rfl,t6,l6,m6,h7⟩:=TN.eF h6;obtain⟨A7,c7,b7,r7,u7,rfl,rfl,t7,l7,m7,h8⟩:=TN.eF h7;obtain⟨rfl,rfl⟩:=TN.end_ h8;exact⟨A0,c0,b0,A1,c1,b1,A4,c4,b4,A5,c5,b5,A6,c6,b6,A7,c7,b7,rfl,by simp,t0,l0,m0,t1,l1,m1,t4,l4,m4,t5,l5,m5,t6,l6,m6,t7,l7,m7⟩
def ig.small(x:ig):Prop:=(x.book.length≤1048576∧∀y∈x.book,pG.small y)∧(x.schedule.length≤1048576)∧(x.net.small)∧(x.origins.length≤1048576∧∀y∈x.origins,fC.small y)∧(x.breaks.length≤1048576∧∀y∈x.breaks,jH.small y)∧(x.points.length≤1048576∧∀y∈x.points,dI.small y)
end Go.Tr
namespace Go.Tr
def kL.cells(p:kL):List Value:=[.int .i64 p.agent,.int .i64 p.slot]
end Go.Tr
namespace Go.Tr
open Go Go.RowKit
theorem _root_.Go.Calls.q{P:Program}{f:FuncId}{args:Array Value}{W:World}{v:Value}(h:Calls P f args W fun e w'=>e=.returned v∧W=w'):Calls P f args W fun e w'=>e=.returned v∧Ext W w':=
 h.mono fun _ _ ⟨a,b⟩=>⟨a,b▸Below.refl _ _⟩
def IB(k p:Int):Int:=if k==9 then p-1 else 0
def fieldsOf(a:gN):Int:=IB a.kind a.iT.length
end Go.Tr
