
/- Plain arithmetic: 32-bit wraps, the operators of the language, bounds as Bools. No program in it. -/
import Derived.Test.YtbdimbjclhmeoaaGreatSc
set_option linter.unusedSimpArgs false
set_option linter.unusedVariables false
namespace Go.Tr
open Go Go.RowKit
def gG(n lo hi:Int):Bool:=decide (lo<=n)&&decide (n<=hi)
theorem iU{n lo hi:Int}(h:gG n lo hi=true):lo<=n/\n<=hi:=by simpa[gG]using h
theorem YA{n lo hi:Int}(h:gG n lo hi=false):n<lo\/hi<n:=by
 simp only[gG,Bool.and_eq_false_iff,qP]at h;omega
theorem Ju{n lo hi:Int}(h1:lo<=n)(h2:n<=hi):gG n lo hi=true:=by simp[gG,h1,h2]
def oG(k:Int):Bool:=gG k 1 12
def bX(k:Int):Bool:=oG k&&k !=1&&k !=5&&k !=6
def y5(n:Int):Bool:=gG n 0 8
def dz(k l:Int):Bool:=oG k&&(l==0||(bX k&&y5 l))
def oW(k:Int):Bool:=k==3||k==7||k==8||k==10||k==11
def tT(t k l:Int):Bool:=y5 t&&dz k l&&(k==6||k==12||(bX k&&decide (t<l)))
def rule(ka la kb lb:Int):Int:=
 if ka=5 then 4
 else if ka=4 then(if kb==4&&la==lb then 2 else if tT la kb lb then 3 else 0)
 else if ka=2 then(if kb==3&&la==lb then 1 else 0)
 else if ka=6 then(if kb==7||kb==8 then 5 else if kb==11 then 6 else 0)
 else if ka=9 then(if kb==10 then 6 else 0)
 else if ka=12 then(if oW kb then 7 else 0)
 else 0
def lJ(ka la kb lb:Int):Bool:=dz ka la&&dz kb lb&&ka !=1&&kb !=1
def aT(ka la kb lb:Int):Int:=if lJ ka la kb lb then(if rule ka la kb lb=0 then(if rule kb lb ka la=0 then 8 else rule kb lb ka la)else rule ka la kb lb)else 0
def aP(ka la kb lb:Int):Int:=if lJ ka la kb lb then(if rule ka la kb lb=0 then(if rule kb lb ka la=0 then 0 else 2)else 1)else 0
def bS(k f:Int):Int:=
 if k=9 then(if gG f 0 3 then f+1 else 0)else if f=0 then
  (if k=1\/k=5\/k=6\/k=12 then 1 else if k=8\/k=10\/k=11 then 2 else if k=2\/k=3\/k=4\/k=7 then 3 else 0)else 0
theorem Nb{k:Int}(h:oG k=true):k=1\/k=2\/k=3\/k=4\/k=5\/k=6\/k=7\/k=8\/k=9\/k=10\/k=11\/k=12:=by
 have:=iU h;omega
theorem Bo{k:Int}(h:oG k=false):bX k=false:=by simp[bX,h]
theorem nS(ka la kb lb:Int):0<=rule ka la kb lb/\rule ka la kb lb<=7:=by
 unfold rule;(repeat' split)<;>omega
theorem xO{i k:Int}(h:tT i 4 k=true):i<k:=by
 simp only[tT,qD,Bool.or_eq_true]at h;obtain⟨_,h⟩:=h;rcases h with(h|h)|h
 .exact absurd h (by decide)
 .exact absurd h (by decide)
 .simpa using h.2
theorem KD{i b k:Int}(h:tT i b k=true):b≠5:=by
 rintro rfl;simp[tT,bX]at h
theorem RB{ka la kb lb:Int}(h1:rule ka la kb lb≠0)(h2:rule kb lb ka la≠0):rule ka la kb lb=rule kb lb ka la/\(rule ka la kb lb=2\/rule ka la kb lb=4):=by
 by_cases a5:ka=5
 .subst a5
  by_cases b5:kb=5
  .subst b5;simp[rule]
  .exfalso;revert h2;unfold rule;rw[if_neg b5];split
   .rw[if_neg (by simp),if_neg (fun h=>KD h rfl)];simp
   .simp[oW]
 by_cases b5:kb=5
 .subst b5;exfalso;revert h1;unfold rule;rw[if_neg a5];split
  .rw[if_neg (by simp),if_neg (fun h=>KD h rfl)];simp
  .simp[oW]
 by_cases a4:ka=4
 .subst a4
  by_cases b4:kb=4
  .subst b4
   by_cases e:la=lb
   .subst e;simp[rule]
   .exfalso;have e':¬lb=la:=fun h=>e h.symm
    simp[rule,e,e']at h1 h2;have:=xO h1;have:=xO h2;omega
  .exfalso;revert h2;unfold rule;simp[b5,b4,oW]
 by_cases b4:kb=4
 .subst b4;exfalso;revert h1;unfold rule;simp[a5,a4,oW]
 exfalso;revert h1 h2;unfold rule;simp only[a5,b5,a4,b4,if_false]
 by_cases a2:ka=2
 .subst a2;simp[oW]
  try (intro h _;subst h;simp)
 by_cases a6:ka=6
 .subst a6;simp[oW]
  try
   split
   .rename_i h;rcases h with rfl|rfl<;>simp
   .split
    .rename_i h;subst h;simp
    .simp
 by_cases a9:ka=9
 .subst a9;simp[oW]
  try (intro h;subst h;simp)
 by_cases a12:ka=12
 .subst a12;intro h
  have hc:oW kb=true:=by
   cases hc:oW kb with
   |true=>rfl
   |false=>simp[hc]at h
  simp only[oW,Bool.or_eq_true,beq_iff_eq]at hc;rcases hc with(((rfl|rfl)|rfl)|rfl)|rfl<;>simp
 .simp[a2,a6,a9,a12]
theorem Rl(ka la kb lb:Int):lJ ka la kb lb=lJ kb lb ka la:=by
 simp only[lJ];cases dz ka la<;>cases dz kb lb<;>cases (ka !=1)<;>cases (kb !=1)<;>rfl
theorem nY(ka la kb lb:Int):aT kb lb ka la=aT ka la kb lb:=by
 unfold aT;rw[Rl kb lb ka la]
 by_cases h1:rule ka la kb lb=0<;>by_cases h2:rule kb lb ka la=0
 .simp[h1,h2]
 .simp[h1,h2]
 .simp[h1,h2]
 .simp[h1,h2,(RB h1 h2).1]
structure aU where
 agent:Int
 slot:Int
def aU.enc(x:aU):List D:=[.v (.int .i64 x.agent),.v (.int .i64 x.slot)]
theorem aU.bQ(x:aU):x.enc.length=2:=rfl
theorem aU.us{w:World}{x:aU}{bs us}(h0:TN w x.enc bs us):us=[.int .i64 x.agent,.int .i64 x.slot]/\bs=[]:=by
 unfold aU.enc at h0;obtain⟨u0,rfl,h1⟩:=TN.nu h0;obtain⟨u1,rfl,h2⟩:=TN.nu h1;obtain⟨rfl,rfl⟩:=TN.end_ h2;exact⟨rfl,rfl⟩
theorem aU.JB{w:World}{x:aU}:TN w x.enc ([]) [.int .i64 x.agent,.int .i64 x.slot]:=by
 have h:=(show TN w [.v (.int .i64 x.agent),.v (.int .i64 x.slot)] _ _ from TN.vR rfl (TN.vR rfl (TN.done)))
 try simp only[qS]at h
 unfold aU.enc
 first|exact h|simpa only[qF]using h
theorem aU.wL{w:World}{xs:List aU}{bs:dF}{A:Option Addr}{n n' c:Nat}(h:T1 w (.sl n (xs.flatMap aU.enc)) bs (.slice A n' c))(hm:xs.length=n){k:Nat}(hk:k<n):
  ∃(b off:Nat) (x:aU),A=some ⟨b,off,none⟩/\b<w.heap.size/\Hid (xs[k]? =some x)/\w.cell? ⟨b,off+k*2,none⟩=some (.int .i64 x.agent)/\w.cell? ⟨b,off+k*2+1,none⟩=some (.int .i64 x.slot):=by
 obtain⟨_,b,off,p1,p2,p3,us,hA,_,hb,hc,ht⟩:=T1.at_ aU.bQ h hm hk;obtain⟨rfl,_⟩:=aU.us ht;exact⟨b,off,xs[k],hA,hb,qB (hm▸hk),hc 0 _ rfl,hc 1 _ rfl⟩
theorem aU.MZ{x y:aU}(h0:x.agent=y.agent)(h1:x.slot=y.slot):x=y:=by
 cases x;cases y;simp_all
def aU.small(_x:aU):Prop:=True
structure aH where
 kind:Int
 level:Int
 value:Int
 data:(List Int)
 aO:(List aU)
def aH.enc(x:aH):List D:=[.v (.int .i64 x.kind),.v (.int .i64 x.level),.v (.int .i64 x.value),.sl x.data.length (x.data.flatMap dJ),.sl x.aO.length (x.aO.flatMap aU.enc)]
theorem aH.bQ(x:aH):x.enc.length=5:=rfl
theorem aH.us{w:World}{x:aH}{bs us}(h0:TN w x.enc bs us):∃(A3:Option Addr) (c3:Nat) (b3:dF) (A4:Option Addr) (c4:Nat) (b4:dF),us=[.int .i64 x.kind,.int .i64 x.level,.int .i64 x.value,.slice A3 x.data.length c3,.slice A4 x.aO.length c4]/\bs=b3++b4/\T1 w (.sl x.data.length (x.data.flatMap dJ)) b3 (.slice A3 x.data.length c3)/\x.data.length<=c3/\c3<=maxLen/\T1 w (.sl x.aO.length (x.aO.flatMap aU.enc)) b4 (.slice A4 x.aO.length c4)/\x.aO.length<=c4/\c4<=maxLen:=by
 unfold aH.enc at h0;obtain⟨u0,rfl,h1⟩:=TN.nu h0;obtain⟨u1,rfl,h2⟩:=TN.nu h1;obtain⟨u2,rfl,h3⟩:=TN.nu h2;obtain⟨A3,c3,b3,r3,u3,rfl,rfl,t3,l3,m3,h4⟩:=TN.Dl h3;obtain⟨A4,c4,b4,r4,u4,rfl,rfl,t4,l4,m4,h5⟩:=TN.Dl h4;obtain⟨rfl,rfl⟩:=TN.end_ h5;exact⟨A3,c3,b3,A4,c4,b4,rfl,by simp,t3,l3,m3,t4,l4,m4⟩
theorem aH.JB{w:World}{x:aH}{A3 c3 b3}(t3:T1 w (.sl x.data.length (x.data.flatMap dJ)) b3 (.slice A3 x.data.length c3)){A4 c4 b4}(t4:T1 w (.sl x.aO.length (x.aO.flatMap aU.enc)) b4 (.slice A4 x.aO.length c4)):TN w x.enc (b3++b4) [.int .i64 x.kind,.int .i64 x.level,.int .i64 x.value,.slice A3 x.data.length c3,.slice A4 x.aO.length c4]:=by
 have h:=(show TN w [.v (.int .i64 x.kind),.v (.int .i64 x.level),.v (.int .i64 x.value),.sl x.data.length (x.data.flatMap dJ),.sl x.aO.length (x.aO.flatMap aU.enc)] _ _ from TN.vR rfl (TN.vR rfl (TN.vR rfl (TN.FC t3 (TN.FC t4 (TN.done))))))
 try simp only[qS]at h
 unfold aH.enc
 first|exact h|simpa only[qF]using h
theorem aH.wL{w:World}{xs:List aH}{bs:dF}{A:Option Addr}{n n' c:Nat}(h:T1 w (.sl n (xs.flatMap aH.enc)) bs (.slice A n' c))(hm:xs.length=n){k:Nat}(hk:k<n):
  ∃(b off:Nat) (x:aH) (A3:Option Addr) (c3:Nat) (b3:List Nat) (A4:Option Addr) (c4:Nat) (b4:List Nat),A=some ⟨b,off,none⟩/\b<w.heap.size/\Hid (xs[k]? =some x)/\w.cell? ⟨b,off+k*5,none⟩=some (.int .i64 x.kind)/\w.cell? ⟨b,off+k*5+1,none⟩=some (.int .i64 x.level)/\w.cell? ⟨b,off+k*5+2,none⟩=some (.int .i64 x.value)/\w.cell? ⟨b,off+k*5+3,none⟩=some (.slice A3 x.data.length c3)/\w.cell? ⟨b,off+k*5+4,none⟩=some (.slice A4 x.aO.length c4)/\T1 w (.sl x.data.length (x.data.flatMap dJ)) b3 (.slice A3 x.data.length c3)/\x.data.length<=c3/\c3<=maxLen/\T1 w (.sl x.aO.length (x.aO.flatMap aU.enc)) b4 (.slice A4 x.aO.length c4)/\x.aO.length<=c4/\c4<=maxLen:=by
 obtain⟨_,b,off,p1,p2,p3,us,hA,_,hb,hc,ht⟩:=T1.at_ aH.bQ h hm hk;obtain⟨A3,c3,b3,A4,c4,b4,rfl,_,t3,l3,m3,t4,l4,m4⟩:=aH.us ht;exact⟨b,off,xs[k],A3,c3,b3,A4,c4,b4,hA,hb,qB (hm▸hk),hc 0 _ rfl,hc 1 _ rfl,hc 2 _ rfl,hc 3 _ rfl,hc 4 _ rfl,t3,l3,m3,t4,l4,m4⟩
theorem aH.MZ{x y:aH}(h0:x.kind=y.kind)(h1:x.level=y.level)(h2:x.value=y.value)(h3:x.data=y.data)(h4:x.aO=y.aO):x=y:=by
 cases x;cases y;simp_all
def aH.wt(x:aH):Nat:=Ka (fun _=>0) x.data+Ka (fun _=>0) x.aO
def aH.small(x:aH):Prop:=(x.data.length<=1048576)/\(x.aO.length<=1048576/\∀y∈x.aO,aU.small y)
structure bC where
 agents:(List aH)
def bC.enc(x:bC):List D:=[.sl x.agents.length (x.agents.flatMap aH.enc)]
theorem bC.bQ(x:bC):x.enc.length=1:=rfl
theorem bC.us{w:World}{x:bC}{bs us}(h0:TN w x.enc bs us):∃(A0:Option Addr) (c0:Nat) (b0:dF),us=[.slice A0 x.agents.length c0]/\bs=b0/\T1 w (.sl x.agents.length (x.agents.flatMap aH.enc)) b0 (.slice A0 x.agents.length c0)/\x.agents.length<=c0/\c0<=maxLen:=by
 unfold bC.enc at h0;obtain⟨A0,c0,b0,r0,u0,rfl,rfl,t0,l0,m0,h1⟩:=TN.Dl h0;obtain⟨rfl,rfl⟩:=TN.end_ h1;exact⟨A0,c0,b0,rfl,by simp,t0,l0,m0⟩
theorem bC.JB{w:World}{x:bC}{A0 c0 b0}(t0:T1 w (.sl x.agents.length (x.agents.flatMap aH.enc)) b0 (.slice A0 x.agents.length c0)):TN w x.enc (b0) [.slice A0 x.agents.length c0]:=by
 have h:=(show TN w [.sl x.agents.length (x.agents.flatMap aH.enc)] _ _ from TN.FC t0 (TN.done))
 try simp only[qS]at h
 unfold bC.enc
 first|exact h|simpa only[qF]using h
theorem bC.wL{w:World}{xs:List bC}{bs:dF}{A:Option Addr}{n n' c:Nat}(h:T1 w (.sl n (xs.flatMap bC.enc)) bs (.slice A n' c))(hm:xs.length=n){k:Nat}(hk:k<n):
  ∃(b off:Nat) (x:bC) (A0:Option Addr) (c0:Nat) (b0:List Nat),A=some ⟨b,off,none⟩/\b<w.heap.size/\Hid (xs[k]? =some x)/\w.cell? ⟨b,off+k,none⟩=some (.slice A0 x.agents.length c0)/\T1 w (.sl x.agents.length (x.agents.flatMap aH.enc)) b0 (.slice A0 x.agents.length c0)/\x.agents.length<=c0/\c0<=maxLen:=by
 obtain⟨_,b,off,p1,p2,p3,us,hA,_,hb,hc,ht⟩:=T1.at_ bC.bQ h hm hk;obtain⟨A0,c0,b0,rfl,_,t0,l0,m0⟩:=bC.us ht;exact⟨b,off,xs[k],A0,c0,b0,hA,hb,qB (hm▸hk),by simpa using hc 0 _ rfl,t0,l0,m0⟩
theorem bC.MZ{x y:bC}(h0:x.agents=y.agents):x=y:=by
 cases x;cases y;simp_all
def bC.wt(x:bC):Nat:=Ka aH.wt x.agents
def bC.small(x:bC):Prop:=(x.agents.length<=1048576/\∀y∈x.agents,aH.small y)
end Go.Tr
namespace Go.Tr
end Go.Tr
namespace Go.Tr
open Go Go.RowKit
theorem _root_.Go.Calls.q{P:Program}{f:FuncId}{args:Array Value}{W:World}{v:Value}(h:Calls P f args W fun e w'=>e=.returned v/\W=w'):Calls P f args W fun e w'=>e=.returned v/\Ext W w':=
 h.mono fun _ _ ⟨a,b⟩=>⟨a,b▸Below.refl _ _⟩
def dP(k p:Int):Int:=if k==9 then p-1 else 0
def fieldsOf(a:aH):Int:=dP a.kind a.aO.length
def jU(n:Int):Bool:=gG n 0 23
def rD(n:Int):Bool:=gG n (-2147483648) 2147483647
def kW(n:Int):Bool:=gG n 1 6
def iy(l:List Int)(k:Nat):Int:=l.getD k 0
theorem TW{l:List Int}{k:Nat}{x:Int}(h:Hid (l[k]? =some x)):iy l k=x:=by unfold iy;rw[qC,h.out];rfl
def kV(l:List Int):Bool:=eD l.length fun k=>jU (iy l k)
def fQ(a:aH):Bool:=
 if a.kind==6 then((a.data.length:Int)==0)&&rD a.value
 else if a.kind==7 then((a.data.length:Int)==0)&&kW a.value
 else if a.kind==8 then((a.data.length:Int)==1)&&kW a.value&&rD (iy a.data 0)
 else if a.kind==9 then((a.data.length:Int)==0)&&gG a.value 0 3
 else if a.kind==12 then((a.data.length:Int)==0)&&jU a.value
 else if a.kind==10 then a.value==0&&gG a.data.length 1 4&&kV a.data
 else if a.kind==11 then a.value==0&&((a.data.length:Int)==2)&&kV a.data
 else a.value==0&&((a.data.length:Int)==0)
def gD(a:aH):Bool:=decide (0<bS a.kind (fieldsOf a))&&(a.aO.length:Int)==bS a.kind (fieldsOf a)&&dz a.kind a.level&&fQ a
def UG:aH:=⟨0,0,0,[],[]⟩
def Xw:aU:=⟨0,0⟩
def jL(l:List aH)(k:Nat):aH:=l.getD k UG
def BL(l:List aU)(k:Nat):aU:=l.getD k Xw
def mO(l:List aH)(k:Nat):Bool:=gD (jL l k)&&((jL l k).kind==1)==((k:Int)==0)
def fV(l:List aH):Bool:=gG l.length 1 600&&eD l.length (mO l)
def jh(l:List aH)(p:aU):Bool:=gG p.agent 0 ((l.length:Int)-1)&&gG p.slot 0 (((jL l p.agent.toNat).aO.length:Int)-1)
def Nv(l:List aH)(p:aU):aU:=BL (jL l p.agent.toNat).aO p.slot.toNat
noncomputable def Qr(l:List aH)(me p:aU):Bool:= !yE p me&&jh l p&&yE (Nv l p) me
noncomputable def pX(l:List aH)(i:Nat):Bool:=eD (jL l i).aO.length fun k=>Qr l ⟨i,k⟩ (BL (jL l i).aO k)
noncomputable def iB(n:bC):Bool:=fV n.agents&&eD n.agents.length (pX n.agents)
def ZJ:bC:=⟨[]⟩
def Uz(l:List bC)(k:Nat):bC:=l.getD k ZJ
noncomputable def jM(l:List bC):Bool:=decide ((l.length:Int)<=24)&&eD l.length fun k=>iB (Uz l k)
end Go.Tr
