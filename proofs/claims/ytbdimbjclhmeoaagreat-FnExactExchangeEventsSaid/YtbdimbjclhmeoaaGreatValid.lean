
/- Plain arithmetic: 32-bit wraps, the operators of the language, bounds as Bools. No program in it. -/
import Derived.Test.YtbdimbjclhmeoaaGreatShort
import Derived.Test.YtbdimbjclhmeoaaGreatSc
set_option linter.unusedSimpArgs false
set_option linter.unusedVariables false
namespace Go.Tr
open Go Go.RowKit
def fA(n lo hi:Int):Bool:=decide (lo≤n)&&decide (n≤hi)
theorem iw{n lo hi:Int}(h:fA n lo hi=true):lo≤n∧n≤hi:=by simpa[fA]using h
theorem Xd{n lo hi:Int}(h:fA n lo hi=false):n<lo∨hi<n:=by
 simp only[fA,Bool.and_eq_false_iff,qP]at h;omega
theorem Ii{n lo hi:Int}(h1:lo≤n)(h2:n≤hi):fA n lo hi=true:=by simp[fA,h1,h2]
def oC(k:Int):Bool:=fA k 1 12
def bY(k:Int):Bool:=oC k&&k !=1&&k !=5&&k !=6
def yg(n:Int):Bool:=fA n 0 8
def dh(k l:Int):Bool:=oC k&&(l==0||(bY k&&yg l))
def oN(k:Int):Bool:=k==3||k==7||k==8||k==10||k==11
def xJ(t k l:Int):Bool:=yg t&&dh k l&&(k==6||k==12||(bY k&&decide (t<l)))
def rule(ka la kb lb:Int):Int:=
 if ka=5 then 4
 else if ka=4 then(if kb==4&&la==lb then 2 else if xJ la kb lb then 3 else 0)
 else if ka=2 then(if kb==3&&la==lb then 1 else 0)
 else if ka=6 then(if kb==7||kb==8 then 5 else if kb==11 then 6 else 0)
 else if ka=9 then(if kb==10 then 6 else 0)
 else if ka=12 then(if oN kb then 7 else 0)
 else 0
def lD(ka la kb lb:Int):Bool:=dh ka la&&dh kb lb&&ka !=1&&kb !=1
def aU(ka la kb lb:Int):Int:=if lD ka la kb lb then(if rule ka la kb lb=0 then(if rule kb lb ka la=0 then 8 else rule kb lb ka la)else rule ka la kb lb)else 0
def aQ(ka la kb lb:Int):Int:=if lD ka la kb lb then(if rule ka la kb lb=0 then(if rule kb lb ka la=0 then 0 else 2)else 1)else 0
def bS(k f:Int):Int:=
 if k=9 then(if fA f 0 3 then f+1 else 0)else if f=0 then
  (if k=1∨k=5∨k=6∨k=12 then 1 else if k=8∨k=10∨k=11 then 2 else if k=2∨k=3∨k=4∨k=7 then 3 else 0)else 0
theorem Ma{k:Int}(h:oC k=true):k=1∨k=2∨k=3∨k=4∨k=5∨k=6∨k=7∨k=8∨k=9∨k=10∨k=11∨k=12:=by
 have:=iw h;omega
theorem Af{k:Int}(h:oC k=false):bY k=false:=by simp[bY,h]
theorem rH(ka la kb lb:Int):0≤rule ka la kb lb∧rule ka la kb lb≤7:=by
 unfold rule;(repeat' split)<;>omega
theorem BO{i k:Int}(h:xJ i 4 k=true):i<k:=by
 simp only[xJ,qD,Bool.or_eq_true]at h;obtain⟨_,h⟩:=h;rcases h with(h|h)|h
 ·exact absurd h (by decide)
 ·exact absurd h (by decide)
 ·simpa using h.2
theorem JA{i b k:Int}(h:xJ i b k=true):b≠5:=by
 rintro rfl;simp[xJ,bY]at h
theorem Qw{ka la kb lb:Int}(h1:rule ka la kb lb≠0)(h2:rule kb lb ka la≠0):rule ka la kb lb=rule kb lb ka la∧(rule ka la kb lb=2∨rule ka la kb lb=4):=by
 by_cases a5:ka=5
 ·subst a5
  by_cases b5:kb=5
  ·subst b5;simp[rule]
  ·exfalso;revert h2;unfold rule;rw[if_neg b5];split
   ·rw[if_neg (by simp),if_neg (fun h=>JA h rfl)];simp
   ·simp[oN]
 by_cases b5:kb=5
 ·subst b5;exfalso;revert h1;unfold rule;rw[if_neg a5];split
  ·rw[if_neg (by simp),if_neg (fun h=>JA h rfl)];simp
  ·simp[oN]
 by_cases a4:ka=4
 ·subst a4
  by_cases b4:kb=4
  ·subst b4
   by_cases e:la=lb
   ·subst e;simp[rule]
   ·exfalso;have e':¬lb=la:=fun h=>e h.symm
    simp[rule,e,e']at h1 h2;have:=BO h1;have:=BO h2;omega
  ·exfalso;revert h2;unfold rule;simp[b5,b4,oN]
 by_cases b4:kb=4
 ·subst b4;exfalso;revert h1;unfold rule;simp[a5,a4,oN]
 exfalso;revert h1 h2;unfold rule;simp only[a5,b5,a4,b4,if_false]
 by_cases a2:ka=2
 ·subst a2;simp[oN]
  try (intro h _;subst h;simp)
 by_cases a6:ka=6
 ·subst a6;simp[oN]
  try
   split
   ·rename_i h;rcases h with rfl|rfl<;>simp
   ·split
    ·rename_i h;subst h;simp
    ·simp
 by_cases a9:ka=9
 ·subst a9;simp[oN]
  try (intro h;subst h;simp)
 by_cases a12:ka=12
 ·subst a12;intro h
  have hc:oN kb=true:=by
   cases hc:oN kb with
   |true=>rfl
   |false=>simp[hc]at h
  simp only[oN,Bool.or_eq_true,beq_iff_eq]at hc;rcases hc with(((rfl|rfl)|rfl)|rfl)|rfl<;>simp
 ·simp[a2,a6,a9,a12]
theorem Qj(ka la kb lb:Int):lD ka la kb lb=lD kb lb ka la:=by
 simp only[lD];cases dh ka la<;>cases dh kb lb<;>cases (ka !=1)<;>cases (kb !=1)<;>rfl
theorem sV(ka la kb lb:Int):aU kb lb ka la=aU ka la kb lb:=by
 unfold aU;rw[Qj kb lb ka la]
 by_cases h1:rule ka la kb lb=0<;>by_cases h2:rule kb lb ka la=0
 ·simp[h1,h2]
 ·simp[h1,h2]
 ·simp[h1,h2]
 ·simp[h1,h2,(Qw h1 h2).1]
structure aR where
 agent:Int
 slot:Int
def aR.enc(x:aR):List D:=[.v (.int .i64 x.agent),.v (.int .i64 x.slot)]
theorem aR.bD(x:aR):x.enc.length=2:=rfl
theorem aR.us{w:World}{x:aR}{bs us}(h0:TN w x.enc bs us):us=[.int .i64 x.agent,.int .i64 x.slot]∧bs=[]:=by
 unfold aR.enc at h0;obtain⟨u0,rfl,h1⟩:=TN.iD h0;obtain⟨u1,rfl,h2⟩:=TN.iD h1;obtain⟨rfl,rfl⟩:=TN.end_ h2;exact⟨rfl,rfl⟩
theorem aR.Dn{w:World}{x:aR}:TN w x.enc ([]) [.int .i64 x.agent,.int .i64 x.slot]:=by
 have h:=(show TN w [.v (.int .i64 x.agent),.v (.int .i64 x.slot)] _ _ from TN.nR rfl (TN.nR rfl (TN.done)))
 try simp only[qS]at h
 unfold aR.enc
 first|exact h|simpa only[qF]using h
theorem aR.sS{w:World}{xs:List aR}{bs:List Nat}{A:Option Addr}{n n' c:Nat}(h:T1 w (.sl n (xs.flatMap aR.enc)) bs (.slice A n' c))(hm:xs.length=n){k:Nat}(hk:k<n):
  ∃(b off:Nat) (x:aR),A=some ⟨b,off,none⟩∧b<w.heap.size∧Hid (xs[k]? =some x)∧w.cell? ⟨b,off+k*2,none⟩=some (.int .i64 x.agent)∧w.cell? ⟨b,off+k*2+1,none⟩=some (.int .i64 x.slot):=by
 obtain⟨_,b,off,p1,p2,p3,us,hA,_,hb,hc,ht⟩:=T1.at_ aR.bD h hm hk;obtain⟨rfl,_⟩:=aR.us ht;exact⟨b,off,xs[k],hA,hb,qB (hm▸hk),hc 0 _ rfl,hc 1 _ rfl⟩
theorem aR.CS{x y:aR}(h0:x.agent=y.agent)(h1:x.slot=y.slot):x=y:=by
 cases x;cases y;simp_all
def aR.wt(_x:aR):Nat:=0
def aR.small(_x:aR):Prop:=True
structure aD where
 kind:Int
 level:Int
 value:Int
 data:(List Int)
 aN:(List aR)
def aD.enc(x:aD):List D:=[.v (.int .i64 x.kind),.v (.int .i64 x.level),.v (.int .i64 x.value),.sl x.data.length (x.data.flatMap dI),.sl x.aN.length (x.aN.flatMap aR.enc)]
theorem aD.bD(x:aD):x.enc.length=5:=rfl
theorem aD.us{w:World}{x:aD}{bs us}(h0:TN w x.enc bs us):∃(A3:Option Addr) (c3:Nat) (b3:List Nat) (A4:Option Addr) (c4:Nat) (b4:List Nat),us=[.int .i64 x.kind,.int .i64 x.level,.int .i64 x.value,.slice A3 x.data.length c3,.slice A4 x.aN.length c4]∧bs=b3++b4∧T1 w (.sl x.data.length (x.data.flatMap dI)) b3 (.slice A3 x.data.length c3)∧x.data.length≤c3∧c3≤maxLen∧T1 w (.sl x.aN.length (x.aN.flatMap aR.enc)) b4 (.slice A4 x.aN.length c4)∧x.aN.length≤c4∧c4≤maxLen:=by
 unfold aD.enc at h0;obtain⟨u0,rfl,h1⟩:=TN.iD h0;obtain⟨u1,rfl,h2⟩:=TN.iD h1;obtain⟨u2,rfl,h3⟩:=TN.iD h2;obtain⟨A3,c3,b3,r3,u3,rfl,rfl,t3,l3,m3,h4⟩:=TN.kN h3;obtain⟨A4,c4,b4,r4,u4,rfl,rfl,t4,l4,m4,h5⟩:=TN.kN h4;obtain⟨rfl,rfl⟩:=TN.end_ h5;exact⟨A3,c3,b3,A4,c4,b4,rfl,by simp,t3,l3,m3,t4,l4,m4⟩
theorem aD.Dn{w:World}{x:aD}{A3 c3 b3}(t3:T1 w (.sl x.data.length (x.data.flatMap dI)) b3 (.slice A3 x.data.length c3)){A4 c4 b4}(t4:T1 w (.sl x.aN.length (x.aN.flatMap aR.enc)) b4 (.slice A4 x.aN.length c4)):TN w x.enc (b3++b4) [.int .i64 x.kind,.int .i64 x.level,.int .i64 x.value,.slice A3 x.data.length c3,.slice A4 x.aN.length c4]:=by
 have h:=(show TN w [.v (.int .i64 x.kind),.v (.int .i64 x.level),.v (.int .i64 x.value),.sl x.data.length (x.data.flatMap dI),.sl x.aN.length (x.aN.flatMap aR.enc)] _ _ from TN.nR rfl (TN.nR rfl (TN.nR rfl (TN.rJ t3 (TN.rJ t4 (TN.done))))))
 try simp only[qS]at h
 unfold aD.enc
 first|exact h|simpa only[qF]using h
theorem aD.sS{w:World}{xs:List aD}{bs:List Nat}{A:Option Addr}{n n' c:Nat}(h:T1 w (.sl n (xs.flatMap aD.enc)) bs (.slice A n' c))(hm:xs.length=n){k:Nat}(hk:k<n):
  ∃(b off:Nat) (x:aD) (A3:Option Addr) (c3:Nat) (b3:List Nat) (A4:Option Addr) (c4:Nat) (b4:List Nat),A=some ⟨b,off,none⟩∧b<w.heap.size∧Hid (xs[k]? =some x)∧w.cell? ⟨b,off+k*5,none⟩=some (.int .i64 x.kind)∧w.cell? ⟨b,off+k*5+1,none⟩=some (.int .i64 x.level)∧w.cell? ⟨b,off+k*5+2,none⟩=some (.int .i64 x.value)∧w.cell? ⟨b,off+k*5+3,none⟩=some (.slice A3 x.data.length c3)∧w.cell? ⟨b,off+k*5+4,none⟩=some (.slice A4 x.aN.length c4)∧T1 w (.sl x.data.length (x.data.flatMap dI)) b3 (.slice A3 x.data.length c3)∧x.data.length≤c3∧c3≤maxLen∧T1 w (.sl x.aN.length (x.aN.flatMap aR.enc)) b4 (.slice A4 x.aN.length c4)∧x.aN.length≤c4∧c4≤maxLen:=by
 obtain⟨_,b,off,p1,p2,p3,us,hA,_,hb,hc,ht⟩:=T1.at_ aD.bD h hm hk;obtain⟨A3,c3,b3,A4,c4,b4,rfl,_,t3,l3,m3,t4,l4,m4⟩:=aD.us ht;exact⟨b,off,xs[k],A3,c3,b3,A4,c4,b4,hA,hb,qB (hm▸hk),hc 0 _ rfl,hc 1 _ rfl,hc 2 _ rfl,hc 3 _ rfl,hc 4 _ rfl,t3,l3,m3,t4,l4,m4⟩
theorem aD.CS{x y:aD}(h0:x.kind=y.kind)(h1:x.level=y.level)(h2:x.value=y.value)(h3:x.data=y.data)(h4:x.aN=y.aN):x=y:=by
 cases x;cases y;simp_all
def aD.wt(x:aD):Nat:=vH (fun _=>0) x.data+vH (fun _=>0) x.aN
def aD.small(x:aD):Prop:=(x.data.length≤1048576)∧(x.aN.length≤1048576∧∀y∈x.aN,aR.small y)
structure aW where
 agents:(List aD)
def aW.enc(x:aW):List D:=[.sl x.agents.length (x.agents.flatMap aD.enc)]
theorem aW.bD(x:aW):x.enc.length=1:=rfl
theorem aW.us{w:World}{x:aW}{bs us}(h0:TN w x.enc bs us):∃(A0:Option Addr) (c0:Nat) (b0:List Nat),us=[.slice A0 x.agents.length c0]∧bs=b0∧T1 w (.sl x.agents.length (x.agents.flatMap aD.enc)) b0 (.slice A0 x.agents.length c0)∧x.agents.length≤c0∧c0≤maxLen:=by
 unfold aW.enc at h0;obtain⟨A0,c0,b0,r0,u0,rfl,rfl,t0,l0,m0,h1⟩:=TN.kN h0;obtain⟨rfl,rfl⟩:=TN.end_ h1;exact⟨A0,c0,b0,rfl,by simp,t0,l0,m0⟩
theorem aW.Dn{w:World}{x:aW}{A0 c0 b0}(t0:T1 w (.sl x.agents.length (x.agents.flatMap aD.enc)) b0 (.slice A0 x.agents.length c0)):TN w x.enc (b0) [.slice A0 x.agents.length c0]:=by
 have h:=(show TN w [.sl x.agents.length (x.agents.flatMap aD.enc)] _ _ from TN.rJ t0 (TN.done))
 try simp only[qS]at h
 unfold aW.enc
 first|exact h|simpa only[qF]using h
theorem aW.sS{w:World}{xs:List aW}{bs:List Nat}{A:Option Addr}{n n' c:Nat}(h:T1 w (.sl n (xs.flatMap aW.enc)) bs (.slice A n' c))(hm:xs.length=n){k:Nat}(hk:k<n):
  ∃(b off:Nat) (x:aW) (A0:Option Addr) (c0:Nat) (b0:List Nat),A=some ⟨b,off,none⟩∧b<w.heap.size∧Hid (xs[k]? =some x)∧w.cell? ⟨b,off+k,none⟩=some (.slice A0 x.agents.length c0)∧T1 w (.sl x.agents.length (x.agents.flatMap aD.enc)) b0 (.slice A0 x.agents.length c0)∧x.agents.length≤c0∧c0≤maxLen:=by
 obtain⟨_,b,off,p1,p2,p3,us,hA,_,hb,hc,ht⟩:=T1.at_ aW.bD h hm hk;obtain⟨A0,c0,b0,rfl,_,t0,l0,m0⟩:=aW.us ht;exact⟨b,off,xs[k],A0,c0,b0,hA,hb,qB (hm▸hk),by simpa using hc 0 _ rfl,t0,l0,m0⟩
theorem aW.CS{x y:aW}(h0:x.agents=y.agents):x=y:=by
 cases x;cases y;simp_all
def aW.wt(x:aW):Nat:=vH aD.wt x.agents
def aW.small(x:aW):Prop:=(x.agents.length≤1048576∧∀y∈x.agents,aD.small y)
structure bg where
 step:Int
 def_:Int
 source:Int
def bg.enc(x:bg):List D:=[.v (.int .i64 x.step),.v (.int .i64 x.def_),.v (.int .i64 x.source)]
theorem bg.bD(x:bg):x.enc.length=3:=rfl
theorem bg.us{w:World}{x:bg}{bs us}(h0:TN w x.enc bs us):us=[.int .i64 x.step,.int .i64 x.def_,.int .i64 x.source]∧bs=[]:=by
 unfold bg.enc at h0;obtain⟨u0,rfl,h1⟩:=TN.iD h0;obtain⟨u1,rfl,h2⟩:=TN.iD h1;obtain⟨u2,rfl,h3⟩:=TN.iD h2;obtain⟨rfl,rfl⟩:=TN.end_ h3;exact⟨rfl,rfl⟩
theorem bg.Dn{w:World}{x:bg}:TN w x.enc ([]) [.int .i64 x.step,.int .i64 x.def_,.int .i64 x.source]:=by
 have h:=(show TN w [.v (.int .i64 x.step),.v (.int .i64 x.def_),.v (.int .i64 x.source)] _ _ from TN.nR rfl (TN.nR rfl (TN.nR rfl (TN.done))))
 try simp only[qS]at h
 unfold bg.enc
 first|exact h|simpa only[qF]using h
theorem bg.sS{w:World}{xs:List bg}{bs:List Nat}{A:Option Addr}{n n' c:Nat}(h:T1 w (.sl n (xs.flatMap bg.enc)) bs (.slice A n' c))(hm:xs.length=n){k:Nat}(hk:k<n):
  ∃(b off:Nat) (x:bg),A=some ⟨b,off,none⟩∧b<w.heap.size∧Hid (xs[k]? =some x)∧w.cell? ⟨b,off+k*3,none⟩=some (.int .i64 x.step)∧w.cell? ⟨b,off+k*3+1,none⟩=some (.int .i64 x.def_)∧w.cell? ⟨b,off+k*3+2,none⟩=some (.int .i64 x.source):=by
 obtain⟨_,b,off,p1,p2,p3,us,hA,_,hb,hc,ht⟩:=T1.at_ bg.bD h hm hk;obtain⟨rfl,_⟩:=bg.us ht;exact⟨b,off,xs[k],hA,hb,qB (hm▸hk),hc 0 _ rfl,hc 1 _ rfl,hc 2 _ rfl⟩
theorem bg.CS{x y:bg}(h0:x.step=y.step)(h1:x.def_=y.def_)(h2:x.source=y.source):x=y:=by
 cases x;cases y;simp_all
def bg.wt(_x:bg):Nat:=0
def bg.small(_x:bg):Prop:=True
structure dD where
 kind:Int
 value:Int
def dD.enc(x:dD):List D:=[.v (.int .i64 x.kind),.v (.int .i64 x.value)]
theorem dD.bD(x:dD):x.enc.length=2:=rfl
theorem dD.us{w:World}{x:dD}{bs us}(h0:TN w x.enc bs us):us=[.int .i64 x.kind,.int .i64 x.value]∧bs=[]:=by
 unfold dD.enc at h0;obtain⟨u0,rfl,h1⟩:=TN.iD h0;obtain⟨u1,rfl,h2⟩:=TN.iD h1;obtain⟨rfl,rfl⟩:=TN.end_ h2;exact⟨rfl,rfl⟩
theorem dD.Dn{w:World}{x:dD}:TN w x.enc ([]) [.int .i64 x.kind,.int .i64 x.value]:=by
 have h:=(show TN w [.v (.int .i64 x.kind),.v (.int .i64 x.value)] _ _ from TN.nR rfl (TN.nR rfl (TN.done)))
 try simp only[qS]at h
 unfold dD.enc
 first|exact h|simpa only[qF]using h
theorem dD.sS{w:World}{xs:List dD}{bs:List Nat}{A:Option Addr}{n n' c:Nat}(h:T1 w (.sl n (xs.flatMap dD.enc)) bs (.slice A n' c))(hm:xs.length=n){k:Nat}(hk:k<n):
  ∃(b off:Nat) (x:dD),A=some ⟨b,off,none⟩∧b<w.heap.size∧Hid (xs[k]? =some x)∧w.cell? ⟨b,off+k*2,none⟩=some (.int .i64 x.kind)∧w.cell? ⟨b,off+k*2+1,none⟩=some (.int .i64 x.value):=by
 obtain⟨_,b,off,p1,p2,p3,us,hA,_,hb,hc,ht⟩:=T1.at_ dD.bD h hm hk;obtain⟨rfl,_⟩:=dD.us ht;exact⟨b,off,xs[k],hA,hb,qB (hm▸hk),hc 0 _ rfl,hc 1 _ rfl⟩
theorem dD.CS{x y:dD}(h0:x.kind=y.kind)(h1:x.value=y.value):x=y:=by
 cases x;cases y;simp_all
def dD.wt(_x:dD):Nat:=0
def dD.small(_x:dD):Prop:=True
structure aO where
 at_:Int
 net:aW
 origins:(List bg)
def aO.enc(x:aO):List D:=[.v (.int .i64 x.at_),.sl x.net.agents.length (x.net.agents.flatMap aD.enc),.sl x.origins.length (x.origins.flatMap bg.enc)]
theorem aO.bD(x:aO):x.enc.length=3:=rfl
theorem aO.us{w:World}{x:aO}{bs us}(h0:TN w x.enc bs us):∃(A1:Option Addr) (c1:Nat) (b1:List Nat) (A2:Option Addr) (c2:Nat) (b2:List Nat),us=[.int .i64 x.at_,.slice A1 x.net.agents.length c1,.slice A2 x.origins.length c2]∧bs=b1++b2∧T1 w (.sl x.net.agents.length (x.net.agents.flatMap aD.enc)) b1 (.slice A1 x.net.agents.length c1)∧x.net.agents.length≤c1∧c1≤maxLen∧T1 w (.sl x.origins.length (x.origins.flatMap bg.enc)) b2 (.slice A2 x.origins.length c2)∧x.origins.length≤c2∧c2≤maxLen:=by
 unfold aO.enc at h0;obtain⟨u0,rfl,h1⟩:=TN.iD h0;obtain⟨A1,c1,b1,r1,u1,rfl,rfl,t1,l1,m1,h2⟩:=TN.kN h1;obtain⟨A2,c2,b2,r2,u2,rfl,rfl,t2,l2,m2,h3⟩:=TN.kN h2;obtain⟨rfl,rfl⟩:=TN.end_ h3;exact⟨A1,c1,b1,A2,c2,b2,rfl,by simp,t1,l1,m1,t2,l2,m2⟩
theorem aO.Dn{w:World}{x:aO}{A1 c1 b1}(t1:T1 w (.sl x.net.agents.length (x.net.agents.flatMap aD.enc)) b1 (.slice A1 x.net.agents.length c1)){A2 c2 b2}(t2:T1 w (.sl x.origins.length (x.origins.flatMap bg.enc)) b2 (.slice A2 x.origins.length c2)):TN w x.enc (b1++b2) [.int .i64 x.at_,.slice A1 x.net.agents.length c1,.slice A2 x.origins.length c2]:=by
 have h:=(show TN w [.v (.int .i64 x.at_),.sl x.net.agents.length (x.net.agents.flatMap aD.enc),.sl x.origins.length (x.origins.flatMap bg.enc)] _ _ from TN.nR rfl (TN.rJ t1 (TN.rJ t2 (TN.done))))
 try simp only[qS]at h
 unfold aO.enc
 first|exact h|simpa only[qF]using h
theorem aO.sS{w:World}{xs:List aO}{bs:List Nat}{A:Option Addr}{n n' c:Nat}(h:T1 w (.sl n (xs.flatMap aO.enc)) bs (.slice A n' c))(hm:xs.length=n){k:Nat}(hk:k<n):
  ∃(b off:Nat) (x:aO) (A1:Option Addr) (c1:Nat) (b1:List Nat) (A2:Option Addr) (c2:Nat) (b2:List Nat),A=some ⟨b,off,none⟩∧b<w.heap.size∧Hid (xs[k]? =some x)∧w.cell? ⟨b,off+k*3,none⟩=some (.int .i64 x.at_)∧w.cell? ⟨b,off+k*3+1,none⟩=some (.slice A1 x.net.agents.length c1)∧w.cell? ⟨b,off+k*3+2,none⟩=some (.slice A2 x.origins.length c2)∧T1 w (.sl x.net.agents.length (x.net.agents.flatMap aD.enc)) b1 (.slice A1 x.net.agents.length c1)∧x.net.agents.length≤c1∧c1≤maxLen∧T1 w (.sl x.origins.length (x.origins.flatMap bg.enc)) b2 (.slice A2 x.origins.length c2)∧x.origins.length≤c2∧c2≤maxLen:=by
 obtain⟨_,b,off,p1,p2,p3,us,hA,_,hb,hc,ht⟩:=T1.at_ aO.bD h hm hk;obtain⟨A1,c1,b1,A2,c2,b2,rfl,_,t1,l1,m1,t2,l2,m2⟩:=aO.us ht;exact⟨b,off,xs[k],A1,c1,b1,A2,c2,b2,hA,hb,qB (hm▸hk),hc 0 _ rfl,hc 1 _ rfl,hc 2 _ rfl,t1,l1,m1,t2,l2,m2⟩
theorem aO.CS{x y:aO}(h0:x.at_=y.at_)(h1:x.net=y.net)(h2:x.origins=y.origins):x=y:=by
 cases x;cases y;simp_all
def aO.wt(x:aO):Nat:=x.net.wt+vH (fun _=>0) x.origins
def aO.small(x:aO):Prop:=(x.net.small)∧(x.origins.length≤1048576∧∀y∈x.origins,bg.small y)
structure bP where
 book:(List aW)
 schedule:(List Int)
 every:Int
 at_:Int
 net:aW
 origins:(List bg)
 breaks:(List dD)
 points:(List aO)
def bP.enc(x:bP):List D:=[.sl x.book.length (x.book.flatMap aW.enc),.sl x.schedule.length (x.schedule.flatMap dI),.v (.int .i64 x.every),.v (.int .i64 x.at_),.sl x.net.agents.length (x.net.agents.flatMap aD.enc),.sl x.origins.length (x.origins.flatMap bg.enc),.sl x.breaks.length (x.breaks.flatMap dD.enc),.sl x.points.length (x.points.flatMap aO.enc)]
theorem bP.bD(x:bP):x.enc.length=8:=rfl
theorem bP.us{w:World}{x:bP}{bs us}(h0:TN w x.enc bs us):∃(A0:Option Addr) (c0:Nat) (b0:List Nat) (A1:Option Addr) (c1:Nat) (b1:List Nat) (A4:Option Addr) (c4:Nat) (b4:List Nat) (A5:Option Addr) (c5:Nat) (b5:List Nat) (A6:Option Addr) (c6:Nat) (b6:List Nat) (A7:Option Addr) (c7:Nat) (b7:List Nat),us=[.slice A0 x.book.length c0,.slice A1 x.schedule.length c1,.int .i64 x.every,.int .i64 x.at_,.slice A4 x.net.agents.length c4,.slice A5 x.origins.length c5,.slice A6 x.breaks.length c6,.slice A7 x.points.length c7]∧bs=b0++b1++b4++b5++b6++b7∧T1 w (.sl x.book.length (x.book.flatMap aW.enc)) b0 (.slice A0 x.book.length c0)∧x.book.length≤c0∧c0≤maxLen∧T1 w (.sl x.schedule.length (x.schedule.flatMap dI)) b1 (.slice A1 x.schedule.length c1)∧x.schedule.length≤c1∧c1≤maxLen∧T1 w (.sl x.net.agents.length (x.net.agents.flatMap aD.enc)) b4 (.slice A4 x.net.agents.length c4)∧x.net.agents.length≤c4∧c4≤maxLen∧T1 w (.sl x.origins.length (x.origins.flatMap bg.enc)) b5 (.slice A5 x.origins.length c5)∧x.origins.length≤c5∧c5≤maxLen∧T1 w (.sl x.breaks.length (x.breaks.flatMap dD.enc)) b6 (.slice A6 x.breaks.length c6)∧x.breaks.length≤c6∧c6≤maxLen∧T1 w (.sl x.points.length (x.points.flatMap aO.enc)) b7 (.slice A7 x.points.length c7)∧x.points.length≤c7∧c7≤maxLen:=by
 unfold bP.enc at h0;obtain⟨A0,c0,b0,r0,u0,rfl,rfl,t0,l0,m0,h1⟩:=TN.kN h0;obtain⟨A1,c1,b1,r1,u1,rfl,rfl,t1,l1,m1,h2⟩:=TN.kN h1;obtain⟨u2,rfl,h3⟩:=TN.iD h2;obtain⟨u3,rfl,h4⟩:=TN.iD h3;obtain⟨A4,c4,b4,r4,u4,rfl,rfl,t4,l4,m4,h5⟩:=TN.kN h4;obtain⟨A5,c5,b5,r5,u5,rfl,rfl,t5,l5,m5,h6⟩:=TN.kN h5;obtain⟨A6,c6,b6,r6,u6,rfl,rfl,t6,l6,m6,h7⟩:=TN.kN h6;obtain⟨A7,c7,b7,r7,u7,rfl,rfl,t7,l7,m7,h8⟩:=TN.kN h7;obtain⟨rfl,rfl⟩:=TN.end_ h8;exact⟨A0,c0,b0,A1,c1,b1,A4,c4,b4,A5,c5,b5,A6,c6,b6,A7,c7,b7,rfl,by simp,t0,l0,m0,t1,l1,m1,t4,l4,m4,t5,l5,m5,t6,l6,m6,t7,l7,m7⟩
theorem bP.Dn{w:World}{x:bP}{A0 c0 b0}(t0:T1 w (.sl x.book.length (x.book.flatMap aW.enc)) b0 (.slice A0 x.book.length c0)){A1 c1 b1}(t1:T1 w (.sl x.schedule.length (x.schedule.flatMap dI)) b1 (.slice A1 x.schedule.length c1)){A4 c4 b4}(t4:T1 w (.sl x.net.agents.length (x.net.agents.flatMap aD.enc)) b4 (.slice A4 x.net.agents.length c4)){A5 c5 b5}(t5:T1 w (.sl x.origins.length (x.origins.flatMap bg.enc)) b5 (.slice A5 x.origins.length c5)){A6 c6 b6}(t6:T1 w (.sl x.breaks.length (x.breaks.flatMap dD.enc)) b6 (.slice A6 x.breaks.length c6)){A7 c7 b7}(t7:T1 w (.sl x.points.length (x.points.flatMap aO.enc)) b7 (.slice A7 x.points.length c7)):TN w x.enc (b0++b1++b4++b5++b6++b7) [.slice A0 x.book.length c0,.slice A1 x.schedule.length c1,.int .i64 x.every,.int .i64 x.at_,.slice A4 x.net.agents.length c4,.slice A5 x.origins.length c5,.slice A6 x.breaks.length c6,.slice A7 x.points.length c7]:=by
 have h:=(show TN w [.sl x.book.length (x.book.flatMap aW.enc),.sl x.schedule.length (x.schedule.flatMap dI),.v (.int .i64 x.every),.v (.int .i64 x.at_),.sl x.net.agents.length (x.net.agents.flatMap aD.enc),.sl x.origins.length (x.origins.flatMap bg.enc),.sl x.breaks.length (x.breaks.flatMap dD.enc),.sl x.points.length (x.points.flatMap aO.enc)] _ _ from TN.rJ t0 (TN.rJ t1 (TN.nR rfl (TN.nR rfl (TN.rJ t4 (TN.rJ t5 (TN.rJ t6 (TN.rJ t7 (TN.done)))))))))
 try simp only[qS]at h
 unfold bP.enc
 first|exact h|simpa only[qF]using h
theorem bP.sS{w:World}{xs:List bP}{bs:List Nat}{A:Option Addr}{n n' c:Nat}(h:T1 w (.sl n (xs.flatMap bP.enc)) bs (.slice A n' c))(hm:xs.length=n){k:Nat}(hk:k<n):
  ∃(b off:Nat) (x:bP) (A0:Option Addr) (c0:Nat) (b0:List Nat) (A1:Option Addr) (c1:Nat) (b1:List Nat) (A4:Option Addr) (c4:Nat) (b4:List Nat) (A5:Option Addr) (c5:Nat) (b5:List Nat) (A6:Option Addr) (c6:Nat) (b6:List Nat) (A7:Option Addr) (c7:Nat) (b7:List Nat),A=some ⟨b,off,none⟩∧b<w.heap.size∧Hid (xs[k]? =some x)∧w.cell? ⟨b,off+k*8,none⟩=some (.slice A0 x.book.length c0)∧w.cell? ⟨b,off+k*8+1,none⟩=some (.slice A1 x.schedule.length c1)∧w.cell? ⟨b,off+k*8+2,none⟩=some (.int .i64 x.every)∧w.cell? ⟨b,off+k*8+3,none⟩=some (.int .i64 x.at_)∧w.cell? ⟨b,off+k*8+4,none⟩=some (.slice A4 x.net.agents.length c4)∧w.cell? ⟨b,off+k*8+5,none⟩=some (.slice A5 x.origins.length c5)∧w.cell? ⟨b,off+k*8+6,none⟩=some (.slice A6 x.breaks.length c6)∧w.cell? ⟨b,off+k*8+7,none⟩=some (.slice A7 x.points.length c7)∧T1 w (.sl x.book.length (x.book.flatMap aW.enc)) b0 (.slice A0 x.book.length c0)∧x.book.length≤c0∧c0≤maxLen∧T1 w (.sl x.schedule.length (x.schedule.flatMap dI)) b1 (.slice A1 x.schedule.length c1)∧x.schedule.length≤c1∧c1≤maxLen∧T1 w (.sl x.net.agents.length (x.net.agents.flatMap aD.enc)) b4 (.slice A4 x.net.agents.length c4)∧x.net.agents.length≤c4∧c4≤maxLen∧T1 w (.sl x.origins.length (x.origins.flatMap bg.enc)) b5 (.slice A5 x.origins.length c5)∧x.origins.length≤c5∧c5≤maxLen∧T1 w (.sl x.breaks.length (x.breaks.flatMap dD.enc)) b6 (.slice A6 x.breaks.length c6)∧x.breaks.length≤c6∧c6≤maxLen∧T1 w (.sl x.points.length (x.points.flatMap aO.enc)) b7 (.slice A7 x.points.length c7)∧x.points.length≤c7∧c7≤maxLen:=by
 obtain⟨_,b,off,p1,p2,p3,us,hA,_,hb,hc,ht⟩:=T1.at_ bP.bD h hm hk;obtain⟨A0,c0,b0,A1,c1,b1,A4,c4,b4,A5,c5,b5,A6,c6,b6,A7,c7,b7,rfl,_,t0,l0,m0,t1,l1,m1,t4,l4,m4,t5,l5,m5,t6,l6,m6,t7,l7,m7⟩:=bP.us ht;exact⟨b,off,xs[k],A0,c0,b0,A1,c1,b1,A4,c4,b4,A5,c5,b5,A6,c6,b6,A7,c7,b7,hA,hb,qB (hm▸hk),hc 0 _ rfl,hc 1 _ rfl,hc 2 _ rfl,hc 3 _ rfl,hc 4 _ rfl,hc 5 _ rfl,hc 6 _ rfl,hc 7 _ rfl,t0,l0,m0,t1,l1,m1,t4,l4,m4,t5,l5,m5,t6,l6,m6,t7,l7,m7⟩
theorem bP.CS{x y:bP}(h0:x.book=y.book)(h1:x.schedule=y.schedule)(h2:x.every=y.every)(h3:x.at_=y.at_)(h4:x.net=y.net)(h5:x.origins=y.origins)(h6:x.breaks=y.breaks)(h7:x.points=y.points):x=y:=by
 cases x;cases y;simp_all
def bP.wt(x:bP):Nat:=vH aW.wt x.book+vH (fun _=>0) x.schedule+x.net.wt+vH (fun _=>0) x.origins+vH (fun _=>0) x.breaks+vH aO.wt x.points
def bP.small(x:bP):Prop:=(x.book.length≤1048576∧∀y∈x.book,aW.small y)∧(x.schedule.length≤1048576)∧(x.net.small)∧(x.origins.length≤1048576∧∀y∈x.origins,bg.small y)∧(x.breaks.length≤1048576∧∀y∈x.breaks,dD.small y)∧(x.points.length≤1048576∧∀y∈x.points,aO.small y)
end Go.Tr
namespace Go.Tr
def aR.cells(p:aR):List Value:=[.int .i64 p.agent,.int .i64 p.slot]
end Go.Tr
namespace Go.Tr
open Go Go.RowKit
theorem _root_.Go.Calls.q{P:Program}{f:FuncId}{args:Array Value}{W:World}{v:Value}(h:Calls P f args W fun e w'=>e=.returned v∧W=w'):Calls P f args W fun e w'=>e=.returned v∧Ext W w':=
 h.mono fun _ _ ⟨a,b⟩=>⟨a,b▸Below.refl _ _⟩
def dL(k p:Int):Int:=if k==9 then p-1 else 0
def fieldsOf(a:aD):Int:=dL a.kind a.aN.length
def jM(n:Int):Bool:=fA n 0 23
def rC(n:Int):Bool:=fA n (-2147483648) 2147483647
def kr(n:Int):Bool:=fA n 1 6
def iy(l:List Int)(k:Nat):Int:=l.getD k 0
theorem Sg{l:List Int}{k:Nat}{x:Int}(h:Hid (l[k]? =some x)):iy l k=x:=by unfold iy;rw[qC,h.out];rfl
def kQ(l:List Int):Bool:=dZ l.length fun k=>jM (iy l k)
def fK(a:aD):Bool:=
 if a.kind==6 then((a.data.length:Int)==0)&&rC a.value
 else if a.kind==7 then((a.data.length:Int)==0)&&kr a.value
 else if a.kind==8 then((a.data.length:Int)==1)&&kr a.value&&rC (iy a.data 0)
 else if a.kind==9 then((a.data.length:Int)==0)&&fA a.value 0 3
 else if a.kind==12 then((a.data.length:Int)==0)&&jM a.value
 else if a.kind==10 then a.value==0&&fA a.data.length 1 4&&kQ a.data
 else if a.kind==11 then a.value==0&&((a.data.length:Int)==2)&&kQ a.data
 else a.value==0&&((a.data.length:Int)==0)
def fZ(a:aD):Bool:=decide (0<bS a.kind (fieldsOf a))&&(a.aN.length:Int)==bS a.kind (fieldsOf a)&&dh a.kind a.level&&fK a
def Tg:aD:=⟨0,0,0,[],[]⟩
def VY:aR:=⟨0,0⟩
def jG(l:List aD)(k:Nat):aD:=l.getD k Tg
def Ay(l:List aR)(k:Nat):aR:=l.getD k VY
def mJ(l:List aD)(k:Nat):Bool:=fZ (jG l k)&&((jG l k).kind==1)==((k:Int)==0)
def fU(l:List aD):Bool:=fA l.length 1 600&&dZ l.length (mJ l)
def iX(l:List aD)(p:aR):Bool:=fA p.agent 0 ((l.length:Int)-1)&&fA p.slot 0 (((jG l p.agent.toNat).aN.length:Int)-1)
def Mv(l:List aD)(p:aR):aR:=Ay (jG l p.agent.toNat).aN p.slot.toNat
noncomputable def Pf(l:List aD)(me p:aR):Bool:= !xK p me&&iX l p&&xK (Mv l p) me
noncomputable def pO(l:List aD)(i:Nat):Bool:=dZ (jG l i).aN.length fun k=>Pf l ⟨i,k⟩ (Ay (jG l i).aN k)
noncomputable def gZ(n:aW):Bool:=fU n.agents&&dZ n.agents.length (pO n.agents)
def Yw:aW:=⟨[]⟩
def Tc(l:List aW)(k:Nat):aW:=l.getD k Yw
noncomputable def jq(l:List aW):Bool:=decide ((l.length:Int)≤24)&&dZ l.length fun k=>gZ (Tc l k)
end Go.Tr
