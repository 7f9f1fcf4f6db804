
/- Plain arithmetic: 32-bit wraps, the operators of the language, bounds as Bools. No program in it. -/
import Derived.Test.YtemalpelcdmemaaGreatSc
set_option linter.unusedSimpArgs false
set_option linter.unusedVariables false
namespace Go.Tr
open Go Go.RowKit
def eZ(n lo hi:Int):Bool:=decide (lo≤n)&&decide (n≤hi)
theorem kZ{n lo hi:Int}(h:eZ n lo hi=true):lo≤n∧n≤hi:=by simpa[eZ]using h
theorem Yc{n lo hi:Int}(h:eZ n lo hi=false):n<lo∨hi<n:=by
 simp only[eZ,Bool.and_eq_false_iff,decide_eq_false_iff_not]at h;omega
theorem zw{n lo hi:Int}(h1:lo≤n)(h2:n≤hi):eZ n lo hi=true:=by simp[eZ,h1,h2]
theorem Er{n lo hi:Int}(h:n<lo∨hi<n):eZ n lo hi=false:=by
 simp only[eZ,Bool.and_eq_false_iff,decide_eq_false_iff_not];omega
def mU(k:Int):Bool:=eZ k 1 12
def dM(k:Int):Bool:=mU k&&k !=1&&k !=5&&k !=6
def AL(n:Int):Bool:=eZ n 0 8
def dP(k l:Int):Bool:=mU k&&(l==0||(dM k&&AL l))
def sS(k:Int):Bool:=k==3||k==7||k==8||k==10||k==11
def Gi(t k l:Int):Bool:=AL t&&dP k l&&(k==6||k==12||(dM k&&decide (t<l)))
def rule(ka la kb lb:Int):Int:=
 if ka=5 then 4
 else if ka=4 then(if kb==4&&la==lb then 2 else if Gi la kb lb then 3 else 0)
 else if ka=2 then(if kb==3&&la==lb then 1 else 0)
 else if ka=6 then(if kb==7||kb==8 then 5 else if kb==11 then 6 else 0)
 else if ka=9 then(if kb==10 then 6 else 0)
 else if ka=12 then(if sS kb then 7 else 0)
 else 0
def nV(ka la kb lb:Int):Bool:=dP ka la&&dP kb lb&&ka !=1&&kb !=1
def bE(ka la kb lb:Int):Int:=if nV ka la kb lb then(if rule ka la kb lb=0 then(if rule kb lb ka la=0 then 8 else rule kb lb ka la)else rule ka la kb lb)else 0
def bS(ka la kb lb:Int):Int:=if nV ka la kb lb then(if rule ka la kb lb=0 then(if rule kb lb ka la=0 then 0 else 2)else 1)else 0
def dS(k f:Int):Int:=
 if k=9 then(if eZ f 0 3 then f+1 else 0)else if f=0 then
  (if k=1∨k=5∨k=6∨k=12 then 1 else if k=8∨k=10∨k=11 then 2 else if k=2∨k=3∨k=4∨k=7 then 3 else 0)else 0
theorem IU{k:Int}(h:mU k=true):k=1∨k=2∨k=3∨k=4∨k=5∨k=6∨k=7∨k=8∨k=9∨k=10∨k=11∨k=12:=by
 have:=kZ h;omega
theorem Gh{k l:Int}(h:mU k=false):dP k l=false:=by simp[dP,h]
theorem qO{k:Int}(h:mU k=false):dM k=false:=by simp[dM,h]
theorem yL(ka la kb lb:Int):0≤rule ka la kb lb∧rule ka la kb lb≤7:=by
 unfold rule;(repeat' split)<;>omega
theorem U0{i k:Int}(h:Gi i 4 k=true):i<k:=by
 simp only[Gi,Bool.and_eq_true,Bool.or_eq_true]at h;obtain⟨_,h⟩:=h;rcases h with(h|h)|h
 ·exact absurd h (by decide)
 ·exact absurd h (by decide)
 ·simpa using h.2
theorem PD{i b k:Int}(h:Gi i b k=true):b≠5:=by
 rintro rfl;simp[Gi,dM]at h
theorem WV{ka la kb lb:Int}(h1:rule ka la kb lb≠0)(h2:rule kb lb ka la≠0):rule ka la kb lb=rule kb lb ka la∧(rule ka la kb lb=2∨rule ka la kb lb=4):=by
 by_cases a5:ka=5
 ·subst a5
  by_cases b5:kb=5
  ·subst b5;simp[rule]
  ·exfalso;revert h2;unfold rule;rw[if_neg b5];split
   ·rw[if_neg (by simp),if_neg (fun h=>PD h rfl)];simp
   ·simp[sS]
 by_cases b5:kb=5
 ·subst b5;exfalso;revert h1;unfold rule;rw[if_neg a5];split
  ·rw[if_neg (by simp),if_neg (fun h=>PD h rfl)];simp
  ·simp[sS]
 by_cases a4:ka=4
 ·subst a4
  by_cases b4:kb=4
  ·subst b4
   by_cases e:la=lb
   ·subst e;simp[rule]
   ·exfalso;have e':¬lb=la:=fun h=>e h.symm
    simp[rule,e,e']at h1 h2;have:=U0 h1;have:=U0 h2;omega
  ·exfalso;revert h2;unfold rule;simp[b5,b4,sS]
 by_cases b4:kb=4
 ·subst b4;exfalso;revert h1;unfold rule;simp[a5,a4,sS]
 exfalso;revert h1 h2;unfold rule;simp only[a5,b5,a4,b4,if_false]
 by_cases a2:ka=2
 ·subst a2;simp[sS]
  try (intro h _;subst h;simp)
 by_cases a6:ka=6
 ·subst a6;simp[sS]
  try
   split
   ·rename_i h;rcases h with rfl|rfl<;>simp
   ·split
    ·rename_i h;subst h;simp
    ·simp
 by_cases a9:ka=9
 ·subst a9;simp[sS]
  try (intro h;subst h;simp)
 by_cases a12:ka=12
 ·subst a12;intro h
  have hc:sS kb=true:=by
   cases hc:sS kb with
   |true=>rfl
   |false=>simp[hc]at h
  simp only[sS,Bool.or_eq_true,beq_iff_eq]at hc;rcases hc with(((rfl|rfl)|rfl)|rfl)|rfl<;>simp
 ·simp[a2,a6,a9,a12]
theorem WK(ka la kb lb:Int):nV ka la kb lb=nV kb lb ka la:=by
 simp only[nV];cases dP ka la<;>cases dP kb lb<;>cases (ka !=1)<;>cases (kb !=1)<;>rfl
theorem Ba(ka la kb lb:Int):bE kb lb ka la=bE ka la kb lb:=by
 unfold bE;rw[WK kb lb ka la]
 by_cases h1:rule ka la kb lb=0<;>by_cases h2:rule kb lb ka la=0
 ·simp[h1,h2]
 ·simp[h1,h2]
 ·simp[h1,h2]
 ·simp[h1,h2,(WV h1 h2).1]
structure aH where
 agent:Int
 slot:Int
def aH.enc(x:aH):List D:=[.v (.int .i64 x.agent),.v (.int .i64 x.slot)]
theorem aH.bU(x:aH):x.enc.length=2:=rfl
theorem aH.us{w:World}{x:aH}{bs us}(h0:TN w x.enc bs us):us=[.int .i64 x.agent,.int .i64 x.slot]∧bs=[]:=by
 unfold aH.enc at h0;obtain⟨u0,rfl,h1⟩:=TN.kY h0;obtain⟨u1,rfl,h2⟩:=TN.kY h1;obtain⟨rfl,rfl⟩:=TN.end_ h2;exact⟨rfl,rfl⟩
theorem aH.BM{w:World}{x:aH}:TN w x.enc ([]) [.int .i64 x.agent,.int .i64 x.slot]:=by
 have h:=(show TN w [.v (.int .i64 x.agent),.v (.int .i64 x.slot)] _ _ from TN.sH rfl (TN.sH rfl (TN.done)))
 try simp only[List.append_nil]at h
 unfold aH.enc
 first|exact h|simpa only[List.append_assoc]using h
theorem aH.wM{w:World}{xs:List aH}{bs:List Nat}{A:Option Addr}{n n' c:Nat}(h:T1 w (.sl n (xs.flatMap aH.enc)) bs (.slice A n' c))(hm:xs.length=n){k:Nat}(hk:k<n):
  ∃(b off:Nat) (x:aH),A=some ⟨b,off,none⟩∧b<w.heap.size∧Hid (xs[k]? =some x)∧w.cell? ⟨b,off+k*2,none⟩=some (.int .i64 x.agent)∧w.cell? ⟨b,off+k*2+1,none⟩=some (.int .i64 x.slot):=by
 obtain⟨_,b,off,p1,p2,p3,us,hA,_,hb,hc,ht⟩:=T1.at_ aH.bU h hm hk;obtain⟨rfl,_⟩:=aH.us ht;exact⟨b,off,xs[k],hA,hb,List.getElem?_eq_getElem (hm▸hk),hc 0 _ rfl,hc 1 _ rfl⟩
theorem aH.Iq{x y:aH}(h0:x.agent=y.agent)(h1:x.slot=y.slot):x=y:=by
 cases x;cases y;simp_all
def aH.wt(_x:aH):Nat:=0
def aH.small(_x:aH):Prop:=True
structure ay where
 kind:Int
 level:Int
 value:Int
 data:(List Int)
 ports:(List aH)
def ay.enc(x:ay):List D:=[.v (.int .i64 x.kind),.v (.int .i64 x.level),.v (.int .i64 x.value),.sl x.data.length (x.data.flatMap dQ),.sl x.ports.length (x.ports.flatMap aH.enc)]
theorem ay.bU(x:ay):x.enc.length=5:=rfl
theorem ay.us{w:World}{x:ay}{bs us}(h0:TN w x.enc bs us):∃(A3:Option Addr) (c3:Nat) (b3:List Nat) (A4:Option Addr) (c4:Nat) (b4:List Nat),us=[.int .i64 x.kind,.int .i64 x.level,.int .i64 x.value,.slice A3 x.data.length c3,.slice A4 x.ports.length c4]∧bs=b3++b4∧T1 w (.sl x.data.length (x.data.flatMap dQ)) b3 (.slice A3 x.data.length c3)∧x.data.length≤c3∧c3≤maxLen∧T1 w (.sl x.ports.length (x.ports.flatMap aH.enc)) b4 (.slice A4 x.ports.length c4)∧x.ports.length≤c4∧c4≤maxLen:=by
 unfold ay.enc at h0;obtain⟨u0,rfl,h1⟩:=TN.kY h0;obtain⟨u1,rfl,h2⟩:=TN.kY h1;obtain⟨u2,rfl,h3⟩:=TN.kY h2;obtain⟨A3,c3,b3,r3,u3,rfl,rfl,t3,l3,m3,h4⟩:=TN.nO h3;obtain⟨A4,c4,b4,r4,u4,rfl,rfl,t4,l4,m4,h5⟩:=TN.nO h4;obtain⟨rfl,rfl⟩:=TN.end_ h5;exact⟨A3,c3,b3,A4,c4,b4,rfl,by simp,t3,l3,m3,t4,l4,m4⟩
theorem ay.BM{w:World}{x:ay}{A3 c3 b3}(t3:T1 w (.sl x.data.length (x.data.flatMap dQ)) b3 (.slice A3 x.data.length c3)){A4 c4 b4}(t4:T1 w (.sl x.ports.length (x.ports.flatMap aH.enc)) b4 (.slice A4 x.ports.length c4)):TN w x.enc (b3++b4) [.int .i64 x.kind,.int .i64 x.level,.int .i64 x.value,.slice A3 x.data.length c3,.slice A4 x.ports.length c4]:=by
 have h:=(show TN w [.v (.int .i64 x.kind),.v (.int .i64 x.level),.v (.int .i64 x.value),.sl x.data.length (x.data.flatMap dQ),.sl x.ports.length (x.ports.flatMap aH.enc)] _ _ from TN.sH rfl (TN.sH rfl (TN.sH rfl (TN.vY t3 (TN.vY t4 (TN.done))))))
 try simp only[List.append_nil]at h
 unfold ay.enc
 first|exact h|simpa only[List.append_assoc]using h
theorem ay.wM{w:World}{xs:List ay}{bs:List Nat}{A:Option Addr}{n n' c:Nat}(h:T1 w (.sl n (xs.flatMap ay.enc)) bs (.slice A n' c))(hm:xs.length=n){k:Nat}(hk:k<n):
  ∃(b off:Nat) (x:ay) (A3:Option Addr) (c3:Nat) (b3:List Nat) (A4:Option Addr) (c4:Nat) (b4:List Nat),A=some ⟨b,off,none⟩∧b<w.heap.size∧Hid (xs[k]? =some x)∧w.cell? ⟨b,off+k*5,none⟩=some (.int .i64 x.kind)∧w.cell? ⟨b,off+k*5+1,none⟩=some (.int .i64 x.level)∧w.cell? ⟨b,off+k*5+2,none⟩=some (.int .i64 x.value)∧w.cell? ⟨b,off+k*5+3,none⟩=some (.slice A3 x.data.length c3)∧w.cell? ⟨b,off+k*5+4,none⟩=some (.slice A4 x.ports.length c4)∧T1 w (.sl x.data.length (x.data.flatMap dQ)) b3 (.slice A3 x.data.length c3)∧x.data.length≤c3∧c3≤maxLen∧T1 w (.sl x.ports.length (x.ports.flatMap aH.enc)) b4 (.slice A4 x.ports.length c4)∧x.ports.length≤c4∧c4≤maxLen:=by
 obtain⟨_,b,off,p1,p2,p3,us,hA,_,hb,hc,ht⟩:=T1.at_ ay.bU h hm hk;obtain⟨A3,c3,b3,A4,c4,b4,rfl,_,t3,l3,m3,t4,l4,m4⟩:=ay.us ht;exact⟨b,off,xs[k],A3,c3,b3,A4,c4,b4,hA,hb,List.getElem?_eq_getElem (hm▸hk),hc 0 _ rfl,hc 1 _ rfl,hc 2 _ rfl,hc 3 _ rfl,hc 4 _ rfl,t3,l3,m3,t4,l4,m4⟩
theorem ay.Iq{x y:ay}(h0:x.kind=y.kind)(h1:x.level=y.level)(h2:x.value=y.value)(h3:x.data=y.data)(h4:x.ports=y.ports):x=y:=by
 cases x;cases y;simp_all
def ay.wt(x:ay):Nat:=yZ (fun _=>0) x.data+yZ (fun _=>0) x.ports
def ay.small(x:ay):Prop:=(x.data.length≤1048576)∧(x.ports.length≤1048576∧∀y∈x.ports,aH.small y)
structure aU where
 agents:(List ay)
def aU.enc(x:aU):List D:=[.sl x.agents.length (x.agents.flatMap ay.enc)]
theorem aU.bU(x:aU):x.enc.length=1:=rfl
theorem aU.us{w:World}{x:aU}{bs us}(h0:TN w x.enc bs us):∃(A0:Option Addr) (c0:Nat) (b0:List Nat),us=[.slice A0 x.agents.length c0]∧bs=b0∧T1 w (.sl x.agents.length (x.agents.flatMap ay.enc)) b0 (.slice A0 x.agents.length c0)∧x.agents.length≤c0∧c0≤maxLen:=by
 unfold aU.enc at h0;obtain⟨A0,c0,b0,r0,u0,rfl,rfl,t0,l0,m0,h1⟩:=TN.nO h0;obtain⟨rfl,rfl⟩:=TN.end_ h1;exact⟨A0,c0,b0,rfl,by simp,t0,l0,m0⟩
theorem aU.BM{w:World}{x:aU}{A0 c0 b0}(t0:T1 w (.sl x.agents.length (x.agents.flatMap ay.enc)) b0 (.slice A0 x.agents.length c0)):TN w x.enc (b0) [.slice A0 x.agents.length c0]:=by
 have h:=(show TN w [.sl x.agents.length (x.agents.flatMap ay.enc)] _ _ from TN.vY t0 (TN.done))
 try simp only[List.append_nil]at h
 unfold aU.enc
 first|exact h|simpa only[List.append_assoc]using h
theorem aU.wM{w:World}{xs:List aU}{bs:List Nat}{A:Option Addr}{n n' c:Nat}(h:T1 w (.sl n (xs.flatMap aU.enc)) bs (.slice A n' c))(hm:xs.length=n){k:Nat}(hk:k<n):
  ∃(b off:Nat) (x:aU) (A0:Option Addr) (c0:Nat) (b0:List Nat),A=some ⟨b,off,none⟩∧b<w.heap.size∧Hid (xs[k]? =some x)∧w.cell? ⟨b,off+k,none⟩=some (.slice A0 x.agents.length c0)∧T1 w (.sl x.agents.length (x.agents.flatMap ay.enc)) b0 (.slice A0 x.agents.length c0)∧x.agents.length≤c0∧c0≤maxLen:=by
 obtain⟨_,b,off,p1,p2,p3,us,hA,_,hb,hc,ht⟩:=T1.at_ aU.bU h hm hk;obtain⟨A0,c0,b0,rfl,_,t0,l0,m0⟩:=aU.us ht;exact⟨b,off,xs[k],A0,c0,b0,hA,hb,List.getElem?_eq_getElem (hm▸hk),by simpa using hc 0 _ rfl,t0,l0,m0⟩
theorem aU.Iq{x y:aU}(h0:x.agents=y.agents):x=y:=by
 cases x;cases y;simp_all
def aU.wt(x:aU):Nat:=yZ ay.wt x.agents
def aU.small(x:aU):Prop:=(x.agents.length≤1048576∧∀y∈x.agents,ay.small y)
structure bG where
 step:Int
 def_:Int
 source:Int
def bG.enc(x:bG):List D:=[.v (.int .i64 x.step),.v (.int .i64 x.def_),.v (.int .i64 x.source)]
theorem bG.bU(x:bG):x.enc.length=3:=rfl
theorem bG.us{w:World}{x:bG}{bs us}(h0:TN w x.enc bs us):us=[.int .i64 x.step,.int .i64 x.def_,.int .i64 x.source]∧bs=[]:=by
 unfold bG.enc at h0;obtain⟨u0,rfl,h1⟩:=TN.kY h0;obtain⟨u1,rfl,h2⟩:=TN.kY h1;obtain⟨u2,rfl,h3⟩:=TN.kY h2;obtain⟨rfl,rfl⟩:=TN.end_ h3;exact⟨rfl,rfl⟩
theorem bG.BM{w:World}{x:bG}:TN w x.enc ([]) [.int .i64 x.step,.int .i64 x.def_,.int .i64 x.source]:=by
 have h:=(show TN w [.v (.int .i64 x.step),.v (.int .i64 x.def_),.v (.int .i64 x.source)] _ _ from TN.sH rfl (TN.sH rfl (TN.sH rfl (TN.done))))
 try simp only[List.append_nil]at h
 unfold bG.enc
 first|exact h|simpa only[List.append_assoc]using h
theorem bG.wM{w:World}{xs:List bG}{bs:List Nat}{A:Option Addr}{n n' c:Nat}(h:T1 w (.sl n (xs.flatMap bG.enc)) bs (.slice A n' c))(hm:xs.length=n){k:Nat}(hk:k<n):
  ∃(b off:Nat) (x:bG),A=some ⟨b,off,none⟩∧b<w.heap.size∧Hid (xs[k]? =some x)∧w.cell? ⟨b,off+k*3,none⟩=some (.int .i64 x.step)∧w.cell? ⟨b,off+k*3+1,none⟩=some (.int .i64 x.def_)∧w.cell? ⟨b,off+k*3+2,none⟩=some (.int .i64 x.source):=by
 obtain⟨_,b,off,p1,p2,p3,us,hA,_,hb,hc,ht⟩:=T1.at_ bG.bU h hm hk;obtain⟨rfl,_⟩:=bG.us ht;exact⟨b,off,xs[k],hA,hb,List.getElem?_eq_getElem (hm▸hk),hc 0 _ rfl,hc 1 _ rfl,hc 2 _ rfl⟩
theorem bG.Iq{x y:bG}(h0:x.step=y.step)(h1:x.def_=y.def_)(h2:x.source=y.source):x=y:=by
 cases x;cases y;simp_all
def bG.wt(_x:bG):Nat:=0
def bG.small(_x:bG):Prop:=True
structure dO where
 kind:Int
 value:Int
def dO.enc(x:dO):List D:=[.v (.int .i64 x.kind),.v (.int .i64 x.value)]
theorem dO.bU(x:dO):x.enc.length=2:=rfl
theorem dO.us{w:World}{x:dO}{bs us}(h0:TN w x.enc bs us):us=[.int .i64 x.kind,.int .i64 x.value]∧bs=[]:=by
 unfold dO.enc at h0;obtain⟨u0,rfl,h1⟩:=TN.kY h0;obtain⟨u1,rfl,h2⟩:=TN.kY h1;obtain⟨rfl,rfl⟩:=TN.end_ h2;exact⟨rfl,rfl⟩
theorem dO.BM{w:World}{x:dO}:TN w x.enc ([]) [.int .i64 x.kind,.int .i64 x.value]:=by
 have h:=(show TN w [.v (.int .i64 x.kind),.v (.int .i64 x.value)] _ _ from TN.sH rfl (TN.sH rfl (TN.done)))
 try simp only[List.append_nil]at h
 unfold dO.enc
 first|exact h|simpa only[List.append_assoc]using h
theorem dO.wM{w:World}{xs:List dO}{bs:List Nat}{A:Option Addr}{n n' c:Nat}(h:T1 w (.sl n (xs.flatMap dO.enc)) bs (.slice A n' c))(hm:xs.length=n){k:Nat}(hk:k<n):
  ∃(b off:Nat) (x:dO),A=some ⟨b,off,none⟩∧b<w.heap.size∧Hid (xs[k]? =some x)∧w.cell? ⟨b,off+k*2,none⟩=some (.int .i64 x.kind)∧w.cell? ⟨b,off+k*2+1,none⟩=some (.int .i64 x.value):=by
 obtain⟨_,b,off,p1,p2,p3,us,hA,_,hb,hc,ht⟩:=T1.at_ dO.bU h hm hk;obtain⟨rfl,_⟩:=dO.us ht;exact⟨b,off,xs[k],hA,hb,List.getElem?_eq_getElem (hm▸hk),hc 0 _ rfl,hc 1 _ rfl⟩
theorem dO.Iq{x y:dO}(h0:x.kind=y.kind)(h1:x.value=y.value):x=y:=by
 cases x;cases y;simp_all
def dO.wt(_x:dO):Nat:=0
def dO.small(_x:dO):Prop:=True
structure aO where
 at_:Int
 net:aU
 origins:(List bG)
def aO.enc(x:aO):List D:=[.v (.int .i64 x.at_),.sl x.net.agents.length (x.net.agents.flatMap ay.enc),.sl x.origins.length (x.origins.flatMap bG.enc)]
theorem aO.bU(x:aO):x.enc.length=3:=rfl
theorem aO.us{w:World}{x:aO}{bs us}(h0:TN w x.enc bs us):∃(A1:Option Addr) (c1:Nat) (b1:List Nat) (A2:Option Addr) (c2:Nat) (b2:List Nat),us=[.int .i64 x.at_,.slice A1 x.net.agents.length c1,.slice A2 x.origins.length c2]∧bs=b1++b2∧T1 w (.sl x.net.agents.length (x.net.agents.flatMap ay.enc)) b1 (.slice A1 x.net.agents.length c1)∧x.net.agents.length≤c1∧c1≤maxLen∧T1 w (.sl x.origins.length (x.origins.flatMap bG.enc)) b2 (.slice A2 x.origins.length c2)∧x.origins.length≤c2∧c2≤maxLen:=by
 unfold aO.enc at h0;obtain⟨u0,rfl,h1⟩:=TN.kY h0;obtain⟨A1,c1,b1,r1,u1,rfl,rfl,t1,l1,m1,h2⟩:=TN.nO h1;obtain⟨A2,c2,b2,r2,u2,rfl,rfl,t2,l2,m2,h3⟩:=TN.nO h2;obtain⟨rfl,rfl⟩:=TN.end_ h3;exact⟨A1,c1,b1,A2,c2,b2,rfl,by simp,t1,l1,m1,t2,l2,m2⟩
theorem aO.BM{w:World}{x:aO}{A1 c1 b1}(t1:T1 w (.sl x.net.agents.length (x.net.agents.flatMap ay.enc)) b1 (.slice A1 x.net.agents.length c1)){A2 c2 b2}(t2:T1 w (.sl x.origins.length (x.origins.flatMap bG.enc)) b2 (.slice A2 x.origins.length c2)):TN w x.enc (b1++b2) [.int .i64 x.at_,.slice A1 x.net.agents.length c1,.slice A2 x.origins.length c2]:=by
 have h:=(show TN w [.v (.int .i64 x.at_),.sl x.net.agents.length (x.net.agents.flatMap ay.enc),.sl x.origins.length (x.origins.flatMap bG.enc)] _ _ from TN.sH rfl (TN.vY t1 (TN.vY t2 (TN.done))))
 try simp only[List.append_nil]at h
 unfold aO.enc
 first|exact h|simpa only[List.append_assoc]using h
theorem aO.wM{w:World}{xs:List aO}{bs:List Nat}{A:Option Addr}{n n' c:Nat}(h:T1 w (.sl n (xs.flatMap aO.enc)) bs (.slice A n' c))(hm:xs.length=n){k:Nat}(hk:k<n):
  ∃(b off:Nat) (x:aO) (A1:Option Addr) (c1:Nat) (b1:List Nat) (A2:Option Addr) (c2:Nat) (b2:List Nat),A=some ⟨b,off,none⟩∧b<w.heap.size∧Hid (xs[k]? =some x)∧w.cell? ⟨b,off+k*3,none⟩=some (.int .i64 x.at_)∧w.cell? ⟨b,off+k*3+1,none⟩=some (.slice A1 x.net.agents.length c1)∧w.cell? ⟨b,off+k*3+2,none⟩=some (.slice A2 x.origins.length c2)∧T1 w (.sl x.net.agents.length (x.net.agents.flatMap ay.enc)) b1 (.slice A1 x.net.agents.length c1)∧x.net.agents.length≤c1∧c1≤maxLen∧T1 w (.sl x.origins.length (x.origins.flatMap bG.enc)) b2 (.slice A2 x.origins.length c2)∧x.origins.length≤c2∧c2≤maxLen:=by
 obtain⟨_,b,off,p1,p2,p3,us,hA,_,hb,hc,ht⟩:=T1.at_ aO.bU h hm hk;obtain⟨A1,c1,b1,A2,c2,b2,rfl,_,t1,l1,m1,t2,l2,m2⟩:=aO.us ht;exact⟨b,off,xs[k],A1,c1,b1,A2,c2,b2,hA,hb,List.getElem?_eq_getElem (hm▸hk),hc 0 _ rfl,hc 1 _ rfl,hc 2 _ rfl,t1,l1,m1,t2,l2,m2⟩
theorem aO.Iq{x y:aO}(h0:x.at_=y.at_)(h1:x.net=y.net)(h2:x.origins=y.origins):x=y:=by
 cases x;cases y;simp_all
def aO.wt(x:aO):Nat:=x.net.wt+yZ (fun _=>0) x.origins
def aO.small(x:aO):Prop:=(x.net.small)∧(x.origins.length≤1048576∧∀y∈x.origins,bG.small y)
structure bW where
 book:(List aU)
 schedule:(List Int)
 every:Int
 at_:Int
 net:aU
 origins:(List bG)
 breaks:(List dO)
 points:(List aO)
def bW.enc(x:bW):List D:=[.sl x.book.length (x.book.flatMap aU.enc),.sl x.schedule.length (x.schedule.flatMap dQ),.v (.int .i64 x.every),.v (.int .i64 x.at_),.sl x.net.agents.length (x.net.agents.flatMap ay.enc),.sl x.origins.length (x.origins.flatMap bG.enc),.sl x.breaks.length (x.breaks.flatMap dO.enc),.sl x.points.length (x.points.flatMap aO.enc)]
theorem bW.bU(x:bW):x.enc.length=8:=rfl
theorem bW.us{w:World}{x:bW}{bs us}(h0:TN w x.enc bs us):∃(A0:Option Addr) (c0:Nat) (b0:List Nat) (A1:Option Addr) (c1:Nat) (b1:List Nat) (A4:Option Addr) (c4:Nat) (b4:List Nat) (A5:Option Addr) (c5:Nat) (b5:List Nat) (A6:Option Addr) (c6:Nat) (b6:List Nat) (A7:Option Addr) (c7:Nat) (b7:List Nat),us=[.slice A0 x.book.length c0,.slice A1 x.schedule.length c1,.int .i64 x.every,.int .i64 x.at_,.slice A4 x.net.agents.length c4,.slice A5 x.origins.length c5,.slice A6 x.breaks.length c6,.slice A7 x.points.length c7]∧bs=b0++b1++b4++b5++b6++b7∧T1 w (.sl x.book.length (x.book.flatMap aU.enc)) b0 (.slice A0 x.book.length c0)∧x.book.length≤c0∧c0≤maxLen∧T1 w (.sl x.schedule.length (x.schedule.flatMap dQ)) b1 (.slice A1 x.schedule.length c1)∧x.schedule.length≤c1∧c1≤maxLen∧T1 w (.sl x.net.agents.length (x.net.agents.flatMap ay.enc)) b4 (.slice A4 x.net.agents.length c4)∧x.net.agents.length≤c4∧c4≤maxLen∧T1 w (.sl x.origins.length (x.origins.flatMap bG.enc)) b5 (.slice A5 x.origins.length c5)∧x.origins.length≤c5∧c5≤maxLen∧T1 w (.sl x.breaks.length (x.breaks.flatMap dO.enc)) b6 (.slice A6 x.breaks.length c6)∧x.breaks.length≤c6∧c6≤maxLen∧T1 w (.sl x.points.length (x.points.flatMap aO.enc)) b7 (.slice A7 x.points.length c7)∧x.points.length≤c7∧c7≤maxLen:=by
 unfold bW.enc at h0;obtain⟨A0,c0,b0,r0,u0,rfl,rfl,t0,l0,m0,h1⟩:=TN.nO h0;obtain⟨A1,c1,b1,r1,u1,rfl,rfl,t1,l1,m1,h2⟩:=TN.nO h1;obtain⟨u2,rfl,h3⟩:=TN.kY h2;obtain⟨u3,rfl,h4⟩:=TN.kY h3;obtain⟨A4,c4,b4,r4,u4,rfl,rfl,t4,l4,m4,h5⟩:=TN.nO h4;obtain⟨A5,c5,b5,r5,u5,rfl,rfl,t5,l5,m5,h6⟩:=TN.nO h5;obtain⟨A6,c6,b6,r6,u6,rfl,rfl,t6,l6,m6,h7⟩:=TN.nO h6;obtain⟨A7,c7,b7,r7,u7,rfl,rfl,t7,l7,m7,h8⟩:=TN.nO h7;obtain⟨rfl,rfl⟩:=TN.end_ h8;exact⟨A0,c0,b0,A1,c1,b1,A4,c4,b4,A5,c5,b5,A6,c6,b6,A7,c7,b7,rfl,by simp,t0,l0,m0,t1,l1,m1,t4,l4,m4,t5,l5,m5,t6,l6,m6,t7,l7,m7⟩
theorem bW.BM{w:World}{x:bW}{A0 c0 b0}(t0:T1 w (.sl x.book.length (x.book.flatMap aU.enc)) b0 (.slice A0 x.book.length c0)){A1 c1 b1}(t1:T1 w (.sl x.schedule.length (x.schedule.flatMap dQ)) b1 (.slice A1 x.schedule.length c1)){A4 c4 b4}(t4:T1 w (.sl x.net.agents.length (x.net.agents.flatMap ay.enc)) b4 (.slice A4 x.net.agents.length c4)){A5 c5 b5}(t5:T1 w (.sl x.origins.length (x.origins.flatMap bG.enc)) b5 (.slice A5 x.origins.length c5)){A6 c6 b6}(t6:T1 w (.sl x.breaks.length (x.breaks.flatMap dO.enc)) b6 (.slice A6 x.breaks.length c6)){A7 c7 b7}(t7:T1 w (.sl x.points.length (x.points.flatMap aO.enc)) b7 (.slice A7 x.points.length c7)):TN w x.enc (b0++b1++b4++b5++b6++b7) [.slice A0 x.book.length c0,.slice A1 x.schedule.length c1,.int .i64 x.every,.int .i64 x.at_,.slice A4 x.net.agents.length c4,.slice A5 x.origins.length c5,.slice A6 x.breaks.length c6,.slice A7 x.points.length c7]:=by
 have h:=(show TN w [.sl x.book.length (x.book.flatMap aU.enc),.sl x.schedule.length (x.schedule.flatMap dQ),.v (.int .i64 x.every),.v (.int .i64 x.at_),.sl x.net.agents.length (x.net.agents.flatMap ay.enc),.sl x.origins.length (x.origins.flatMap bG.enc),.sl x.breaks.length (x.breaks.flatMap dO.enc),.sl x.points.length (x.points.flatMap aO.enc)] _ _ from TN.vY t0 (TN.vY t1 (TN.sH rfl (TN.sH rfl (TN.vY t4 (TN.vY t5 (TN.vY t6 (TN.vY t7 (TN.done)))))))))
 try simp only[List.append_nil]at h
 unfold bW.enc
 first|exact h|simpa only[List.append_assoc]using h
theorem bW.wM{w:World}{xs:List bW}{bs:List Nat}{A:Option Addr}{n n' c:Nat}(h:T1 w (.sl n (xs.flatMap bW.enc)) bs (.slice A n' c))(hm:xs.length=n){k:Nat}(hk:k<n):
  ∃(b off:Nat) (x:bW) (A0:Option Addr) (c0:Nat) (b0:List Nat) (A1:Option Addr) (c1:Nat) (b1:List Nat) (A4:Option Addr) (c4:Nat) (b4:List Nat) (A5:Option Addr) (c5:Nat) (b5:List Nat) (A6:Option Addr) (c6:Nat) (b6:List Nat) (A7:Option Addr) (c7:Nat) (b7:List Nat),A=some ⟨b,off,none⟩∧b<w.heap.size∧Hid (xs[k]? =some x)∧w.cell? ⟨b,off+k*8,none⟩=some (.slice A0 x.book.length c0)∧w.cell? ⟨b,off+k*8+1,none⟩=some (.slice A1 x.schedule.length c1)∧w.cell? ⟨b,off+k*8+2,none⟩=some (.int .i64 x.every)∧w.cell? ⟨b,off+k*8+3,none⟩=some (.int .i64 x.at_)∧w.cell? ⟨b,off+k*8+4,none⟩=some (.slice A4 x.net.agents.length c4)∧w.cell? ⟨b,off+k*8+5,none⟩=some (.slice A5 x.origins.length c5)∧w.cell? ⟨b,off+k*8+6,none⟩=some (.slice A6 x.breaks.length c6)∧w.cell? ⟨b,off+k*8+7,none⟩=some (.slice A7 x.points.length c7)∧T1 w (.sl x.book.length (x.book.flatMap aU.enc)) b0 (.slice A0 x.book.length c0)∧x.book.length≤c0∧c0≤maxLen∧T1 w (.sl x.schedule.length (x.schedule.flatMap dQ)) b1 (.slice A1 x.schedule.length c1)∧x.schedule.length≤c1∧c1≤maxLen∧T1 w (.sl x.net.agents.length (x.net.agents.flatMap ay.enc)) b4 (.slice A4 x.net.agents.length c4)∧x.net.agents.length≤c4∧c4≤maxLen∧T1 w (.sl x.origins.length (x.origins.flatMap bG.enc)) b5 (.slice A5 x.origins.length c5)∧x.origins.length≤c5∧c5≤maxLen∧T1 w (.sl x.breaks.length (x.breaks.flatMap dO.enc)) b6 (.slice A6 x.breaks.length c6)∧x.breaks.length≤c6∧c6≤maxLen∧T1 w (.sl x.points.length (x.points.flatMap aO.enc)) b7 (.slice A7 x.points.length c7)∧x.points.length≤c7∧c7≤maxLen:=by
 obtain⟨_,b,off,p1,p2,p3,us,hA,_,hb,hc,ht⟩:=T1.at_ bW.bU h hm hk;obtain⟨A0,c0,b0,A1,c1,b1,A4,c4,b4,A5,c5,b5,A6,c6,b6,A7,c7,b7,rfl,_,t0,l0,m0,t1,l1,m1,t4,l4,m4,t5,l5,m5,t6,l6,m6,t7,l7,m7⟩:=bW.us ht;exact⟨b,off,xs[k],A0,c0,b0,A1,c1,b1,A4,c4,b4,A5,c5,b5,A6,c6,b6,A7,c7,b7,hA,hb,List.getElem?_eq_getElem (hm▸hk),hc 0 _ rfl,hc 1 _ rfl,hc 2 _ rfl,hc 3 _ rfl,hc 4 _ rfl,hc 5 _ rfl,hc 6 _ rfl,hc 7 _ rfl,t0,l0,m0,t1,l1,m1,t4,l4,m4,t5,l5,m5,t6,l6,m6,t7,l7,m7⟩
theorem bW.Iq{x y:bW}(h0:x.book=y.book)(h1:x.schedule=y.schedule)(h2:x.every=y.every)(h3:x.at_=y.at_)(h4:x.net=y.net)(h5:x.origins=y.origins)(h6:x.breaks=y.breaks)(h7:x.points=y.points):x=y:=by
 cases x;cases y;simp_all
def bW.wt(x:bW):Nat:=yZ aU.wt x.book+yZ (fun _=>0) x.schedule+x.net.wt+yZ (fun _=>0) x.origins+yZ (fun _=>0) x.breaks+yZ aO.wt x.points
def bW.small(x:bW):Prop:=(x.book.length≤1048576∧∀y∈x.book,aU.small y)∧(x.schedule.length≤1048576)∧(x.net.small)∧(x.origins.length≤1048576∧∀y∈x.origins,bG.small y)∧(x.breaks.length≤1048576∧∀y∈x.breaks,dO.small y)∧(x.points.length≤1048576∧∀y∈x.points,aO.small y)
theorem aH.pt{w:World}{x:aH}{b o bs}(h:gX w b o x.enc bs):Kn w b (o) (.int .i64 x.agent)∧Kn w b (o+1) (.int .i64 x.slot):=by
 obtain⟨hlt,us,hc,ht⟩:=h;obtain⟨rfl,rfl⟩:=aH.us ht;exact⟨hc.always hlt 0 _ rfl,hc.always hlt 1 _ rfl⟩
theorem ay.pt{w:World}{x:ay}{b o bs}(h:gX w b o x.enc bs):∃(A3:Option Addr) (c3:Nat) (b3:List Nat) (A4:Option Addr) (c4:Nat) (b4:List Nat),Kn w b (o) (.int .i64 x.kind)∧Kn w b (o+1) (.int .i64 x.level)∧Kn w b (o+2) (.int .i64 x.value)∧Kn w b (o+3) (.slice A3 x.data.length c3)∧Kn w b (o+4) (.slice A4 x.ports.length c4)∧T1 w (.sl x.data.length (x.data.flatMap dQ)) b3 (.slice A3 x.data.length c3)∧T1 w (.sl x.ports.length (x.ports.flatMap aH.enc)) b4 (.slice A4 x.ports.length c4):=by
 obtain⟨hlt,us,hc,ht⟩:=h;obtain⟨A3,c3,b3,A4,c4,b4,rfl,rfl,t3,l3,m3,t4,l4,m4⟩:=ay.us ht;exact⟨_,_,_,_,_,_,hc.always hlt 0 _ rfl,hc.always hlt 1 _ rfl,hc.always hlt 2 _ rfl,hc.always hlt 3 _ rfl,hc.always hlt 4 _ rfl,t3,t4⟩
theorem aU.pt{w:World}{x:aU}{b o bs}(h:gX w b o x.enc bs):∃(A0:Option Addr) (c0:Nat) (b0:List Nat),Kn w b (o) (.slice A0 x.agents.length c0)∧T1 w (.sl x.agents.length (x.agents.flatMap ay.enc)) b0 (.slice A0 x.agents.length c0):=by
 obtain⟨hlt,us,hc,ht⟩:=h;obtain⟨A0,c0,b0,rfl,rfl,t0,l0,m0⟩:=aU.us ht;exact⟨_,_,_,hc.always hlt 0 _ rfl,t0⟩
theorem bG.pt{w:World}{x:bG}{b o bs}(h:gX w b o x.enc bs):Kn w b (o) (.int .i64 x.step)∧Kn w b (o+1) (.int .i64 x.def_)∧Kn w b (o+2) (.int .i64 x.source):=by
 obtain⟨hlt,us,hc,ht⟩:=h;obtain⟨rfl,rfl⟩:=bG.us ht;exact⟨hc.always hlt 0 _ rfl,hc.always hlt 1 _ rfl,hc.always hlt 2 _ rfl⟩
theorem dO.pt{w:World}{x:dO}{b o bs}(h:gX w b o x.enc bs):Kn w b (o) (.int .i64 x.kind)∧Kn w b (o+1) (.int .i64 x.value):=by
 obtain⟨hlt,us,hc,ht⟩:=h;obtain⟨rfl,rfl⟩:=dO.us ht;exact⟨hc.always hlt 0 _ rfl,hc.always hlt 1 _ rfl⟩
theorem aO.pt{w:World}{x:aO}{b o bs}(h:gX w b o x.enc bs):∃(A1:Option Addr) (c1:Nat) (b1:List Nat) (A2:Option Addr) (c2:Nat) (b2:List Nat),Kn w b (o) (.int .i64 x.at_)∧Kn w b (o+1) (.slice A1 x.net.agents.length c1)∧Kn w b (o+2) (.slice A2 x.origins.length c2)∧T1 w (.sl x.net.agents.length (x.net.agents.flatMap ay.enc)) b1 (.slice A1 x.net.agents.length c1)∧T1 w (.sl x.origins.length (x.origins.flatMap bG.enc)) b2 (.slice A2 x.origins.length c2):=by
 obtain⟨hlt,us,hc,ht⟩:=h;obtain⟨A1,c1,b1,A2,c2,b2,rfl,rfl,t1,l1,m1,t2,l2,m2⟩:=aO.us ht;exact⟨_,_,_,_,_,_,hc.always hlt 0 _ rfl,hc.always hlt 1 _ rfl,hc.always hlt 2 _ rfl,t1,t2⟩
theorem bW.pt{w:World}{x:bW}{b o bs}(h:gX w b o x.enc bs):∃(A0:Option Addr) (c0:Nat) (b0:List Nat) (A1:Option Addr) (c1:Nat) (b1:List Nat) (A4:Option Addr) (c4:Nat) (b4:List Nat) (A5:Option Addr) (c5:Nat) (b5:List Nat) (A6:Option Addr) (c6:Nat) (b6:List Nat) (A7:Option Addr) (c7:Nat) (b7:List Nat),Kn w b (o) (.slice A0 x.book.length c0)∧Kn w b (o+1) (.slice A1 x.schedule.length c1)∧Kn w b (o+2) (.int .i64 x.every)∧Kn w b (o+3) (.int .i64 x.at_)∧Kn w b (o+4) (.slice A4 x.net.agents.length c4)∧Kn w b (o+5) (.slice A5 x.origins.length c5)∧Kn w b (o+6) (.slice A6 x.breaks.length c6)∧Kn w b (o+7) (.slice A7 x.points.length c7)∧T1 w (.sl x.book.length (x.book.flatMap aU.enc)) b0 (.slice A0 x.book.length c0)∧T1 w (.sl x.schedule.length (x.schedule.flatMap dQ)) b1 (.slice A1 x.schedule.length c1)∧T1 w (.sl x.net.agents.length (x.net.agents.flatMap ay.enc)) b4 (.slice A4 x.net.agents.length c4)∧T1 w (.sl x.origins.length (x.origins.flatMap bG.enc)) b5 (.slice A5 x.origins.length c5)∧T1 w (.sl x.breaks.length (x.breaks.flatMap dO.enc)) b6 (.slice A6 x.breaks.length c6)∧T1 w (.sl x.points.length (x.points.flatMap aO.enc)) b7 (.slice A7 x.points.length c7):=by
 obtain⟨hlt,us,hc,ht⟩:=h;obtain⟨A0,c0,b0,A1,c1,b1,A4,c4,b4,A5,c5,b5,A6,c6,b6,A7,c7,b7,rfl,rfl,t0,l0,m0,t1,l1,m1,t4,l4,m4,t5,l5,m5,t6,l6,m6,t7,l7,m7⟩:=bW.us ht;exact⟨_,_,_,_,_,_,_,_,_,_,_,_,_,_,_,_,_,_,hc.always hlt 0 _ rfl,hc.always hlt 1 _ rfl,hc.always hlt 2 _ rfl,hc.always hlt 3 _ rfl,hc.always hlt 4 _ rfl,hc.always hlt 5 _ rfl,hc.always hlt 6 _ rfl,hc.always hlt 7 _ rfl,t0,t1,t4,t5,t6,t7⟩
theorem aH.WR{w:World}{x:aH}{b bs}(h:gX w b 0 x.enc bs):Kn w b 0 (.int .i64 x.agent)∧Kn w b 1 (.int .i64 x.slot):=by
 have:=aH.pt h;simpa only[Nat.zero_add]using this
theorem ay.WR{w:World}{x:ay}{b bs}(h:gX w b 0 x.enc bs):∃(A3:Option Addr) (c3:Nat) (b3:List Nat) (A4:Option Addr) (c4:Nat) (b4:List Nat),Kn w b 0 (.int .i64 x.kind)∧Kn w b 1 (.int .i64 x.level)∧Kn w b 2 (.int .i64 x.value)∧Kn w b 3 (.slice A3 x.data.length c3)∧Kn w b 4 (.slice A4 x.ports.length c4)∧T1 w (.sl x.data.length (x.data.flatMap dQ)) b3 (.slice A3 x.data.length c3)∧T1 w (.sl x.ports.length (x.ports.flatMap aH.enc)) b4 (.slice A4 x.ports.length c4):=by
 have:=ay.pt h;simpa only[Nat.zero_add]using this
theorem aU.WR{w:World}{x:aU}{b bs}(h:gX w b 0 x.enc bs):∃(A0:Option Addr) (c0:Nat) (b0:List Nat),Kn w b 0 (.slice A0 x.agents.length c0)∧T1 w (.sl x.agents.length (x.agents.flatMap ay.enc)) b0 (.slice A0 x.agents.length c0):=by
 have:=aU.pt h;simpa only[Nat.zero_add]using this
theorem bG.WR{w:World}{x:bG}{b bs}(h:gX w b 0 x.enc bs):Kn w b 0 (.int .i64 x.step)∧Kn w b 1 (.int .i64 x.def_)∧Kn w b 2 (.int .i64 x.source):=by
 have:=bG.pt h;simpa only[Nat.zero_add]using this
theorem dO.WR{w:World}{x:dO}{b bs}(h:gX w b 0 x.enc bs):Kn w b 0 (.int .i64 x.kind)∧Kn w b 1 (.int .i64 x.value):=by
 have:=dO.pt h;simpa only[Nat.zero_add]using this
theorem aO.WR{w:World}{x:aO}{b bs}(h:gX w b 0 x.enc bs):∃(A1:Option Addr) (c1:Nat) (b1:List Nat) (A2:Option Addr) (c2:Nat) (b2:List Nat),Kn w b 0 (.int .i64 x.at_)∧Kn w b 1 (.slice A1 x.net.agents.length c1)∧Kn w b 2 (.slice A2 x.origins.length c2)∧T1 w (.sl x.net.agents.length (x.net.agents.flatMap ay.enc)) b1 (.slice A1 x.net.agents.length c1)∧T1 w (.sl x.origins.length (x.origins.flatMap bG.enc)) b2 (.slice A2 x.origins.length c2):=by
 have:=aO.pt h;simpa only[Nat.zero_add]using this
theorem bW.WR{w:World}{x:bW}{b bs}(h:gX w b 0 x.enc bs):∃(A0:Option Addr) (c0:Nat) (b0:List Nat) (A1:Option Addr) (c1:Nat) (b1:List Nat) (A4:Option Addr) (c4:Nat) (b4:List Nat) (A5:Option Addr) (c5:Nat) (b5:List Nat) (A6:Option Addr) (c6:Nat) (b6:List Nat) (A7:Option Addr) (c7:Nat) (b7:List Nat),Kn w b 0 (.slice A0 x.book.length c0)∧Kn w b 1 (.slice A1 x.schedule.length c1)∧Kn w b 2 (.int .i64 x.every)∧Kn w b 3 (.int .i64 x.at_)∧Kn w b 4 (.slice A4 x.net.agents.length c4)∧Kn w b 5 (.slice A5 x.origins.length c5)∧Kn w b 6 (.slice A6 x.breaks.length c6)∧Kn w b 7 (.slice A7 x.points.length c7)∧T1 w (.sl x.book.length (x.book.flatMap aU.enc)) b0 (.slice A0 x.book.length c0)∧T1 w (.sl x.schedule.length (x.schedule.flatMap dQ)) b1 (.slice A1 x.schedule.length c1)∧T1 w (.sl x.net.agents.length (x.net.agents.flatMap ay.enc)) b4 (.slice A4 x.net.agents.length c4)∧T1 w (.sl x.origins.length (x.origins.flatMap bG.enc)) b5 (.slice A5 x.origins.length c5)∧T1 w (.sl x.breaks.length (x.breaks.flatMap dO.enc)) b6 (.slice A6 x.breaks.length c6)∧T1 w (.sl x.points.length (x.points.flatMap aO.enc)) b7 (.slice A7 x.points.length c7):=by
 have:=bW.pt h;simpa only[Nat.zero_add]using this
end Go.Tr
namespace Go.Tr
def aH.cells(p:aH):List Value:=[.int .i64 p.agent,.int .i64 p.slot]
end Go.Tr
namespace Go.Tr
open Go Go.RowKit
theorem _root_.Go.Calls.q{P:Program}{f:FuncId}{args:Array Value}{W:World}{v:Value}(h:Calls P f args W fun e w'=>e=.returned v∧W=w'):Calls P f args W fun e w'=>e=.returned v∧Ext W w':=
 h.mono fun _ _ ⟨a,b⟩=>⟨a,b▸Below.refl _ _⟩
def fV(k p:Int):Int:=if k==9 then p-1 else 0
def fieldsOf(a:ay):Int:=fV a.kind a.ports.length
def mq(n:Int):Bool:=eZ n 0 23
def vv(n:Int):Bool:=eZ n (-2147483648) 2147483647
def mX(n:Int):Bool:=eZ n 1 6
def fF(l:List Int)(k:Nat):Int:=l.getD k 0
theorem IJ{l:List Int}{k:Nat}{x:Int}(h:Hid (l[k]? =some x)):fF l k=x:=by unfold fF;rw[List.getD_eq_getElem?_getD,h.out];rfl
def nQ(l:List Int):Bool:=fK l.length fun k=>mq (fF l k)
def iw(a:ay):Bool:=
 if a.kind==6 then((a.data.length:Int)==0)&&vv a.value
 else if a.kind==7 then((a.data.length:Int)==0)&&mX a.value
 else if a.kind==8 then((a.data.length:Int)==1)&&mX a.value&&vv (fF a.data 0)
 else if a.kind==9 then((a.data.length:Int)==0)&&eZ a.value 0 3
 else if a.kind==12 then((a.data.length:Int)==0)&&mq a.value
 else if a.kind==10 then a.value==0&&eZ a.data.length 1 4&&nQ a.data
 else if a.kind==11 then a.value==0&&((a.data.length:Int)==2)&&nQ a.data
 else a.value==0&&((a.data.length:Int)==0)
def eP(a:ay):Bool:=decide (0<dS a.kind (fieldsOf a))&&(a.ports.length:Int)==dS a.kind (fieldsOf a)&&dP a.kind a.level&&iw a
def Yy:ay:=⟨0,0,0,[],[]⟩
def Zao:aH:=⟨0,0⟩
def iM(l:List ay)(k:Nat):ay:=l.getD k Yy
def kL(l:List aH)(k:Nat):aH:=l.getD k Zao
theorem Nw{α:Type}{l:List α}{k:Nat}{x d:α}(h:Hid (l[k]? =some x)):l.getD k d=x:=by rw[List.getD_eq_getElem?_getD,h.out];rfl
theorem mE{l:List ay}{k:Nat}{x:ay}(h:Hid (l[k]? =some x)):iM l k=x:=Nw h
theorem xA{l:List aH}{k:Nat}{x:aH}(h:Hid (l[k]? =some x)):kL l k=x:=Nw h
def iQ(l:List ay)(k:Nat):Bool:=eP (iM l k)&&((iM l k).kind==1)==((k:Int)==0)
def gG(l:List ay):Bool:=eZ l.length 1 600&&fK l.length (iQ l)
def jy(l:List ay)(p:aH):Bool:=eZ p.agent 0 ((l.length:Int)-1)&&eZ p.slot 0 (((iM l p.agent.toNat).ports.length:Int)-1)
def vE(l:List ay)(p:aH):aH:=kL (iM l p.agent.toNat).ports p.slot.toNat
noncomputable def tK(l:List ay)(me p:aH):Bool:= !xZ p me&&jy l p&&xZ (vE l p) me
noncomputable def uI(l:List ay)(i:Nat):Bool:=fK (iM l i).ports.length fun k=>tK l ⟨i,k⟩ (kL (iM l i).ports k)
noncomputable def netB(n:aU):Bool:=gG n.agents&&fK n.agents.length (uI n.agents)
theorem QJ{l:List ay}{p:aH}(h:jy l p=true):∃(i k:Nat) (a:ay) (q:aH),p=⟨i,k⟩∧i<l.length∧Hid (l[i]? =some a)∧k<a.ports.length∧Hid (a.ports[k]? =some q)∧vE l p=q:=by
 unfold jy at h;rw[Bool.and_eq_true]at h;obtain⟨h1,h2⟩:=h;have h1:=kZ h1;have h2:=kZ h2;obtain⟨pa,ps⟩:=p;simp only at h1 h2;obtain⟨i,rfl⟩:=Int.eq_ofNat_of_zero_le h1.1;obtain⟨k,rfl⟩:=Int.eq_ofNat_of_zero_le h2.1;have hi:i<l.length:=by omega
 have ha:Hid (l[i]? =some l[i]):=List.getElem?_eq_getElem hi;rw[Int.toNat_natCast,mE ha]at h2;have hk:k<(l[i]).ports.length:=by omega
 have hq:Hid ((l[i]).ports[k]? =some (l[i]).ports[k]):=List.getElem?_eq_getElem hk;refine⟨i,k,l[i],_,rfl,hi,ha,hk,hq,?_⟩;unfold vE;rw[Int.toNat_natCast,Int.toNat_natCast,mE ha,xA hq]
def ZbQ:aU:=⟨[]⟩
def oZ(l:List aU)(k:Nat):aU:=l.getD k ZbQ
theorem Qp{l:List aU}{k:Nat}{x:aU}(h:Hid (l[k]? =some x)):oZ l k=x:=Nw h
noncomputable def bookB(l:List aU):Bool:=decide ((l.length:Int)≤24)&&fK l.length fun k=>netB (oZ l k)
def dV(l:List Int):Bool:=decide ((l.length:Int)≤200)&&fK l.length fun k=>eZ (fF l k) 0 600
end Go.Tr
