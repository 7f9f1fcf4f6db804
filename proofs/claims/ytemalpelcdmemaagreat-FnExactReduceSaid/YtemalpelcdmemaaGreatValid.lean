
/- Plain arithmetic: 32-bit wraps, the operators of the language, bounds as Bools. No program in it. -/
import Derived.Test.YtemalpelcdmemaaGreatSc
set_option linter.unusedSimpArgs false
set_option linter.unusedVariables false
namespace Go.Tr
open Go Go.RowKit
def inB(n lo hi:Int):Bool:=decide (lo≤n)&&decide (n≤hi)
theorem jY{n lo hi:Int}(h:inB n lo hi=true):lo≤n∧n≤hi:=by simpa[inB]using h
theorem Sl{n lo hi:Int}(h:inB n lo hi=false):n<lo∨hi<n:=by
 simp only[inB,Bool.and_eq_false_iff,decide_eq_false_iff_not]at h;omega
theorem wX{n lo hi:Int}(h1:lo≤n)(h2:n≤hi):inB n lo hi=true:=by simp[inB,h1,h2]
theorem BF{n lo hi:Int}(h:n<lo∨hi<n):inB n lo hi=false:=by
 simp only[inB,Bool.and_eq_false_iff,decide_eq_false_iff_not];omega
def kW(k:Int):Bool:=inB k 1 12
def bW(k:Int):Bool:=kW k&&k !=1&&k !=5&&k !=6
def yJ(n:Int):Bool:=inB n 0 8
def dz(k l:Int):Bool:=kW k&&(l==0||(bW k&&yJ l))
def qb(k:Int):Bool:=k==3||k==7||k==8||k==10||k==11
def CZ(t k l:Int):Bool:=yJ t&&dz k l&&(k==6||k==12||(bW k&&decide (t<l)))
def rule(ka la kb lb:Int):Int:=
 if ka=5 then 4
 else if ka=4 then(if kb==4&&la==lb then 2 else if CZ la kb lb then 3 else 0)
 else if ka=2 then(if kb==3&&la==lb then 1 else 0)
 else if ka=6 then(if kb==7||kb==8 then 5 else if kb==11 then 6 else 0)
 else if ka=9 then(if kb==10 then 6 else 0)
 else if ka=12 then(if qb kb then 7 else 0)
 else 0
def mh(ka la kb lb:Int):Bool:=dz ka la&&dz kb lb&&ka !=1&&kb !=1
def aV(ka la kb lb:Int):Int:=if mh ka la kb lb then(if rule ka la kb lb=0 then(if rule kb lb ka la=0 then 8 else rule kb lb ka la)else rule ka la kb lb)else 0
def bn(ka la kb lb:Int):Int:=if mh ka la kb lb then(if rule ka la kb lb=0 then(if rule kb lb ka la=0 then 0 else 2)else 1)else 0
def dH(k f:Int):Int:=
 if k=9 then(if inB f 0 3 then f+1 else 0)else if f=0 then
  (if k=1∨k=5∨k=6∨k=12 then 1 else if k=8∨k=10∨k=11 then 2 else if k=2∨k=3∨k=4∨k=7 then 3 else 0)else 0
theorem EC{k:Int}(h:kW k=true):k=1∨k=2∨k=3∨k=4∨k=5∨k=6∨k=7∨k=8∨k=9∨k=10∨k=11∨k=12:=by
 have:=jY h;omega
theorem CY{k l:Int}(h:kW k=false):dz k l=false:=by simp[dz,h]
theorem oH{k:Int}(h:kW k=false):bW k=false:=by simp[bW,h]
theorem vU(ka la kb lb:Int):0≤rule ka la kb lb∧rule ka la kb lb≤7:=by
 unfold rule;(repeat' split)<;>omega
theorem Ol{i k:Int}(h:CZ i 4 k=true):i<k:=by
 simp only[CZ,Bool.and_eq_true,Bool.or_eq_true]at h;obtain⟨_,h⟩:=h;rcases h with(h|h)|h
 ·exact absurd h (by decide)
 ·exact absurd h (by decide)
 ·simpa using h.2
theorem KL{i b k:Int}(h:CZ i b k=true):b≠5:=by
 rintro rfl;simp[CZ,bW]at h
theorem QH{ka la kb lb:Int}(h1:rule ka la kb lb≠0)(h2:rule kb lb ka la≠0):rule ka la kb lb=rule kb lb ka la∧(rule ka la kb lb=2∨rule ka la kb lb=4):=by
 by_cases a5:ka=5
 ·subst a5
  by_cases b5:kb=5
  ·subst b5;simp[rule]
  ·exfalso;revert h2;unfold rule;rw[if_neg b5];split
   ·rw[if_neg (by simp),if_neg (fun h=>KL h rfl)];simp
   ·simp[qb]
 by_cases b5:kb=5
 ·subst b5;exfalso;revert h1;unfold rule;rw[if_neg a5];split
  ·rw[if_neg (by simp),if_neg (fun h=>KL h rfl)];simp
  ·simp[qb]
 by_cases a4:ka=4
 ·subst a4
  by_cases b4:kb=4
  ·subst b4
   by_cases e:la=lb
   ·subst e;simp[rule]
   ·exfalso;have e':¬lb=la:=fun h=>e h.symm
    simp[rule,e,e']at h1 h2;have:=Ol h1;have:=Ol h2;omega
  ·exfalso;revert h2;unfold rule;simp[b5,b4,qb]
 by_cases b4:kb=4
 ·subst b4;exfalso;revert h1;unfold rule;simp[a5,a4,qb]
 exfalso;revert h1 h2;unfold rule;simp only[a5,b5,a4,b4,if_false]
 by_cases a2:ka=2
 ·subst a2;simp[qb]
  try (intro h _;subst h;simp)
 by_cases a6:ka=6
 ·subst a6;simp[qb]
  try
   split
   ·rename_i h;rcases h with rfl|rfl<;>simp
   ·split
    ·rename_i h;subst h;simp
    ·simp
 by_cases a9:ka=9
 ·subst a9;simp[qb]
  try (intro h;subst h;simp)
 by_cases a12:ka=12
 ·subst a12;intro h
  have hc:qb kb=true:=by
   cases hc:qb kb with
   |true=>rfl
   |false=>simp[hc]at h
  simp only[qb,Bool.or_eq_true,beq_iff_eq]at hc;rcases hc with(((rfl|rfl)|rfl)|rfl)|rfl<;>simp
 ·simp[a2,a6,a9,a12]
theorem Qy(ka la kb lb:Int):mh ka la kb lb=mh kb lb ka la:=by
 simp only[mh];cases dz ka la<;>cases dz kb lb<;>cases (ka !=1)<;>cases (kb !=1)<;>rfl
theorem yU(ka la kb lb:Int):aV kb lb ka la=aV ka la kb lb:=by
 unfold aV;rw[Qy kb lb ka la]
 by_cases h1:rule ka la kb lb=0<;>by_cases h2:rule kb lb ka la=0
 ·simp[h1,h2]
 ·simp[h1,h2]
 ·simp[h1,h2]
 ·simp[h1,h2,(QH h1 h2).1]
structure aG where
 agent:Int
 slot:Int
def aG.enc(x:aG):List D:=[.v (.int .i64 x.agent),.v (.int .i64 x.slot)]
theorem aG.bI(x:aG):x.enc.length=2:=rfl
theorem aG.us{w:World}{x:aG}{bs us}(h0:TN w x.enc bs us):us=[.int .i64 x.agent,.int .i64 x.slot]∧bs=[]:=by
 unfold aG.enc at h0;obtain⟨u0,rfl,h1⟩:=TN.jX h0;obtain⟨u1,rfl,h2⟩:=TN.jX h1;obtain⟨rfl,rfl⟩:=TN.end_ h2;exact⟨rfl,rfl⟩
theorem aG.mk_{w:World}{x:aG}:TN w x.enc ([]) [.int .i64 x.agent,.int .i64 x.slot]:=by
 have h:=(show TN w [.v (.int .i64 x.agent),.v (.int .i64 x.slot)] _ _ from TN.pK rfl (TN.pK rfl (TN.done)))
 try simp only[List.append_nil]at h
 unfold aG.enc
 first|exact h|simpa only[List.append_assoc]using h
theorem aG.get_{w:World}{xs:List aG}{bs:List Nat}{A:Option Addr}{n n' c:Nat}(h:T1 w (.sl n (xs.flatMap aG.enc)) bs (.slice A n' c))(hm:xs.length=n){k:Nat}(hk:k<n):
  ∃(b off:Nat) (x:aG),A=some ⟨b,off,none⟩∧b<w.heap.size∧Hid (xs[k]? =some x)∧w.cell? ⟨b,off+k*2,none⟩=some (.int .i64 x.agent)∧w.cell? ⟨b,off+k*2+1,none⟩=some (.int .i64 x.slot):=by
 obtain⟨_,b,off,p1,p2,p3,us,hA,_,hb,hc,ht⟩:=T1.at_ aG.bI h hm hk;obtain⟨rfl,_⟩:=aG.us ht;exact⟨b,off,xs[k],hA,hb,List.getElem?_eq_getElem (hm▸hk),hc 0 _ rfl,hc 1 _ rfl⟩
theorem aG.ext_{x y:aG}(h0:x.agent=y.agent)(h1:x.slot=y.slot):x=y:=by
 cases x;cases y;simp_all
def aG.wt(_x:aG):Nat:=0
def aG.small(_x:aG):Prop:=True
structure aA where
 kind:Int
 level:Int
 value:Int
 data:(List Int)
 ports:(List aG)
def aA.enc(x:aA):List D:=[.v (.int .i64 x.kind),.v (.int .i64 x.level),.v (.int .i64 x.value),.sl x.data.length (x.data.flatMap intE),.sl x.ports.length (x.ports.flatMap aG.enc)]
theorem aA.bI(x:aA):x.enc.length=5:=rfl
theorem aA.us{w:World}{x:aA}{bs us}(h0:TN w x.enc bs us):∃(A3:Option Addr) (c3:Nat) (b3:List Nat) (A4:Option Addr) (c4:Nat) (b4:List Nat),us=[.int .i64 x.kind,.int .i64 x.level,.int .i64 x.value,.slice A3 x.data.length c3,.slice A4 x.ports.length c4]∧bs=b3++b4∧T1 w (.sl x.data.length (x.data.flatMap intE)) b3 (.slice A3 x.data.length c3)∧x.data.length≤c3∧c3≤maxLen∧T1 w (.sl x.ports.length (x.ports.flatMap aG.enc)) b4 (.slice A4 x.ports.length c4)∧x.ports.length≤c4∧c4≤maxLen:=by
 unfold aA.enc at h0;obtain⟨u0,rfl,h1⟩:=TN.jX h0;obtain⟨u1,rfl,h2⟩:=TN.jX h1;obtain⟨u2,rfl,h3⟩:=TN.jX h2;obtain⟨A3,c3,b3,r3,u3,rfl,rfl,t3,l3,m3,h4⟩:=TN.kF h3;obtain⟨A4,c4,b4,r4,u4,rfl,rfl,t4,l4,m4,h5⟩:=TN.kF h4;obtain⟨rfl,rfl⟩:=TN.end_ h5;exact⟨A3,c3,b3,A4,c4,b4,rfl,by simp,t3,l3,m3,t4,l4,m4⟩
theorem aA.mk_{w:World}{x:aA}{A3 c3 b3}(t3:T1 w (.sl x.data.length (x.data.flatMap intE)) b3 (.slice A3 x.data.length c3)){A4 c4 b4}(t4:T1 w (.sl x.ports.length (x.ports.flatMap aG.enc)) b4 (.slice A4 x.ports.length c4)):TN w x.enc (b3++b4) [.int .i64 x.kind,.int .i64 x.level,.int .i64 x.value,.slice A3 x.data.length c3,.slice A4 x.ports.length c4]:=by
 have h:=(show TN w [.v (.int .i64 x.kind),.v (.int .i64 x.level),.v (.int .i64 x.value),.sl x.data.length (x.data.flatMap intE),.sl x.ports.length (x.ports.flatMap aG.enc)] _ _ from TN.pK rfl (TN.pK rfl (TN.pK rfl (TN.qo t3 (TN.qo t4 (TN.done))))))
 try simp only[List.append_nil]at h
 unfold aA.enc
 first|exact h|simpa only[List.append_assoc]using h
theorem aA.get_{w:World}{xs:List aA}{bs:List Nat}{A:Option Addr}{n n' c:Nat}(h:T1 w (.sl n (xs.flatMap aA.enc)) bs (.slice A n' c))(hm:xs.length=n){k:Nat}(hk:k<n):
  ∃(b off:Nat) (x:aA) (A3:Option Addr) (c3:Nat) (b3:List Nat) (A4:Option Addr) (c4:Nat) (b4:List Nat),A=some ⟨b,off,none⟩∧b<w.heap.size∧Hid (xs[k]? =some x)∧w.cell? ⟨b,off+k*5,none⟩=some (.int .i64 x.kind)∧w.cell? ⟨b,off+k*5+1,none⟩=some (.int .i64 x.level)∧w.cell? ⟨b,off+k*5+2,none⟩=some (.int .i64 x.value)∧w.cell? ⟨b,off+k*5+3,none⟩=some (.slice A3 x.data.length c3)∧w.cell? ⟨b,off+k*5+4,none⟩=some (.slice A4 x.ports.length c4)∧T1 w (.sl x.data.length (x.data.flatMap intE)) b3 (.slice A3 x.data.length c3)∧x.data.length≤c3∧c3≤maxLen∧T1 w (.sl x.ports.length (x.ports.flatMap aG.enc)) b4 (.slice A4 x.ports.length c4)∧x.ports.length≤c4∧c4≤maxLen:=by
 obtain⟨_,b,off,p1,p2,p3,us,hA,_,hb,hc,ht⟩:=T1.at_ aA.bI h hm hk;obtain⟨A3,c3,b3,A4,c4,b4,rfl,_,t3,l3,m3,t4,l4,m4⟩:=aA.us ht;exact⟨b,off,xs[k],A3,c3,b3,A4,c4,b4,hA,hb,List.getElem?_eq_getElem (hm▸hk),hc 0 _ rfl,hc 1 _ rfl,hc 2 _ rfl,hc 3 _ rfl,hc 4 _ rfl,t3,l3,m3,t4,l4,m4⟩
theorem aA.ext_{x y:aA}(h0:x.kind=y.kind)(h1:x.level=y.level)(h2:x.value=y.value)(h3:x.data=y.data)(h4:x.ports=y.ports):x=y:=by
 cases x;cases y;simp_all
def aA.wt(x:aA):Nat:=wz (fun _=>0) x.data+wz (fun _=>0) x.ports
def aA.small(x:aA):Prop:=(x.data.length≤1048576)∧(x.ports.length≤1048576∧∀y∈x.ports,aG.small y)
structure GNet where
 agents:(List aA)
def GNet.enc(x:GNet):List D:=[.sl x.agents.length (x.agents.flatMap aA.enc)]
theorem GNet.bI(x:GNet):x.enc.length=1:=rfl
theorem GNet.us{w:World}{x:GNet}{bs us}(h0:TN w x.enc bs us):∃(A0:Option Addr) (c0:Nat) (b0:List Nat),us=[.slice A0 x.agents.length c0]∧bs=b0∧T1 w (.sl x.agents.length (x.agents.flatMap aA.enc)) b0 (.slice A0 x.agents.length c0)∧x.agents.length≤c0∧c0≤maxLen:=by
 unfold GNet.enc at h0;obtain⟨A0,c0,b0,r0,u0,rfl,rfl,t0,l0,m0,h1⟩:=TN.kF h0;obtain⟨rfl,rfl⟩:=TN.end_ h1;exact⟨A0,c0,b0,rfl,by simp,t0,l0,m0⟩
theorem GNet.mk_{w:World}{x:GNet}{A0 c0 b0}(t0:T1 w (.sl x.agents.length (x.agents.flatMap aA.enc)) b0 (.slice A0 x.agents.length c0)):TN w x.enc (b0) [.slice A0 x.agents.length c0]:=by
 have h:=(show TN w [.sl x.agents.length (x.agents.flatMap aA.enc)] _ _ from TN.qo t0 (TN.done))
 try simp only[List.append_nil]at h
 unfold GNet.enc
 first|exact h|simpa only[List.append_assoc]using h
theorem GNet.get_{w:World}{xs:List GNet}{bs:List Nat}{A:Option Addr}{n n' c:Nat}(h:T1 w (.sl n (xs.flatMap GNet.enc)) bs (.slice A n' c))(hm:xs.length=n){k:Nat}(hk:k<n):
  ∃(b off:Nat) (x:GNet) (A0:Option Addr) (c0:Nat) (b0:List Nat),A=some ⟨b,off,none⟩∧b<w.heap.size∧Hid (xs[k]? =some x)∧w.cell? ⟨b,off+k,none⟩=some (.slice A0 x.agents.length c0)∧T1 w (.sl x.agents.length (x.agents.flatMap aA.enc)) b0 (.slice A0 x.agents.length c0)∧x.agents.length≤c0∧c0≤maxLen:=by
 obtain⟨_,b,off,p1,p2,p3,us,hA,_,hb,hc,ht⟩:=T1.at_ GNet.bI h hm hk;obtain⟨A0,c0,b0,rfl,_,t0,l0,m0⟩:=GNet.us ht;exact⟨b,off,xs[k],A0,c0,b0,hA,hb,List.getElem?_eq_getElem (hm▸hk),by simpa using hc 0 _ rfl,t0,l0,m0⟩
theorem GNet.ext_{x y:GNet}(h0:x.agents=y.agents):x=y:=by
 cases x;cases y;simp_all
def GNet.wt(x:GNet):Nat:=wz aA.wt x.agents
def GNet.small(x:GNet):Prop:=(x.agents.length≤1048576∧∀y∈x.agents,aA.small y)
structure aW where
 step:Int
 def_:Int
 source:Int
def aW.enc(x:aW):List D:=[.v (.int .i64 x.step),.v (.int .i64 x.def_),.v (.int .i64 x.source)]
theorem aW.bI(x:aW):x.enc.length=3:=rfl
theorem aW.us{w:World}{x:aW}{bs us}(h0:TN w x.enc bs us):us=[.int .i64 x.step,.int .i64 x.def_,.int .i64 x.source]∧bs=[]:=by
 unfold aW.enc at h0;obtain⟨u0,rfl,h1⟩:=TN.jX h0;obtain⟨u1,rfl,h2⟩:=TN.jX h1;obtain⟨u2,rfl,h3⟩:=TN.jX h2;obtain⟨rfl,rfl⟩:=TN.end_ h3;exact⟨rfl,rfl⟩
theorem aW.mk_{w:World}{x:aW}:TN w x.enc ([]) [.int .i64 x.step,.int .i64 x.def_,.int .i64 x.source]:=by
 have h:=(show TN w [.v (.int .i64 x.step),.v (.int .i64 x.def_),.v (.int .i64 x.source)] _ _ from TN.pK rfl (TN.pK rfl (TN.pK rfl (TN.done))))
 try simp only[List.append_nil]at h
 unfold aW.enc
 first|exact h|simpa only[List.append_assoc]using h
theorem aW.get_{w:World}{xs:List aW}{bs:List Nat}{A:Option Addr}{n n' c:Nat}(h:T1 w (.sl n (xs.flatMap aW.enc)) bs (.slice A n' c))(hm:xs.length=n){k:Nat}(hk:k<n):
  ∃(b off:Nat) (x:aW),A=some ⟨b,off,none⟩∧b<w.heap.size∧Hid (xs[k]? =some x)∧w.cell? ⟨b,off+k*3,none⟩=some (.int .i64 x.step)∧w.cell? ⟨b,off+k*3+1,none⟩=some (.int .i64 x.def_)∧w.cell? ⟨b,off+k*3+2,none⟩=some (.int .i64 x.source):=by
 obtain⟨_,b,off,p1,p2,p3,us,hA,_,hb,hc,ht⟩:=T1.at_ aW.bI h hm hk;obtain⟨rfl,_⟩:=aW.us ht;exact⟨b,off,xs[k],hA,hb,List.getElem?_eq_getElem (hm▸hk),hc 0 _ rfl,hc 1 _ rfl,hc 2 _ rfl⟩
theorem aW.ext_{x y:aW}(h0:x.step=y.step)(h1:x.def_=y.def_)(h2:x.source=y.source):x=y:=by
 cases x;cases y;simp_all
def aW.wt(_x:aW):Nat:=0
def aW.small(_x:aW):Prop:=True
structure dx where
 kind:Int
 value:Int
def dx.enc(x:dx):List D:=[.v (.int .i64 x.kind),.v (.int .i64 x.value)]
theorem dx.bI(x:dx):x.enc.length=2:=rfl
theorem dx.us{w:World}{x:dx}{bs us}(h0:TN w x.enc bs us):us=[.int .i64 x.kind,.int .i64 x.value]∧bs=[]:=by
 unfold dx.enc at h0;obtain⟨u0,rfl,h1⟩:=TN.jX h0;obtain⟨u1,rfl,h2⟩:=TN.jX h1;obtain⟨rfl,rfl⟩:=TN.end_ h2;exact⟨rfl,rfl⟩
theorem dx.mk_{w:World}{x:dx}:TN w x.enc ([]) [.int .i64 x.kind,.int .i64 x.value]:=by
 have h:=(show TN w [.v (.int .i64 x.kind),.v (.int .i64 x.value)] _ _ from TN.pK rfl (TN.pK rfl (TN.done)))
 try simp only[List.append_nil]at h
 unfold dx.enc
 first|exact h|simpa only[List.append_assoc]using h
theorem dx.get_{w:World}{xs:List dx}{bs:List Nat}{A:Option Addr}{n n' c:Nat}(h:T1 w (.sl n (xs.flatMap dx.enc)) bs (.slice A n' c))(hm:xs.length=n){k:Nat}(hk:k<n):
  ∃(b off:Nat) (x:dx),A=some ⟨b,off,none⟩∧b<w.heap.size∧Hid (xs[k]? =some x)∧w.cell? ⟨b,off+k*2,none⟩=some (.int .i64 x.kind)∧w.cell? ⟨b,off+k*2+1,none⟩=some (.int .i64 x.value):=by
 obtain⟨_,b,off,p1,p2,p3,us,hA,_,hb,hc,ht⟩:=T1.at_ dx.bI h hm hk;obtain⟨rfl,_⟩:=dx.us ht;exact⟨b,off,xs[k],hA,hb,List.getElem?_eq_getElem (hm▸hk),hc 0 _ rfl,hc 1 _ rfl⟩
theorem dx.ext_{x y:dx}(h0:x.kind=y.kind)(h1:x.value=y.value):x=y:=by
 cases x;cases y;simp_all
def dx.wt(_x:dx):Nat:=0
def dx.small(_x:dx):Prop:=True
structure aK where
 at_:Int
 net:GNet
 origins:(List aW)
def aK.enc(x:aK):List D:=[.v (.int .i64 x.at_),.sl x.net.agents.length (x.net.agents.flatMap aA.enc),.sl x.origins.length (x.origins.flatMap aW.enc)]
theorem aK.bI(x:aK):x.enc.length=3:=rfl
theorem aK.us{w:World}{x:aK}{bs us}(h0:TN w x.enc bs us):∃(A1:Option Addr) (c1:Nat) (b1:List Nat) (A2:Option Addr) (c2:Nat) (b2:List Nat),us=[.int .i64 x.at_,.slice A1 x.net.agents.length c1,.slice A2 x.origins.length c2]∧bs=b1++b2∧T1 w (.sl x.net.agents.length (x.net.agents.flatMap aA.enc)) b1 (.slice A1 x.net.agents.length c1)∧x.net.agents.length≤c1∧c1≤maxLen∧T1 w (.sl x.origins.length (x.origins.flatMap aW.enc)) b2 (.slice A2 x.origins.length c2)∧x.origins.length≤c2∧c2≤maxLen:=by
 unfold aK.enc at h0;obtain⟨u0,rfl,h1⟩:=TN.jX h0;obtain⟨A1,c1,b1,r1,u1,rfl,rfl,t1,l1,m1,h2⟩:=TN.kF h1;obtain⟨A2,c2,b2,r2,u2,rfl,rfl,t2,l2,m2,h3⟩:=TN.kF h2;obtain⟨rfl,rfl⟩:=TN.end_ h3;exact⟨A1,c1,b1,A2,c2,b2,rfl,by simp,t1,l1,m1,t2,l2,m2⟩
theorem aK.mk_{w:World}{x:aK}{A1 c1 b1}(t1:T1 w (.sl x.net.agents.length (x.net.agents.flatMap aA.enc)) b1 (.slice A1 x.net.agents.length c1)){A2 c2 b2}(t2:T1 w (.sl x.origins.length (x.origins.flatMap aW.enc)) b2 (.slice A2 x.origins.length c2)):TN w x.enc (b1++b2) [.int .i64 x.at_,.slice A1 x.net.agents.length c1,.slice A2 x.origins.length c2]:=by
 have h:=(show TN w [.v (.int .i64 x.at_),.sl x.net.agents.length (x.net.agents.flatMap aA.enc),.sl x.origins.length (x.origins.flatMap aW.enc)] _ _ from TN.pK rfl (TN.qo t1 (TN.qo t2 (TN.done))))
 try simp only[List.append_nil]at h
 unfold aK.enc
 first|exact h|simpa only[List.append_assoc]using h
theorem aK.get_{w:World}{xs:List aK}{bs:List Nat}{A:Option Addr}{n n' c:Nat}(h:T1 w (.sl n (xs.flatMap aK.enc)) bs (.slice A n' c))(hm:xs.length=n){k:Nat}(hk:k<n):
  ∃(b off:Nat) (x:aK) (A1:Option Addr) (c1:Nat) (b1:List Nat) (A2:Option Addr) (c2:Nat) (b2:List Nat),A=some ⟨b,off,none⟩∧b<w.heap.size∧Hid (xs[k]? =some x)∧w.cell? ⟨b,off+k*3,none⟩=some (.int .i64 x.at_)∧w.cell? ⟨b,off+k*3+1,none⟩=some (.slice A1 x.net.agents.length c1)∧w.cell? ⟨b,off+k*3+2,none⟩=some (.slice A2 x.origins.length c2)∧T1 w (.sl x.net.agents.length (x.net.agents.flatMap aA.enc)) b1 (.slice A1 x.net.agents.length c1)∧x.net.agents.length≤c1∧c1≤maxLen∧T1 w (.sl x.origins.length (x.origins.flatMap aW.enc)) b2 (.slice A2 x.origins.length c2)∧x.origins.length≤c2∧c2≤maxLen:=by
 obtain⟨_,b,off,p1,p2,p3,us,hA,_,hb,hc,ht⟩:=T1.at_ aK.bI h hm hk;obtain⟨A1,c1,b1,A2,c2,b2,rfl,_,t1,l1,m1,t2,l2,m2⟩:=aK.us ht;exact⟨b,off,xs[k],A1,c1,b1,A2,c2,b2,hA,hb,List.getElem?_eq_getElem (hm▸hk),hc 0 _ rfl,hc 1 _ rfl,hc 2 _ rfl,t1,l1,m1,t2,l2,m2⟩
theorem aK.ext_{x y:aK}(h0:x.at_=y.at_)(h1:x.net=y.net)(h2:x.origins=y.origins):x=y:=by
 cases x;cases y;simp_all
def aK.wt(x:aK):Nat:=x.net.wt+wz (fun _=>0) x.origins
def aK.small(x:aK):Prop:=(x.net.small)∧(x.origins.length≤1048576∧∀y∈x.origins,aW.small y)
structure bO where
 book:(List GNet)
 schedule:(List Int)
 every:Int
 at_:Int
 net:GNet
 origins:(List aW)
 breaks:(List dx)
 points:(List aK)
def bO.enc(x:bO):List D:=[.sl x.book.length (x.book.flatMap GNet.enc),.sl x.schedule.length (x.schedule.flatMap intE),.v (.int .i64 x.every),.v (.int .i64 x.at_),.sl x.net.agents.length (x.net.agents.flatMap aA.enc),.sl x.origins.length (x.origins.flatMap aW.enc),.sl x.breaks.length (x.breaks.flatMap dx.enc),.sl x.points.length (x.points.flatMap aK.enc)]
theorem bO.bI(x:bO):x.enc.length=8:=rfl
theorem bO.us{w:World}{x:bO}{bs us}(h0:TN w x.enc bs us):∃(A0:Option Addr) (c0:Nat) (b0:List Nat) (A1:Option Addr) (c1:Nat) (b1:List Nat) (A4:Option Addr) (c4:Nat) (b4:List Nat) (A5:Option Addr) (c5:Nat) (b5:List Nat) (A6:Option Addr) (c6:Nat) (b6:List Nat) (A7:Option Addr) (c7:Nat) (b7:List Nat),us=[.slice A0 x.book.length c0,.slice A1 x.schedule.length c1,.int .i64 x.every,.int .i64 x.at_,.slice A4 x.net.agents.length c4,.slice A5 x.origins.length c5,.slice A6 x.breaks.length c6,.slice A7 x.points.length c7]∧bs=b0++b1++b4++b5++b6++b7∧T1 w (.sl x.book.length (x.book.flatMap GNet.enc)) b0 (.slice A0 x.book.length c0)∧x.book.length≤c0∧c0≤maxLen∧T1 w (.sl x.schedule.length (x.schedule.flatMap intE)) b1 (.slice A1 x.schedule.length c1)∧x.schedule.length≤c1∧c1≤maxLen∧T1 w (.sl x.net.agents.length (x.net.agents.flatMap aA.enc)) b4 (.slice A4 x.net.agents.length c4)∧x.net.agents.length≤c4∧c4≤maxLen∧T1 w (.sl x.origins.length (x.origins.flatMap aW.enc)) b5 (.slice A5 x.origins.length c5)∧x.origins.length≤c5∧c5≤maxLen∧T1 w (.sl x.breaks.length (x.breaks.flatMap dx.enc)) b6 (.slice A6 x.breaks.length c6)∧x.breaks.length≤c6∧c6≤maxLen∧T1 w (.sl x.points.length (x.points.flatMap aK.enc)) b7 (.slice A7 x.points.length c7)∧x.points.length≤c7∧c7≤maxLen:=by
 unfold bO.enc at h0;obtain⟨A0,c0,b0,r0,u0,rfl,rfl,t0,l0,m0,h1⟩:=TN.kF h0;obtain⟨A1,c1,b1,r1,u1,rfl,rfl,t1,l1,m1,h2⟩:=TN.kF h1;obtain⟨u2,rfl,h3⟩:=TN.jX h2;obtain⟨u3,rfl,h4⟩:=TN.jX h3;obtain⟨A4,c4,b4,r4,u4,rfl,rfl,t4,l4,m4,h5⟩:=TN.kF h4;obtain⟨A5,c5,b5,r5,u5,rfl,rfl,t5,l5,m5,h6⟩:=TN.kF h5;obtain⟨A6,c6,b6,r6,u6,rfl,rfl,t6,l6,m6,h7⟩:=TN.kF h6;obtain⟨A7,c7,b7,r7,u7,rfl,rfl,t7,l7,m7,h8⟩:=TN.kF h7;obtain⟨rfl,rfl⟩:=TN.end_ h8;exact⟨A0,c0,b0,A1,c1,b1,A4,c4,b4,A5,c5,b5,A6,c6,b6,A7,c7,b7,rfl,by simp,t0,l0,m0,t1,l1,m1,t4,l4,m4,t5,l5,m5,t6,l6,m6,t7,l7,m7⟩
theorem bO.mk_{w:World}{x:bO}{A0 c0 b0}(t0:T1 w (.sl x.book.length (x.book.flatMap GNet.enc)) b0 (.slice A0 x.book.length c0)){A1 c1 b1}(t1:T1 w (.sl x.schedule.length (x.schedule.flatMap intE)) b1 (.slice A1 x.schedule.length c1)){A4 c4 b4}(t4:T1 w (.sl x.net.agents.length (x.net.agents.flatMap aA.enc)) b4 (.slice A4 x.net.agents.length c4)){A5 c5 b5}(t5:T1 w (.sl x.origins.length (x.origins.flatMap aW.enc)) b5 (.slice A5 x.origins.length c5)){A6 c6 b6}(t6:T1 w (.sl x.breaks.length (x.breaks.flatMap dx.enc)) b6 (.slice A6 x.breaks.length c6)){A7 c7 b7}(t7:T1 w (.sl x.points.length (x.points.flatMap aK.enc)) b7 (.slice A7 x.points.length c7)):TN w x.enc (b0++b1++b4++b5++b6++b7) [.slice A0 x.book.length c0,.slice A1 x.schedule.length c1,.int .i64 x.every,.int .i64 x.at_,.slice A4 x.net.agents.length c4,.slice A5 x.origins.length c5,.slice A6 x.breaks.length c6,.slice A7 x.points.length c7]:=by
 have h:=(show TN w [.sl x.book.length (x.book.flatMap GNet.enc),.sl x.schedule.length (x.schedule.flatMap intE),.v (.int .i64 x.every),.v (.int .i64 x.at_),.sl x.net.agents.length (x.net.agents.flatMap aA.enc),.sl x.origins.length (x.origins.flatMap aW.enc),.sl x.breaks.length (x.breaks.flatMap dx.enc),.sl x.points.length (x.points.flatMap aK.enc)] _ _ from TN.qo t0 (TN.qo t1 (TN.pK rfl (TN.pK rfl (TN.qo t4 (TN.qo t5 (TN.qo t6 (TN.qo t7 (TN.done)))))))))
 try simp only[List.append_nil]at h
 unfold bO.enc
 first|exact h|simpa only[List.append_assoc]using h
theorem bO.get_{w:World}{xs:List bO}{bs:List Nat}{A:Option Addr}{n n' c:Nat}(h:T1 w (.sl n (xs.flatMap bO.enc)) bs (.slice A n' c))(hm:xs.length=n){k:Nat}(hk:k<n):
  ∃(b off:Nat) (x:bO) (A0:Option Addr) (c0:Nat) (b0:List Nat) (A1:Option Addr) (c1:Nat) (b1:List Nat) (A4:Option Addr) (c4:Nat) (b4:List Nat) (A5:Option Addr) (c5:Nat) (b5:List Nat) (A6:Option Addr) (c6:Nat) (b6:List Nat) (A7:Option Addr) (c7:Nat) (b7:List Nat),A=some ⟨b,off,none⟩∧b<w.heap.size∧Hid (xs[k]? =some x)∧w.cell? ⟨b,off+k*8,none⟩=some (.slice A0 x.book.length c0)∧w.cell? ⟨b,off+k*8+1,none⟩=some (.slice A1 x.schedule.length c1)∧w.cell? ⟨b,off+k*8+2,none⟩=some (.int .i64 x.every)∧w.cell? ⟨b,off+k*8+3,none⟩=some (.int .i64 x.at_)∧w.cell? ⟨b,off+k*8+4,none⟩=some (.slice A4 x.net.agents.length c4)∧w.cell? ⟨b,off+k*8+5,none⟩=some (.slice A5 x.origins.length c5)∧w.cell? ⟨b,off+k*8+6,none⟩=some (.slice A6 x.breaks.length c6)∧w.cell? ⟨b,off+k*8+7,none⟩=some (.slice A7 x.points.length c7)∧T1 w (.sl x.book.length (x.book.flatMap GNet.enc)) b0 (.slice A0 x.book.length c0)∧x.book.length≤c0∧c0≤maxLen∧T1 w (.sl x.schedule.length (x.schedule.flatMap intE)) b1 (.slice A1 x.schedule.length c1)∧x.schedule.length≤c1∧c1≤maxLen∧T1 w (.sl x.net.agents.length (x.net.agents.flatMap aA.enc)) b4 (.slice A4 x.net.agents.length c4)∧x.net.agents.length≤c4∧c4≤maxLen∧T1 w (.sl x.origins.length (x.origins.flatMap aW.enc)) b5 (.slice A5 x.origins.length c5)∧x.origins.length≤c5∧c5≤maxLen∧T1 w (.sl x.breaks.length (x.breaks.flatMap dx.enc)) b6 (.slice A6 x.breaks.length c6)∧x.breaks.length≤c6∧c6≤maxLen∧T1 w (.sl x.points.length (x.points.flatMap aK.enc)) b7 (.slice A7 x.points.length c7)∧x.points.length≤c7∧c7≤maxLen:=by
 obtain⟨_,b,off,p1,p2,p3,us,hA,_,hb,hc,ht⟩:=T1.at_ bO.bI h hm hk;obtain⟨A0,c0,b0,A1,c1,b1,A4,c4,b4,A5,c5,b5,A6,c6,b6,A7,c7,b7,rfl,_,t0,l0,m0,t1,l1,m1,t4,l4,m4,t5,l5,m5,t6,l6,m6,t7,l7,m7⟩:=bO.us ht;exact⟨b,off,xs[k],A0,c0,b0,A1,c1,b1,A4,c4,b4,A5,c5,b5,A6,c6,b6,A7,c7,b7,hA,hb,List.getElem?_eq_getElem (hm▸hk),hc 0 _ rfl,hc 1 _ rfl,hc 2 _ rfl,hc 3 _ rfl,hc 4 _ rfl,hc 5 _ rfl,hc 6 _ rfl,hc 7 _ rfl,t0,l0,m0,t1,l1,m1,t4,l4,m4,t5,l5,m5,t6,l6,m6,t7,l7,m7⟩
theorem bO.ext_{x y:bO}(h0:x.book=y.book)(h1:x.schedule=y.schedule)(h2:x.every=y.every)(h3:x.at_=y.at_)(h4:x.net=y.net)(h5:x.origins=y.origins)(h6:x.breaks=y.breaks)(h7:x.points=y.points):x=y:=by
 cases x;cases y;simp_all
def bO.wt(x:bO):Nat:=wz GNet.wt x.book+wz (fun _=>0) x.schedule+x.net.wt+wz (fun _=>0) x.origins+wz (fun _=>0) x.breaks+wz aK.wt x.points
def bO.small(x:bO):Prop:=(x.book.length≤1048576∧∀y∈x.book,GNet.small y)∧(x.schedule.length≤1048576)∧(x.net.small)∧(x.origins.length≤1048576∧∀y∈x.origins,aW.small y)∧(x.breaks.length≤1048576∧∀y∈x.breaks,dx.small y)∧(x.points.length≤1048576∧∀y∈x.points,aK.small y)
theorem aG.pt{w:World}{x:aG}{b o bs}(h:gK w b o x.enc bs):Kn w b (o) (.int .i64 x.agent)∧Kn w b (o+1) (.int .i64 x.slot):=by
 obtain⟨hlt,us,hc,ht⟩:=h;obtain⟨rfl,rfl⟩:=aG.us ht;exact⟨hc.always hlt 0 _ rfl,hc.always hlt 1 _ rfl⟩
theorem aA.pt{w:World}{x:aA}{b o bs}(h:gK w b o x.enc bs):∃(A3:Option Addr) (c3:Nat) (b3:List Nat) (A4:Option Addr) (c4:Nat) (b4:List Nat),Kn w b (o) (.int .i64 x.kind)∧Kn w b (o+1) (.int .i64 x.level)∧Kn w b (o+2) (.int .i64 x.value)∧Kn w b (o+3) (.slice A3 x.data.length c3)∧Kn w b (o+4) (.slice A4 x.ports.length c4)∧T1 w (.sl x.data.length (x.data.flatMap intE)) b3 (.slice A3 x.data.length c3)∧T1 w (.sl x.ports.length (x.ports.flatMap aG.enc)) b4 (.slice A4 x.ports.length c4):=by
 obtain⟨hlt,us,hc,ht⟩:=h;obtain⟨A3,c3,b3,A4,c4,b4,rfl,rfl,t3,l3,m3,t4,l4,m4⟩:=aA.us ht;exact⟨_,_,_,_,_,_,hc.always hlt 0 _ rfl,hc.always hlt 1 _ rfl,hc.always hlt 2 _ rfl,hc.always hlt 3 _ rfl,hc.always hlt 4 _ rfl,t3,t4⟩
theorem GNet.pt{w:World}{x:GNet}{b o bs}(h:gK w b o x.enc bs):∃(A0:Option Addr) (c0:Nat) (b0:List Nat),Kn w b (o) (.slice A0 x.agents.length c0)∧T1 w (.sl x.agents.length (x.agents.flatMap aA.enc)) b0 (.slice A0 x.agents.length c0):=by
 obtain⟨hlt,us,hc,ht⟩:=h;obtain⟨A0,c0,b0,rfl,rfl,t0,l0,m0⟩:=GNet.us ht;exact⟨_,_,_,hc.always hlt 0 _ rfl,t0⟩
theorem aW.pt{w:World}{x:aW}{b o bs}(h:gK w b o x.enc bs):Kn w b (o) (.int .i64 x.step)∧Kn w b (o+1) (.int .i64 x.def_)∧Kn w b (o+2) (.int .i64 x.source):=by
 obtain⟨hlt,us,hc,ht⟩:=h;obtain⟨rfl,rfl⟩:=aW.us ht;exact⟨hc.always hlt 0 _ rfl,hc.always hlt 1 _ rfl,hc.always hlt 2 _ rfl⟩
theorem dx.pt{w:World}{x:dx}{b o bs}(h:gK w b o x.enc bs):Kn w b (o) (.int .i64 x.kind)∧Kn w b (o+1) (.int .i64 x.value):=by
 obtain⟨hlt,us,hc,ht⟩:=h;obtain⟨rfl,rfl⟩:=dx.us ht;exact⟨hc.always hlt 0 _ rfl,hc.always hlt 1 _ rfl⟩
theorem aK.pt{w:World}{x:aK}{b o bs}(h:gK w b o x.enc bs):∃(A1:Option Addr) (c1:Nat) (b1:List Nat) (A2:Option Addr) (c2:Nat) (b2:List Nat),Kn w b (o) (.int .i64 x.at_)∧Kn w b (o+1) (.slice A1 x.net.agents.length c1)∧Kn w b (o+2) (.slice A2 x.origins.length c2)∧T1 w (.sl x.net.agents.length (x.net.agents.flatMap aA.enc)) b1 (.slice A1 x.net.agents.length c1)∧T1 w (.sl x.origins.length (x.origins.flatMap aW.enc)) b2 (.slice A2 x.origins.length c2):=by
 obtain⟨hlt,us,hc,ht⟩:=h;obtain⟨A1,c1,b1,A2,c2,b2,rfl,rfl,t1,l1,m1,t2,l2,m2⟩:=aK.us ht;exact⟨_,_,_,_,_,_,hc.always hlt 0 _ rfl,hc.always hlt 1 _ rfl,hc.always hlt 2 _ rfl,t1,t2⟩
theorem bO.pt{w:World}{x:bO}{b o bs}(h:gK w b o x.enc bs):∃(A0:Option Addr) (c0:Nat) (b0:List Nat) (A1:Option Addr) (c1:Nat) (b1:List Nat) (A4:Option Addr) (c4:Nat) (b4:List Nat) (A5:Option Addr) (c5:Nat) (b5:List Nat) (A6:Option Addr) (c6:Nat) (b6:List Nat) (A7:Option Addr) (c7:Nat) (b7:List Nat),Kn w b (o) (.slice A0 x.book.length c0)∧Kn w b (o+1) (.slice A1 x.schedule.length c1)∧Kn w b (o+2) (.int .i64 x.every)∧Kn w b (o+3) (.int .i64 x.at_)∧Kn w b (o+4) (.slice A4 x.net.agents.length c4)∧Kn w b (o+5) (.slice A5 x.origins.length c5)∧Kn w b (o+6) (.slice A6 x.breaks.length c6)∧Kn w b (o+7) (.slice A7 x.points.length c7)∧T1 w (.sl x.book.length (x.book.flatMap GNet.enc)) b0 (.slice A0 x.book.length c0)∧T1 w (.sl x.schedule.length (x.schedule.flatMap intE)) b1 (.slice A1 x.schedule.length c1)∧T1 w (.sl x.net.agents.length (x.net.agents.flatMap aA.enc)) b4 (.slice A4 x.net.agents.length c4)∧T1 w (.sl x.origins.length (x.origins.flatMap aW.enc)) b5 (.slice A5 x.origins.length c5)∧T1 w (.sl x.breaks.length (x.breaks.flatMap dx.enc)) b6 (.slice A6 x.breaks.length c6)∧T1 w (.sl x.points.length (x.points.flatMap aK.enc)) b7 (.slice A7 x.points.length c7):=by
 obtain⟨hlt,us,hc,ht⟩:=h;obtain⟨A0,c0,b0,A1,c1,b1,A4,c4,b4,A5,c5,b5,A6,c6,b6,A7,c7,b7,rfl,rfl,t0,l0,m0,t1,l1,m1,t4,l4,m4,t5,l5,m5,t6,l6,m6,t7,l7,m7⟩:=bO.us ht;exact⟨_,_,_,_,_,_,_,_,_,_,_,_,_,_,_,_,_,_,hc.always hlt 0 _ rfl,hc.always hlt 1 _ rfl,hc.always hlt 2 _ rfl,hc.always hlt 3 _ rfl,hc.always hlt 4 _ rfl,hc.always hlt 5 _ rfl,hc.always hlt 6 _ rfl,hc.always hlt 7 _ rfl,t0,t1,t4,t5,t6,t7⟩
theorem aG.QE{w:World}{x:aG}{b bs}(h:gK w b 0 x.enc bs):Kn w b 0 (.int .i64 x.agent)∧Kn w b 1 (.int .i64 x.slot):=by
 have:=aG.pt h;simpa only[Nat.zero_add]using this
theorem aA.QE{w:World}{x:aA}{b bs}(h:gK w b 0 x.enc bs):∃(A3:Option Addr) (c3:Nat) (b3:List Nat) (A4:Option Addr) (c4:Nat) (b4:List Nat),Kn w b 0 (.int .i64 x.kind)∧Kn w b 1 (.int .i64 x.level)∧Kn w b 2 (.int .i64 x.value)∧Kn w b 3 (.slice A3 x.data.length c3)∧Kn w b 4 (.slice A4 x.ports.length c4)∧T1 w (.sl x.data.length (x.data.flatMap intE)) b3 (.slice A3 x.data.length c3)∧T1 w (.sl x.ports.length (x.ports.flatMap aG.enc)) b4 (.slice A4 x.ports.length c4):=by
 have:=aA.pt h;simpa only[Nat.zero_add]using this
theorem GNet.QE{w:World}{x:GNet}{b bs}(h:gK w b 0 x.enc bs):∃(A0:Option Addr) (c0:Nat) (b0:List Nat),Kn w b 0 (.slice A0 x.agents.length c0)∧T1 w (.sl x.agents.length (x.agents.flatMap aA.enc)) b0 (.slice A0 x.agents.length c0):=by
 have:=GNet.pt h;simpa only[Nat.zero_add]using this
theorem aW.QE{w:World}{x:aW}{b bs}(h:gK w b 0 x.enc bs):Kn w b 0 (.int .i64 x.step)∧Kn w b 1 (.int .i64 x.def_)∧Kn w b 2 (.int .i64 x.source):=by
 have:=aW.pt h;simpa only[Nat.zero_add]using this
theorem dx.QE{w:World}{x:dx}{b bs}(h:gK w b 0 x.enc bs):Kn w b 0 (.int .i64 x.kind)∧Kn w b 1 (.int .i64 x.value):=by
 have:=dx.pt h;simpa only[Nat.zero_add]using this
theorem aK.QE{w:World}{x:aK}{b bs}(h:gK w b 0 x.enc bs):∃(A1:Option Addr) (c1:Nat) (b1:List Nat) (A2:Option Addr) (c2:Nat) (b2:List Nat),Kn w b 0 (.int .i64 x.at_)∧Kn w b 1 (.slice A1 x.net.agents.length c1)∧Kn w b 2 (.slice A2 x.origins.length c2)∧T1 w (.sl x.net.agents.length (x.net.agents.flatMap aA.enc)) b1 (.slice A1 x.net.agents.length c1)∧T1 w (.sl x.origins.length (x.origins.flatMap aW.enc)) b2 (.slice A2 x.origins.length c2):=by
 have:=aK.pt h;simpa only[Nat.zero_add]using this
theorem bO.QE{w:World}{x:bO}{b bs}(h:gK w b 0 x.enc bs):∃(A0:Option Addr) (c0:Nat) (b0:List Nat) (A1:Option Addr) (c1:Nat) (b1:List Nat) (A4:Option Addr) (c4:Nat) (b4:List Nat) (A5:Option Addr) (c5:Nat) (b5:List Nat) (A6:Option Addr) (c6:Nat) (b6:List Nat) (A7:Option Addr) (c7:Nat) (b7:List Nat),Kn w b 0 (.slice A0 x.book.length c0)∧Kn w b 1 (.slice A1 x.schedule.length c1)∧Kn w b 2 (.int .i64 x.every)∧Kn w b 3 (.int .i64 x.at_)∧Kn w b 4 (.slice A4 x.net.agents.length c4)∧Kn w b 5 (.slice A5 x.origins.length c5)∧Kn w b 6 (.slice A6 x.breaks.length c6)∧Kn w b 7 (.slice A7 x.points.length c7)∧T1 w (.sl x.book.length (x.book.flatMap GNet.enc)) b0 (.slice A0 x.book.length c0)∧T1 w (.sl x.schedule.length (x.schedule.flatMap intE)) b1 (.slice A1 x.schedule.length c1)∧T1 w (.sl x.net.agents.length (x.net.agents.flatMap aA.enc)) b4 (.slice A4 x.net.agents.length c4)∧T1 w (.sl x.origins.length (x.origins.flatMap aW.enc)) b5 (.slice A5 x.origins.length c5)∧T1 w (.sl x.breaks.length (x.breaks.flatMap dx.enc)) b6 (.slice A6 x.breaks.length c6)∧T1 w (.sl x.points.length (x.points.flatMap aK.enc)) b7 (.slice A7 x.points.length c7):=by
 have:=bO.pt h;simpa only[Nat.zero_add]using this
end Go.Tr
namespace Go.Tr
def aG.cells(p:aG):List Value:=[.int .i64 p.agent,.int .i64 p.slot]
end Go.Tr
namespace Go.Tr
open Go Go.RowKit
theorem _root_.Go.Calls.q{P:Program}{f:FuncId}{args:Array Value}{W:World}{v:Value}(h:Calls P f args W fun e w'=>e=.returned v∧W=w'):Calls P f args W fun e w'=>e=.returned v∧Ext W w':=
 h.mono fun _ _ ⟨a,b⟩=>⟨a,b▸Below.refl _ _⟩
def fF(k p:Int):Int:=if k==9 then p-1 else 0
def fieldsOf(a:aA):Int:=fF a.kind a.ports.length
def kJ(n:Int):Bool:=inB n 0 23
def r9(n:Int):Bool:=inB n (-2147483648) 2147483647
def kE(n:Int):Bool:=inB n 1 6
def eD(l:List Int)(k:Nat):Int:=l.getD k 0
theorem Et{l:List Int}{k:Nat}{x:Int}(h:Hid (l[k]? =some x)):eD l k=x:=by unfold eD;rw[List.getD_eq_getElem?_getD,h.out];rfl
def lT(l:List Int):Bool:=eH l.length fun k=>kJ (eD l k)
def gV(a:aA):Bool:=
 if a.kind==6 then((a.data.length:Int)==0)&&r9 a.value
 else if a.kind==7 then((a.data.length:Int)==0)&&kE a.value
 else if a.kind==8 then((a.data.length:Int)==1)&&kE a.value&&r9 (eD a.data 0)
 else if a.kind==9 then((a.data.length:Int)==0)&&inB a.value 0 3
 else if a.kind==12 then((a.data.length:Int)==0)&&kJ a.value
 else if a.kind==10 then a.value==0&&inB a.data.length 1 4&&lT a.data
 else if a.kind==11 then a.value==0&&((a.data.length:Int)==2)&&lT a.data
 else a.value==0&&((a.data.length:Int)==0)
def dY(a:aA):Bool:=decide (0<dH a.kind (fieldsOf a))&&(a.ports.length:Int)==dH a.kind (fieldsOf a)&&dz a.kind a.level&&gV a
def SN:aA:=⟨0,0,0,[],[]⟩
def VR:aG:=⟨0,0⟩
def iB(l:List aA)(k:Nat):aA:=l.getD k SN
def jT(l:List aG)(k:Nat):aG:=l.getD k VR
theorem Jp{α:Type}{l:List α}{k:Nat}{x d:α}(h:Hid (l[k]? =some x)):l.getD k d=x:=by rw[List.getD_eq_getElem?_getD,h.out];rfl
theorem kK{l:List aA}{k:Nat}{x:aA}(h:Hid (l[k]? =some x)):iB l k=x:=Jp h
theorem uQ{l:List aG}{k:Nat}{x:aG}(h:Hid (l[k]? =some x)):jT l k=x:=Jp h
def iC(l:List aA)(k:Nat):Bool:=dY (iB l k)&&((iB l k).kind==1)==((k:Int)==0)
def fP(l:List aA):Bool:=inB l.length 1 600&&eH l.length (iC l)
def iM(l:List aA)(p:aG):Bool:=inB p.agent 0 ((l.length:Int)-1)&&inB p.slot 0 (((iB l p.agent.toNat).ports.length:Int)-1)
def sD(l:List aA)(p:aG):aG:=jT (iB l p.agent.toNat).ports p.slot.toNat
noncomputable def qy(l:List aA)(me p:aG):Bool:= !eqb p me&&iM l p&&eqb (sD l p) me
noncomputable def qO(l:List aA)(i:Nat):Bool:=eH (iB l i).ports.length fun k=>qy l ⟨i,k⟩ (jT (iB l i).ports k)
noncomputable def iT(n:GNet):Bool:=fP n.agents&&eH n.agents.length (qO n.agents)
theorem LH{l:List aA}{p:aG}(h:iM l p=true):∃(i k:Nat) (a:aA) (q:aG),p=⟨i,k⟩∧i<l.length∧Hid (l[i]? =some a)∧k<a.ports.length∧Hid (a.ports[k]? =some q)∧sD l p=q:=by
 unfold iM at h;rw[Bool.and_eq_true]at h;obtain⟨h1,h2⟩:=h;have h1:=jY h1;have h2:=jY h2;obtain⟨pa,ps⟩:=p;simp only at h1 h2;obtain⟨i,rfl⟩:=Int.eq_ofNat_of_zero_le h1.1;obtain⟨k,rfl⟩:=Int.eq_ofNat_of_zero_le h2.1;have hi:i<l.length:=by omega
 have ha:Hid (l[i]? =some l[i]):=List.getElem?_eq_getElem hi;rw[Int.toNat_natCast,kK ha]at h2;have hk:k<(l[i]).ports.length:=by omega
 have hq:Hid ((l[i]).ports[k]? =some (l[i]).ports[k]):=List.getElem?_eq_getElem hk;refine⟨i,k,l[i],_,rfl,hi,ha,hk,hq,?_⟩;unfold sD;rw[Int.toNat_natCast,Int.toNat_natCast,kK ha,uQ hq]
def Yb:GNet:=⟨[]⟩
def ng(l:List GNet)(k:Nat):GNet:=l.getD k Yb
theorem Lg{l:List GNet}{k:Nat}{x:GNet}(h:Hid (l[k]? =some x)):ng l k=x:=Jp h
noncomputable def mK(l:List GNet):Bool:=decide ((l.length:Int)≤24)&&eH l.length fun k=>iT (ng l k)
def schedB(l:List Int):Bool:=decide ((l.length:Int)≤200)&&eH l.length fun k=>inB (eD l k) 0 600
end Go.Tr
