
/- Plain arithmetic: 32-bit wraps, the operators of the language, bounds as Bools. No program in it. -/
import Derived.Test.YtemalpelcdmemaaGreatSc
set_option linter.unusedSimpArgs false
set_option linter.unusedVariables false
namespace Go.Tr
open Go Go.RowKit
def inB(n lo hi:Int):Bool:=decide (lo≤n)&&decide (n≤hi)
theorem kr{n lo hi:Int}(h:inB n lo hi=true):lo≤n∧n≤hi:=by simpa[inB]using h
theorem Ug{n lo hi:Int}(h:inB n lo hi=false):n<lo∨hi<n:=by
 simp only[inB,Bool.and_eq_false_iff,decide_eq_false_iff_not]at h;omega
theorem yg{n lo hi:Int}(h1:lo≤n)(h2:n≤hi):inB n lo hi=true:=by simp[inB,h1,h2]
theorem CJ{n lo hi:Int}(h:n<lo∨hi<n):inB n lo hi=false:=by
 simp only[inB,Bool.and_eq_false_iff,decide_eq_false_iff_not];omega
def lC(k:Int):Bool:=inB k 1 12
def bV(k:Int):Bool:=lC k&&k !=1&&k !=5&&k !=6
def zk(n:Int):Bool:=inB n 0 8
def dx(k l:Int):Bool:=lC k&&(l==0||(bV k&&zk l))
def qz(k:Int):Bool:=k==3||k==7||k==8||k==10||k==11
def DY(t k l:Int):Bool:=zk t&&dx k l&&(k==6||k==12||(bV k&&decide (t<l)))
def rule(ka la kb lb:Int):Int:=
 if ka=5 then 4
 else if ka=4 then(if kb==4&&la==lb then 2 else if DY la kb lb then 3 else 0)
 else if ka=2 then(if kb==3&&la==lb then 1 else 0)
 else if ka=6 then(if kb==7||kb==8 then 5 else if kb==11 then 6 else 0)
 else if ka=9 then(if kb==10 then 6 else 0)
 else if ka=12 then(if qz kb then 7 else 0)
 else 0
def mG(ka la kb lb:Int):Bool:=dx ka la&&dx kb lb&&ka !=1&&kb !=1
def aT(ka la kb lb:Int):Int:=if mG ka la kb lb then(if rule ka la kb lb=0 then(if rule kb lb ka la=0 then 8 else rule kb lb ka la)else rule ka la kb lb)else 0
def bf(ka la kb lb:Int):Int:=if mG ka la kb lb then(if rule ka la kb lb=0 then(if rule kb lb ka la=0 then 0 else 2)else 1)else 0
def dG(k f:Int):Int:=
 if k=9 then(if inB f 0 3 then f+1 else 0)else if f=0 then
  (if k=1∨k=5∨k=6∨k=12 then 1 else if k=8∨k=10∨k=11 then 2 else if k=2∨k=3∨k=4∨k=7 then 3 else 0)else 0
theorem FL{k:Int}(h:lC k=true):k=1∨k=2∨k=3∨k=4∨k=5∨k=6∨k=7∨k=8∨k=9∨k=10∨k=11∨k=12:=by
 have:=kr h;omega
theorem DR{k l:Int}(h:lC k=false):dx k l=false:=by simp[dx,h]
theorem oN{k:Int}(h:lC k=false):bV k=false:=by simp[bV,h]
theorem wQ(ka la kb lb:Int):0≤rule ka la kb lb∧rule ka la kb lb≤7:=by
 unfold rule;(repeat' split)<;>omega
theorem Pq{i k:Int}(h:DY i 4 k=true):i<k:=by
 simp only[DY,Bool.and_eq_true,Bool.or_eq_true]at h;obtain⟨_,h⟩:=h;rcases h with(h|h)|h
 ·exact absurd h (by decide)
 ·exact absurd h (by decide)
 ·simpa using h.2
theorem LM{i b k:Int}(h:DY i b k=true):b≠5:=by
 rintro rfl;simp[DY,bV]at h
theorem RG{ka la kb lb:Int}(h1:rule ka la kb lb≠0)(h2:rule kb lb ka la≠0):rule ka la kb lb=rule kb lb ka la∧(rule ka la kb lb=2∨rule ka la kb lb=4):=by
 by_cases a5:ka=5
 ·subst a5
  by_cases b5:kb=5
  ·subst b5;simp[rule]
  ·exfalso;revert h2;unfold rule;rw[if_neg b5];split
   ·rw[if_neg (by simp),if_neg (fun h=>LM h rfl)];simp
   ·simp[qz]
 by_cases b5:kb=5
 ·subst b5;exfalso;revert h1;unfold rule;rw[if_neg a5];split
  ·rw[if_neg (by simp),if_neg (fun h=>LM h rfl)];simp
  ·simp[qz]
 by_cases a4:ka=4
 ·subst a4
  by_cases b4:kb=4
  ·subst b4
   by_cases e:la=lb
   ·subst e;simp[rule]
   ·exfalso;have e':¬lb=la:=fun h=>e h.symm
    simp[rule,e,e']at h1 h2;have:=Pq h1;have:=Pq h2;omega
  ·exfalso;revert h2;unfold rule;simp[b5,b4,qz]
 by_cases b4:kb=4
 ·subst b4;exfalso;revert h1;unfold rule;simp[a5,a4,qz]
 exfalso;revert h1 h2;unfold rule;simp only[a5,b5,a4,b4,if_false]
 by_cases a2:ka=2
 ·subst a2;simp[qz]
  try (intro h _;subst h;simp)
 by_cases a6:ka=6
 ·subst a6;simp[qz]
  try
   split
   ·rename_i h;rcases h with rfl|rfl<;>simp
   ·split
    ·rename_i h;subst h;simp
    ·simp
 by_cases a9:ka=9
 ·subst a9;simp[qz]
  try (intro h;subst h;simp)
 by_cases a12:ka=12
 ·subst a12;intro h
  have hc:qz kb=true:=by
   cases hc:qz kb with
   |true=>rfl
   |false=>simp[hc]at h
  simp only[qz,Bool.or_eq_true,beq_iff_eq]at hc;rcases hc with(((rfl|rfl)|rfl)|rfl)|rfl<;>simp
 ·simp[a2,a6,a9,a12]
theorem Rw(ka la kb lb:Int):mG ka la kb lb=mG kb lb ka la:=by
 simp only[mG];cases dx ka la<;>cases dx kb lb<;>cases (ka !=1)<;>cases (kb !=1)<;>rfl
theorem zJ(ka la kb lb:Int):aT kb lb ka la=aT ka la kb lb:=by
 unfold aT;rw[Rw kb lb ka la]
 by_cases h1:rule ka la kb lb=0<;>by_cases h2:rule kb lb ka la=0
 ·simp[h1,h2]
 ·simp[h1,h2]
 ·simp[h1,h2]
 ·simp[h1,h2,(RG h1 h2).1]
structure aG where
 agent:Int
 slot:Int
def aG.enc(x:aG):List D:=[.v (.int .i64 x.agent),.v (.int .i64 x.slot)]
theorem aG.bG(x:aG):x.enc.length=2:=rfl
theorem aG.us{w:World}{x:aG}{bs us}(h0:TN w x.enc bs us):us=[.int .i64 x.agent,.int .i64 x.slot]∧bs=[]:=by
 unfold aG.enc at h0;obtain⟨u0,rfl,h1⟩:=TN.kg h0;obtain⟨u1,rfl,h2⟩:=TN.kg h1;obtain⟨rfl,rfl⟩:=TN.end_ h2;exact⟨rfl,rfl⟩
theorem aG.mk_{w:World}{x:aG}:TN w x.enc ([]) [.int .i64 x.agent,.int .i64 x.slot]:=by
 have h:=(show TN w [.v (.int .i64 x.agent),.v (.int .i64 x.slot)] _ _ from TN.qg rfl (TN.qg rfl (TN.done)))
 try simp only[List.append_nil]at h
 unfold aG.enc
 first|exact h|simpa only[List.append_assoc]using h
theorem aG.get_{w:World}{xs:List aG}{bs:List Nat}{A:Option Addr}{n n' c:Nat}(h:T1 w (.sl n (xs.flatMap aG.enc)) bs (.slice A n' c))(hm:xs.length=n){k:Nat}(hk:k<n):
  ∃(b off:Nat) (x:aG),A=some ⟨b,off,none⟩∧b<w.heap.size∧Hid (xs[k]? =some x)∧w.cell? ⟨b,off+k*2,none⟩=some (.int .i64 x.agent)∧w.cell? ⟨b,off+k*2+1,none⟩=some (.int .i64 x.slot):=by
 obtain⟨_,b,off,p1,p2,p3,us,hA,_,hb,hc,ht⟩:=T1.at_ aG.bG h hm hk;obtain⟨rfl,_⟩:=aG.us ht;exact⟨b,off,xs[k],hA,hb,List.getElem?_eq_getElem (hm▸hk),hc 0 _ rfl,hc 1 _ rfl⟩
theorem aG.ext_{x y:aG}(h0:x.agent=y.agent)(h1:x.slot=y.slot):x=y:=by
 cases x;cases y;simp_all
def aG.wt(_x:aG):Nat:=0
def aG.small(_x:aG):Prop:=True
structure aA where
 kind:Int
 level:Int
 value:Int
 data:(List Int)
 ports:(List aG)
def aA.enc(x:aA):List D:=[.v (.int .i64 x.kind),.v (.int .i64 x.level),.v (.int .i64 x.value),.sl x.data.length (x.data.flatMap bg),.sl x.ports.length (x.ports.flatMap aG.enc)]
theorem aA.bG(x:aA):x.enc.length=5:=rfl
theorem aA.us{w:World}{x:aA}{bs us}(h0:TN w x.enc bs us):∃(A3:Option Addr) (c3:Nat) (b3:List Nat) (A4:Option Addr) (c4:Nat) (b4:List Nat),us=[.int .i64 x.kind,.int .i64 x.level,.int .i64 x.value,.slice A3 x.data.length c3,.slice A4 x.ports.length c4]∧bs=b3++b4∧T1 w (.sl x.data.length (x.data.flatMap bg)) b3 (.slice A3 x.data.length c3)∧x.data.length≤c3∧c3≤maxLen∧T1 w (.sl x.ports.length (x.ports.flatMap aG.enc)) b4 (.slice A4 x.ports.length c4)∧x.ports.length≤c4∧c4≤maxLen:=by
 unfold aA.enc at h0;obtain⟨u0,rfl,h1⟩:=TN.kg h0;obtain⟨u1,rfl,h2⟩:=TN.kg h1;obtain⟨u2,rfl,h3⟩:=TN.kg h2;obtain⟨A3,c3,b3,r3,u3,rfl,rfl,t3,l3,m3,h4⟩:=TN.kK h3;obtain⟨A4,c4,b4,r4,u4,rfl,rfl,t4,l4,m4,h5⟩:=TN.kK h4;obtain⟨rfl,rfl⟩:=TN.end_ h5;exact⟨A3,c3,b3,A4,c4,b4,rfl,by simp,t3,l3,m3,t4,l4,m4⟩
theorem aA.mk_{w:World}{x:aA}{A3 c3 b3}(t3:T1 w (.sl x.data.length (x.data.flatMap bg)) b3 (.slice A3 x.data.length c3)){A4 c4 b4}(t4:T1 w (.sl x.ports.length (x.ports.flatMap aG.enc)) b4 (.slice A4 x.ports.length c4)):TN w x.enc (b3++b4) [.int .i64 x.kind,.int .i64 x.level,.int .i64 x.value,.slice A3 x.data.length c3,.slice A4 x.ports.length c4]:=by
 have h:=(show TN w [.v (.int .i64 x.kind),.v (.int .i64 x.level),.v (.int .i64 x.value),.sl x.data.length (x.data.flatMap bg),.sl x.ports.length (x.ports.flatMap aG.enc)] _ _ from TN.qg rfl (TN.qg rfl (TN.qg rfl (TN.qF t3 (TN.qF t4 (TN.done))))))
 try simp only[List.append_nil]at h
 unfold aA.enc
 first|exact h|simpa only[List.append_assoc]using h
theorem aA.get_{w:World}{xs:List aA}{bs:List Nat}{A:Option Addr}{n n' c:Nat}(h:T1 w (.sl n (xs.flatMap aA.enc)) bs (.slice A n' c))(hm:xs.length=n){k:Nat}(hk:k<n):
  ∃(b off:Nat) (x:aA) (A3:Option Addr) (c3:Nat) (b3:List Nat) (A4:Option Addr) (c4:Nat) (b4:List Nat),A=some ⟨b,off,none⟩∧b<w.heap.size∧Hid (xs[k]? =some x)∧w.cell? ⟨b,off+k*5,none⟩=some (.int .i64 x.kind)∧w.cell? ⟨b,off+k*5+1,none⟩=some (.int .i64 x.level)∧w.cell? ⟨b,off+k*5+2,none⟩=some (.int .i64 x.value)∧w.cell? ⟨b,off+k*5+3,none⟩=some (.slice A3 x.data.length c3)∧w.cell? ⟨b,off+k*5+4,none⟩=some (.slice A4 x.ports.length c4)∧T1 w (.sl x.data.length (x.data.flatMap bg)) b3 (.slice A3 x.data.length c3)∧x.data.length≤c3∧c3≤maxLen∧T1 w (.sl x.ports.length (x.ports.flatMap aG.enc)) b4 (.slice A4 x.ports.length c4)∧x.ports.length≤c4∧c4≤maxLen:=by
 obtain⟨_,b,off,p1,p2,p3,us,hA,_,hb,hc,ht⟩:=T1.at_ aA.bG h hm hk;obtain⟨A3,c3,b3,A4,c4,b4,rfl,_,t3,l3,m3,t4,l4,m4⟩:=aA.us ht;exact⟨b,off,xs[k],A3,c3,b3,A4,c4,b4,hA,hb,List.getElem?_eq_getElem (hm▸hk),hc 0 _ rfl,hc 1 _ rfl,hc 2 _ rfl,hc 3 _ rfl,hc 4 _ rfl,t3,l3,m3,t4,l4,m4⟩
theorem aA.ext_{x y:aA}(h0:x.kind=y.kind)(h1:x.level=y.level)(h2:x.value=y.value)(h3:x.data=y.data)(h4:x.ports=y.ports):x=y:=by
 cases x;cases y;simp_all
def aA.wt(x:aA):Nat:=wX (fun _=>0) x.data+wX (fun _=>0) x.ports
def aA.small(x:aA):Prop:=(x.data.length≤1048576)∧(x.ports.length≤1048576∧∀y∈x.ports,aG.small y)
structure aH where
 agents:(List aA)
def aH.enc(x:aH):List D:=[.sl x.agents.length (x.agents.flatMap aA.enc)]
theorem aH.bG(x:aH):x.enc.length=1:=rfl
theorem aH.us{w:World}{x:aH}{bs us}(h0:TN w x.enc bs us):∃(A0:Option Addr) (c0:Nat) (b0:List Nat),us=[.slice A0 x.agents.length c0]∧bs=b0∧T1 w (.sl x.agents.length (x.agents.flatMap aA.enc)) b0 (.slice A0 x.agents.length c0)∧x.agents.length≤c0∧c0≤maxLen:=by
 unfold aH.enc at h0;obtain⟨A0,c0,b0,r0,u0,rfl,rfl,t0,l0,m0,h1⟩:=TN.kK h0;obtain⟨rfl,rfl⟩:=TN.end_ h1;exact⟨A0,c0,b0,rfl,by simp,t0,l0,m0⟩
theorem aH.mk_{w:World}{x:aH}{A0 c0 b0}(t0:T1 w (.sl x.agents.length (x.agents.flatMap aA.enc)) b0 (.slice A0 x.agents.length c0)):TN w x.enc (b0) [.slice A0 x.agents.length c0]:=by
 have h:=(show TN w [.sl x.agents.length (x.agents.flatMap aA.enc)] _ _ from TN.qF t0 (TN.done))
 try simp only[List.append_nil]at h
 unfold aH.enc
 first|exact h|simpa only[List.append_assoc]using h
theorem aH.get_{w:World}{xs:List aH}{bs:List Nat}{A:Option Addr}{n n' c:Nat}(h:T1 w (.sl n (xs.flatMap aH.enc)) bs (.slice A n' c))(hm:xs.length=n){k:Nat}(hk:k<n):
  ∃(b off:Nat) (x:aH) (A0:Option Addr) (c0:Nat) (b0:List Nat),A=some ⟨b,off,none⟩∧b<w.heap.size∧Hid (xs[k]? =some x)∧w.cell? ⟨b,off+k,none⟩=some (.slice A0 x.agents.length c0)∧T1 w (.sl x.agents.length (x.agents.flatMap aA.enc)) b0 (.slice A0 x.agents.length c0)∧x.agents.length≤c0∧c0≤maxLen:=by
 obtain⟨_,b,off,p1,p2,p3,us,hA,_,hb,hc,ht⟩:=T1.at_ aH.bG h hm hk;obtain⟨A0,c0,b0,rfl,_,t0,l0,m0⟩:=aH.us ht;exact⟨b,off,xs[k],A0,c0,b0,hA,hb,List.getElem?_eq_getElem (hm▸hk),by simpa using hc 0 _ rfl,t0,l0,m0⟩
theorem aH.ext_{x y:aH}(h0:x.agents=y.agents):x=y:=by
 cases x;cases y;simp_all
def aH.wt(x:aH):Nat:=wX aA.wt x.agents
def aH.small(x:aH):Prop:=(x.agents.length≤1048576∧∀y∈x.agents,aA.small y)
structure aV where
 step:Int
 def_:Int
 source:Int
def aV.enc(x:aV):List D:=[.v (.int .i64 x.step),.v (.int .i64 x.def_),.v (.int .i64 x.source)]
theorem aV.bG(x:aV):x.enc.length=3:=rfl
theorem aV.us{w:World}{x:aV}{bs us}(h0:TN w x.enc bs us):us=[.int .i64 x.step,.int .i64 x.def_,.int .i64 x.source]∧bs=[]:=by
 unfold aV.enc at h0;obtain⟨u0,rfl,h1⟩:=TN.kg h0;obtain⟨u1,rfl,h2⟩:=TN.kg h1;obtain⟨u2,rfl,h3⟩:=TN.kg h2;obtain⟨rfl,rfl⟩:=TN.end_ h3;exact⟨rfl,rfl⟩
theorem aV.mk_{w:World}{x:aV}:TN w x.enc ([]) [.int .i64 x.step,.int .i64 x.def_,.int .i64 x.source]:=by
 have h:=(show TN w [.v (.int .i64 x.step),.v (.int .i64 x.def_),.v (.int .i64 x.source)] _ _ from TN.qg rfl (TN.qg rfl (TN.qg rfl (TN.done))))
 try simp only[List.append_nil]at h
 unfold aV.enc
 first|exact h|simpa only[List.append_assoc]using h
theorem aV.get_{w:World}{xs:List aV}{bs:List Nat}{A:Option Addr}{n n' c:Nat}(h:T1 w (.sl n (xs.flatMap aV.enc)) bs (.slice A n' c))(hm:xs.length=n){k:Nat}(hk:k<n):
  ∃(b off:Nat) (x:aV),A=some ⟨b,off,none⟩∧b<w.heap.size∧Hid (xs[k]? =some x)∧w.cell? ⟨b,off+k*3,none⟩=some (.int .i64 x.step)∧w.cell? ⟨b,off+k*3+1,none⟩=some (.int .i64 x.def_)∧w.cell? ⟨b,off+k*3+2,none⟩=some (.int .i64 x.source):=by
 obtain⟨_,b,off,p1,p2,p3,us,hA,_,hb,hc,ht⟩:=T1.at_ aV.bG h hm hk;obtain⟨rfl,_⟩:=aV.us ht;exact⟨b,off,xs[k],hA,hb,List.getElem?_eq_getElem (hm▸hk),hc 0 _ rfl,hc 1 _ rfl,hc 2 _ rfl⟩
theorem aV.ext_{x y:aV}(h0:x.step=y.step)(h1:x.def_=y.def_)(h2:x.source=y.source):x=y:=by
 cases x;cases y;simp_all
def aV.wt(_x:aV):Nat:=0
def aV.small(_x:aV):Prop:=True
structure dh where
 kind:Int
 value:Int
def dh.enc(x:dh):List D:=[.v (.int .i64 x.kind),.v (.int .i64 x.value)]
theorem dh.bG(x:dh):x.enc.length=2:=rfl
theorem dh.us{w:World}{x:dh}{bs us}(h0:TN w x.enc bs us):us=[.int .i64 x.kind,.int .i64 x.value]∧bs=[]:=by
 unfold dh.enc at h0;obtain⟨u0,rfl,h1⟩:=TN.kg h0;obtain⟨u1,rfl,h2⟩:=TN.kg h1;obtain⟨rfl,rfl⟩:=TN.end_ h2;exact⟨rfl,rfl⟩
theorem dh.mk_{w:World}{x:dh}:TN w x.enc ([]) [.int .i64 x.kind,.int .i64 x.value]:=by
 have h:=(show TN w [.v (.int .i64 x.kind),.v (.int .i64 x.value)] _ _ from TN.qg rfl (TN.qg rfl (TN.done)))
 try simp only[List.append_nil]at h
 unfold dh.enc
 first|exact h|simpa only[List.append_assoc]using h
theorem dh.get_{w:World}{xs:List dh}{bs:List Nat}{A:Option Addr}{n n' c:Nat}(h:T1 w (.sl n (xs.flatMap dh.enc)) bs (.slice A n' c))(hm:xs.length=n){k:Nat}(hk:k<n):
  ∃(b off:Nat) (x:dh),A=some ⟨b,off,none⟩∧b<w.heap.size∧Hid (xs[k]? =some x)∧w.cell? ⟨b,off+k*2,none⟩=some (.int .i64 x.kind)∧w.cell? ⟨b,off+k*2+1,none⟩=some (.int .i64 x.value):=by
 obtain⟨_,b,off,p1,p2,p3,us,hA,_,hb,hc,ht⟩:=T1.at_ dh.bG h hm hk;obtain⟨rfl,_⟩:=dh.us ht;exact⟨b,off,xs[k],hA,hb,List.getElem?_eq_getElem (hm▸hk),hc 0 _ rfl,hc 1 _ rfl⟩
theorem dh.ext_{x y:dh}(h0:x.kind=y.kind)(h1:x.value=y.value):x=y:=by
 cases x;cases y;simp_all
def dh.wt(_x:dh):Nat:=0
def dh.small(_x:dh):Prop:=True
structure aK where
 at_:Int
 net:aH
 origins:(List aV)
def aK.enc(x:aK):List D:=[.v (.int .i64 x.at_),.sl x.net.agents.length (x.net.agents.flatMap aA.enc),.sl x.origins.length (x.origins.flatMap aV.enc)]
theorem aK.bG(x:aK):x.enc.length=3:=rfl
theorem aK.us{w:World}{x:aK}{bs us}(h0:TN w x.enc bs us):∃(A1:Option Addr) (c1:Nat) (b1:List Nat) (A2:Option Addr) (c2:Nat) (b2:List Nat),us=[.int .i64 x.at_,.slice A1 x.net.agents.length c1,.slice A2 x.origins.length c2]∧bs=b1++b2∧T1 w (.sl x.net.agents.length (x.net.agents.flatMap aA.enc)) b1 (.slice A1 x.net.agents.length c1)∧x.net.agents.length≤c1∧c1≤maxLen∧T1 w (.sl x.origins.length (x.origins.flatMap aV.enc)) b2 (.slice A2 x.origins.length c2)∧x.origins.length≤c2∧c2≤maxLen:=by
 unfold aK.enc at h0;obtain⟨u0,rfl,h1⟩:=TN.kg h0;obtain⟨A1,c1,b1,r1,u1,rfl,rfl,t1,l1,m1,h2⟩:=TN.kK h1;obtain⟨A2,c2,b2,r2,u2,rfl,rfl,t2,l2,m2,h3⟩:=TN.kK h2;obtain⟨rfl,rfl⟩:=TN.end_ h3;exact⟨A1,c1,b1,A2,c2,b2,rfl,by simp,t1,l1,m1,t2,l2,m2⟩
theorem aK.mk_{w:World}{x:aK}{A1 c1 b1}(t1:T1 w (.sl x.net.agents.length (x.net.agents.flatMap aA.enc)) b1 (.slice A1 x.net.agents.length c1)){A2 c2 b2}(t2:T1 w (.sl x.origins.length (x.origins.flatMap aV.enc)) b2 (.slice A2 x.origins.length c2)):TN w x.enc (b1++b2) [.int .i64 x.at_,.slice A1 x.net.agents.length c1,.slice A2 x.origins.length c2]:=by
 have h:=(show TN w [.v (.int .i64 x.at_),.sl x.net.agents.length (x.net.agents.flatMap aA.enc),.sl x.origins.length (x.origins.flatMap aV.enc)] _ _ from TN.qg rfl (TN.qF t1 (TN.qF t2 (TN.done))))
 try simp only[List.append_nil]at h
 unfold aK.enc
 first|exact h|simpa only[List.append_assoc]using h
theorem aK.get_{w:World}{xs:List aK}{bs:List Nat}{A:Option Addr}{n n' c:Nat}(h:T1 w (.sl n (xs.flatMap aK.enc)) bs (.slice A n' c))(hm:xs.length=n){k:Nat}(hk:k<n):
  ∃(b off:Nat) (x:aK) (A1:Option Addr) (c1:Nat) (b1:List Nat) (A2:Option Addr) (c2:Nat) (b2:List Nat),A=some ⟨b,off,none⟩∧b<w.heap.size∧Hid (xs[k]? =some x)∧w.cell? ⟨b,off+k*3,none⟩=some (.int .i64 x.at_)∧w.cell? ⟨b,off+k*3+1,none⟩=some (.slice A1 x.net.agents.length c1)∧w.cell? ⟨b,off+k*3+2,none⟩=some (.slice A2 x.origins.length c2)∧T1 w (.sl x.net.agents.length (x.net.agents.flatMap aA.enc)) b1 (.slice A1 x.net.agents.length c1)∧x.net.agents.length≤c1∧c1≤maxLen∧T1 w (.sl x.origins.length (x.origins.flatMap aV.enc)) b2 (.slice A2 x.origins.length c2)∧x.origins.length≤c2∧c2≤maxLen:=by
 obtain⟨_,b,off,p1,p2,p3,us,hA,_,hb,hc,ht⟩:=T1.at_ aK.bG h hm hk;obtain⟨A1,c1,b1,A2,c2,b2,rfl,_,t1,l1,m1,t2,l2,m2⟩:=aK.us ht;exact⟨b,off,xs[k],A1,c1,b1,A2,c2,b2,hA,hb,List.getElem?_eq_getElem (hm▸hk),hc 0 _ rfl,hc 1 _ rfl,hc 2 _ rfl,t1,l1,m1,t2,l2,m2⟩
theorem aK.ext_{x y:aK}(h0:x.at_=y.at_)(h1:x.net=y.net)(h2:x.origins=y.origins):x=y:=by
 cases x;cases y;simp_all
def aK.wt(x:aK):Nat:=x.net.wt+wX (fun _=>0) x.origins
def aK.small(x:aK):Prop:=(x.net.small)∧(x.origins.length≤1048576∧∀y∈x.origins,aV.small y)
structure bM where
 book:(List aH)
 schedule:(List Int)
 every:Int
 at_:Int
 net:aH
 origins:(List aV)
 breaks:(List dh)
 points:(List aK)
def bM.enc(x:bM):List D:=[.sl x.book.length (x.book.flatMap aH.enc),.sl x.schedule.length (x.schedule.flatMap bg),.v (.int .i64 x.every),.v (.int .i64 x.at_),.sl x.net.agents.length (x.net.agents.flatMap aA.enc),.sl x.origins.length (x.origins.flatMap aV.enc),.sl x.breaks.length (x.breaks.flatMap dh.enc),.sl x.points.length (x.points.flatMap aK.enc)]
theorem bM.bG(x:bM):x.enc.length=8:=rfl
theorem bM.us{w:World}{x:bM}{bs us}(h0:TN w x.enc bs us):∃(A0:Option Addr) (c0:Nat) (b0:List Nat) (A1:Option Addr) (c1:Nat) (b1:List Nat) (A4:Option Addr) (c4:Nat) (b4:List Nat) (A5:Option Addr) (c5:Nat) (b5:List Nat) (A6:Option Addr) (c6:Nat) (b6:List Nat) (A7:Option Addr) (c7:Nat) (b7:List Nat),us=[.slice A0 x.book.length c0,.slice A1 x.schedule.length c1,.int .i64 x.every,.int .i64 x.at_,.slice A4 x.net.agents.length c4,.slice A5 x.origins.length c5,.slice A6 x.breaks.length c6,.slice A7 x.points.length c7]∧bs=b0++b1++b4++b5++b6++b7∧T1 w (.sl x.book.length (x.book.flatMap aH.enc)) b0 (.slice A0 x.book.length c0)∧x.book.length≤c0∧c0≤maxLen∧T1 w (.sl x.schedule.length (x.schedule.flatMap bg)) b1 (.slice A1 x.schedule.length c1)∧x.schedule.length≤c1∧c1≤maxLen∧T1 w (.sl x.net.agents.length (x.net.agents.flatMap aA.enc)) b4 (.slice A4 x.net.agents.length c4)∧x.net.agents.length≤c4∧c4≤maxLen∧T1 w (.sl x.origins.length (x.origins.flatMap aV.enc)) b5 (.slice A5 x.origins.length c5)∧x.origins.length≤c5∧c5≤maxLen∧T1 w (.sl x.breaks.length (x.breaks.flatMap dh.enc)) b6 (.slice A6 x.breaks.length c6)∧x.breaks.length≤c6∧c6≤maxLen∧T1 w (.sl x.points.length (x.points.flatMap aK.enc)) b7 (.slice A7 x.points.length c7)∧x.points.length≤c7∧c7≤maxLen:=by
 unfold bM.enc at h0;obtain⟨A0,c0,b0,r0,u0,rfl,rfl,t0,l0,m0,h1⟩:=TN.kK h0;obtain⟨A1,c1,b1,r1,u1,rfl,rfl,t1,l1,m1,h2⟩:=TN.kK h1;obtain⟨u2,rfl,h3⟩:=TN.kg h2;obtain⟨u3,rfl,h4⟩:=TN.kg h3;obtain⟨A4,c4,b4,r4,u4,rfl,rfl,t4,l4,m4,h5⟩:=TN.kK h4;obtain⟨A5,c5,b5,r5,u5,rfl,rfl,t5,l5,m5,h6⟩:=TN.kK h5;obtain⟨A6,c6,b6,r6,u6,rfl,rfl,t6,l6,m6,h7⟩:=TN.kK h6;obtain⟨A7,c7,b7,r7,u7,rfl,rfl,t7,l7,m7,h8⟩:=TN.kK h7;obtain⟨rfl,rfl⟩:=TN.end_ h8;exact⟨A0,c0,b0,A1,c1,b1,A4,c4,b4,A5,c5,b5,A6,c6,b6,A7,c7,b7,rfl,by simp,t0,l0,m0,t1,l1,m1,t4,l4,m4,t5,l5,m5,t6,l6,m6,t7,l7,m7⟩
theorem bM.mk_{w:World}{x:bM}{A0 c0 b0}(t0:T1 w (.sl x.book.length (x.book.flatMap aH.enc)) b0 (.slice A0 x.book.length c0)){A1 c1 b1}(t1:T1 w (.sl x.schedule.length (x.schedule.flatMap bg)) b1 (.slice A1 x.schedule.length c1)){A4 c4 b4}(t4:T1 w (.sl x.net.agents.length (x.net.agents.flatMap aA.enc)) b4 (.slice A4 x.net.agents.length c4)){A5 c5 b5}(t5:T1 w (.sl x.origins.length (x.origins.flatMap aV.enc)) b5 (.slice A5 x.origins.length c5)){A6 c6 b6}(t6:T1 w (.sl x.breaks.length (x.breaks.flatMap dh.enc)) b6 (.slice A6 x.breaks.length c6)){A7 c7 b7}(t7:T1 w (.sl x.points.length (x.points.flatMap aK.enc)) b7 (.slice A7 x.points.length c7)):TN w x.enc (b0++b1++b4++b5++b6++b7) [.slice A0 x.book.length c0,.slice A1 x.schedule.length c1,.int .i64 x.every,.int .i64 x.at_,.slice A4 x.net.agents.length c4,.slice A5 x.origins.length c5,.slice A6 x.breaks.length c6,.slice A7 x.points.length c7]:=by
 have h:=(show TN w [.sl x.book.length (x.book.flatMap aH.enc),.sl x.schedule.length (x.schedule.flatMap bg),.v (.int .i64 x.every),.v (.int .i64 x.at_),.sl x.net.agents.length (x.net.agents.flatMap aA.enc),.sl x.origins.length (x.origins.flatMap aV.enc),.sl x.breaks.length (x.breaks.flatMap dh.enc),.sl x.points.length (x.points.flatMap aK.enc)] _ _ from TN.qF t0 (TN.qF t1 (TN.qg rfl (TN.qg rfl (TN.qF t4 (TN.qF t5 (TN.qF t6 (TN.qF t7 (TN.done)))))))))
 try simp only[List.append_nil]at h
 unfold bM.enc
 first|exact h|simpa only[List.append_assoc]using h
theorem bM.get_{w:World}{xs:List bM}{bs:List Nat}{A:Option Addr}{n n' c:Nat}(h:T1 w (.sl n (xs.flatMap bM.enc)) bs (.slice A n' c))(hm:xs.length=n){k:Nat}(hk:k<n):
  ∃(b off:Nat) (x:bM) (A0:Option Addr) (c0:Nat) (b0:List Nat) (A1:Option Addr) (c1:Nat) (b1:List Nat) (A4:Option Addr) (c4:Nat) (b4:List Nat) (A5:Option Addr) (c5:Nat) (b5:List Nat) (A6:Option Addr) (c6:Nat) (b6:List Nat) (A7:Option Addr) (c7:Nat) (b7:List Nat),A=some ⟨b,off,none⟩∧b<w.heap.size∧Hid (xs[k]? =some x)∧w.cell? ⟨b,off+k*8,none⟩=some (.slice A0 x.book.length c0)∧w.cell? ⟨b,off+k*8+1,none⟩=some (.slice A1 x.schedule.length c1)∧w.cell? ⟨b,off+k*8+2,none⟩=some (.int .i64 x.every)∧w.cell? ⟨b,off+k*8+3,none⟩=some (.int .i64 x.at_)∧w.cell? ⟨b,off+k*8+4,none⟩=some (.slice A4 x.net.agents.length c4)∧w.cell? ⟨b,off+k*8+5,none⟩=some (.slice A5 x.origins.length c5)∧w.cell? ⟨b,off+k*8+6,none⟩=some (.slice A6 x.breaks.length c6)∧w.cell? ⟨b,off+k*8+7,none⟩=some (.slice A7 x.points.length c7)∧T1 w (.sl x.book.length (x.book.flatMap aH.enc)) b0 (.slice A0 x.book.length c0)∧x.book.length≤c0∧c0≤maxLen∧T1 w (.sl x.schedule.length (x.schedule.flatMap bg)) b1 (.slice A1 x.schedule.length c1)∧x.schedule.length≤c1∧c1≤maxLen∧T1 w (.sl x.net.agents.length (x.net.agents.flatMap aA.enc)) b4 (.slice A4 x.net.agents.length c4)∧x.net.agents.length≤c4∧c4≤maxLen∧T1 w (.sl x.origins.length (x.origins.flatMap aV.enc)) b5 (.slice A5 x.origins.length c5)∧x.origins.length≤c5∧c5≤maxLen∧T1 w (.sl x.breaks.length (x.breaks.flatMap dh.enc)) b6 (.slice A6 x.breaks.length c6)∧x.breaks.length≤c6∧c6≤maxLen∧T1 w (.sl x.points.length (x.points.flatMap aK.enc)) b7 (.slice A7 x.points.length c7)∧x.points.length≤c7∧c7≤maxLen:=by
 obtain⟨_,b,off,p1,p2,p3,us,hA,_,hb,hc,ht⟩:=T1.at_ bM.bG h hm hk;obtain⟨A0,c0,b0,A1,c1,b1,A4,c4,b4,A5,c5,b5,A6,c6,b6,A7,c7,b7,rfl,_,t0,l0,m0,t1,l1,m1,t4,l4,m4,t5,l5,m5,t6,l6,m6,t7,l7,m7⟩:=bM.us ht;exact⟨b,off,xs[k],A0,c0,b0,A1,c1,b1,A4,c4,b4,A5,c5,b5,A6,c6,b6,A7,c7,b7,hA,hb,List.getElem?_eq_getElem (hm▸hk),hc 0 _ rfl,hc 1 _ rfl,hc 2 _ rfl,hc 3 _ rfl,hc 4 _ rfl,hc 5 _ rfl,hc 6 _ rfl,hc 7 _ rfl,t0,l0,m0,t1,l1,m1,t4,l4,m4,t5,l5,m5,t6,l6,m6,t7,l7,m7⟩
theorem bM.ext_{x y:bM}(h0:x.book=y.book)(h1:x.schedule=y.schedule)(h2:x.every=y.every)(h3:x.at_=y.at_)(h4:x.net=y.net)(h5:x.origins=y.origins)(h6:x.breaks=y.breaks)(h7:x.points=y.points):x=y:=by
 cases x;cases y;simp_all
def bM.wt(x:bM):Nat:=wX aH.wt x.book+wX (fun _=>0) x.schedule+x.net.wt+wX (fun _=>0) x.origins+wX (fun _=>0) x.breaks+wX aK.wt x.points
def bM.small(x:bM):Prop:=(x.book.length≤1048576∧∀y∈x.book,aH.small y)∧(x.schedule.length≤1048576)∧(x.net.small)∧(x.origins.length≤1048576∧∀y∈x.origins,aV.small y)∧(x.breaks.length≤1048576∧∀y∈x.breaks,dh.small y)∧(x.points.length≤1048576∧∀y∈x.points,aK.small y)
theorem aG.pt{w:World}{x:aG}{b o bs}(h:gL w b o x.enc bs):Kn w b (o) (.int .i64 x.agent)∧Kn w b (o+1) (.int .i64 x.slot):=by
 obtain⟨hlt,us,hc,ht⟩:=h;obtain⟨rfl,rfl⟩:=aG.us ht;exact⟨hc.always hlt 0 _ rfl,hc.always hlt 1 _ rfl⟩
theorem aA.pt{w:World}{x:aA}{b o bs}(h:gL w b o x.enc bs):∃(A3:Option Addr) (c3:Nat) (b3:List Nat) (A4:Option Addr) (c4:Nat) (b4:List Nat),Kn w b (o) (.int .i64 x.kind)∧Kn w b (o+1) (.int .i64 x.level)∧Kn w b (o+2) (.int .i64 x.value)∧Kn w b (o+3) (.slice A3 x.data.length c3)∧Kn w b (o+4) (.slice A4 x.ports.length c4)∧T1 w (.sl x.data.length (x.data.flatMap bg)) b3 (.slice A3 x.data.length c3)∧T1 w (.sl x.ports.length (x.ports.flatMap aG.enc)) b4 (.slice A4 x.ports.length c4):=by
 obtain⟨hlt,us,hc,ht⟩:=h;obtain⟨A3,c3,b3,A4,c4,b4,rfl,rfl,t3,l3,m3,t4,l4,m4⟩:=aA.us ht;exact⟨_,_,_,_,_,_,hc.always hlt 0 _ rfl,hc.always hlt 1 _ rfl,hc.always hlt 2 _ rfl,hc.always hlt 3 _ rfl,hc.always hlt 4 _ rfl,t3,t4⟩
theorem aH.pt{w:World}{x:aH}{b o bs}(h:gL w b o x.enc bs):∃(A0:Option Addr) (c0:Nat) (b0:List Nat),Kn w b (o) (.slice A0 x.agents.length c0)∧T1 w (.sl x.agents.length (x.agents.flatMap aA.enc)) b0 (.slice A0 x.agents.length c0):=by
 obtain⟨hlt,us,hc,ht⟩:=h;obtain⟨A0,c0,b0,rfl,rfl,t0,l0,m0⟩:=aH.us ht;exact⟨_,_,_,hc.always hlt 0 _ rfl,t0⟩
theorem aV.pt{w:World}{x:aV}{b o bs}(h:gL w b o x.enc bs):Kn w b (o) (.int .i64 x.step)∧Kn w b (o+1) (.int .i64 x.def_)∧Kn w b (o+2) (.int .i64 x.source):=by
 obtain⟨hlt,us,hc,ht⟩:=h;obtain⟨rfl,rfl⟩:=aV.us ht;exact⟨hc.always hlt 0 _ rfl,hc.always hlt 1 _ rfl,hc.always hlt 2 _ rfl⟩
theorem dh.pt{w:World}{x:dh}{b o bs}(h:gL w b o x.enc bs):Kn w b (o) (.int .i64 x.kind)∧Kn w b (o+1) (.int .i64 x.value):=by
 obtain⟨hlt,us,hc,ht⟩:=h;obtain⟨rfl,rfl⟩:=dh.us ht;exact⟨hc.always hlt 0 _ rfl,hc.always hlt 1 _ rfl⟩
theorem aK.pt{w:World}{x:aK}{b o bs}(h:gL w b o x.enc bs):∃(A1:Option Addr) (c1:Nat) (b1:List Nat) (A2:Option Addr) (c2:Nat) (b2:List Nat),Kn w b (o) (.int .i64 x.at_)∧Kn w b (o+1) (.slice A1 x.net.agents.length c1)∧Kn w b (o+2) (.slice A2 x.origins.length c2)∧T1 w (.sl x.net.agents.length (x.net.agents.flatMap aA.enc)) b1 (.slice A1 x.net.agents.length c1)∧T1 w (.sl x.origins.length (x.origins.flatMap aV.enc)) b2 (.slice A2 x.origins.length c2):=by
 obtain⟨hlt,us,hc,ht⟩:=h;obtain⟨A1,c1,b1,A2,c2,b2,rfl,rfl,t1,l1,m1,t2,l2,m2⟩:=aK.us ht;exact⟨_,_,_,_,_,_,hc.always hlt 0 _ rfl,hc.always hlt 1 _ rfl,hc.always hlt 2 _ rfl,t1,t2⟩
theorem bM.pt{w:World}{x:bM}{b o bs}(h:gL w b o x.enc bs):∃(A0:Option Addr) (c0:Nat) (b0:List Nat) (A1:Option Addr) (c1:Nat) (b1:List Nat) (A4:Option Addr) (c4:Nat) (b4:List Nat) (A5:Option Addr) (c5:Nat) (b5:List Nat) (A6:Option Addr) (c6:Nat) (b6:List Nat) (A7:Option Addr) (c7:Nat) (b7:List Nat),Kn w b (o) (.slice A0 x.book.length c0)∧Kn w b (o+1) (.slice A1 x.schedule.length c1)∧Kn w b (o+2) (.int .i64 x.every)∧Kn w b (o+3) (.int .i64 x.at_)∧Kn w b (o+4) (.slice A4 x.net.agents.length c4)∧Kn w b (o+5) (.slice A5 x.origins.length c5)∧Kn w b (o+6) (.slice A6 x.breaks.length c6)∧Kn w b (o+7) (.slice A7 x.points.length c7)∧T1 w (.sl x.book.length (x.book.flatMap aH.enc)) b0 (.slice A0 x.book.length c0)∧T1 w (.sl x.schedule.length (x.schedule.flatMap bg)) b1 (.slice A1 x.schedule.length c1)∧T1 w (.sl x.net.agents.length (x.net.agents.flatMap aA.enc)) b4 (.slice A4 x.net.agents.length c4)∧T1 w (.sl x.origins.length (x.origins.flatMap aV.enc)) b5 (.slice A5 x.origins.length c5)∧T1 w (.sl x.breaks.length (x.breaks.flatMap dh.enc)) b6 (.slice A6 x.breaks.length c6)∧T1 w (.sl x.points.length (x.points.flatMap aK.enc)) b7 (.slice A7 x.points.length c7):=by
 obtain⟨hlt,us,hc,ht⟩:=h;obtain⟨A0,c0,b0,A1,c1,b1,A4,c4,b4,A5,c5,b5,A6,c6,b6,A7,c7,b7,rfl,rfl,t0,l0,m0,t1,l1,m1,t4,l4,m4,t5,l5,m5,t6,l6,m6,t7,l7,m7⟩:=bM.us ht;exact⟨_,_,_,_,_,_,_,_,_,_,_,_,_,_,_,_,_,_,hc.always hlt 0 _ rfl,hc.always hlt 1 _ rfl,hc.always hlt 2 _ rfl,hc.always hlt 3 _ rfl,hc.always hlt 4 _ rfl,hc.always hlt 5 _ rfl,hc.always hlt 6 _ rfl,hc.always hlt 7 _ rfl,t0,t1,t4,t5,t6,t7⟩
theorem aG.RB{w:World}{x:aG}{b bs}(h:gL w b 0 x.enc bs):Kn w b 0 (.int .i64 x.agent)∧Kn w b 1 (.int .i64 x.slot):=by
 have:=aG.pt h;simpa only[Nat.zero_add]using this
theorem aA.RB{w:World}{x:aA}{b bs}(h:gL w b 0 x.enc bs):∃(A3:Option Addr) (c3:Nat) (b3:List Nat) (A4:Option Addr) (c4:Nat) (b4:List Nat),Kn w b 0 (.int .i64 x.kind)∧Kn w b 1 (.int .i64 x.level)∧Kn w b 2 (.int .i64 x.value)∧Kn w b 3 (.slice A3 x.data.length c3)∧Kn w b 4 (.slice A4 x.ports.length c4)∧T1 w (.sl x.data.length (x.data.flatMap bg)) b3 (.slice A3 x.data.length c3)∧T1 w (.sl x.ports.length (x.ports.flatMap aG.enc)) b4 (.slice A4 x.ports.length c4):=by
 have:=aA.pt h;simpa only[Nat.zero_add]using this
theorem aH.RB{w:World}{x:aH}{b bs}(h:gL w b 0 x.enc bs):∃(A0:Option Addr) (c0:Nat) (b0:List Nat),Kn w b 0 (.slice A0 x.agents.length c0)∧T1 w (.sl x.agents.length (x.agents.flatMap aA.enc)) b0 (.slice A0 x.agents.length c0):=by
 have:=aH.pt h;simpa only[Nat.zero_add]using this
theorem aV.RB{w:World}{x:aV}{b bs}(h:gL w b 0 x.enc bs):Kn w b 0 (.int .i64 x.step)∧Kn w b 1 (.int .i64 x.def_)∧Kn w b 2 (.int .i64 x.source):=by
 have:=aV.pt h;simpa only[Nat.zero_add]using this
theorem dh.RB{w:World}{x:dh}{b bs}(h:gL w b 0 x.enc bs):Kn w b 0 (.int .i64 x.kind)∧Kn w b 1 (.int .i64 x.value):=by
 have:=dh.pt h;simpa only[Nat.zero_add]using this
theorem aK.RB{w:World}{x:aK}{b bs}(h:gL w b 0 x.enc bs):∃(A1:Option Addr) (c1:Nat) (b1:List Nat) (A2:Option Addr) (c2:Nat) (b2:List Nat),Kn w b 0 (.int .i64 x.at_)∧Kn w b 1 (.slice A1 x.net.agents.length c1)∧Kn w b 2 (.slice A2 x.origins.length c2)∧T1 w (.sl x.net.agents.length (x.net.agents.flatMap aA.enc)) b1 (.slice A1 x.net.agents.length c1)∧T1 w (.sl x.origins.length (x.origins.flatMap aV.enc)) b2 (.slice A2 x.origins.length c2):=by
 have:=aK.pt h;simpa only[Nat.zero_add]using this
theorem bM.RB{w:World}{x:bM}{b bs}(h:gL w b 0 x.enc bs):∃(A0:Option Addr) (c0:Nat) (b0:List Nat) (A1:Option Addr) (c1:Nat) (b1:List Nat) (A4:Option Addr) (c4:Nat) (b4:List Nat) (A5:Option Addr) (c5:Nat) (b5:List Nat) (A6:Option Addr) (c6:Nat) (b6:List Nat) (A7:Option Addr) (c7:Nat) (b7:List Nat),Kn w b 0 (.slice A0 x.book.length c0)∧Kn w b 1 (.slice A1 x.schedule.length c1)∧Kn w b 2 (.int .i64 x.every)∧Kn w b 3 (.int .i64 x.at_)∧Kn w b 4 (.slice A4 x.net.agents.length c4)∧Kn w b 5 (.slice A5 x.origins.length c5)∧Kn w b 6 (.slice A6 x.breaks.length c6)∧Kn w b 7 (.slice A7 x.points.length c7)∧T1 w (.sl x.book.length (x.book.flatMap aH.enc)) b0 (.slice A0 x.book.length c0)∧T1 w (.sl x.schedule.length (x.schedule.flatMap bg)) b1 (.slice A1 x.schedule.length c1)∧T1 w (.sl x.net.agents.length (x.net.agents.flatMap aA.enc)) b4 (.slice A4 x.net.agents.length c4)∧T1 w (.sl x.origins.length (x.origins.flatMap aV.enc)) b5 (.slice A5 x.origins.length c5)∧T1 w (.sl x.breaks.length (x.breaks.flatMap dh.enc)) b6 (.slice A6 x.breaks.length c6)∧T1 w (.sl x.points.length (x.points.flatMap aK.enc)) b7 (.slice A7 x.points.length c7):=by
 have:=bM.pt h;simpa only[Nat.zero_add]using this
end Go.Tr
namespace Go.Tr
def aG.cells(p:aG):List Value:=[.int .i64 p.agent,.int .i64 p.slot]
end Go.Tr
namespace Go.Tr
open Go Go.RowKit
theorem _root_.Go.Calls.q{P:Program}{f:FuncId}{args:Array Value}{W:World}{v:Value}(h:Calls P f args W fun e w'=>e=.returned v∧W=w'):Calls P f args W fun e w'=>e=.returned v∧Ext W w':=
 h.mono fun _ _ ⟨a,b⟩=>⟨a,b▸Below.refl _ _⟩
def fF(k p:Int):Int:=if k==9 then p-1 else 0
def fieldsOf(a:aA):Int:=fF a.kind a.ports.length
def kQ(n:Int):Bool:=inB n 0 23
def sK(n:Int):Bool:=inB n (-2147483648) 2147483647
def kJ(n:Int):Bool:=inB n 1 6
def eD(l:List Int)(k:Nat):Int:=l.getD k 0
theorem FH{l:List Int}{k:Nat}{x:Int}(h:Hid (l[k]? =some x)):eD l k=x:=by unfold eD;rw[List.getD_eq_getElem?_getD,h.out];rfl
def l9(l:List Int):Bool:=eH l.length fun k=>kQ (eD l k)
def gY(a:aA):Bool:=
 if a.kind==6 then((a.data.length:Int)==0)&&sK a.value
 else if a.kind==7 then((a.data.length:Int)==0)&&kJ a.value
 else if a.kind==8 then((a.data.length:Int)==1)&&kJ a.value&&sK (eD a.data 0)
 else if a.kind==9 then((a.data.length:Int)==0)&&inB a.value 0 3
 else if a.kind==12 then((a.data.length:Int)==0)&&kQ a.value
 else if a.kind==10 then a.value==0&&inB a.data.length 1 4&&l9 a.data
 else if a.kind==11 then a.value==0&&((a.data.length:Int)==2)&&l9 a.data
 else a.value==0&&((a.data.length:Int)==0)
def dY(a:aA):Bool:=decide (0<dG a.kind (fieldsOf a))&&(a.ports.length:Int)==dG a.kind (fieldsOf a)&&dx a.kind a.level&&gY a
def UC:aA:=⟨0,0,0,[],[]⟩
def WU:aG:=⟨0,0⟩
def iE(l:List aA)(k:Nat):aA:=l.getD k UC
def jY(l:List aG)(k:Nat):aG:=l.getD k WU
theorem Ke{α:Type}{l:List α}{k:Nat}{x d:α}(h:Hid (l[k]? =some x)):l.getD k d=x:=by rw[List.getD_eq_getElem?_getD,h.out];rfl
theorem kU{l:List aA}{k:Nat}{x:aA}(h:Hid (l[k]? =some x)):iE l k=x:=Ke h
theorem vE{l:List aG}{k:Nat}{x:aG}(h:Hid (l[k]? =some x)):jY l k=x:=Ke h
def iF(l:List aA)(k:Nat):Bool:=dY (iE l k)&&((iE l k).kind==1)==((k:Int)==0)
def fP(l:List aA):Bool:=inB l.length 1 600&&eH l.length (iF l)
def iV(l:List aA)(p:aG):Bool:=inB p.agent 0 ((l.length:Int)-1)&&inB p.slot 0 (((iE l p.agent.toNat).ports.length:Int)-1)
def sS(l:List aA)(p:aG):aG:=jY (iE l p.agent.toNat).ports p.slot.toNat
noncomputable def qH(l:List aA)(me p:aG):Bool:= !eqb p me&&iV l p&&eqb (sS l p) me
noncomputable def rA(l:List aA)(i:Nat):Bool:=eH (iE l i).ports.length fun k=>qH l ⟨i,k⟩ (jY (iE l i).ports k)
noncomputable def je(n:aH):Bool:=fP n.agents&&eH n.agents.length (rA n.agents)
theorem MQ{l:List aA}{p:aG}(h:iV l p=true):∃(i k:Nat) (a:aA) (q:aG),p=⟨i,k⟩∧i<l.length∧Hid (l[i]? =some a)∧k<a.ports.length∧Hid (a.ports[k]? =some q)∧sS l p=q:=by
 unfold iV at h;rw[Bool.and_eq_true]at h;obtain⟨h1,h2⟩:=h;have h1:=kr h1;have h2:=kr h2;obtain⟨pa,ps⟩:=p;simp only at h1 h2;obtain⟨i,rfl⟩:=Int.eq_ofNat_of_zero_le h1.1;obtain⟨k,rfl⟩:=Int.eq_ofNat_of_zero_le h2.1;have hi:i<l.length:=by omega
 have ha:Hid (l[i]? =some l[i]):=List.getElem?_eq_getElem hi;rw[Int.toNat_natCast,kU ha]at h2;have hk:k<(l[i]).ports.length:=by omega
 have hq:Hid ((l[i]).ports[k]? =some (l[i]).ports[k]):=List.getElem?_eq_getElem hk;refine⟨i,k,l[i],_,rfl,hi,ha,hk,hq,?_⟩;unfold sS;rw[Int.toNat_natCast,Int.toNat_natCast,kU ha,vE hq]
def Y5:aH:=⟨[]⟩
def nI(l:List aH)(k:Nat):aH:=l.getD k Y5
theorem Mt{l:List aH}{k:Nat}{x:aH}(h:Hid (l[k]? =some x)):nI l k=x:=Ke h
noncomputable def mW(l:List aH):Bool:=decide ((l.length:Int)≤24)&&eH l.length fun k=>je (nI l k)
def schedB(l:List Int):Bool:=decide ((l.length:Int)≤200)&&eH l.length fun k=>inB (eD l k) 0 600
end Go.Tr
