
/- Plain arithmetic: 32-bit wraps, the operators of the language, bounds as Bools. No program in it. -/
import Derived.Test.YtemalpelcdmemaaGreatSc
set_option linter.unusedSimpArgs false
set_option linter.unusedVariables false
namespace Go.Tr
open Go Go.RowKit
def dH(n lo hi:Int):Bool:=decide (lo≤n)&&decide (n≤hi)
theorem eH{n lo hi:Int}(h:dH n lo hi=true):lo≤n∧n≤hi:=by simpa[dH]using h
theorem Lv{n lo hi:Int}(h:dH n lo hi=false):n<lo∨hi<n:=by
 simp only[dH,Bool.and_eq_false_iff,decide_eq_false_iff_not]at h;omega
theorem oO{n lo hi:Int}(h1:lo≤n)(h2:n≤hi):dH n lo hi=true:=by simp[dH,h1,h2]
theorem xJ{n lo hi:Int}(h:n<lo∨hi<n):dH n lo hi=false:=by
 simp only[dH,Bool.and_eq_false_iff,decide_eq_false_iff_not];omega
def gK(k:Int):Bool:=dH k 1 12
def aT(k:Int):Bool:=gK k&&k !=1&&k !=5&&k !=6
def qz(n:Int):Bool:=dH n 0 8
def aV(k l:Int):Bool:=gK k&&(l==0||(aT k&&qz l))
def jX(k:Int):Bool:=k==3||k==7||k==8||k==10||k==11
def vO(t k l:Int):Bool:=qz t&&aV k l&&(k==6||k==12||(aT k&&decide (t<l)))
def rule(ka la kb lb:Int):Int:=
 if ka=5 then 4
 else if ka=4 then(if kb==4&&la==lb then 2 else if vO la kb lb then 3 else 0)
 else if ka=2 then(if kb==3&&la==lb then 1 else 0)
 else if ka=6 then(if kb==7||kb==8 then 5 else if kb==11 then 6 else 0)
 else if ka=9 then(if kb==10 then 6 else 0)
 else if ka=12 then(if jX kb then 7 else 0)
 else 0
def iC(ka la kb lb:Int):Bool:=aV ka la&&aV kb lb&&ka !=1&&kb !=1
def aF(ka la kb lb:Int):Int:=if iC ka la kb lb then(if rule ka la kb lb=0 then(if rule kb lb ka la=0 then 8 else rule kb lb ka la)else rule ka la kb lb)else 0
def aJ(ka la kb lb:Int):Int:=if iC ka la kb lb then(if rule ka la kb lb=0 then(if rule kb lb ka la=0 then 0 else 2)else 1)else 0
def aW(k f:Int):Int:=
 if k=9 then(if dH f 0 3 then f+1 else 0)else if f=0 then
  (if k=1∨k=5∨k=6∨k=12 then 1 else if k=8∨k=10∨k=11 then 2 else if k=2∨k=3∨k=4∨k=7 then 3 else 0)else 0
theorem xO{k:Int}(h:gK k=true):k=1∨k=2∨k=3∨k=4∨k=5∨k=6∨k=7∨k=8∨k=9∨k=10∨k=11∨k=12:=by
 have:=eH h;omega
theorem vM{k l:Int}(h:gK k=false):aV k l=false:=by simp[aV,h]
theorem jB{k:Int}(h:gK k=false):aT k=false:=by simp[aT,h]
theorem nU(ka la kb lb:Int):0≤rule ka la kb lb∧rule ka la kb lb≤7:=by
 unfold rule;(repeat' split)<;>omega
theorem Hg{i k:Int}(h:vO i 4 k=true):i<k:=by
 simp only[vO,Bool.and_eq_true,Bool.or_eq_true]at h;obtain⟨_,h⟩:=h;rcases h with(h|h)|h
 ·exact absurd h (by decide)
 ·exact absurd h (by decide)
 ·simpa using h.2
theorem Dh{i b k:Int}(h:vO i b k=true):b≠5:=by
 rintro rfl;simp[vO,aT]at h
theorem J7{ka la kb lb:Int}(h1:rule ka la kb lb≠0)(h2:rule kb lb ka la≠0):rule ka la kb lb=rule kb lb ka la∧(rule ka la kb lb=2∨rule ka la kb lb=4):=by
 by_cases a5:ka=5
 ·subst a5
  by_cases b5:kb=5
  ·subst b5;simp[rule]
  ·exfalso;revert h2;unfold rule;rw[if_neg b5];split
   ·rw[if_neg (by simp),if_neg (fun h=>Dh h rfl)];simp
   ·simp[jX]
 by_cases b5:kb=5
 ·subst b5;exfalso;revert h1;unfold rule;rw[if_neg a5];split
  ·rw[if_neg (by simp),if_neg (fun h=>Dh h rfl)];simp
  ·simp[jX]
 by_cases a4:ka=4
 ·subst a4
  by_cases b4:kb=4
  ·subst b4
   by_cases e:la=lb
   ·subst e;simp[rule]
   ·exfalso;have e':¬lb=la:=fun h=>e h.symm
    simp[rule,e,e']at h1 h2;have:=Hg h1;have:=Hg h2;omega
  ·exfalso;revert h2;unfold rule;simp[b5,b4,jX]
 by_cases b4:kb=4
 ·subst b4;exfalso;revert h1;unfold rule;simp[a5,a4,jX]
 exfalso;revert h1 h2;unfold rule;simp only[a5,b5,a4,b4,if_false]
 by_cases a2:ka=2
 ·subst a2;simp[jX]
  try (intro h _;subst h;simp)
 by_cases a6:ka=6
 ·subst a6;simp[jX]
  try
   split
   ·rename_i h;rcases h with rfl|rfl<;>simp
   ·split
    ·rename_i h;subst h;simp
    ·simp
 by_cases a9:ka=9
 ·subst a9;simp[jX]
  try (intro h;subst h;simp)
 by_cases a12:ka=12
 ·subst a12;intro h
  have hc:jX kb=true:=by
   cases hc:jX kb with
   |true=>rfl
   |false=>simp[hc]at h
  simp only[jX,Bool.or_eq_true,beq_iff_eq]at hc;rcases hc with(((rfl|rfl)|rfl)|rfl)|rfl<;>simp
 ·simp[a2,a6,a9,a12]
theorem JV(ka la kb lb:Int):iC ka la kb lb=iC kb lb ka la:=by
 simp only[iC];cases aV ka la<;>cases aV kb lb<;>cases (ka !=1)<;>cases (kb !=1)<;>rfl
theorem qG(ka la kb lb:Int):aF kb lb ka la=aF ka la kb lb:=by
 unfold aF;rw[JV kb lb ka la]
 by_cases h1:rule ka la kb lb=0<;>by_cases h2:rule kb lb ka la=0
 ·simp[h1,h2]
 ·simp[h1,h2]
 ·simp[h1,h2]
 ·simp[h1,h2,(J7 h1 h2).1]
structure au where
 agent:Int
 slot:Int
def au.enc(x:au):List D:=[.v (.int .i64 x.agent),.v (.int .i64 x.slot)]
theorem au.aK(x:au):x.enc.length=2:=rfl
theorem au.us{w:World}{x:au}{bs us}(h0:TN w x.enc bs us):us=[.int .i64 x.agent,.int .i64 x.slot]∧bs=[]:=by
 unfold au.enc at h0;obtain⟨u0,rfl,h1⟩:=TN.fJ h0;obtain⟨u1,rfl,h2⟩:=TN.fJ h1;obtain⟨rfl,rfl⟩:=TN.end_ h2;exact⟨rfl,rfl⟩
theorem au.qU{w:World}{x:au}:TN w x.enc ([]) [.int .i64 x.agent,.int .i64 x.slot]:=by
 have h:=(show TN w [.v (.int .i64 x.agent),.v (.int .i64 x.slot)] _ _ from TN.jR rfl (TN.jR rfl (TN.done)))
 try simp only[List.append_nil]at h
 unfold au.enc
 first|exact h|simpa only[List.append_assoc]using h
theorem au.mo{w:World}{xs:List au}{bs:List Nat}{A:Option Addr}{n n' c:Nat}(h:T1 w (.sl n (xs.flatMap au.enc)) bs (.slice A n' c))(hm:xs.length=n){k:Nat}(hk:k<n):
  ∃(b off:Nat) (x:au),A=some ⟨b,off,none⟩∧b<w.heap.size∧Hid (xs[k]? =some x)∧w.cell? ⟨b,off+k*2,none⟩=some (.int .i64 x.agent)∧w.cell? ⟨b,off+k*2+1,none⟩=some (.int .i64 x.slot):=by
 obtain⟨_,b,off,p1,p2,p3,us,hA,_,hb,hc,ht⟩:=T1.at_ au.aK h hm hk;obtain⟨rfl,_⟩:=au.us ht;exact⟨b,off,xs[k],hA,hb,List.getElem?_eq_getElem (hm▸hk),hc 0 _ rfl,hc 1 _ rfl⟩
theorem au.xk{x y:au}(h0:x.agent=y.agent)(h1:x.slot=y.slot):x=y:=by
 cases x;cases y;simp_all
def au.wt(_x:au):Nat:=0
def au.small(_x:au):Prop:=True
structure aj where
 kind:Int
 level:Int
 value:Int
 data:(List Int)
 ports:(List au)
def aj.enc(x:aj):List D:=[.v (.int .i64 x.kind),.v (.int .i64 x.level),.v (.int .i64 x.value),.sl x.data.length (x.data.flatMap aQ),.sl x.ports.length (x.ports.flatMap au.enc)]
theorem aj.aK(x:aj):x.enc.length=5:=rfl
theorem aj.us{w:World}{x:aj}{bs us}(h0:TN w x.enc bs us):∃(A3:Option Addr) (c3:Nat) (b3:List Nat) (A4:Option Addr) (c4:Nat) (b4:List Nat),us=[.int .i64 x.kind,.int .i64 x.level,.int .i64 x.value,.slice A3 x.data.length c3,.slice A4 x.ports.length c4]∧bs=b3++b4∧T1 w (.sl x.data.length (x.data.flatMap aQ)) b3 (.slice A3 x.data.length c3)∧x.data.length≤c3∧c3≤maxLen∧T1 w (.sl x.ports.length (x.ports.flatMap au.enc)) b4 (.slice A4 x.ports.length c4)∧x.ports.length≤c4∧c4≤maxLen:=by
 unfold aj.enc at h0;obtain⟨u0,rfl,h1⟩:=TN.fJ h0;obtain⟨u1,rfl,h2⟩:=TN.fJ h1;obtain⟨u2,rfl,h3⟩:=TN.fJ h2;obtain⟨A3,c3,b3,r3,u3,rfl,rfl,t3,l3,m3,h4⟩:=TN.fV h3;obtain⟨A4,c4,b4,r4,u4,rfl,rfl,t4,l4,m4,h5⟩:=TN.fV h4;obtain⟨rfl,rfl⟩:=TN.end_ h5;exact⟨A3,c3,b3,A4,c4,b4,rfl,by simp,t3,l3,m3,t4,l4,m4⟩
theorem aj.qU{w:World}{x:aj}{A3 c3 b3}(t3:T1 w (.sl x.data.length (x.data.flatMap aQ)) b3 (.slice A3 x.data.length c3)){A4 c4 b4}(t4:T1 w (.sl x.ports.length (x.ports.flatMap au.enc)) b4 (.slice A4 x.ports.length c4)):TN w x.enc (b3++b4) [.int .i64 x.kind,.int .i64 x.level,.int .i64 x.value,.slice A3 x.data.length c3,.slice A4 x.ports.length c4]:=by
 have h:=(show TN w [.v (.int .i64 x.kind),.v (.int .i64 x.level),.v (.int .i64 x.value),.sl x.data.length (x.data.flatMap aQ),.sl x.ports.length (x.ports.flatMap au.enc)] _ _ from TN.jR rfl (TN.jR rfl (TN.jR rfl (TN.kg t3 (TN.kg t4 (TN.done))))))
 try simp only[List.append_nil]at h
 unfold aj.enc
 first|exact h|simpa only[List.append_assoc]using h
theorem aj.mo{w:World}{xs:List aj}{bs:List Nat}{A:Option Addr}{n n' c:Nat}(h:T1 w (.sl n (xs.flatMap aj.enc)) bs (.slice A n' c))(hm:xs.length=n){k:Nat}(hk:k<n):
  ∃(b off:Nat) (x:aj) (A3:Option Addr) (c3:Nat) (b3:List Nat) (A4:Option Addr) (c4:Nat) (b4:List Nat),A=some ⟨b,off,none⟩∧b<w.heap.size∧Hid (xs[k]? =some x)∧w.cell? ⟨b,off+k*5,none⟩=some (.int .i64 x.kind)∧w.cell? ⟨b,off+k*5+1,none⟩=some (.int .i64 x.level)∧w.cell? ⟨b,off+k*5+2,none⟩=some (.int .i64 x.value)∧w.cell? ⟨b,off+k*5+3,none⟩=some (.slice A3 x.data.length c3)∧w.cell? ⟨b,off+k*5+4,none⟩=some (.slice A4 x.ports.length c4)∧T1 w (.sl x.data.length (x.data.flatMap aQ)) b3 (.slice A3 x.data.length c3)∧x.data.length≤c3∧c3≤maxLen∧T1 w (.sl x.ports.length (x.ports.flatMap au.enc)) b4 (.slice A4 x.ports.length c4)∧x.ports.length≤c4∧c4≤maxLen:=by
 obtain⟨_,b,off,p1,p2,p3,us,hA,_,hb,hc,ht⟩:=T1.at_ aj.aK h hm hk;obtain⟨A3,c3,b3,A4,c4,b4,rfl,_,t3,l3,m3,t4,l4,m4⟩:=aj.us ht;exact⟨b,off,xs[k],A3,c3,b3,A4,c4,b4,hA,hb,List.getElem?_eq_getElem (hm▸hk),hc 0 _ rfl,hc 1 _ rfl,hc 2 _ rfl,hc 3 _ rfl,hc 4 _ rfl,t3,l3,m3,t4,l4,m4⟩
theorem aj.xk{x y:aj}(h0:x.kind=y.kind)(h1:x.level=y.level)(h2:x.value=y.value)(h3:x.data=y.data)(h4:x.ports=y.ports):x=y:=by
 cases x;cases y;simp_all
def aj.wt(x:aj):Nat:=nD (fun _=>0) x.data+nD (fun _=>0) x.ports
def aj.small(x:aj):Prop:=(x.data.length≤1048576)∧(x.ports.length≤1048576∧∀y∈x.ports,au.small y)
structure aB where
 agents:(List aj)
def aB.enc(x:aB):List D:=[.sl x.agents.length (x.agents.flatMap aj.enc)]
theorem aB.aK(x:aB):x.enc.length=1:=rfl
theorem aB.us{w:World}{x:aB}{bs us}(h0:TN w x.enc bs us):∃(A0:Option Addr) (c0:Nat) (b0:List Nat),us=[.slice A0 x.agents.length c0]∧bs=b0∧T1 w (.sl x.agents.length (x.agents.flatMap aj.enc)) b0 (.slice A0 x.agents.length c0)∧x.agents.length≤c0∧c0≤maxLen:=by
 unfold aB.enc at h0;obtain⟨A0,c0,b0,r0,u0,rfl,rfl,t0,l0,m0,h1⟩:=TN.fV h0;obtain⟨rfl,rfl⟩:=TN.end_ h1;exact⟨A0,c0,b0,rfl,by simp,t0,l0,m0⟩
theorem aB.qU{w:World}{x:aB}{A0 c0 b0}(t0:T1 w (.sl x.agents.length (x.agents.flatMap aj.enc)) b0 (.slice A0 x.agents.length c0)):TN w x.enc (b0) [.slice A0 x.agents.length c0]:=by
 have h:=(show TN w [.sl x.agents.length (x.agents.flatMap aj.enc)] _ _ from TN.kg t0 (TN.done))
 try simp only[List.append_nil]at h
 unfold aB.enc
 first|exact h|simpa only[List.append_assoc]using h
theorem aB.mo{w:World}{xs:List aB}{bs:List Nat}{A:Option Addr}{n n' c:Nat}(h:T1 w (.sl n (xs.flatMap aB.enc)) bs (.slice A n' c))(hm:xs.length=n){k:Nat}(hk:k<n):
  ∃(b off:Nat) (x:aB) (A0:Option Addr) (c0:Nat) (b0:List Nat),A=some ⟨b,off,none⟩∧b<w.heap.size∧Hid (xs[k]? =some x)∧w.cell? ⟨b,off+k,none⟩=some (.slice A0 x.agents.length c0)∧T1 w (.sl x.agents.length (x.agents.flatMap aj.enc)) b0 (.slice A0 x.agents.length c0)∧x.agents.length≤c0∧c0≤maxLen:=by
 obtain⟨_,b,off,p1,p2,p3,us,hA,_,hb,hc,ht⟩:=T1.at_ aB.aK h hm hk;obtain⟨A0,c0,b0,rfl,_,t0,l0,m0⟩:=aB.us ht;exact⟨b,off,xs[k],A0,c0,b0,hA,hb,List.getElem?_eq_getElem (hm▸hk),by simpa using hc 0 _ rfl,t0,l0,m0⟩
theorem aB.xk{x y:aB}(h0:x.agents=y.agents):x=y:=by
 cases x;cases y;simp_all
def aB.wt(x:aB):Nat:=nD aj.wt x.agents
def aB.small(x:aB):Prop:=(x.agents.length≤1048576∧∀y∈x.agents,aj.small y)
structure aG where
 step:Int
 def_:Int
 source:Int
def aG.enc(x:aG):List D:=[.v (.int .i64 x.step),.v (.int .i64 x.def_),.v (.int .i64 x.source)]
theorem aG.aK(x:aG):x.enc.length=3:=rfl
theorem aG.us{w:World}{x:aG}{bs us}(h0:TN w x.enc bs us):us=[.int .i64 x.step,.int .i64 x.def_,.int .i64 x.source]∧bs=[]:=by
 unfold aG.enc at h0;obtain⟨u0,rfl,h1⟩:=TN.fJ h0;obtain⟨u1,rfl,h2⟩:=TN.fJ h1;obtain⟨u2,rfl,h3⟩:=TN.fJ h2;obtain⟨rfl,rfl⟩:=TN.end_ h3;exact⟨rfl,rfl⟩
theorem aG.qU{w:World}{x:aG}:TN w x.enc ([]) [.int .i64 x.step,.int .i64 x.def_,.int .i64 x.source]:=by
 have h:=(show TN w [.v (.int .i64 x.step),.v (.int .i64 x.def_),.v (.int .i64 x.source)] _ _ from TN.jR rfl (TN.jR rfl (TN.jR rfl (TN.done))))
 try simp only[List.append_nil]at h
 unfold aG.enc
 first|exact h|simpa only[List.append_assoc]using h
theorem aG.mo{w:World}{xs:List aG}{bs:List Nat}{A:Option Addr}{n n' c:Nat}(h:T1 w (.sl n (xs.flatMap aG.enc)) bs (.slice A n' c))(hm:xs.length=n){k:Nat}(hk:k<n):
  ∃(b off:Nat) (x:aG),A=some ⟨b,off,none⟩∧b<w.heap.size∧Hid (xs[k]? =some x)∧w.cell? ⟨b,off+k*3,none⟩=some (.int .i64 x.step)∧w.cell? ⟨b,off+k*3+1,none⟩=some (.int .i64 x.def_)∧w.cell? ⟨b,off+k*3+2,none⟩=some (.int .i64 x.source):=by
 obtain⟨_,b,off,p1,p2,p3,us,hA,_,hb,hc,ht⟩:=T1.at_ aG.aK h hm hk;obtain⟨rfl,_⟩:=aG.us ht;exact⟨b,off,xs[k],hA,hb,List.getElem?_eq_getElem (hm▸hk),hc 0 _ rfl,hc 1 _ rfl,hc 2 _ rfl⟩
theorem aG.xk{x y:aG}(h0:x.step=y.step)(h1:x.def_=y.def_)(h2:x.source=y.source):x=y:=by
 cases x;cases y;simp_all
def aG.wt(_x:aG):Nat:=0
def aG.small(_x:aG):Prop:=True
structure aU where
 kind:Int
 value:Int
def aU.enc(x:aU):List D:=[.v (.int .i64 x.kind),.v (.int .i64 x.value)]
theorem aU.aK(x:aU):x.enc.length=2:=rfl
theorem aU.us{w:World}{x:aU}{bs us}(h0:TN w x.enc bs us):us=[.int .i64 x.kind,.int .i64 x.value]∧bs=[]:=by
 unfold aU.enc at h0;obtain⟨u0,rfl,h1⟩:=TN.fJ h0;obtain⟨u1,rfl,h2⟩:=TN.fJ h1;obtain⟨rfl,rfl⟩:=TN.end_ h2;exact⟨rfl,rfl⟩
theorem aU.qU{w:World}{x:aU}:TN w x.enc ([]) [.int .i64 x.kind,.int .i64 x.value]:=by
 have h:=(show TN w [.v (.int .i64 x.kind),.v (.int .i64 x.value)] _ _ from TN.jR rfl (TN.jR rfl (TN.done)))
 try simp only[List.append_nil]at h
 unfold aU.enc
 first|exact h|simpa only[List.append_assoc]using h
theorem aU.mo{w:World}{xs:List aU}{bs:List Nat}{A:Option Addr}{n n' c:Nat}(h:T1 w (.sl n (xs.flatMap aU.enc)) bs (.slice A n' c))(hm:xs.length=n){k:Nat}(hk:k<n):
  ∃(b off:Nat) (x:aU),A=some ⟨b,off,none⟩∧b<w.heap.size∧Hid (xs[k]? =some x)∧w.cell? ⟨b,off+k*2,none⟩=some (.int .i64 x.kind)∧w.cell? ⟨b,off+k*2+1,none⟩=some (.int .i64 x.value):=by
 obtain⟨_,b,off,p1,p2,p3,us,hA,_,hb,hc,ht⟩:=T1.at_ aU.aK h hm hk;obtain⟨rfl,_⟩:=aU.us ht;exact⟨b,off,xs[k],hA,hb,List.getElem?_eq_getElem (hm▸hk),hc 0 _ rfl,hc 1 _ rfl⟩
theorem aU.xk{x y:aU}(h0:x.kind=y.kind)(h1:x.value=y.value):x=y:=by
 cases x;cases y;simp_all
def aU.wt(_x:aU):Nat:=0
def aU.small(_x:aU):Prop:=True
structure ay where
 at_:Int
 net:aB
 origins:(List aG)
def ay.enc(x:ay):List D:=[.v (.int .i64 x.at_),.sl x.net.agents.length (x.net.agents.flatMap aj.enc),.sl x.origins.length (x.origins.flatMap aG.enc)]
theorem ay.aK(x:ay):x.enc.length=3:=rfl
theorem ay.us{w:World}{x:ay}{bs us}(h0:TN w x.enc bs us):∃(A1:Option Addr) (c1:Nat) (b1:List Nat) (A2:Option Addr) (c2:Nat) (b2:List Nat),us=[.int .i64 x.at_,.slice A1 x.net.agents.length c1,.slice A2 x.origins.length c2]∧bs=b1++b2∧T1 w (.sl x.net.agents.length (x.net.agents.flatMap aj.enc)) b1 (.slice A1 x.net.agents.length c1)∧x.net.agents.length≤c1∧c1≤maxLen∧T1 w (.sl x.origins.length (x.origins.flatMap aG.enc)) b2 (.slice A2 x.origins.length c2)∧x.origins.length≤c2∧c2≤maxLen:=by
 unfold ay.enc at h0;obtain⟨u0,rfl,h1⟩:=TN.fJ h0;obtain⟨A1,c1,b1,r1,u1,rfl,rfl,t1,l1,m1,h2⟩:=TN.fV h1;obtain⟨A2,c2,b2,r2,u2,rfl,rfl,t2,l2,m2,h3⟩:=TN.fV h2;obtain⟨rfl,rfl⟩:=TN.end_ h3;exact⟨A1,c1,b1,A2,c2,b2,rfl,by simp,t1,l1,m1,t2,l2,m2⟩
theorem ay.qU{w:World}{x:ay}{A1 c1 b1}(t1:T1 w (.sl x.net.agents.length (x.net.agents.flatMap aj.enc)) b1 (.slice A1 x.net.agents.length c1)){A2 c2 b2}(t2:T1 w (.sl x.origins.length (x.origins.flatMap aG.enc)) b2 (.slice A2 x.origins.length c2)):TN w x.enc (b1++b2) [.int .i64 x.at_,.slice A1 x.net.agents.length c1,.slice A2 x.origins.length c2]:=by
 have h:=(show TN w [.v (.int .i64 x.at_),.sl x.net.agents.length (x.net.agents.flatMap aj.enc),.sl x.origins.length (x.origins.flatMap aG.enc)] _ _ from TN.jR rfl (TN.kg t1 (TN.kg t2 (TN.done))))
 try simp only[List.append_nil]at h
 unfold ay.enc
 first|exact h|simpa only[List.append_assoc]using h
theorem ay.mo{w:World}{xs:List ay}{bs:List Nat}{A:Option Addr}{n n' c:Nat}(h:T1 w (.sl n (xs.flatMap ay.enc)) bs (.slice A n' c))(hm:xs.length=n){k:Nat}(hk:k<n):
  ∃(b off:Nat) (x:ay) (A1:Option Addr) (c1:Nat) (b1:List Nat) (A2:Option Addr) (c2:Nat) (b2:List Nat),A=some ⟨b,off,none⟩∧b<w.heap.size∧Hid (xs[k]? =some x)∧w.cell? ⟨b,off+k*3,none⟩=some (.int .i64 x.at_)∧w.cell? ⟨b,off+k*3+1,none⟩=some (.slice A1 x.net.agents.length c1)∧w.cell? ⟨b,off+k*3+2,none⟩=some (.slice A2 x.origins.length c2)∧T1 w (.sl x.net.agents.length (x.net.agents.flatMap aj.enc)) b1 (.slice A1 x.net.agents.length c1)∧x.net.agents.length≤c1∧c1≤maxLen∧T1 w (.sl x.origins.length (x.origins.flatMap aG.enc)) b2 (.slice A2 x.origins.length c2)∧x.origins.length≤c2∧c2≤maxLen:=by
 obtain⟨_,b,off,p1,p2,p3,us,hA,_,hb,hc,ht⟩:=T1.at_ ay.aK h hm hk;obtain⟨A1,c1,b1,A2,c2,b2,rfl,_,t1,l1,m1,t2,l2,m2⟩:=ay.us ht;exact⟨b,off,xs[k],A1,c1,b1,A2,c2,b2,hA,hb,List.getElem?_eq_getElem (hm▸hk),hc 0 _ rfl,hc 1 _ rfl,hc 2 _ rfl,t1,l1,m1,t2,l2,m2⟩
theorem ay.xk{x y:ay}(h0:x.at_=y.at_)(h1:x.net=y.net)(h2:x.origins=y.origins):x=y:=by
 cases x;cases y;simp_all
def ay.wt(x:ay):Nat:=x.net.wt+nD (fun _=>0) x.origins
def ay.small(x:ay):Prop:=(x.net.small)∧(x.origins.length≤1048576∧∀y∈x.origins,aG.small y)
structure aO where
 book:(List aB)
 schedule:(List Int)
 every:Int
 at_:Int
 net:aB
 origins:(List aG)
 breaks:(List aU)
 points:(List ay)
def aO.enc(x:aO):List D:=[.sl x.book.length (x.book.flatMap aB.enc),.sl x.schedule.length (x.schedule.flatMap aQ),.v (.int .i64 x.every),.v (.int .i64 x.at_),.sl x.net.agents.length (x.net.agents.flatMap aj.enc),.sl x.origins.length (x.origins.flatMap aG.enc),.sl x.breaks.length (x.breaks.flatMap aU.enc),.sl x.points.length (x.points.flatMap ay.enc)]
theorem aO.aK(x:aO):x.enc.length=8:=rfl
theorem aO.us{w:World}{x:aO}{bs us}(h0:TN w x.enc bs us):∃(A0:Option Addr) (c0:Nat) (b0:List Nat) (A1:Option Addr) (c1:Nat) (b1:List Nat) (A4:Option Addr) (c4:Nat) (b4:List Nat) (A5:Option Addr) (c5:Nat) (b5:List Nat) (A6:Option Addr) (c6:Nat) (b6:List Nat) (A7:Option Addr) (c7:Nat) (b7:List Nat),us=[.slice A0 x.book.length c0,.slice A1 x.schedule.length c1,.int .i64 x.every,.int .i64 x.at_,.slice A4 x.net.agents.length c4,.slice A5 x.origins.length c5,.slice A6 x.breaks.length c6,.slice A7 x.points.length c7]∧bs=b0++b1++b4++b5++b6++b7∧T1 w (.sl x.book.length (x.book.flatMap aB.enc)) b0 (.slice A0 x.book.length c0)∧x.book.length≤c0∧c0≤maxLen∧T1 w (.sl x.schedule.length (x.schedule.flatMap aQ)) b1 (.slice A1 x.schedule.length c1)∧x.schedule.length≤c1∧c1≤maxLen∧T1 w (.sl x.net.agents.length (x.net.agents.flatMap aj.enc)) b4 (.slice A4 x.net.agents.length c4)∧x.net.agents.length≤c4∧c4≤maxLen∧T1 w (.sl x.origins.length (x.origins.flatMap aG.enc)) b5 (.slice A5 x.origins.length c5)∧x.origins.length≤c5∧c5≤maxLen∧T1 w (.sl x.breaks.length (x.breaks.flatMap aU.enc)) b6 (.slice A6 x.breaks.length c6)∧x.breaks.length≤c6∧c6≤maxLen∧T1 w (.sl x.points.length (x.points.flatMap ay.enc)) b7 (.slice A7 x.points.length c7)∧x.points.length≤c7∧c7≤maxLen:=by
 unfold aO.enc at h0;obtain⟨A0,c0,b0,r0,u0,rfl,rfl,t0,l0,m0,h1⟩:=TN.fV h0;obtain⟨A1,c1,b1,r1,u1,rfl,rfl,t1,l1,m1,h2⟩:=TN.fV h1;obtain⟨u2,rfl,h3⟩:=TN.fJ h2;obtain⟨u3,rfl,h4⟩:=TN.fJ h3;obtain⟨A4,c4,b4,r4,u4,rfl,rfl,t4,l4,m4,h5⟩:=TN.fV h4;obtain⟨A5,c5,b5,r5,u5,rfl,rfl,t5,l5,m5,h6⟩:=TN.fV h5;obtain⟨A6,c6,b6,r6,u6,rfl,rfl,t6,l6,m6,h7⟩:=TN.fV h6;obtain⟨A7,c7,b7,r7,u7,rfl,rfl,t7,l7,m7,h8⟩:=TN.fV h7;obtain⟨rfl,rfl⟩:=TN.end_ h8;exact⟨A0,c0,b0,A1,c1,b1,A4,c4,b4,A5,c5,b5,A6,c6,b6,A7,c7,b7,rfl,by simp,t0,l0,m0,t1,l1,m1,t4,l4,m4,t5,l5,m5,t6,l6,m6,t7,l7,m7⟩
theorem aO.qU{w:World}{x:aO}{A0 c0 b0}(t0:T1 w (.sl x.book.length (x.book.flatMap aB.enc)) b0 (.slice A0 x.book.length c0)){A1 c1 b1}(t1:T1 w (.sl x.schedule.length (x.schedule.flatMap aQ)) b1 (.slice A1 x.schedule.length c1)){A4 c4 b4}(t4:T1 w (.sl x.net.agents.length (x.net.agents.flatMap aj.enc)) b4 (.slice A4 x.net.agents.length c4)){A5 c5 b5}(t5:T1 w (.sl x.origins.length (x.origins.flatMap aG.enc)) b5 (.slice A5 x.origins.length c5)){A6 c6 b6}(t6:T1 w (.sl x.breaks.length (x.breaks.flatMap aU.enc)) b6 (.slice A6 x.breaks.length c6)){A7 c7 b7}(t7:T1 w (.sl x.points.length (x.points.flatMap ay.enc)) b7 (.slice A7 x.points.length c7)):TN w x.enc (b0++b1++b4++b5++b6++b7) [.slice A0 x.book.length c0,.slice A1 x.schedule.length c1,.int .i64 x.every,.int .i64 x.at_,.slice A4 x.net.agents.length c4,.slice A5 x.origins.length c5,.slice A6 x.breaks.length c6,.slice A7 x.points.length c7]:=by
 have h:=(show TN w [.sl x.book.length (x.book.flatMap aB.enc),.sl x.schedule.length (x.schedule.flatMap aQ),.v (.int .i64 x.every),.v (.int .i64 x.at_),.sl x.net.agents.length (x.net.agents.flatMap aj.enc),.sl x.origins.length (x.origins.flatMap aG.enc),.sl x.breaks.length (x.breaks.flatMap aU.enc),.sl x.points.length (x.points.flatMap ay.enc)] _ _ from TN.kg t0 (TN.kg t1 (TN.jR rfl (TN.jR rfl (TN.kg t4 (TN.kg t5 (TN.kg t6 (TN.kg t7 (TN.done)))))))))
 try simp only[List.append_nil]at h
 unfold aO.enc
 first|exact h|simpa only[List.append_assoc]using h
theorem aO.mo{w:World}{xs:List aO}{bs:List Nat}{A:Option Addr}{n n' c:Nat}(h:T1 w (.sl n (xs.flatMap aO.enc)) bs (.slice A n' c))(hm:xs.length=n){k:Nat}(hk:k<n):
  ∃(b off:Nat) (x:aO) (A0:Option Addr) (c0:Nat) (b0:List Nat) (A1:Option Addr) (c1:Nat) (b1:List Nat) (A4:Option Addr) (c4:Nat) (b4:List Nat) (A5:Option Addr) (c5:Nat) (b5:List Nat) (A6:Option Addr) (c6:Nat) (b6:List Nat) (A7:Option Addr) (c7:Nat) (b7:List Nat),A=some ⟨b,off,none⟩∧b<w.heap.size∧Hid (xs[k]? =some x)∧w.cell? ⟨b,off+k*8,none⟩=some (.slice A0 x.book.length c0)∧w.cell? ⟨b,off+k*8+1,none⟩=some (.slice A1 x.schedule.length c1)∧w.cell? ⟨b,off+k*8+2,none⟩=some (.int .i64 x.every)∧w.cell? ⟨b,off+k*8+3,none⟩=some (.int .i64 x.at_)∧w.cell? ⟨b,off+k*8+4,none⟩=some (.slice A4 x.net.agents.length c4)∧w.cell? ⟨b,off+k*8+5,none⟩=some (.slice A5 x.origins.length c5)∧w.cell? ⟨b,off+k*8+6,none⟩=some (.slice A6 x.breaks.length c6)∧w.cell? ⟨b,off+k*8+7,none⟩=some (.slice A7 x.points.length c7)∧T1 w (.sl x.book.length (x.book.flatMap aB.enc)) b0 (.slice A0 x.book.length c0)∧x.book.length≤c0∧c0≤maxLen∧T1 w (.sl x.schedule.length (x.schedule.flatMap aQ)) b1 (.slice A1 x.schedule.length c1)∧x.schedule.length≤c1∧c1≤maxLen∧T1 w (.sl x.net.agents.length (x.net.agents.flatMap aj.enc)) b4 (.slice A4 x.net.agents.length c4)∧x.net.agents.length≤c4∧c4≤maxLen∧T1 w (.sl x.origins.length (x.origins.flatMap aG.enc)) b5 (.slice A5 x.origins.length c5)∧x.origins.length≤c5∧c5≤maxLen∧T1 w (.sl x.breaks.length (x.breaks.flatMap aU.enc)) b6 (.slice A6 x.breaks.length c6)∧x.breaks.length≤c6∧c6≤maxLen∧T1 w (.sl x.points.length (x.points.flatMap ay.enc)) b7 (.slice A7 x.points.length c7)∧x.points.length≤c7∧c7≤maxLen:=by
 obtain⟨_,b,off,p1,p2,p3,us,hA,_,hb,hc,ht⟩:=T1.at_ aO.aK h hm hk;obtain⟨A0,c0,b0,A1,c1,b1,A4,c4,b4,A5,c5,b5,A6,c6,b6,A7,c7,b7,rfl,_,t0,l0,m0,t1,l1,m1,t4,l4,m4,t5,l5,m5,t6,l6,m6,t7,l7,m7⟩:=aO.us ht;exact⟨b,off,xs[k],A0,c0,b0,A1,c1,b1,A4,c4,b4,A5,c5,b5,A6,c6,b6,A7,c7,b7,hA,hb,List.getElem?_eq_getElem (hm▸hk),hc 0 _ rfl,hc 1 _ rfl,hc 2 _ rfl,hc 3 _ rfl,hc 4 _ rfl,hc 5 _ rfl,hc 6 _ rfl,hc 7 _ rfl,t0,l0,m0,t1,l1,m1,t4,l4,m4,t5,l5,m5,t6,l6,m6,t7,l7,m7⟩
theorem aO.xk{x y:aO}(h0:x.book=y.book)(h1:x.schedule=y.schedule)(h2:x.every=y.every)(h3:x.at_=y.at_)(h4:x.net=y.net)(h5:x.origins=y.origins)(h6:x.breaks=y.breaks)(h7:x.points=y.points):x=y:=by
 cases x;cases y;simp_all
def aO.wt(x:aO):Nat:=nD aB.wt x.book+nD (fun _=>0) x.schedule+x.net.wt+nD (fun _=>0) x.origins+nD (fun _=>0) x.breaks+nD ay.wt x.points
def aO.small(x:aO):Prop:=(x.book.length≤1048576∧∀y∈x.book,aB.small y)∧(x.schedule.length≤1048576)∧(x.net.small)∧(x.origins.length≤1048576∧∀y∈x.origins,aG.small y)∧(x.breaks.length≤1048576∧∀y∈x.breaks,aU.small y)∧(x.points.length≤1048576∧∀y∈x.points,ay.small y)
theorem au.pt{w:World}{x:au}{b o bs}(h:bX w b o x.enc bs):Kn w b (o) (.int .i64 x.agent)∧Kn w b (o+1) (.int .i64 x.slot):=by
 obtain⟨hlt,us,hc,ht⟩:=h;obtain⟨rfl,rfl⟩:=au.us ht;exact⟨hc.always hlt 0 _ rfl,hc.always hlt 1 _ rfl⟩
theorem aj.pt{w:World}{x:aj}{b o bs}(h:bX w b o x.enc bs):∃(A3:Option Addr) (c3:Nat) (b3:List Nat) (A4:Option Addr) (c4:Nat) (b4:List Nat),Kn w b (o) (.int .i64 x.kind)∧Kn w b (o+1) (.int .i64 x.level)∧Kn w b (o+2) (.int .i64 x.value)∧Kn w b (o+3) (.slice A3 x.data.length c3)∧Kn w b (o+4) (.slice A4 x.ports.length c4)∧T1 w (.sl x.data.length (x.data.flatMap aQ)) b3 (.slice A3 x.data.length c3)∧T1 w (.sl x.ports.length (x.ports.flatMap au.enc)) b4 (.slice A4 x.ports.length c4):=by
 obtain⟨hlt,us,hc,ht⟩:=h;obtain⟨A3,c3,b3,A4,c4,b4,rfl,rfl,t3,l3,m3,t4,l4,m4⟩:=aj.us ht;exact⟨_,_,_,_,_,_,hc.always hlt 0 _ rfl,hc.always hlt 1 _ rfl,hc.always hlt 2 _ rfl,hc.always hlt 3 _ rfl,hc.always hlt 4 _ rfl,t3,t4⟩
theorem aB.pt{w:World}{x:aB}{b o bs}(h:bX w b o x.enc bs):∃(A0:Option Addr) (c0:Nat) (b0:List Nat),Kn w b (o) (.slice A0 x.agents.length c0)∧T1 w (.sl x.agents.length (x.agents.flatMap aj.enc)) b0 (.slice A0 x.agents.length c0):=by
 obtain⟨hlt,us,hc,ht⟩:=h;obtain⟨A0,c0,b0,rfl,rfl,t0,l0,m0⟩:=aB.us ht;exact⟨_,_,_,hc.always hlt 0 _ rfl,t0⟩
theorem aG.pt{w:World}{x:aG}{b o bs}(h:bX w b o x.enc bs):Kn w b (o) (.int .i64 x.step)∧Kn w b (o+1) (.int .i64 x.def_)∧Kn w b (o+2) (.int .i64 x.source):=by
 obtain⟨hlt,us,hc,ht⟩:=h;obtain⟨rfl,rfl⟩:=aG.us ht;exact⟨hc.always hlt 0 _ rfl,hc.always hlt 1 _ rfl,hc.always hlt 2 _ rfl⟩
theorem aU.pt{w:World}{x:aU}{b o bs}(h:bX w b o x.enc bs):Kn w b (o) (.int .i64 x.kind)∧Kn w b (o+1) (.int .i64 x.value):=by
 obtain⟨hlt,us,hc,ht⟩:=h;obtain⟨rfl,rfl⟩:=aU.us ht;exact⟨hc.always hlt 0 _ rfl,hc.always hlt 1 _ rfl⟩
theorem ay.pt{w:World}{x:ay}{b o bs}(h:bX w b o x.enc bs):∃(A1:Option Addr) (c1:Nat) (b1:List Nat) (A2:Option Addr) (c2:Nat) (b2:List Nat),Kn w b (o) (.int .i64 x.at_)∧Kn w b (o+1) (.slice A1 x.net.agents.length c1)∧Kn w b (o+2) (.slice A2 x.origins.length c2)∧T1 w (.sl x.net.agents.length (x.net.agents.flatMap aj.enc)) b1 (.slice A1 x.net.agents.length c1)∧T1 w (.sl x.origins.length (x.origins.flatMap aG.enc)) b2 (.slice A2 x.origins.length c2):=by
 obtain⟨hlt,us,hc,ht⟩:=h;obtain⟨A1,c1,b1,A2,c2,b2,rfl,rfl,t1,l1,m1,t2,l2,m2⟩:=ay.us ht;exact⟨_,_,_,_,_,_,hc.always hlt 0 _ rfl,hc.always hlt 1 _ rfl,hc.always hlt 2 _ rfl,t1,t2⟩
theorem aO.pt{w:World}{x:aO}{b o bs}(h:bX w b o x.enc bs):∃(A0:Option Addr) (c0:Nat) (b0:List Nat) (A1:Option Addr) (c1:Nat) (b1:List Nat) (A4:Option Addr) (c4:Nat) (b4:List Nat) (A5:Option Addr) (c5:Nat) (b5:List Nat) (A6:Option Addr) (c6:Nat) (b6:List Nat) (A7:Option Addr) (c7:Nat) (b7:List Nat),Kn w b (o) (.slice A0 x.book.length c0)∧Kn w b (o+1) (.slice A1 x.schedule.length c1)∧Kn w b (o+2) (.int .i64 x.every)∧Kn w b (o+3) (.int .i64 x.at_)∧Kn w b (o+4) (.slice A4 x.net.agents.length c4)∧Kn w b (o+5) (.slice A5 x.origins.length c5)∧Kn w b (o+6) (.slice A6 x.breaks.length c6)∧Kn w b (o+7) (.slice A7 x.points.length c7)∧T1 w (.sl x.book.length (x.book.flatMap aB.enc)) b0 (.slice A0 x.book.length c0)∧T1 w (.sl x.schedule.length (x.schedule.flatMap aQ)) b1 (.slice A1 x.schedule.length c1)∧T1 w (.sl x.net.agents.length (x.net.agents.flatMap aj.enc)) b4 (.slice A4 x.net.agents.length c4)∧T1 w (.sl x.origins.length (x.origins.flatMap aG.enc)) b5 (.slice A5 x.origins.length c5)∧T1 w (.sl x.breaks.length (x.breaks.flatMap aU.enc)) b6 (.slice A6 x.breaks.length c6)∧T1 w (.sl x.points.length (x.points.flatMap ay.enc)) b7 (.slice A7 x.points.length c7):=by
 obtain⟨hlt,us,hc,ht⟩:=h;obtain⟨A0,c0,b0,A1,c1,b1,A4,c4,b4,A5,c5,b5,A6,c6,b6,A7,c7,b7,rfl,rfl,t0,l0,m0,t1,l1,m1,t4,l4,m4,t5,l5,m5,t6,l6,m6,t7,l7,m7⟩:=aO.us ht;exact⟨_,_,_,_,_,_,_,_,_,_,_,_,_,_,_,_,_,_,hc.always hlt 0 _ rfl,hc.always hlt 1 _ rfl,hc.always hlt 2 _ rfl,hc.always hlt 3 _ rfl,hc.always hlt 4 _ rfl,hc.always hlt 5 _ rfl,hc.always hlt 6 _ rfl,hc.always hlt 7 _ rfl,t0,t1,t4,t5,t6,t7⟩
theorem au.J2{w:World}{x:au}{b bs}(h:bX w b 0 x.enc bs):Kn w b 0 (.int .i64 x.agent)∧Kn w b 1 (.int .i64 x.slot):=by
 have:=au.pt h;simpa only[Nat.zero_add]using this
theorem aj.J2{w:World}{x:aj}{b bs}(h:bX w b 0 x.enc bs):∃(A3:Option Addr) (c3:Nat) (b3:List Nat) (A4:Option Addr) (c4:Nat) (b4:List Nat),Kn w b 0 (.int .i64 x.kind)∧Kn w b 1 (.int .i64 x.level)∧Kn w b 2 (.int .i64 x.value)∧Kn w b 3 (.slice A3 x.data.length c3)∧Kn w b 4 (.slice A4 x.ports.length c4)∧T1 w (.sl x.data.length (x.data.flatMap aQ)) b3 (.slice A3 x.data.length c3)∧T1 w (.sl x.ports.length (x.ports.flatMap au.enc)) b4 (.slice A4 x.ports.length c4):=by
 have:=aj.pt h;simpa only[Nat.zero_add]using this
theorem aB.J2{w:World}{x:aB}{b bs}(h:bX w b 0 x.enc bs):∃(A0:Option Addr) (c0:Nat) (b0:List Nat),Kn w b 0 (.slice A0 x.agents.length c0)∧T1 w (.sl x.agents.length (x.agents.flatMap aj.enc)) b0 (.slice A0 x.agents.length c0):=by
 have:=aB.pt h;simpa only[Nat.zero_add]using this
theorem aG.J2{w:World}{x:aG}{b bs}(h:bX w b 0 x.enc bs):Kn w b 0 (.int .i64 x.step)∧Kn w b 1 (.int .i64 x.def_)∧Kn w b 2 (.int .i64 x.source):=by
 have:=aG.pt h;simpa only[Nat.zero_add]using this
theorem aU.J2{w:World}{x:aU}{b bs}(h:bX w b 0 x.enc bs):Kn w b 0 (.int .i64 x.kind)∧Kn w b 1 (.int .i64 x.value):=by
 have:=aU.pt h;simpa only[Nat.zero_add]using this
theorem ay.J2{w:World}{x:ay}{b bs}(h:bX w b 0 x.enc bs):∃(A1:Option Addr) (c1:Nat) (b1:List Nat) (A2:Option Addr) (c2:Nat) (b2:List Nat),Kn w b 0 (.int .i64 x.at_)∧Kn w b 1 (.slice A1 x.net.agents.length c1)∧Kn w b 2 (.slice A2 x.origins.length c2)∧T1 w (.sl x.net.agents.length (x.net.agents.flatMap aj.enc)) b1 (.slice A1 x.net.agents.length c1)∧T1 w (.sl x.origins.length (x.origins.flatMap aG.enc)) b2 (.slice A2 x.origins.length c2):=by
 have:=ay.pt h;simpa only[Nat.zero_add]using this
theorem aO.J2{w:World}{x:aO}{b bs}(h:bX w b 0 x.enc bs):∃(A0:Option Addr) (c0:Nat) (b0:List Nat) (A1:Option Addr) (c1:Nat) (b1:List Nat) (A4:Option Addr) (c4:Nat) (b4:List Nat) (A5:Option Addr) (c5:Nat) (b5:List Nat) (A6:Option Addr) (c6:Nat) (b6:List Nat) (A7:Option Addr) (c7:Nat) (b7:List Nat),Kn w b 0 (.slice A0 x.book.length c0)∧Kn w b 1 (.slice A1 x.schedule.length c1)∧Kn w b 2 (.int .i64 x.every)∧Kn w b 3 (.int .i64 x.at_)∧Kn w b 4 (.slice A4 x.net.agents.length c4)∧Kn w b 5 (.slice A5 x.origins.length c5)∧Kn w b 6 (.slice A6 x.breaks.length c6)∧Kn w b 7 (.slice A7 x.points.length c7)∧T1 w (.sl x.book.length (x.book.flatMap aB.enc)) b0 (.slice A0 x.book.length c0)∧T1 w (.sl x.schedule.length (x.schedule.flatMap aQ)) b1 (.slice A1 x.schedule.length c1)∧T1 w (.sl x.net.agents.length (x.net.agents.flatMap aj.enc)) b4 (.slice A4 x.net.agents.length c4)∧T1 w (.sl x.origins.length (x.origins.flatMap aG.enc)) b5 (.slice A5 x.origins.length c5)∧T1 w (.sl x.breaks.length (x.breaks.flatMap aU.enc)) b6 (.slice A6 x.breaks.length c6)∧T1 w (.sl x.points.length (x.points.flatMap ay.enc)) b7 (.slice A7 x.points.length c7):=by
 have:=aO.pt h;simpa only[Nat.zero_add]using this
end Go.Tr
namespace Go.Tr
def au.cells(p:au):List Value:=[.int .i64 p.agent,.int .i64 p.slot]
end Go.Tr
namespace Go.Tr
open Go Go.RowKit
theorem _root_.Go.Calls.q{P:Program}{f:FuncId}{args:Array Value}{W:World}{v:Value}(h:Calls P f args W fun e w'=>e=.returned v∧W=w'):Calls P f args W fun e w'=>e=.returned v∧Ext W w':=
 h.mono fun _ _ ⟨a,b⟩=>⟨a,b▸Below.refl _ _⟩
def bJ(k p:Int):Int:=if k==9 then p-1 else 0
def fieldsOf(a:aj):Int:=bJ a.kind a.ports.length
def gy(n:Int):Bool:=dH n 0 23
def lG(n:Int):Bool:=dH n (-2147483648) 2147483647
def gQ(n:Int):Bool:=dH n 1 6
def dN(l:List Int)(k:Nat):Int:=l.getD k 0
theorem Lx{l:List Int}{k:Nat}{x:Int}(h:Hid (l[k]? =some x)):dN l k=x:=by unfold dN;rw[List.getD_eq_getElem?_getD,h.out];rfl
def ig(l:List Int):Bool:=bM l.length fun k=>gy (dN l k)
def cB(a:aj):Bool:=
 if a.kind==6 then((a.data.length:Int)==0)&&lG a.value
 else if a.kind==7 then((a.data.length:Int)==0)&&gQ a.value
 else if a.kind==8 then((a.data.length:Int)==1)&&gQ a.value&&lG (dN a.data 0)
 else if a.kind==9 then((a.data.length:Int)==0)&&dH a.value 0 3
 else if a.kind==12 then((a.data.length:Int)==0)&&gy a.value
 else if a.kind==10 then a.value==0&&dH a.data.length 1 4&&ig a.data
 else if a.kind==11 then a.value==0&&((a.data.length:Int)==2)&&ig a.data
 else a.value==0&&((a.data.length:Int)==0)
def bC(a:aj):Bool:=decide (0<aW a.kind (fieldsOf a))&&(a.ports.length:Int)==aW a.kind (fieldsOf a)&&aV a.kind a.level&&cB a
def Me:aj:=⟨0,0,0,[],[]⟩
def Om:au:=⟨0,0⟩
def dz(l:List aj)(k:Nat):aj:=l.getD k Me
def fu(l:List au)(k:Nat):au:=l.getD k Om
theorem BF{α:Type}{l:List α}{k:Nat}{x d:α}(h:Hid (l[k]? =some x)):l.getD k d=x:=by rw[List.getD_eq_getElem?_getD,h.out];rfl
theorem gD{l:List aj}{k:Nat}{x:aj}(h:Hid (l[k]? =some x)):dz l k=x:=BF h
theorem mY{l:List au}{k:Nat}{x:au}(h:Hid (l[k]? =some x)):fu l k=x:=BF h
def dA(l:List aj)(k:Nat):Bool:=bC (dz l k)&&((dz l k).kind==1)==((k:Int)==0)
def bN(l:List aj):Bool:=dH l.length 1 600&&bM l.length (dA l)
def dL(l:List aj)(p:au):Bool:=dH p.agent 0 ((l.length:Int)-1)&&dH p.slot 0 (((dz l p.agent.toNat).ports.length:Int)-1)
def lI(l:List aj)(p:au):au:=fu (dz l p.agent.toNat).ports p.slot.toNat
noncomputable def kr(l:List aj)(me p:au):Bool:= !nK p me&&dL l p&&nK (lI l p) me
noncomputable def kP(l:List aj)(i:Nat):Bool:=bM (dz l i).ports.length fun k=>kr l ⟨i,k⟩ (fu (dz l i).ports k)
noncomputable def netB(n:aB):Bool:=bN n.agents&&bM n.agents.length (kP n.agents)
theorem Eh{l:List aj}{p:au}(h:dL l p=true):∃(i k:Nat) (a:aj) (q:au),p=⟨i,k⟩∧i<l.length∧Hid (l[i]? =some a)∧k<a.ports.length∧Hid (a.ports[k]? =some q)∧lI l p=q:=by
 unfold dL at h;rw[Bool.and_eq_true]at h;obtain⟨h1,h2⟩:=h;have h1:=eH h1;have h2:=eH h2;obtain⟨pa,ps⟩:=p;simp only at h1 h2;obtain⟨i,rfl⟩:=Int.eq_ofNat_of_zero_le h1.1;obtain⟨k,rfl⟩:=Int.eq_ofNat_of_zero_le h2.1;have hi:i<l.length:=by omega
 have ha:Hid (l[i]? =some l[i]):=List.getElem?_eq_getElem hi;rw[Int.toNat_natCast,gD ha]at h2;have hk:k<(l[i]).ports.length:=by omega
 have hq:Hid ((l[i]).ports[k]? =some (l[i]).ports[k]):=List.getElem?_eq_getElem hk;refine⟨i,k,l[i],_,rfl,hi,ha,hk,hq,?_⟩;unfold lI;rw[Int.toNat_natCast,Int.toNat_natCast,gD ha,mY hq]
def Qz:aB:=⟨[]⟩
def iT(l:List aB)(k:Nat):aB:=l.getD k Qz
theorem DR{l:List aB}{k:Nat}{x:aB}(h:Hid (l[k]? =some x)):iT l k=x:=BF h
noncomputable def bookB(l:List aB):Bool:=decide ((l.length:Int)≤24)&&bM l.length fun k=>netB (iT l k)
end Go.Tr
