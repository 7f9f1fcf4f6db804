
/- Plain arithmetic: 32-bit wraps, the operators of the language, bounds as Bools. No program in it. -/
import Derived.Test.YtjijpkphkicoeaaGreatSc
set_option linter.unusedSimpArgs false
set_option linter.unusedVariables false
namespace Go.Tr
open Go Go.RowKit
def inB(n lo hi:Int):Bool:=decide (lo≤n)&&decide (n≤hi)
theorem inB_t{n lo hi:Int}(h:inB n lo hi=true):lo≤n∧n≤hi:=by simpa[inB]using h
theorem Mh{n lo hi:Int}(h:inB n lo hi=false):n<lo∨hi<n:=by
 simp only[inB,Bool.and_eq_false_iff,decide_eq_false_iff_not]at h;omega
theorem rE{n lo hi:Int}(h1:lo≤n)(h2:n≤hi):inB n lo hi=true:=by simp[inB,h1,h2]
theorem wW{n lo hi:Int}(h:n<lo∨hi<n):inB n lo hi=false:=by
 simp only[inB,Bool.and_eq_false_iff,decide_eq_false_iff_not];omega
def iM(k:Int):Bool:=inB k 1 12
def aU(k:Int):Bool:=iM k&&k !=1&&k !=5&&k !=6
def tC(n:Int):Bool:=inB n 0 8
def bf(k l:Int):Bool:=iM k&&(l==0||(aU k&&tC l))
def lH(k:Int):Bool:=k==3||k==7||k==8||k==10||k==11
def yg(t k l:Int):Bool:=tC t&&bf k l&&(k==6||k==12||(aU k&&decide (t<l)))
def rule(ka la kb lb:Int):Int:=
 if ka=5 then 4
 else if ka=4 then(if kb==4&&la==lb then 2 else if yg la kb lb then 3 else 0)
 else if ka=2 then(if kb==3&&la==lb then 1 else 0)
 else if ka=6 then(if kb==7||kb==8 then 5 else if kb==11 then 6 else 0)
 else if ka=9 then(if kb==10 then 6 else 0)
 else if ka=12 then(if lH kb then 7 else 0)
 else 0
def jl(ka la kb lb:Int):Bool:=bf ka la&&bf kb lb&&ka !=1&&kb !=1
def aC(ka la kb lb:Int):Int:=if jl ka la kb lb then(if rule ka la kb lb=0 then(if rule kb lb ka la=0 then 8 else rule kb lb ka la)else rule ka la kb lb)else 0
def aG(ka la kb lb:Int):Int:=if jl ka la kb lb then(if rule ka la kb lb=0 then(if rule kb lb ka la=0 then 0 else 2)else 1)else 0
def bC(k f:Int):Int:=
 if k=9 then(if inB f 0 3 then f+1 else 0)else if f=0 then
  (if k=1∨k=5∨k=6∨k=12 then 1 else if k=8∨k=10∨k=11 then 2 else if k=2∨k=3∨k=4∨k=7 then 3 else 0)else 0
theorem zm{k:Int}(h:iM k=true):k=1∨k=2∨k=3∨k=4∨k=5∨k=6∨k=7∨k=8∨k=9∨k=10∨k=11∨k=12:=by
 have:=inB_t h;omega
theorem yc{k l:Int}(h:iM k=false):bf k l=false:=by simp[bf,h]
theorem kG{k:Int}(h:iM k=false):aU k=false:=by simp[aU,h]
theorem qE(ka la kb lb:Int):0≤rule ka la kb lb∧rule ka la kb lb≤7:=by
 unfold rule;(repeat' split)<;>omega
theorem IX{i k:Int}(h:yg i 4 k=true):i<k:=by
 simp only[yg,Bool.and_eq_true,Bool.or_eq_true]at h;obtain⟨_,h⟩:=h;rcases h with(h|h)|h
 ·exact absurd h (by decide)
 ·exact absurd h (by decide)
 ·simpa using h.2
theorem EM{i b k:Int}(h:yg i b k=true):b≠5:=by
 rintro rfl;simp[yg,aU]at h
theorem KS{ka la kb lb:Int}(h1:rule ka la kb lb≠0)(h2:rule kb lb ka la≠0):rule ka la kb lb=rule kb lb ka la∧(rule ka la kb lb=2∨rule ka la kb lb=4):=by
 by_cases a5:ka=5
 ·subst a5
  by_cases b5:kb=5
  ·subst b5;simp[rule]
  ·exfalso;revert h2;unfold rule;rw[if_neg b5];split
   ·rw[if_neg (by simp),if_neg (fun h=>EM h rfl)];simp
   ·simp[lH]
 by_cases b5:kb=5
 ·subst b5;exfalso;revert h1;unfold rule;rw[if_neg a5];split
  ·rw[if_neg (by simp),if_neg (fun h=>EM h rfl)];simp
  ·simp[lH]
 by_cases a4:ka=4
 ·subst a4
  by_cases b4:kb=4
  ·subst b4
   by_cases e:la=lb
   ·subst e;simp[rule]
   ·exfalso;have e':¬lb=la:=fun h=>e h.symm
    simp[rule,e,e']at h1 h2;have:=IX h1;have:=IX h2;omega
  ·exfalso;revert h2;unfold rule;simp[b5,b4,lH]
 by_cases b4:kb=4
 ·subst b4;exfalso;revert h1;unfold rule;simp[a5,a4,lH]
 exfalso;revert h1 h2;unfold rule;simp only[a5,b5,a4,b4,if_false]
 by_cases a2:ka=2
 ·subst a2;simp[lH]
  try (intro h _;subst h;simp)
 by_cases a6:ka=6
 ·subst a6;simp[lH]
  try
   split
   ·rename_i h;rcases h with rfl|rfl<;>simp
   ·split
    ·rename_i h;subst h;simp
    ·simp
 by_cases a9:ka=9
 ·subst a9;simp[lH]
  try (intro h;subst h;simp)
 by_cases a12:ka=12
 ·subst a12;intro h
  have hc:lH kb=true:=by
   cases hc:lH kb with
   |true=>rfl
   |false=>simp[hc]at h
  simp only[lH,Bool.or_eq_true,beq_iff_eq]at hc;rcases hc with(((rfl|rfl)|rfl)|rfl)|rfl<;>simp
 ·simp[a2,a6,a9,a12]
theorem KI(ka la kb lb:Int):jl ka la kb lb=jl kb lb ka la:=by
 simp only[jl];cases bf ka la<;>cases bf kb lb<;>cases (ka !=1)<;>cases (kb !=1)<;>rfl
theorem tV(ka la kb lb:Int):aC kb lb ka la=aC ka la kb lb:=by
 unfold aC;rw[KI kb lb ka la]
 by_cases h1:rule ka la kb lb=0<;>by_cases h2:rule kb lb ka la=0
 ·simp[h1,h2]
 ·simp[h1,h2]
 ·simp[h1,h2]
 ·simp[h1,h2,(KS h1 h2).1]
structure ak where
 agent:Int
 slot:Int
def ak.enc(x:ak):List D:=[.v (.int .i64 x.agent),.v (.int .i64 x.slot)]
theorem ak.aN(x:ak):x.enc.length=2:=rfl
theorem ak.us{w:World}{x:ak}{bs us}(h0:TN w x.enc bs us):us=[.int .i64 x.agent,.int .i64 x.slot]∧bs=[]:=by
 unfold ak.enc at h0;obtain⟨u0,rfl,h1⟩:=TN.gU h0;obtain⟨u1,rfl,h2⟩:=TN.gU h1;obtain⟨rfl,rfl⟩:=TN.end_ h2;exact⟨rfl,rfl⟩
theorem ak.wI{w:World}{x:ak}:TN w x.enc ([]) [.int .i64 x.agent,.int .i64 x.slot]:=by
 have h:=(show TN w [.v (.int .i64 x.agent),.v (.int .i64 x.slot)] _ _ from TN.kZ rfl (TN.kZ rfl (TN.done)))
 try simp only[List.append_nil]at h
 unfold ak.enc
 first|exact h|simpa only[List.append_assoc]using h
theorem ak.qQ{w:World}{xs:List ak}{bs:List Nat}{A:Option Addr}{n n' c:Nat}(h:T1 w (.sl n (xs.flatMap ak.enc)) bs (.slice A n' c))(hm:xs.length=n){k:Nat}(hk:k<n):
  ∃(b off:Nat) (x:ak),A=some ⟨b,off,none⟩∧b<w.heap.size∧Hid (xs[k]? =some x)∧w.cell? ⟨b,off+k*2,none⟩=some (.int .i64 x.agent)∧w.cell? ⟨b,off+k*2+1,none⟩=some (.int .i64 x.slot):=by
 obtain⟨_,b,off,p1,p2,p3,us,hA,_,hb,hc,ht⟩:=T1.at_ ak.aN h hm hk;obtain⟨rfl,_⟩:=ak.us ht;exact⟨b,off,xs[k],hA,hb,List.getElem?_eq_getElem (hm▸hk),hc 0 _ rfl,hc 1 _ rfl⟩
theorem ak.AJ{x y:ak}(h0:x.agent=y.agent)(h1:x.slot=y.slot):x=y:=by
 cases x;cases y;simp_all
def ak.wt(_x:ak):Nat:=0
def ak.small(_x:ak):Prop:=True
structure GAgent where
 kind:Int
 level:Int
 value:Int
 data:(List Int)
 ports:(List ak)
def GAgent.enc(x:GAgent):List D:=[.v (.int .i64 x.kind),.v (.int .i64 x.level),.v (.int .i64 x.value),.sl x.data.length (x.data.flatMap intE),.sl x.ports.length (x.ports.flatMap ak.enc)]
theorem GAgent.aN(x:GAgent):x.enc.length=5:=rfl
theorem GAgent.us{w:World}{x:GAgent}{bs us}(h0:TN w x.enc bs us):∃(A3:Option Addr) (c3:Nat) (b3:List Nat) (A4:Option Addr) (c4:Nat) (b4:List Nat),us=[.int .i64 x.kind,.int .i64 x.level,.int .i64 x.value,.slice A3 x.data.length c3,.slice A4 x.ports.length c4]∧bs=b3++b4∧T1 w (.sl x.data.length (x.data.flatMap intE)) b3 (.slice A3 x.data.length c3)∧x.data.length≤c3∧c3≤maxLen∧T1 w (.sl x.ports.length (x.ports.flatMap ak.enc)) b4 (.slice A4 x.ports.length c4)∧x.ports.length≤c4∧c4≤maxLen:=by
 unfold GAgent.enc at h0;obtain⟨u0,rfl,h1⟩:=TN.gU h0;obtain⟨u1,rfl,h2⟩:=TN.gU h1;obtain⟨u2,rfl,h3⟩:=TN.gU h2;obtain⟨A3,c3,b3,r3,u3,rfl,rfl,t3,l3,m3,h4⟩:=TN.jc h3;obtain⟨A4,c4,b4,r4,u4,rfl,rfl,t4,l4,m4,h5⟩:=TN.jc h4;obtain⟨rfl,rfl⟩:=TN.end_ h5;exact⟨A3,c3,b3,A4,c4,b4,rfl,by simp,t3,l3,m3,t4,l4,m4⟩
theorem GAgent.wI{w:World}{x:GAgent}{A3 c3 b3}(t3:T1 w (.sl x.data.length (x.data.flatMap intE)) b3 (.slice A3 x.data.length c3)){A4 c4 b4}(t4:T1 w (.sl x.ports.length (x.ports.flatMap ak.enc)) b4 (.slice A4 x.ports.length c4)):TN w x.enc (b3++b4) [.int .i64 x.kind,.int .i64 x.level,.int .i64 x.value,.slice A3 x.data.length c3,.slice A4 x.ports.length c4]:=by
 have h:=(show TN w [.v (.int .i64 x.kind),.v (.int .i64 x.level),.v (.int .i64 x.value),.sl x.data.length (x.data.flatMap intE),.sl x.ports.length (x.ports.flatMap ak.enc)] _ _ from TN.kZ rfl (TN.kZ rfl (TN.kZ rfl (TN.sl_mk t3 (TN.sl_mk t4 (TN.done))))))
 try simp only[List.append_nil]at h
 unfold GAgent.enc
 first|exact h|simpa only[List.append_assoc]using h
theorem GAgent.qQ{w:World}{xs:List GAgent}{bs:List Nat}{A:Option Addr}{n n' c:Nat}(h:T1 w (.sl n (xs.flatMap GAgent.enc)) bs (.slice A n' c))(hm:xs.length=n){k:Nat}(hk:k<n):
  ∃(b off:Nat) (x:GAgent) (A3:Option Addr) (c3:Nat) (b3:List Nat) (A4:Option Addr) (c4:Nat) (b4:List Nat),A=some ⟨b,off,none⟩∧b<w.heap.size∧Hid (xs[k]? =some x)∧w.cell? ⟨b,off+k*5,none⟩=some (.int .i64 x.kind)∧w.cell? ⟨b,off+k*5+1,none⟩=some (.int .i64 x.level)∧w.cell? ⟨b,off+k*5+2,none⟩=some (.int .i64 x.value)∧w.cell? ⟨b,off+k*5+3,none⟩=some (.slice A3 x.data.length c3)∧w.cell? ⟨b,off+k*5+4,none⟩=some (.slice A4 x.ports.length c4)∧T1 w (.sl x.data.length (x.data.flatMap intE)) b3 (.slice A3 x.data.length c3)∧x.data.length≤c3∧c3≤maxLen∧T1 w (.sl x.ports.length (x.ports.flatMap ak.enc)) b4 (.slice A4 x.ports.length c4)∧x.ports.length≤c4∧c4≤maxLen:=by
 obtain⟨_,b,off,p1,p2,p3,us,hA,_,hb,hc,ht⟩:=T1.at_ GAgent.aN h hm hk;obtain⟨A3,c3,b3,A4,c4,b4,rfl,_,t3,l3,m3,t4,l4,m4⟩:=GAgent.us ht;exact⟨b,off,xs[k],A3,c3,b3,A4,c4,b4,hA,hb,List.getElem?_eq_getElem (hm▸hk),hc 0 _ rfl,hc 1 _ rfl,hc 2 _ rfl,hc 3 _ rfl,hc 4 _ rfl,t3,l3,m3,t4,l4,m4⟩
theorem GAgent.AJ{x y:GAgent}(h0:x.kind=y.kind)(h1:x.level=y.level)(h2:x.value=y.value)(h3:x.data=y.data)(h4:x.ports=y.ports):x=y:=by
 cases x;cases y;simp_all
def GAgent.wt(x:GAgent):Nat:=wtl (fun _=>0) x.data+wtl (fun _=>0) x.ports
def GAgent.small(x:GAgent):Prop:=(x.data.length≤1048576)∧(x.ports.length≤1048576∧∀y∈x.ports,ak.small y)
structure GNet where
 agents:(List GAgent)
def GNet.enc(x:GNet):List D:=[.sl x.agents.length (x.agents.flatMap GAgent.enc)]
theorem GNet.aN(x:GNet):x.enc.length=1:=rfl
theorem GNet.us{w:World}{x:GNet}{bs us}(h0:TN w x.enc bs us):∃(A0:Option Addr) (c0:Nat) (b0:List Nat),us=[.slice A0 x.agents.length c0]∧bs=b0∧T1 w (.sl x.agents.length (x.agents.flatMap GAgent.enc)) b0 (.slice A0 x.agents.length c0)∧x.agents.length≤c0∧c0≤maxLen:=by
 unfold GNet.enc at h0;obtain⟨A0,c0,b0,r0,u0,rfl,rfl,t0,l0,m0,h1⟩:=TN.jc h0;obtain⟨rfl,rfl⟩:=TN.end_ h1;exact⟨A0,c0,b0,rfl,by simp,t0,l0,m0⟩
theorem GNet.wI{w:World}{x:GNet}{A0 c0 b0}(t0:T1 w (.sl x.agents.length (x.agents.flatMap GAgent.enc)) b0 (.slice A0 x.agents.length c0)):TN w x.enc (b0) [.slice A0 x.agents.length c0]:=by
 have h:=(show TN w [.sl x.agents.length (x.agents.flatMap GAgent.enc)] _ _ from TN.sl_mk t0 (TN.done))
 try simp only[List.append_nil]at h
 unfold GNet.enc
 first|exact h|simpa only[List.append_assoc]using h
theorem GNet.qQ{w:World}{xs:List GNet}{bs:List Nat}{A:Option Addr}{n n' c:Nat}(h:T1 w (.sl n (xs.flatMap GNet.enc)) bs (.slice A n' c))(hm:xs.length=n){k:Nat}(hk:k<n):
  ∃(b off:Nat) (x:GNet) (A0:Option Addr) (c0:Nat) (b0:List Nat),A=some ⟨b,off,none⟩∧b<w.heap.size∧Hid (xs[k]? =some x)∧w.cell? ⟨b,off+k,none⟩=some (.slice A0 x.agents.length c0)∧T1 w (.sl x.agents.length (x.agents.flatMap GAgent.enc)) b0 (.slice A0 x.agents.length c0)∧x.agents.length≤c0∧c0≤maxLen:=by
 obtain⟨_,b,off,p1,p2,p3,us,hA,_,hb,hc,ht⟩:=T1.at_ GNet.aN h hm hk;obtain⟨A0,c0,b0,rfl,_,t0,l0,m0⟩:=GNet.us ht;exact⟨b,off,xs[k],A0,c0,b0,hA,hb,List.getElem?_eq_getElem (hm▸hk),by simpa using hc 0 _ rfl,t0,l0,m0⟩
theorem GNet.AJ{x y:GNet}(h0:x.agents=y.agents):x=y:=by
 cases x;cases y;simp_all
def GNet.wt(x:GNet):Nat:=wtl GAgent.wt x.agents
def GNet.small(x:GNet):Prop:=(x.agents.length≤1048576∧∀y∈x.agents,GAgent.small y)
structure aD where
 step:Int
 def_:Int
 source:Int
def aD.enc(x:aD):List D:=[.v (.int .i64 x.step),.v (.int .i64 x.def_),.v (.int .i64 x.source)]
theorem aD.aN(x:aD):x.enc.length=3:=rfl
theorem aD.us{w:World}{x:aD}{bs us}(h0:TN w x.enc bs us):us=[.int .i64 x.step,.int .i64 x.def_,.int .i64 x.source]∧bs=[]:=by
 unfold aD.enc at h0;obtain⟨u0,rfl,h1⟩:=TN.gU h0;obtain⟨u1,rfl,h2⟩:=TN.gU h1;obtain⟨u2,rfl,h3⟩:=TN.gU h2;obtain⟨rfl,rfl⟩:=TN.end_ h3;exact⟨rfl,rfl⟩
theorem aD.wI{w:World}{x:aD}:TN w x.enc ([]) [.int .i64 x.step,.int .i64 x.def_,.int .i64 x.source]:=by
 have h:=(show TN w [.v (.int .i64 x.step),.v (.int .i64 x.def_),.v (.int .i64 x.source)] _ _ from TN.kZ rfl (TN.kZ rfl (TN.kZ rfl (TN.done))))
 try simp only[List.append_nil]at h
 unfold aD.enc
 first|exact h|simpa only[List.append_assoc]using h
theorem aD.qQ{w:World}{xs:List aD}{bs:List Nat}{A:Option Addr}{n n' c:Nat}(h:T1 w (.sl n (xs.flatMap aD.enc)) bs (.slice A n' c))(hm:xs.length=n){k:Nat}(hk:k<n):
  ∃(b off:Nat) (x:aD),A=some ⟨b,off,none⟩∧b<w.heap.size∧Hid (xs[k]? =some x)∧w.cell? ⟨b,off+k*3,none⟩=some (.int .i64 x.step)∧w.cell? ⟨b,off+k*3+1,none⟩=some (.int .i64 x.def_)∧w.cell? ⟨b,off+k*3+2,none⟩=some (.int .i64 x.source):=by
 obtain⟨_,b,off,p1,p2,p3,us,hA,_,hb,hc,ht⟩:=T1.at_ aD.aN h hm hk;obtain⟨rfl,_⟩:=aD.us ht;exact⟨b,off,xs[k],hA,hb,List.getElem?_eq_getElem (hm▸hk),hc 0 _ rfl,hc 1 _ rfl,hc 2 _ rfl⟩
theorem aD.AJ{x y:aD}(h0:x.step=y.step)(h1:x.def_=y.def_)(h2:x.source=y.source):x=y:=by
 cases x;cases y;simp_all
def aD.wt(_x:aD):Nat:=0
def aD.small(_x:aD):Prop:=True
structure aZ where
 kind:Int
 value:Int
def aZ.enc(x:aZ):List D:=[.v (.int .i64 x.kind),.v (.int .i64 x.value)]
theorem aZ.aN(x:aZ):x.enc.length=2:=rfl
theorem aZ.us{w:World}{x:aZ}{bs us}(h0:TN w x.enc bs us):us=[.int .i64 x.kind,.int .i64 x.value]∧bs=[]:=by
 unfold aZ.enc at h0;obtain⟨u0,rfl,h1⟩:=TN.gU h0;obtain⟨u1,rfl,h2⟩:=TN.gU h1;obtain⟨rfl,rfl⟩:=TN.end_ h2;exact⟨rfl,rfl⟩
theorem aZ.wI{w:World}{x:aZ}:TN w x.enc ([]) [.int .i64 x.kind,.int .i64 x.value]:=by
 have h:=(show TN w [.v (.int .i64 x.kind),.v (.int .i64 x.value)] _ _ from TN.kZ rfl (TN.kZ rfl (TN.done)))
 try simp only[List.append_nil]at h
 unfold aZ.enc
 first|exact h|simpa only[List.append_assoc]using h
theorem aZ.qQ{w:World}{xs:List aZ}{bs:List Nat}{A:Option Addr}{n n' c:Nat}(h:T1 w (.sl n (xs.flatMap aZ.enc)) bs (.slice A n' c))(hm:xs.length=n){k:Nat}(hk:k<n):
  ∃(b off:Nat) (x:aZ),A=some ⟨b,off,none⟩∧b<w.heap.size∧Hid (xs[k]? =some x)∧w.cell? ⟨b,off+k*2,none⟩=some (.int .i64 x.kind)∧w.cell? ⟨b,off+k*2+1,none⟩=some (.int .i64 x.value):=by
 obtain⟨_,b,off,p1,p2,p3,us,hA,_,hb,hc,ht⟩:=T1.at_ aZ.aN h hm hk;obtain⟨rfl,_⟩:=aZ.us ht;exact⟨b,off,xs[k],hA,hb,List.getElem?_eq_getElem (hm▸hk),hc 0 _ rfl,hc 1 _ rfl⟩
theorem aZ.AJ{x y:aZ}(h0:x.kind=y.kind)(h1:x.value=y.value):x=y:=by
 cases x;cases y;simp_all
def aZ.wt(_x:aZ):Nat:=0
def aZ.small(_x:aZ):Prop:=True
structure au where
 at_:Int
 net:GNet
 origins:(List aD)
def au.enc(x:au):List D:=[.v (.int .i64 x.at_),.sl x.net.agents.length (x.net.agents.flatMap GAgent.enc),.sl x.origins.length (x.origins.flatMap aD.enc)]
theorem au.aN(x:au):x.enc.length=3:=rfl
theorem au.us{w:World}{x:au}{bs us}(h0:TN w x.enc bs us):∃(A1:Option Addr) (c1:Nat) (b1:List Nat) (A2:Option Addr) (c2:Nat) (b2:List Nat),us=[.int .i64 x.at_,.slice A1 x.net.agents.length c1,.slice A2 x.origins.length c2]∧bs=b1++b2∧T1 w (.sl x.net.agents.length (x.net.agents.flatMap GAgent.enc)) b1 (.slice A1 x.net.agents.length c1)∧x.net.agents.length≤c1∧c1≤maxLen∧T1 w (.sl x.origins.length (x.origins.flatMap aD.enc)) b2 (.slice A2 x.origins.length c2)∧x.origins.length≤c2∧c2≤maxLen:=by
 unfold au.enc at h0;obtain⟨u0,rfl,h1⟩:=TN.gU h0;obtain⟨A1,c1,b1,r1,u1,rfl,rfl,t1,l1,m1,h2⟩:=TN.jc h1;obtain⟨A2,c2,b2,r2,u2,rfl,rfl,t2,l2,m2,h3⟩:=TN.jc h2;obtain⟨rfl,rfl⟩:=TN.end_ h3;exact⟨A1,c1,b1,A2,c2,b2,rfl,by simp,t1,l1,m1,t2,l2,m2⟩
theorem au.wI{w:World}{x:au}{A1 c1 b1}(t1:T1 w (.sl x.net.agents.length (x.net.agents.flatMap GAgent.enc)) b1 (.slice A1 x.net.agents.length c1)){A2 c2 b2}(t2:T1 w (.sl x.origins.length (x.origins.flatMap aD.enc)) b2 (.slice A2 x.origins.length c2)):TN w x.enc (b1++b2) [.int .i64 x.at_,.slice A1 x.net.agents.length c1,.slice A2 x.origins.length c2]:=by
 have h:=(show TN w [.v (.int .i64 x.at_),.sl x.net.agents.length (x.net.agents.flatMap GAgent.enc),.sl x.origins.length (x.origins.flatMap aD.enc)] _ _ from TN.kZ rfl (TN.sl_mk t1 (TN.sl_mk t2 (TN.done))))
 try simp only[List.append_nil]at h
 unfold au.enc
 first|exact h|simpa only[List.append_assoc]using h
theorem au.qQ{w:World}{xs:List au}{bs:List Nat}{A:Option Addr}{n n' c:Nat}(h:T1 w (.sl n (xs.flatMap au.enc)) bs (.slice A n' c))(hm:xs.length=n){k:Nat}(hk:k<n):
  ∃(b off:Nat) (x:au) (A1:Option Addr) (c1:Nat) (b1:List Nat) (A2:Option Addr) (c2:Nat) (b2:List Nat),A=some ⟨b,off,none⟩∧b<w.heap.size∧Hid (xs[k]? =some x)∧w.cell? ⟨b,off+k*3,none⟩=some (.int .i64 x.at_)∧w.cell? ⟨b,off+k*3+1,none⟩=some (.slice A1 x.net.agents.length c1)∧w.cell? ⟨b,off+k*3+2,none⟩=some (.slice A2 x.origins.length c2)∧T1 w (.sl x.net.agents.length (x.net.agents.flatMap GAgent.enc)) b1 (.slice A1 x.net.agents.length c1)∧x.net.agents.length≤c1∧c1≤maxLen∧T1 w (.sl x.origins.length (x.origins.flatMap aD.enc)) b2 (.slice A2 x.origins.length c2)∧x.origins.length≤c2∧c2≤maxLen:=by
 obtain⟨_,b,off,p1,p2,p3,us,hA,_,hb,hc,ht⟩:=T1.at_ au.aN h hm hk;obtain⟨A1,c1,b1,A2,c2,b2,rfl,_,t1,l1,m1,t2,l2,m2⟩:=au.us ht;exact⟨b,off,xs[k],A1,c1,b1,A2,c2,b2,hA,hb,List.getElem?_eq_getElem (hm▸hk),hc 0 _ rfl,hc 1 _ rfl,hc 2 _ rfl,t1,l1,m1,t2,l2,m2⟩
theorem au.AJ{x y:au}(h0:x.at_=y.at_)(h1:x.net=y.net)(h2:x.origins=y.origins):x=y:=by
 cases x;cases y;simp_all
def au.wt(x:au):Nat:=x.net.wt+wtl (fun _=>0) x.origins
def au.small(x:au):Prop:=(x.net.small)∧(x.origins.length≤1048576∧∀y∈x.origins,aD.small y)
structure aP where
 book:(List GNet)
 schedule:(List Int)
 every:Int
 at_:Int
 net:GNet
 origins:(List aD)
 breaks:(List aZ)
 points:(List au)
def aP.enc(x:aP):List D:=[.sl x.book.length (x.book.flatMap GNet.enc),.sl x.schedule.length (x.schedule.flatMap intE),.v (.int .i64 x.every),.v (.int .i64 x.at_),.sl x.net.agents.length (x.net.agents.flatMap GAgent.enc),.sl x.origins.length (x.origins.flatMap aD.enc),.sl x.breaks.length (x.breaks.flatMap aZ.enc),.sl x.points.length (x.points.flatMap au.enc)]
theorem aP.aN(x:aP):x.enc.length=8:=rfl
theorem aP.us{w:World}{x:aP}{bs us}(h0:TN w x.enc bs us):∃(A0:Option Addr) (c0:Nat) (b0:List Nat) (A1:Option Addr) (c1:Nat) (b1:List Nat) (A4:Option Addr) (c4:Nat) (b4:List Nat) (A5:Option Addr) (c5:Nat) (b5:List Nat) (A6:Option Addr) (c6:Nat) (b6:List Nat) (A7:Option Addr) (c7:Nat) (b7:List Nat),us=[.slice A0 x.book.length c0,.slice A1 x.schedule.length c1,.int .i64 x.every,.int .i64 x.at_,.slice A4 x.net.agents.length c4,.slice A5 x.origins.length c5,.slice A6 x.breaks.length c6,.slice A7 x.points.length c7]∧bs=b0++b1++b4++b5++b6++b7∧T1 w (.sl x.book.length (x.book.flatMap GNet.enc)) b0 (.slice A0 x.book.length c0)∧x.book.length≤c0∧c0≤maxLen∧T1 w (.sl x.schedule.length (x.schedule.flatMap intE)) b1 (.slice A1 x.schedule.length c1)∧x.schedule.length≤c1∧c1≤maxLen∧T1 w (.sl x.net.agents.length (x.net.agents.flatMap GAgent.enc)) b4 (.slice A4 x.net.agents.length c4)∧x.net.agents.length≤c4∧c4≤maxLen∧T1 w (.sl x.origins.length (x.origins.flatMap aD.enc)) b5 (.slice A5 x.origins.length c5)∧x.origins.length≤c5∧c5≤maxLen∧T1 w (.sl x.breaks.length (x.breaks.flatMap aZ.enc)) b6 (.slice A6 x.breaks.length c6)∧x.breaks.length≤c6∧c6≤maxLen∧T1 w (.sl x.points.length (x.points.flatMap au.enc)) b7 (.slice A7 x.points.length c7)∧x.points.length≤c7∧c7≤maxLen:=by
 unfold aP.enc at h0;obtain⟨A0,c0,b0,r0,u0,rfl,rfl,t0,l0,m0,h1⟩:=TN.jc h0;obtain⟨A1,c1,b1,r1,u1,rfl,rfl,t1,l1,m1,h2⟩:=TN.jc h1;obtain⟨u2,rfl,h3⟩:=TN.gU h2;obtain⟨u3,rfl,h4⟩:=TN.gU h3;obtain⟨A4,c4,b4,r4,u4,rfl,rfl,t4,l4,m4,h5⟩:=TN.jc h4;obtain⟨A5,c5,b5,r5,u5,rfl,rfl,t5,l5,m5,h6⟩:=TN.jc h5;obtain⟨A6,c6,b6,r6,u6,rfl,rfl,t6,l6,m6,h7⟩:=TN.jc h6;obtain⟨A7,c7,b7,r7,u7,rfl,rfl,t7,l7,m7,h8⟩:=TN.jc h7;obtain⟨rfl,rfl⟩:=TN.end_ h8;exact⟨A0,c0,b0,A1,c1,b1,A4,c4,b4,A5,c5,b5,A6,c6,b6,A7,c7,b7,rfl,by simp,t0,l0,m0,t1,l1,m1,t4,l4,m4,t5,l5,m5,t6,l6,m6,t7,l7,m7⟩
theorem aP.wI{w:World}{x:aP}{A0 c0 b0}(t0:T1 w (.sl x.book.length (x.book.flatMap GNet.enc)) b0 (.slice A0 x.book.length c0)){A1 c1 b1}(t1:T1 w (.sl x.schedule.length (x.schedule.flatMap intE)) b1 (.slice A1 x.schedule.length c1)){A4 c4 b4}(t4:T1 w (.sl x.net.agents.length (x.net.agents.flatMap GAgent.enc)) b4 (.slice A4 x.net.agents.length c4)){A5 c5 b5}(t5:T1 w (.sl x.origins.length (x.origins.flatMap aD.enc)) b5 (.slice A5 x.origins.length c5)){A6 c6 b6}(t6:T1 w (.sl x.breaks.length (x.breaks.flatMap aZ.enc)) b6 (.slice A6 x.breaks.length c6)){A7 c7 b7}(t7:T1 w (.sl x.points.length (x.points.flatMap au.enc)) b7 (.slice A7 x.points.length c7)):TN w x.enc (b0++b1++b4++b5++b6++b7) [.slice A0 x.book.length c0,.slice A1 x.schedule.length c1,.int .i64 x.every,.int .i64 x.at_,.slice A4 x.net.agents.length c4,.slice A5 x.origins.length c5,.slice A6 x.breaks.length c6,.slice A7 x.points.length c7]:=by
 have h:=(show TN w [.sl x.book.length (x.book.flatMap GNet.enc),.sl x.schedule.length (x.schedule.flatMap intE),.v (.int .i64 x.every),.v (.int .i64 x.at_),.sl x.net.agents.length (x.net.agents.flatMap GAgent.enc),.sl x.origins.length (x.origins.flatMap aD.enc),.sl x.breaks.length (x.breaks.flatMap aZ.enc),.sl x.points.length (x.points.flatMap au.enc)] _ _ from TN.sl_mk t0 (TN.sl_mk t1 (TN.kZ rfl (TN.kZ rfl (TN.sl_mk t4 (TN.sl_mk t5 (TN.sl_mk t6 (TN.sl_mk t7 (TN.done)))))))))
 try simp only[List.append_nil]at h
 unfold aP.enc
 first|exact h|simpa only[List.append_assoc]using h
theorem aP.qQ{w:World}{xs:List aP}{bs:List Nat}{A:Option Addr}{n n' c:Nat}(h:T1 w (.sl n (xs.flatMap aP.enc)) bs (.slice A n' c))(hm:xs.length=n){k:Nat}(hk:k<n):
  ∃(b off:Nat) (x:aP) (A0:Option Addr) (c0:Nat) (b0:List Nat) (A1:Option Addr) (c1:Nat) (b1:List Nat) (A4:Option Addr) (c4:Nat) (b4:List Nat) (A5:Option Addr) (c5:Nat) (b5:List Nat) (A6:Option Addr) (c6:Nat) (b6:List Nat) (A7:Option Addr) (c7:Nat) (b7:List Nat),A=some ⟨b,off,none⟩∧b<w.heap.size∧Hid (xs[k]? =some x)∧w.cell? ⟨b,off+k*8,none⟩=some (.slice A0 x.book.length c0)∧w.cell? ⟨b,off+k*8+1,none⟩=some (.slice A1 x.schedule.length c1)∧w.cell? ⟨b,off+k*8+2,none⟩=some (.int .i64 x.every)∧w.cell? ⟨b,off+k*8+3,none⟩=some (.int .i64 x.at_)∧w.cell? ⟨b,off+k*8+4,none⟩=some (.slice A4 x.net.agents.length c4)∧w.cell? ⟨b,off+k*8+5,none⟩=some (.slice A5 x.origins.length c5)∧w.cell? ⟨b,off+k*8+6,none⟩=some (.slice A6 x.breaks.length c6)∧w.cell? ⟨b,off+k*8+7,none⟩=some (.slice A7 x.points.length c7)∧T1 w (.sl x.book.length (x.book.flatMap GNet.enc)) b0 (.slice A0 x.book.length c0)∧x.book.length≤c0∧c0≤maxLen∧T1 w (.sl x.schedule.length (x.schedule.flatMap intE)) b1 (.slice A1 x.schedule.length c1)∧x.schedule.length≤c1∧c1≤maxLen∧T1 w (.sl x.net.agents.length (x.net.agents.flatMap GAgent.enc)) b4 (.slice A4 x.net.agents.length c4)∧x.net.agents.length≤c4∧c4≤maxLen∧T1 w (.sl x.origins.length (x.origins.flatMap aD.enc)) b5 (.slice A5 x.origins.length c5)∧x.origins.length≤c5∧c5≤maxLen∧T1 w (.sl x.breaks.length (x.breaks.flatMap aZ.enc)) b6 (.slice A6 x.breaks.length c6)∧x.breaks.length≤c6∧c6≤maxLen∧T1 w (.sl x.points.length (x.points.flatMap au.enc)) b7 (.slice A7 x.points.length c7)∧x.points.length≤c7∧c7≤maxLen:=by
 obtain⟨_,b,off,p1,p2,p3,us,hA,_,hb,hc,ht⟩:=T1.at_ aP.aN h hm hk;obtain⟨A0,c0,b0,A1,c1,b1,A4,c4,b4,A5,c5,b5,A6,c6,b6,A7,c7,b7,rfl,_,t0,l0,m0,t1,l1,m1,t4,l4,m4,t5,l5,m5,t6,l6,m6,t7,l7,m7⟩:=aP.us ht;exact⟨b,off,xs[k],A0,c0,b0,A1,c1,b1,A4,c4,b4,A5,c5,b5,A6,c6,b6,A7,c7,b7,hA,hb,List.getElem?_eq_getElem (hm▸hk),hc 0 _ rfl,hc 1 _ rfl,hc 2 _ rfl,hc 3 _ rfl,hc 4 _ rfl,hc 5 _ rfl,hc 6 _ rfl,hc 7 _ rfl,t0,l0,m0,t1,l1,m1,t4,l4,m4,t5,l5,m5,t6,l6,m6,t7,l7,m7⟩
theorem aP.AJ{x y:aP}(h0:x.book=y.book)(h1:x.schedule=y.schedule)(h2:x.every=y.every)(h3:x.at_=y.at_)(h4:x.net=y.net)(h5:x.origins=y.origins)(h6:x.breaks=y.breaks)(h7:x.points=y.points):x=y:=by
 cases x;cases y;simp_all
def aP.wt(x:aP):Nat:=wtl GNet.wt x.book+wtl (fun _=>0) x.schedule+x.net.wt+wtl (fun _=>0) x.origins+wtl (fun _=>0) x.breaks+wtl au.wt x.points
def aP.small(x:aP):Prop:=(x.book.length≤1048576∧∀y∈x.book,GNet.small y)∧(x.schedule.length≤1048576)∧(x.net.small)∧(x.origins.length≤1048576∧∀y∈x.origins,aD.small y)∧(x.breaks.length≤1048576∧∀y∈x.breaks,aZ.small y)∧(x.points.length≤1048576∧∀y∈x.points,au.small y)
theorem ak.pt{w:World}{x:ak}{b o bs}(h:dI w b o x.enc bs):Kn w b (o) (.int .i64 x.agent)∧Kn w b (o+1) (.int .i64 x.slot):=by
 obtain⟨hlt,us,hc,ht⟩:=h;obtain⟨rfl,rfl⟩:=ak.us ht;exact⟨hc.always hlt 0 _ rfl,hc.always hlt 1 _ rfl⟩
theorem GAgent.pt{w:World}{x:GAgent}{b o bs}(h:dI w b o x.enc bs):∃(A3:Option Addr) (c3:Nat) (b3:List Nat) (A4:Option Addr) (c4:Nat) (b4:List Nat),Kn w b (o) (.int .i64 x.kind)∧Kn w b (o+1) (.int .i64 x.level)∧Kn w b (o+2) (.int .i64 x.value)∧Kn w b (o+3) (.slice A3 x.data.length c3)∧Kn w b (o+4) (.slice A4 x.ports.length c4)∧T1 w (.sl x.data.length (x.data.flatMap intE)) b3 (.slice A3 x.data.length c3)∧T1 w (.sl x.ports.length (x.ports.flatMap ak.enc)) b4 (.slice A4 x.ports.length c4):=by
 obtain⟨hlt,us,hc,ht⟩:=h;obtain⟨A3,c3,b3,A4,c4,b4,rfl,rfl,t3,l3,m3,t4,l4,m4⟩:=GAgent.us ht;exact⟨_,_,_,_,_,_,hc.always hlt 0 _ rfl,hc.always hlt 1 _ rfl,hc.always hlt 2 _ rfl,hc.always hlt 3 _ rfl,hc.always hlt 4 _ rfl,t3,t4⟩
theorem GNet.pt{w:World}{x:GNet}{b o bs}(h:dI w b o x.enc bs):∃(A0:Option Addr) (c0:Nat) (b0:List Nat),Kn w b (o) (.slice A0 x.agents.length c0)∧T1 w (.sl x.agents.length (x.agents.flatMap GAgent.enc)) b0 (.slice A0 x.agents.length c0):=by
 obtain⟨hlt,us,hc,ht⟩:=h;obtain⟨A0,c0,b0,rfl,rfl,t0,l0,m0⟩:=GNet.us ht;exact⟨_,_,_,hc.always hlt 0 _ rfl,t0⟩
theorem aD.pt{w:World}{x:aD}{b o bs}(h:dI w b o x.enc bs):Kn w b (o) (.int .i64 x.step)∧Kn w b (o+1) (.int .i64 x.def_)∧Kn w b (o+2) (.int .i64 x.source):=by
 obtain⟨hlt,us,hc,ht⟩:=h;obtain⟨rfl,rfl⟩:=aD.us ht;exact⟨hc.always hlt 0 _ rfl,hc.always hlt 1 _ rfl,hc.always hlt 2 _ rfl⟩
theorem aZ.pt{w:World}{x:aZ}{b o bs}(h:dI w b o x.enc bs):Kn w b (o) (.int .i64 x.kind)∧Kn w b (o+1) (.int .i64 x.value):=by
 obtain⟨hlt,us,hc,ht⟩:=h;obtain⟨rfl,rfl⟩:=aZ.us ht;exact⟨hc.always hlt 0 _ rfl,hc.always hlt 1 _ rfl⟩
theorem au.pt{w:World}{x:au}{b o bs}(h:dI w b o x.enc bs):∃(A1:Option Addr) (c1:Nat) (b1:List Nat) (A2:Option Addr) (c2:Nat) (b2:List Nat),Kn w b (o) (.int .i64 x.at_)∧Kn w b (o+1) (.slice A1 x.net.agents.length c1)∧Kn w b (o+2) (.slice A2 x.origins.length c2)∧T1 w (.sl x.net.agents.length (x.net.agents.flatMap GAgent.enc)) b1 (.slice A1 x.net.agents.length c1)∧T1 w (.sl x.origins.length (x.origins.flatMap aD.enc)) b2 (.slice A2 x.origins.length c2):=by
 obtain⟨hlt,us,hc,ht⟩:=h;obtain⟨A1,c1,b1,A2,c2,b2,rfl,rfl,t1,l1,m1,t2,l2,m2⟩:=au.us ht;exact⟨_,_,_,_,_,_,hc.always hlt 0 _ rfl,hc.always hlt 1 _ rfl,hc.always hlt 2 _ rfl,t1,t2⟩
theorem aP.pt{w:World}{x:aP}{b o bs}(h:dI w b o x.enc bs):∃(A0:Option Addr) (c0:Nat) (b0:List Nat) (A1:Option Addr) (c1:Nat) (b1:List Nat) (A4:Option Addr) (c4:Nat) (b4:List Nat) (A5:Option Addr) (c5:Nat) (b5:List Nat) (A6:Option Addr) (c6:Nat) (b6:List Nat) (A7:Option Addr) (c7:Nat) (b7:List Nat),Kn w b (o) (.slice A0 x.book.length c0)∧Kn w b (o+1) (.slice A1 x.schedule.length c1)∧Kn w b (o+2) (.int .i64 x.every)∧Kn w b (o+3) (.int .i64 x.at_)∧Kn w b (o+4) (.slice A4 x.net.agents.length c4)∧Kn w b (o+5) (.slice A5 x.origins.length c5)∧Kn w b (o+6) (.slice A6 x.breaks.length c6)∧Kn w b (o+7) (.slice A7 x.points.length c7)∧T1 w (.sl x.book.length (x.book.flatMap GNet.enc)) b0 (.slice A0 x.book.length c0)∧T1 w (.sl x.schedule.length (x.schedule.flatMap intE)) b1 (.slice A1 x.schedule.length c1)∧T1 w (.sl x.net.agents.length (x.net.agents.flatMap GAgent.enc)) b4 (.slice A4 x.net.agents.length c4)∧T1 w (.sl x.origins.length (x.origins.flatMap aD.enc)) b5 (.slice A5 x.origins.length c5)∧T1 w (.sl x.breaks.length (x.breaks.flatMap aZ.enc)) b6 (.slice A6 x.breaks.length c6)∧T1 w (.sl x.points.length (x.points.flatMap au.enc)) b7 (.slice A7 x.points.length c7):=by
 obtain⟨hlt,us,hc,ht⟩:=h;obtain⟨A0,c0,b0,A1,c1,b1,A4,c4,b4,A5,c5,b5,A6,c6,b6,A7,c7,b7,rfl,rfl,t0,l0,m0,t1,l1,m1,t4,l4,m4,t5,l5,m5,t6,l6,m6,t7,l7,m7⟩:=aP.us ht;exact⟨_,_,_,_,_,_,_,_,_,_,_,_,_,_,_,_,_,_,hc.always hlt 0 _ rfl,hc.always hlt 1 _ rfl,hc.always hlt 2 _ rfl,hc.always hlt 3 _ rfl,hc.always hlt 4 _ rfl,hc.always hlt 5 _ rfl,hc.always hlt 6 _ rfl,hc.always hlt 7 _ rfl,t0,t1,t4,t5,t6,t7⟩
theorem ak.KP{w:World}{x:ak}{b bs}(h:dI w b 0 x.enc bs):Kn w b 0 (.int .i64 x.agent)∧Kn w b 1 (.int .i64 x.slot):=by
 have:=ak.pt h;simpa only[Nat.zero_add]using this
theorem GAgent.KP{w:World}{x:GAgent}{b bs}(h:dI w b 0 x.enc bs):∃(A3:Option Addr) (c3:Nat) (b3:List Nat) (A4:Option Addr) (c4:Nat) (b4:List Nat),Kn w b 0 (.int .i64 x.kind)∧Kn w b 1 (.int .i64 x.level)∧Kn w b 2 (.int .i64 x.value)∧Kn w b 3 (.slice A3 x.data.length c3)∧Kn w b 4 (.slice A4 x.ports.length c4)∧T1 w (.sl x.data.length (x.data.flatMap intE)) b3 (.slice A3 x.data.length c3)∧T1 w (.sl x.ports.length (x.ports.flatMap ak.enc)) b4 (.slice A4 x.ports.length c4):=by
 have:=GAgent.pt h;simpa only[Nat.zero_add]using this
theorem GNet.KP{w:World}{x:GNet}{b bs}(h:dI w b 0 x.enc bs):∃(A0:Option Addr) (c0:Nat) (b0:List Nat),Kn w b 0 (.slice A0 x.agents.length c0)∧T1 w (.sl x.agents.length (x.agents.flatMap GAgent.enc)) b0 (.slice A0 x.agents.length c0):=by
 have:=GNet.pt h;simpa only[Nat.zero_add]using this
theorem aD.KP{w:World}{x:aD}{b bs}(h:dI w b 0 x.enc bs):Kn w b 0 (.int .i64 x.step)∧Kn w b 1 (.int .i64 x.def_)∧Kn w b 2 (.int .i64 x.source):=by
 have:=aD.pt h;simpa only[Nat.zero_add]using this
theorem aZ.KP{w:World}{x:aZ}{b bs}(h:dI w b 0 x.enc bs):Kn w b 0 (.int .i64 x.kind)∧Kn w b 1 (.int .i64 x.value):=by
 have:=aZ.pt h;simpa only[Nat.zero_add]using this
theorem au.KP{w:World}{x:au}{b bs}(h:dI w b 0 x.enc bs):∃(A1:Option Addr) (c1:Nat) (b1:List Nat) (A2:Option Addr) (c2:Nat) (b2:List Nat),Kn w b 0 (.int .i64 x.at_)∧Kn w b 1 (.slice A1 x.net.agents.length c1)∧Kn w b 2 (.slice A2 x.origins.length c2)∧T1 w (.sl x.net.agents.length (x.net.agents.flatMap GAgent.enc)) b1 (.slice A1 x.net.agents.length c1)∧T1 w (.sl x.origins.length (x.origins.flatMap aD.enc)) b2 (.slice A2 x.origins.length c2):=by
 have:=au.pt h;simpa only[Nat.zero_add]using this
theorem aP.KP{w:World}{x:aP}{b bs}(h:dI w b 0 x.enc bs):∃(A0:Option Addr) (c0:Nat) (b0:List Nat) (A1:Option Addr) (c1:Nat) (b1:List Nat) (A4:Option Addr) (c4:Nat) (b4:List Nat) (A5:Option Addr) (c5:Nat) (b5:List Nat) (A6:Option Addr) (c6:Nat) (b6:List Nat) (A7:Option Addr) (c7:Nat) (b7:List Nat),Kn w b 0 (.slice A0 x.book.length c0)∧Kn w b 1 (.slice A1 x.schedule.length c1)∧Kn w b 2 (.int .i64 x.every)∧Kn w b 3 (.int .i64 x.at_)∧Kn w b 4 (.slice A4 x.net.agents.length c4)∧Kn w b 5 (.slice A5 x.origins.length c5)∧Kn w b 6 (.slice A6 x.breaks.length c6)∧Kn w b 7 (.slice A7 x.points.length c7)∧T1 w (.sl x.book.length (x.book.flatMap GNet.enc)) b0 (.slice A0 x.book.length c0)∧T1 w (.sl x.schedule.length (x.schedule.flatMap intE)) b1 (.slice A1 x.schedule.length c1)∧T1 w (.sl x.net.agents.length (x.net.agents.flatMap GAgent.enc)) b4 (.slice A4 x.net.agents.length c4)∧T1 w (.sl x.origins.length (x.origins.flatMap aD.enc)) b5 (.slice A5 x.origins.length c5)∧T1 w (.sl x.breaks.length (x.breaks.flatMap aZ.enc)) b6 (.slice A6 x.breaks.length c6)∧T1 w (.sl x.points.length (x.points.flatMap au.enc)) b7 (.slice A7 x.points.length c7):=by
 have:=aP.pt h;simpa only[Nat.zero_add]using this
end Go.Tr
namespace Go.Tr
def ak.cells(p:ak):List Value:=[.int .i64 p.agent,.int .i64 p.slot]
end Go.Tr
namespace Go.Tr
open Go Go.RowKit
theorem _root_.Go.Calls.q{P:Program}{f:FuncId}{args:Array Value}{W:World}{v:Value}(h:Calls P f args W fun e w'=>e=.returned v∧W=w'):Calls P f args W fun e w'=>e=.returned v∧Ext W w':=
 h.mono fun _ _ ⟨a,b⟩=>⟨a,b▸Below.refl _ _⟩
def cB(k p:Int):Int:=if k==9 then p-1 else 0
def fieldsOf(a:GAgent):Int:=cB a.kind a.ports.length
def iF(n:Int):Bool:=inB n 0 23
def nJ(n:Int):Bool:=inB n (-2147483648) 2147483647
def iB(n:Int):Bool:=inB n 1 6
def bO(l:List Int)(k:Nat):Int:=l.getD k 0
theorem zh{l:List Int}{k:Nat}{x:Int}(h:Hid (l[k]? =some x)):bO l k=x:=by unfold bO;rw[List.getD_eq_getElem?_getD,h.out];rfl
def jd(l:List Int):Bool:=bR l.length fun k=>iF (bO l k)
def dL(a:GAgent):Bool:=
 if a.kind==6 then((a.data.length:Int)==0)&&nJ a.value
 else if a.kind==7 then((a.data.length:Int)==0)&&iB a.value
 else if a.kind==8 then((a.data.length:Int)==1)&&iB a.value&&nJ (bO a.data 0)
 else if a.kind==9 then((a.data.length:Int)==0)&&inB a.value 0 3
 else if a.kind==12 then((a.data.length:Int)==0)&&iF a.value
 else if a.kind==10 then a.value==0&&inB a.data.length 1 4&&jd a.data
 else if a.kind==11 then a.value==0&&((a.data.length:Int)==2)&&jd a.data
 else a.value==0&&((a.data.length:Int)==0)
def bL(a:GAgent):Bool:=decide (0<bC a.kind (fieldsOf a))&&(a.ports.length:Int)==bC a.kind (fieldsOf a)&&bf a.kind a.level&&dL a
def MI:GAgent:=⟨0,0,0,[],[]⟩
def Pb:ak:=⟨0,0⟩
def dV(l:List GAgent)(k:Nat):GAgent:=l.getD k MI
def gK(l:List ak)(k:Nat):ak:=l.getD k Pb
theorem Di{α:Type}{l:List α}{k:Nat}{x d:α}(h:Hid (l[k]? =some x)):l.getD k d=x:=by rw[List.getD_eq_getElem?_getD,h.out];rfl
theorem iG{l:List GAgent}{k:Nat}{x:GAgent}(h:Hid (l[k]? =some x)):dV l k=x:=Di h
theorem pW{l:List ak}{k:Nat}{x:ak}(h:Hid (l[k]? =some x)):gK l k=x:=Di h
def dW(l:List GAgent)(k:Nat):Bool:=bL (dV l k)&&((dV l k).kind==1)==((k:Int)==0)
def dw(l:List GAgent):Bool:=inB l.length 1 600&&bR l.length (dW l)
def eG(l:List GAgent)(p:ak):Bool:=inB p.agent 0 ((l.length:Int)-1)&&inB p.slot 0 (((dV l p.agent.toNat).ports.length:Int)-1)
def nM(l:List GAgent)(p:ak):ak:=gK (dV l p.agent.toNat).ports p.slot.toNat
noncomputable def lT(l:List GAgent)(me p:ak):Bool:= !eqb p me&&eG l p&&eqb (nM l p) me
noncomputable def mE(l:List GAgent)(i:Nat):Bool:=bR (dV l i).ports.length fun k=>lT l ⟨i,k⟩ (gK (dV l i).ports k)
noncomputable def eT(n:GNet):Bool:=dw n.agents&&bR n.agents.length (mE n.agents)
theorem FR{l:List GAgent}{p:ak}(h:eG l p=true):∃(i k:Nat) (a:GAgent) (q:ak),p=⟨i,k⟩∧i<l.length∧Hid (l[i]? =some a)∧k<a.ports.length∧Hid (a.ports[k]? =some q)∧nM l p=q:=by
 unfold eG at h;rw[Bool.and_eq_true]at h;obtain⟨h1,h2⟩:=h;have h1:=inB_t h1;have h2:=inB_t h2;obtain⟨pa,ps⟩:=p;simp only at h1 h2;obtain⟨i,rfl⟩:=Int.eq_ofNat_of_zero_le h1.1;obtain⟨k,rfl⟩:=Int.eq_ofNat_of_zero_le h2.1;have hi:i<l.length:=by omega
 have ha:Hid (l[i]? =some l[i]):=List.getElem?_eq_getElem hi;rw[Int.toNat_natCast,iG ha]at h2;have hk:k<(l[i]).ports.length:=by omega
 have hq:Hid ((l[i]).ports[k]? =some (l[i]).ports[k]):=List.getElem?_eq_getElem hk;refine⟨i,k,l[i],_,rfl,hi,ha,hk,hq,?_⟩;unfold nM;rw[Int.toNat_natCast,Int.toNat_natCast,iG ha,pW hq]
def Rn:GNet:=⟨[]⟩
def jK(l:List GNet)(k:Nat):GNet:=l.getD k Rn
theorem Fy{l:List GNet}{k:Nat}{x:GNet}(h:Hid (l[k]? =some x)):jK l k=x:=Di h
noncomputable def jB(l:List GNet):Bool:=decide ((l.length:Int)≤24)&&bR l.length fun k=>eT (jK l k)
def schedB(l:List Int):Bool:=decide ((l.length:Int)≤200)&&bR l.length fun k=>inB (bO l k) 0 600
end Go.Tr
