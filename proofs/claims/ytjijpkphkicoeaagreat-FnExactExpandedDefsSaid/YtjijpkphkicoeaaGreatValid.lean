
/- Plain arithmetic: 32-bit wraps, the operators of the language, bounds as Bools. No program in it. -/
import Derived.Test.YtjijpkphkicoeaaGreatShort
import Derived.Test.YtjijpkphkicoeaaGreatSc
set_option linter.unusedSimpArgs false
set_option linter.unusedVariables false
namespace Go.Tr
open Go Go.RowKit
def dX(n lo hi:Int):Bool:=decide (lo≤n)&&decide (n≤hi)
theorem iU{n lo hi:Int}(h:dX n lo hi=true):lo≤n∧n≤hi:=by simpa[dX]using h
theorem Ri{n lo hi:Int}(h:dX n lo hi=false):n<lo∨hi<n:=by
 simp only[dX,Bool.and_eq_false_iff,decide_eq_false_iff_not]at h;omega
theorem vY{n lo hi:Int}(h1:lo≤n)(h2:n≤hi):dX n lo hi=true:=by simp[dX,h1,h2]
theorem Ak{n lo hi:Int}(h:n<lo∨hi<n):dX n lo hi=false:=by
 simp only[dX,Bool.and_eq_false_iff,decide_eq_false_iff_not];omega
def kg(k:Int):Bool:=dX k 1 12
def bR(k:Int):Bool:=kg k&&k !=1&&k !=5&&k !=6
def xH(n:Int):Bool:=dX n 0 8
def cO(k l:Int):Bool:=kg k&&(l==0||(bR k&&xH l))
def oD(k:Int):Bool:=k==3||k==7||k==8||k==10||k==11
def Bz(t k l:Int):Bool:=xH t&&cO k l&&(k==6||k==12||(bR k&&decide (t<l)))
def rule(ka la kb lb:Int):Int:=
 if ka=5 then 4
 else if ka=4 then(if kb==4&&la==lb then 2 else if Bz la kb lb then 3 else 0)
 else if ka=2 then(if kb==3&&la==lb then 1 else 0)
 else if ka=6 then(if kb==7||kb==8 then 5 else if kb==11 then 6 else 0)
 else if ka=9 then(if kb==10 then 6 else 0)
 else if ka=12 then(if oD kb then 7 else 0)
 else 0
def kU(ka la kb lb:Int):Bool:=cO ka la&&cO kb lb&&ka !=1&&kb !=1
def aV(ka la kb lb:Int):Int:=if kU ka la kb lb then(if rule ka la kb lb=0 then(if rule kb lb ka la=0 then 8 else rule kb lb ka la)else rule ka la kb lb)else 0
def aZ(ka la kb lb:Int):Int:=if kU ka la kb lb then(if rule ka la kb lb=0 then(if rule kb lb ka la=0 then 0 else 2)else 1)else 0
def dz(k f:Int):Int:=
 if k=9 then(if dX f 0 3 then f+1 else 0)else if f=0 then
  (if k=1∨k=5∨k=6∨k=12 then 1 else if k=8∨k=10∨k=11 then 2 else if k=2∨k=3∨k=4∨k=7 then 3 else 0)else 0
theorem CY{k:Int}(h:kg k=true):k=1∨k=2∨k=3∨k=4∨k=5∨k=6∨k=7∨k=8∨k=9∨k=10∨k=11∨k=12:=by
 have:=iU h;omega
theorem Bv{k l:Int}(h:kg k=false):cO k l=false:=by simp[cO,h]
theorem ng{k:Int}(h:kg k=false):bR k=false:=by simp[bR,h]
theorem uV(ka la kb lb:Int):0≤rule ka la kb lb∧rule ka la kb lb≤7:=by
 unfold rule;(repeat' split)<;>omega
theorem M9{i k:Int}(h:Bz i 4 k=true):i<k:=by
 simp only[Bz,qD,Bool.or_eq_true]at h;obtain⟨_,h⟩:=h;rcases h with(h|h)|h
 ·exact absurd h (by decide)
 ·exact absurd h (by decide)
 ·simpa using h.2
theorem JD{i b k:Int}(h:Bz i b k=true):b≠5:=by
 rintro rfl;simp[Bz,bR]at h
theorem PK{ka la kb lb:Int}(h1:rule ka la kb lb≠0)(h2:rule kb lb ka la≠0):rule ka la kb lb=rule kb lb ka la∧(rule ka la kb lb=2∨rule ka la kb lb=4):=by
 by_cases a5:ka=5
 ·subst a5
  by_cases b5:kb=5
  ·subst b5;simp[rule]
  ·exfalso;revert h2;unfold rule;rw[if_neg b5];split
   ·rw[if_neg (by simp),if_neg (fun h=>JD h rfl)];simp
   ·simp[oD]
 by_cases b5:kb=5
 ·subst b5;exfalso;revert h1;unfold rule;rw[if_neg a5];split
  ·rw[if_neg (by simp),if_neg (fun h=>JD h rfl)];simp
  ·simp[oD]
 by_cases a4:ka=4
 ·subst a4
  by_cases b4:kb=4
  ·subst b4
   by_cases e:la=lb
   ·subst e;simp[rule]
   ·exfalso;have e':¬lb=la:=fun h=>e h.symm
    simp[rule,e,e']at h1 h2;have:=M9 h1;have:=M9 h2;omega
  ·exfalso;revert h2;unfold rule;simp[b5,b4,oD]
 by_cases b4:kb=4
 ·subst b4;exfalso;revert h1;unfold rule;simp[a5,a4,oD]
 exfalso;revert h1 h2;unfold rule;simp only[a5,b5,a4,b4,if_false]
 by_cases a2:ka=2
 ·subst a2;simp[oD]
  try (intro h _;subst h;simp)
 by_cases a6:ka=6
 ·subst a6;simp[oD]
  try
   split
   ·rename_i h;rcases h with rfl|rfl<;>simp
   ·split
    ·rename_i h;subst h;simp
    ·simp
 by_cases a9:ka=9
 ·subst a9;simp[oD]
  try (intro h;subst h;simp)
 by_cases a12:ka=12
 ·subst a12;intro h
  have hc:oD kb=true:=by
   cases hc:oD kb with
   |true=>rfl
   |false=>simp[hc]at h
  simp only[oD,Bool.or_eq_true,beq_iff_eq]at hc;rcases hc with(((rfl|rfl)|rfl)|rfl)|rfl<;>simp
 ·simp[a2,a6,a9,a12]
theorem Pv(ka la kb lb:Int):kU ka la kb lb=kU kb lb ka la:=by
 simp only[kU];cases cO ka la<;>cases cO kb lb<;>cases (ka !=1)<;>cases (kb !=1)<;>rfl
theorem xU(ka la kb lb:Int):aV kb lb ka la=aV ka la kb lb:=by
 unfold aV;rw[Pv kb lb ka la]
 by_cases h1:rule ka la kb lb=0<;>by_cases h2:rule kb lb ka la=0
 ·simp[h1,h2]
 ·simp[h1,h2]
 ·simp[h1,h2]
 ·simp[h1,h2,(PK h1 h2).1]
structure aG where
 agent:Int
 slot:Int
def aG.enc(x:aG):List D:=[.v (.int .i64 x.agent),.v (.int .i64 x.slot)]
theorem aG.bF(x:aG):x.enc.length=2:=rfl
theorem aG.us{w:World}{x:aG}{bs us}(h0:TN w x.enc bs us):us=[.int .i64 x.agent,.int .i64 x.slot]∧bs=[]:=by
 unfold aG.enc at h0;obtain⟨u0,rfl,h1⟩:=TN.jH h0;obtain⟨u1,rfl,h2⟩:=TN.jH h1;obtain⟨rfl,rfl⟩:=TN.end_ h2;exact⟨rfl,rfl⟩
theorem aG.zU{w:World}{x:aG}:TN w x.enc ([]) [.int .i64 x.agent,.int .i64 x.slot]:=by
 have h:=(show TN w [.v (.int .i64 x.agent),.v (.int .i64 x.slot)] _ _ from TN.nW rfl (TN.nW rfl (TN.done)))
 try simp only[qS]at h
 unfold aG.enc
 first|exact h|simpa only[qF]using h
theorem aG.vG{w:World}{xs:List aG}{bs:List Nat}{A:Option Addr}{n n' c:Nat}(h:T1 w (.sl n (xs.flatMap aG.enc)) bs (.slice A n' c))(hm:xs.length=n){k:Nat}(hk:k<n):
  ∃(b off:Nat) (x:aG),A=some ⟨b,off,none⟩∧b<w.heap.size∧Hid (xs[k]? =some x)∧w.cell? ⟨b,off+k*2,none⟩=some (.int .i64 x.agent)∧w.cell? ⟨b,off+k*2+1,none⟩=some (.int .i64 x.slot):=by
 obtain⟨_,b,off,p1,p2,p3,us,hA,_,hb,hc,ht⟩:=T1.at_ aG.bF h hm hk;obtain⟨rfl,_⟩:=aG.us ht;exact⟨b,off,xs[k],hA,hb,qB (hm▸hk),hc 0 _ rfl,hc 1 _ rfl⟩
theorem aG.ER{x y:aG}(h0:x.agent=y.agent)(h1:x.slot=y.slot):x=y:=by
 cases x;cases y;simp_all
def aG.wt(_x:aG):Nat:=0
def aG.small(_x:aG):Prop:=True
structure aB where
 kind:Int
 level:Int
 value:Int
 data:(List Int)
 aJ:(List aG)
def aB.enc(x:aB):List D:=[.v (.int .i64 x.kind),.v (.int .i64 x.level),.v (.int .i64 x.value),.sl x.data.length (x.data.flatMap bM),.sl x.aJ.length (x.aJ.flatMap aG.enc)]
theorem aB.bF(x:aB):x.enc.length=5:=rfl
theorem aB.us{w:World}{x:aB}{bs us}(h0:TN w x.enc bs us):∃(A3:Option Addr) (c3:Nat) (b3:List Nat) (A4:Option Addr) (c4:Nat) (b4:List Nat),us=[.int .i64 x.kind,.int .i64 x.level,.int .i64 x.value,.slice A3 x.data.length c3,.slice A4 x.aJ.length c4]∧bs=b3++b4∧T1 w (.sl x.data.length (x.data.flatMap bM)) b3 (.slice A3 x.data.length c3)∧x.data.length≤c3∧c3≤maxLen∧T1 w (.sl x.aJ.length (x.aJ.flatMap aG.enc)) b4 (.slice A4 x.aJ.length c4)∧x.aJ.length≤c4∧c4≤maxLen:=by
 unfold aB.enc at h0;obtain⟨u0,rfl,h1⟩:=TN.jH h0;obtain⟨u1,rfl,h2⟩:=TN.jH h1;obtain⟨u2,rfl,h3⟩:=TN.jH h2;obtain⟨A3,c3,b3,r3,u3,rfl,rfl,t3,l3,m3,h4⟩:=TN.jR h3;obtain⟨A4,c4,b4,r4,u4,rfl,rfl,t4,l4,m4,h5⟩:=TN.jR h4;obtain⟨rfl,rfl⟩:=TN.end_ h5;exact⟨A3,c3,b3,A4,c4,b4,rfl,by simp,t3,l3,m3,t4,l4,m4⟩
theorem aB.zU{w:World}{x:aB}{A3 c3 b3}(t3:T1 w (.sl x.data.length (x.data.flatMap bM)) b3 (.slice A3 x.data.length c3)){A4 c4 b4}(t4:T1 w (.sl x.aJ.length (x.aJ.flatMap aG.enc)) b4 (.slice A4 x.aJ.length c4)):TN w x.enc (b3++b4) [.int .i64 x.kind,.int .i64 x.level,.int .i64 x.value,.slice A3 x.data.length c3,.slice A4 x.aJ.length c4]:=by
 have h:=(show TN w [.v (.int .i64 x.kind),.v (.int .i64 x.level),.v (.int .i64 x.value),.sl x.data.length (x.data.flatMap bM),.sl x.aJ.length (x.aJ.flatMap aG.enc)] _ _ from TN.nW rfl (TN.nW rfl (TN.nW rfl (TN.sH t3 (TN.sH t4 (TN.done))))))
 try simp only[qS]at h
 unfold aB.enc
 first|exact h|simpa only[qF]using h
theorem aB.vG{w:World}{xs:List aB}{bs:List Nat}{A:Option Addr}{n n' c:Nat}(h:T1 w (.sl n (xs.flatMap aB.enc)) bs (.slice A n' c))(hm:xs.length=n){k:Nat}(hk:k<n):
  ∃(b off:Nat) (x:aB) (A3:Option Addr) (c3:Nat) (b3:List Nat) (A4:Option Addr) (c4:Nat) (b4:List Nat),A=some ⟨b,off,none⟩∧b<w.heap.size∧Hid (xs[k]? =some x)∧w.cell? ⟨b,off+k*5,none⟩=some (.int .i64 x.kind)∧w.cell? ⟨b,off+k*5+1,none⟩=some (.int .i64 x.level)∧w.cell? ⟨b,off+k*5+2,none⟩=some (.int .i64 x.value)∧w.cell? ⟨b,off+k*5+3,none⟩=some (.slice A3 x.data.length c3)∧w.cell? ⟨b,off+k*5+4,none⟩=some (.slice A4 x.aJ.length c4)∧T1 w (.sl x.data.length (x.data.flatMap bM)) b3 (.slice A3 x.data.length c3)∧x.data.length≤c3∧c3≤maxLen∧T1 w (.sl x.aJ.length (x.aJ.flatMap aG.enc)) b4 (.slice A4 x.aJ.length c4)∧x.aJ.length≤c4∧c4≤maxLen:=by
 obtain⟨_,b,off,p1,p2,p3,us,hA,_,hb,hc,ht⟩:=T1.at_ aB.bF h hm hk;obtain⟨A3,c3,b3,A4,c4,b4,rfl,_,t3,l3,m3,t4,l4,m4⟩:=aB.us ht;exact⟨b,off,xs[k],A3,c3,b3,A4,c4,b4,hA,hb,qB (hm▸hk),hc 0 _ rfl,hc 1 _ rfl,hc 2 _ rfl,hc 3 _ rfl,hc 4 _ rfl,t3,l3,m3,t4,l4,m4⟩
theorem aB.ER{x y:aB}(h0:x.kind=y.kind)(h1:x.level=y.level)(h2:x.value=y.value)(h3:x.data=y.data)(h4:x.aJ=y.aJ):x=y:=by
 cases x;cases y;simp_all
def aB.wt(x:aB):Nat:=vH (fun _=>0) x.data+vH (fun _=>0) x.aJ
def aB.small(x:aB):Prop:=(x.data.length≤1048576)∧(x.aJ.length≤1048576∧∀y∈x.aJ,aG.small y)
structure aQ where
 agents:(List aB)
def aQ.enc(x:aQ):List D:=[.sl x.agents.length (x.agents.flatMap aB.enc)]
theorem aQ.bF(x:aQ):x.enc.length=1:=rfl
theorem aQ.us{w:World}{x:aQ}{bs us}(h0:TN w x.enc bs us):∃(A0:Option Addr) (c0:Nat) (b0:List Nat),us=[.slice A0 x.agents.length c0]∧bs=b0∧T1 w (.sl x.agents.length (x.agents.flatMap aB.enc)) b0 (.slice A0 x.agents.length c0)∧x.agents.length≤c0∧c0≤maxLen:=by
 unfold aQ.enc at h0;obtain⟨A0,c0,b0,r0,u0,rfl,rfl,t0,l0,m0,h1⟩:=TN.jR h0;obtain⟨rfl,rfl⟩:=TN.end_ h1;exact⟨A0,c0,b0,rfl,by simp,t0,l0,m0⟩
theorem aQ.zU{w:World}{x:aQ}{A0 c0 b0}(t0:T1 w (.sl x.agents.length (x.agents.flatMap aB.enc)) b0 (.slice A0 x.agents.length c0)):TN w x.enc (b0) [.slice A0 x.agents.length c0]:=by
 have h:=(show TN w [.sl x.agents.length (x.agents.flatMap aB.enc)] _ _ from TN.sH t0 (TN.done))
 try simp only[qS]at h
 unfold aQ.enc
 first|exact h|simpa only[qF]using h
theorem aQ.vG{w:World}{xs:List aQ}{bs:List Nat}{A:Option Addr}{n n' c:Nat}(h:T1 w (.sl n (xs.flatMap aQ.enc)) bs (.slice A n' c))(hm:xs.length=n){k:Nat}(hk:k<n):
  ∃(b off:Nat) (x:aQ) (A0:Option Addr) (c0:Nat) (b0:List Nat),A=some ⟨b,off,none⟩∧b<w.heap.size∧Hid (xs[k]? =some x)∧w.cell? ⟨b,off+k,none⟩=some (.slice A0 x.agents.length c0)∧T1 w (.sl x.agents.length (x.agents.flatMap aB.enc)) b0 (.slice A0 x.agents.length c0)∧x.agents.length≤c0∧c0≤maxLen:=by
 obtain⟨_,b,off,p1,p2,p3,us,hA,_,hb,hc,ht⟩:=T1.at_ aQ.bF h hm hk;obtain⟨A0,c0,b0,rfl,_,t0,l0,m0⟩:=aQ.us ht;exact⟨b,off,xs[k],A0,c0,b0,hA,hb,qB (hm▸hk),by simpa using hc 0 _ rfl,t0,l0,m0⟩
theorem aQ.ER{x y:aQ}(h0:x.agents=y.agents):x=y:=by
 cases x;cases y;simp_all
def aQ.wt(x:aQ):Nat:=vH aB.wt x.agents
def aQ.small(x:aQ):Prop:=(x.agents.length≤1048576∧∀y∈x.agents,aB.small y)
structure aX where
 step:Int
 def_:Int
 source:Int
def aX.enc(x:aX):List D:=[.v (.int .i64 x.step),.v (.int .i64 x.def_),.v (.int .i64 x.source)]
theorem aX.bF(x:aX):x.enc.length=3:=rfl
theorem aX.us{w:World}{x:aX}{bs us}(h0:TN w x.enc bs us):us=[.int .i64 x.step,.int .i64 x.def_,.int .i64 x.source]∧bs=[]:=by
 unfold aX.enc at h0;obtain⟨u0,rfl,h1⟩:=TN.jH h0;obtain⟨u1,rfl,h2⟩:=TN.jH h1;obtain⟨u2,rfl,h3⟩:=TN.jH h2;obtain⟨rfl,rfl⟩:=TN.end_ h3;exact⟨rfl,rfl⟩
theorem aX.zU{w:World}{x:aX}:TN w x.enc ([]) [.int .i64 x.step,.int .i64 x.def_,.int .i64 x.source]:=by
 have h:=(show TN w [.v (.int .i64 x.step),.v (.int .i64 x.def_),.v (.int .i64 x.source)] _ _ from TN.nW rfl (TN.nW rfl (TN.nW rfl (TN.done))))
 try simp only[qS]at h
 unfold aX.enc
 first|exact h|simpa only[qF]using h
theorem aX.vG{w:World}{xs:List aX}{bs:List Nat}{A:Option Addr}{n n' c:Nat}(h:T1 w (.sl n (xs.flatMap aX.enc)) bs (.slice A n' c))(hm:xs.length=n){k:Nat}(hk:k<n):
  ∃(b off:Nat) (x:aX),A=some ⟨b,off,none⟩∧b<w.heap.size∧Hid (xs[k]? =some x)∧w.cell? ⟨b,off+k*3,none⟩=some (.int .i64 x.step)∧w.cell? ⟨b,off+k*3+1,none⟩=some (.int .i64 x.def_)∧w.cell? ⟨b,off+k*3+2,none⟩=some (.int .i64 x.source):=by
 obtain⟨_,b,off,p1,p2,p3,us,hA,_,hb,hc,ht⟩:=T1.at_ aX.bF h hm hk;obtain⟨rfl,_⟩:=aX.us ht;exact⟨b,off,xs[k],hA,hb,qB (hm▸hk),hc 0 _ rfl,hc 1 _ rfl,hc 2 _ rfl⟩
theorem aX.ER{x y:aX}(h0:x.step=y.step)(h1:x.def_=y.def_)(h2:x.source=y.source):x=y:=by
 cases x;cases y;simp_all
def aX.wt(_x:aX):Nat:=0
def aX.small(_x:aX):Prop:=True
structure cK where
 kind:Int
 value:Int
def cK.enc(x:cK):List D:=[.v (.int .i64 x.kind),.v (.int .i64 x.value)]
theorem cK.bF(x:cK):x.enc.length=2:=rfl
theorem cK.us{w:World}{x:cK}{bs us}(h0:TN w x.enc bs us):us=[.int .i64 x.kind,.int .i64 x.value]∧bs=[]:=by
 unfold cK.enc at h0;obtain⟨u0,rfl,h1⟩:=TN.jH h0;obtain⟨u1,rfl,h2⟩:=TN.jH h1;obtain⟨rfl,rfl⟩:=TN.end_ h2;exact⟨rfl,rfl⟩
theorem cK.zU{w:World}{x:cK}:TN w x.enc ([]) [.int .i64 x.kind,.int .i64 x.value]:=by
 have h:=(show TN w [.v (.int .i64 x.kind),.v (.int .i64 x.value)] _ _ from TN.nW rfl (TN.nW rfl (TN.done)))
 try simp only[qS]at h
 unfold cK.enc
 first|exact h|simpa only[qF]using h
theorem cK.vG{w:World}{xs:List cK}{bs:List Nat}{A:Option Addr}{n n' c:Nat}(h:T1 w (.sl n (xs.flatMap cK.enc)) bs (.slice A n' c))(hm:xs.length=n){k:Nat}(hk:k<n):
  ∃(b off:Nat) (x:cK),A=some ⟨b,off,none⟩∧b<w.heap.size∧Hid (xs[k]? =some x)∧w.cell? ⟨b,off+k*2,none⟩=some (.int .i64 x.kind)∧w.cell? ⟨b,off+k*2+1,none⟩=some (.int .i64 x.value):=by
 obtain⟨_,b,off,p1,p2,p3,us,hA,_,hb,hc,ht⟩:=T1.at_ cK.bF h hm hk;obtain⟨rfl,_⟩:=cK.us ht;exact⟨b,off,xs[k],hA,hb,qB (hm▸hk),hc 0 _ rfl,hc 1 _ rfl⟩
theorem cK.ER{x y:cK}(h0:x.kind=y.kind)(h1:x.value=y.value):x=y:=by
 cases x;cases y;simp_all
def cK.wt(_x:cK):Nat:=0
def cK.small(_x:cK):Prop:=True
structure aK where
 at_:Int
 net:aQ
 origins:(List aX)
def aK.enc(x:aK):List D:=[.v (.int .i64 x.at_),.sl x.net.agents.length (x.net.agents.flatMap aB.enc),.sl x.origins.length (x.origins.flatMap aX.enc)]
theorem aK.bF(x:aK):x.enc.length=3:=rfl
theorem aK.us{w:World}{x:aK}{bs us}(h0:TN w x.enc bs us):∃(A1:Option Addr) (c1:Nat) (b1:List Nat) (A2:Option Addr) (c2:Nat) (b2:List Nat),us=[.int .i64 x.at_,.slice A1 x.net.agents.length c1,.slice A2 x.origins.length c2]∧bs=b1++b2∧T1 w (.sl x.net.agents.length (x.net.agents.flatMap aB.enc)) b1 (.slice A1 x.net.agents.length c1)∧x.net.agents.length≤c1∧c1≤maxLen∧T1 w (.sl x.origins.length (x.origins.flatMap aX.enc)) b2 (.slice A2 x.origins.length c2)∧x.origins.length≤c2∧c2≤maxLen:=by
 unfold aK.enc at h0;obtain⟨u0,rfl,h1⟩:=TN.jH h0;obtain⟨A1,c1,b1,r1,u1,rfl,rfl,t1,l1,m1,h2⟩:=TN.jR h1;obtain⟨A2,c2,b2,r2,u2,rfl,rfl,t2,l2,m2,h3⟩:=TN.jR h2;obtain⟨rfl,rfl⟩:=TN.end_ h3;exact⟨A1,c1,b1,A2,c2,b2,rfl,by simp,t1,l1,m1,t2,l2,m2⟩
theorem aK.zU{w:World}{x:aK}{A1 c1 b1}(t1:T1 w (.sl x.net.agents.length (x.net.agents.flatMap aB.enc)) b1 (.slice A1 x.net.agents.length c1)){A2 c2 b2}(t2:T1 w (.sl x.origins.length (x.origins.flatMap aX.enc)) b2 (.slice A2 x.origins.length c2)):TN w x.enc (b1++b2) [.int .i64 x.at_,.slice A1 x.net.agents.length c1,.slice A2 x.origins.length c2]:=by
 have h:=(show TN w [.v (.int .i64 x.at_),.sl x.net.agents.length (x.net.agents.flatMap aB.enc),.sl x.origins.length (x.origins.flatMap aX.enc)] _ _ from TN.nW rfl (TN.sH t1 (TN.sH t2 (TN.done))))
 try simp only[qS]at h
 unfold aK.enc
 first|exact h|simpa only[qF]using h
theorem aK.vG{w:World}{xs:List aK}{bs:List Nat}{A:Option Addr}{n n' c:Nat}(h:T1 w (.sl n (xs.flatMap aK.enc)) bs (.slice A n' c))(hm:xs.length=n){k:Nat}(hk:k<n):
  ∃(b off:Nat) (x:aK) (A1:Option Addr) (c1:Nat) (b1:List Nat) (A2:Option Addr) (c2:Nat) (b2:List Nat),A=some ⟨b,off,none⟩∧b<w.heap.size∧Hid (xs[k]? =some x)∧w.cell? ⟨b,off+k*3,none⟩=some (.int .i64 x.at_)∧w.cell? ⟨b,off+k*3+1,none⟩=some (.slice A1 x.net.agents.length c1)∧w.cell? ⟨b,off+k*3+2,none⟩=some (.slice A2 x.origins.length c2)∧T1 w (.sl x.net.agents.length (x.net.agents.flatMap aB.enc)) b1 (.slice A1 x.net.agents.length c1)∧x.net.agents.length≤c1∧c1≤maxLen∧T1 w (.sl x.origins.length (x.origins.flatMap aX.enc)) b2 (.slice A2 x.origins.length c2)∧x.origins.length≤c2∧c2≤maxLen:=by
 obtain⟨_,b,off,p1,p2,p3,us,hA,_,hb,hc,ht⟩:=T1.at_ aK.bF h hm hk;obtain⟨A1,c1,b1,A2,c2,b2,rfl,_,t1,l1,m1,t2,l2,m2⟩:=aK.us ht;exact⟨b,off,xs[k],A1,c1,b1,A2,c2,b2,hA,hb,qB (hm▸hk),hc 0 _ rfl,hc 1 _ rfl,hc 2 _ rfl,t1,l1,m1,t2,l2,m2⟩
theorem aK.ER{x y:aK}(h0:x.at_=y.at_)(h1:x.net=y.net)(h2:x.origins=y.origins):x=y:=by
 cases x;cases y;simp_all
def aK.wt(x:aK):Nat:=x.net.wt+vH (fun _=>0) x.origins
def aK.small(x:aK):Prop:=(x.net.small)∧(x.origins.length≤1048576∧∀y∈x.origins,aX.small y)
structure bJ where
 book:(List aQ)
 schedule:(List Int)
 every:Int
 at_:Int
 net:aQ
 origins:(List aX)
 breaks:(List cK)
 points:(List aK)
def bJ.enc(x:bJ):List D:=[.sl x.book.length (x.book.flatMap aQ.enc),.sl x.schedule.length (x.schedule.flatMap bM),.v (.int .i64 x.every),.v (.int .i64 x.at_),.sl x.net.agents.length (x.net.agents.flatMap aB.enc),.sl x.origins.length (x.origins.flatMap aX.enc),.sl x.breaks.length (x.breaks.flatMap cK.enc),.sl x.points.length (x.points.flatMap aK.enc)]
theorem bJ.bF(x:bJ):x.enc.length=8:=rfl
theorem bJ.us{w:World}{x:bJ}{bs us}(h0:TN w x.enc bs us):∃(A0:Option Addr) (c0:Nat) (b0:List Nat) (A1:Option Addr) (c1:Nat) (b1:List Nat) (A4:Option Addr) (c4:Nat) (b4:List Nat) (A5:Option Addr) (c5:Nat) (b5:List Nat) (A6:Option Addr) (c6:Nat) (b6:List Nat) (A7:Option Addr) (c7:Nat) (b7:List Nat),us=[.slice A0 x.book.length c0,.slice A1 x.schedule.length c1,.int .i64 x.every,.int .i64 x.at_,.slice A4 x.net.agents.length c4,.slice A5 x.origins.length c5,.slice A6 x.breaks.length c6,.slice A7 x.points.length c7]∧bs=b0++b1++b4++b5++b6++b7∧T1 w (.sl x.book.length (x.book.flatMap aQ.enc)) b0 (.slice A0 x.book.length c0)∧x.book.length≤c0∧c0≤maxLen∧T1 w (.sl x.schedule.length (x.schedule.flatMap bM)) b1 (.slice A1 x.schedule.length c1)∧x.schedule.length≤c1∧c1≤maxLen∧T1 w (.sl x.net.agents.length (x.net.agents.flatMap aB.enc)) b4 (.slice A4 x.net.agents.length c4)∧x.net.agents.length≤c4∧c4≤maxLen∧T1 w (.sl x.origins.length (x.origins.flatMap aX.enc)) b5 (.slice A5 x.origins.length c5)∧x.origins.length≤c5∧c5≤maxLen∧T1 w (.sl x.breaks.length (x.breaks.flatMap cK.enc)) b6 (.slice A6 x.breaks.length c6)∧x.breaks.length≤c6∧c6≤maxLen∧T1 w (.sl x.points.length (x.points.flatMap aK.enc)) b7 (.slice A7 x.points.length c7)∧x.points.length≤c7∧c7≤maxLen:=by
 unfold bJ.enc at h0;obtain⟨A0,c0,b0,r0,u0,rfl,rfl,t0,l0,m0,h1⟩:=TN.jR h0;obtain⟨A1,c1,b1,r1,u1,rfl,rfl,t1,l1,m1,h2⟩:=TN.jR h1;obtain⟨u2,rfl,h3⟩:=TN.jH h2;obtain⟨u3,rfl,h4⟩:=TN.jH h3;obtain⟨A4,c4,b4,r4,u4,rfl,rfl,t4,l4,m4,h5⟩:=TN.jR h4;obtain⟨A5,c5,b5,r5,u5,rfl,rfl,t5,l5,m5,h6⟩:=TN.jR h5;obtain⟨A6,c6,b6,r6,u6,rfl,rfl,t6,l6,m6,h7⟩:=TN.jR h6;obtain⟨A7,c7,b7,r7,u7,rfl,rfl,t7,l7,m7,h8⟩:=TN.jR h7;obtain⟨rfl,rfl⟩:=TN.end_ h8;exact⟨A0,c0,b0,A1,c1,b1,A4,c4,b4,A5,c5,b5,A6,c6,b6,A7,c7,b7,rfl,by simp,t0,l0,m0,t1,l1,m1,t4,l4,m4,t5,l5,m5,t6,l6,m6,t7,l7,m7⟩
theorem bJ.zU{w:World}{x:bJ}{A0 c0 b0}(t0:T1 w (.sl x.book.length (x.book.flatMap aQ.enc)) b0 (.slice A0 x.book.length c0)){A1 c1 b1}(t1:T1 w (.sl x.schedule.length (x.schedule.flatMap bM)) b1 (.slice A1 x.schedule.length c1)){A4 c4 b4}(t4:T1 w (.sl x.net.agents.length (x.net.agents.flatMap aB.enc)) b4 (.slice A4 x.net.agents.length c4)){A5 c5 b5}(t5:T1 w (.sl x.origins.length (x.origins.flatMap aX.enc)) b5 (.slice A5 x.origins.length c5)){A6 c6 b6}(t6:T1 w (.sl x.breaks.length (x.breaks.flatMap cK.enc)) b6 (.slice A6 x.breaks.length c6)){A7 c7 b7}(t7:T1 w (.sl x.points.length (x.points.flatMap aK.enc)) b7 (.slice A7 x.points.length c7)):TN w x.enc (b0++b1++b4++b5++b6++b7) [.slice A0 x.book.length c0,.slice A1 x.schedule.length c1,.int .i64 x.every,.int .i64 x.at_,.slice A4 x.net.agents.length c4,.slice A5 x.origins.length c5,.slice A6 x.breaks.length c6,.slice A7 x.points.length c7]:=by
 have h:=(show TN w [.sl x.book.length (x.book.flatMap aQ.enc),.sl x.schedule.length (x.schedule.flatMap bM),.v (.int .i64 x.every),.v (.int .i64 x.at_),.sl x.net.agents.length (x.net.agents.flatMap aB.enc),.sl x.origins.length (x.origins.flatMap aX.enc),.sl x.breaks.length (x.breaks.flatMap cK.enc),.sl x.points.length (x.points.flatMap aK.enc)] _ _ from TN.sH t0 (TN.sH t1 (TN.nW rfl (TN.nW rfl (TN.sH t4 (TN.sH t5 (TN.sH t6 (TN.sH t7 (TN.done)))))))))
 try simp only[qS]at h
 unfold bJ.enc
 first|exact h|simpa only[qF]using h
theorem bJ.vG{w:World}{xs:List bJ}{bs:List Nat}{A:Option Addr}{n n' c:Nat}(h:T1 w (.sl n (xs.flatMap bJ.enc)) bs (.slice A n' c))(hm:xs.length=n){k:Nat}(hk:k<n):
  ∃(b off:Nat) (x:bJ) (A0:Option Addr) (c0:Nat) (b0:List Nat) (A1:Option Addr) (c1:Nat) (b1:List Nat) (A4:Option Addr) (c4:Nat) (b4:List Nat) (A5:Option Addr) (c5:Nat) (b5:List Nat) (A6:Option Addr) (c6:Nat) (b6:List Nat) (A7:Option Addr) (c7:Nat) (b7:List Nat),A=some ⟨b,off,none⟩∧b<w.heap.size∧Hid (xs[k]? =some x)∧w.cell? ⟨b,off+k*8,none⟩=some (.slice A0 x.book.length c0)∧w.cell? ⟨b,off+k*8+1,none⟩=some (.slice A1 x.schedule.length c1)∧w.cell? ⟨b,off+k*8+2,none⟩=some (.int .i64 x.every)∧w.cell? ⟨b,off+k*8+3,none⟩=some (.int .i64 x.at_)∧w.cell? ⟨b,off+k*8+4,none⟩=some (.slice A4 x.net.agents.length c4)∧w.cell? ⟨b,off+k*8+5,none⟩=some (.slice A5 x.origins.length c5)∧w.cell? ⟨b,off+k*8+6,none⟩=some (.slice A6 x.breaks.length c6)∧w.cell? ⟨b,off+k*8+7,none⟩=some (.slice A7 x.points.length c7)∧T1 w (.sl x.book.length (x.book.flatMap aQ.enc)) b0 (.slice A0 x.book.length c0)∧x.book.length≤c0∧c0≤maxLen∧T1 w (.sl x.schedule.length (x.schedule.flatMap bM)) b1 (.slice A1 x.schedule.length c1)∧x.schedule.length≤c1∧c1≤maxLen∧T1 w (.sl x.net.agents.length (x.net.agents.flatMap aB.enc)) b4 (.slice A4 x.net.agents.length c4)∧x.net.agents.length≤c4∧c4≤maxLen∧T1 w (.sl x.origins.length (x.origins.flatMap aX.enc)) b5 (.slice A5 x.origins.length c5)∧x.origins.length≤c5∧c5≤maxLen∧T1 w (.sl x.breaks.length (x.breaks.flatMap cK.enc)) b6 (.slice A6 x.breaks.length c6)∧x.breaks.length≤c6∧c6≤maxLen∧T1 w (.sl x.points.length (x.points.flatMap aK.enc)) b7 (.slice A7 x.points.length c7)∧x.points.length≤c7∧c7≤maxLen:=by
 obtain⟨_,b,off,p1,p2,p3,us,hA,_,hb,hc,ht⟩:=T1.at_ bJ.bF h hm hk;obtain⟨A0,c0,b0,A1,c1,b1,A4,c4,b4,A5,c5,b5,A6,c6,b6,A7,c7,b7,rfl,_,t0,l0,m0,t1,l1,m1,t4,l4,m4,t5,l5,m5,t6,l6,m6,t7,l7,m7⟩:=bJ.us ht;exact⟨b,off,xs[k],A0,c0,b0,A1,c1,b1,A4,c4,b4,A5,c5,b5,A6,c6,b6,A7,c7,b7,hA,hb,qB (hm▸hk),hc 0 _ rfl,hc 1 _ rfl,hc 2 _ rfl,hc 3 _ rfl,hc 4 _ rfl,hc 5 _ rfl,hc 6 _ rfl,hc 7 _ rfl,t0,l0,m0,t1,l1,m1,t4,l4,m4,t5,l5,m5,t6,l6,m6,t7,l7,m7⟩
theorem bJ.ER{x y:bJ}(h0:x.book=y.book)(h1:x.schedule=y.schedule)(h2:x.every=y.every)(h3:x.at_=y.at_)(h4:x.net=y.net)(h5:x.origins=y.origins)(h6:x.breaks=y.breaks)(h7:x.points=y.points):x=y:=by
 cases x;cases y;simp_all
def bJ.wt(x:bJ):Nat:=vH aQ.wt x.book+vH (fun _=>0) x.schedule+x.net.wt+vH (fun _=>0) x.origins+vH (fun _=>0) x.breaks+vH aK.wt x.points
def bJ.small(x:bJ):Prop:=(x.book.length≤1048576∧∀y∈x.book,aQ.small y)∧(x.schedule.length≤1048576)∧(x.net.small)∧(x.origins.length≤1048576∧∀y∈x.origins,aX.small y)∧(x.breaks.length≤1048576∧∀y∈x.breaks,cK.small y)∧(x.points.length≤1048576∧∀y∈x.points,aK.small y)
theorem aG.pt{w:World}{x:aG}{b o bs}(h:fU w b o x.enc bs):Kn w b (o) (.int .i64 x.agent)∧Kn w b (o+1) (.int .i64 x.slot):=by
 obtain⟨hlt,us,hc,ht⟩:=h;obtain⟨rfl,rfl⟩:=aG.us ht;exact⟨hc.always hlt 0 _ rfl,hc.always hlt 1 _ rfl⟩
theorem aB.pt{w:World}{x:aB}{b o bs}(h:fU w b o x.enc bs):∃(A3:Option Addr) (c3:Nat) (b3:List Nat) (A4:Option Addr) (c4:Nat) (b4:List Nat),Kn w b (o) (.int .i64 x.kind)∧Kn w b (o+1) (.int .i64 x.level)∧Kn w b (o+2) (.int .i64 x.value)∧Kn w b (o+3) (.slice A3 x.data.length c3)∧Kn w b (o+4) (.slice A4 x.aJ.length c4)∧T1 w (.sl x.data.length (x.data.flatMap bM)) b3 (.slice A3 x.data.length c3)∧T1 w (.sl x.aJ.length (x.aJ.flatMap aG.enc)) b4 (.slice A4 x.aJ.length c4):=by
 obtain⟨hlt,us,hc,ht⟩:=h;obtain⟨A3,c3,b3,A4,c4,b4,rfl,rfl,t3,l3,m3,t4,l4,m4⟩:=aB.us ht;exact⟨_,_,_,_,_,_,hc.always hlt 0 _ rfl,hc.always hlt 1 _ rfl,hc.always hlt 2 _ rfl,hc.always hlt 3 _ rfl,hc.always hlt 4 _ rfl,t3,t4⟩
theorem aQ.pt{w:World}{x:aQ}{b o bs}(h:fU w b o x.enc bs):∃(A0:Option Addr) (c0:Nat) (b0:List Nat),Kn w b (o) (.slice A0 x.agents.length c0)∧T1 w (.sl x.agents.length (x.agents.flatMap aB.enc)) b0 (.slice A0 x.agents.length c0):=by
 obtain⟨hlt,us,hc,ht⟩:=h;obtain⟨A0,c0,b0,rfl,rfl,t0,l0,m0⟩:=aQ.us ht;exact⟨_,_,_,hc.always hlt 0 _ rfl,t0⟩
theorem aX.pt{w:World}{x:aX}{b o bs}(h:fU w b o x.enc bs):Kn w b (o) (.int .i64 x.step)∧Kn w b (o+1) (.int .i64 x.def_)∧Kn w b (o+2) (.int .i64 x.source):=by
 obtain⟨hlt,us,hc,ht⟩:=h;obtain⟨rfl,rfl⟩:=aX.us ht;exact⟨hc.always hlt 0 _ rfl,hc.always hlt 1 _ rfl,hc.always hlt 2 _ rfl⟩
theorem cK.pt{w:World}{x:cK}{b o bs}(h:fU w b o x.enc bs):Kn w b (o) (.int .i64 x.kind)∧Kn w b (o+1) (.int .i64 x.value):=by
 obtain⟨hlt,us,hc,ht⟩:=h;obtain⟨rfl,rfl⟩:=cK.us ht;exact⟨hc.always hlt 0 _ rfl,hc.always hlt 1 _ rfl⟩
theorem aK.pt{w:World}{x:aK}{b o bs}(h:fU w b o x.enc bs):∃(A1:Option Addr) (c1:Nat) (b1:List Nat) (A2:Option Addr) (c2:Nat) (b2:List Nat),Kn w b (o) (.int .i64 x.at_)∧Kn w b (o+1) (.slice A1 x.net.agents.length c1)∧Kn w b (o+2) (.slice A2 x.origins.length c2)∧T1 w (.sl x.net.agents.length (x.net.agents.flatMap aB.enc)) b1 (.slice A1 x.net.agents.length c1)∧T1 w (.sl x.origins.length (x.origins.flatMap aX.enc)) b2 (.slice A2 x.origins.length c2):=by
 obtain⟨hlt,us,hc,ht⟩:=h;obtain⟨A1,c1,b1,A2,c2,b2,rfl,rfl,t1,l1,m1,t2,l2,m2⟩:=aK.us ht;exact⟨_,_,_,_,_,_,hc.always hlt 0 _ rfl,hc.always hlt 1 _ rfl,hc.always hlt 2 _ rfl,t1,t2⟩
theorem bJ.pt{w:World}{x:bJ}{b o bs}(h:fU w b o x.enc bs):∃(A0:Option Addr) (c0:Nat) (b0:List Nat) (A1:Option Addr) (c1:Nat) (b1:List Nat) (A4:Option Addr) (c4:Nat) (b4:List Nat) (A5:Option Addr) (c5:Nat) (b5:List Nat) (A6:Option Addr) (c6:Nat) (b6:List Nat) (A7:Option Addr) (c7:Nat) (b7:List Nat),Kn w b (o) (.slice A0 x.book.length c0)∧Kn w b (o+1) (.slice A1 x.schedule.length c1)∧Kn w b (o+2) (.int .i64 x.every)∧Kn w b (o+3) (.int .i64 x.at_)∧Kn w b (o+4) (.slice A4 x.net.agents.length c4)∧Kn w b (o+5) (.slice A5 x.origins.length c5)∧Kn w b (o+6) (.slice A6 x.breaks.length c6)∧Kn w b (o+7) (.slice A7 x.points.length c7)∧T1 w (.sl x.book.length (x.book.flatMap aQ.enc)) b0 (.slice A0 x.book.length c0)∧T1 w (.sl x.schedule.length (x.schedule.flatMap bM)) b1 (.slice A1 x.schedule.length c1)∧T1 w (.sl x.net.agents.length (x.net.agents.flatMap aB.enc)) b4 (.slice A4 x.net.agents.length c4)∧T1 w (.sl x.origins.length (x.origins.flatMap aX.enc)) b5 (.slice A5 x.origins.length c5)∧T1 w (.sl x.breaks.length (x.breaks.flatMap cK.enc)) b6 (.slice A6 x.breaks.length c6)∧T1 w (.sl x.points.length (x.points.flatMap aK.enc)) b7 (.slice A7 x.points.length c7):=by
 obtain⟨hlt,us,hc,ht⟩:=h;obtain⟨A0,c0,b0,A1,c1,b1,A4,c4,b4,A5,c5,b5,A6,c6,b6,A7,c7,b7,rfl,rfl,t0,l0,m0,t1,l1,m1,t4,l4,m4,t5,l5,m5,t6,l6,m6,t7,l7,m7⟩:=bJ.us ht;exact⟨_,_,_,_,_,_,_,_,_,_,_,_,_,_,_,_,_,_,hc.always hlt 0 _ rfl,hc.always hlt 1 _ rfl,hc.always hlt 2 _ rfl,hc.always hlt 3 _ rfl,hc.always hlt 4 _ rfl,hc.always hlt 5 _ rfl,hc.always hlt 6 _ rfl,hc.always hlt 7 _ rfl,t0,t1,t4,t5,t6,t7⟩
theorem aG.PE{w:World}{x:aG}{b bs}(h:fU w b 0 x.enc bs):Kn w b 0 (.int .i64 x.agent)∧Kn w b 1 (.int .i64 x.slot):=by
 have:=aG.pt h;simpa only[Nat.zero_add]using this
theorem aB.PE{w:World}{x:aB}{b bs}(h:fU w b 0 x.enc bs):∃(A3:Option Addr) (c3:Nat) (b3:List Nat) (A4:Option Addr) (c4:Nat) (b4:List Nat),Kn w b 0 (.int .i64 x.kind)∧Kn w b 1 (.int .i64 x.level)∧Kn w b 2 (.int .i64 x.value)∧Kn w b 3 (.slice A3 x.data.length c3)∧Kn w b 4 (.slice A4 x.aJ.length c4)∧T1 w (.sl x.data.length (x.data.flatMap bM)) b3 (.slice A3 x.data.length c3)∧T1 w (.sl x.aJ.length (x.aJ.flatMap aG.enc)) b4 (.slice A4 x.aJ.length c4):=by
 have:=aB.pt h;simpa only[Nat.zero_add]using this
theorem aQ.PE{w:World}{x:aQ}{b bs}(h:fU w b 0 x.enc bs):∃(A0:Option Addr) (c0:Nat) (b0:List Nat),Kn w b 0 (.slice A0 x.agents.length c0)∧T1 w (.sl x.agents.length (x.agents.flatMap aB.enc)) b0 (.slice A0 x.agents.length c0):=by
 have:=aQ.pt h;simpa only[Nat.zero_add]using this
theorem aX.PE{w:World}{x:aX}{b bs}(h:fU w b 0 x.enc bs):Kn w b 0 (.int .i64 x.step)∧Kn w b 1 (.int .i64 x.def_)∧Kn w b 2 (.int .i64 x.source):=by
 have:=aX.pt h;simpa only[Nat.zero_add]using this
theorem cK.PE{w:World}{x:cK}{b bs}(h:fU w b 0 x.enc bs):Kn w b 0 (.int .i64 x.kind)∧Kn w b 1 (.int .i64 x.value):=by
 have:=cK.pt h;simpa only[Nat.zero_add]using this
theorem aK.PE{w:World}{x:aK}{b bs}(h:fU w b 0 x.enc bs):∃(A1:Option Addr) (c1:Nat) (b1:List Nat) (A2:Option Addr) (c2:Nat) (b2:List Nat),Kn w b 0 (.int .i64 x.at_)∧Kn w b 1 (.slice A1 x.net.agents.length c1)∧Kn w b 2 (.slice A2 x.origins.length c2)∧T1 w (.sl x.net.agents.length (x.net.agents.flatMap aB.enc)) b1 (.slice A1 x.net.agents.length c1)∧T1 w (.sl x.origins.length (x.origins.flatMap aX.enc)) b2 (.slice A2 x.origins.length c2):=by
 have:=aK.pt h;simpa only[Nat.zero_add]using this
theorem bJ.PE{w:World}{x:bJ}{b bs}(h:fU w b 0 x.enc bs):∃(A0:Option Addr) (c0:Nat) (b0:List Nat) (A1:Option Addr) (c1:Nat) (b1:List Nat) (A4:Option Addr) (c4:Nat) (b4:List Nat) (A5:Option Addr) (c5:Nat) (b5:List Nat) (A6:Option Addr) (c6:Nat) (b6:List Nat) (A7:Option Addr) (c7:Nat) (b7:List Nat),Kn w b 0 (.slice A0 x.book.length c0)∧Kn w b 1 (.slice A1 x.schedule.length c1)∧Kn w b 2 (.int .i64 x.every)∧Kn w b 3 (.int .i64 x.at_)∧Kn w b 4 (.slice A4 x.net.agents.length c4)∧Kn w b 5 (.slice A5 x.origins.length c5)∧Kn w b 6 (.slice A6 x.breaks.length c6)∧Kn w b 7 (.slice A7 x.points.length c7)∧T1 w (.sl x.book.length (x.book.flatMap aQ.enc)) b0 (.slice A0 x.book.length c0)∧T1 w (.sl x.schedule.length (x.schedule.flatMap bM)) b1 (.slice A1 x.schedule.length c1)∧T1 w (.sl x.net.agents.length (x.net.agents.flatMap aB.enc)) b4 (.slice A4 x.net.agents.length c4)∧T1 w (.sl x.origins.length (x.origins.flatMap aX.enc)) b5 (.slice A5 x.origins.length c5)∧T1 w (.sl x.breaks.length (x.breaks.flatMap cK.enc)) b6 (.slice A6 x.breaks.length c6)∧T1 w (.sl x.points.length (x.points.flatMap aK.enc)) b7 (.slice A7 x.points.length c7):=by
 have:=bJ.pt h;simpa only[Nat.zero_add]using this
end Go.Tr
namespace Go.Tr
def aG.cells(p:aG):List Value:=[.int .i64 p.agent,.int .i64 p.slot]
end Go.Tr
namespace Go.Tr
open Go Go.RowKit
theorem _root_.Go.Calls.q{P:Program}{f:FuncId}{args:Array Value}{W:World}{v:Value}(h:Calls P f args W fun e w'=>e=.returned v∧W=w'):Calls P f args W fun e w'=>e=.returned v∧Ext W w':=
 h.mono fun _ _ ⟨a,b⟩=>⟨a,b▸Below.refl _ _⟩
def eP(k p:Int):Int:=if k==9 then p-1 else 0
def fieldsOf(a:aB):Int:=eP a.kind a.aJ.length
def jV(n:Int):Bool:=dX n 0 23
def qz(n:Int):Bool:=dX n (-2147483648) 2147483647
def jQ(n:Int):Bool:=dX n 1 6
def dZ(l:List Int)(k:Nat):Int:=l.getD k 0
theorem CU{l:List Int}{k:Nat}{x:Int}(h:Hid (l[k]? =some x)):dZ l k=x:=by unfold dZ;rw[qC,h.out];rfl
def kN(l:List Int):Bool:=eu l.length fun k=>jV (dZ l k)
def gy(a:aB):Bool:=
 if a.kind==6 then((a.data.length:Int)==0)&&qz a.value
 else if a.kind==7 then((a.data.length:Int)==0)&&jQ a.value
 else if a.kind==8 then((a.data.length:Int)==1)&&jQ a.value&&qz (dZ a.data 0)
 else if a.kind==9 then((a.data.length:Int)==0)&&dX a.value 0 3
 else if a.kind==12 then((a.data.length:Int)==0)&&jV a.value
 else if a.kind==10 then a.value==0&&dX a.data.length 1 4&&kN a.data
 else if a.kind==11 then a.value==0&&((a.data.length:Int)==2)&&kN a.data
 else a.value==0&&((a.data.length:Int)==0)
def dQ(a:aB):Bool:=decide (0<dz a.kind (fieldsOf a))&&(a.aJ.length:Int)==dz a.kind (fieldsOf a)&&cO a.kind a.level&&gy a
def RI:aB:=⟨0,0,0,[],[]⟩
def UQ:aG:=⟨0,0⟩
def gV(l:List aB)(k:Nat):aB:=l.getD k RI
def jD(l:List aG)(k:Nat):aG:=l.getD k UQ
theorem HV{α:Type}{l:List α}{k:Nat}{x d:α}(h:Hid (l[k]? =some x)):l.getD k d=x:=by rw[qC,h.out];rfl
theorem jW{l:List aB}{k:Nat}{x:aB}(h:Hid (l[k]? =some x)):gV l k=x:=HV h
theorem uw{l:List aG}{k:Nat}{x:aG}(h:Hid (l[k]? =some x)):jD l k=x:=HV h
def gW(l:List aB)(k:Nat):Bool:=dQ (gV l k)&&((gV l k).kind==1)==((k:Int)==0)
def fD(l:List aB):Bool:=dX l.length 1 600&&eu l.length (gW l)
def iB(l:List aB)(p:aG):Bool:=dX p.agent 0 ((l.length:Int)-1)&&dX p.slot 0 (((gV l p.agent.toNat).aJ.length:Int)-1)
def rD(l:List aB)(p:aG):aG:=jD (gV l p.agent.toNat).aJ p.slot.toNat
noncomputable def oL(l:List aB)(me p:aG):Bool:= !wS p me&&iB l p&&wS (rD l p) me
noncomputable def pI(l:List aB)(i:Nat):Bool:=eu (gV l i).aJ.length fun k=>oL l ⟨i,k⟩ (jD (gV l i).aJ k)
noncomputable def iE(n:aQ):Bool:=fD n.agents&&eu n.agents.length (pI n.agents)
theorem Kw{l:List aB}{p:aG}(h:iB l p=true):∃(i k:Nat) (a:aB) (q:aG),p=⟨i,k⟩∧i<l.length∧Hid (l[i]? =some a)∧k<a.aJ.length∧Hid (a.aJ[k]? =some q)∧rD l p=q:=by
 unfold iB at h;rw[qD]at h;obtain⟨h1,h2⟩:=h;have h1:=iU h1;have h2:=iU h2;obtain⟨pa,ps⟩:=p;simp only at h1 h2;obtain⟨i,rfl⟩:=Int.eq_ofNat_of_zero_le h1.1;obtain⟨k,rfl⟩:=Int.eq_ofNat_of_zero_le h2.1;have hi:i<l.length:=by omega
 have ha:Hid (l[i]? =some l[i]):=qB hi;rw[qK,jW ha]at h2;have hk:k<(l[i]).aJ.length:=by omega
 have hq:Hid ((l[i]).aJ[k]? =some (l[i]).aJ[k]):=qB hk;refine⟨i,k,l[i],_,rfl,hi,ha,hk,hq,?_⟩;unfold rD;rw[qK,qK,jW ha,uw hq]
def Xt:aQ:=⟨[]⟩
def lU(l:List aQ)(k:Nat):aQ:=l.getD k Xt
theorem J9{l:List aQ}{k:Nat}{x:aQ}(h:Hid (l[k]? =some x)):lU l k=x:=HV h
noncomputable def lG(l:List aQ):Bool:=decide ((l.length:Int)≤24)&&eu l.length fun k=>iE (lU l k)
def bY(l:List Int):Bool:=decide ((l.length:Int)≤200)&&eu l.length fun k=>dX (dZ l k) 0 600
end Go.Tr
