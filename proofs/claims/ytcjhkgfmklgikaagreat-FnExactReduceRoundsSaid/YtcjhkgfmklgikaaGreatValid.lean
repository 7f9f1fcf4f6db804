
/- Plain arithmetic: 32-bit wraps, the operators of the language, bounds as Bools. No program in it. -/
import Derived.Test.YtcjhkgfmklgikaaGreatShort
import Derived.Test.YtcjhkgfmklgikaaGreatSc
set_option linter.unusedSimpArgs false
set_option linter.unusedVariables false
namespace Go.Tr
open Go Go.RowKit
def dS(n lo hi:Int):Bool:=decide (lo≤n)&&decide (n≤hi)
theorem jS{n lo hi:Int}(h:dS n lo hi=true):lo≤n∧n≤hi:=by simpa[dS]using h
theorem Qk{n lo hi:Int}(h:dS n lo hi=false):n<lo∨hi<n:=by
 simp only[dS,Bool.and_eq_false_iff,qP]at h;omega
theorem wz{n lo hi:Int}(h1:lo≤n)(h2:n≤hi):dS n lo hi=true:=by simp[dS,h1,h2]
theorem Ag{n lo hi:Int}(h:n<lo∨hi<n):dS n lo hi=false:=by
 simp only[dS,Bool.and_eq_false_iff,qP];omega
def kr(k:Int):Bool:=dS k 1 12
def bR(k:Int):Bool:=kr k&&k !=1&&k !=5&&k !=6
def xD(n:Int):Bool:=dS n 0 8
def cB(k l:Int):Bool:=kr k&&(l==0||(bR k&&xD l))
def oF(k:Int):Bool:=k==3||k==7||k==8||k==10||k==11
def Bp(t k l:Int):Bool:=xD t&&cB k l&&(k==6||k==12||(bR k&&decide (t<l)))
def rule(ka la kb lb:Int):Int:=
 if ka=5 then 4
 else if ka=4 then(if kb==4&&la==lb then 2 else if Bp la kb lb then 3 else 0)
 else if ka=2 then(if kb==3&&la==lb then 1 else 0)
 else if ka=6 then(if kb==7||kb==8 then 5 else if kb==11 then 6 else 0)
 else if ka=9 then(if kb==10 then 6 else 0)
 else if ka=12 then(if oF kb then 7 else 0)
 else 0
def kU(ka la kb lb:Int):Bool:=cB ka la&&cB kb lb&&ka !=1&&kb !=1
def aW(ka la kb lb:Int):Int:=if kU ka la kb lb then(if rule ka la kb lb=0 then(if rule kb lb ka la=0 then 8 else rule kb lb ka la)else rule ka la kb lb)else 0
def aX(ka la kb lb:Int):Int:=if kU ka la kb lb then(if rule ka la kb lb=0 then(if rule kb lb ka la=0 then 0 else 2)else 1)else 0
def cZ(k f:Int):Int:=
 if k=9 then(if dS f 0 3 then f+1 else 0)else if f=0 then
  (if k=1∨k=5∨k=6∨k=12 then 1 else if k=8∨k=10∨k=11 then 2 else if k=2∨k=3∨k=4∨k=7 then 3 else 0)else 0
theorem CJ{k:Int}(h:kr k=true):k=1∨k=2∨k=3∨k=4∨k=5∨k=6∨k=7∨k=8∨k=9∨k=10∨k=11∨k=12:=by
 have:=jS h;omega
theorem Bo{k l:Int}(h:kr k=false):cB k l=false:=by simp[cB,h]
theorem nu{k:Int}(h:kr k=false):bR k=false:=by simp[bR,h]
theorem uZ(ka la kb lb:Int):0≤rule ka la kb lb∧rule ka la kb lb≤7:=by
 unfold rule;(repeat' split)<;>omega
theorem Mi{i k:Int}(h:Bp i 4 k=true):i<k:=by
 simp only[Bp,qD,Bool.or_eq_true]at h;obtain⟨_,h⟩:=h;rcases h with(h|h)|h
 ·exact absurd h (by decide)
 ·exact absurd h (by decide)
 ·simpa using h.2
theorem IY{i b k:Int}(h:Bp i b k=true):b≠5:=by
 rintro rfl;simp[Bp,bR]at h
theorem OL{ka la kb lb:Int}(h1:rule ka la kb lb≠0)(h2:rule kb lb ka la≠0):rule ka la kb lb=rule kb lb ka la∧(rule ka la kb lb=2∨rule ka la kb lb=4):=by
 by_cases a5:ka=5
 ·subst a5
  by_cases b5:kb=5
  ·subst b5;simp[rule]
  ·exfalso;revert h2;unfold rule;rw[if_neg b5];split
   ·rw[if_neg (by simp),if_neg (fun h=>IY h rfl)];simp
   ·simp[oF]
 by_cases b5:kb=5
 ·subst b5;exfalso;revert h1;unfold rule;rw[if_neg a5];split
  ·rw[if_neg (by simp),if_neg (fun h=>IY h rfl)];simp
  ·simp[oF]
 by_cases a4:ka=4
 ·subst a4
  by_cases b4:kb=4
  ·subst b4
   by_cases e:la=lb
   ·subst e;simp[rule]
   ·exfalso;have e':¬lb=la:=fun h=>e h.symm
    simp[rule,e,e']at h1 h2;have:=Mi h1;have:=Mi h2;omega
  ·exfalso;revert h2;unfold rule;simp[b5,b4,oF]
 by_cases b4:kb=4
 ·subst b4;exfalso;revert h1;unfold rule;simp[a5,a4,oF]
 exfalso;revert h1 h2;unfold rule;simp only[a5,b5,a4,b4,if_false]
 by_cases a2:ka=2
 ·subst a2;simp[oF]
  try (intro h _;subst h;simp)
 by_cases a6:ka=6
 ·subst a6;simp[oF]
  try
   split
   ·rename_i h;rcases h with rfl|rfl<;>simp
   ·split
    ·rename_i h;subst h;simp
    ·simp
 by_cases a9:ka=9
 ·subst a9;simp[oF]
  try (intro h;subst h;simp)
 by_cases a12:ka=12
 ·subst a12;intro h
  have hc:oF kb=true:=by
   cases hc:oF kb with
   |true=>rfl
   |false=>simp[hc]at h
  simp only[oF,Bool.or_eq_true,beq_iff_eq]at hc;rcases hc with(((rfl|rfl)|rfl)|rfl)|rfl<;>simp
 ·simp[a2,a6,a9,a12]
theorem Oy(ka la kb lb:Int):kU ka la kb lb=kU kb lb ka la:=by
 simp only[kU];cases cB ka la<;>cases cB kb lb<;>cases (ka !=1)<;>cases (kb !=1)<;>rfl
theorem xQ(ka la kb lb:Int):aW kb lb ka la=aW ka la kb lb:=by
 unfold aW;rw[Oy kb lb ka la]
 by_cases h1:rule ka la kb lb=0<;>by_cases h2:rule kb lb ka la=0
 ·simp[h1,h2]
 ·simp[h1,h2]
 ·simp[h1,h2]
 ·simp[h1,h2,(OL h1 h2).1]
structure aF where
 agent:Int
 slot:Int
def aF.enc(x:aF):List D:=[.v (.int .i64 x.agent),.v (.int .i64 x.slot)]
theorem aF.bn(x:aF):x.enc.length=2:=rfl
theorem aF.us{w:World}{x:aF}{bs us}(h0:TN w x.enc bs us):us=[.int .i64 x.agent,.int .i64 x.slot]∧bs=[]:=by
 unfold aF.enc at h0;obtain⟨u0,rfl,h1⟩:=TN.jH h0;obtain⟨u1,rfl,h2⟩:=TN.jH h1;obtain⟨rfl,rfl⟩:=TN.end_ h2;exact⟨rfl,rfl⟩
theorem aF.yG{w:World}{x:aF}:TN w x.enc ([]) [.int .i64 x.agent,.int .i64 x.slot]:=by
 have h:=(show TN w [.v (.int .i64 x.agent),.v (.int .i64 x.slot)] _ _ from TN.nZ rfl (TN.nZ rfl (TN.done)))
 try simp only[qS]at h
 unfold aF.enc
 first|exact h|simpa only[qF]using h
theorem aF.tH{w:World}{xs:List aF}{bs:List Nat}{A:Option Addr}{n n' c:Nat}(h:T1 w (.sl n (xs.flatMap aF.enc)) bs (.slice A n' c))(hm:xs.length=n){k:Nat}(hk:k<n):
  ∃(b off:Nat) (x:aF),A=some ⟨b,off,none⟩∧b<w.heap.size∧Hid (xs[k]? =some x)∧w.cell? ⟨b,off+k*2,none⟩=some (.int .i64 x.agent)∧w.cell? ⟨b,off+k*2+1,none⟩=some (.int .i64 x.slot):=by
 obtain⟨_,b,off,p1,p2,p3,us,hA,_,hb,hc,ht⟩:=T1.at_ aF.bn h hm hk;obtain⟨rfl,_⟩:=aF.us ht;exact⟨b,off,xs[k],hA,hb,qB (hm▸hk),hc 0 _ rfl,hc 1 _ rfl⟩
theorem aF.Cn{x y:aF}(h0:x.agent=y.agent)(h1:x.slot=y.slot):x=y:=by
 cases x;cases y;simp_all
def aF.wt(_x:aF):Nat:=0
def aF.small(_x:aF):Prop:=True
structure aB where
 kind:Int
 level:Int
 value:Int
 data:(List Int)
 aH:(List aF)
def aB.enc(x:aB):List D:=[.v (.int .i64 x.kind),.v (.int .i64 x.level),.v (.int .i64 x.value),.sl x.data.length (x.data.flatMap bN),.sl x.aH.length (x.aH.flatMap aF.enc)]
theorem aB.bn(x:aB):x.enc.length=5:=rfl
theorem aB.us{w:World}{x:aB}{bs us}(h0:TN w x.enc bs us):∃(A3:Option Addr) (c3:Nat) (b3:List Nat) (A4:Option Addr) (c4:Nat) (b4:List Nat),us=[.int .i64 x.kind,.int .i64 x.level,.int .i64 x.value,.slice A3 x.data.length c3,.slice A4 x.aH.length c4]∧bs=b3++b4∧T1 w (.sl x.data.length (x.data.flatMap bN)) b3 (.slice A3 x.data.length c3)∧x.data.length≤c3∧c3≤maxLen∧T1 w (.sl x.aH.length (x.aH.flatMap aF.enc)) b4 (.slice A4 x.aH.length c4)∧x.aH.length≤c4∧c4≤maxLen:=by
 unfold aB.enc at h0;obtain⟨u0,rfl,h1⟩:=TN.jH h0;obtain⟨u1,rfl,h2⟩:=TN.jH h1;obtain⟨u2,rfl,h3⟩:=TN.jH h2;obtain⟨A3,c3,b3,r3,u3,rfl,rfl,t3,l3,m3,h4⟩:=TN.jU h3;obtain⟨A4,c4,b4,r4,u4,rfl,rfl,t4,l4,m4,h5⟩:=TN.jU h4;obtain⟨rfl,rfl⟩:=TN.end_ h5;exact⟨A3,c3,b3,A4,c4,b4,rfl,by simp,t3,l3,m3,t4,l4,m4⟩
theorem aB.yG{w:World}{x:aB}{A3 c3 b3}(t3:T1 w (.sl x.data.length (x.data.flatMap bN)) b3 (.slice A3 x.data.length c3)){A4 c4 b4}(t4:T1 w (.sl x.aH.length (x.aH.flatMap aF.enc)) b4 (.slice A4 x.aH.length c4)):TN w x.enc (b3++b4) [.int .i64 x.kind,.int .i64 x.level,.int .i64 x.value,.slice A3 x.data.length c3,.slice A4 x.aH.length c4]:=by
 have h:=(show TN w [.v (.int .i64 x.kind),.v (.int .i64 x.level),.v (.int .i64 x.value),.sl x.data.length (x.data.flatMap bN),.sl x.aH.length (x.aH.flatMap aF.enc)] _ _ from TN.nZ rfl (TN.nZ rfl (TN.nZ rfl (TN.sH t3 (TN.sH t4 (TN.done))))))
 try simp only[qS]at h
 unfold aB.enc
 first|exact h|simpa only[qF]using h
theorem aB.tH{w:World}{xs:List aB}{bs:List Nat}{A:Option Addr}{n n' c:Nat}(h:T1 w (.sl n (xs.flatMap aB.enc)) bs (.slice A n' c))(hm:xs.length=n){k:Nat}(hk:k<n):
  ∃(b off:Nat) (x:aB) (A3:Option Addr) (c3:Nat) (b3:List Nat) (A4:Option Addr) (c4:Nat) (b4:List Nat),A=some ⟨b,off,none⟩∧b<w.heap.size∧Hid (xs[k]? =some x)∧w.cell? ⟨b,off+k*5,none⟩=some (.int .i64 x.kind)∧w.cell? ⟨b,off+k*5+1,none⟩=some (.int .i64 x.level)∧w.cell? ⟨b,off+k*5+2,none⟩=some (.int .i64 x.value)∧w.cell? ⟨b,off+k*5+3,none⟩=some (.slice A3 x.data.length c3)∧w.cell? ⟨b,off+k*5+4,none⟩=some (.slice A4 x.aH.length c4)∧T1 w (.sl x.data.length (x.data.flatMap bN)) b3 (.slice A3 x.data.length c3)∧x.data.length≤c3∧c3≤maxLen∧T1 w (.sl x.aH.length (x.aH.flatMap aF.enc)) b4 (.slice A4 x.aH.length c4)∧x.aH.length≤c4∧c4≤maxLen:=by
 obtain⟨_,b,off,p1,p2,p3,us,hA,_,hb,hc,ht⟩:=T1.at_ aB.bn h hm hk;obtain⟨A3,c3,b3,A4,c4,b4,rfl,_,t3,l3,m3,t4,l4,m4⟩:=aB.us ht;exact⟨b,off,xs[k],A3,c3,b3,A4,c4,b4,hA,hb,qB (hm▸hk),hc 0 _ rfl,hc 1 _ rfl,hc 2 _ rfl,hc 3 _ rfl,hc 4 _ rfl,t3,l3,m3,t4,l4,m4⟩
theorem aB.Cn{x y:aB}(h0:x.kind=y.kind)(h1:x.level=y.level)(h2:x.value=y.value)(h3:x.data=y.data)(h4:x.aH=y.aH):x=y:=by
 cases x;cases y;simp_all
def aB.wt(x:aB):Nat:=vL (fun _=>0) x.data+vL (fun _=>0) x.aH
def aB.small(x:aB):Prop:=(x.data.length≤1048576)∧(x.aH.length≤1048576∧∀y∈x.aH,aF.small y)
structure aO where
 agents:(List aB)
def aO.enc(x:aO):List D:=[.sl x.agents.length (x.agents.flatMap aB.enc)]
theorem aO.bn(x:aO):x.enc.length=1:=rfl
theorem aO.us{w:World}{x:aO}{bs us}(h0:TN w x.enc bs us):∃(A0:Option Addr) (c0:Nat) (b0:List Nat),us=[.slice A0 x.agents.length c0]∧bs=b0∧T1 w (.sl x.agents.length (x.agents.flatMap aB.enc)) b0 (.slice A0 x.agents.length c0)∧x.agents.length≤c0∧c0≤maxLen:=by
 unfold aO.enc at h0;obtain⟨A0,c0,b0,r0,u0,rfl,rfl,t0,l0,m0,h1⟩:=TN.jU h0;obtain⟨rfl,rfl⟩:=TN.end_ h1;exact⟨A0,c0,b0,rfl,by simp,t0,l0,m0⟩
theorem aO.yG{w:World}{x:aO}{A0 c0 b0}(t0:T1 w (.sl x.agents.length (x.agents.flatMap aB.enc)) b0 (.slice A0 x.agents.length c0)):TN w x.enc (b0) [.slice A0 x.agents.length c0]:=by
 have h:=(show TN w [.sl x.agents.length (x.agents.flatMap aB.enc)] _ _ from TN.sH t0 (TN.done))
 try simp only[qS]at h
 unfold aO.enc
 first|exact h|simpa only[qF]using h
theorem aO.tH{w:World}{xs:List aO}{bs:List Nat}{A:Option Addr}{n n' c:Nat}(h:T1 w (.sl n (xs.flatMap aO.enc)) bs (.slice A n' c))(hm:xs.length=n){k:Nat}(hk:k<n):
  ∃(b off:Nat) (x:aO) (A0:Option Addr) (c0:Nat) (b0:List Nat),A=some ⟨b,off,none⟩∧b<w.heap.size∧Hid (xs[k]? =some x)∧w.cell? ⟨b,off+k,none⟩=some (.slice A0 x.agents.length c0)∧T1 w (.sl x.agents.length (x.agents.flatMap aB.enc)) b0 (.slice A0 x.agents.length c0)∧x.agents.length≤c0∧c0≤maxLen:=by
 obtain⟨_,b,off,p1,p2,p3,us,hA,_,hb,hc,ht⟩:=T1.at_ aO.bn h hm hk;obtain⟨A0,c0,b0,rfl,_,t0,l0,m0⟩:=aO.us ht;exact⟨b,off,xs[k],A0,c0,b0,hA,hb,qB (hm▸hk),by simpa using hc 0 _ rfl,t0,l0,m0⟩
theorem aO.Cn{x y:aO}(h0:x.agents=y.agents):x=y:=by
 cases x;cases y;simp_all
def aO.wt(x:aO):Nat:=vL aB.wt x.agents
def aO.small(x:aO):Prop:=(x.agents.length≤1048576∧∀y∈x.agents,aB.small y)
structure aY where
 step:Int
 def_:Int
 source:Int
def aY.enc(x:aY):List D:=[.v (.int .i64 x.step),.v (.int .i64 x.def_),.v (.int .i64 x.source)]
theorem aY.bn(x:aY):x.enc.length=3:=rfl
theorem aY.us{w:World}{x:aY}{bs us}(h0:TN w x.enc bs us):us=[.int .i64 x.step,.int .i64 x.def_,.int .i64 x.source]∧bs=[]:=by
 unfold aY.enc at h0;obtain⟨u0,rfl,h1⟩:=TN.jH h0;obtain⟨u1,rfl,h2⟩:=TN.jH h1;obtain⟨u2,rfl,h3⟩:=TN.jH h2;obtain⟨rfl,rfl⟩:=TN.end_ h3;exact⟨rfl,rfl⟩
theorem aY.yG{w:World}{x:aY}:TN w x.enc ([]) [.int .i64 x.step,.int .i64 x.def_,.int .i64 x.source]:=by
 have h:=(show TN w [.v (.int .i64 x.step),.v (.int .i64 x.def_),.v (.int .i64 x.source)] _ _ from TN.nZ rfl (TN.nZ rfl (TN.nZ rfl (TN.done))))
 try simp only[qS]at h
 unfold aY.enc
 first|exact h|simpa only[qF]using h
theorem aY.tH{w:World}{xs:List aY}{bs:List Nat}{A:Option Addr}{n n' c:Nat}(h:T1 w (.sl n (xs.flatMap aY.enc)) bs (.slice A n' c))(hm:xs.length=n){k:Nat}(hk:k<n):
  ∃(b off:Nat) (x:aY),A=some ⟨b,off,none⟩∧b<w.heap.size∧Hid (xs[k]? =some x)∧w.cell? ⟨b,off+k*3,none⟩=some (.int .i64 x.step)∧w.cell? ⟨b,off+k*3+1,none⟩=some (.int .i64 x.def_)∧w.cell? ⟨b,off+k*3+2,none⟩=some (.int .i64 x.source):=by
 obtain⟨_,b,off,p1,p2,p3,us,hA,_,hb,hc,ht⟩:=T1.at_ aY.bn h hm hk;obtain⟨rfl,_⟩:=aY.us ht;exact⟨b,off,xs[k],hA,hb,qB (hm▸hk),hc 0 _ rfl,hc 1 _ rfl,hc 2 _ rfl⟩
theorem aY.Cn{x y:aY}(h0:x.step=y.step)(h1:x.def_=y.def_)(h2:x.source=y.source):x=y:=by
 cases x;cases y;simp_all
def aY.wt(_x:aY):Nat:=0
def aY.small(_x:aY):Prop:=True
structure bZ where
 kind:Int
 value:Int
def bZ.enc(x:bZ):List D:=[.v (.int .i64 x.kind),.v (.int .i64 x.value)]
theorem bZ.bn(x:bZ):x.enc.length=2:=rfl
theorem bZ.us{w:World}{x:bZ}{bs us}(h0:TN w x.enc bs us):us=[.int .i64 x.kind,.int .i64 x.value]∧bs=[]:=by
 unfold bZ.enc at h0;obtain⟨u0,rfl,h1⟩:=TN.jH h0;obtain⟨u1,rfl,h2⟩:=TN.jH h1;obtain⟨rfl,rfl⟩:=TN.end_ h2;exact⟨rfl,rfl⟩
theorem bZ.yG{w:World}{x:bZ}:TN w x.enc ([]) [.int .i64 x.kind,.int .i64 x.value]:=by
 have h:=(show TN w [.v (.int .i64 x.kind),.v (.int .i64 x.value)] _ _ from TN.nZ rfl (TN.nZ rfl (TN.done)))
 try simp only[qS]at h
 unfold bZ.enc
 first|exact h|simpa only[qF]using h
theorem bZ.tH{w:World}{xs:List bZ}{bs:List Nat}{A:Option Addr}{n n' c:Nat}(h:T1 w (.sl n (xs.flatMap bZ.enc)) bs (.slice A n' c))(hm:xs.length=n){k:Nat}(hk:k<n):
  ∃(b off:Nat) (x:bZ),A=some ⟨b,off,none⟩∧b<w.heap.size∧Hid (xs[k]? =some x)∧w.cell? ⟨b,off+k*2,none⟩=some (.int .i64 x.kind)∧w.cell? ⟨b,off+k*2+1,none⟩=some (.int .i64 x.value):=by
 obtain⟨_,b,off,p1,p2,p3,us,hA,_,hb,hc,ht⟩:=T1.at_ bZ.bn h hm hk;obtain⟨rfl,_⟩:=bZ.us ht;exact⟨b,off,xs[k],hA,hb,qB (hm▸hk),hc 0 _ rfl,hc 1 _ rfl⟩
theorem bZ.Cn{x y:bZ}(h0:x.kind=y.kind)(h1:x.value=y.value):x=y:=by
 cases x;cases y;simp_all
def bZ.wt(_x:bZ):Nat:=0
def bZ.small(_x:bZ):Prop:=True
structure aK where
 at_:Int
 net:aO
 origins:(List aY)
def aK.enc(x:aK):List D:=[.v (.int .i64 x.at_),.sl x.net.agents.length (x.net.agents.flatMap aB.enc),.sl x.origins.length (x.origins.flatMap aY.enc)]
theorem aK.bn(x:aK):x.enc.length=3:=rfl
theorem aK.us{w:World}{x:aK}{bs us}(h0:TN w x.enc bs us):∃(A1:Option Addr) (c1:Nat) (b1:List Nat) (A2:Option Addr) (c2:Nat) (b2:List Nat),us=[.int .i64 x.at_,.slice A1 x.net.agents.length c1,.slice A2 x.origins.length c2]∧bs=b1++b2∧T1 w (.sl x.net.agents.length (x.net.agents.flatMap aB.enc)) b1 (.slice A1 x.net.agents.length c1)∧x.net.agents.length≤c1∧c1≤maxLen∧T1 w (.sl x.origins.length (x.origins.flatMap aY.enc)) b2 (.slice A2 x.origins.length c2)∧x.origins.length≤c2∧c2≤maxLen:=by
 unfold aK.enc at h0;obtain⟨u0,rfl,h1⟩:=TN.jH h0;obtain⟨A1,c1,b1,r1,u1,rfl,rfl,t1,l1,m1,h2⟩:=TN.jU h1;obtain⟨A2,c2,b2,r2,u2,rfl,rfl,t2,l2,m2,h3⟩:=TN.jU h2;obtain⟨rfl,rfl⟩:=TN.end_ h3;exact⟨A1,c1,b1,A2,c2,b2,rfl,by simp,t1,l1,m1,t2,l2,m2⟩
theorem aK.yG{w:World}{x:aK}{A1 c1 b1}(t1:T1 w (.sl x.net.agents.length (x.net.agents.flatMap aB.enc)) b1 (.slice A1 x.net.agents.length c1)){A2 c2 b2}(t2:T1 w (.sl x.origins.length (x.origins.flatMap aY.enc)) b2 (.slice A2 x.origins.length c2)):TN w x.enc (b1++b2) [.int .i64 x.at_,.slice A1 x.net.agents.length c1,.slice A2 x.origins.length c2]:=by
 have h:=(show TN w [.v (.int .i64 x.at_),.sl x.net.agents.length (x.net.agents.flatMap aB.enc),.sl x.origins.length (x.origins.flatMap aY.enc)] _ _ from TN.nZ rfl (TN.sH t1 (TN.sH t2 (TN.done))))
 try simp only[qS]at h
 unfold aK.enc
 first|exact h|simpa only[qF]using h
theorem aK.tH{w:World}{xs:List aK}{bs:List Nat}{A:Option Addr}{n n' c:Nat}(h:T1 w (.sl n (xs.flatMap aK.enc)) bs (.slice A n' c))(hm:xs.length=n){k:Nat}(hk:k<n):
  ∃(b off:Nat) (x:aK) (A1:Option Addr) (c1:Nat) (b1:List Nat) (A2:Option Addr) (c2:Nat) (b2:List Nat),A=some ⟨b,off,none⟩∧b<w.heap.size∧Hid (xs[k]? =some x)∧w.cell? ⟨b,off+k*3,none⟩=some (.int .i64 x.at_)∧w.cell? ⟨b,off+k*3+1,none⟩=some (.slice A1 x.net.agents.length c1)∧w.cell? ⟨b,off+k*3+2,none⟩=some (.slice A2 x.origins.length c2)∧T1 w (.sl x.net.agents.length (x.net.agents.flatMap aB.enc)) b1 (.slice A1 x.net.agents.length c1)∧x.net.agents.length≤c1∧c1≤maxLen∧T1 w (.sl x.origins.length (x.origins.flatMap aY.enc)) b2 (.slice A2 x.origins.length c2)∧x.origins.length≤c2∧c2≤maxLen:=by
 obtain⟨_,b,off,p1,p2,p3,us,hA,_,hb,hc,ht⟩:=T1.at_ aK.bn h hm hk;obtain⟨A1,c1,b1,A2,c2,b2,rfl,_,t1,l1,m1,t2,l2,m2⟩:=aK.us ht;exact⟨b,off,xs[k],A1,c1,b1,A2,c2,b2,hA,hb,qB (hm▸hk),hc 0 _ rfl,hc 1 _ rfl,hc 2 _ rfl,t1,l1,m1,t2,l2,m2⟩
theorem aK.Cn{x y:aK}(h0:x.at_=y.at_)(h1:x.net=y.net)(h2:x.origins=y.origins):x=y:=by
 cases x;cases y;simp_all
def aK.wt(x:aK):Nat:=x.net.wt+vL (fun _=>0) x.origins
def aK.small(x:aK):Prop:=(x.net.small)∧(x.origins.length≤1048576∧∀y∈x.origins,aY.small y)
structure bI where
 book:(List aO)
 schedule:(List Int)
 every:Int
 at_:Int
 net:aO
 origins:(List aY)
 breaks:(List bZ)
 points:(List aK)
def bI.enc(x:bI):List D:=[.sl x.book.length (x.book.flatMap aO.enc),.sl x.schedule.length (x.schedule.flatMap bN),.v (.int .i64 x.every),.v (.int .i64 x.at_),.sl x.net.agents.length (x.net.agents.flatMap aB.enc),.sl x.origins.length (x.origins.flatMap aY.enc),.sl x.breaks.length (x.breaks.flatMap bZ.enc),.sl x.points.length (x.points.flatMap aK.enc)]
theorem bI.bn(x:bI):x.enc.length=8:=rfl
theorem bI.us{w:World}{x:bI}{bs us}(h0:TN w x.enc bs us):∃(A0:Option Addr) (c0:Nat) (b0:List Nat) (A1:Option Addr) (c1:Nat) (b1:List Nat) (A4:Option Addr) (c4:Nat) (b4:List Nat) (A5:Option Addr) (c5:Nat) (b5:List Nat) (A6:Option Addr) (c6:Nat) (b6:List Nat) (A7:Option Addr) (c7:Nat) (b7:List Nat),us=[.slice A0 x.book.length c0,.slice A1 x.schedule.length c1,.int .i64 x.every,.int .i64 x.at_,.slice A4 x.net.agents.length c4,.slice A5 x.origins.length c5,.slice A6 x.breaks.length c6,.slice A7 x.points.length c7]∧bs=b0++b1++b4++b5++b6++b7∧T1 w (.sl x.book.length (x.book.flatMap aO.enc)) b0 (.slice A0 x.book.length c0)∧x.book.length≤c0∧c0≤maxLen∧T1 w (.sl x.schedule.length (x.schedule.flatMap bN)) b1 (.slice A1 x.schedule.length c1)∧x.schedule.length≤c1∧c1≤maxLen∧T1 w (.sl x.net.agents.length (x.net.agents.flatMap aB.enc)) b4 (.slice A4 x.net.agents.length c4)∧x.net.agents.length≤c4∧c4≤maxLen∧T1 w (.sl x.origins.length (x.origins.flatMap aY.enc)) b5 (.slice A5 x.origins.length c5)∧x.origins.length≤c5∧c5≤maxLen∧T1 w (.sl x.breaks.length (x.breaks.flatMap bZ.enc)) b6 (.slice A6 x.breaks.length c6)∧x.breaks.length≤c6∧c6≤maxLen∧T1 w (.sl x.points.length (x.points.flatMap aK.enc)) b7 (.slice A7 x.points.length c7)∧x.points.length≤c7∧c7≤maxLen:=by
 unfold bI.enc at h0;obtain⟨A0,c0,b0,r0,u0,rfl,rfl,t0,l0,m0,h1⟩:=TN.jU h0;obtain⟨A1,c1,b1,r1,u1,rfl,rfl,t1,l1,m1,h2⟩:=TN.jU h1;obtain⟨u2,rfl,h3⟩:=TN.jH h2;obtain⟨u3,rfl,h4⟩:=TN.jH h3;obtain⟨A4,c4,b4,r4,u4,rfl,rfl,t4,l4,m4,h5⟩:=TN.jU h4;obtain⟨A5,c5,b5,r5,u5,rfl,rfl,t5,l5,m5,h6⟩:=TN.jU h5;obtain⟨A6,c6,b6,r6,u6,rfl,rfl,t6,l6,m6,h7⟩:=TN.jU h6;obtain⟨A7,c7,b7,r7,u7,rfl,rfl,t7,l7,m7,h8⟩:=TN.jU h7;obtain⟨rfl,rfl⟩:=TN.end_ h8;exact⟨A0,c0,b0,A1,c1,b1,A4,c4,b4,A5,c5,b5,A6,c6,b6,A7,c7,b7,rfl,by simp,t0,l0,m0,t1,l1,m1,t4,l4,m4,t5,l5,m5,t6,l6,m6,t7,l7,m7⟩
theorem bI.yG{w:World}{x:bI}{A0 c0 b0}(t0:T1 w (.sl x.book.length (x.book.flatMap aO.enc)) b0 (.slice A0 x.book.length c0)){A1 c1 b1}(t1:T1 w (.sl x.schedule.length (x.schedule.flatMap bN)) b1 (.slice A1 x.schedule.length c1)){A4 c4 b4}(t4:T1 w (.sl x.net.agents.length (x.net.agents.flatMap aB.enc)) b4 (.slice A4 x.net.agents.length c4)){A5 c5 b5}(t5:T1 w (.sl x.origins.length (x.origins.flatMap aY.enc)) b5 (.slice A5 x.origins.length c5)){A6 c6 b6}(t6:T1 w (.sl x.breaks.length (x.breaks.flatMap bZ.enc)) b6 (.slice A6 x.breaks.length c6)){A7 c7 b7}(t7:T1 w (.sl x.points.length (x.points.flatMap aK.enc)) b7 (.slice A7 x.points.length c7)):TN w x.enc (b0++b1++b4++b5++b6++b7) [.slice A0 x.book.length c0,.slice A1 x.schedule.length c1,.int .i64 x.every,.int .i64 x.at_,.slice A4 x.net.agents.length c4,.slice A5 x.origins.length c5,.slice A6 x.breaks.length c6,.slice A7 x.points.length c7]:=by
 have h:=(show TN w [.sl x.book.length (x.book.flatMap aO.enc),.sl x.schedule.length (x.schedule.flatMap bN),.v (.int .i64 x.every),.v (.int .i64 x.at_),.sl x.net.agents.length (x.net.agents.flatMap aB.enc),.sl x.origins.length (x.origins.flatMap aY.enc),.sl x.breaks.length (x.breaks.flatMap bZ.enc),.sl x.points.length (x.points.flatMap aK.enc)] _ _ from TN.sH t0 (TN.sH t1 (TN.nZ rfl (TN.nZ rfl (TN.sH t4 (TN.sH t5 (TN.sH t6 (TN.sH t7 (TN.done)))))))))
 try simp only[qS]at h
 unfold bI.enc
 first|exact h|simpa only[qF]using h
theorem bI.tH{w:World}{xs:List bI}{bs:List Nat}{A:Option Addr}{n n' c:Nat}(h:T1 w (.sl n (xs.flatMap bI.enc)) bs (.slice A n' c))(hm:xs.length=n){k:Nat}(hk:k<n):
  ∃(b off:Nat) (x:bI) (A0:Option Addr) (c0:Nat) (b0:List Nat) (A1:Option Addr) (c1:Nat) (b1:List Nat) (A4:Option Addr) (c4:Nat) (b4:List Nat) (A5:Option Addr) (c5:Nat) (b5:List Nat) (A6:Option Addr) (c6:Nat) (b6:List Nat) (A7:Option Addr) (c7:Nat) (b7:List Nat),A=some ⟨b,off,none⟩∧b<w.heap.size∧Hid (xs[k]? =some x)∧w.cell? ⟨b,off+k*8,none⟩=some (.slice A0 x.book.length c0)∧w.cell? ⟨b,off+k*8+1,none⟩=some (.slice A1 x.schedule.length c1)∧w.cell? ⟨b,off+k*8+2,none⟩=some (.int .i64 x.every)∧w.cell? ⟨b,off+k*8+3,none⟩=some (.int .i64 x.at_)∧w.cell? ⟨b,off+k*8+4,none⟩=some (.slice A4 x.net.agents.length c4)∧w.cell? ⟨b,off+k*8+5,none⟩=some (.slice A5 x.origins.length c5)∧w.cell? ⟨b,off+k*8+6,none⟩=some (.slice A6 x.breaks.length c6)∧w.cell? ⟨b,off+k*8+7,none⟩=some (.slice A7 x.points.length c7)∧T1 w (.sl x.book.length (x.book.flatMap aO.enc)) b0 (.slice A0 x.book.length c0)∧x.book.length≤c0∧c0≤maxLen∧T1 w (.sl x.schedule.length (x.schedule.flatMap bN)) b1 (.slice A1 x.schedule.length c1)∧x.schedule.length≤c1∧c1≤maxLen∧T1 w (.sl x.net.agents.length (x.net.agents.flatMap aB.enc)) b4 (.slice A4 x.net.agents.length c4)∧x.net.agents.length≤c4∧c4≤maxLen∧T1 w (.sl x.origins.length (x.origins.flatMap aY.enc)) b5 (.slice A5 x.origins.length c5)∧x.origins.length≤c5∧c5≤maxLen∧T1 w (.sl x.breaks.length (x.breaks.flatMap bZ.enc)) b6 (.slice A6 x.breaks.length c6)∧x.breaks.length≤c6∧c6≤maxLen∧T1 w (.sl x.points.length (x.points.flatMap aK.enc)) b7 (.slice A7 x.points.length c7)∧x.points.length≤c7∧c7≤maxLen:=by
 obtain⟨_,b,off,p1,p2,p3,us,hA,_,hb,hc,ht⟩:=T1.at_ bI.bn h hm hk;obtain⟨A0,c0,b0,A1,c1,b1,A4,c4,b4,A5,c5,b5,A6,c6,b6,A7,c7,b7,rfl,_,t0,l0,m0,t1,l1,m1,t4,l4,m4,t5,l5,m5,t6,l6,m6,t7,l7,m7⟩:=bI.us ht;exact⟨b,off,xs[k],A0,c0,b0,A1,c1,b1,A4,c4,b4,A5,c5,b5,A6,c6,b6,A7,c7,b7,hA,hb,qB (hm▸hk),hc 0 _ rfl,hc 1 _ rfl,hc 2 _ rfl,hc 3 _ rfl,hc 4 _ rfl,hc 5 _ rfl,hc 6 _ rfl,hc 7 _ rfl,t0,l0,m0,t1,l1,m1,t4,l4,m4,t5,l5,m5,t6,l6,m6,t7,l7,m7⟩
theorem bI.Cn{x y:bI}(h0:x.book=y.book)(h1:x.schedule=y.schedule)(h2:x.every=y.every)(h3:x.at_=y.at_)(h4:x.net=y.net)(h5:x.origins=y.origins)(h6:x.breaks=y.breaks)(h7:x.points=y.points):x=y:=by
 cases x;cases y;simp_all
def bI.wt(x:bI):Nat:=vL aO.wt x.book+vL (fun _=>0) x.schedule+x.net.wt+vL (fun _=>0) x.origins+vL (fun _=>0) x.breaks+vL aK.wt x.points
def bI.small(x:bI):Prop:=(x.book.length≤1048576∧∀y∈x.book,aO.small y)∧(x.schedule.length≤1048576)∧(x.net.small)∧(x.origins.length≤1048576∧∀y∈x.origins,aY.small y)∧(x.breaks.length≤1048576∧∀y∈x.breaks,bZ.small y)∧(x.points.length≤1048576∧∀y∈x.points,aK.small y)
theorem aF.pt{w:World}{x:aF}{b o bs}(h:gu w b o x.enc bs):Kn w b (o) (.int .i64 x.agent)∧Kn w b (o+1) (.int .i64 x.slot):=by
 obtain⟨hlt,us,hc,ht⟩:=h;obtain⟨rfl,rfl⟩:=aF.us ht;exact⟨hc.always hlt 0 _ rfl,hc.always hlt 1 _ rfl⟩
theorem aB.pt{w:World}{x:aB}{b o bs}(h:gu w b o x.enc bs):∃(A3:Option Addr) (c3:Nat) (b3:List Nat) (A4:Option Addr) (c4:Nat) (b4:List Nat),Kn w b (o) (.int .i64 x.kind)∧Kn w b (o+1) (.int .i64 x.level)∧Kn w b (o+2) (.int .i64 x.value)∧Kn w b (o+3) (.slice A3 x.data.length c3)∧Kn w b (o+4) (.slice A4 x.aH.length c4)∧T1 w (.sl x.data.length (x.data.flatMap bN)) b3 (.slice A3 x.data.length c3)∧T1 w (.sl x.aH.length (x.aH.flatMap aF.enc)) b4 (.slice A4 x.aH.length c4):=by
 obtain⟨hlt,us,hc,ht⟩:=h;obtain⟨A3,c3,b3,A4,c4,b4,rfl,rfl,t3,l3,m3,t4,l4,m4⟩:=aB.us ht;exact⟨_,_,_,_,_,_,hc.always hlt 0 _ rfl,hc.always hlt 1 _ rfl,hc.always hlt 2 _ rfl,hc.always hlt 3 _ rfl,hc.always hlt 4 _ rfl,t3,t4⟩
theorem aO.pt{w:World}{x:aO}{b o bs}(h:gu w b o x.enc bs):∃(A0:Option Addr) (c0:Nat) (b0:List Nat),Kn w b (o) (.slice A0 x.agents.length c0)∧T1 w (.sl x.agents.length (x.agents.flatMap aB.enc)) b0 (.slice A0 x.agents.length c0):=by
 obtain⟨hlt,us,hc,ht⟩:=h;obtain⟨A0,c0,b0,rfl,rfl,t0,l0,m0⟩:=aO.us ht;exact⟨_,_,_,hc.always hlt 0 _ rfl,t0⟩
theorem aY.pt{w:World}{x:aY}{b o bs}(h:gu w b o x.enc bs):Kn w b (o) (.int .i64 x.step)∧Kn w b (o+1) (.int .i64 x.def_)∧Kn w b (o+2) (.int .i64 x.source):=by
 obtain⟨hlt,us,hc,ht⟩:=h;obtain⟨rfl,rfl⟩:=aY.us ht;exact⟨hc.always hlt 0 _ rfl,hc.always hlt 1 _ rfl,hc.always hlt 2 _ rfl⟩
theorem bZ.pt{w:World}{x:bZ}{b o bs}(h:gu w b o x.enc bs):Kn w b (o) (.int .i64 x.kind)∧Kn w b (o+1) (.int .i64 x.value):=by
 obtain⟨hlt,us,hc,ht⟩:=h;obtain⟨rfl,rfl⟩:=bZ.us ht;exact⟨hc.always hlt 0 _ rfl,hc.always hlt 1 _ rfl⟩
theorem aK.pt{w:World}{x:aK}{b o bs}(h:gu w b o x.enc bs):∃(A1:Option Addr) (c1:Nat) (b1:List Nat) (A2:Option Addr) (c2:Nat) (b2:List Nat),Kn w b (o) (.int .i64 x.at_)∧Kn w b (o+1) (.slice A1 x.net.agents.length c1)∧Kn w b (o+2) (.slice A2 x.origins.length c2)∧T1 w (.sl x.net.agents.length (x.net.agents.flatMap aB.enc)) b1 (.slice A1 x.net.agents.length c1)∧T1 w (.sl x.origins.length (x.origins.flatMap aY.enc)) b2 (.slice A2 x.origins.length c2):=by
 obtain⟨hlt,us,hc,ht⟩:=h;obtain⟨A1,c1,b1,A2,c2,b2,rfl,rfl,t1,l1,m1,t2,l2,m2⟩:=aK.us ht;exact⟨_,_,_,_,_,_,hc.always hlt 0 _ rfl,hc.always hlt 1 _ rfl,hc.always hlt 2 _ rfl,t1,t2⟩
theorem bI.pt{w:World}{x:bI}{b o bs}(h:gu w b o x.enc bs):∃(A0:Option Addr) (c0:Nat) (b0:List Nat) (A1:Option Addr) (c1:Nat) (b1:List Nat) (A4:Option Addr) (c4:Nat) (b4:List Nat) (A5:Option Addr) (c5:Nat) (b5:List Nat) (A6:Option Addr) (c6:Nat) (b6:List Nat) (A7:Option Addr) (c7:Nat) (b7:List Nat),Kn w b (o) (.slice A0 x.book.length c0)∧Kn w b (o+1) (.slice A1 x.schedule.length c1)∧Kn w b (o+2) (.int .i64 x.every)∧Kn w b (o+3) (.int .i64 x.at_)∧Kn w b (o+4) (.slice A4 x.net.agents.length c4)∧Kn w b (o+5) (.slice A5 x.origins.length c5)∧Kn w b (o+6) (.slice A6 x.breaks.length c6)∧Kn w b (o+7) (.slice A7 x.points.length c7)∧T1 w (.sl x.book.length (x.book.flatMap aO.enc)) b0 (.slice A0 x.book.length c0)∧T1 w (.sl x.schedule.length (x.schedule.flatMap bN)) b1 (.slice A1 x.schedule.length c1)∧T1 w (.sl x.net.agents.length (x.net.agents.flatMap aB.enc)) b4 (.slice A4 x.net.agents.length c4)∧T1 w (.sl x.origins.length (x.origins.flatMap aY.enc)) b5 (.slice A5 x.origins.length c5)∧T1 w (.sl x.breaks.length (x.breaks.flatMap bZ.enc)) b6 (.slice A6 x.breaks.length c6)∧T1 w (.sl x.points.length (x.points.flatMap aK.enc)) b7 (.slice A7 x.points.length c7):=by
 obtain⟨hlt,us,hc,ht⟩:=h;obtain⟨A0,c0,b0,A1,c1,b1,A4,c4,b4,A5,c5,b5,A6,c6,b6,A7,c7,b7,rfl,rfl,t0,l0,m0,t1,l1,m1,t4,l4,m4,t5,l5,m5,t6,l6,m6,t7,l7,m7⟩:=bI.us ht;exact⟨_,_,_,_,_,_,_,_,_,_,_,_,_,_,_,_,_,_,hc.always hlt 0 _ rfl,hc.always hlt 1 _ rfl,hc.always hlt 2 _ rfl,hc.always hlt 3 _ rfl,hc.always hlt 4 _ rfl,hc.always hlt 5 _ rfl,hc.always hlt 6 _ rfl,hc.always hlt 7 _ rfl,t0,t1,t4,t5,t6,t7⟩
theorem aF.OD{w:World}{x:aF}{b bs}(h:gu w b 0 x.enc bs):Kn w b 0 (.int .i64 x.agent)∧Kn w b 1 (.int .i64 x.slot):=by
 have:=aF.pt h;simpa only[Nat.zero_add]using this
theorem aB.OD{w:World}{x:aB}{b bs}(h:gu w b 0 x.enc bs):∃(A3:Option Addr) (c3:Nat) (b3:List Nat) (A4:Option Addr) (c4:Nat) (b4:List Nat),Kn w b 0 (.int .i64 x.kind)∧Kn w b 1 (.int .i64 x.level)∧Kn w b 2 (.int .i64 x.value)∧Kn w b 3 (.slice A3 x.data.length c3)∧Kn w b 4 (.slice A4 x.aH.length c4)∧T1 w (.sl x.data.length (x.data.flatMap bN)) b3 (.slice A3 x.data.length c3)∧T1 w (.sl x.aH.length (x.aH.flatMap aF.enc)) b4 (.slice A4 x.aH.length c4):=by
 have:=aB.pt h;simpa only[Nat.zero_add]using this
theorem aO.OD{w:World}{x:aO}{b bs}(h:gu w b 0 x.enc bs):∃(A0:Option Addr) (c0:Nat) (b0:List Nat),Kn w b 0 (.slice A0 x.agents.length c0)∧T1 w (.sl x.agents.length (x.agents.flatMap aB.enc)) b0 (.slice A0 x.agents.length c0):=by
 have:=aO.pt h;simpa only[Nat.zero_add]using this
theorem aY.OD{w:World}{x:aY}{b bs}(h:gu w b 0 x.enc bs):Kn w b 0 (.int .i64 x.step)∧Kn w b 1 (.int .i64 x.def_)∧Kn w b 2 (.int .i64 x.source):=by
 have:=aY.pt h;simpa only[Nat.zero_add]using this
theorem bZ.OD{w:World}{x:bZ}{b bs}(h:gu w b 0 x.enc bs):Kn w b 0 (.int .i64 x.kind)∧Kn w b 1 (.int .i64 x.value):=by
 have:=bZ.pt h;simpa only[Nat.zero_add]using this
theorem aK.OD{w:World}{x:aK}{b bs}(h:gu w b 0 x.enc bs):∃(A1:Option Addr) (c1:Nat) (b1:List Nat) (A2:Option Addr) (c2:Nat) (b2:List Nat),Kn w b 0 (.int .i64 x.at_)∧Kn w b 1 (.slice A1 x.net.agents.length c1)∧Kn w b 2 (.slice A2 x.origins.length c2)∧T1 w (.sl x.net.agents.length (x.net.agents.flatMap aB.enc)) b1 (.slice A1 x.net.agents.length c1)∧T1 w (.sl x.origins.length (x.origins.flatMap aY.enc)) b2 (.slice A2 x.origins.length c2):=by
 have:=aK.pt h;simpa only[Nat.zero_add]using this
theorem bI.OD{w:World}{x:bI}{b bs}(h:gu w b 0 x.enc bs):∃(A0:Option Addr) (c0:Nat) (b0:List Nat) (A1:Option Addr) (c1:Nat) (b1:List Nat) (A4:Option Addr) (c4:Nat) (b4:List Nat) (A5:Option Addr) (c5:Nat) (b5:List Nat) (A6:Option Addr) (c6:Nat) (b6:List Nat) (A7:Option Addr) (c7:Nat) (b7:List Nat),Kn w b 0 (.slice A0 x.book.length c0)∧Kn w b 1 (.slice A1 x.schedule.length c1)∧Kn w b 2 (.int .i64 x.every)∧Kn w b 3 (.int .i64 x.at_)∧Kn w b 4 (.slice A4 x.net.agents.length c4)∧Kn w b 5 (.slice A5 x.origins.length c5)∧Kn w b 6 (.slice A6 x.breaks.length c6)∧Kn w b 7 (.slice A7 x.points.length c7)∧T1 w (.sl x.book.length (x.book.flatMap aO.enc)) b0 (.slice A0 x.book.length c0)∧T1 w (.sl x.schedule.length (x.schedule.flatMap bN)) b1 (.slice A1 x.schedule.length c1)∧T1 w (.sl x.net.agents.length (x.net.agents.flatMap aB.enc)) b4 (.slice A4 x.net.agents.length c4)∧T1 w (.sl x.origins.length (x.origins.flatMap aY.enc)) b5 (.slice A5 x.origins.length c5)∧T1 w (.sl x.breaks.length (x.breaks.flatMap bZ.enc)) b6 (.slice A6 x.breaks.length c6)∧T1 w (.sl x.points.length (x.points.flatMap aK.enc)) b7 (.slice A7 x.points.length c7):=by
 have:=bI.pt h;simpa only[Nat.zero_add]using this
end Go.Tr
namespace Go.Tr
def aF.cells(p:aF):List Value:=[.int .i64 p.agent,.int .i64 p.slot]
end Go.Tr
namespace Go.Tr
open Go Go.RowKit
theorem _root_.Go.Calls.q{P:Program}{f:FuncId}{args:Array Value}{W:World}{v:Value}(h:Calls P f args W fun e w'=>e=.returned v∧W=w'):Calls P f args W fun e w'=>e=.returned v∧Ext W w':=
 h.mono fun _ _ ⟨a,b⟩=>⟨a,b▸Below.refl _ _⟩
def eZ(k p:Int):Int:=if k==9 then p-1 else 0
def fieldsOf(a:aB):Int:=eZ a.kind a.aH.length
def jY(n:Int):Bool:=dS n 0 23
def qy(n:Int):Bool:=dS n (-2147483648) 2147483647
def jT(n:Int):Bool:=dS n 1 6
def dZ(l:List Int)(k:Nat):Int:=l.getD k 0
theorem Cz{l:List Int}{k:Nat}{x:Int}(h:Hid (l[k]? =some x)):dZ l k=x:=by unfold dZ;rw[qC,h.out];rfl
def kL(l:List Int):Bool:=dV l.length fun k=>jY (dZ l k)
def gI(a:aB):Bool:=
 if a.kind==6 then((a.data.length:Int)==0)&&qy a.value
 else if a.kind==7 then((a.data.length:Int)==0)&&jT a.value
 else if a.kind==8 then((a.data.length:Int)==1)&&jT a.value&&qy (dZ a.data 0)
 else if a.kind==9 then((a.data.length:Int)==0)&&dS a.value 0 3
 else if a.kind==12 then((a.data.length:Int)==0)&&jY a.value
 else if a.kind==10 then a.value==0&&dS a.data.length 1 4&&kL a.data
 else if a.kind==11 then a.value==0&&((a.data.length:Int)==2)&&kL a.data
 else a.value==0&&((a.data.length:Int)==0)
def dO(a:aB):Bool:=decide (0<cZ a.kind (fieldsOf a))&&(a.aH.length:Int)==cZ a.kind (fieldsOf a)&&cB a.kind a.level&&gI a
def QK:aB:=⟨0,0,0,[],[]⟩
def TM:aF:=⟨0,0⟩
def gY(l:List aB)(k:Nat):aB:=l.getD k QK
def jD(l:List aF)(k:Nat):aF:=l.getD k TM
theorem GH{α:Type}{l:List α}{k:Nat}{x d:α}(h:Hid (l[k]? =some x)):l.getD k d=x:=by rw[qC,h.out];rfl
theorem jZ{l:List aB}{k:Nat}{x:aB}(h:Hid (l[k]? =some x)):gY l k=x:=GH h
theorem um{l:List aF}{k:Nat}{x:aF}(h:Hid (l[k]? =some x)):jD l k=x:=GH h
def gZ(l:List aB)(k:Nat):Bool:=dO (gY l k)&&((gY l k).kind==1)==((k:Int)==0)
def fJ(l:List aB):Bool:=dS l.length 1 600&&dV l.length (gZ l)
def iE(l:List aB)(p:aF):Bool:=dS p.agent 0 ((l.length:Int)-1)&&dS p.slot 0 (((gY l p.agent.toNat).aH.length:Int)-1)
def rC(l:List aB)(p:aF):aF:=jD (gY l p.agent.toNat).aH p.slot.toNat
noncomputable def oM(l:List aB)(me p:aF):Bool:= !vF p me&&iE l p&&vF (rC l p) me
noncomputable def pI(l:List aB)(i:Nat):Bool:=dV (gY l i).aH.length fun k=>oM l ⟨i,k⟩ (jD (gY l i).aH k)
noncomputable def iG(n:aO):Bool:=fJ n.agents&&dV n.agents.length (pI n.agents)
theorem JI{l:List aB}{p:aF}(h:iE l p=true):∃(i k:Nat) (a:aB) (q:aF),p=⟨i,k⟩∧i<l.length∧Hid (l[i]? =some a)∧k<a.aH.length∧Hid (a.aH[k]? =some q)∧rC l p=q:=by
 unfold iE at h;rw[qD]at h;obtain⟨h1,h2⟩:=h;have h1:=jS h1;have h2:=jS h2;obtain⟨pa,ps⟩:=p;simp only at h1 h2;obtain⟨i,rfl⟩:=Int.eq_ofNat_of_zero_le h1.1;obtain⟨k,rfl⟩:=Int.eq_ofNat_of_zero_le h2.1;have hi:i<l.length:=by omega
 have ha:Hid (l[i]? =some l[i]):=qB hi;rw[qK,jZ ha]at h2;have hk:k<(l[i]).aH.length:=by omega
 have hq:Hid ((l[i]).aH[k]? =some (l[i]).aH[k]):=qB hk;refine⟨i,k,l[i],_,rfl,hi,ha,hk,hq,?_⟩;unfold rC;rw[qK,qK,jZ ha,um hq]
def VO:aO:=⟨[]⟩
def lW(l:List aO)(k:Nat):aO:=l.getD k VO
theorem Js{l:List aO}{k:Nat}{x:aO}(h:Hid (l[k]? =some x)):lW l k=x:=GH h
noncomputable def lH(l:List aO):Bool:=decide ((l.length:Int)≤24)&&dV l.length fun k=>iG (lW l k)
def dM(l:List Int):Bool:=decide ((l.length:Int)≤200)&&dV l.length fun k=>dS (dZ l k) 0 600
end Go.Tr
