
/- Data of the program as structures, and how they lie in memory. No program in it. Printed by gen_fam.py. -/
import Derived.Test.YtgiceoidjipgmaaGreatSc
set_option linter.unusedSimpArgs false
set_option linter.unusedVariables false
namespace Go.Tr
open Go Go.RowKit
structure aN where
 tag:Int
 at_:Int
def aN.enc(x:aN):List D:=[.v (.int .i64 x.tag),.v (.int .i64 x.at_)]
theorem aN.aT(x:aN):x.enc.length=2:=rfl
theorem aN.us{w:World}{x:aN}{bs us}(h0:TN w x.enc bs us):us=[.int .i64 x.tag,.int .i64 x.at_]∧bs=[]:=by
 unfold aN.enc at h0;obtain⟨u0,rfl,h1⟩:=TN.dF h0;obtain⟨u1,rfl,h2⟩:=TN.dF h1;obtain⟨rfl,rfl⟩:=TN.end_ h2;exact⟨rfl,rfl⟩
theorem aN.kK{w:World}{x:aN}:TN w x.enc ([]) [.int .i64 x.tag,.int .i64 x.at_]:=by
 have h:=(show TN w [.v (.int .i64 x.tag),.v (.int .i64 x.at_)] _ _ from TN.fH rfl (TN.fH rfl (TN.done)))
 try simp only[List.append_nil]at h
 unfold aN.enc
 first|exact h|simpa only[List.append_assoc]using h
theorem aN.iT{w:World}{xs:List aN}{bs:List Nat}{A:Option Addr}{n n' c:Nat}(h:T1 w (.sl n (xs.flatMap aN.enc)) bs (.slice A n' c))(hm:xs.length=n){k:Nat}(hk:k<n):
  ∃(b off:Nat) (x:aN),A=some ⟨b,off,none⟩∧b<w.heap.size∧Hid (xs[k]? =some x)∧w.cell? ⟨b,off+k*2,none⟩=some (.int .i64 x.tag)∧w.cell? ⟨b,off+k*2+1,none⟩=some (.int .i64 x.at_):=by
 obtain⟨_,b,off,p1,p2,p3,us,hA,_,hb,hc,ht⟩:=T1.at_ aN.aT h hm hk;obtain⟨rfl,_⟩:=aN.us ht;exact⟨b,off,xs[k],hA,hb,List.getElem?_eq_getElem (hm▸hk),hc 0 _ rfl,hc 1 _ rfl⟩
theorem aN.kZ{x y:aN}(h0:x.tag=y.tag)(h1:x.at_=y.at_):x=y:=by
 cases x;cases y;simp_all
def aN.wt(_x:aN):Nat:=0
def aN.small(_x:aN):Prop:=True
structure aK where
 kind:Int
 level:Int
 value:Int
 data:(List Int)
 words:(List aN)
def aK.enc(x:aK):List D:=[.v (.int .i64 x.kind),.v (.int .i64 x.level),.v (.int .i64 x.value),.sl x.data.length (x.data.flatMap aP),.sl x.words.length (x.words.flatMap aN.enc)]
theorem aK.aT(x:aK):x.enc.length=5:=rfl
theorem aK.us{w:World}{x:aK}{bs us}(h0:TN w x.enc bs us):∃(A3:Option Addr) (c3:Nat) (b3:List Nat) (A4:Option Addr) (c4:Nat) (b4:List Nat),us=[.int .i64 x.kind,.int .i64 x.level,.int .i64 x.value,.slice A3 x.data.length c3,.slice A4 x.words.length c4]∧bs=b3++b4∧T1 w (.sl x.data.length (x.data.flatMap aP)) b3 (.slice A3 x.data.length c3)∧x.data.length≤c3∧c3≤maxLen∧T1 w (.sl x.words.length (x.words.flatMap aN.enc)) b4 (.slice A4 x.words.length c4)∧x.words.length≤c4∧c4≤maxLen:=by
 unfold aK.enc at h0;obtain⟨u0,rfl,h1⟩:=TN.dF h0;obtain⟨u1,rfl,h2⟩:=TN.dF h1;obtain⟨u2,rfl,h3⟩:=TN.dF h2;obtain⟨A3,c3,b3,r3,u3,rfl,rfl,t3,l3,m3,h4⟩:=TN.dW h3;obtain⟨A4,c4,b4,r4,u4,rfl,rfl,t4,l4,m4,h5⟩:=TN.dW h4;obtain⟨rfl,rfl⟩:=TN.end_ h5;exact⟨A3,c3,b3,A4,c4,b4,rfl,by simp,t3,l3,m3,t4,l4,m4⟩
theorem aK.kK{w:World}{x:aK}{A3 c3 b3}(t3:T1 w (.sl x.data.length (x.data.flatMap aP)) b3 (.slice A3 x.data.length c3)){A4 c4 b4}(t4:T1 w (.sl x.words.length (x.words.flatMap aN.enc)) b4 (.slice A4 x.words.length c4)):TN w x.enc (b3++b4) [.int .i64 x.kind,.int .i64 x.level,.int .i64 x.value,.slice A3 x.data.length c3,.slice A4 x.words.length c4]:=by
 have h:=(show TN w [.v (.int .i64 x.kind),.v (.int .i64 x.level),.v (.int .i64 x.value),.sl x.data.length (x.data.flatMap aP),.sl x.words.length (x.words.flatMap aN.enc)] _ _ from TN.fH rfl (TN.fH rfl (TN.fH rfl (TN.fI t3 (TN.fI t4 (TN.done))))))
 try simp only[List.append_nil]at h
 unfold aK.enc
 first|exact h|simpa only[List.append_assoc]using h
theorem aK.iT{w:World}{xs:List aK}{bs:List Nat}{A:Option Addr}{n n' c:Nat}(h:T1 w (.sl n (xs.flatMap aK.enc)) bs (.slice A n' c))(hm:xs.length=n){k:Nat}(hk:k<n):
  ∃(b off:Nat) (x:aK) (A3:Option Addr) (c3:Nat) (b3:List Nat) (A4:Option Addr) (c4:Nat) (b4:List Nat),A=some ⟨b,off,none⟩∧b<w.heap.size∧Hid (xs[k]? =some x)∧w.cell? ⟨b,off+k*5,none⟩=some (.int .i64 x.kind)∧w.cell? ⟨b,off+k*5+1,none⟩=some (.int .i64 x.level)∧w.cell? ⟨b,off+k*5+2,none⟩=some (.int .i64 x.value)∧w.cell? ⟨b,off+k*5+3,none⟩=some (.slice A3 x.data.length c3)∧w.cell? ⟨b,off+k*5+4,none⟩=some (.slice A4 x.words.length c4)∧T1 w (.sl x.data.length (x.data.flatMap aP)) b3 (.slice A3 x.data.length c3)∧x.data.length≤c3∧c3≤maxLen∧T1 w (.sl x.words.length (x.words.flatMap aN.enc)) b4 (.slice A4 x.words.length c4)∧x.words.length≤c4∧c4≤maxLen:=by
 obtain⟨_,b,off,p1,p2,p3,us,hA,_,hb,hc,ht⟩:=T1.at_ aK.aT h hm hk;obtain⟨A3,c3,b3,A4,c4,b4,rfl,_,t3,l3,m3,t4,l4,m4⟩:=aK.us ht;exact⟨b,off,xs[k],A3,c3,b3,A4,c4,b4,hA,hb,List.getElem?_eq_getElem (hm▸hk),hc 0 _ rfl,hc 1 _ rfl,hc 2 _ rfl,hc 3 _ rfl,hc 4 _ rfl,t3,l3,m3,t4,l4,m4⟩
theorem aK.kZ{x y:aK}(h0:x.kind=y.kind)(h1:x.level=y.level)(h2:x.value=y.value)(h3:x.data=y.data)(h4:x.words=y.words):x=y:=by
 cases x;cases y;simp_all
def aK.wt(x:aK):Nat:=jw (fun _=>0) x.data+jw (fun _=>0) x.words
def aK.small(x:aK):Prop:=(x.data.length≤1048576)∧(x.words.length≤1048576∧∀y∈x.words,aN.small y)
structure aD where
 a:Int
 b:Int
def aD.enc(x:aD):List D:=[.v (.int .i64 x.a),.v (.int .i64 x.b)]
theorem aD.aT(x:aD):x.enc.length=2:=rfl
theorem aD.us{w:World}{x:aD}{bs us}(h0:TN w x.enc bs us):us=[.int .i64 x.a,.int .i64 x.b]∧bs=[]:=by
 unfold aD.enc at h0;obtain⟨u0,rfl,h1⟩:=TN.dF h0;obtain⟨u1,rfl,h2⟩:=TN.dF h1;obtain⟨rfl,rfl⟩:=TN.end_ h2;exact⟨rfl,rfl⟩
theorem aD.kK{w:World}{x:aD}:TN w x.enc ([]) [.int .i64 x.a,.int .i64 x.b]:=by
 have h:=(show TN w [.v (.int .i64 x.a),.v (.int .i64 x.b)] _ _ from TN.fH rfl (TN.fH rfl (TN.done)))
 try simp only[List.append_nil]at h
 unfold aD.enc
 first|exact h|simpa only[List.append_assoc]using h
theorem aD.iT{w:World}{xs:List aD}{bs:List Nat}{A:Option Addr}{n n' c:Nat}(h:T1 w (.sl n (xs.flatMap aD.enc)) bs (.slice A n' c))(hm:xs.length=n){k:Nat}(hk:k<n):
  ∃(b off:Nat) (x:aD),A=some ⟨b,off,none⟩∧b<w.heap.size∧Hid (xs[k]? =some x)∧w.cell? ⟨b,off+k*2,none⟩=some (.int .i64 x.a)∧w.cell? ⟨b,off+k*2+1,none⟩=some (.int .i64 x.b):=by
 obtain⟨_,b,off,p1,p2,p3,us,hA,_,hb,hc,ht⟩:=T1.at_ aD.aT h hm hk;obtain⟨rfl,_⟩:=aD.us ht;exact⟨b,off,xs[k],hA,hb,List.getElem?_eq_getElem (hm▸hk),hc 0 _ rfl,hc 1 _ rfl⟩
theorem aD.kZ{x y:aD}(h0:x.a=y.a)(h1:x.b=y.b):x=y:=by
 cases x;cases y;simp_all
def aD.wt(_x:aD):Nat:=0
def aD.small(_x:aD):Prop:=True
structure bg where
 cells:(List aK)
 free:Int
 root:aN
 redexes:(List aD)
def bg.enc(x:bg):List D:=[.sl x.cells.length (x.cells.flatMap aK.enc),.v (.int .i64 x.free),.v (.int .i64 x.root.tag),.v (.int .i64 x.root.at_),.sl x.redexes.length (x.redexes.flatMap aD.enc)]
theorem bg.aT(x:bg):x.enc.length=5:=rfl
theorem bg.us{w:World}{x:bg}{bs us}(h0:TN w x.enc bs us):∃(A0:Option Addr) (c0:Nat) (b0:List Nat) (A4:Option Addr) (c4:Nat) (b4:List Nat),us=[.slice A0 x.cells.length c0,.int .i64 x.free,.int .i64 x.root.tag,.int .i64 x.root.at_,.slice A4 x.redexes.length c4]∧bs=b0++b4∧T1 w (.sl x.cells.length (x.cells.flatMap aK.enc)) b0 (.slice A0 x.cells.length c0)∧x.cells.length≤c0∧c0≤maxLen∧T1 w (.sl x.redexes.length (x.redexes.flatMap aD.enc)) b4 (.slice A4 x.redexes.length c4)∧x.redexes.length≤c4∧c4≤maxLen:=by
 unfold bg.enc at h0;obtain⟨A0,c0,b0,r0,u0,rfl,rfl,t0,l0,m0,h1⟩:=TN.dW h0;obtain⟨u1,rfl,h2⟩:=TN.dF h1;obtain⟨u2,rfl,h3⟩:=TN.dF h2;obtain⟨u3,rfl,h4⟩:=TN.dF h3;obtain⟨A4,c4,b4,r4,u4,rfl,rfl,t4,l4,m4,h5⟩:=TN.dW h4;obtain⟨rfl,rfl⟩:=TN.end_ h5;exact⟨A0,c0,b0,A4,c4,b4,rfl,by simp,t0,l0,m0,t4,l4,m4⟩
theorem bg.kK{w:World}{x:bg}{A0 c0 b0}(t0:T1 w (.sl x.cells.length (x.cells.flatMap aK.enc)) b0 (.slice A0 x.cells.length c0)){A4 c4 b4}(t4:T1 w (.sl x.redexes.length (x.redexes.flatMap aD.enc)) b4 (.slice A4 x.redexes.length c4)):TN w x.enc (b0++b4) [.slice A0 x.cells.length c0,.int .i64 x.free,.int .i64 x.root.tag,.int .i64 x.root.at_,.slice A4 x.redexes.length c4]:=by
 have h:=(show TN w [.sl x.cells.length (x.cells.flatMap aK.enc),.v (.int .i64 x.free),.v (.int .i64 x.root.tag),.v (.int .i64 x.root.at_),.sl x.redexes.length (x.redexes.flatMap aD.enc)] _ _ from TN.fI t0 (TN.fH rfl (TN.fH rfl (TN.fH rfl (TN.fI t4 (TN.done))))))
 try simp only[List.append_nil]at h
 unfold bg.enc
 first|exact h|simpa only[List.append_assoc]using h
theorem bg.iT{w:World}{xs:List bg}{bs:List Nat}{A:Option Addr}{n n' c:Nat}(h:T1 w (.sl n (xs.flatMap bg.enc)) bs (.slice A n' c))(hm:xs.length=n){k:Nat}(hk:k<n):
  ∃(b off:Nat) (x:bg) (A0:Option Addr) (c0:Nat) (b0:List Nat) (A4:Option Addr) (c4:Nat) (b4:List Nat),A=some ⟨b,off,none⟩∧b<w.heap.size∧Hid (xs[k]? =some x)∧w.cell? ⟨b,off+k*5,none⟩=some (.slice A0 x.cells.length c0)∧w.cell? ⟨b,off+k*5+1,none⟩=some (.int .i64 x.free)∧w.cell? ⟨b,off+k*5+2,none⟩=some (.int .i64 x.root.tag)∧w.cell? ⟨b,off+k*5+3,none⟩=some (.int .i64 x.root.at_)∧w.cell? ⟨b,off+k*5+4,none⟩=some (.slice A4 x.redexes.length c4)∧T1 w (.sl x.cells.length (x.cells.flatMap aK.enc)) b0 (.slice A0 x.cells.length c0)∧x.cells.length≤c0∧c0≤maxLen∧T1 w (.sl x.redexes.length (x.redexes.flatMap aD.enc)) b4 (.slice A4 x.redexes.length c4)∧x.redexes.length≤c4∧c4≤maxLen:=by
 obtain⟨_,b,off,p1,p2,p3,us,hA,_,hb,hc,ht⟩:=T1.at_ bg.aT h hm hk;obtain⟨A0,c0,b0,A4,c4,b4,rfl,_,t0,l0,m0,t4,l4,m4⟩:=bg.us ht;exact⟨b,off,xs[k],A0,c0,b0,A4,c4,b4,hA,hb,List.getElem?_eq_getElem (hm▸hk),hc 0 _ rfl,hc 1 _ rfl,hc 2 _ rfl,hc 3 _ rfl,hc 4 _ rfl,t0,l0,m0,t4,l4,m4⟩
theorem bg.kZ{x y:bg}(h0:x.cells=y.cells)(h1:x.free=y.free)(h2:x.root=y.root)(h3:x.redexes=y.redexes):x=y:=by
 cases x;cases y;simp_all
def bg.wt(x:bg):Nat:=jw aK.wt x.cells+jw (fun _=>0) x.redexes
def bg.small(x:bg):Prop:=(x.cells.length≤1048576∧∀y∈x.cells,aK.small y)∧(x.root.small)∧(x.redexes.length≤1048576∧∀y∈x.redexes,aD.small y)
structure aS where
 a:aN
 b:aN
def aS.enc(x:aS):List D:=[.v (.int .i64 x.a.tag),.v (.int .i64 x.a.at_),.v (.int .i64 x.b.tag),.v (.int .i64 x.b.at_)]
theorem aS.aT(x:aS):x.enc.length=4:=rfl
theorem aS.us{w:World}{x:aS}{bs us}(h0:TN w x.enc bs us):us=[.int .i64 x.a.tag,.int .i64 x.a.at_,.int .i64 x.b.tag,.int .i64 x.b.at_]∧bs=[]:=by
 unfold aS.enc at h0;obtain⟨u0,rfl,h1⟩:=TN.dF h0;obtain⟨u1,rfl,h2⟩:=TN.dF h1;obtain⟨u2,rfl,h3⟩:=TN.dF h2;obtain⟨u3,rfl,h4⟩:=TN.dF h3;obtain⟨rfl,rfl⟩:=TN.end_ h4;exact⟨rfl,rfl⟩
theorem aS.kK{w:World}{x:aS}:TN w x.enc ([]) [.int .i64 x.a.tag,.int .i64 x.a.at_,.int .i64 x.b.tag,.int .i64 x.b.at_]:=by
 have h:=(show TN w [.v (.int .i64 x.a.tag),.v (.int .i64 x.a.at_),.v (.int .i64 x.b.tag),.v (.int .i64 x.b.at_)] _ _ from TN.fH rfl (TN.fH rfl (TN.fH rfl (TN.fH rfl (TN.done)))))
 try simp only[List.append_nil]at h
 unfold aS.enc
 first|exact h|simpa only[List.append_assoc]using h
theorem aS.iT{w:World}{xs:List aS}{bs:List Nat}{A:Option Addr}{n n' c:Nat}(h:T1 w (.sl n (xs.flatMap aS.enc)) bs (.slice A n' c))(hm:xs.length=n){k:Nat}(hk:k<n):
  ∃(b off:Nat) (x:aS),A=some ⟨b,off,none⟩∧b<w.heap.size∧Hid (xs[k]? =some x)∧w.cell? ⟨b,off+k*4,none⟩=some (.int .i64 x.a.tag)∧w.cell? ⟨b,off+k*4+1,none⟩=some (.int .i64 x.a.at_)∧w.cell? ⟨b,off+k*4+2,none⟩=some (.int .i64 x.b.tag)∧w.cell? ⟨b,off+k*4+3,none⟩=some (.int .i64 x.b.at_):=by
 obtain⟨_,b,off,p1,p2,p3,us,hA,_,hb,hc,ht⟩:=T1.at_ aS.aT h hm hk;obtain⟨rfl,_⟩:=aS.us ht;exact⟨b,off,xs[k],hA,hb,List.getElem?_eq_getElem (hm▸hk),hc 0 _ rfl,hc 1 _ rfl,hc 2 _ rfl,hc 3 _ rfl⟩
theorem aS.kZ{x y:aS}(h0:x.a=y.a)(h1:x.b=y.b):x=y:=by
 cases x;cases y;simp_all
def aS.wt(_x:aS):Nat:=0
def aS.small(x:aS):Prop:=(x.a.small)∧(x.b.small)
structure aA where
 phase:Int
 victim:Int
 redexes:(List aD)
 links:(List aS)
 counts:(List Int)
def aA.enc(x:aA):List D:=[.v (.int .i64 x.phase),.v (.int .i64 x.victim),.sl x.redexes.length (x.redexes.flatMap aD.enc),.sl x.links.length (x.links.flatMap aS.enc),.sl x.counts.length (x.counts.flatMap aP)]
theorem aA.aT(x:aA):x.enc.length=5:=rfl
theorem aA.us{w:World}{x:aA}{bs us}(h0:TN w x.enc bs us):∃(A2:Option Addr) (c2:Nat) (b2:List Nat) (A3:Option Addr) (c3:Nat) (b3:List Nat) (A4:Option Addr) (c4:Nat) (b4:List Nat),us=[.int .i64 x.phase,.int .i64 x.victim,.slice A2 x.redexes.length c2,.slice A3 x.links.length c3,.slice A4 x.counts.length c4]∧bs=b2++b3++b4∧T1 w (.sl x.redexes.length (x.redexes.flatMap aD.enc)) b2 (.slice A2 x.redexes.length c2)∧x.redexes.length≤c2∧c2≤maxLen∧T1 w (.sl x.links.length (x.links.flatMap aS.enc)) b3 (.slice A3 x.links.length c3)∧x.links.length≤c3∧c3≤maxLen∧T1 w (.sl x.counts.length (x.counts.flatMap aP)) b4 (.slice A4 x.counts.length c4)∧x.counts.length≤c4∧c4≤maxLen:=by
 unfold aA.enc at h0;obtain⟨u0,rfl,h1⟩:=TN.dF h0;obtain⟨u1,rfl,h2⟩:=TN.dF h1;obtain⟨A2,c2,b2,r2,u2,rfl,rfl,t2,l2,m2,h3⟩:=TN.dW h2;obtain⟨A3,c3,b3,r3,u3,rfl,rfl,t3,l3,m3,h4⟩:=TN.dW h3;obtain⟨A4,c4,b4,r4,u4,rfl,rfl,t4,l4,m4,h5⟩:=TN.dW h4;obtain⟨rfl,rfl⟩:=TN.end_ h5;exact⟨A2,c2,b2,A3,c3,b3,A4,c4,b4,rfl,by simp,t2,l2,m2,t3,l3,m3,t4,l4,m4⟩
theorem aA.kK{w:World}{x:aA}{A2 c2 b2}(t2:T1 w (.sl x.redexes.length (x.redexes.flatMap aD.enc)) b2 (.slice A2 x.redexes.length c2)){A3 c3 b3}(t3:T1 w (.sl x.links.length (x.links.flatMap aS.enc)) b3 (.slice A3 x.links.length c3)){A4 c4 b4}(t4:T1 w (.sl x.counts.length (x.counts.flatMap aP)) b4 (.slice A4 x.counts.length c4)):TN w x.enc (b2++b3++b4) [.int .i64 x.phase,.int .i64 x.victim,.slice A2 x.redexes.length c2,.slice A3 x.links.length c3,.slice A4 x.counts.length c4]:=by
 have h:=(show TN w [.v (.int .i64 x.phase),.v (.int .i64 x.victim),.sl x.redexes.length (x.redexes.flatMap aD.enc),.sl x.links.length (x.links.flatMap aS.enc),.sl x.counts.length (x.counts.flatMap aP)] _ _ from TN.fH rfl (TN.fH rfl (TN.fI t2 (TN.fI t3 (TN.fI t4 (TN.done))))))
 try simp only[List.append_nil]at h
 unfold aA.enc
 first|exact h|simpa only[List.append_assoc]using h
theorem aA.iT{w:World}{xs:List aA}{bs:List Nat}{A:Option Addr}{n n' c:Nat}(h:T1 w (.sl n (xs.flatMap aA.enc)) bs (.slice A n' c))(hm:xs.length=n){k:Nat}(hk:k<n):
  ∃(b off:Nat) (x:aA) (A2:Option Addr) (c2:Nat) (b2:List Nat) (A3:Option Addr) (c3:Nat) (b3:List Nat) (A4:Option Addr) (c4:Nat) (b4:List Nat),A=some ⟨b,off,none⟩∧b<w.heap.size∧Hid (xs[k]? =some x)∧w.cell? ⟨b,off+k*5,none⟩=some (.int .i64 x.phase)∧w.cell? ⟨b,off+k*5+1,none⟩=some (.int .i64 x.victim)∧w.cell? ⟨b,off+k*5+2,none⟩=some (.slice A2 x.redexes.length c2)∧w.cell? ⟨b,off+k*5+3,none⟩=some (.slice A3 x.links.length c3)∧w.cell? ⟨b,off+k*5+4,none⟩=some (.slice A4 x.counts.length c4)∧T1 w (.sl x.redexes.length (x.redexes.flatMap aD.enc)) b2 (.slice A2 x.redexes.length c2)∧x.redexes.length≤c2∧c2≤maxLen∧T1 w (.sl x.links.length (x.links.flatMap aS.enc)) b3 (.slice A3 x.links.length c3)∧x.links.length≤c3∧c3≤maxLen∧T1 w (.sl x.counts.length (x.counts.flatMap aP)) b4 (.slice A4 x.counts.length c4)∧x.counts.length≤c4∧c4≤maxLen:=by
 obtain⟨_,b,off,p1,p2,p3,us,hA,_,hb,hc,ht⟩:=T1.at_ aA.aT h hm hk;obtain⟨A2,c2,b2,A3,c3,b3,A4,c4,b4,rfl,_,t2,l2,m2,t3,l3,m3,t4,l4,m4⟩:=aA.us ht;exact⟨b,off,xs[k],A2,c2,b2,A3,c3,b3,A4,c4,b4,hA,hb,List.getElem?_eq_getElem (hm▸hk),hc 0 _ rfl,hc 1 _ rfl,hc 2 _ rfl,hc 3 _ rfl,hc 4 _ rfl,t2,l2,m2,t3,l3,m3,t4,l4,m4⟩
theorem aA.kZ{x y:aA}(h0:x.phase=y.phase)(h1:x.victim=y.victim)(h2:x.redexes=y.redexes)(h3:x.links=y.links)(h4:x.counts=y.counts):x=y:=by
 cases x;cases y;simp_all
def aA.wt(x:aA):Nat:=jw (fun _=>0) x.redexes+jw (fun _=>0) x.links+jw (fun _=>0) x.counts
def aA.small(x:aA):Prop:=(x.redexes.length≤1048576∧∀y∈x.redexes,aD.small y)∧(x.links.length≤1048576∧∀y∈x.links,aS.small y)∧(x.counts.length≤1048576)
structure bP where
 memory:bg
 workers:(List aA)
 active:Int
def bP.enc(x:bP):List D:=[.sl x.memory.cells.length (x.memory.cells.flatMap aK.enc),.v (.int .i64 x.memory.free),.v (.int .i64 x.memory.root.tag),.v (.int .i64 x.memory.root.at_),.sl x.memory.redexes.length (x.memory.redexes.flatMap aD.enc),.sl x.workers.length (x.workers.flatMap aA.enc),.v (.int .i64 x.active)]
theorem bP.aT(x:bP):x.enc.length=7:=rfl
theorem bP.us{w:World}{x:bP}{bs us}(h0:TN w x.enc bs us):∃(A0:Option Addr) (c0:Nat) (b0:List Nat) (A4:Option Addr) (c4:Nat) (b4:List Nat) (A5:Option Addr) (c5:Nat) (b5:List Nat),us=[.slice A0 x.memory.cells.length c0,.int .i64 x.memory.free,.int .i64 x.memory.root.tag,.int .i64 x.memory.root.at_,.slice A4 x.memory.redexes.length c4,.slice A5 x.workers.length c5,.int .i64 x.active]∧bs=b0++b4++b5∧T1 w (.sl x.memory.cells.length (x.memory.cells.flatMap aK.enc)) b0 (.slice A0 x.memory.cells.length c0)∧x.memory.cells.length≤c0∧c0≤maxLen∧T1 w (.sl x.memory.redexes.length (x.memory.redexes.flatMap aD.enc)) b4 (.slice A4 x.memory.redexes.length c4)∧x.memory.redexes.length≤c4∧c4≤maxLen∧T1 w (.sl x.workers.length (x.workers.flatMap aA.enc)) b5 (.slice A5 x.workers.length c5)∧x.workers.length≤c5∧c5≤maxLen:=by
 unfold bP.enc at h0;obtain⟨A0,c0,b0,r0,u0,rfl,rfl,t0,l0,m0,h1⟩:=TN.dW h0;obtain⟨u1,rfl,h2⟩:=TN.dF h1;obtain⟨u2,rfl,h3⟩:=TN.dF h2;obtain⟨u3,rfl,h4⟩:=TN.dF h3;obtain⟨A4,c4,b4,r4,u4,rfl,rfl,t4,l4,m4,h5⟩:=TN.dW h4;obtain⟨A5,c5,b5,r5,u5,rfl,rfl,t5,l5,m5,h6⟩:=TN.dW h5;obtain⟨u6,rfl,h7⟩:=TN.dF h6;obtain⟨rfl,rfl⟩:=TN.end_ h7;exact⟨A0,c0,b0,A4,c4,b4,A5,c5,b5,rfl,by simp,t0,l0,m0,t4,l4,m4,t5,l5,m5⟩
theorem bP.kK{w:World}{x:bP}{A0 c0 b0}(t0:T1 w (.sl x.memory.cells.length (x.memory.cells.flatMap aK.enc)) b0 (.slice A0 x.memory.cells.length c0)){A4 c4 b4}(t4:T1 w (.sl x.memory.redexes.length (x.memory.redexes.flatMap aD.enc)) b4 (.slice A4 x.memory.redexes.length c4)){A5 c5 b5}(t5:T1 w (.sl x.workers.length (x.workers.flatMap aA.enc)) b5 (.slice A5 x.workers.length c5)):TN w x.enc (b0++b4++b5) [.slice A0 x.memory.cells.length c0,.int .i64 x.memory.free,.int .i64 x.memory.root.tag,.int .i64 x.memory.root.at_,.slice A4 x.memory.redexes.length c4,.slice A5 x.workers.length c5,.int .i64 x.active]:=by
 have h:=(show TN w [.sl x.memory.cells.length (x.memory.cells.flatMap aK.enc),.v (.int .i64 x.memory.free),.v (.int .i64 x.memory.root.tag),.v (.int .i64 x.memory.root.at_),.sl x.memory.redexes.length (x.memory.redexes.flatMap aD.enc),.sl x.workers.length (x.workers.flatMap aA.enc),.v (.int .i64 x.active)] _ _ from TN.fI t0 (TN.fH rfl (TN.fH rfl (TN.fH rfl (TN.fI t4 (TN.fI t5 (TN.fH rfl (TN.done))))))))
 try simp only[List.append_nil]at h
 unfold bP.enc
 first|exact h|simpa only[List.append_assoc]using h
theorem bP.iT{w:World}{xs:List bP}{bs:List Nat}{A:Option Addr}{n n' c:Nat}(h:T1 w (.sl n (xs.flatMap bP.enc)) bs (.slice A n' c))(hm:xs.length=n){k:Nat}(hk:k<n):
  ∃(b off:Nat) (x:bP) (A0:Option Addr) (c0:Nat) (b0:List Nat) (A4:Option Addr) (c4:Nat) (b4:List Nat) (A5:Option Addr) (c5:Nat) (b5:List Nat),A=some ⟨b,off,none⟩∧b<w.heap.size∧Hid (xs[k]? =some x)∧w.cell? ⟨b,off+k*7,none⟩=some (.slice A0 x.memory.cells.length c0)∧w.cell? ⟨b,off+k*7+1,none⟩=some (.int .i64 x.memory.free)∧w.cell? ⟨b,off+k*7+2,none⟩=some (.int .i64 x.memory.root.tag)∧w.cell? ⟨b,off+k*7+3,none⟩=some (.int .i64 x.memory.root.at_)∧w.cell? ⟨b,off+k*7+4,none⟩=some (.slice A4 x.memory.redexes.length c4)∧w.cell? ⟨b,off+k*7+5,none⟩=some (.slice A5 x.workers.length c5)∧w.cell? ⟨b,off+k*7+6,none⟩=some (.int .i64 x.active)∧T1 w (.sl x.memory.cells.length (x.memory.cells.flatMap aK.enc)) b0 (.slice A0 x.memory.cells.length c0)∧x.memory.cells.length≤c0∧c0≤maxLen∧T1 w (.sl x.memory.redexes.length (x.memory.redexes.flatMap aD.enc)) b4 (.slice A4 x.memory.redexes.length c4)∧x.memory.redexes.length≤c4∧c4≤maxLen∧T1 w (.sl x.workers.length (x.workers.flatMap aA.enc)) b5 (.slice A5 x.workers.length c5)∧x.workers.length≤c5∧c5≤maxLen:=by
 obtain⟨_,b,off,p1,p2,p3,us,hA,_,hb,hc,ht⟩:=T1.at_ bP.aT h hm hk;obtain⟨A0,c0,b0,A4,c4,b4,A5,c5,b5,rfl,_,t0,l0,m0,t4,l4,m4,t5,l5,m5⟩:=bP.us ht;exact⟨b,off,xs[k],A0,c0,b0,A4,c4,b4,A5,c5,b5,hA,hb,List.getElem?_eq_getElem (hm▸hk),hc 0 _ rfl,hc 1 _ rfl,hc 2 _ rfl,hc 3 _ rfl,hc 4 _ rfl,hc 5 _ rfl,hc 6 _ rfl,t0,l0,m0,t4,l4,m4,t5,l5,m5⟩
theorem bP.kZ{x y:bP}(h0:x.memory=y.memory)(h1:x.workers=y.workers)(h2:x.active=y.active):x=y:=by
 cases x;cases y;simp_all
def bP.wt(x:bP):Nat:=x.memory.wt+jw aA.wt x.workers
def bP.small(x:bP):Prop:=(x.memory.small)∧(x.workers.length≤1048576∧∀y∈x.workers,aA.small y)
end Go.Tr
