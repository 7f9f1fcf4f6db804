
/- Nets as data: agents, ports, wires. No program in it. -/
import Derived.Test.YtemalpelcdmemaaGreatShort
import Derived.Test.YtemalpelcdmemaaGreatVV
import Derived.Test.YtemalpelcdmemaaGreatValid
set_option linter.unusedSimpArgs false
set_option linter.unusedVariables false
set_option linter.unusedSectionVars false
namespace Go.Tr
open Go Go.RowKit
abbrev uPort:U:=.pair (.int .i64) (.int .i64)
abbrev uAgent:U:=.pair (.int .i64) (.pair (.int .i64) (.pair (.int .i64) (.pair (.sl (.int .i64)) (.sl uPort))))
abbrev uNet:U:=.sl uAgent
abbrev aJ:=Int×Int
abbrev NAgent:=Int×Int×Int×List Int×List aJ
def ah(xs:List NAgent)(i:Int):NAgent:=elt (dflt uAgent) xs i
abbrev NAgent.kind(a:NAgent):Int:=a.1
abbrev NAgent.level(a:NAgent):Int:=a.2.1
abbrev NAgent.value(a:NAgent):Int:=a.2.2.1
abbrev NAgent.data(a:NAgent):List Int:=a.2.2.2.1
abbrev NAgent.ports(a:NAgent):List aJ:=a.2.2.2.2
def aF(xs:List NAgent)(p:aJ):aJ:=elt (dflt uPort) (ah xs p.1).ports p.2
def aN(xs:List NAgent)(p q:aJ):List NAgent:=xs.set p.1.toNat ((ah xs p.1).1,(ah xs p.1).2.1,(ah xs p.1).2.2.1,(ah xs p.1).2.2.2.1,(ah xs p.1).2.2.2.2.set p.2.toNat q)
def bQ(xs:List NAgent)(p q:aJ):List NAgent:=aN (aN xs p q) q p
def ak(xs:List NAgent)(p:aJ):Prop:=0≤p.1∧p.1<(xs.length:Nat)∧0≤p.2∧p.2<((ah xs p.1).ports.length:Nat)
abbrev vP(p:aJ):SV:=.agg [.int .i64 p.1,.int .i64 p.2]
theorem dD(xs:List NAgent)(p q:aJ):(aN xs p q).length=xs.length:=by unfold aN;simp
theorem l8{xs:List NAgent}{k:Nat}{y:NAgent}{i:Int}:ah (xs.set k y) i=if k=i.toNat∧k<xs.length then y else ah xs i:=by
 unfold ah elt;rw[List.getD_eq_getElem?_getD,List.getD_eq_getElem?_getD,List.getElem?_set]
 by_cases h:k=i.toNat
 ·subst h
  by_cases h2:i.toNat<xs.length
  ·simp[h2]
  ·simp[h2]
 ·simp[h]
theorem fu(xs:List NAgent)(p q:aJ)(i:Int):ah (aN xs p q) i=if p.1.toNat=i.toNat∧p.1.toNat<xs.length then((ah xs p.1).1,(ah xs p.1).2.1,(ah xs p.1).2.2.1,(ah xs p.1).2.2.2.1,(ah xs p.1).2.2.2.2.set p.2.toNat q)else ah xs i:=l8
theorem zO{xs:List NAgent}{i j:Int}(h:i.toNat=j.toNat):ah xs i=ah xs j:=by unfold ah elt;rw[h]
theorem oZ(xs:List NAgent)(p q:aJ)(i:Int):(ah (aN xs p q) i).ports.length=(ah xs i).ports.length:=by
 rw[fu];split
 ·rename_i h;rw[zO h.1.symm];simp[NAgent.ports]
 ·rfl
theorem ak.set{xs:List NAgent}{p q r:aJ}(h:ak xs r):ak (aN xs p q) r:=by
 unfold ak at h ⊢;rw[dD,oZ];exact h
theorem ak.link{xs:List NAgent}{p q r:aJ}(h:ak xs r):ak (bQ xs p q) r:=h.set.set
theorem jE(xs:List NAgent)(p q:aJ):(bQ xs p q).length=xs.length:=by unfold bQ;rw[dD,dD]
theorem tJ{us:List Value}{n:Nat}(hl:us.length=n*5){i:Int}(h0:0≤i)(h1:i<(n:Nat)):i.toNat*5+5≤us.length:=by omega
theorem sO{us:List Value}{n:Nat}(hl:us.length=n*5){i:Int}(h0:0≤i)(h1:i<(n:Nat)){o:Nat}(ho:o<5):us[i.toNat*5+o]? =some (us.getD (i.toNat*5+o) undef):=by
 rw[List.getD_eq_getElem?_getD,List.getElem?_eq_getElem (by omega)];rfl
def dN(xs:List NAgent)(old now:aJ):List NAgent:=bQ xs (aF xs old) now
def aT(xs:List NAgent)(x y:aJ):List NAgent:=bif (aF xs x).1==y.1&&(aF xs x).2==y.2 then xs else bQ xs (aF xs x) (aF xs y)
def bD(kind level value:Int)(data:List Int)(n:Nat):NAgent:=(kind,level,value,data,List.replicate n (0,0))
def mD(kv:List (Int×Bool))(ks:List Int):List (Int×Bool):=ks.foldl (fun kv k=>gL kv k true) kv
theorem QF(kv:List (Int×Bool)){ks:List Int}{i:Nat}(h:i<ks.length):gL (mD kv (ks.take i)) (ks.getD i 0) true=mD kv (ks.take (i+1)):=by
 unfold mD;rw[List.take_add_one,List.foldl_append,List.getD_eq_getElem?_getD,List.getElem?_eq_getElem h];rfl
theorem wrapS{k:Nat}(h:k<1000000000):IntKind.i64.wrap ((k:Int)+1)=((k+1:Nat):Int):=QT (by omega)
def NetSmall(xs:List NAgent):Prop:=xs.length≤1048576∧∀i:Nat,(ah xs i).data.length≤1048576∧(ah xs i).ports.length≤1048576
def qE(c:Int)(x y:NAgent):Bool:=bif (bif c==6 then y.kind==10 else false)then decide ((y.data.length:Int)≤x.value)else false
def bC(x y:NAgent):Int×Bool:=
 bif bn x.kind x.level y.kind y.level==2 then(bif qE (aV x.kind x.level y.kind y.level) y x then(8,false)else(aV x.kind x.level y.kind y.level,bn x.kind x.level y.kind y.level==2))
 else(bif qE (aV x.kind x.level y.kind y.level) x y then(8,false)else(aV x.kind x.level y.kind y.level,bn x.kind x.level y.kind y.level==2))
theorem MH{x y:NAgent}(h1:(bn x.kind x.level y.kind y.level==2)=true)(h2:qE (aV x.kind x.level y.kind y.level) y x=true):bC x y=(8,false):=by unfold bC;rw[h1,h2];rfl
theorem MG{x y:NAgent}(h1:(bn x.kind x.level y.kind y.level==2)=true)(h2:qE (aV x.kind x.level y.kind y.level) y x=false):bC x y=(aV x.kind x.level y.kind y.level,bn x.kind x.level y.kind y.level==2):=by unfold bC;rw[h1,h2];rfl
theorem MF{x y:NAgent}(h1:(bn x.kind x.level y.kind y.level==2)=false)(h2:qE (aV x.kind x.level y.kind y.level) x y=true):bC x y=(8,false):=by unfold bC;rw[h1,h2];rfl
theorem ME{x y:NAgent}(h1:(bn x.kind x.level y.kind y.level==2)=false)(h2:qE (aV x.kind x.level y.kind y.level) x y=false):bC x y=(aV x.kind x.level y.kind y.level,bn x.kind x.level y.kind y.level==2):=by unfold bC;rw[h1,h2];rfl
def kD(p lo hi d:Int):Int×Int:=bif (bif decide (p<lo)then true else decide (hi<p))then(0,2)else(IntKind.i64.wrap (p+d),0)
def dS(c p:Int):Int×Int:=
 bif c==1 then kD p 0 0 (-2)else bif c==2 then kD p 0 0 (-2)else bif c==3 then kD p 0 3 0 else bif c==4 then kD p 0 3 (-2)
 else bif c==5 then kD p 0 0 (-1)else bif c==6 then kD p 0 3 (-1)else bif c==7 then kD p 2 600 (-2)else(0,2)
def jq(by_:Int)(x:NAgent):NAgent:=bif bW x.kind then(x.1,x.2.1+by_,x.2.2)else x
def fV(by_:Int)(xs:List NAgent):Bool:=xs.all fun x=> !(bW x.kind)||decide (x.level+by_≤8)
def dh(by_:Int)(xs:List NAgent):List NAgent:=xs.map (jq by_)
def nZ(x:Int):Int:=IntKind.i64.wrap (IntKind.i32.wrap x)
def xG(o a b:Int):Int:=
 bif o==1 then nZ (IntKind.i64.wrap (nZ a+nZ b))else bif o==2 then nZ (IntKind.i64.wrap (nZ a-nZ b))else bif o==3 then nZ (IntKind.i64.wrap (nZ a*nZ b))
 else bif o==4 then(bif nZ b==0 then 0 else nZ (IntKind.i64.wrap ((nZ a).tdiv (nZ b))))else bif o==5 then(bif decide (nZ a<nZ b)then 1 else 0)else bif o==6 then(bif nZ a==nZ b then 1 else 0)else 0
theorem QS(x:Int):IntKind.i64.wrap (IntKind.i32.wrap (IntKind.u32.wrap (IntKind.u64.wrap x)))=nZ x:=by
 unfold nZ;simp only[IntKind.wrap,IntKind.bits,IntKind.signed];simp
def bG(xs:List NAgent):Prop:=∀p,ak xs p→ak xs (aF xs p)
theorem Om{α:Type}{d:α}{xs:List α}{i j:Int}(h:i.toNat=j.toNat):elt d xs i=elt d xs j:=by unfold elt;rw[h]
theorem Vv{α:Type}{d:α}{xs:List α}{k:Nat}{y:α}{i:Int}:elt d (xs.set k y) i=if k=i.toNat∧k<xs.length then y else elt d xs i:=by
 unfold elt;rw[List.getD_eq_getElem?_getD,List.getD_eq_getElem?_getD,List.getElem?_set]
 by_cases h:k=i.toNat
 ·subst h
  by_cases h2:i.toNat<xs.length<;>simp[h2]
 ·simp[h]
theorem Vu{α:Type}{d:α}{xs ys:List α}{i:Int}(h:i.toNat<xs.length):elt d (xs++ys) i=elt d xs i:=by
 unfold elt;rw[List.getD_eq_getElem?_getD,List.getD_eq_getElem?_getD,List.getElem?_append_left h]
theorem RD{α:Type}{d y:α}{xs:List α}{i:Int}(h:i.toNat=xs.length):elt d (xs++[y]) i=y:=by
 unfold elt;rw[h,List.getD_eq_getElem?_getD];simp
theorem dJ{xs ys:List NAgent}{i:Int}(h:i.toNat<xs.length):ah (xs++ys) i=ah xs i:=Vu h
theorem qQ{y:NAgent}{xs:List NAgent}{i:Int}(h:i.toNat=xs.length):ah (xs++[y]) i=y:=RD h
theorem ak.app{xs ys:List NAgent}{p:aJ}(h:ak xs p):ak (xs++ys) p:=by
 obtain⟨h1,h2,h3,h4⟩:=h;refine⟨h1,by rw[List.length_append];omega,h3,?_⟩;rw[dJ (by omega)];exact h4
theorem ak.new{k l v:Int}{d:List Int}{n:Nat}{xs:List NAgent}{s:Int}(h0:0≤s)(h1:s<(n:Nat)):ak (xs++[bD k l v d n]) ((xs.length:Nat),s):=by
 refine⟨by omega,by rw[List.length_append,List.length_singleton];show((xs.length:Nat):Int)<_;omega,h0,?_⟩;rw[qQ (by simp)];simpa[bD,NAgent.ports]using h1
theorem oN{xs ys:List NAgent}{p:aJ}(h:p.1.toNat<xs.length):aF (xs++ys) p=aF xs p:=by unfold aF;rw[dJ h]
theorem Ip{xs:List NAgent}{p q r:aJ}(hp:ak xs p)(hr:ak xs r):aF (aN xs p q) r=if p=r then q else aF xs r:=by
 obtain⟨p1,p2,p3,p4⟩:=hp;obtain⟨r1,r2,r3,r4⟩:=hr;unfold aF;rw[fu]
 by_cases h:p.1.toNat=r.1.toNat
 ·have e:p.1=r.1:=by omega
  rw[if_pos ⟨h,by omega⟩];show elt (dflt uPort) ((ah xs p.1).2.2.2.2.set p.2.toNat q) r.2=_;rw[Vv]
  by_cases h2:p.2.toNat=r.2.toNat
  ·have e2:p.2=r.2:=by omega
   rw[if_pos ⟨h2,by simp only[NAgent.ports]at p4;omega⟩,if_pos (Prod.ext e e2)]
  ·rw[if_neg (fun hh=>h2 hh.1),if_neg (fun hh=>h2 (by rw[hh])),e]
 ·rw[if_neg (fun hh=>h hh.1),if_neg (fun hh=>h (by rw[hh]))]
theorem jQ{xs:List NAgent}{p q r:aJ}(hp:ak xs p)(hq:ak xs q)(hr:ak xs r):aF (bQ xs p q) r=if q=r then p else if p=r then q else aF xs r:=by
 unfold bQ;rw[Ip hq.set hr.set,Ip hp hr]
theorem ak.unset{xs:List NAgent}{p q r:aJ}(h:ak (aN xs p q) r):ak xs r:=by
 unfold ak at h ⊢
 rwa[dD,oZ]at h
theorem ak.unlink{xs:List NAgent}{p q r:aJ}(h:ak (bQ xs p q) r):ak xs r:=h.unset.unset
theorem bG.link{xs:List NAgent}{p q:aJ}(h:bG xs)(hp:ak xs p)(hq:ak xs q):bG (bQ xs p q):=fun r hr=>by
 have hr':=hr.unlink;rw[jQ hp hq hr'];split
 ·exact hp.link
 ·split
  ·exact hq.link
  ·exact(h r hr').link
theorem bG.move{xs:List NAgent}{p q:aJ}(h:bG xs)(hp:ak xs p)(hq:ak xs q):bG (dN xs p q):=h.link (h p hp) hq
theorem ak.move{xs:List NAgent}{p q r:aJ}(h:ak xs r):ak (dN xs p q) r:=h.link
theorem ak.join{xs:List NAgent}{p q r:aJ}(h:ak xs r):ak (aT xs p q) r:=by
 unfold aT;cases ((aF xs p).1==q.1&&(aF xs p).2==q.2)with
 |true=>exact h
 |false=>exact h.link
theorem bG.join{xs:List NAgent}{p q:aJ}(h:bG xs)(hp:ak xs p)(hq:ak xs q):bG (aT xs p q):=by
 unfold aT;cases ((aF xs p).1==q.1&&(aF xs p).2==q.2)with
 |true=>exact h
 |false=>exact h.link (h p hp) (h q hq)
theorem bG.add{xs:List NAgent}(h:bG xs)(h0:ak xs (0,0))(k l v:Int)(d:List Int)(n:Nat):bG (xs++[bD k l v d n]):=fun r hr=>by
 by_cases hlt:r.1.toNat<xs.length
 ·rw[oN hlt];obtain⟨r1,r2,r3,r4⟩:=hr;rw[dJ hlt]at r4;exact(h r ⟨r1,by omega,r3,r4⟩).app
 ·obtain⟨r1,r2,r3,r4⟩:=hr;rw[List.length_append,List.length_singleton]at r2;have e:r.1.toNat=xs.length:=by omega
  have hp:aF (xs++[bD k l v d n]) r=(0,0):=by
   unfold aF;rw[qQ e]at r4 ⊢;simp only[bD,NAgent.ports,List.length_replicate]at r4;unfold elt;rw[List.getD_eq_getElem?_getD];simp only[bD,NAgent.ports];rw[List.getElem?_replicate];split<;>rfl
  rw[hp];exact h0.app
theorem jG(xs:List NAgent)(p q:aJ):(dN xs p q).length=xs.length:=jE _ _ _
theorem mX(xs:List NAgent)(p q:aJ):(aT xs p q).length=xs.length:=by
 unfold aT;cases ((aF xs p).1==q.1&&(aF xs p).2==q.2)<;>simp[jE]
theorem mE{xs:List NAgent}{p q a b:aJ}(hp:ak xs p)(hq:ak xs q)(hn:p≠q):aN (aN xs p a) q b=aN (aN xs q b) p a:=by
 obtain⟨p1,p2,p3,p4⟩:=hp;obtain⟨q1,q2,q3,q4⟩:=hq
 by_cases h:p.1.toNat=q.1.toNat
 ·have e:p.1=q.1:=by omega
  have h2:p.2.toNat≠q.2.toNat:=fun h2=>hn (Prod.ext e (by omega))
  have k1:ah (aN xs p a) q.1=((ah xs p.1).1,(ah xs p.1).2.1,(ah xs p.1).2.2.1,(ah xs p.1).2.2.2.1,(ah xs p.1).2.2.2.2.set p.2.toNat a):=by
   rw[fu,if_pos ⟨h,by omega⟩]
  have k2:ah (aN xs q b) p.1=((ah xs q.1).1,(ah xs q.1).2.1,(ah xs q.1).2.2.1,(ah xs q.1).2.2.2.1,(ah xs q.1).2.2.2.2.set q.2.toNat b):=by
   rw[fu,if_pos ⟨h.symm,by omega⟩]
  rw[show aN (aN xs p a) q b=(aN xs p a).set q.1.toNat ((ah (aN xs p a) q.1).1,(ah (aN xs p a) q.1).2.1,(ah (aN xs p a) q.1).2.2.1,(ah (aN xs p a) q.1).2.2.2.1,(ah (aN xs p a) q.1).2.2.2.2.set q.2.toNat b) from rfl,show aN (aN xs q b) p a=(aN xs q b).set p.1.toNat ((ah (aN xs q b) p.1).1,(ah (aN xs q b) p.1).2.1,(ah (aN xs q b) p.1).2.2.1,(ah (aN xs q b) p.1).2.2.2.1,(ah (aN xs q b) p.1).2.2.2.2.set p.2.toNat a) from rfl,k1,k2];unfold aN;rw[h,List.set_set,List.set_set,e]
  simp only[];rw[List.set_comm _ _ h2]
 ·have k1:ah (aN xs p a) q.1=ah xs q.1:=by rw[fu,if_neg fun hh=>h hh.1]
  have k2:ah (aN xs q b) p.1=ah xs p.1:=by rw[fu,if_neg fun hh=>h hh.1.symm]
  rw[show aN (aN xs p a) q b=(aN xs p a).set q.1.toNat ((ah (aN xs p a) q.1).1,(ah (aN xs p a) q.1).2.1,(ah (aN xs p a) q.1).2.2.1,(ah (aN xs p a) q.1).2.2.2.1,(ah (aN xs p a) q.1).2.2.2.2.set q.2.toNat b) from rfl,show aN (aN xs q b) p a=(aN xs q b).set p.1.toNat ((ah (aN xs q b) p.1).1,(ah (aN xs q b) p.1).2.1,(ah (aN xs q b) p.1).2.2.1,(ah (aN xs q b) p.1).2.2.2.1,(ah (aN xs q b) p.1).2.2.2.2.set p.2.toNat a) from rfl,k1,k2];unfold aN;rw[List.set_comm _ _ h]
theorem vE{xs:List NAgent}{p q:aJ}(hp:ak xs p)(hq:ak xs q):bQ xs p q=bQ xs q p:=by
 by_cases h:p=q
 ·rw[h]
 ·unfold bQ;exact mE hp hq h
def jC(d:List Int)(i:Int):Int:=elt (dflt (.int .i64)) d i
def bJ(xs:List NAgent)(x y:Int):List NAgent:=
 bif (ah xs y).1==7 then dN (dN (xs++[bD 8 (ah xs y).2.1 (ah xs y).2.2.1 [(ah xs x).2.2.1] 2]) (y,1) ((xs.length:Nat),0)) (y,2) ((xs.length:Nat),1)
 else dN (xs++[bD 6 0 (xG (ah xs y).2.2.1 (jC (ah xs y).2.2.2.1 0) (ah xs x).2.2.1) [] 1]) (y,1) ((xs.length:Nat),0)
def CP:NAgent:=(0,0,0,[],[])
def bE(xs:List NAgent)(a:Int):List NAgent:=xs.set a.toNat CP
def oF(x c d:Int)(xs:List NAgent)(i:Nat):List NAgent:=bQ (bQ (xs++[bD 4 (ah xs x).2.1 0 [] 3]) ((xs.length:Nat),1) (c,(i:Nat))) ((xs.length:Nat),2) (d,(i:Nat))
def dP(x c d:Int)(xs:List NAgent):Nat→List NAgent
 |0=>xs
 |k+1=>oF x c d (dP x c d xs k) (k+1)
def dG(y:Int)(b:Nat)(xs:List NAgent):Nat→List NAgent
 |0=>xs
 |k+1=>dN (dG y b xs k) (y,((k:Nat):Int)+1) (((b+k:Nat):Int),0)
def nG(xs:List NAgent)(y:Int):NAgent:=bD (ah xs y).1 (ah xs y).2.1 (ah xs y).2.2.1 (ah xs y).2.2.2.1 (ah xs y).2.2.2.2.length
def dup2(xs:List NAgent)(y:Int):List NAgent:=xs++[nG xs y]++[nG xs y]
def dup3(xs:List NAgent)(x y:Int):List NAgent:=dP x ((xs.length:Nat)) ((xs.length+1:Nat)) (dup2 xs y) ((ah xs y).2.2.2.2.length-1)
def lD(xs:List NAgent)(x y:Int):List NAgent:=dN (dN (dup3 xs x y) (x,1) ((xs.length:Nat),0)) (x,2) ((xs.length+1:Nat),0)
def bL(xs:List NAgent)(x y:Int):List NAgent:=dG y (xs.length+2) (lD xs x y) ((ah xs y).2.2.2.2.length-1)
def jD(b k:Nat):List Int:=(List.range k).map fun j=>((b+j:Nat):Int)
theorem Ef(b k:Nat):jD b (k+1)=jD b k++[((b+k:Nat):Int)]:=by simp[jD,List.range_succ]
theorem mV(b k:Nat):(jD b k).length=k:=by simp[jD]
theorem G6{b k m:Nat}(h:k<m):elt (0:Int) (jD b m) (k:Nat)=((b+k:Nat):Int):=by
 unfold elt jD;rw[Int.toNat_natCast,List.getD_eq_getElem?_getD,List.getElem?_map,List.getElem?_range h];rfl
theorem MO(x c d:Int)(xs:List NAgent)(i:Nat):(oF x c d xs i).length=xs.length+1:=by unfold oF;rw[jE,jE,List.length_append];rfl
theorem ji(x c d:Int)(xs:List NAgent):∀k,(dP x c d xs k).length=xs.length+k
 |0=>rfl
 |k+1=>by unfold dP;rw[MO,ji x c d xs k];omega
theorem GV{x c d:Int}{xs:List NAgent}{i:Nat}{p:aJ}(h:ak xs p):ak (oF x c d xs i) p:=h.app.link.link
theorem cO{x c d:Int}{xs:List NAgent}{p:aJ}(h:ak xs p):∀k,ak (dP x c d xs k) p
 |0=>h
 |k+1=>GV (cO h k)
theorem MN{x c d:Int}{xs:List NAgent}{i:Nat}(h:bG xs)(h0:ak xs (0,0))(hc:ak xs (c,(i:Nat)))(hd:ak xs (d,(i:Nat))):bG (oF x c d xs i):=
 ((h.add h0 4 (ah xs x).2.1 0 [] 3).link (ak.new (by decide) (by decide)) hc.app).link (ak.link (ak.new (by decide) (by decide))) hd.app.link
theorem mU{x c d:Int}{xs:List NAgent}(h:bG xs)(h0:ak xs (0,0)):∀k,(∀i:Nat,i≤k→ak xs (c,(i:Nat))∧ak xs (d,(i:Nat)))→bG (dP x c d xs k)
 |0,_=>h
 |k+1,hk=>MN (mU h h0 k fun i hi=>hk i (by omega)) (cO h0 k) (cO (hk (k+1) (Nat.le_refl _)).1 k) (cO (hk (k+1) (Nat.le_refl _)).2 k)
theorem Ae(y:Int)(b:Nat)(xs:List NAgent):∀k,(dG y b xs k).length=xs.length
 |0=>rfl
 |k+1=>by unfold dG;rw[jG,Ae y b xs k]
theorem fK{y:Int}{b:Nat}{xs:List NAgent}{p:aJ}(h:ak xs p):∀k,ak (dG y b xs k) p
 |0=>h
 |k+1=>(fK h k).move
theorem lF{y:Int}{b:Nat}{xs:List NAgent}(h:bG xs):∀k,(∀i:Nat,i<k→ak xs (y,((i:Nat):Int)+1)∧ak xs (((b+i:Nat):Int),0))→bG (dG y b xs k)
 |0,_=>h
 |k+1,hk=>(lF h k fun i hi=>hk i (by omega)).move (fK (hk k (by omega)).1 k) (fK (hk k (by omega)).2 k)
theorem gW(xs:List NAgent)(y:Int):(dup2 xs y).length=xs.length+2:=by unfold dup2;simp
theorem nQ{xs:List NAgent}{y:Int}{p:aJ}(h:ak xs p):ak (dup2 xs y) p:=h.app.app
theorem rG{xs:List NAgent}{y:Int}{i:Int}(h0:0≤i)(h1:i<((ah xs y).2.2.2.2.length:Nat)):ak (dup2 xs y) (((xs.length:Nat):Int),i):=(ak.new h0 h1).app
theorem rH{xs:List NAgent}{y:Int}{i:Int}(h0:0≤i)(h1:i<((ah xs y).2.2.2.2.length:Nat)):ak (dup2 xs y) (((xs.length+1:Nat):Int),i):=by
 have:=ak.new (xs:=xs++[nG xs y]) (k:=(ah xs y).1) (l:=(ah xs y).2.1) (v:=(ah xs y).2.2.1) (d:=(ah xs y).2.2.2.1) h0 h1;rw[List.length_append,List.length_singleton]at this;exact this
theorem wV{xs:List NAgent}{y:Int}(h:bG xs)(h0:ak xs (0,0)):bG (dup2 xs y):=(h.add h0 _ _ _ _ _).add h0.app _ _ _ _ _
theorem rJ{x:Int}{c d:Int}{xs:List NAgent}:∀{k i:Nat},i<k→ak (dP x c d xs k) (((xs.length+i:Nat):Int),0)
 |0,i,h=>by omega
 |k+1,i,h=>by
  by_cases e:i=k
  ·subst e;have h2:=(ak.new (xs:=dP x c d xs i) (k:=4) (l:=(ah (dP x c d xs i) x).2.1) (v:=0) (d:=[]) (n:=3) (s:=0) (by decide) (by decide)).link (p:=(((dP x c d xs i).length:Nat),1)) (q:=(c,((i+1:Nat):Int)));have h3:=h2.link (p:=(((dP x c d xs i).length:Nat),2)) (q:=(d,((i+1:Nat):Int)));rw[ji]at h3;unfold dP oF;rw[ji];exact h3
  ·exact GV (rJ (by omega))
def jk(b:Nat):Nat→aJ
 |0=>(((b-1:Nat):Int),0)
 |k+1=>(((b+k:Nat):Int),2)
def qR(lv:Int)(b:Nat)(xs:List NAgent):Nat→List NAgent
 |0=>xs
 |k+1=>bQ (qR lv b xs k++[bD 3 lv 0 [] 3]) (((b+k:Nat):Int),0) (jk b k)
def DK(x:Int)(b:Nat)(xs:List NAgent):Nat→List NAgent
 |0=>xs
 |k+1=>dN (DK x b xs k) (x,((k:Nat):Int)+1) (((b+k:Nat):Int),1)
def bF(xs:List NAgent)(y i:Int):List NAgent:=xs++[bD 12 (ah xs y).2.1 (jC (ah xs y).2.2.2.1 i) [] 1]
def kr(xs:List NAgent)(x y:Int):List NAgent:=
 bif (ah xs x).1==6 then dN (bF xs y (bif (ah xs x).2.2.1==0 then 1 else 0)) (y,1) ((xs.length:Nat),0)
 else dN (DK x (xs.length+1) (qR (ah xs y).2.1 (xs.length+1) (bF xs y (ah xs x).2.2.1) ((ah xs x).2.2.2.2.length-1)) ((ah xs x).2.2.2.2.length-1)) (y,1) (jk (xs.length+1) ((ah xs x).2.2.2.2.length-1))
theorem x9(lv:Int)(b:Nat)(xs:List NAgent):∀k,(qR lv b xs k).length=xs.length+k
 |0=>rfl
 |k+1=>by unfold qR;rw[jE,List.length_append,x9 lv b xs k];simp;omega
theorem DL{lv:Int}{b:Nat}{xs:List NAgent}{p:aJ}(h:ak xs p):∀k,ak (qR lv b xs k) p
 |0=>h
 |k+1=>(DL h k).app.link
theorem zV{lv:Int}{xs:List NAgent}{s:Int}(h0:0≤s)(h1:s<3):∀{k i:Nat},i<k→ak (qR lv xs.length xs k) (((xs.length+i:Nat):Int),s)
 |0,i,h=>by omega
 |k+1,i,h=>by
  by_cases e:i=k
  ·subst e;have:=(ak.new (xs:=qR lv xs.length xs i) (k:=3) (l:=lv) (v:=0) (d:=[]) (n:=3) h0 (by omega)).link (p:=(((xs.length+i:Nat):Int),0)) (q:=jk xs.length i);rw[x9]at this;exact this
  ·exact(zV h0 h1 (by omega:i<k)).app.link
theorem GN{lv:Int}{xs:List NAgent}(hr:ak xs (jk xs.length 0)):∀k,ak (qR lv xs.length xs k) (jk xs.length k)
 |0=>hr
 |k+1=>zV (by decide) (by decide) (Nat.lt_succ_self k)
theorem Ja{lv:Int}{xs:List NAgent}(h:bG xs)(h0:ak xs (0,0))(hr:ak xs (jk xs.length 0)):∀k,bG (qR lv xs.length xs k)
 |0=>h
 |k+1=>by
  unfold qR;have:=ak.new (xs:=qR lv xs.length xs k) (k:=3) (l:=lv) (v:=0) (d:=[]) (n:=3) (s:=0) (by decide) (by decide);rw[x9]at this;exact((Ja h h0 hr k).add (DL h0 k) _ _ _ _ _).link this (GN hr k).app
theorem NZ(x:Int)(b:Nat)(xs:List NAgent):∀k,(DK x b xs k).length=xs.length
 |0=>rfl
 |k+1=>by unfold DK;rw[jG,NZ x b xs k]
theorem nM{x:Int}{b:Nat}{xs:List NAgent}{p:aJ}(h:ak xs p):∀k,ak (DK x b xs k) p
 |0=>h
 |k+1=>(nM h k).move
theorem Dl{x:Int}{b:Nat}{xs:List NAgent}(h:bG xs):∀k,(∀i:Nat,i<k→ak xs (x,((i:Nat):Int)+1)∧ak xs (((b+i:Nat):Int),1))→bG (DK x b xs k)
 |0,_=>h
 |k+1,hk=>(Dl h k fun i hi=>hk i (by omega)).move (nM (hk k (by omega)).1 k) (nM (hk k (by omega)).2 k)
theorem qV(xs:List NAgent)(y i:Int):(bF xs y i).length=xs.length+1:=by simp[bF]
def fT(b:Int)(xs:List NAgent)(i:Nat):List NAgent:=(xs.take i).map (jq b)++xs.drop i
theorem oO(b:Int)(xs:List NAgent)(i:Nat):(fT b xs i).length=xs.length:=by unfold fT;simp;omega
theorem FT{b:Int}{xs:List NAgent}{i:Nat}(h:i<xs.length):ah (fT b xs i) (i:Nat)=ah xs (i:Nat):=by
 unfold ah elt fT;rw[Int.toNat_natCast,List.getD_eq_getElem?_getD,List.getD_eq_getElem?_getD,List.getElem?_append_right (by simp;omega)];simp;rw[show i-min i xs.length=0 by omega,Nat.add_zero]
theorem qz{xs:List NAgent}{i:Nat}(h:i<xs.length):ah xs (i:Nat)=xs[i]:=by
 unfold ah elt;rw[Int.toNat_natCast,List.getD_eq_getElem?_getD,List.getElem?_eq_getElem h];rfl
theorem zy{b:Int}{xs:List NAgent}{i:Nat}(h:i<xs.length):fT b xs (i+1)=(fT b xs i).set i (jq b (ah xs (i:Nat))):=by
 unfold fT;rw[List.set_append_right _ _ (by simp;omega),List.take_add_one,List.getElem?_eq_getElem h,List.map_append,qz h];have e:i-((xs.take i).map (jq b)).length=0:=by simp;omega
 rw[e,List.drop_eq_getElem_cons h,List.set_cons_zero];simp
theorem FU{b:Int}{xs:List NAgent}{i:Nat}(h:i<xs.length)(hk:bW (ah xs (i:Nat)).1=false):fT b xs (i+1)=fT b xs i:=by
 rw[zy h]
 have:jq b (ah xs (i:Nat))=ah (fT b xs i) (i:Nat):=by
  rw[FT h];unfold jq;rw[show bW (ah xs (i:Nat)).kind=false from hk];rfl
 rw[this,qz (by rw[oO];exact h)];exact List.set_getElem_self _
theorem nX{b:Int}{xs:List NAgent}{i:Nat}(h:i<xs.length):fV b (xs.take (i+1))=(fV b (xs.take i)&&(!(bW (ah xs (i:Nat)).1)||decide ((ah xs (i:Nat)).2.1+b≤8))):=by
 unfold fV;rw[List.take_add_one,List.getElem?_eq_getElem h,List.all_append,qz h];simp
theorem J3{b:Int}{xs:List NAgent}(h:fV b xs=true)(i:Nat):fV b (xs.take i)=true:=by
 unfold fV at h ⊢;rw[List.all_eq_true]at h ⊢;exact fun x hx=>h x (List.mem_of_mem_take hx)
abbrev Zad:U:=.pair uNet (.pair (.sl uNet) .any)
def bR(bk:List (List NAgent))(i:Int):List NAgent:=elt ([]:List NAgent) bk i
def checkN(bk:List (List NAgent))(xs:List NAgent)(p:Int×Int):Int×Int×Int×Int:=
 let c:=bC (ah xs p.1) (ah xs p.2)
 let x:=bif c.2 then p.2 else p.1
 let y:=bif c.2 then p.1 else p.2
 bif c.1==8 then(0,0,0,11)else
 bif c.1==7 then(bif decide ((bk.length:Int)≤(ah xs x).2.2.1)then(0,0,0,3)else bif !(fV (ah xs x).2.1 (bR bk (ah xs x).2.2.1))then(0,0,0,9)else(c.1,x,y,0))
 else(c.1,x,y,0)
def sW(bk:List (List NAgent))(xs:List NAgent)(c x y:Int):Int:=
 (dS c (bif c==3 then IntKind.i64.wrap (((ah xs y).2.2.2.2.length:Nat)-1)else bif c==4 then IntKind.i64.wrap (((ah xs y).2.2.2.2.length:Nat)-1)
  else bif c==6 then(bif (ah xs x).1==9 then IntKind.i64.wrap (((ah xs x).2.2.2.2.length:Nat)-1)else 0)else bif c==7 then((bR bk (ah xs x).2.2.1).length:Nat)else 0)).1
def sS(y:Int)(xs:List NAgent):Nat→List NAgent
 |0=>xs
 |k+1=>dN (sS y xs k++[bD 5 0 0 [] 1]) (y,((k+1:Nat):Int)) (((xs.length+k:Nat):Int),0)
def iD(xs:List NAgent)(y:Int):List NAgent:=sS y xs ((ah xs y).2.2.2.2.length-1)
theorem kC(y:Int)(xs:List NAgent):∀k,(sS y xs k).length=xs.length+k
 |0=>rfl
 |k+1=>by unfold sS;rw[jG,List.length_append,kC y xs k];simp;omega
theorem pO{y:Int}{xs:List NAgent}{p:aJ}(h:ak xs p):∀k,ak (sS y xs k) p
 |0=>h
 |k+1=>(pO h k).app.move
theorem Af{y:Int}{xs:List NAgent}(k:Nat):ak (sS y xs k++[bD 5 0 0 [] 1]) (((xs.length+k:Nat):Int),0):=by
 have:=ak.new (xs:=sS y xs k) (k:=5) (l:=0) (v:=0) (d:=[]) (n:=1) (s:=0) (by decide) (by decide)
 rwa[kC]at this
theorem yh{y:Int}{xs:List NAgent}(h:bG xs)(h0:ak xs (0,0)):∀k,(∀i:Nat,i<k→ak xs (y,((i+1:Nat):Int)))→bG (sS y xs k)
 |0,_=>h
 |k+1,hk=>((yh h h0 k fun i hi=>hk i (by omega)).add (pO h0 k) _ _ _ _ _).move (pO (hk k (by omega)) k).app (Af k)
theorem Nn(xs:List NAgent)(p q:aJ)(i:Int):(ah (bQ xs p q) i).2.2.2.2.length=(ah xs i).2.2.2.2.length:=by
 unfold bQ;have h1:=oZ (aN xs p q) q p i;have h2:=oZ xs p q i;exact h1.trans h2
theorem G5{y:Int}{xs:List NAgent}(hy:y.toNat<xs.length):∀k,(ah (sS y xs k) y).2.2.2.2.length=(ah xs y).2.2.2.2.length
 |0=>rfl
 |k+1=>by
  unfold sS dN;rw[Nn,dJ (by rw[kC];omega),G5 hy k]
def IG(bk:List (List NAgent)):Prop:=∀i:Nat,(∀j:Nat,0≤(ah (bR bk i) j).2.1∧(ah (bR bk i) j).2.1≤8)
def dA(b:Int)(a:NAgent):NAgent:=(a.1,a.2.1,a.2.2.1,a.2.2.2.1,a.2.2.2.2.map fun p=>(p.1+b,p.2))
def nC(bk:List (List NAgent))(xs:List NAgent)(x:Int):List NAgent:=dh (ah xs x).2.1 (bR bk (ah xs x).2.2.1)
def nS(bk:List (List NAgent))(xs:List NAgent)(x y:Int):List NAgent:=
 bQ (xs++((nC bk xs x).drop 1).map (dA ((xs.length:Nat)-1))) (y,0) ((aF (nC bk xs x) (0,0)).1+((xs.length:Nat)-1),(aF (nC bk xs x) (0,0)).2)
def gZ(bk:List (List NAgent))(xs:List NAgent)(c x y:Int):List NAgent:=
 bif c==1 then aT (aT xs (x,1) (y,1)) (x,2) (y,2)else bif c==2 then aT (aT xs (x,1) (y,1)) (x,2) (y,2)
 else bif c==3 then bL xs x y else bif c==4 then iD xs y else bif c==5 then bJ xs x y else bif c==6 then kr xs x y else bif c==7 then nS bk xs x y else xs
def gH(c x y:Int):List Int:=bif c==7 then[x]else[x,y]
structure IntPre(xs:List NAgent)(c x y:Int):Prop where
 x0:0≤x∧x<(xs.length:Nat)
 y0:0≤y∧y<(xs.length:Nat)
 c12:c=1∨c=2→ak xs (x,1)∧ak xs (x,2)∧ak xs (y,1)∧ak xs (y,2)
 c3:c=3→ak xs (x,1)∧ak xs (x,2)
 px:0<(ah xs x).2.2.2.2.length∧(ah xs x).2.2.2.2.length≤1000
 py:0<(ah xs y).2.2.2.2.length∧(ah xs y).2.2.2.2.length≤1000
 dy:(ah xs y).2.2.2.1.length≤1000000
 c5:c=5→ak xs (y,1)∧((ah xs y).1=7→ak xs (y,2))∧((ah xs y).1≠7→0<(ah xs y).2.2.2.1.length)
 c6:c=6→ak xs (y,1)∧((ah xs x).1=6→(ah xs y).2.2.2.1.length=2)∧((ah xs x).1≠6→0≤(ah xs x).2.2.1∧(ah xs x).2.2.1<((ah xs y).2.2.2.1.length:Nat))
def p8(lv x:Int)(b:Nat)(xs:List NAgent):Nat→List NAgent
 |0=>xs
 |k+1=>dN (bQ (p8 lv x b xs k++[bD 3 lv 0 [] 3]) (jk b k) (((b+k:Nat):Int),0)) (x,((k+1:Nat):Int)) (((b+k:Nat):Int),1)
def dL(xs:List NAgent)(x y:Int):List NAgent:=
 bif (ah xs y).1==11 then dN (bF xs y (bif (ah xs x).2.2.1==0 then 1 else 0)) (y,1) ((xs.length:Nat),0)
 else dN (p8 (ah xs y).2.1 x (xs.length+1) (bF xs y (ah xs x).2.2.1) ((ah xs x).2.2.2.2.length-1)) (y,1) (jk (xs.length+1) ((ah xs x).2.2.2.2.length-1))
theorem qD(lv x:Int)(b:Nat)(xs:List NAgent):∀k,(p8 lv x b xs k).length=xs.length+k
 |0=>rfl
 |k+1=>by unfold p8;rw[jG,jE,List.length_append,qD lv x b xs k];simp;omega
theorem nN{lv x:Int}{b:Nat}{xs:List NAgent}{p:aJ}(h:ak xs p):∀k,ak (p8 lv x b xs k) p
 |0=>h
 |k+1=>(nN h k).app.link.move
theorem Ob{lv x:Int}{xs:List NAgent}{s:Int}(h0:0≤s)(h1:s<3):∀{k i:Nat},i<k→ak (p8 lv x xs.length xs k) (((xs.length+i:Nat):Int),s)
 |0,i,h=>by omega
 |k+1,i,h=>by
  by_cases e:i=k
  ·subst e;have:=(ak.new (xs:=p8 lv x xs.length xs i) (k:=3) (l:=lv) (v:=0) (d:=[]) (n:=3) h0 (by omega));rw[qD]at this;exact this.link.move
  ·exact(Ob h0 h1 (by omega:i<k)).app.link.move
theorem wS{lv x:Int}{xs:List NAgent}(hr:ak xs (jk xs.length 0)):∀k,ak (p8 lv x xs.length xs k) (jk xs.length k)
 |0=>hr
 |k+1=>Ob (by decide) (by decide) (Nat.lt_succ_self k)
theorem vk{lv x:Int}{xs:List NAgent}(k:Nat){s:Int}(h0:0≤s)(h1:s<3):ak (p8 lv x xs.length xs k++[bD 3 lv 0 [] 3]) (((xs.length+k:Nat):Int),s):=by
 have:=ak.new (xs:=p8 lv x xs.length xs k) (k:=3) (l:=lv) (v:=0) (d:=[]) (n:=3) h0 (by omega)
 rwa[qD]at this
theorem vo{lv x:Int}{xs:List NAgent}(h:bG xs)(h0:ak xs (0,0))(hr:ak xs (jk xs.length 0)):∀k,(∀i:Nat,i<k→ak xs (x,((i+1:Nat):Int)))→bG (p8 lv x xs.length xs k)
 |0,_=>h
 |k+1,hk=>(((vo h h0 hr k fun i hi=>hk i (by omega)).add (nN h0 k) _ _ _ _ _).link (wS hr k).app (vk k (by decide) (by decide))).move (nN (hk k (by omega)) k).app.link (vk k (by decide) (by decide)).link
def yg(lab c d:Int)(xs:List NAgent)(i:Nat):List NAgent:=bQ (bQ (xs++[bD 4 lab 0 [] 3]) ((xs.length:Nat),1) (c,(i:Nat))) ((xs.length:Nat),2) (d,(i:Nat))
def bf(lab c d:Int)(xs:List NAgent):Nat→List NAgent
 |0=>xs
 |k+1=>yg lab c d (bf lab c d xs k) (k+1)
theorem Lc(xs:List NAgent)(p q:aJ)(i:Int):(ah (bQ xs p q) i).2.1=(ah xs i).2.1:=by
 unfold bQ
 have h:∀(xs:List NAgent) (p q:aJ),(ah (aN xs p q) i).2.1=(ah xs i).2.1:=fun xs p q=>by
  rw[fu];split
  ·rename_i h;rw[zO h.1.symm]
  ·rfl
 rw[h,h]
theorem kM{x c d:Int}{xs:List NAgent}(hx:x.toNat<xs.length):∀k,bf (ah xs x).2.1 c d xs k=dP x c d xs k∧(ah (dP x c d xs k) x).2.1=(ah xs x).2.1
 |0=>⟨rfl,rfl⟩
 |k+1=>by
  obtain⟨h1,h2⟩:=kM hx k (c:=c) (d:=d);refine⟨?_,?_⟩
  ·unfold bf dP yg oF;rw[h1,h2]
  ·unfold dP oF;rw[Lc,Lc,dJ (by rw[ji];omega),h2]
def tY(z:Int):Prop:=0≤z∧z≤1000000
def d9(b:Int)(ps:List aJ)(j:Nat):List aJ:=(ps.take j).map (fun p=>(p.1+b,p.2))++ps.drop j
theorem jf(b:Int)(ps:List aJ)(j:Nat):(d9 b ps j).length=ps.length:=by unfold d9;simp;omega
theorem uJ{b:Int}{ps:List aJ}{j:Nat}(h:j<ps.length):elt (dflt uPort) (d9 b ps j) (j:Nat)=elt (dflt uPort) ps (j:Nat):=by
 unfold elt d9;rw[Int.toNat_natCast,List.getD_eq_getElem?_getD,List.getD_eq_getElem?_getD,List.getElem?_append_right (by simp;omega)];simp;rw[show j-min j ps.length=0 by omega,Nat.add_zero]
theorem sw{b:Int}{ps:List aJ}{j:Nat}(h:j<ps.length):d9 b ps (j+1)=(d9 b ps j).set j ((elt (dflt uPort) ps (j:Nat)).1+b,(elt (dflt uPort) ps (j:Nat)).2):=by
 have he:elt (dflt uPort) ps (j:Nat)=ps[j]:=by
  unfold elt;rw[Int.toNat_natCast,List.getD_eq_getElem?_getD,List.getElem?_eq_getElem h];rfl
 unfold d9;rw[List.set_append_right _ _ (by simp;omega),List.take_add_one,List.getElem?_eq_getElem h,List.map_append,he];have e:j-((ps.take j).map fun p:aJ=>(p.1+b,p.2)).length=0:=by simp;omega
 rw[e,List.drop_eq_getElem_cons h,List.set_cons_zero];simp
theorem uI(b:Int)(ps:List aJ):d9 b ps ps.length=ps.map fun p=>(p.1+b,p.2):=by unfold d9;simp
def jK(lv b:Int)(t:List NAgent)(k:Nat):List NAgent:=(((dh lv t).drop 1).take k).map (dA b)
theorem yj{lv b:Int}{t:List NAgent}{k:Nat}(h:k+1<t.length):jK lv b t (k+1)=jK lv b t k++[dA b (jq lv (ah t ((k+1:Nat):Int)))]:=by
 unfold jK dh;rw[List.take_add_one,List.map_append,List.getElem?_drop,List.getElem?_map,qz h,show 1+k=k+1 by omega,List.getElem?_eq_getElem h];rfl
theorem Ah{lv b:Int}{t:List NAgent}{k:Nat}(h:k+1≤t.length):(jK lv b t k).length=k:=by unfold jK dh;simp;omega
def fE(t:List NAgent)(lv:Int)(xs:List NAgent)(y:Int):List NAgent:=
 bQ (xs++jK lv ((xs.length:Nat)-1) t (t.length-1)) (((xs.length:Nat)-1)+(aF t (0,0)).1,(aF t (0,0)).2) (y,0)
def iJ(x y:NAgent):Bool:=bif (bif x.1==9 then y.1==10 else false)then decide ((y.2.2.2.1.length:Int)≤x.2.2.1)else false
def nO(x y:NAgent):Bool:=bif (bif x.1==10 then y.1==9 else false)then decide ((x.2.2.2.1.length:Int)≤y.2.2.1)else false
def bP(x y:NAgent):Int:=bif iJ x y then 8 else bif nO x y then 8 else aV x.1 x.2.1 y.1 y.2.1
def firstS(xs:List NAgent)(a b:Int):Int×Int:=bif bn (ah xs a).1 (ah xs a).2.1 (ah xs b).1 (ah xs b).2.1==2 then(b,a)else(a,b)
def BK(a b:Int):Int:=bif decide (b<a)then a else b
def mH(t:List NAgent):Nat→Int
 |0=>0
 |k+1=>BK (mH t k) (ah t (k:Nat)).2.1
def nT(x:NAgent):Int:=bif x.1==9 then IntKind.i64.wrap ((x.2.2.2.2.length:Nat)-1)else 0
def sH(bk:List (List NAgent))(c:Int)(x y:NAgent):Int:=
 bif c==3 then IntKind.i64.wrap ((y.2.2.2.2.length:Nat)-1)else bif c==4 then IntKind.i64.wrap ((y.2.2.2.2.length:Nat)-1)else bif c==6 then nT x else bif c==7 then((bR bk x.2.2.1).length:Nat)else 0
def iw(bk:List (List NAgent))(x y:NAgent):Int×Int:=
 bif bP x y==8 then(0,11)else
 bif bP x y==7 then(bif decide ((bk.length:Int)≤x.2.2.1)then(0,3)else bif decide (8<IntKind.i64.wrap (mH (bR bk x.2.2.1) (bR bk x.2.2.1).length+x.2.1))then(0,9)else((dS 7 (sH bk 7 x y)).1,0))
 else((dS (bP x y) (sH bk (bP x y) x y)).1,0)
def bU(xs:List NAgent):Nat→Nat
 |0=>0
 |k+1=>bif (ah xs (k:Nat)).1 !=0 then bU xs k+1 else bU xs k
theorem uH(xs:List NAgent):∀k,bU xs k≤k
 |0=>Nat.le_refl _
 |k+1=>by
  have:=uH xs k;unfold bU;cases ((ah xs (k:Nat)).1 !=0)<;>simp<;>omega
def iE(bk:List (List NAgent))(xs:List NAgent)(c x y:Int):List NAgent:=
 bif c==1 then aT (aT xs (x,1) (y,1)) (x,2) (y,2)else bif c==2 then aT (aT xs (x,1) (y,1)) (x,2) (y,2)
 else bif c==3 then bL xs x y else bif c==4 then iD xs y else bif c==5 then bJ xs x y else bif c==6 then dL xs x y else bif c==7 then fE (bR bk (ah xs x).2.2.1) (ah xs x).2.1 xs y else xs
def gG(bk:List (List NAgent))(xs:List NAgent)(c x y:Int):List NAgent:=bif c==7 then bE (iE bk xs c x y) x else bE (bE (iE bk xs c x y) x) y
structure IQ(xs:List NAgent)(c x y:Int):Prop extends IntPre xs c x y where
 k5:c=5→(ah xs y).1=7∨(ah xs y).1=8
 k6:c=6→((ah xs y).1=11→(ah xs y).2.2.2.1.length=2)∧((ah xs y).1≠11→0≤(ah xs x).2.2.1∧(ah xs x).2.2.1<((ah xs y).2.2.2.1.length:Nat)∧(ah xs x).1=9)
theorem firstS_in{xs:List NAgent}{a b:Int}{n:Int}(ha:0≤a∧a<n)(hb:0≤b∧b<n):(0≤(firstS xs a b).1∧(firstS xs a b).1<n)∧(0≤(firstS xs a b).2∧(firstS xs a b).2<n):=by
 unfold firstS;cases bn (ah xs a).1 (ah xs a).2.1 (ah xs b).1 (ah xs b).2.1==2
 ·exact⟨ha,hb⟩
 ·exact⟨hb,ha⟩
theorem fD(xs:List NAgent)(a:Int):(bE xs a).length=xs.length:=List.length_set
theorem yR(xs:List NAgent)(x y:Int):xs.length≤(bL xs x y).length:=by
 unfold bL lD dup3;rw[Ae,jG,jG,ji,gW];omega
theorem CU(xs:List NAgent)(x y:Int):xs.length≤(bJ xs x y).length:=by
 unfold bJ;cases (ah xs y).1==7
 ·rw[cond_false,jG];simp
 ·rw[cond_true,jG,jG];simp
theorem DT(xs:List NAgent)(x y:Int):xs.length≤(dL xs x y).length:=by
 unfold dL;cases (ah xs y).1==11
 ·rw[cond_false,jG,qD];unfold bF;simp;omega
 ·rw[cond_true,jG];unfold bF;simp
def Zi(us:List Value):El (hol 5):=(us.getD 0 undef,us.getD 1 undef,us.getD 2 undef,us.getD 3 undef,us.getD 4 undef)
def mq:Nat→List Value→List (El (hol 5))
 |0,_=>[]
 |n+1,us=>Zi us::mq n (us.drop 5)
theorem yC:∀(n:Nat) (us:List Value),(mq n us).length=n
 |0,_=>rfl
 |n+1,us=>by unfold mq;rw[List.length_cons,yC n]
theorem BU:∀(n:Nat) (us:List Value),us.length=n*5→(mq n us).flatMap (enc (hol 5))=us.map D.v
 |0,us,h=>by
  have:us=[]:=List.length_eq_zero_iff.1 (by omega);rw[this];rfl
 |n+1,us,h=>by
  match us,h with
  |a::b::c::d::e::us,h=>
   have ih:=BU n us (by simp only[List.length_cons]at h;omega);unfold mq;rw[List.flatMap_cons];show _++(mq n us).flatMap (enc (hol 5))=_;rw[ih];rfl
  |[],h=>simp at h
  |[_],h=>simp at h;omega
  |[_,_],h=>simp at h;omega
  |[_,_,_],h=>simp at h;omega
  |[_,_,_,_],h=>simp at h;omega
theorem TN.OV{w:World}:∀{vs us:List Value} {bs:List Nat},TN w (vs.map D.v) bs us→us=vs∧bs=[]
 |[],us,bs,h=>by obtain⟨rfl,rfl⟩:=TN.nil.1 h;exact⟨rfl,rfl⟩
 |v::vs,us,bs,h=>by
  rw[List.map_cons]at h;obtain⟨b1,b2,u,us',rfl,rfl,h1,h2⟩:=TN.cons.1 h;obtain⟨rfl,rfl,_⟩:=T1.v.1 h1;obtain⟨rfl,rfl⟩:=TN.OV h2;exact⟨rfl,rfl⟩
theorem YL{w:World}{x:Value}{ds:List D}{bs:List Nat}{us:List Value}(h:TN w (.v x::ds) bs us):∃us',us=x::us'∧TN w ds bs us':=by
 obtain⟨b1,b2,u,us',e1,e2,h1,h2⟩:=TN.cons.1 h;obtain⟨e3,e4,_⟩:=T1.v.1 h1;exact⟨us',by rw[e1,e3],by rw[e2,e4];exact h2⟩
theorem Zac{w:World}{d:D}{ds:List D}{bs:List Nat}{us:List Value}(h:TN w (d::ds) bs us):∃u us' b2,us=u::us'∧TN w ds b2 us':=by
 obtain⟨b1,b2,u,us',e1,e2,h1,h2⟩:=TN.cons.1 h;exact⟨u,us',b2,e1,h2⟩
section
variable {cx:Cx}{β:Nat→Value}{w:World}{R:List fQ}
theorem Inv.X0{g t n:Nat}{xs:List NAgent}{us:List Value}(h:Inv cx.w0 cx.F0 w (Tok.res cx β (.row g t 5 uAgent xs us)::R))(hl:us.length=xs.length*5):
  Inv cx.w0 cx.F0 w (Tok.res cx β (.row g t 5 (hol 5) (mq xs.length us) us)::Tok.res cx β (.nest n uAgent xs us)::R):=by
 refine Inv.part h fun F hp=> ?_
 obtain⟨hs,bs,us',rfl,hg,hpre⟩:=hp;have hul:us'.length=xs.length*5:=hg.row.1;have e:us=us':=hpre.eq_of_length (by omega);subst e;refine⟨BZ (β g),bs,fun b hb=>by simp[hb],fun b hb=>by simp[hb],fun b hb=>hg.out b (kX.1 hb),⟨rfl,[],us,by simp,?_,pR _⟩,⟨hg.tn,hg.own⟩⟩;refine⟨?_,?_,Own.nil _ _,by simp⟩
 ·have:=hg.row;show World.ownsRow w 0 t 5 (β g) (mq xs.length us).length us;rw[yC];exact this
 ·show TN w ((mq xs.length us).flatMap (enc (hol 5))) [] us;rw[BU _ _ hl];exact TN.scalars hg.tn.Gw
def sU(ys:List NAgent)(us:List Value)(j:Nat):El (hol 5):=(.int .i64 (ah ys (j:Nat)).1,.int .i64 (ah ys (j:Nat)).2.1,.int .i64 (ah ys (j:Nat)).2.2.1,us.getD (j*5+3) undef,us.getD (j*5+4) undef)
theorem Bg:∀{ys:List NAgent} {us:List Value} {bs:List Nat},TN w (ys.flatMap (enc uAgent)) bs us→us.length=ys.length*5∧((List.range ys.length).map (sU ys us)).flatMap (enc (hol 5))=us.map D.v
 |[],us,bs,h=>by obtain⟨rfl,rfl⟩:=TN.nil.1 h;exact⟨rfl,rfl⟩
 |y::ys,us,bs,h=>by
  rw[List.flatMap_cons]at h;obtain⟨b1,b2,u1,u2,rfl,rfl,h1,h2⟩:=TN.append.1 h;have h1':TN w [.v (.int .i64 y.1),.v (.int .i64 y.2.1),.v (.int .i64 y.2.2.1),.sl y.2.2.2.1.length (List.flatMap (enc (.int .i64)) y.2.2.2.1),.sl y.2.2.2.2.length (List.flatMap (enc uPort) y.2.2.2.2)] b1 u1:=h1;obtain⟨v1,rfl,k3⟩:=YL h1';obtain⟨v2,rfl,k4⟩:=YL k3;obtain⟨v3,rfl,k5⟩:=YL k4;obtain⟨a4,v4,b4,rfl,k6⟩:=Zac k5;obtain⟨a5,v5,b5,rfl,k7⟩:=Zac k6;obtain⟨rfl,rfl⟩:=TN.nil.1 k7;obtain⟨k1,k2⟩:=Bg h2;refine⟨by simp only[List.length_append,List.length_cons,List.length_nil];omega,?_⟩
  rw[List.length_cons,List.range_succ_eq_map,List.map_cons,List.flatMap_cons,List.map_map]
  have e:(List.range ys.length).map (sU (y::ys) ([.int .i64 y.1,.int .i64 y.2.1,.int .i64 y.2.2.1,a4,a5]++u2)∘Nat.succ)=(List.range ys.length).map (sU ys u2):=List.map_congr_left fun j _=>by
   have e1:ah (y::ys) ((j.succ:Nat):Int)=ah ys (j:Nat):=by unfold ah elt;rw[Int.toNat_natCast,Int.toNat_natCast];rfl
   have e2:∀o:Nat,([.int .i64 y.1,.int .i64 y.2.1,.int .i64 y.2.2.1,a4,a5]++u2:List Value).getD (j.succ*5+o) undef=u2.getD (j*5+o) undef:=fun o=>by
    rw[List.getD_eq_getElem?_getD,List.getElem?_append_right (by simp only[List.length_cons,List.length_nil];omega),List.getD_eq_getElem?_getD];simp only[List.length_cons,List.length_nil];rw[show j.succ*5+o-(0+1+1+1+1+1)=j*5+o by omega]
   simp only[Function.comp,sU];rw[e1,e2,e2]
  have e':(List.range ys.length).map (sU (y::ys) (Value.int .i64 y.1::Value.int .i64 y.2.1::Value.int .i64 y.2.2.1::a4::a5::[]++u2)∘Nat.succ)=(List.range ys.length).map (sU ys u2):=e;rw[e',k2,List.map_append];rfl
theorem Inv.merge{gA gB t t' n:Nat}{xs ys:List NAgent}{usA usB preA:List Value}{hs:List (El (hol 5))}(h:Inv cx.w0 cx.F0 w (Tok.res cx β (.row gA t 5 (hol 5) (mq xs.length usA++hs) preA)::Tok.res cx β (.nest n uAgent xs usA)::Tok.res cx β (.row gB t' 5 uAgent ys usB)::R))
  (hlA:usA.length=xs.length*5) (hlB:usB.length=ys.length*5) (h0:0<ys.length) (hh:hs=(List.range (ys.length-1)).map fun j=>sU ys usB (j+1)):
  Inv cx.w0 cx.F0 w (Tok.res cx β (.row gA t 5 uAgent (xs++ys.drop 1) usA)::R):=by
 have hB:=h.perm ((List.Perm.cons _ (List.Perm.swap _ _ _)).trans (List.Perm.swap _ _ _));obtain⟨F,hp,k,_⟩:=hB.take1;obtain⟨_,bs,us',rfl,hg,hpre⟩:=hp;have hul:us'.length=ys.length*5:=hg.row.1;have e:usB=us':=hpre.eq_of_length (by omega);subst e
 match ys,h0,hg,hh,hlB with
 |y::ys,h0,hg,hh,hlB=>
  have htn:TN w ((y::ys).flatMap (enc uAgent)) bs usB:=hg.tn;obtain⟨q1,q2⟩:=Bg htn;rw[List.flatMap_cons]at htn;obtain⟨b1,b2,u1,u2,rfl,rfl,h1,h2⟩:=TN.append.1 htn
  have hu1:u1.length=5:=by
   have:=(Bg h2).1;rw[List.length_append]at q1;simp only[List.length_cons]at q1;omega
  have hcell:hs.flatMap (enc (hol 5))=u2.map D.v:=by
   rw[List.length_cons,List.range_succ_eq_map,List.map_cons,List.flatMap_cons,List.map_map,List.map_append]at q2;have l1:(enc (hol 5) (sU (y::ys) (u1++u2) 0)).length=(u1.map D.v).length:=by rw[List.length_map,hu1];rfl
   have:=(List.append_inj q2 l1).2;rw[hh];exact this
  have hN:Inv cx.w0 cx.F0 w (gT u2 (ys.flatMap (enc uAgent))::Tok.res cx β (.row gA t 5 (hol 5) (mq xs.length usA++hs) preA)::Tok.res cx β (.nest n uAgent xs usA)::R):=k _ b2 (fun b hb=>by simp[hb]) ⟨h2,(Own.parts hg.own).2.1⟩
  have hM:Inv cx.w0 cx.F0 w (gT (usA++u2) (xs.flatMap (enc uAgent)++ys.flatMap (enc uAgent))::Tok.res cx β (.row gA t 5 (hol 5) (mq xs.length usA++hs) preA)::R):=by
   have:Inv cx.w0 cx.F0 w (gT usA (xs.flatMap (enc uAgent))::gT u2 (ys.flatMap (enc uAgent))::Tok.res cx β (.row gA t 5 (hol 5) (mq xs.length usA++hs) preA)::R):=hN.perm (by
    refine(List.Perm.cons _ (List.Perm.swap _ _ _)).trans (List.Perm.swap _ _ _))
   exact this.ze
  refine hM.swap.join fun F1 F2 hp1 hp2 hd=> ?_
  obtain⟨_,bA,uA,rfl,gA',_⟩:=hp1;have hAtn:TN w ((mq xs.length usA++hs).flatMap (enc (hol 5))) bA uA:=gA'.tn;rw[List.flatMap_append,BU _ _ hlA,hcell,←List.map_append]at hAtn;obtain⟨rfl,rfl⟩:=TN.OV hAtn;have hhl:hs.length=ys.length:=by rw[hh,List.length_map,List.length_range];rfl
  refine⟨BZ (β gA)++F2,fun b hb=>by
   rcases List.mem_append.1 hb with hb|hb
   ·exact .inl (by simp[hb])
   ·exact .inr hb,⟨rfl,F2,usA++u2,rfl,⟨?_,?_,hp2.2,fun k hk hm=>hd k (by simp[kX.2 hk]) hm⟩,List.prefix_append _ _⟩⟩
  ·have:=gA'.row;show World.ownsRow w 0 t 5 (β gA) (xs++ys).length (usA++u2);rw[show(mq xs.length usA++hs).length=(xs++ys).length by rw[List.length_append,yC,hhl,List.length_append]]at this;exact this
  ·have:=hp2.1;rw[←List.flatMap_append]at this;exact this
end
end Go.Tr
namespace Go.Tr
open Go Go.RowKit
def tX(b:Int)(t:List NAgent):Nat→List NAgent
 |0=>t
 |k+1=>(tX b t k).set (1+k) (dA b (ah t ((1+k:Nat):Int)))
def Qp(b:Int)(a:NAgent)(j:Nat):NAgent:=(a.1,a.2.1,a.2.2.1,a.2.2.2.1,d9 b a.2.2.2.2 j)
def EU(b:Int)(t:List NAgent)(k j:Nat):List NAgent:=(tX b t k).set (1+k) (Qp b (ah t ((1+k:Nat):Int)) j)
section
variable {b:Int}{t:List NAgent}
theorem tq:∀k,(tX b t k).length=t.length
 |0=>rfl
 |k+1=>by unfold tX;rw[List.length_set,tq k]
theorem OM(k j:Nat):(EU b t k j).length=t.length:=by unfold EU;rw[List.length_set,tq k]
theorem Ay:∀(k i:Nat),(tX b t k)[i]? =if 1≤i∧i≤k then(t[i]?).map (dA b)else t[i]?
 |0,i=>by rw[if_neg (by omega)];rfl
 |k+1,i=>by
  unfold tX;rw[List.getElem?_set,tq,Ay k i]
  by_cases h:1+k=i
  ·subst h;rw[if_pos (rfl:1+k=1+k)]
   by_cases h2:1+k<t.length
   ·rw[if_pos h2,if_pos (by omega:1≤1+k∧1+k≤k+1),List.getElem?_eq_getElem h2];show _=some (dA b _)
    congr 2
    unfold ah elt;rw[Int.toNat_natCast,List.getD_eq_getElem?_getD,List.getElem?_eq_getElem h2];rfl
   ·rw[if_neg h2,if_pos (by omega:1≤1+k∧1+k≤k+1),List.getElem?_eq_none (by omega)];rfl
  ·rw[if_neg h]
   by_cases h2:1≤i∧i≤k
   ·rw[if_pos h2,if_pos (by omega)]
   ·rw[if_neg h2,if_neg (by omega)]
theorem zN(xs:List NAgent)(i:Nat):ah xs (i:Nat)=(xs[i]?).getD (dflt uAgent):=by
 unfold ah elt;rw[Int.toNat_natCast,List.getD_eq_getElem?_getD]
theorem X9{k i:Nat}(h:k<i):ah (tX b t k) (i:Nat)=ah t (i:Nat):=by
 rw[zN,zN,Ay,if_neg (by omega)]
theorem SF(k i:Nat):(ah (tX b t k) (i:Nat)).1=(ah t (i:Nat)).1∧(ah (tX b t k) (i:Nat)).2.1=(ah t (i:Nat)).2.1∧(ah (tX b t k) (i:Nat)).2.2.1=(ah t (i:Nat)).2.2.1:=by
 rw[zN,zN,Ay];split
 ·cases t[i]? <;>exact⟨rfl,rfl,rfl⟩
 ·exact⟨rfl,rfl,rfl⟩
theorem Qq(k:Nat)(us:List Value)(i:Nat):sU (tX b t k) us i=sU t us i:=by
 obtain⟨h1,h2,h3⟩:=SF (b:=b) (t:=t) k i;unfold sU;rw[h1,h2,h3]
theorem SB{k j:Nat}(h:1+k<t.length):ah (EU b t k j) ((1+k:Nat):Int)=Qp b (ah t ((1+k:Nat):Int)) j:=by
 unfold EU;rw[l8,if_pos ⟨by rw[Int.toNat_natCast],by rw[tq];exact h⟩]
theorem SE(k:Nat):EU b t k 0=tX b t k:=by
 unfold EU;apply List.ext_getElem?;intro i;rw[List.getElem?_set,tq]
 by_cases h:1+k=i
 ·subst h;rw[if_pos (rfl:1+k=1+k),Ay,if_neg (by omega:¬(1≤1+k∧1+k≤k))]
  by_cases h2:1+k<t.length
  ·rw[if_pos h2,List.getElem?_eq_getElem h2]
   congr 1
   rw[zN,List.getElem?_eq_getElem h2];unfold Qp d9;simp
  ·rw[if_neg h2,List.getElem?_eq_none (by omega)]
 ·rw[if_neg h]
theorem VP(k:Nat):EU b t k (ah t ((1+k:Nat):Int)).2.2.2.2.length=tX b t (k+1):=by
 show(tX b t k).set (1+k) (Qp b (ah t ((1+k:Nat):Int)) (ah t ((1+k:Nat):Int)).2.2.2.2.length)=(tX b t k).set (1+k) (dA b (ah t ((1+k:Nat):Int)))
 congr 1
 unfold Qp dA;rw[uI]
theorem SC{k j:Nat}(h:1+k<t.length)(hj:j<(ah t ((1+k:Nat):Int)).2.2.2.2.length){z:Int}(hz:z=(elt (dflt uPort) (ah t ((1+k:Nat):Int)).2.2.2.2 (j:Nat)).1+b):
  (EU b t k j).set (1+k) ((ah (EU b t k j) ((1+k:Nat):Int)).1,(ah (EU b t k j) ((1+k:Nat):Int)).2.1,(ah (EU b t k j) ((1+k:Nat):Int)).2.2.1,(ah (EU b t k j) ((1+k:Nat):Int)).2.2.2.1,(ah (EU b t k j) ((1+k:Nat):Int)).2.2.2.2.set j (z,(elt (dflt uPort) (ah (EU b t k j) ((1+k:Nat):Int)).2.2.2.2 (j:Nat)).2))=EU b t k (j+1):=by
 rw[SB h];unfold EU;rw[List.set_set]
 congr 1
 unfold Qp;rw[sw hj,uJ hj,hz]
theorem X8{k j:Nat}(h:1+k<t.length)(hj:j<(ah t ((1+k:Nat):Int)).2.2.2.2.length):elt (dflt uPort) (ah (EU b t k j) ((1+k:Nat):Int)).2.2.2.2 (j:Nat)=elt (dflt uPort) (ah t ((1+k:Nat):Int)).2.2.2.2 (j:Nat):=by
 rw[SB h];exact uJ hj
theorem SG:(tX b t (t.length-1)).drop 1=(t.drop 1).map (dA b):=by
 apply List.ext_getElem?;intro i;rw[List.getElem?_drop,List.getElem?_map,List.getElem?_drop,Ay]
 by_cases h:1+i<t.length
 ·rw[if_pos (by omega)]
 ·rw[List.getElem?_eq_none (by omega:t.length≤1+i)];split<;>rfl
def MP(t:List NAgent)(us:List Value)(k:Nat):List (El (hol 5)):=(List.range k).map fun j=>sU t us (j+1)
theorem RJ(us:List Value)(k:Nat):MP t us (k+1)=MP t us k++[sU t us (1+k)]:=by
 unfold MP;rw[List.range_succ,List.map_append,Nat.add_comm 1 k];rfl
theorem Vz(us:List Value)(k:Nat):(MP t us k).length=k:=by unfold MP;simp
theorem Vy{us:List Value}(k:Nat):MP t us k=(List.range k).map fun j=>sU (tX b t k) us (j+1):=by
 unfold MP;exact List.map_congr_left fun j _=>(Qq _ _ _).symm
end
end Go.Tr
namespace Go.Tr
open Go Go.RowKit
def iH(L:aJ→Prop)(xs:List NAgent):Prop:=∀p,L p→ak xs p∧L (aF xs p)∧aF xs (aF xs p)=p∧aF xs p≠p
theorem iH.congr{L M:aJ→Prop}{xs:List NAgent}(h:iH L xs)(e:∀p,M p↔L p):iH M xs:=fun p hp=>by
 obtain⟨h1,h2,h3⟩:=h p ((e p).1 hp);exact⟨h1,(e _).2 h2,h3⟩
theorem iH.cut{L:aJ→Prop}{xs:List NAgent}(h:iH L xs){a:aJ}(ha:L a):iH (fun p=>L p∧p≠a∧p≠aF xs a) xs:=fun p ⟨hp,h1,h2⟩=>by
 obtain⟨k1,k2,k3,k4⟩:=h p hp;refine⟨k1,⟨k2,fun e=>h2 (by rw[←e,k3]),fun e=>h1 ?_⟩,k3,k4⟩;have:=congrArg (aF xs) e;rw[k3,(h a ha).2.2.1]at this;exact this
theorem eU{p q:aJ}(h1:p.1=q.1)(h2:p.2=q.2):p=q:=by cases p;cases q;simp_all
theorem iH.link{L:aJ→Prop}{xs:List NAgent}(h:iH L xs){p q:aJ}(hp:ak xs p)(hq:ak xs q)(np:¬L p)(nq:¬L q)(hpq:p≠q):iH (fun r=>L r∨r=p∨r=q) (bQ xs p q):=fun r hr=>by
 have key:∀s,L s→ak xs s∧s≠p∧s≠q:=fun s hs=>⟨(h s hs).1,fun e=>np (e▸hs),fun e=>nq (e▸hs)⟩
 rcases hr with hr|rfl|rfl
 ·obtain⟨h1,h2,h3,h5⟩:=h r hr;obtain⟨_,n1,n2⟩:=key r hr;obtain⟨h4,n3,n4⟩:=key _ h2;have e1:aF (bQ xs p q) r=aF xs r:=by rw[jQ hp hq h1,if_neg n2.symm,if_neg n1.symm]
  refine⟨h1.link,?_,?_,?_⟩
  ·rw[e1];exact .inl h2
  ·rw[e1,jQ hp hq h4,if_neg n4.symm,if_neg n3.symm,h3]
  ·rw[e1];exact h5
 ·have e1:aF (bQ xs r q) r=q:=by rw[jQ hp hq hp,if_neg hpq.symm,if_pos rfl]
  have e2:aF (bQ xs r q) q=r:=by rw[jQ hp hq hq,if_pos rfl]
  exact⟨hp.link,by rw[e1];exact .inr (.inr rfl),by rw[e1,e2],by rw[e1];exact hpq.symm⟩
 ·have e1:aF (bQ xs p r) r=p:=by rw[jQ hp hq hq,if_pos rfl]
  have e2:aF (bQ xs p r) p=r:=by rw[jQ hp hq hp,if_neg hpq.symm,if_pos rfl]
  exact⟨hq.link,by rw[e1];exact .inr (.inl rfl),by rw[e1,e2],by rw[e1];exact hpq⟩
theorem iH.move{L:aJ→Prop}{xs:List NAgent}(h:iH L xs){old now:aJ}(ho:L old)(hn:ak xs now)(nn:¬L now):iH (fun r=>(L r∧r≠old)∨r=now) (dN xs old now):=by
 obtain⟨h1,h2,h3,h4⟩:=h old ho;have hne:aF xs old≠now:=fun e=>nn (e▸h2)
 have:=(h.cut ho).link (p:=aF xs old) (q:=now) (h _ h2).1 hn (fun e=>e.2.2 rfl) (fun e=>nn e.1) hne;refine this.congr fun r=> ?_
 constructor
 ·rintro(⟨k1,k2⟩|rfl)
  ·by_cases e:r=aF xs old
   ·exact .inr (.inl e)
   ·exact .inl ⟨k1,k2,e⟩
  ·exact .inr (.inr rfl)
 ·rintro(⟨k1,k2,k3⟩|rfl|rfl)
  ·exact .inl ⟨k1,k2⟩
  ·exact .inl ⟨h2,h4⟩
  ·exact .inr rfl
theorem iH.join{L:aJ→Prop}{xs:List NAgent}(h:iH L xs){x y:aJ}(hx:L x)(hy:L y)(hxy:x≠y):iH (fun r=>L r∧r≠x∧r≠y) (aT xs x y):=by
 obtain⟨h1,h2,h3,h4⟩:=h x hx;obtain⟨k1,k2,k3,k4⟩:=h y hy;unfold aT
 by_cases e:aF xs x=y
 ·rw[show((aF xs x).1==y.1&&(aF xs x).2==y.2)=true by rw[e];simp];refine(h.cut hx).congr fun r=> ?_
  rw[e]
 ·rw[show((aF xs x).1==y.1&&(aF xs x).2==y.2)=false by
   cases hb:((aF xs x).1==y.1&&(aF xs x).2==y.2)with
   |false=>rfl
   |true=>
    simp only[Bool.and_eq_true,beq_iff_eq]at hb;exact absurd (eU hb.1 hb.2) e]
  rw[cond_false];have hyx:aF xs y≠x:=fun h=>e (by rw[←h,k3])
  have hpp:aF xs x≠aF xs y:=fun h=>hxy (by rw[←h3,h,k3])
  have c1:=h.cut hx;have hy':L y∧y≠x∧y≠aF xs x:=⟨hy,hxy.symm,fun h=>e h.symm⟩;have c2:=c1.cut (a:=y) hy';have:=c2.link (p:=aF xs x) (q:=aF xs y) (h _ h2).1 (h _ k2).1 (fun h=>h.1.2.2 rfl) (fun h=>h.2.2 rfl) hpp;refine this.congr fun r=> ?_
  constructor
  ·rintro⟨q1,q2,q3⟩
   by_cases e1:r=aF xs x
   ·exact .inr (.inl e1)
   by_cases e2:r=aF xs y
   ·exact .inr (.inr e2)
   ·exact .inl ⟨⟨q1,q2,e1⟩,q3,e2⟩
  ·rintro(⟨⟨q1,q2,q3⟩,q4,q5⟩|rfl|rfl)
   ·exact⟨q1,q2,q4⟩
   ·exact⟨h2,h4,e⟩
   ·exact⟨k2,hyx,k4⟩
theorem iH.app{L:aJ→Prop}{xs:List NAgent}(h:iH L xs)(zs:List NAgent):iH L (xs++zs):=fun p hp=>by
 obtain⟨h1,h2,h3,h4⟩:=h p hp;have lt:∀{q:aJ},ak xs q→q.1.toNat<xs.length:=fun {q} hq=>by have:=hq.1;have:=hq.2.1;omega
 have e1:=oN (ys:=zs) (lt h1);exact⟨h1.app,by rw[e1];exact h2,by rw[e1,oN (lt (h _ h2).1),h3],by rw[e1];exact h4⟩
def Agree(D:Int→Prop)(xs ys:List NAgent):Prop:=xs.length=ys.length∧∀i:Int,0≤i→i<(xs.length:Nat)→¬D i→ah xs i=ah ys i
theorem Agree.port{D:Int→Prop}{xs ys:List NAgent}(h:Agree D xs ys){p:aJ}(hp:ak xs p)(hd:¬D p.1):ak ys p∧aF ys p=aF xs p:=by
 obtain⟨p1,p2,p3,p4⟩:=hp;have e:=h.2 p.1 p1 p2 hd;exact⟨⟨p1,by rw[←h.1];exact p2,p3,by rw[←e];exact p4⟩,by unfold aF;rw[e]⟩
theorem Agree.setPort{D:Int→Prop}{xs ys:List NAgent}(h:Agree D xs ys){p:aJ}(q:aJ)(hp:ak xs p)(hd:¬D p.1):Agree D (aN xs p q) (aN ys p q):=by
 refine⟨by rw[dD,dD];exact h.1,fun i h0 h1 hi=> ?_⟩;rw[dD]at h1;rw[fu,fu,h.2 p.1 hp.1 hp.2.1 hd,h.2 i h0 h1 hi,h.1]
theorem Agree.link{D:Int→Prop}{xs ys:List NAgent}(h:Agree D xs ys){p q:aJ}(hp:ak xs p)(hq:ak xs q)(dp:¬D p.1)(dq:¬D q.1):Agree D (bQ xs p q) (bQ ys p q):=(h.setPort q hp dp).setPort p hq.set dq
theorem Agree.app{D:Int→Prop}{xs ys:List NAgent}(h:Agree D xs ys)(zs:List NAgent):Agree D (xs++zs) (ys++zs):=by
 refine⟨by rw[List.length_append,List.length_append,h.1],fun i h0 h1 hi=> ?_⟩;rw[List.length_append]at h1
 by_cases hl:i<(xs.length:Nat)
 ·rw[dJ (by omega),dJ (by rw[←h.1];omega)];exact h.2 i h0 hl hi
 ·have:∀ws:List NAgent,ws.length=xs.length→ah (ws++zs) i=zs.getD (i.toNat-xs.length) (dflt uAgent):=fun ws hw=>by
   unfold ah elt;rw[List.getD_eq_getElem?_getD,List.getElem?_append_right (by omega),hw,List.getD_eq_getElem?_getD]
  rw[this xs rfl,this ys h.1.symm]
theorem Agree.mono{D E:Int→Prop}{xs ys:List NAgent}(h:Agree D xs ys)(k:∀i,D i→E i):Agree E xs ys:=⟨h.1,fun i h0 h1 hi=>h.2 i h0 h1 fun hd=>hi (k i hd)⟩
theorem Agree.drop{D:Int→Prop}{xs ys:List NAgent}(h:Agree D xs ys){a:Int}(h0:0≤a)(hd:D a):Agree D xs (bE ys a):=by
 refine⟨by unfold bE;rw[List.length_set];exact h.1,fun i i0 i1 hi=> ?_⟩;unfold bE;rw[l8,if_neg (fun e=>hi (by(have:i=a:=by omega);rw[this];exact hd))];exact h.2 i i0 i1 hi
structure wD(D:Int→Prop)(L:aJ→Prop)(xs ys:List NAgent):Prop where
 ag:Agree D xs ys
 wi:iH L xs
 al:∀p,L p→¬D p.1
section
variable {D:Int→Prop}{L:aJ→Prop}{xs ys:List NAgent}
theorem wD.peer(h:wD D L xs ys){p:aJ}(hp:L p):aF ys p=aF xs p:=(h.ag.port (h.wi p hp).1 (h.al p hp)).2
theorem wD.move(h:wD D L xs ys){old now:aJ}(ho:L old)(hn:ak xs now)(nn:¬L now)(dn:¬D now.1):wD D (fun r=>(L r∧r≠old)∨r=now) (dN xs old now) (dN ys old now):=by
 refine⟨?_,h.wi.move ho hn nn,fun p hp=> ?_⟩
 ·unfold dN;rw[h.peer ho];exact h.ag.link (h.wi _ (h.wi _ ho).2.1).1 hn (h.al _ (h.wi _ ho).2.1) dn
 ·rcases hp with hp|rfl
  ·exact h.al p hp.1
  ·exact dn
theorem wD.join(h:wD D L xs ys){x y:aJ}(hx:L x)(hy:L y)(hxy:x≠y):wD D (fun r=>L r∧r≠x∧r≠y) (aT xs x y) (aT ys x y):=by
 refine⟨?_,h.wi.join hx hy hxy,fun p hp=>h.al p hp.1⟩;unfold aT;rw[h.peer hx,h.peer hy];cases ((aF xs x).1==y.1&&(aF xs x).2==y.2)with
 |true=>exact h.ag
 |false=>exact h.ag.link (h.wi _ (h.wi _ hx).2.1).1 (h.wi _ (h.wi _ hy).2.1).1 (h.al _ (h.wi _ hx).2.1) (h.al _ (h.wi _ hy).2.1)
theorem wD.link(h:wD D L xs ys){p q:aJ}(hp:ak xs p)(hq:ak xs q)(np:¬L p)(nq:¬L q)(hpq:p≠q)(dp:¬D p.1)(dq:¬D q.1):wD D (fun r=>L r∨r=p∨r=q) (bQ xs p q) (bQ ys p q):=by
 refine⟨h.ag.link hp hq dp dq,h.wi.link hp hq np nq hpq,fun r hr=> ?_⟩;rcases hr with hr|rfl|rfl
 ·exact h.al r hr
 ·exact dp
 ·exact dq
theorem wD.app(h:wD D L xs ys)(zs:List NAgent):wD D L (xs++zs) (ys++zs):=⟨h.ag.app zs,h.wi.app zs,h.al⟩
theorem wD.congr(h:wD D L xs ys){M:aJ→Prop}(e:∀p,M p↔L p):wD D M xs ys:=⟨h.ag,h.wi.congr e,fun p hp=>h.al p ((e p).1 hp)⟩
theorem wD.cut(h:wD D L xs ys){a:aJ}(ha:L a):wD D (fun p=>L p∧p≠a∧p≠aF xs a) xs ys:=⟨h.ag,h.wi.cut ha,fun p hp=>h.al p hp.1⟩
theorem wD.gone(h:wD D L xs ys)(a:Int)(h0:0≤a)(ha:∀p,L p→p.1≠a):wD (fun i=>D i∨i=a) L xs (bE ys a):=
 ⟨(h.ag.mono fun i hi=>.inl hi).drop h0 (.inr rfl),h.wi,fun p hp e=>e.elim (h.al p hp) (ha p hp)⟩
end
end Go.Tr
namespace Go.Tr
open Go Go.RowKit
def Live(D:Int→Prop)(xs:List NAgent):aJ→Prop:=fun p=>ak xs p∧¬D p.1
def St(D:Int→Prop)(xs ys:List NAgent):Prop:=wD D (Live D xs) xs ys
theorem ak.jF{xs:List NAgent}{p q r:aJ}:ak (bQ xs p q) r↔ak xs r:=⟨ak.unlink,ak.link⟩
theorem ak.jH{xs:List NAgent}{p q r:aJ}:ak (dN xs p q) r↔ak xs r:=ak.jF
theorem ak.K7{xs:List NAgent}{p q r:aJ}:ak (aT xs p q) r↔ak xs r:=by
 unfold aT;cases ((aF xs p).1==q.1&&(aF xs p).2==q.2)with
 |true=>exact Iff.rfl
 |false=>exact ak.jF
theorem ak.eu{xs:List NAgent}{a:NAgent}{r:aJ}:ak (xs++[a]) r↔ak xs r∨(r.1=(xs.length:Nat)∧0≤r.2∧r.2<(a.ports.length:Nat)):=by
 constructor
 ·rintro⟨h1,h2,h3,h4⟩;rw[List.length_append,List.length_singleton]at h2
  by_cases hl:r.1.toNat<xs.length
  ·rw[dJ hl]at h4;exact .inl ⟨h1,by omega,h3,h4⟩
  ·have e:r.1.toNat=xs.length:=by omega
   rw[qQ e]at h4;exact .inr ⟨by omega,h3,h4⟩
 ·rintro(h|⟨h1,h2,h3⟩)
  ·exact h.app
  ·refine⟨by omega,by rw[List.length_append,List.length_singleton];omega,h2,?_⟩;rw[qQ (by omega)];exact h3
structure nI(D:Int→Prop)(xs:List NAgent)(x y:Int):Prop where
 ne:x≠y
 lx:¬D x
 ly:¬D y
 px:ak xs (x,0)
 py:ak xs (y,0)
 w:aF xs (x,0)=(y,0)
section
variable {D:Int→Prop}{xs ys:List NAgent}{x y:Int}
theorem St.open_(h:St D xs ys)(k:nI D xs x y):wD D (fun p=>(ak xs p∧¬D p.1)∧p≠(x,0)∧p≠(y,0)) xs ys:=by
 have:=h.cut (a:=(x,0)) ⟨k.px,k.lx⟩;rw[k.w]at this;exact this
theorem dV{a b s t:Int}(h:a≠b∨s≠t):((a,s):aJ)≠(b,t):=fun e=>by
 injection e with e1 e2
 rcases h with h|h
 ·exact h e1
 ·exact h e2
theorem St.joins(h:St D xs ys)(k:nI D xs x y)(hx:(ah xs x).2.2.2.2.length=3)(hy:(ah xs y).2.2.2.2.length=3):
  St (fun i=>D i∨i=x∨i=y) (aT (aT xs (x,1) (y,1)) (x,2) (y,2)) (bE (bE (aT (aT ys (x,1) (y,1)) (x,2) (y,2)) x) y):=by
 have inx:∀s:Int,0≤s→s<3→ak xs (x,s):=fun s h0 h1=>⟨k.px.1,k.px.2.1,h0,by show s<((ah xs x).2.2.2.2.length:Nat);omega⟩
 have iny:∀s:Int,0≤s→s<3→ak xs (y,s):=fun s h0 h1=>⟨k.py.1,k.py.2.1,h0,by show s<((ah xs y).2.2.2.2.length:Nat);omega⟩
 have s0:=h.open_ k;have s1:=s0.join (x:=(x,1)) (y:=(y,1)) ⟨⟨inx 1 (by decide) (by decide),k.lx⟩,dV (.inr (by decide)),dV (.inl k.ne)⟩ ⟨⟨iny 1 (by decide) (by decide),k.ly⟩,dV (.inl k.ne.symm),dV (.inr (by decide))⟩ (dV (.inl k.ne));have s2:=s1.join (x:=(x,2)) (y:=(y,2)) ⟨⟨⟨inx 2 (by decide) (by decide),k.lx⟩,dV (.inr (by decide)),dV (.inl k.ne)⟩,dV (.inr (by decide)),dV (.inl k.ne)⟩ ⟨⟨⟨iny 2 (by decide) (by decide),k.ly⟩,dV (.inl k.ne.symm),dV (.inr (by decide))⟩,dV (.inl k.ne.symm),dV (.inr (by decide))⟩ (dV (.inl k.ne))
 have key:∀p:aJ,Live (fun i=>D i∨i=x∨i=y) (aT (aT xs (x,1) (y,1)) (x,2) (y,2)) p↔((((ak xs p∧¬D p.1)∧p≠(x,0)∧p≠(y,0))∧p≠(x,1)∧p≠(y,1))∧p≠(x,2)∧p≠(y,2)):=fun p=>by
  unfold Live;rw[ak.K7,ak.K7];constructor
  ·rintro⟨h1,h2⟩;have h3:p.1≠x:=fun e=>h2 (.inr (.inl e))
   have h4:p.1≠y:=fun e=>h2 (.inr (.inr e))
   have nx:∀s,p≠(x,s):=fun s e=>h3 (by rw[e])
   have ny:∀s,p≠(y,s):=fun s e=>h4 (by rw[e])
   exact⟨⟨⟨⟨h1,fun e=>h2 (.inl e)⟩,nx 0,ny 0⟩,nx 1,ny 1⟩,nx 2,ny 2⟩
  ·rintro⟨⟨⟨⟨h1,h2⟩,x0,y0⟩,x1,y1⟩,x2,y2⟩;refine⟨h1,fun e=> ?_⟩;obtain⟨q1,q2,q3,q4⟩:=h1;rcases e with e|e|e
   ·exact h2 e
   ·rw[e]at q4;have q5:p.2<3:=by(have:p.2<((ah xs x).2.2.2.2.length:Nat):=q4);omega
    have:p.2=0∨p.2=1∨p.2=2:=by omega
    rcases this with e2|e2|e2
    ·exact x0 (eU e e2)
    ·exact x1 (eU e e2)
    ·exact x2 (eU e e2)
   ·rw[e]at q4;have q5:p.2<3:=by(have:p.2<((ah xs y).2.2.2.2.length:Nat):=q4);omega
    have:p.2=0∨p.2=1∨p.2=2:=by omega
    rcases this with e2|e2|e2
    ·exact y0 (eU e e2)
    ·exact y1 (eU e e2)
    ·exact y2 (eU e e2)
 have s3:=s2.congr key;have s4:=(s3.gone x k.px.1 fun p hp e=>hp.2 (.inr (.inl e))).gone y k.py.1 fun p hp e=>hp.2 (.inr (.inr e))
 exact⟨s4.ag.mono fun i hi=>by rcases hi with(hi|hi)|hi<;>simp_all,s4.wi,fun p hp=>hp.2⟩
end
end Go.Tr
namespace Go.Tr
open Go Go.RowKit
def SX(D:Int→Prop)(X:aJ→Prop)(xs ys:List NAgent):Prop:=wD D (fun p=>(ak xs p∧¬D p.1)∧¬X p) xs ys
section
variable {D:Int→Prop}{X Y:aJ→Prop}{xs ys:List NAgent}
theorem SX.congr(h:SX D X xs ys)(e:∀p,ak xs p→¬D p.1→(Y p↔X p)):SX D Y xs ys:=wD.congr h fun p=>by
 constructor
 ·rintro⟨⟨h1,h2⟩,h3⟩;exact⟨⟨h1,h2⟩,fun h4=>h3 ((e p h1 h2).2 h4)⟩
 ·rintro⟨⟨h1,h2⟩,h3⟩;exact⟨⟨h1,h2⟩,fun h4=>h3 ((e p h1 h2).1 h4)⟩
theorem SX.add(h:SX D X xs ys)(a:NAgent):SX D (fun p=>X p∨p.1=(xs.length:Nat)) (xs++[a]) (ys++[a]):=wD.congr (wD.app h [a]) fun p=>by
 rw[ak.eu];constructor
 ·rintro⟨⟨h1,h2⟩,h3⟩;rcases h1 with h1|h1
  ·exact⟨⟨h1,h2⟩,fun h4=>h3 (.inl h4)⟩
  ·exact absurd (.inr h1.1) h3
 ·rintro⟨⟨h1,h2⟩,h3⟩;refine⟨⟨.inl h1,h2⟩,fun h4=> ?_⟩;rcases h4 with h4|h4
  ·exact h3 h4
  ·have:=h1.2.1;omega
theorem SX.move(h:SX D X xs ys){old now:aJ}(ho:ak xs old)(od:¬D old.1)(ox:¬X old)(hn:ak xs now)(nd:¬D now.1)(nx:X now):SX D (fun p=>(X p∨p=old)∧p≠now) (dN xs old now) (dN ys old now):=by
 refine wD.congr (wD.move h (old:=old) (now:=now) ⟨⟨ho,od⟩,ox⟩ hn (fun k=>k.2 nx) nd) fun p=> ?_
 rw[ak.jH];constructor
 ·rintro⟨⟨h1,h2⟩,h3⟩
  by_cases e:p=now
  ·exact .inr e
  ·exact .inl ⟨⟨⟨h1,h2⟩,fun k=>h3 ⟨.inl k,e⟩⟩,fun k=>h3 ⟨.inr k,e⟩⟩
 ·rintro(⟨⟨⟨h1,h2⟩,h3⟩,h4⟩|rfl)
  ·exact⟨⟨h1,h2⟩,fun k=>k.1.elim h3 h4⟩
  ·exact⟨⟨hn,nd⟩,fun k=>k.2 rfl⟩
theorem SX.link(h:SX D X xs ys){p q:aJ}(hp:ak xs p)(pd:¬D p.1)(px:X p)(hq:ak xs q)(qd:¬D q.1)(qx:X q)(hpq:p≠q):SX D (fun r=>X r∧r≠p∧r≠q) (bQ xs p q) (bQ ys p q):=by
 refine wD.congr (wD.link h hp hq (fun k=>k.2 px) (fun k=>k.2 qx) hpq pd qd) fun r=> ?_
 rw[ak.jF];constructor
 ·rintro⟨⟨h1,h2⟩,h3⟩
  by_cases e1:r=p
  ·exact .inr (.inl e1)
  by_cases e2:r=q
  ·exact .inr (.inr e2)
  ·exact .inl ⟨⟨h1,h2⟩,fun k=>h3 ⟨k,e1,e2⟩⟩
 ·rintro(⟨⟨h1,h2⟩,h3⟩|rfl|rfl)
  ·exact⟨⟨h1,h2⟩,fun k=>h3 k.1⟩
  ·exact⟨⟨hp,pd⟩,fun k=>k.2.1 rfl⟩
  ·exact⟨⟨hq,qd⟩,fun k=>k.2.2 rfl⟩
theorem SX.start{x y:Int}(h:St D xs ys)(k:nI D xs x y):SX D (fun p=>p=(x,0)∨p=(y,0)) xs ys:=wD.congr (h.open_ k) fun p=>by
 constructor
 ·rintro⟨h1,h3⟩;exact⟨h1,fun e=>h3 (.inl e),fun e=>h3 (.inr e)⟩
 ·rintro⟨h1,h2,h3⟩;exact⟨h1,fun e=>e.elim h2 h3⟩
theorem SX.P6{x y:Int}(h:SX D X xs ys)(x0:0≤x)(y0:0≤y)(e:∀p,ak xs p→¬D p.1→(X p↔p.1=x∨p.1=y)):St (fun i=>D i∨i=x∨i=y) xs (bE (bE ys x) y):=by
 have s3:wD D (Live (fun i=>D i∨i=x∨i=y) xs) xs ys:=wD.congr h fun p=>by
  unfold Live;constructor
  ·rintro⟨h1,h2⟩;have h3:¬D p.1:=fun k=>h2 (.inl k)
   exact⟨⟨h1,h3⟩,fun k=>h2 (.inr ((e p h1 h3).1 k))⟩
  ·rintro⟨⟨h1,h2⟩,h3⟩;exact⟨h1,fun k=>k.elim h2 fun k=>h3 ((e p h1 h2).2 k)⟩
 have s4:=(s3.gone x x0 fun p hp e=>hp.2 (.inr (.inl e))).gone y y0 fun p hp e=>hp.2 (.inr (.inr e))
 exact⟨s4.ag.mono fun i hi=>by rcases hi with(hi|hi)|hi<;>simp_all,s4.wi,fun p hp=>hp.2⟩
theorem SX.end1{x:Int}(h:SX D X xs ys)(x0:0≤x)(e:∀p,ak xs p→¬D p.1→(X p↔p.1=x)):St (fun i=>D i∨i=x) xs (bE ys x):=by
 have s3:wD D (Live (fun i=>D i∨i=x) xs) xs ys:=wD.congr h fun p=>by
  unfold Live;constructor
  ·rintro⟨h1,h2⟩;have h3:¬D p.1:=fun k=>h2 (.inl k)
   exact⟨⟨h1,h3⟩,fun k=>h2 (.inr ((e p h1 h3).1 k))⟩
  ·rintro⟨⟨h1,h2⟩,h3⟩;exact⟨h1,fun k=>k.elim h2 fun k=>h3 ((e p h1 h2).2 k)⟩
 have s4:=s3.gone x x0 fun p hp e=>hp.2 (.inr e)
 exact⟨s4.ag,s4.wi,fun p hp=>hp.2⟩
theorem SX.len(h:SX D X xs ys):xs.length=ys.length:=h.ag.1
theorem SX.at_(h:SX D X xs ys){i:Int}(h0:0≤i)(h1:i<(xs.length:Nat))(hd:¬D i):ah ys i=ah xs i:=(h.ag.2 i h0 h1 hd).symm
theorem KO{y:Int}{p:aJ}(hlt:p.1.toNat<xs.length):∀{k:Nat},ak (sS y xs k) p→ak xs p
 |0,h=>h
 |k+1,h=>by
  unfold sS at h;rw[ak.jH,ak.eu,kC]at h;rcases h with h|⟨h,_⟩
  ·exact KO hlt h
  ·omega
theorem RI{x y:Int}(h:St D xs ys)(k:nI D xs x y)(hD:∀i,D i→i<(xs.length:Nat)):∀n:Nat,n≤(ah xs y).2.2.2.2.length-1→SX D (fun p=>p=(x,0)∨(p.1=y∧p.2≤(n:Nat))) (sS y xs n) (sS y ys n)
 |0,_=>(SX.start h k).congr fun p hp _=>by
  constructor
  ·rintro(e|⟨e1,e2⟩)
   ·exact .inl e
   ·exact .inr (eU e1 (by have:=hp.2.2.1;show p.2=0;omega))
  ·rintro(e|e)
   ·exact .inl e
   ·exact .inr (by rw[e];exact⟨rfl,Int.le_refl _⟩)
 |n+1,hn=>by
  have ih:=RI h k hD n (by omega);have hl:(sS y xs n).length=xs.length+n:=kC y xs n;have hyl:=k.py.2.1;have hy0:=k.py.1;have hpy:ak xs (y,((n+1:Nat):Int)):=⟨hy0,hyl,by omega,by show((n+1:Nat):Int)<((ah xs y).2.2.2.2.length:Nat);omega⟩;have hin:=pO (y:=y) hpy n;have s1:=ih.add (bD 5 0 0 [] 1);have hnew:ak (sS y xs n++[bD 5 0 0 [] 1]) (((xs.length+n:Nat):Int),0):=ak.eu.2 (.inr ⟨by rw[hl],Int.le_refl _,show(0:Int)<1 by decide⟩)
  have s2:=s1.move (old:=(y,((n+1:Nat):Int))) (now:=(((xs.length+n:Nat):Int),0)) hin.app k.ly (by
   rintro((e|⟨_,e⟩)|e)
   ·exact dV (.inl k.ne.symm) e
   ·have:((n+1:Nat):Int)≤(n:Nat):=e;omega
   ·have:y=((sS y xs n).length:Nat):=e;rw[hl]at this;omega) hnew (fun e=>by have:=hD _ e;show False;have h2:((xs.length+n:Nat):Int)<(xs.length:Nat):=this;omega) (.inr (by rw[hl]))
  have hyx:(sS y ys n++[bD 5 0 0 [] 1])=sS y ys n++[bD 5 0 0 [] 1]:=rfl
  have s3:SX D (fun p=>p=(x,0)∨(p.1=y∧p.2≤((n+1:Nat):Int))) (dN (sS y xs n++[bD 5 0 0 [] 1]) (y,((n+1:Nat):Int)) (((xs.length+n:Nat):Int),0)) (dN (sS y ys n++[bD 5 0 0 [] 1]) (y,((n+1:Nat):Int)) (((xs.length+n:Nat):Int),0)):=s2.congr fun p hp _=>by
   rw[ak.jH,ak.eu,hl]at hp;rw[hl];constructor
   ·rintro(rfl|⟨e1,e2⟩)
    ·refine⟨.inl (.inl (.inl rfl)),dV (.inl ?_)⟩;have:=k.px.2.1;show x≠((xs.length+n:Nat):Int);have h2:x<(xs.length:Nat):=this;omega
    ·refine⟨?_,fun e=> ?_⟩
     ·by_cases e3:p.2=((n+1:Nat):Int)
      ·exact .inr (eU e1 e3)
      ·exact .inl (.inl (.inr ⟨e1,by omega⟩))
     ·rw[e]at e1;have:((xs.length+n:Nat):Int)=y:=e1;have h2:y<(xs.length:Nat):=hyl;omega
   ·rintro⟨((e|⟨e1,e2⟩)|e)|e,e3⟩
    ·exact .inl e
    ·exact .inr ⟨e1,by omega⟩
    ·rcases hp with hp|⟨q1,q2,q3⟩
     ·have h2:=hp.2.1;rw[hl]at h2;have e':p.1=((xs.length+n:Nat):Int):=e;omega
     ·refine absurd (eU (q:=(((xs.length+n:Nat):Int),0)) e ?_) e3;have:p.2<1:=q3;show p.2=0;omega
    ·exact .inr (by rw[e];exact⟨rfl,Int.le_refl _⟩)
  show SX D _ (sS y xs (n+1)) (sS y ys (n+1));unfold sS;rw[←h.ag.1];exact s3
theorem St.erase{x y:Int}(h:St D xs ys)(k:nI D xs x y)(hD:∀i,D i→i<(xs.length:Nat))(hx:(ah xs x).2.2.2.2.length=1):St (fun i=>D i∨i=x∨i=y) (iD xs y) (bE (bE (iD ys y) x) y):=by
 have e:ah ys y=ah xs y:=(h.ag.2 y k.py.1 k.py.2.1 k.ly).symm;unfold iD;rw[e];have s:=RI h k hD ((ah xs y).2.2.2.2.length-1) (Nat.le_refl _);refine s.P6 k.px.1 k.py.1 fun p hp _=> ?_
 have hport:p.1=x∨p.1=y→ak xs p:=fun hc=>by
  have hlt:p.1.toNat<xs.length:=by
   have h1:=k.px.2.1;have h2:=k.py.2.1;have h3:=k.px.1;have h4:=k.py.1
   have g1:x<(xs.length:Nat):=h1;have g2:y<(xs.length:Nat):=h2;have g3:0≤x:=h3;have g4:0≤y:=h4;rcases hc with hc|hc<;>omega
  exact KO hlt hp
 constructor
 ·rintro(rfl|⟨e1,_⟩)
  ·exact .inl rfl
  ·exact .inr e1
 ·intro hc;obtain⟨q1,q2,q3,q4⟩:=hport hc;rcases hc with hc|hc
  ·rw[hc]at q4;have:p.2<((ah xs x).2.2.2.2.length:Nat):=q4;exact .inl (eU hc (by show p.2=0;omega))
  ·rw[hc]at q4;have:p.2<((ah xs y).2.2.2.2.length:Nat):=q4;exact .inr ⟨hc,by omega⟩
theorem EO{p:aJ}(h:ak xs p):p.1.toNat<xs.length:=by have:=h.1;have:=h.2.1;omega
theorem St.operate{x y:Int}(h:St D xs ys)(k:nI D xs x y)(hD:∀i,D i→i<(xs.length:Nat))(hx:(ah xs x).2.2.2.2.length=1)(h7:(ah xs y).1=7→(ah xs y).2.2.2.2.length=3)(h8:(ah xs y).1≠7→(ah xs y).2.2.2.2.length=2):
  St (fun i=>D i∨i=x∨i=y) (bJ xs x y) (bE (bE (bJ ys x y) x) y):=by
 have ey:ah ys y=ah xs y:=(h.ag.2 y k.py.1 k.py.2.1 k.ly).symm;have ex:ah ys x=ah xs x:=(h.ag.2 x k.px.1 k.px.2.1 k.lx).symm;have hn:¬D (xs.length:Nat):=fun e=>by have:=hD _ e;omega
 have xl:x<(xs.length:Nat):=k.px.2.1;have yl:y<(xs.length:Nat):=k.py.2.1;have iny:∀s:Int,0≤s→s<((ah xs y).2.2.2.2.length:Nat)→ak xs (y,s):=fun s h0 h1=>⟨k.py.1,k.py.2.1,h0,h1⟩
 have fin:∀(X:aJ→Prop) (a:NAgent) (zs:List NAgent),(∀p,ak zs p↔ak (xs++[a]) p)→(∀p,ak (xs++[a]) p→(X p↔(ak xs p∧(p.1=x∨p.1=y))))→∀p,ak zs p→¬D p.1→(X p↔p.1=x∨p.1=y):=fun X a zs hz hX p hp _=>by
  rw[hX p ((hz p).1 hp)];constructor
  ·exact fun e=>e.2
  ·intro e;refine⟨?_,e⟩;rcases ak.eu.1 ((hz p).1 hp)with q|⟨q,_⟩
   ·exact q
   ·rcases e with e|e<;>omega
 unfold bJ;rw[ex,ey,←h.ag.1];cases hk:(ah xs y).1==7 with
 |true=>
  have h3:=h7 (by simpa using hk);simp only[cond_true];have i1:=iny 1 (by decide) (by omega);have i2:=iny 2 (by decide) (by omega);have s1:=(SX.start h k).add (bD 8 (ah xs y).2.1 (ah xs y).2.2.1 [(ah xs x).2.2.1] 2);have n0:ak (xs++[bD 8 (ah xs y).2.1 (ah xs y).2.2.1 [(ah xs x).2.2.1] 2]) ((xs.length:Nat),0):=ak.eu.2 (.inr ⟨rfl,Int.le_refl _,show(0:Int)<2 by decide⟩);have n1:ak (xs++[bD 8 (ah xs y).2.1 (ah xs y).2.2.1 [(ah xs x).2.2.1] 2]) ((xs.length:Nat),1):=ak.eu.2 (.inr ⟨rfl,show(0:Int)≤1 by decide,show(1:Int)<2 by decide⟩)
  have s2:=s1.move (old:=(y,1)) (now:=((xs.length:Nat),0)) i1.app k.ly (by
   rintro((e|e)|e)
   ·exact dV (.inl k.ne.symm) e
   ·exact dV (.inr (by decide)) e
   ·have:y=(xs.length:Nat):=e;omega) n0 hn (.inr rfl)
  have s3:=s2.move (old:=(y,2)) (now:=((xs.length:Nat),1)) i2.app.move k.ly (by
   rintro⟨((e|e)|e)|e,_⟩
   ·exact dV (.inl k.ne.symm) e
   ·exact dV (.inr (by decide)) e
   ·have:y=(xs.length:Nat):=e;omega
   ·exact dV (.inr (by decide)) e) n1.move hn ⟨.inl (.inr rfl),dV (.inr (by decide))⟩
  refine s3.P6 k.px.1 k.py.1 (fin _ _ _ (fun p=>by rw[ak.jH,ak.jH]) fun p hp=> ?_)
  have hA:p.1=(xs.length:Nat)→p=(((xs.length:Nat):Int),0)∨p=(((xs.length:Nat):Int),1):=fun e=>by
   rcases ak.eu.1 hp with q|⟨_,q2,q3⟩
   ·have:=q.2.1;omega
   ·have:p.2<2:=q3;have:p.2=0∨p.2=1:=by omega
    rcases this with e2|e2
    ·exact .inl (eU e e2)
    ·exact .inr (eU e e2)
  constructor
  ·rintro⟨(⟨((e|e)|e)|e,e2⟩|e),e3⟩
   ·rw[e];exact⟨k.px,.inl rfl⟩
   ·rw[e];exact⟨k.py,.inr rfl⟩
   ·rcases hA e with e4|e4
    ·exact absurd e4 e2
    ·exact absurd e4 e3
   ·rw[e];exact⟨i1,.inr rfl⟩
   ·rw[e];exact⟨i2,.inr rfl⟩
  ·rintro⟨q,e⟩;have ne:∀s,p≠(((xs.length:Nat):Int),s):=fun s e2=>by have:=q.2.1;rw[e2]at this;have h3:((xs.length:Nat):Int)<(xs.length:Nat):=this;omega
   refine⟨?_,ne 1⟩;obtain⟨q1,q2,q3,q4⟩:=q;rcases e with e|e
   ·rw[e]at q4;have:p.2<((ah xs x).2.2.2.2.length:Nat):=q4;exact .inl ⟨.inl (.inl (.inl (eU e (by show p.2=0;omega)))),ne 0⟩
   ·rw[e]at q4;have:p.2<((ah xs y).2.2.2.2.length:Nat):=q4;have:p.2=0∨p.2=1∨p.2=2:=by omega
    rcases this with e2|e2|e2
    ·exact .inl ⟨.inl (.inl (.inr (eU e e2))),ne 0⟩
    ·exact .inl ⟨.inr (eU e e2),ne 0⟩
    ·exact .inr (eU e e2)
 |false=>
  have h3:=h8 (by simpa using hk);simp only[cond_false];have i1:=iny 1 (by decide) (by omega);generalize hv:xG (ah xs y).2.2.1 (jC (ah xs y).2.2.2.1 0) (ah xs x).2.2.1=v;have s1:=(SX.start h k).add (bD 6 0 v [] 1);have n0:ak (xs++[bD 6 0 v [] 1]) ((xs.length:Nat),0):=ak.eu.2 (.inr ⟨rfl,Int.le_refl _,show(0:Int)<1 by decide⟩)
  have s2:=s1.move (old:=(y,1)) (now:=((xs.length:Nat),0)) i1.app k.ly (by
   rintro((e|e)|e)
   ·exact dV (.inl k.ne.symm) e
   ·exact dV (.inr (by decide)) e
   ·have:y=(xs.length:Nat):=e;omega) n0 hn (.inr rfl)
  refine s2.P6 k.px.1 k.py.1 (fin _ _ _ (fun p=>by rw[ak.jH]) fun p hp=> ?_)
  have hA:p.1=(xs.length:Nat)→p=(((xs.length:Nat):Int),0):=fun e=>by
   rcases ak.eu.1 hp with q|⟨_,q2,q3⟩
   ·have:=q.2.1;omega
   ·have:p.2<1:=q3;exact eU e (by show p.2=0;omega)
  constructor
  ·rintro⟨((e|e)|e)|e,e2⟩
   ·rw[e];exact⟨k.px,.inl rfl⟩
   ·rw[e];exact⟨k.py,.inr rfl⟩
   ·exact absurd (hA e) e2
   ·rw[e];exact⟨i1,.inr rfl⟩
  ·rintro⟨q,e⟩;have ne:∀s,p≠(((xs.length:Nat):Int),s):=fun s e2=>by have:=q.2.1;rw[e2]at this;have h3:((xs.length:Nat):Int)<(xs.length:Nat):=this;omega
   refine⟨?_,ne 0⟩;obtain⟨q1,q2,q3,q4⟩:=q;rcases e with e|e
   ·rw[e]at q4;have:p.2<((ah xs x).2.2.2.2.length:Nat):=q4;exact .inl (.inl (.inl (eU e (by show p.2=0;omega))))
   ·rw[e]at q4;have:p.2<((ah xs y).2.2.2.2.length:Nat):=q4;have:p.2=0∨p.2=1:=by omega
    rcases this with e2|e2
    ·exact .inl (.inl (.inr (eU e e2)))
    ·exact .inr (eU e e2)
end
end Go.Tr
namespace Go.Tr
open Go Go.RowKit
section
variable {D:Int→Prop}{xs ys:List NAgent}{x y:Int}
theorem qG(lab c d:Int)(xs:List NAgent):∀k,(bf lab c d xs k).length=xs.length+k
 |0=>rfl
 |k+1=>by unfold bf yg;rw[jE,jE,List.length_append,qG lab c d xs k];rfl
theorem mQ{lab c d:Int}{xs:List NAgent}{p:aJ}(h:ak xs p):∀k,ak (bf lab c d xs k) p
 |0=>h
 |k+1=>(mQ h k).app.link.link
theorem KU{P Q:List NAgent}{lab:Int}{n m:Nat}(hn:P.length=n+2)(hx:x<(n:Nat))(hy:y<(n:Nat))(hD:∀i,D i→i<(n:Nat))(hm:∀s:Int,0≤s→s<(m:Nat)→ak P ((n:Nat),s)∧ak P ((n+1:Nat),s))
  (h:SX D (fun p=>p=(x,0)∨p=(y,0)∨p.1=(n:Nat)∨p.1=((n+1:Nat):Int)) P Q):∀k:Nat,k+1≤m→
  SX D (fun p=>p=(x,0)∨p=(y,0)∨((p.1=(n:Nat)∨p.1=((n+1:Nat):Int))∧(p.2=0∨(k:Int)<p.2))∨(((n+2:Nat):Int)≤p.1∧p.2=0)) (bf lab ((n:Nat):Int) ((n+1:Nat):Int) P k) (bf lab ((n:Nat):Int) ((n+1:Nat):Int) Q k)
 |0,_=>h.congr fun p hp _=>by
  obtain⟨q1,q2,q3,_⟩:=hp;obtain⟨a,s⟩:=p;rw[hn]at q2;simp only[Prod.mk.injEq]at*;omega
 |k+1,hk=>by
  have ih:=KU (lab:=lab) hn hx hy hD hm h k (by omega);have hl:(bf lab ((n:Nat):Int) ((n+1:Nat):Int) P k).length=n+2+k:=by rw[qG,hn]
  have hlq:(bf lab ((n:Nat):Int) ((n+1:Nat):Int) Q k).length=n+2+k:=by rw[←ih.len,hl]
  have nd:∀i:Nat,n≤i→¬D (i:Nat):=fun i hi e=>by have:=hD _ e;omega
  obtain⟨hc,hd⟩:=hm ((k+1:Nat):Int) (by omega) (by omega);have hc1:=mQ (lab:=lab) (c:=((n:Nat):Int)) (d:=((n+1:Nat):Int)) hc k;have hd1:=mQ (lab:=lab) (c:=((n:Nat):Int)) (d:=((n+1:Nat):Int)) hd k;generalize hA:bf lab ((n:Nat):Int) ((n+1:Nat):Int) P k=A at*;generalize hB:bf lab ((n:Nat):Int) ((n+1:Nat):Int) Q k=B at*;have s1:=ih.add (bD 4 lab 0 [] 3);have f1:ak (A++[bD 4 lab 0 [] 3]) ((A.length:Nat),1):=ak.eu.2 (.inr ⟨rfl,show(0:Int)≤1 by decide,show(1:Int)<3 by decide⟩)
  have f2:ak (A++[bD 4 lab 0 [] 3]) ((A.length:Nat),2):=ak.eu.2 (.inr ⟨rfl,show(0:Int)≤2 by decide,show(2:Int)<3 by decide⟩);rw[hl]at f1 f2 s1;have s2:=s1.link (p:=((n+2+k:Nat),1)) (q:=((n:Nat),((k+1:Nat):Int))) f1 (nd _ (by omega)) (.inr rfl) hc1.app (nd _ (Nat.le_refl _)) (.inl (.inr (.inr (.inl ⟨.inl rfl,.inr (show(k:Int)<((k+1:Nat):Int) by omega)⟩)))) (dV (.inl (by omega)))
  have s3:=s2.link (p:=((n+2+k:Nat),2)) (q:=((n+1:Nat),((k+1:Nat):Int))) f2.link (nd _ (by omega)) ⟨.inr rfl,dV (.inr (by decide)),dV (.inl (by omega))⟩ hd1.app.link (nd _ (by omega))
   ⟨.inl (.inr (.inr (.inl ⟨.inr rfl,.inr (show(k:Int)<((k+1:Nat):Int) by omega)⟩))),dV (.inl (by omega)),dV (.inl (by omega))⟩ (dV (.inl (by omega)))
  have e1:bf lab ((n:Nat):Int) ((n+1:Nat):Int) P (k+1)=bQ (bQ (A++[bD 4 lab 0 [] 3]) ((n+2+k:Nat),1) ((n:Nat),((k+1:Nat):Int))) ((n+2+k:Nat),2) ((n+1:Nat),((k+1:Nat):Int)):=by
   rw[←hl,←hA];rfl
  have e2:bf lab ((n:Nat):Int) ((n+1:Nat):Int) Q (k+1)=bQ (bQ (B++[bD 4 lab 0 [] 3]) ((n+2+k:Nat),1) ((n:Nat),((k+1:Nat):Int))) ((n+2+k:Nat),2) ((n+1:Nat),((k+1:Nat):Int)):=by
   rw[←hlq,←hB];rfl
  rw[e1,e2];refine s3.congr fun p hp _=> ?_
  rw[ak.jF,ak.jF,ak.eu,hl]at hp
  have hp':p.1<((n+2+k:Nat):Int)∨(p.1=((n+2+k:Nat):Int)∧0≤p.2∧p.2<3):=by
   rcases hp with hp|hp
   ·have:=hp.2.1;rw[hl]at this;exact .inl this
   ·exact .inr hp
  have h0:0≤p.2:=by
   rcases hp with hp|hp
   ·exact hp.2.2.1
   ·exact hp.2.1
  obtain⟨a,s⟩:=p;simp only[Prod.mk.injEq,ne_eq]at*;omega
theorem HV{P Q:List NAgent}{b m:Nat}{X:aJ→Prop}(hX:∀k:Nat,k<m→¬X (y,((k:Nat):Int)+1)∧X (((b+k:Nat):Int),0))(hy:ak P (y,0)∧∀k:Nat,k<m→ak P (y,((k:Nat):Int)+1)∧ak P (((b+k:Nat):Int),0))(yd:¬D y)(bd:∀k:Nat,¬D ((b+k:Nat):Int))(yb:y<(b:Nat))(h:SX D X P Q):
  ∀k:Nat,k≤m→SX D (fun p=>(X p∨(p.1=y∧1≤p.2∧p.2≤(k:Nat)))∧¬((b:Int)≤p.1∧p.1<((b+k:Nat):Int)∧p.2=0)) (dG y b P k) (dG y b Q k)
 |0,_=>h.congr fun p hp _=>by
  constructor
  ·rintro⟨e|e,_⟩
   ·exact e
   ·omega
  ·intro e;exact⟨.inl e,fun k=>by omega⟩
 |k+1,hk=>by
  have ih:=HV hX hy yd bd yb h k (by omega);obtain⟨x1,x2⟩:=hX k (by omega);obtain⟨y1,y2⟩:=hy.2 k (by omega)
  have s1:=ih.move (old:=(y,((k:Nat):Int)+1)) (now:=(((b+k:Nat):Int),0)) (fK y1 k) yd (by
   rintro⟨e|⟨_,_,e⟩,_⟩
   ·exact x1 e
   ·have:((k:Nat):Int)+1≤(k:Nat):=e;omega) (fK y2 k) (bd k) ⟨.inl x2,fun e=>by have:((b+k:Nat):Int)<((b+k:Nat):Int):=e.2.1;omega⟩
  refine s1.congr fun p hp _=> ?_
  have q:(((X p∨(p.1=y∧1≤p.2∧p.2≤((k+1:Nat):Int)))∧¬((b:Int)≤p.1∧p.1<((b+(k+1):Nat):Int)∧p.2=0))↔((((X p∨(p.1=y∧1≤p.2∧p.2≤(k:Nat)))∧¬((b:Int)≤p.1∧p.1<((b+k:Nat):Int)∧p.2=0))∨p=(y,((k:Nat):Int)+1))∧p≠(((b+k:Nat):Int),0))):=by
   obtain⟨a,s⟩:=p;simp only[Prod.mk.injEq,ne_eq]
   by_cases hXp:X (a,s)
   ·simp only[hXp,true_or,true_and];omega
   ·simp only[hXp,false_or];omega
  exact q
theorem yQ{lab c d:Int}{xs:List NAgent}{p:aJ}(hlt:p.1.toNat<xs.length):∀{k:Nat},ak (bf lab c d xs k) p→ak xs p
 |0,h=>h
 |k+1,h=>by
  unfold bf yg at h;rw[ak.jF,ak.jF,ak.eu,qG]at h;rcases h with h|⟨h,_⟩
  ·exact yQ hlt h
  ·omega
theorem Ad{y:Int}{b:Nat}{xs:List NAgent}{p:aJ}:∀k:Nat,ak (dG y b xs k) p↔ak xs p
 |0=>Iff.rfl
 |k+1=>by unfold dG;rw[ak.jH,Ad k]
theorem PZ{xs:List NAgent}{y:Int}{p:aJ}(hlt:p.1.toNat<xs.length)(h:ak (dup2 xs y) p):ak xs p:=by
 unfold dup2 at h;rw[ak.eu,ak.eu,List.length_append]at h;rcases h with(h|⟨h,_⟩)|⟨h,_⟩
 ·exact h
 ·omega
 ·simp only[List.length_singleton]at h;omega
theorem GX{xs:List NAgent}{y:Int}{lab:Int}{p:aJ}:∀k:Nat,ak (bf lab ((xs.length:Nat):Int) ((xs.length+1:Nat):Int) (dup2 xs y) k) p→0≤p.1∧p.1<((xs.length+2+k:Nat):Int)∧0≤p.2∧(p.1=(xs.length:Nat)∨p.1=((xs.length+1:Nat):Int)→p.2<((ah xs y).2.2.2.2.length:Nat))
 |0,h=>by
  have h5:ak (dup2 xs y) p:=h;obtain⟨h1,h2,h3,_⟩:=h;refine⟨h1,by(have:(bf lab ((xs.length:Nat):Int) ((xs.length+1:Nat):Int) (dup2 xs y) 0).length=xs.length+2:=gW xs y);omega,h3,fun e=> ?_⟩;unfold dup2 at h5;have hd:(nG xs y).ports.length=(ah xs y).2.2.2.2.length:=by show(List.replicate _ _).length=_;rw[List.length_replicate]
  rw[ak.eu,ak.eu,List.length_append,List.length_singleton]at h5;rcases h5 with(h5|⟨_,_,h5⟩)|⟨_,_,h5⟩
  ·have:=h5.2.1;omega
  ·omega
  ·omega
 |k+1,h=>by
  unfold bf yg at h;rw[ak.jF,ak.jF,ak.eu,qG,gW]at h;rcases h with h|⟨h1,h2,h3⟩
  ·obtain⟨q1,q2,q3,q4⟩:=GX k h;exact⟨q1,by omega,q3,q4⟩
  ·exact⟨by omega,by omega,h2,fun e=>by omega⟩
theorem St.duplicate(h:St D xs ys)(k:nI D xs x y)(hD:∀i,D i→i<(xs.length:Nat))(hx:(ah xs x).2.2.2.2.length=3)(hy:1≤(ah xs y).2.2.2.2.length):
  St (fun i=>D i∨i=x∨i=y) (bL xs x y) (bE (bE (bL ys x y) x) y):=by
 have ey:ah ys y=ah xs y:=(h.ag.2 y k.py.1 k.py.2.1 k.ly).symm;have ex:ah ys x=ah xs x:=(h.ag.2 x k.px.1 k.px.2.1 k.lx).symm;have hl:xs.length=ys.length:=h.ag.1;have xl:x<(xs.length:Nat):=k.px.2.1;have yl:y<(xs.length:Nat):=k.py.2.1;have x0:0≤x:=k.px.1;have y0:0≤y:=k.py.1;have hne:=k.ne;generalize hm:(ah xs y).2.2.2.2.length=m at*;generalize hn:xs.length=n at*;have nd:∀i:Nat,n≤i→¬D (i:Nat):=fun i hi e=>by have:=hD _ e;omega
 have s0:=SX.start h k
 have s2:SX D (fun p=>p=(x,0)∨p=(y,0)∨p.1=(n:Nat)∨p.1=((n+1:Nat):Int)) (dup2 xs y) (dup2 ys y):=by
  have e:nG ys y=nG xs y:=by unfold nG;rw[ey]
  unfold dup2;rw[e];refine((s0.add (nG xs y)).add (nG xs y)).congr fun p _ _=> ?_
  rw[List.length_append,hn];simp only[List.length_singleton];constructor
  ·rintro(e|e|e|e)
   ·exact .inl (.inl (.inl e))
   ·exact .inl (.inl (.inr e))
   ·exact .inl (.inr e)
   ·exact .inr e
  ·rintro(((e|e)|e)|e)
   ·exact .inl e
   ·exact .inr (.inl e)
   ·exact .inr (.inr (.inl e))
   ·exact .inr (.inr (.inr e))
 have hP:(dup2 xs y).length=n+2:=by rw[gW,hn]
 have hc:∀s:Int,0≤s→s<(m:Nat)→ak (dup2 xs y) ((n:Nat),s)∧ak (dup2 xs y) ((n+1:Nat),s):=fun s h0 h1=>by
  have q1:=rG (xs:=xs) (y:=y) h0 (by rw[hm];exact h1);have q2:=rH (xs:=xs) (y:=y) h0 (by rw[hm];exact h1);rw[hn]at q1 q2;exact⟨q1,q2⟩
 have s3:=KU (lab:=(ah xs x).2.1) hP xl yl hD hc s2 (m-1) (by omega)
 have fx:(ah (dup2 xs y) x).2.1=(ah xs x).2.1:=by
  unfold dup2;rw[dJ (by rw[List.length_append,hn];omega),dJ (by omega)]
 have fy:(ah (dup2 ys y) x).2.1=(ah xs x).2.1:=by
  unfold dup2;rw[dJ (by rw[List.length_append];omega),dJ (by omega),ex]
 have d3x:dup3 xs x y=bf (ah xs x).2.1 ((n:Nat):Int) ((n+1:Nat):Int) (dup2 xs y) (m-1):=by
  unfold dup3;rw[←(kM (x:=x) (by rw[hP];omega) _).1,fx,hn,hm]
 have d3y:dup3 ys x y=bf (ah xs x).2.1 ((n:Nat):Int) ((n+1:Nat):Int) (dup2 ys y) (m-1):=by
  unfold dup3;rw[←(kM (x:=x) (by rw[gW];omega) _).1,fy,←hl,ey,hm]
 have hpp:=fun p=>GX (xs:=xs) (y:=y) (lab:=(ah xs x).2.1) (p:=p) (m-1)
 have hbk:∀p:aJ,p.1.toNat<n→ak (bf (ah xs x).2.1 ((n:Nat):Int) ((n+1:Nat):Int) (dup2 xs y) (m-1)) p→ak xs p:=fun p hlt hp=>PZ (by rw[hn];exact hlt) (yQ (by rw[hP];omega) hp)
 have hin:∀p:aJ,ak xs p→ak (bf (ah xs x).2.1 ((n:Nat):Int) ((n+1:Nat):Int) (dup2 xs y) (m-1)) p:=fun p hp=>mQ (nQ hp) _
 have hfan:∀i:Nat,i<m-1→ak (bf (ah xs x).2.1 ((n:Nat):Int) ((n+1:Nat):Int) (dup2 xs y) (m-1)) (((n+2+i:Nat):Int),0):=fun i hi=>by
  have:=rJ (x:=x) (c:=((n:Nat):Int)) (d:=((n+1:Nat):Int)) (xs:=dup2 xs y) hi;rw[←(kM (x:=x) (by rw[hP];omega) _).1,fx,hP]at this;exact this
 rw[hn,hm]at hpp;have hcn:=mQ (lab:=(ah xs x).2.1) (c:=((n:Nat):Int)) (d:=((n+1:Nat):Int)) (hc 0 (Int.le_refl _) (by omega)).1 (m-1);have hdn:=mQ (lab:=(ah xs x).2.1) (c:=((n:Nat):Int)) (d:=((n+1:Nat):Int)) (hc 0 (Int.le_refl _) (by omega)).2 (m-1);have inx:∀s:Int,0≤s→s<3→ak xs (x,s):=fun s h0 h1=>⟨k.px.1,k.px.2.1,h0,by show s<((ah xs x).2.2.2.2.length:Nat);omega⟩
 have iny:∀s:Int,0≤s→s<(m:Nat)→ak xs (y,s):=fun s h0 h1=>⟨k.py.1,k.py.2.1,h0,by show s<((ah xs y).2.2.2.2.length:Nat);rw[hm];exact h1⟩
 unfold bL lD;rw[d3x,d3y,←hl,hn,ey,hm];generalize bf (ah xs x).2.1 ((n:Nat):Int) ((n+1:Nat):Int) (dup2 xs y) (m-1)=A at*;generalize bf (ah xs x).2.1 ((n:Nat):Int) ((n+1:Nat):Int) (dup2 ys y) (m-1)=B at*;have s4:=s3.move (old:=(x,1)) (now:=((n:Nat),0)) (hin _ (inx 1 (by decide) (by decide))) k.lx (by simp only[Prod.mk.injEq,ne_eq,and_true,true_and,or_true,true_or];omega) hcn (nd _ (Nat.le_refl _)) (.inr (.inr (.inl ⟨.inl rfl,.inl rfl⟩)));have s5:=s4.move (old:=(x,2)) (now:=((n+1:Nat),0)) (hin _ (inx 2 (by decide) (by decide))).move k.lx (by simp only[Prod.mk.injEq,ne_eq,and_true,true_and,or_true,true_or];omega) hdn.move (nd _ (by omega)) (by simp only[Prod.mk.injEq,ne_eq,and_true,true_and,or_true,true_or];omega)
 have s6:=HV (y:=y) (b:=n+2) (m:=m-1) (fun i hi=>by simp only[Prod.mk.injEq,ne_eq,and_true,true_and,or_true,true_or];omega) ⟨(hin _ (iny 0 (Int.le_refl _) (by omega))).move.move,fun i hi=>⟨(hin _ (iny _ (by omega) (by omega))).move.move,(hfan i hi).move.move⟩⟩ k.ly (fun i=>nd _ (by omega)) (by omega) s5 (m-1) (Nat.le_refl _);refine s6.P6 x0 y0 fun p hp _=> ?_
 rw[Ad,ak.jH,ak.jH]at hp;obtain⟨q1,q2,q3,q4⟩:=hpp p hp
 have q5:p.1=x→p.2<3:=fun e=>by
  have:=(hbk p (by omega) hp).2.2.2;rw[e]at this;have h2:p.2<((ah xs x).2.2.2.2.length:Nat):=this;omega
 have q6:p.1=y→p.2<(m:Nat):=fun e=>by
  have:=(hbk p (by omega) hp).2.2.2;rw[e]at this;have h2:p.2<((ah xs y).2.2.2.2.length:Nat):=this;omega
 clear hpp hbk hin hfan s0 s2 s3 s4 s5 s6 hc inx iny nd;obtain⟨a,s⟩:=p;simp only[Prod.mk.injEq,ne_eq]at*;omega
end
end Go.Tr
namespace Go.Tr
open Go Go.RowKit
section
variable {D:Int→Prop}{xs ys:List NAgent}{x y:Int}
theorem AV{zs:List NAgent}{p:aJ}(q:aJ)(hp:ak xs p):aN (xs++zs) p q=aN xs p q++zs:=by
 have hl:=EO hp;unfold aN;rw[dJ hl,List.set_append_left _ _ hl]
theorem Qj{zs:List NAgent}{p q:aJ}(hp:ak xs p)(hq:ak xs q):bQ (xs++zs) p q=bQ xs p q++zs:=by
 unfold bQ;rw[AV q hp,AV p hq.set]
theorem MX{p q r s:aJ}(hp:ak xs p)(hq:ak xs q)(hr:ak xs r)(hs:ak xs s)(pr:p≠r)(ps:p≠s)(qr:q≠r)(qs:q≠s):bQ (bQ xs p q) r s=bQ (bQ xs r s) p q:=by
 unfold bQ;rw[mE hq.set hr.set qr,mE (xs:=xs) hp hr pr];rw[mE (xs:=aN (aN xs r s) p q) hq.set.set hs.set.set qs,mE (xs:=aN xs r s) hp.set hs.set ps]
theorem Qn{W:List NAgent}{a:NAgent}{old now P Q:aJ}(ho:ak W old)(hpe:ak W (aF W old))(hn:ak W now)(hP:ak (W++[a]) P)(hPl:(W.length:Int)≤P.1)(hQ:ak W Q)(oq:old≠Q)(pq:aF W old≠Q)(nq:now≠Q):
  dN (bQ (W++[a]) P Q) old now=bQ (dN W old now++[a]) P Q:=by
 have far:∀r:aJ,ak W r→r≠P:=fun r hr e=>by have:=hr.2.1;rw[e]at this;omega
 have e1:aF (bQ (W++[a]) P Q) old=aF W old:=by
  rw[jQ hP hQ.app ho.app,if_neg (fun e=>oq e.symm),if_neg (fun e=>far old ho e.symm),oN (EO ho)]
 unfold dN;rw[e1,MX hP hQ.app hpe.app hn.app (fun e=>far _ hpe e.symm) (fun e=>far _ hn e.symm) (fun e=>pq e.symm) (fun e=>nq e.symm),Qj hpe hn]
theorem Oc{P Q:List NAgent}{lv:Int}{n m:Nat}(hn:P.length=n+1)(xl:x<(n:Nat))(yl:y<(n:Nat))(x0:0≤x)(xy:x≠y)(xd:¬D x)(hD:∀i,D i→i<(n:Nat))(hx:∀s:Int,0≤s→s<(m:Nat)→ak P (x,s))(hr:ak P ((n:Nat),0))
  (h:SX D (fun p=>p=(x,0)∨p=(y,0)∨p.1=(n:Nat)) P Q) (h1:∀p,ak P p→p.1=(n:Nat)→p.2=0):∀k:Nat,k+1≤m→
  SX D (fun p=>(p.1=x∧p.2≤(k:Nat))∨p=(y,0)∨p=jk (n+1) k) (p8 lv x (n+1) P k) (p8 lv x (n+1) Q k)
 |0,_=>h.congr fun p hp _=>by
  have h2:=h1 p hp;obtain⟨q1,q2,q3,_⟩:=hp;unfold jk;obtain⟨a,s⟩:=p;rw[hn]at q2;simp only[Prod.mk.injEq]at*;omega
 |k+1,hk=>by
  have ih:=Oc (lv:=lv) hn xl yl x0 xy xd hD hx hr h h1 k (by omega);have hl:(p8 lv x (n+1) P k).length=n+1+k:=by rw[qD,hn]
  have nd:∀i:Nat,n≤i→¬D (i:Nat):=fun i hi e=>by have:=hD _ e;omega
  have hxk:=nN (lv:=lv) (x:=x) (b:=n+1) (hx ((k+1:Nat):Int) (by omega) (by omega)) k
  have hR:ak (p8 lv x (n+1) P k) (jk (n+1) k):=by
   have:=wS (lv:=lv) (x:=x) (xs:=P) (by rw[hn];exact hr) k;rw[hn]at this;exact this
  have hR1:(n:Int)≤(jk (n+1) k).1∧(jk (n+1) k).1<((n+1+k:Nat):Int):=by
   cases k with
   |zero=>unfold jk;simp only[];omega
   |succ k=>unfold jk;simp only[];omega
  have s1:=ih.add (bD 3 lv 0 [] 3);rw[hl]at s1;have f0:ak (p8 lv x (n+1) P k++[bD 3 lv 0 [] 3]) ((n+1+k:Nat),0):=ak.eu.2 (.inr ⟨by rw[hl],Int.le_refl _,show(0:Int)<3 by decide⟩);have f1:ak (p8 lv x (n+1) P k++[bD 3 lv 0 [] 3]) ((n+1+k:Nat),1):=ak.eu.2 (.inr ⟨by rw[hl],show(0:Int)≤1 by decide,show(1:Int)<3 by decide⟩);have hRd:¬D (jk (n+1) k).1:=fun e=>by have:=hD _ e;omega
  have s2:=s1.link (p:=jk (n+1) k) (q:=((n+1+k:Nat),0)) hR.app hRd (.inl (.inr (.inr rfl))) f0 (nd _ (by omega)) (.inr rfl) (fun e=>by rw[e]at hR1;have:=hR1.2;have h3:((n+1+k:Nat):Int)<((n+1+k:Nat):Int):=this;omega)
  have s3:=s2.move (old:=(x,((k+1:Nat):Int))) (now:=((n+1+k:Nat),1)) hxk.app.link xd (by
   rintro⟨(⟨_,e⟩|e|e)|e,_,_⟩
   ·have:((k+1:Nat):Int)≤(k:Nat):=e;omega
   ·exact dV (.inl xy) e
   ·rw[←e]at hR1;have:=hR1.1;have h3:(n:Int)≤x:=this;omega
   ·have:x=((n+1+k:Nat):Int):=e;omega) f1.link (nd _ (by omega)) ⟨.inr rfl,fun e=>by rw[←e]at hR1;have:=hR1.2;have h3:((n+1+k:Nat):Int)<((n+1+k:Nat):Int):=this;omega,dV (.inr (by decide))⟩
  show SX D _ (p8 lv x (n+1) P (k+1)) (p8 lv x (n+1) Q (k+1));unfold p8;refine s3.congr fun p hp _=> ?_
  rw[ak.jH,ak.jF,ak.eu,hl]at hp
  have hp':p.1<((n+1+k:Nat):Int)∨(p.1=((n+1+k:Nat):Int)∧0≤p.2∧p.2<3):=by
   rcases hp with hp|hp
   ·have:=hp.2.1;rw[hl]at this;exact .inl this
   ·exact .inr hp
  have e2:jk (n+1) (k+1)=(((n+1+k:Nat):Int),2):=rfl;rw[e2];obtain⟨a,s⟩:=p;generalize hRR:jk (n+1) k=R at*;obtain⟨ra,rs⟩:=R;simp only[Prod.mk.injEq,ne_eq]at*;omega
theorem SX.self{X:aJ→Prop}(h:SX D X xs ys):SX D X xs xs:=⟨⟨rfl,fun _ _ _ _=>rfl⟩,h.wi,h.al⟩
theorem Jb{n k:Nat}:(n:Int)≤(jk (n+1) k).1∧(jk (n+1) k).1<((n+1+k:Nat):Int)∧(jk (n+1) k).2≠1:=by
 cases k with
 |zero=>unfold jk;simp only[];omega
 |succ k=>unfold jk;simp only[];omega
theorem Oa{P Q:List NAgent}{lv:Int}{n:Nat}(hn:P.length=n+1)(xl:x<(n:Nat))(yl:y<(n:Nat))(hD:∀i,D i→i<(n:Nat))(hr:ak P ((n:Nat),0))
  (h:SX D (fun p=>p=(x,0)∨p=(y,0)∨p.1=(n:Nat)) P Q) (h1:∀p,ak P p→p.1=(n:Nat)→p.2=0):∀k:Nat,
  SX D (fun p=>p=(x,0)∨p=(y,0)∨(((n+1:Nat):Int)≤p.1∧p.2=1)∨p=jk (n+1) k) (qR lv (n+1) P k) (qR lv (n+1) Q k)
 |0=>h.congr fun p hp _=>by
  have h2:=h1 p hp;obtain⟨q1,q2,q3,_⟩:=hp;unfold jk;obtain⟨a,s⟩:=p;rw[hn]at q2;simp only[Prod.mk.injEq]at*;omega
 |k+1=>by
  have ih:=Oa (lv:=lv) hn xl yl hD hr h h1 k;have hl:(qR lv (n+1) P k).length=n+1+k:=by rw[x9,hn]
  have nd:∀i:Nat,n≤i→¬D (i:Nat):=fun i hi e=>by have:=hD _ e;omega
  obtain⟨r1,r2,r3⟩:=Jb (n:=n) (k:=k)
  have hR:ak (qR lv (n+1) P k) (jk (n+1) k):=by
   have:=GN (lv:=lv) (xs:=P) (by rw[hn];exact hr) k;rw[hn]at this;exact this
  have s1:=ih.add (bD 3 lv 0 [] 3);rw[hl]at s1;have f0:ak (qR lv (n+1) P k++[bD 3 lv 0 [] 3]) ((n+1+k:Nat),0):=ak.eu.2 (.inr ⟨by rw[hl],Int.le_refl _,show(0:Int)<3 by decide⟩);have s2:=s1.link (p:=((n+1+k:Nat),0)) (q:=jk (n+1) k) f0 (nd _ (by omega)) (.inr rfl) hR.app (fun e=>by have:=hD _ e;omega) (.inl (.inr (.inr (.inr rfl)))) (fun e=>by rw[←e]at r2;have h3:((n+1+k:Nat):Int)<((n+1+k:Nat):Int):=r2;omega);unfold qR;refine s2.congr fun p hp _=> ?_
  rw[ak.jF,ak.eu,hl]at hp
  have hp':p.1<((n+1+k:Nat):Int)∨(p.1=((n+1+k:Nat):Int)∧0≤p.2∧p.2<3):=by
   rcases hp with hp|hp
   ·have:=hp.2.1;rw[hl]at this;exact .inl this
   ·exact .inr hp
  have e2:jk (n+1) (k+1)=(((n+1+k:Nat):Int),2):=rfl;rw[e2];obtain⟨a,s⟩:=p;generalize hRR:jk (n+1) k=R at*;obtain⟨ra,rs⟩:=R;simp only[Prod.mk.injEq,ne_eq]at*;omega
theorem N8{Z:List NAgent}{n m k:Nat}(xl:x<(n:Nat))(x0:0≤x)(xy:x≠y)(xd:¬D x)(hD:∀i,D i→i<(n:Nat))(hx:∀s:Int,0≤s→s<(m:Nat)→ak Z (x,s))(hz:∀i:Nat,i<k→ak Z (((n+1+i:Nat):Int),1))(hl:Z.length=n+1+k)
  (h:SX D (fun p=>p=(x,0)∨p=(y,0)∨(((n+1:Nat):Int)≤p.1∧p.2=1)∨p=jk (n+1) k) Z Z):∀j:Nat,j≤k→j+1≤m→
  SX D (fun p=>(p.1=x∧p.2≤(j:Nat))∨p=(y,0)∨(((n+1+j:Nat):Int)≤p.1∧p.2=1)∨p=jk (n+1) k) (DK x (n+1) Z j) (DK x (n+1) Z j)
 |0,_,_=>h.congr fun p hp _=>by
  obtain⟨q1,q2,q3,_⟩:=hp;obtain⟨a,s⟩:=p;generalize jk (n+1) k=R;obtain⟨ra,rs⟩:=R;simp only[Prod.mk.injEq]at*;omega
 |j+1,hj,hm=>by
  have ih:=N8 xl x0 xy xd hD hx hz hl h j (by omega) (by omega);obtain⟨r1,r2,r3⟩:=Jb (n:=n) (k:=k);have nd:∀i:Nat,n≤i→¬D (i:Nat):=fun i hi e=>by have:=hD _ e;omega
  have s1:=ih.move (old:=(x,((j:Nat):Int)+1)) (now:=(((n+1+j:Nat):Int),1)) (nM (hx _ (by omega) (by omega)) j) xd (by
   generalize jk (n+1) k=R at*;obtain⟨ra,rs⟩:=R;simp only[Prod.mk.injEq,ne_eq]at*;omega) (nM (hz j (by omega)) j) (nd _ (by omega)) (.inr (.inr (.inl ⟨Int.le_refl _,rfl⟩)))
  unfold DK;refine s1.congr fun p hp _=> ?_
  have q3:=hp.2.2.1;have q2:=hp.2.1;obtain⟨a,s⟩:=p;generalize hRR:jk (n+1) k=R at*;obtain⟨ra,rs⟩:=R;simp only[Prod.mk.injEq,ne_eq]at*;omega
theorem WQ{P:List NAgent}{lv:Int}{n m:Nat}(hn:P.length=n+1)(xl:x<(n:Nat))(yl:y<(n:Nat))(x0:0≤x)(xy:x≠y)(xd:¬D x)(hD:∀i,D i→i<(n:Nat))(hx:∀s:Int,0≤s→s<(m:Nat)→ak P (x,s))(hr:ak P ((n:Nat),0))
  (h:SX D (fun p=>p=(x,0)∨p=(y,0)∨p.1=(n:Nat)) P P) (h1:∀p,ak P p→p.1=(n:Nat)→p.2=0):∀k:Nat,k+1≤m→DK x (n+1) (qR lv (n+1) P k) k=p8 lv x (n+1) P k
 |0,_=>rfl
 |k+1,hk=>by
  have ih:=WQ (lv:=lv) hn xl yl x0 xy xd hD hx hr h h1 k (by omega);have hl:(qR lv (n+1) P k).length=n+1+k:=by rw[x9,hn]
  have nd:∀i:Nat,n≤i→¬D (i:Nat):=fun i hi e=>by have:=hD _ e;omega
  obtain⟨r1,r2,r3⟩:=Jb (n:=n) (k:=k)
  have hR:ak (qR lv (n+1) P k) (jk (n+1) k):=by
   have:=GN (lv:=lv) (xs:=P) (by rw[hn];exact hr) k;rw[hn]at this;exact this
  have hxN:∀s:Int,0≤s→s<(m:Nat)→ak (qR lv (n+1) P k) (x,s):=fun s a b=>DL (hx s a b) k
  have hzN:∀i:Nat,i<k→ak (qR lv (n+1) P k) (((n+1+i:Nat):Int),1):=fun i hi=>by
   have:=zV (lv:=lv) (xs:=P) (s:=1) (by decide) (by decide) hi;rw[hn]at this;exact this
  have sN:=Oa (lv:=lv) hn xl yl hD hr h h1 k
  have key:∀j:Nat,j≤k→DK x (n+1) (bQ (qR lv (n+1) P k++[bD 3 lv 0 [] 3]) ((n+1+k:Nat),0) (jk (n+1) k)) j=bQ (DK x (n+1) (qR lv (n+1) P k) j++[bD 3 lv 0 [] 3]) ((n+1+k:Nat),0) (jk (n+1) k):=by
   intro j
   induction j with
   |zero=>intro _;rfl
   |succ j ihj=>
    intro hj;have e:=ihj (by omega);have sM:=N8 (k:=k) xl x0 xy xd hD hxN hzN hl sN j (by omega) (by omega);have hlW:(DK x (n+1) (qR lv (n+1) P k) j).length=n+1+k:=by rw[NZ,hl]
    show dN (DK x (n+1) (bQ (qR lv (n+1) P k++[bD 3 lv 0 [] 3]) ((n+1+k:Nat),0) (jk (n+1) k)) j) (x,((j:Nat):Int)+1) (((n+1+j:Nat):Int),1)=bQ (dN (DK x (n+1) (qR lv (n+1) P k) j) (x,((j:Nat):Int)+1) (((n+1+j:Nat):Int),1)++[bD 3 lv 0 [] 3]) _ _;rw[e];have ho:=nM (x:=x) (b:=n+1) (hxN (((j:Nat):Int)+1) (by omega) (by omega)) j
    have hw:=sM.wi (x,((j:Nat):Int)+1) ⟨⟨ho,xd⟩,by
     generalize jk (n+1) k=R at*;obtain⟨ra,rs⟩:=R;simp only[Prod.mk.injEq]at*;omega⟩
    refine Qn ho hw.2.1.1.1 (nM (hzN j (by omega)) j) (ak.eu.2 (.inr ⟨by rw[hlW],Int.le_refl _,show(0:Int)<3 by decide⟩)) (by rw[hlW];exact Int.le_refl _) (nM hR j) ?_ (fun e=>hw.2.1.2 (.inr (.inr (.inr e)))) ?_
    ·intro e;rw[←e]at r1;have:(n:Int)≤x:=r1;omega
    ·intro e;rw[←e]at r3;exact r3 rfl
  show dN (DK x (n+1) (bQ (qR lv (n+1) P k++[bD 3 lv 0 [] 3]) (((n+1+k:Nat):Int),0) (jk (n+1) k)) k) (x,((k:Nat):Int)+1) (((n+1+k:Nat):Int),1)=dN (bQ (p8 lv x (n+1) P k++[bD 3 lv 0 [] 3]) (jk (n+1) k) (((n+1+k:Nat):Int),0)) (x,((k+1:Nat):Int)) (((n+1+k:Nat):Int),1);rw[key k (Nat.le_refl _),ih];have hlS:(p8 lv x (n+1) P k).length=n+1+k:=by rw[qD,hn]
  have hRS:ak (p8 lv x (n+1) P k) (jk (n+1) k):=by
   have:=wS (lv:=lv) (x:=x) (xs:=P) (by rw[hn];exact hr) k;rw[hn]at this;exact this
  rw[vE (ak.eu.2 (.inr ⟨by rw[hlS],Int.le_refl _,show(0:Int)<3 by decide⟩)) hRS.app];rfl
theorem DR{lv:Int}{b:Nat}{P:List NAgent}{p:aJ}(hlt:p.1.toNat<P.length):∀{k:Nat},ak (p8 lv x b P k) p→ak P p
 |0,h=>h
 |k+1,h=>by
  unfold p8 at h;rw[ak.jH,ak.jF,ak.eu,qD]at h;rcases h with h|⟨h,_⟩
  ·exact DR hlt h
  ·omega
theorem St.choose(h:St D xs ys)(k:nI D xs x y)(hD:∀i,D i→i<(xs.length:Nat))(h6:(ah xs x).1=6↔(ah xs y).1=11)(hx:(ah xs x).1=6→(ah xs x).2.2.2.2.length=1)(hx1:1≤(ah xs x).2.2.2.2.length)(hy:(ah xs y).2.2.2.2.length=2):
  St (fun i=>D i∨i=x∨i=y) (kr xs x y) (bE (bE (dL ys x y) x) y):=by
 have ey:ah ys y=ah xs y:=(h.ag.2 y k.py.1 k.py.2.1 k.ly).symm;have ex:ah ys x=ah xs x:=(h.ag.2 x k.px.1 k.px.2.1 k.lx).symm;have hl:xs.length=ys.length:=h.ag.1;have xl:x<(xs.length:Nat):=k.px.2.1;have yl:y<(xs.length:Nat):=k.py.2.1;have x0:0≤x:=k.px.1;have y0:0≤y:=k.py.1;have hne:=k.ne;have nd:∀i:Nat,xs.length≤i→¬D (i:Nat):=fun i hi e=>by have:=hD _ e;omega
 have iny1:ak xs (y,1):=⟨k.py.1,k.py.2.1,show(0:Int)≤1 by decide,by show(1:Int)<((ah xs y).2.2.2.2.length:Nat);omega⟩;have hkb:((ah xs x).1==6)=((ah xs y).1==11):=by rw[Bool.eq_iff_iff];simpa using h6
 have s1:∀i:Int,SX D (fun p=>p=(x,0)∨p=(y,0)∨p.1=(xs.length:Nat)) (bF xs y i) (bF ys y i):=fun i=>by
  unfold bF;rw[ey];refine((SX.start h k).add _).congr fun p _ _=> ?_
  constructor
  ·rintro(e|e|e)
   ·exact .inl (.inl e)
   ·exact .inl (.inr e)
   ·exact .inr e
  ·rintro((e|e)|e)
   ·exact .inl e
   ·exact .inr (.inl e)
   ·exact .inr (.inr e)
 have hlen:∀i:Int,(bF xs y i).length=xs.length+1:=fun i=>by unfold bF;rw[List.length_append];rfl
 have hnew:∀i:Int,ak (bF xs y i) ((xs.length:Nat),0):=fun i=>ak.eu.2 (.inr ⟨rfl,Int.le_refl _,show(0:Int)<1 by decide⟩)
 have h1:∀(i:Int) p,ak (bF xs y i) p→p.1=(xs.length:Nat)→p.2=0:=fun i p hp e=>by
  rcases ak.eu.1 hp with q|⟨_,q2,q3⟩
  ·have:=q.2.1;omega
  ·have:p.2<1:=q3;omega
 have hback:∀(i:Int) (p:aJ),p.1.toNat<xs.length→ak (bF xs y i) p→ak xs p:=fun i p hlt hp=>by
  rcases ak.eu.1 hp with q|⟨q,_⟩
  ·exact q
  ·omega
 have hin:∀(i:Int) (p:aJ),ak xs p→ak (bF xs y i) p:=fun i p hp=>hp.app
 unfold kr dL;rw[ex,ey,hkb,←hl];cases hk:(ah xs y).1==11 with
 |true=>
  simp only[cond_true];have h3:=hx (h6.2 (by simpa using hk));generalize (bif (ah xs x).2.2.1==0 then(1:Int)else 0)=i;have s2:=(s1 i).move (old:=(y,1)) (now:=((xs.length:Nat),0)) (hin i _ iny1) k.ly (by simp only[Prod.mk.injEq];omega) (hnew i) (nd _ (Nat.le_refl _)) (.inr (.inr rfl));refine s2.P6 x0 y0 fun p hp _=> ?_
  rw[ak.jH]at hp;have q0:=h1 i p hp;have q1:=hp.2.2.1;have q2:=hp.1
  have q4:p.1=x→p.2<1:=fun e=>by
   have:=(hback i p (by omega) hp).2.2.2;rw[e]at this;have h2:p.2<((ah xs x).2.2.2.2.length:Nat):=this;omega
  have q5:p.1=y→p.2<2:=fun e=>by
   have:=(hback i p (by omega) hp).2.2.2;rw[e]at this;have h2:p.2<((ah xs y).2.2.2.2.length:Nat):=this;omega
  obtain⟨a,s⟩:=p;simp only[Prod.mk.injEq,ne_eq]at*;omega
 |false=>
  simp only[cond_false];generalize (ah xs x).2.2.1=i;generalize (ah xs y).2.1=lv;have hxi:∀s:Int,0≤s→s<((ah xs x).2.2.2.2.length:Nat)→ak (bF xs y i) (x,s):=fun s a b=>hin i _ ⟨x0,xl,a,b⟩
  rw[WQ (lv:=lv) (hlen i) xl yl x0 k.ne k.lx hD hxi (hnew i) (s1 i).self (h1 i) ((ah xs x).2.2.2.2.length-1) (by omega)];have s2:=Oc (lv:=lv) (hlen i) xl yl x0 k.ne k.lx hD hxi (hnew i) (s1 i) (h1 i) ((ah xs x).2.2.2.2.length-1) (by omega);generalize hm:(ah xs x).2.2.2.2.length=m at*;obtain⟨r1,r2,r3⟩:=Jb (n:=xs.length) (k:=m-1)
  have hR:ak (p8 lv x (xs.length+1) (bF xs y i) (m-1)) (jk (xs.length+1) (m-1)):=by
   have:=wS (lv:=lv) (x:=x) (xs:=bF xs y i) (by rw[hlen];exact hnew i) (m-1);rw[hlen]at this;exact this
  have s3:=s2.move (old:=(y,1)) (now:=jk (xs.length+1) (m-1)) (nN (hin i _ iny1) _) k.ly (by
   generalize jk (xs.length+1) (m-1)=R at*;obtain⟨ra,rs⟩:=R;simp only[Prod.mk.injEq]at*;omega) hR (fun e=>by have:=hD _ e;omega) (.inr (.inr rfl))
  refine s3.P6 x0 y0 fun p hp _=> ?_
  rw[ak.jH]at hp;have q1:=hp.2.2.1;have q2:=hp.1
  have q4:p.1=x→p.2<(m:Nat):=fun e=>by
   have:=(hback i p (by omega) (DR (by rw[hlen];omega) hp)).2.2.2;rw[e]at this;have h2:p.2<((ah xs x).2.2.2.2.length:Nat):=this;omega
  have q5:p.1=y→p.2<2:=fun e=>by
   have:=(hback i p (by omega) (DR (by rw[hlen];omega) hp)).2.2.2;rw[e]at this;have h2:p.2<((ah xs y).2.2.2.2.length:Nat):=this;omega
  generalize jk (xs.length+1) (m-1)=R at*;obtain⟨ra,rs⟩:=R;obtain⟨a,s⟩:=p;clear h1 hback hin hxi s1 s2 s3 hnew hlen nd;simp only[Prod.mk.injEq,ne_eq]at*;omega
end
end Go.Tr
namespace Go.Tr
open Go Go.RowKit
section
variable {D:Int→Prop}{X:aJ→Prop}{xs ys:List NAgent}{x y:Int}
theorem rC{t:List NAgent}{b i:Int}(hb:b=(xs.length:Int)-1)(h1:(xs.length:Int)≤i)(h2:i-b<(t.length:Nat)):ah (xs++(t.drop 1).map (dA b)) i=dA b (ah t (i-b)):=by
 unfold ah elt;rw[List.getD_eq_getElem?_getD,List.getElem?_append_right (by omega),List.getElem?_map,List.getElem?_drop];have e:1+(i.toNat-xs.length)=(i-b).toNat:=by omega
 rw[e,List.getD_eq_getElem?_getD,List.getElem?_eq_getElem (by omega)];rfl
theorem oK(t:List NAgent)(b:Int):((t.drop 1).map (dA b)).length=t.length-1:=by rw[List.length_map,List.length_drop]
theorem ak.mZ{t:List NAgent}{b:Int}{p:aJ}(hb:b=(xs.length:Int)-1):ak (xs++(t.drop 1).map (dA b)) p↔ak xs p∨((xs.length:Int)≤p.1∧ak t (p.1-b,p.2)):=by
 have hml:=oK t b;have hpl:∀a:NAgent,(dA b a).ports.length=a.ports.length:=fun a=>by show(List.map _ _).length=_;rw[List.length_map]
 constructor
 ·intro h;have h':=h;obtain⟨h1,h2,h3,h4⟩:=h;rw[List.length_append,hml]at h2
  by_cases hl:p.1.toNat<xs.length
  ·rw[dJ hl]at h4;exact .inl ⟨h1,by omega,h3,h4⟩
  ·have hlt:p.1-b<(t.length:Nat):=by omega
   rw[rC hb (by omega) hlt,hpl]at h4;exact .inr ⟨by omega,by show 0≤p.1-b;omega,hlt,h3,h4⟩
 ·rintro(h|⟨h,h1,h2,h3,h4⟩)
  ·exact h.app
  ·have h2':p.1-b<(t.length:Nat):=h2;refine⟨by omega,by rw[List.length_append,hml];omega,h3,?_⟩;rw[rC hb h h2',hpl];exact h4
theorem xI{t:List NAgent}{b:Int}{p:aJ}(hb:b=(xs.length:Int)-1)(h:(xs.length:Int)≤p.1)(hp:ak t (p.1-b,p.2)):aF (xs++(t.drop 1).map (dA b)) p=((aF t (p.1-b,p.2)).1+b,(aF t (p.1-b,p.2)).2):=by
 obtain⟨h1,h2,h3,h4⟩:=hp;unfold aF;rw[rC hb h h2];show elt (dflt uPort) (List.map _ _) p.2=_;unfold elt
 have h4':p.2.toNat<(ah t (p.1-b)).ports.length:=by
  have h5:p.2<((ah t (p.1-b)).ports.length:Nat):=h4;have h6:0≤p.2:=h3;omega
 rw[List.getD_eq_getElem?_getD,List.getElem?_map,List.getElem?_eq_getElem h4'];show _=(((ah t (p.1-b)).ports.getD p.2.toNat (dflt uPort)).1+b,((ah t (p.1-b)).ports.getD p.2.toNat (dflt uPort)).2);rw[List.getD_eq_getElem?_getD,List.getElem?_eq_getElem h4'];rfl
theorem SX.YJ{t:List NAgent}{b:Int}(hb:b=(xs.length:Int)-1)(ht:iH (fun p=>ak t p) t)(h0:ak t (0,0))(h00:∀p,ak t p→p.1=0→p=(0,0))(hD:∀i,D i→i<(xs.length:Nat))(hX:∀p,X p→p.1<(xs.length:Nat))(h:SX D X xs ys):
  SX D (fun p=>X p∨p=((aF t (0,0)).1+b,(aF t (0,0)).2)) (xs++(t.drop 1).map (dA b)) (ys++(t.drop 1).map (dA b)):=by
 obtain⟨r1,r2,r3,r4⟩:=ht (0,0) h0;have rR:ak t (aF t (0,0)):=r2
 have rpos:1≤(aF t (0,0)).1:=by
  have h1:=rR.1
  by_cases e:(aF t (0,0)).1=0
  ·exact absurd (h00 _ rR e) r4
  ·omega
 refine⟨h.ag.app _,fun p hp=> ?_,fun p hp=>hp.1.2⟩;obtain⟨⟨p1,p2⟩,p3⟩:=hp;rcases(ak.mZ hb).1 p1 with q|⟨q1,q2⟩
 ·obtain⟨w1,w2,w3,w4⟩:=h.wi p ⟨⟨q,p2⟩,fun k=>p3 (.inl k)⟩;have e:=oN (ys:=(t.drop 1).map (dA b)) (EO q);refine⟨p1,?_,by rw[e,oN (EO w2.1.1),w3],by rw[e];exact w4⟩;rw[e];refine⟨⟨w2.1.1.app,w2.1.2⟩,fun k=> ?_⟩;rcases k with k|k
  ·exact w2.2 k
  ·have:=w2.1.1.2.1;rw[k]at this;have h2:(aF t (0,0)).1+b<(xs.length:Nat):=this;omega
 ·obtain⟨w1,w2,w3,w4⟩:=ht _ q2;have w2':ak t (aF t (p.1-b,p.2)):=w2;have e:=xI hb q1 q2
  have hne:(aF t (p.1-b,p.2)).1≠0:=fun e0=>by
   have e1:=h00 _ w2' e0;rw[e1]at w3;exact p3 (.inr (eU (by rw[w3];show p.1=p.1-b+b;omega) (by rw[w3])))
  have hge:1≤(aF t (p.1-b,p.2)).1:=by have:=w2'.1;omega
  have hin:ak (xs++(t.drop 1).map (dA b)) ((aF t (p.1-b,p.2)).1+b,(aF t (p.1-b,p.2)).2):=(ak.mZ hb).2 (.inr ⟨by show(xs.length:Int)≤(aF t (p.1-b,p.2)).1+b;omega,by
   rw[show(((aF t (p.1-b,p.2)).1+b,(aF t (p.1-b,p.2)).2):aJ).1-b=(aF t (p.1-b,p.2)).1 by show(aF t (p.1-b,p.2)).1+b-b=_;omega];exact w2'⟩)
  refine⟨p1,?_,?_,?_⟩
  ·rw[e];refine⟨⟨hin,fun k=> ?_⟩,fun k=> ?_⟩
   ·have:=hD _ k;have h2:(aF t (p.1-b,p.2)).1+b<(xs.length:Nat):=this;omega
   ·rcases k with k|k
    ·have:=hX _ k;have h2:(aF t (p.1-b,p.2)).1+b<(xs.length:Nat):=this;omega
    ·have e2:aF t (p.1-b,p.2)=aF t (0,0):=by
      injection k with k1 k2
      exact eU (by omega) k2
     rw[e2,r3]at w3;injection w3 with w5 w6
     omega
  ·rw[e,xI hb (by show(xs.length:Int)≤(aF t (p.1-b,p.2)).1+b;omega) (by
    rw[show(((aF t (p.1-b,p.2)).1+b,(aF t (p.1-b,p.2)).2):aJ).1-b=(aF t (p.1-b,p.2)).1 by show(aF t (p.1-b,p.2)).1+b-b=_;omega];exact w2')]
   have e3:((((aF t (p.1-b,p.2)).1+b,(aF t (p.1-b,p.2)).2):aJ).1-b,(((aF t (p.1-b,p.2)).1+b,(aF t (p.1-b,p.2)).2):aJ).2)=aF t (p.1-b,p.2):=eU (by show(aF t (p.1-b,p.2)).1+b-b=_;omega) rfl;rw[e3,w3];exact eU (by show p.1-b+b=p.1;omega) rfl
  ·rw[e];intro k;refine w4 (eU ?_ ?_)
   ·have:=congrArg Prod.fst k;show(aF t (p.1-b,p.2)).1=p.1-b;have h2:(aF t (p.1-b,p.2)).1+b=p.1:=this;omega
   ·have h2:=congrArg Prod.snd k;exact h2
theorem qN(lv:Int)(a:NAgent):(jq lv a).ports=a.ports:=by unfold jq;cases bW a.kind<;>rfl
theorem uZ(lv:Int)(t:List NAgent){i:Int}(h0:0≤i)(h1:i<(t.length:Nat)):ah (dh lv t) i=jq lv (ah t i):=by
 unfold ah elt dh;rw[List.getD_eq_getElem?_getD,List.getElem?_map,List.getD_eq_getElem?_getD,List.getElem?_eq_getElem (by omega)];rfl
theorem mI(lv:Int)(t:List NAgent):(dh lv t).length=t.length:=by unfold dh;rw[List.length_map]
theorem ak.jI{lv:Int}{t:List NAgent}{p:aJ}:ak (dh lv t) p↔ak t p:=by
 unfold ak;rw[mI];constructor
 ·rintro⟨h1,h2,h3,h4⟩;rw[uZ lv t h1 h2,qN]at h4;exact⟨h1,h2,h3,h4⟩
 ·rintro⟨h1,h2,h3,h4⟩;refine⟨h1,h2,h3,?_⟩;rw[uZ lv t h1 h2,qN];exact h4
theorem pE{lv:Int}{t:List NAgent}{p:aJ}(hp:ak t p):aF (dh lv t) p=aF t p:=by
 unfold aF;rw[uZ lv t hp.1 hp.2.1,qN]
theorem iH.shift{lv:Int}{t:List NAgent}(h:iH (fun p=>ak t p) t):iH (fun p=>ak (dh lv t) p) (dh lv t):=fun p hp=>by
 have hp':=ak.jI.1 hp;obtain⟨h1,h2,h3,h4⟩:=h p hp';rw[pE hp'];exact⟨hp,ak.jI.2 h2,by rw[pE h2,h3],h4⟩
theorem St.expand{bk:List (List NAgent)}(h:St D xs ys)(k:nI D xs x y)(hD:∀i,D i→i<(xs.length:Nat))(hx:(ah xs x).2.2.2.2.length=1)
  (ht:iH (fun p=>ak (bR bk (ah xs x).2.2.1) p) (bR bk (ah xs x).2.2.1)) (h0:ak (bR bk (ah xs x).2.2.1) (0,0)) (h00:∀p,ak (bR bk (ah xs x).2.2.1) p→p.1=0→p=(0,0)):
  St (fun i=>D i∨i=x) (nS bk xs x y) (bE (fE (bR bk (ah ys x).2.2.1) (ah ys x).2.1 ys y) x):=by
 have ex:ah ys x=ah xs x:=(h.ag.2 x k.px.1 k.px.2.1 k.lx).symm;have hl:xs.length=ys.length:=h.ag.1;have xl:x<(xs.length:Nat):=k.px.2.1;have yl:y<(xs.length:Nat):=k.py.2.1;have hne:=k.ne;rw[ex];unfold nS fE nC;generalize bR bk (ah xs x).2.2.1=t at*;generalize (ah xs x).2.1=lv;generalize hb:(xs.length:Int)-1=b;have hb':b=(xs.length:Int)-1:=hb.symm
 have e1:jK lv ((ys.length:Int)-1) t (t.length-1)=((dh lv t).drop 1).map (dA b):=by
  unfold jK;rw[←hl,hb,List.take_of_length_le (by rw[List.length_drop,mI];exact Nat.le_refl _)]
 have s0:=SX.start h k;have s1:=s0.YJ (t:=dh lv t) hb' ht.shift (ak.jI.2 h0) (fun p hp e=>h00 p (ak.jI.1 hp) e) hD (fun p hp=>by rcases hp with e|e<;>rw[e]<;>assumption);rw[e1,pE h0]at*;obtain⟨r1,r2,r3,r4⟩:=ht (0,0) h0;have rR:ak t (aF t (0,0)):=r2
 have rpos:1≤(aF t (0,0)).1:=by
  have h1:=rR.1
  by_cases e:(aF t (0,0)).1=0
  ·exact absurd (h00 _ rR e) r4
  ·omega
 generalize aF t (0,0)=R at*
 have hR:ak (xs++((dh lv t).drop 1).map (dA b)) (R.1+b,R.2):=(ak.mZ hb').2 (.inr ⟨by show(xs.length:Int)≤R.1+b;omega,ak.jI.2 (by
  rw[show((R.1+b,R.2):aJ).1-b=R.1 by show R.1+b-b=R.1;omega];exact rR)⟩)
 have s2:=s1.link (p:=(y,0)) (q:=(R.1+b,R.2)) k.py.app k.ly (.inl (.inr rfl)) hR (fun e=>by have:=hD _ e;have h2:R.1+b<(xs.length:Nat):=this;omega) (.inr rfl) (dV (.inl (by omega)))
 have e2:bQ (ys++((dh lv t).drop 1).map (dA b)) ((ys.length:Int)-1+R.1,R.2) (y,0)=bQ (ys++((dh lv t).drop 1).map (dA b)) (y,0) (R.1+b,R.2):=by
  rw[←hl,hb,show b+R.1=R.1+b by omega];refine vE ?_ ?_
  ·have:=(s1.ag.port hR (fun e=>by have:=hD _ e;have h2:R.1+b<(xs.length:Nat):=this;omega)).1;exact this
  ·exact(s1.ag.port (p:=(y,0)) k.py.app k.ly).1
 rw[e2];refine s2.end1 k.px.1 fun p hp _=> ?_
 rw[ak.jF]at hp;constructor
 ·rintro⟨(e|e)|e,e3,e4⟩
  ·rw[e]
  ·exact absurd e e3
  ·exact absurd e e4
 ·intro e;rcases(ak.mZ hb').1 hp with q|⟨q,_⟩
  ·obtain⟨q1,q2,q3,q4⟩:=q;rw[e]at q4;have h3:p.2<((ah xs x).2.2.2.2.length:Nat):=q4;refine⟨.inl (.inl (eU e (by show p.2=0;omega))),fun e2=> ?_,fun e2=> ?_⟩
   ·rw[e2]at e;exact hne e.symm
   ·rw[e2]at e;have h4:R.1+b=x:=e;omega
  ·omega
end
end Go.Tr
namespace Go.Tr
open Go Go.RowKit
def gA(a:NAgent):aA:=⟨a.1,a.2.1,a.2.2.1,a.2.2.2.1,a.2.2.2.2.map fun p=>⟨p.1,p.2⟩⟩
theorem uy(l:List Int):List.flatMap (enc (.int .i64)) l=l.flatMap intE:=by
 induction l with
 |nil=>rfl
 |cons x l ih=>rw[List.flatMap_cons,List.flatMap_cons,ih];rfl
theorem P5(l:List aJ):(l.map fun p=>(⟨p.1,p.2⟩:aG)).flatMap aG.enc=List.flatMap (enc uPort) l:=by
 induction l with
 |nil=>rfl
 |cons x l ih=>rw[List.map_cons,List.flatMap_cons,List.flatMap_cons,ih];rfl
theorem RY(a:NAgent):(gA a).enc=enc uAgent a:=by
 show[_,_,_,D.sl _ _,D.sl _ _]=[_]++([_]++([_]++([_]++[_])));simp only[List.cons_append,List.nil_append,gA];rw[P5,←uy,List.length_map]
abbrev WI:=Int×Int
def BX(xs:List NAgent):Nat→WI→WI×Bool
 |0,w=>(w,false)
 |k+1,w=>bif (w.1 !=2)||(ah xs w.2).2.2.2.2.length==0 then(w,true)else BX xs k ((ah xs w.2).2.2.2.2.getD 0 (0,0))
def Ao{α:Type}(g:α→Bool):List α→Int→Int
 |[],_=> -1
 |x::l,k=>bif g x then k else Ao g l (k+1)
theorem Eb{α:Type}(d:α){xs:List α}{i:Nat}(h:i<xs.length):xs.drop i=xs.getD i d::xs.drop (i+1):=by
 rw[List.getD_eq_getElem?_getD,List.getElem?_eq_getElem h];exact List.drop_eq_getElem_cons h
theorem CB(n:Nat)(f:Nat→Bool):eH (n+1) f=(eH n f&&f n):=by simp[eH,List.range_succ]
def Wf(a:NAgent):Prop:=dY (gA a)=true
theorem fZ{a:NAgent}(h:Wf a):dz a.1 a.2.1=true∧gV (gA a)=true∧(a.2.2.2.2.length:Int)=dH a.1 (fF a.1 a.2.2.2.2.length)∧0<a.2.2.2.2.length:=by
 unfold Wf dY at h;simp only[Bool.and_eq_true,decide_eq_true_eq,beq_iff_eq]at h;obtain⟨⟨⟨h1,h2⟩,h3⟩,h4⟩:=h;have e:((gA a).ports.length:Int)=(a.2.2.2.2.length:Int):=by simp[gA]
 have e2:fieldsOf (gA a)=fF a.1 a.2.2.2.2.length:=by unfold fieldsOf;rw[e];rfl
 rw[e,e2]at h2;rw[e2]at h1;exact⟨h3,h4,h2,by(have:0<dH a.1 (fF a.1 a.2.2.2.2.length):=h1);omega⟩
theorem J9{a:NAgent}(h:Wf a):1≤a.1∧a.1≤12:=by
 have:=(fZ h).1;unfold dz kW at this;simp only[Bool.and_eq_true]at this;exact jY this.1
theorem uV{a:NAgent}(h:Wf a):(a.1=1∨a.1=5∨a.1=6∨a.1=12→a.2.2.2.2.length=1)∧(a.1=8∨a.1=10∨a.1=11→a.2.2.2.2.length=2)∧(a.1=2∨a.1=3∨a.1=4∨a.1=7→a.2.2.2.2.length=3)∧(a.1=9→1≤a.2.2.2.2.length∧a.2.2.2.2.length≤4):=by
 obtain⟨_,_,h3,h4⟩:=fZ h;have hf:∀k:Int,k≠9→fF k a.2.2.2.2.length=0:=fun k hk=>by unfold fF;rw[if_neg (by simpa using hk)]
 refine⟨fun e=> ?_,fun e=> ?_,fun e=> ?_,fun e=> ?_⟩
 ·have k9:a.1≠9:=by omega
  rw[hf _ k9]at h3;unfold dH at h3;rw[if_neg k9,if_pos rfl,if_pos e]at h3;omega
 ·have k9:a.1≠9:=by omega
  rw[hf _ k9]at h3;unfold dH at h3;rw[if_neg k9,if_pos rfl,if_neg (by omega),if_pos e]at h3;omega
 ·have k9:a.1≠9:=by omega
  rw[hf _ k9]at h3;unfold dH at h3;rw[if_neg k9,if_pos rfl,if_neg (by omega),if_neg (by omega),if_pos e]at h3;omega
 ·rw[e]at h3;unfold dH fF at h3;simp only[beq_self_eq_true,if_true]at h3
  by_cases hb:inB ((a.2.2.2.2.length:Int)-1) 0 3=true
  ·have:=jY hb;omega
  ·rw[if_neg hb]at h3;omega
theorem iN{ka la kb lb c:Int}(h:rule ka la kb lb=c)(h0:c≠0):
  (c=1→ka=2∧kb=3)∧(c=2→ka=4∧kb=4)∧(c=3→ka=4)∧(c=4→ka=5)∧(c=5→ka=6∧(kb=7∨kb=8))∧(c=6→(ka=6∧kb=11)∨(ka=9∧kb=10))∧(c=7→ka=12∧(kb=3∨kb=7∨kb=8∨kb=10∨kb=11)):=by
 unfold rule at h;split at h
 ·subst h;simp_all
 split at h
 ·split at h
  ·rename_i h1;simp only[Bool.and_eq_true,beq_iff_eq]at h1;subst h;simp_all
  ·split at h
   ·subst h;simp_all
   ·omega
 split at h
 ·split at h
  ·rename_i h1;simp only[Bool.and_eq_true,beq_iff_eq]at h1;subst h;simp_all
  ·omega
 split at h
 ·split at h
  ·rename_i h1;simp only[Bool.or_eq_true,beq_iff_eq]at h1;subst h;simp_all
  ·split at h
   ·rename_i h1;simp only[beq_iff_eq]at h1;subst h;simp_all
   ·omega
 split at h
 ·split at h
  ·rename_i h1;simp only[beq_iff_eq]at h1;subst h;simp_all
  ·omega
 split at h
 ·split at h
  ·rename_i h1;unfold qb at h1;simp only[Bool.or_eq_true,beq_iff_eq]at h1;subst h;refine⟨by simp,by simp,by simp,by simp,by simp,by simp,fun _=>⟨by assumption,by omega⟩⟩
  ·omega
 ·omega
theorem Fu(ka la kb lb:Int):(bn ka la kb lb=2→rule kb lb ka la=aV ka la kb lb∧aV ka la kb lb≠0)∧(bn ka la kb lb=1→rule ka la kb lb=aV ka la kb lb∧aV ka la kb lb≠0)∧(bn ka la kb lb=0∨bn ka la kb lb=1∨bn ka la kb lb=2):=by
 unfold bn aV;cases mh ka la kb lb with
 |false=>simp
 |true=>
  simp only[if_true]
  by_cases h1:rule ka la kb lb=0<;>by_cases h2:rule kb lb ka la=0<;>simp[h1,h2]
theorem MQ{xs:List NAgent}{a b:Int}(hc:1≤aV (ah xs a).1 (ah xs a).2.1 (ah xs b).1 (ah xs b).2.1∧aV (ah xs a).1 (ah xs a).2.1 (ah xs b).1 (ah xs b).2.1≤7):
  rule (ah xs (firstS xs a b).1).1 (ah xs (firstS xs a b).1).2.1 (ah xs (firstS xs a b).2).1 (ah xs (firstS xs a b).2).2.1=aV (ah xs a).1 (ah xs a).2.1 (ah xs b).1 (ah xs b).2.1:=by
 obtain⟨h2,h1,h3⟩:=Fu (ah xs a).1 (ah xs a).2.1 (ah xs b).1 (ah xs b).2.1;unfold firstS;rcases h3 with e|e|e
 ·exfalso;unfold bn at e;unfold aV at hc;cases hp:mh (ah xs a).1 (ah xs a).2.1 (ah xs b).1 (ah xs b).2.1 with
  |false=>rw[hp]at hc;simp at hc
  |true=>
   rw[hp]at e hc;simp only[if_true]at e hc;split at e
   ·rename_i r1;rw[if_pos r1]at hc;split at e
    ·rename_i r2;rw[if_pos r2]at hc;omega
    ·omega
   ·omega
 ·rw[e];exact(h1 e).1
 ·rw[e];exact(h2 e).1
def sig(a:NAgent):Int×Int×Int×List Int×Nat:=(a.1,a.2.1,a.2.2.1,a.2.2.2.1,a.2.2.2.2.length)
theorem Ka{a b:NAgent}(h:sig a=sig b):Wf a↔Wf b:=by
 unfold sig at h;simp only[Prod.mk.injEq]at h;obtain⟨h1,h2,h3,h4,h5⟩:=h
 have e:dY (gA a)=dY (gA b):=by
  unfold dY fieldsOf gV gA;simp only[List.length_map,h1,h2,h3,h4,h5]
 unfold Wf;rw[e]
def fG(xs ys:List NAgent):Prop:=xs.length=ys.length∧∀i:Int,0≤i→i<(xs.length:Nat)→sig (ah xs i)=sig (ah ys i)
theorem fG.refl(xs:List NAgent):fG xs xs:=⟨rfl,fun _ _ _=>rfl⟩
theorem fG.setPort{xs ys:List NAgent}(h:fG xs ys)(p q:aJ):fG (aN xs p q) ys:=by
 refine⟨by rw[dD];exact h.1,fun i h0 h1=> ?_⟩;rw[dD]at h1;rw[←h.2 i h0 h1,fu];split
 ·rename_i e;rw[zO (xs:=xs) e.1];unfold sig;simp only[List.length_set,NAgent.ports]
 ·rfl
theorem fG.link{xs ys:List NAgent}(h:fG xs ys)(p q:aJ):fG (bQ xs p q) ys:=(h.setPort p q).setPort q p
theorem fG.move{xs ys:List NAgent}(h:fG xs ys)(p q:aJ):fG (dN xs p q) ys:=h.link _ _
theorem fG.join{xs ys:List NAgent}(h:fG xs ys)(p q:aJ):fG (aT xs p q) ys:=by
 unfold aT;cases ((aF xs p).1==q.1&&(aF xs p).2==q.2)with
 |true=>exact h
 |false=>exact h.link _ _
theorem fG.app{xs ys:List NAgent}(h:fG xs ys)(zs:List NAgent):fG (xs++zs) (ys++zs):=by
 refine⟨by rw[List.length_append,List.length_append,h.1],fun i h0 h1=> ?_⟩;rw[List.length_append]at h1
 by_cases hl:i<(xs.length:Nat)
 ·rw[dJ (by omega),dJ (by rw[←h.1];omega)];exact h.2 i h0 hl
 ·have:∀ws:List NAgent,ws.length=xs.length→ah (ws++zs) i=zs.getD (i.toNat-xs.length) (dflt uAgent):=fun ws hw=>by
   unfold ah elt;rw[List.getD_eq_getElem?_getD,List.getElem?_append_right (by omega),hw,List.getD_eq_getElem?_getD]
  rw[this xs rfl,this ys h.1.symm]
theorem Ot(y:Int)(xs:List NAgent):∀k,fG (sS y xs k) (xs++List.replicate k (bD 5 0 0 [] 1))
 |0=>by rw[List.replicate_zero,List.append_nil];exact fG.refl _
 |k+1=>by
  unfold sS;rw[List.replicate_succ',←List.append_assoc];exact((Ot y xs k).app _).move _ _
theorem KT(lab c d:Int)(P:List NAgent):∀k,fG (bf lab c d P k) (P++List.replicate k (bD 4 lab 0 [] 3))
 |0=>by rw[List.replicate_zero,List.append_nil];exact fG.refl _
 |k+1=>by
  unfold bf yg;rw[List.replicate_succ',←List.append_assoc];exact(((KT lab c d P k).app _).link _ _).link _ _
theorem Hz{y:Int}{b:Nat}{P Q:List NAgent}(h:fG P Q):∀k,fG (dG y b P k) Q
 |0=>h
 |k+1=>(Hz h k).move _ _
theorem YQ:Wf (bD 5 0 0 [] 1):=by unfold Wf;decide
theorem PU{k l:Int}(h:dz k l=true):l=0∨(0≤l∧l≤8):=by
 unfold dz at h;simp only[Bool.and_eq_true,Bool.or_eq_true,beq_iff_eq]at h;rcases h.2 with h|h
 ·exact .inl h
 ·exact .inr (jY h.2)
theorem zR{k l:Int}(hk:k=3∨k=4∨k=8∨k=12)(h:l=0∨(0≤l∧l≤8)):dz k l=true:=by
 have h1:kW k=true:=wX (by omega) (by omega)
 have h2:bW k=true:=by
  unfold bW;rw[h1];rcases hk with rfl|rfl|rfl|rfl<;>decide
 unfold dz;rw[h1,h2];rcases h with rfl|h
 ·rfl
 ·rw[show yJ l=true from wX h.1 h.2];simp
theorem Mk{k lv v:Int}{d:List Int}{n:Nat}(h1:dz k lv=true)(h2:gV (gA (bD k lv v d n))=true)(h3:(n:Int)=dH k (fF k n))(h4:0<n):Wf (bD k lv v d n):=by
 unfold Wf dY;have e:((gA (bD k lv v d n)).ports.length:Int)=(n:Int):=by simp[gA,bD]
 have e2:fieldsOf (gA (bD k lv v d n))=fF k n:=by unfold fieldsOf;rw[e];rfl
 rw[e2,e];show(decide (0<dH k (fF k n))&&(n:Int)==dH k (fF k n)&&dz k lv&&gV (gA (bD k lv v d n)))=true;rw[←h3,h1,h2];simp only[beq_self_eq_true,Bool.and_true,decide_eq_true_eq];omega
theorem YR{lv:Int}(h:lv=0∨(0≤lv∧lv≤8)):Wf (bD 4 lv 0 [] 3):=Mk (zR (by omega) h) rfl rfl (by decide)
theorem YP{lv:Int}(h:lv=0∨(0≤lv∧lv≤8)):Wf (bD 3 lv 0 [] 3):=Mk (zR (by omega) h) rfl rfl (by decide)
theorem U3{lv v:Int}(h:lv=0∨(0≤lv∧lv≤8))(hv:kJ v=true):Wf (bD 12 lv v [] 1):=Mk (zR (by omega) h) (by show((((0:Nat):Int)==0)&&kJ v)=true;rw[hv];rfl) rfl (by decide)
theorem YS{v:Int}(hv:r9 v=true):Wf (bD 6 0 v [] 1):=Mk (by decide) (by show((((0:Nat):Int)==0)&&r9 v)=true;rw[hv];rfl) rfl (by decide)
theorem YT{lv v w:Int}(h:lv=0∨(0≤lv∧lv≤8))(hv:kE v=true)(hw:r9 w=true):Wf (bD 8 lv v [w] 2):=Mk (zR (by omega) h) (by show(((((1:Nat):Int)==1)&&kE v)&&r9 (eD [w] 0))=true;rw[hv,show eD [w] 0=w from rfl,hw];rfl) rfl (by decide)
theorem PK{a:NAgent}(h:Wf a):Wf (bD a.1 a.2.1 a.2.2.1 a.2.2.2.1 a.2.2.2.2.length):=(Ka (by unfold sig bD;simp)).2 h
theorem xP{a:NAgent}(h:Wf a):a.2.1=0∨(0≤a.2.1∧a.2.1≤8):=PU (fZ h).1
theorem U1{a:NAgent}(h:Wf a)(k:a.1=6):r9 a.2.2.1=true:=by
 have:=(fZ h).2.1;unfold gV gA at this;simp only[k,beq_self_eq_true,if_true,Bool.and_eq_true]at this;exact this.2
theorem WG{a:NAgent}(h:Wf a)(k:a.1=7):kE a.2.2.1=true:=by
 have:=(fZ h).2.1;unfold gV gA at this;simp only[k]at this;simp at this;exact this.2
theorem U2{a:NAgent}(h:Wf a)(k:a.1=8):a.2.2.2.1.length=1∧kE a.2.2.1=true∧r9 (eD a.2.2.2.1 0)=true:=by
 have:=(fZ h).2.1;unfold gV gA at this;simp only[k]at this;simp at this;exact⟨by omega,this.1.2,this.2⟩
theorem Oi{l:List Int}(h:lT l=true){i:Int}(h0:0≤i)(h1:i<(l.length:Nat)):kJ (jC l i)=true:=by
 unfold lT eH at h;rw[List.all_eq_true]at h;have:=h i.toNat (List.mem_range.2 (by omega));exact this
theorem U0{a:NAgent}(h:Wf a)(k:a.1=10):1≤a.2.2.2.1.length∧a.2.2.2.1.length≤4∧lT a.2.2.2.1=true:=by
 have:=(fZ h).2.1;unfold gV gA at this;simp only[k]at this;simp at this;have h2:=jY this.1.2;exact⟨by omega,by omega,this.2⟩
theorem F8{a:NAgent}(h:Wf a)(k:a.1=11):a.2.2.2.1.length=2∧lT a.2.2.2.1=true:=by
 have:=(fZ h).2.1;unfold gV gA at this;simp only[k]at this;simp at this;exact⟨by omega,this.2⟩
theorem uW{a:NAgent}(h:Wf a)(k:a.1=12):0≤a.2.2.1∧a.2.2.1≤23:=by
 have:=(fZ h).2.1;unfold gV gA at this;simp only[k]at this;simp at this;exact jY this.2
theorem F7{a:NAgent}(h:Wf a)(k:a.1=9):0≤a.2.2.1∧a.2.2.1≤3:=by
 have:=(fZ h).2.1;unfold gV gA at this;simp only[k]at this;simp at this;exact jY this.2
theorem wf_data{a:NAgent}(h:Wf a):a.2.2.2.1.length≤4:=by
 have:=(fZ h).2.1;unfold gV gA at this;dsimp only at this;split at this
 ·simp at this;rw[this.1];decide
 split at this
 ·simp at this;rw[this.1];decide
 split at this
 ·simp at this;omega
 split at this
 ·simp at this;rw[this.1];decide
 split at this
 ·simp at this;rw[this.1];decide
 split at this
 ·simp at this;have:=jY this.1.2;omega
 split at this
 ·simp at this;omega
 ·simp at this;rw[this.2];decide
def IV(D:Int→Prop)(xs:List NAgent):Prop:=∀i:Int,0≤i→i<(xs.length:Nat)→¬D i→Wf (ah xs i)
theorem IV.grow{D E:Int→Prop}{xs xs' zs:List NAgent}(h:IV D xs)(hs:fG xs' (xs++zs))(hz:∀z∈zs,Wf z)(hE:∀i,D i→E i):IV E xs':=fun i h0 h1 hi=>by
 rw[Ka (hs.2 i h0 h1)]
 by_cases hl:i<(xs.length:Nat)
 ·rw[dJ (by omega)];exact h i h0 hl fun k=>hi (hE i k)
 ·have hln:=hs.1;rw[List.length_append]at hln;have hlt:i.toNat-xs.length<zs.length:=by omega
  have e:ah (xs++zs) i=zs[i.toNat-xs.length]:=by
   unfold ah elt;rw[List.getD_eq_getElem?_getD,List.getElem?_append_right (by omega),List.getElem?_eq_getElem hlt];rfl
  rw[e];exact hz _ (List.getElem_mem hlt)
structure BkW(bk:List (List NAgent)):Prop where
 wi:∀v:Int,0≤v→v<(bk.length:Nat)→iH (fun p=>ak (bR bk v) p) (bR bk v)
 r0:∀v:Int,0≤v→v<(bk.length:Nat)→ak (bR bk v) (0,0)
 r1:∀v:Int,0≤v→v<(bk.length:Nat)→∀p,ak (bR bk v) p→p.1=0→p=(0,0)
 wf:∀v:Int,0≤v→v<(bk.length:Nat)→∀i:Int,0≤i→i<((bR bk v).length:Nat)→Wf (ah (bR bk v) i)
def uK(bk:List (List NAgent))(xs:List NAgent)(c x y:Int):List NAgent:=
 bif c==3 then[nG xs y]++[nG xs y]++List.replicate ((ah xs y).2.2.2.2.length-1) (bD 4 (ah xs x).2.1 0 [] 3)
 else bif c==4 then List.replicate ((ah xs y).2.2.2.2.length-1) (bD 5 0 0 [] 1)
 else bif c==5 then(bif (ah xs y).1==7 then[bD 8 (ah xs y).2.1 (ah xs y).2.2.1 [(ah xs x).2.2.1] 2]else[bD 6 0 (xG (ah xs y).2.2.1 (jC (ah xs y).2.2.2.1 0) (ah xs x).2.2.1) [] 1])
 else bif c==6 then(bif (ah xs x).1==6 then[bD 12 (ah xs y).2.1 (jC (ah xs y).2.2.2.1 (bif (ah xs x).2.2.1==0 then 1 else 0)) [] 1]
  else[bD 12 (ah xs y).2.1 (jC (ah xs y).2.2.2.1 (ah xs x).2.2.1) [] 1]++List.replicate ((ah xs x).2.2.2.2.length-1) (bD 3 (ah xs y).2.1 0 [] 3))
 else bif c==7 then((nC bk xs x).drop 1).map (dA ((xs.length:Nat)-1))else[]
section
variable {D:Int→Prop}{xs ys:List NAgent}{x y:Int}{bk:List (List NAgent)}
theorem N7{x:Int}{b:Nat}{P Q:List NAgent}(h:fG P Q):∀k,fG (DK x b P k) Q
 |0=>h
 |k+1=>(N7 h k).move _ _
theorem N9(lv:Int)(b:Nat)(P:List NAgent):∀k,fG (qR lv b P k) (P++List.replicate k (bD 3 lv 0 [] 3))
 |0=>by rw[List.replicate_zero,List.append_nil];exact fG.refl _
 |k+1=>by
  unfold qR;rw[List.replicate_succ',←List.append_assoc];exact((N9 lv b P k).app _).link _ _
theorem He{c:Int}(hc:1≤c∧c≤7)(hx:x.toNat<xs.length):fG (gZ bk xs c x y) (xs++uK bk xs c x y):=by
 have hcs:c=1∨c=2∨c=3∨c=4∨c=5∨c=6∨c=7:=by omega
 rcases hcs with rfl|rfl|rfl|rfl|rfl|rfl|rfl
 ·show fG (aT (aT xs (x,1) (y,1)) (x,2) (y,2)) (xs++[]);rw[List.append_nil];exact((fG.refl xs).join _ _).join _ _
 ·show fG (aT (aT xs (x,1) (y,1)) (x,2) (y,2)) (xs++[]);rw[List.append_nil];exact((fG.refl xs).join _ _).join _ _
 ·show fG (bL xs x y) (xs++([nG xs y]++[nG xs y]++List.replicate ((ah xs y).2.2.2.2.length-1) (bD 4 (ah xs x).2.1 0 [] 3)));unfold bL lD dup3
  have e:(ah (dup2 xs y) x).2.1=(ah xs x).2.1:=by
   unfold dup2;rw[dJ (by rw[List.length_append];omega),dJ hx]
  rw[←(kM (x:=x) (by rw[gW];omega) _).1,e];refine Hz ((fG.move ?_ _ _).move _ _) _;rw[←List.append_assoc,←List.append_assoc];exact KT _ _ _ _ _
 ·exact Ot y xs _
 ·show fG (bJ xs x y) (xs++(bif (ah xs y).1==7 then[bD 8 (ah xs y).2.1 (ah xs y).2.2.1 [(ah xs x).2.2.1] 2]else[bD 6 0 (xG (ah xs y).2.2.1 (jC (ah xs y).2.2.2.1 0) (ah xs x).2.2.1) [] 1]));unfold bJ;cases (ah xs y).1==7 with
  |true=>exact(((fG.refl xs).app _).move _ _).move _ _
  |false=>exact((fG.refl xs).app _).move _ _
 ·show fG (kr xs x y) (xs++(bif (ah xs x).1==6 then[bD 12 (ah xs y).2.1 (jC (ah xs y).2.2.2.1 (bif (ah xs x).2.2.1==0 then 1 else 0)) [] 1]
   else[bD 12 (ah xs y).2.1 (jC (ah xs y).2.2.2.1 (ah xs x).2.2.1) [] 1]++List.replicate ((ah xs x).2.2.2.2.length-1) (bD 3 (ah xs y).2.1 0 [] 3)))
  unfold kr;cases (ah xs x).1==6 with
  |true=>exact((fG.refl xs).app _).move _ _
  |false=>
   simp only[cond_false];rw[←List.append_assoc];exact(N7 (N9 _ _ _ _) _).move _ _
 ·exact((fG.refl xs).app _).link _ _
theorem Sn{c:Int}(h:St D xs ys)(k:nI D xs x y)(hD:∀i,D i→i<(xs.length:Nat))(hw:IV D xs)(hr:rule (ah xs x).1 (ah xs x).2.1 (ah xs y).1 (ah xs y).2.1=c)(hc:1≤c∧c≤7)(hb:BkW bk)(h7:c=7→(ah xs x).2.2.1<(bk.length:Nat)):
  St (fun i=>D i∨i∈gH c x y) (gZ bk xs c x y) (gG bk ys c x y):=by
 have wx:=hw x k.px.1 k.px.2.1 k.lx;have wy:=hw y k.py.1 k.py.2.1 k.ly;obtain⟨x1,x2,x3,x4⟩:=uV wx;obtain⟨y1,y2,y3,y4⟩:=uV wy;obtain⟨r1,r2,r3,r4,r5,r6,r7⟩:=iN hr (by omega)
 have mono:∀{E:Int→Prop} {A B:List NAgent},(∀i,E i↔D i∨i=x∨i=y)→St (fun i=>D i∨i=x∨i=y) A B→St E A B:=fun {E A B} e s=>by
  have:E=fun i=>D i∨i=x∨i=y:=funext fun i=>propext (e i)
  rw[this];exact s
 have g2:c≠7→∀i,(D i∨i∈gH c x y)↔D i∨i=x∨i=y:=fun hne i=>by
  unfold gH;rw[show(c==7)=false by simpa using hne];simp
 have hcs:c=1∨c=2∨c=3∨c=4∨c=5∨c=6∨c=7:=by omega
 rcases hcs with rfl|rfl|rfl|rfl|rfl|rfl|rfl
 ·obtain⟨a,b⟩:=r1 rfl;exact mono (g2 (by decide)) (h.joins k (x3 (by omega)) (y3 (by omega)))
 ·obtain⟨a,b⟩:=r2 rfl;exact mono (g2 (by decide)) (h.joins k (x3 (by omega)) (y3 (by omega)))
 ·exact mono (g2 (by decide)) (h.duplicate k hD (x3 (by have:=r3 rfl;omega)) (fZ wy).2.2.2)
 ·exact mono (g2 (by decide)) (h.erase k hD (x1 (by have:=r4 rfl;omega)))
 ·obtain⟨a,b⟩:=r5 rfl;exact mono (g2 (by decide)) (h.operate k hD (x1 (by omega)) (fun e=>y3 (by omega)) (fun e=>y2 (by omega)))
 ·have q:=r6 rfl;exact mono (g2 (by decide)) (h.choose k hD (by omega) (fun e=>x1 (by omega)) (fZ wx).2.2.2 (y2 (by omega)))
 ·obtain⟨a,b⟩:=r7 rfl;have v:=uW wx a;have e:(fun i=>D i∨i∈gH 7 x y)=fun i=>D i∨i=x:=funext fun i=>propext (by unfold gH;simp)
  rw[e];exact h.expand k hD (x1 (by omega)) (hb.wi _ v.1 (h7 rfl)) (hb.r0 _ v.1 (h7 rfl)) (hb.r1 _ v.1 (h7 rfl))
end
end Go.Tr
namespace Go.Tr
open Go Go.RowKit
theorem A9(x:Int):r9 (nZ x)=true:=by
 have h: -2147483648≤IntKind.i32.wrap x∧IntKind.i32.wrap x≤2147483647:=by
  simp only[IntKind.wrap,IntKind.bits,IntKind.signed];simp;omega
 unfold nZ;rw[IntWalk.i64_in _ (by omega)];exact wX h.1 h.2
theorem VW(o a b:Int):r9 (xG o a b)=true:=by
 unfold xG;cases o==1 with
 |true=>exact A9 _
 |false=>
 cases o==2 with
 |true=>exact A9 _
 |false=>
 cases o==3 with
 |true=>exact A9 _
 |false=>
 cases o==4 with
 |true=>
  cases nZ b==0 with
  |true=>rfl
  |false=>exact A9 _
 |false=>
 cases o==5 with
 |true=>cases decide (nZ a<nZ b)<;>rfl
 |false=>
 cases o==6 with
 |true=>cases nZ a==nZ b<;>rfl
 |false=>rfl
theorem U4{lv:Int}{a:NAgent}(h:Wf a)(h0:0≤lv)(h8:(!(bW a.kind)||decide (a.level+lv≤8))=true):Wf (jq lv a):=by
 unfold jq;cases hl:bW a.kind with
 |false=>exact h
 |true=>
  have h9:a.2.1+lv≤8:=by
   rw[show NAgent.kind a=a.1 from rfl]at*;rw[hl]at h8;simpa using h8
  have hp:=fZ h;have hlev:=xP h;unfold Wf dY at h ⊢;simp only[Bool.and_eq_true]at h ⊢;obtain⟨⟨⟨q1,q2⟩,q3⟩,q4⟩:=h;refine⟨⟨⟨q1,q2⟩,?_⟩,q4⟩;show dz a.1 (a.2.1+lv)=true;have q5:dz a.1 a.2.1=true:=q3;unfold dz at q5 ⊢;simp only[Bool.and_eq_true,Bool.or_eq_true]at q5 ⊢;exact⟨q5.1,.inr ⟨hl,wX (by omega) h9⟩⟩
theorem Qo(b:Int)(a:NAgent):sig (dA b a)=sig a:=by unfold sig dA;simp
section
variable {D:Int→Prop}{xs:List NAgent}{x y:Int}{bk:List (List NAgent)}
theorem Hf{c:Int}(hw:IV D xs)(hx:0≤x∧x<(xs.length:Nat))(hy:0≤y∧y<(xs.length:Nat))(lx:¬D x)(ly:¬D y)(hr:rule (ah xs x).1 (ah xs x).2.1 (ah xs y).1 (ah xs y).2.1=c)(hc:1≤c∧c≤7)(hb:BkW bk)
  (h6:c=6→(ah xs x).1=9→(ah xs x).2.2.1<((ah xs y).2.2.2.1.length:Nat)) (h7:c=7→(ah xs x).2.2.1<(bk.length:Nat)∧fV (ah xs x).2.1 (bR bk (ah xs x).2.2.1)=true):IV D (gZ bk xs c x y):=by
 have wx:=hw x hx.1 hx.2 lx;have wy:=hw y hy.1 hy.2 ly;have lvx:=xP wx;have lvy:=xP wy;obtain⟨r1,r2,r3,r4,r5,r6,r7⟩:=iN hr (by omega);refine hw.grow (He hc (by omega)) ?_ fun i e=>e
 have hcs:c=1∨c=2∨c=3∨c=4∨c=5∨c=6∨c=7:=by omega
 rcases hcs with rfl|rfl|rfl|rfl|rfl|rfl|rfl
 ·intro z hz;cases hz
 ·intro z hz;cases hz
 ·intro z hz;have hz':z∈[nG xs y]++[nG xs y]++List.replicate ((ah xs y).2.2.2.2.length-1) (bD 4 (ah xs x).2.1 0 [] 3):=hz;rw[List.mem_append,List.mem_append,List.mem_singleton]at hz';rcases hz' with(e|e)|e
  ·rw[e];exact PK wy
  ·rw[e];exact PK wy
  ·rw[List.eq_of_mem_replicate e];exact YR lvx
 ·intro z hz;have hz':z∈List.replicate ((ah xs y).2.2.2.2.length-1) (bD 5 0 0 [] 1):=hz;rw[List.eq_of_mem_replicate hz'];exact YQ
 ·obtain⟨a,b⟩:=r5 rfl;intro z hz;have hz':z∈(bif (ah xs y).1==7 then[bD 8 (ah xs y).2.1 (ah xs y).2.2.1 [(ah xs x).2.2.1] 2]else[bD 6 0 (xG (ah xs y).2.2.1 (jC (ah xs y).2.2.2.1 0) (ah xs x).2.2.1) [] 1]):=hz;cases hk:(ah xs y).1==7 with
  |true=>
   rw[hk,cond_true,List.mem_singleton]at hz';rw[hz'];exact YT lvy (WG wy (by simpa using hk)) (U1 wx a)
  |false=>
   rw[hk,cond_false,List.mem_singleton]at hz';rw[hz'];exact YS (VW _ _ _)
 ·have q:=r6 rfl;intro z hz
  have hz':z∈(bif (ah xs x).1==6 then[bD 12 (ah xs y).2.1 (jC (ah xs y).2.2.2.1 (bif (ah xs x).2.2.1==0 then 1 else 0)) [] 1]
   else[bD 12 (ah xs y).2.1 (jC (ah xs y).2.2.2.1 (ah xs x).2.2.1) [] 1]++List.replicate ((ah xs x).2.2.2.2.length-1) (bD 3 (ah xs y).2.1 0 [] 3)):=hz
  rcases q with⟨a,b⟩|⟨a,b⟩
  ·rw[show((ah xs x).1==6)=true by simpa using a,cond_true,List.mem_singleton]at hz';obtain⟨l2,d⟩:=F8 wy b;rw[hz'];refine U3 lvy (Oi d ?_ ?_)
   ·cases (ah xs x).2.2.1==0<;>decide
   ·rw[l2];cases (ah xs x).2.2.1==0<;>decide
  ·rw[show((ah xs x).1==6)=false by simp[a],cond_false,List.mem_append,List.mem_singleton]at hz';obtain⟨_,_,d⟩:=U0 wy b;rcases hz' with e|e
   ·rw[e];exact U3 lvy (Oi d (F7 wx a).1 (h6 rfl a))
   ·rw[List.eq_of_mem_replicate e];exact YP lvy
 ·obtain⟨a,b⟩:=r7 rfl;obtain⟨v1,v2⟩:=h7 rfl;intro z hz;have hz':z∈((nC bk xs x).drop 1).map (dA ((xs.length:Nat)-1)):=hz;obtain⟨w,hw1,rfl⟩:=List.mem_map.1 hz';rw[Ka (Qo _ w)];have hw2:=List.mem_of_mem_drop hw1;unfold nC dh at hw2;obtain⟨u,hu,rfl⟩:=List.mem_map.1 hw2;obtain⟨i,hi,rfl⟩:=List.mem_iff_getElem.1 hu;have hv:=uW wx a;have wu:=hb.wf _ hv.1 v1 (i:Nat) (by omega) (by omega)
  have e:ah (bR bk (ah xs x).2.2.1) (i:Nat)=(bR bk (ah xs x).2.2.1)[i]:=by
   generalize bR bk (ah xs x).2.2.1=t at*;unfold ah elt;rw[Int.toNat_natCast,List.getD_eq_getElem?_getD,List.getElem?_eq_getElem hi];rfl
  rw[e]at wu;refine U4 wu (by omega) ?_;unfold fV at v2;exact List.all_eq_true.1 v2 _ hu
theorem Sq{c:Int}(hw:IV D xs)(hx:0≤x∧x<(xs.length:Nat))(hy:0≤y∧y<(xs.length:Nat))(lx:¬D x)(ly:¬D y)(hr:rule (ah xs x).1 (ah xs x).2.1 (ah xs y).1 (ah xs y).2.1=c)(hc:1≤c∧c≤7)(hb:BkW bk)
  (h6:c=6→(ah xs x).1=9→(ah xs x).2.2.1<((ah xs y).2.2.2.1.length:Nat)) (h7:c=7→(ah xs x).2.2.1<(bk.length:Nat)∧fV (ah xs x).2.1 (bR bk (ah xs x).2.2.1)=true):IV (fun i=>D i∨i∈gH c x y) (gZ bk xs c x y):=fun i h0 h1 hi=>Hf hw hx hy lx ly hr hc hb h6 h7 i h0 h1 fun e=>hi (.inl e)
end
end Go.Tr
namespace Go.Tr
open Go Go.RowKit
section
variable {D:Int→Prop}{xs ys:List NAgent}{x y a b:Int}{bk:List (List NAgent)}
theorem LA{u v:NAgent}(hu:Wf u)(hv:Wf v)(ru:u.1≠1)(rv:v.1≠1):mh u.1 u.2.1 v.1 v.2.1=true:=by
 unfold mh;rw[(fZ hu).1,(fZ hv).1];simp[ru,rv]
theorem PY{u v:NAgent}(hu:Wf u)(hv:Wf v)(ru:u.1≠1)(rv:v.1≠1):1≤aV u.1 u.2.1 v.1 v.2.1∧aV u.1 u.2.1 v.1 v.2.1≤8:=by
 have hp:=LA hu hv ru rv;unfold aV;rw[hp,if_pos rfl];have r1:=vU u.1 u.2.1 v.1 v.2.1;have r2:=vU v.1 v.2.1 u.1 u.2.1;split
 ·split
  ·decide
  ·omega
 ·omega
theorem MR{u v:NAgent}(hu:Wf u)(hv:Wf v)(ru:u.1≠1)(rv:v.1≠1)(h8:aV u.1 u.2.1 v.1 v.2.1=8):bn u.1 u.2.1 v.1 v.2.1=0:=by
 have hp:=LA hu hv ru rv;unfold aV at h8;unfold bn;rw[hp,if_pos rfl]at h8;rw[hp,if_pos rfl];have r1:=vU u.1 u.2.1 v.1 v.2.1;have r2:=vU v.1 v.2.1 u.1 u.2.1;split at h8
 ·rename_i e1;rw[if_pos e1];split at h8
  ·rename_i e2;rw[if_pos e2]
  ·omega
 ·omega
theorem MB{u v:NAgent}{c:Int}(hr:rule u.1 u.2.1 v.1 v.2.1=c)(hc:1≤c∧c≤7):nO u v=false∧qE c u v=iJ u v:=by
 obtain⟨r1,r2,r3,r4,r5,r6,r7⟩:=iN hr (by omega)
 have k2:u.1≠10:=by
  intro e;have:c=1∨c=2∨c=3∨c=4∨c=5∨c=6∨c=7:=by omega
  rcases this with h|h|h|h|h|h|h
  ·have:=r1 h;omega
  ·have:=r2 h;omega
  ·have:=r3 h;omega
  ·have:=r4 h;omega
  ·have:=r5 h;omega
  ·have:=r6 h;omega
  ·have:=r7 h;omega
 constructor
 ·unfold nO;rw[show(u.1==10)=false by simpa using k2];rfl
 ·unfold qE iJ
  have e:(bif c==6 then v.kind==10 else false)=(bif u.1==9 then v.1==10 else false):=by
   show(bif c==6 then v.1==10 else false)=_
   by_cases h9:u.1=9
   ·have hc6:c=6∨v.1≠10:=by
     by_cases hv:v.1=10
     ·left;rw[←hr];unfold rule;rw[h9,hv];rfl
     ·exact .inr hv
    rw[show(u.1==9)=true by simpa using h9,cond_true];rcases hc6 with h|h
    ·rw[h];rfl
    ·rw[show(v.1==10)=false by simpa using h];cases c==6<;>rfl
   ·rw[show(u.1==9)=false by simpa using h9,cond_false]
    by_cases h6:c=6
    ·have:=r6 h6;rw[show(v.1==10)=false by simp;omega];cases c==6<;>rfl
    ·rw[show(c==6)=false by simpa using h6];rfl
  rw[e]
theorem DV(ha:Wf (ah xs a))(hb:Wf (ah xs b))(ra:(ah xs a).1≠1)(rb:(ah xs b).1≠1):(bC (ah xs a) (ah xs b)).1=bP (ah xs (firstS xs a b).1) (ah xs (firstS xs a b).2)∧
  ((bC (ah xs a) (ah xs b)).1≠8→(bif (bC (ah xs a) (ah xs b)).2 then b else a)=(firstS xs a b).1∧(bif (bC (ah xs a) (ah xs b)).2 then a else b)=(firstS xs a b).2∧
   rule (ah xs (firstS xs a b).1).1 (ah xs (firstS xs a b).1).2.1 (ah xs (firstS xs a b).2).1 (ah xs (firstS xs a b).2).2.1=(bC (ah xs a) (ah xs b)).1∧1≤(bC (ah xs a) (ah xs b)).1∧(bC (ah xs a) (ah xs b)).1≤7):=by
 have hp:=PY ha hb ra rb
 by_cases h8:aV (ah xs a).1 (ah xs a).2.1 (ah xs b).1 (ah xs b).2.1=8
 ·have hf:=MR ha hb ra rb h8
  have e1:bC (ah xs a) (ah xs b)=(8,false):=by
   unfold bC qE;rw[show(bn (ah xs a).kind (ah xs a).level (ah xs b).kind (ah xs b).level==2)=false by rw[show bn (ah xs a).kind (ah xs a).level (ah xs b).kind (ah xs b).level=0 from hf];rfl];rw[show aV (ah xs a).kind (ah xs a).level (ah xs b).kind (ah xs b).level=8 from h8];rfl
  have e2:firstS xs a b=(a,b):=by unfold firstS;rw[hf];rfl
  rw[e1,e2];refine⟨?_,fun h=>absurd rfl h⟩;unfold bP;rw[h8];cases iJ (ah xs a) (ah xs b)<;>cases nO (ah xs a) (ah xs b)<;>rfl
 ·have hc:1≤aV (ah xs a).1 (ah xs a).2.1 (ah xs b).1 (ah xs b).2.1∧aV (ah xs a).1 (ah xs a).2.1 (ah xs b).1 (ah xs b).2.1≤7:=by omega
  have hr:=MQ (xs:=xs) (a:=a) (b:=b) hc;obtain⟨c1,c2⟩:=MB hr hc
  have hcS:bP (ah xs (firstS xs a b).1) (ah xs (firstS xs a b).2)=bif iJ (ah xs (firstS xs a b).1) (ah xs (firstS xs a b).2)then 8 else aV (ah xs a).1 (ah xs a).2.1 (ah xs b).1 (ah xs b).2.1:=by
   unfold bP;rw[c1]
   have:aV (ah xs (firstS xs a b).1).1 (ah xs (firstS xs a b).1).2.1 (ah xs (firstS xs a b).2).1 (ah xs (firstS xs a b).2).2.1=aV (ah xs a).1 (ah xs a).2.1 (ah xs b).1 (ah xs b).2.1:=by
    unfold firstS;cases bn (ah xs a).1 (ah xs a).2.1 (ah xs b).1 (ah xs b).2.1==2 with
    |true=>exact yU _ _ _ _
    |false=>rfl
   rw[this];cases iJ (ah xs (firstS xs a b).1) (ah xs (firstS xs a b).2)<;>rfl
  rw[hcS];generalize hC:aV (ah xs a).1 (ah xs a).2.1 (ah xs b).1 (ah xs b).2.1=c at*;cases hf:bn (ah xs a).1 (ah xs a).2.1 (ah xs b).1 (ah xs b).2.1==2 with
  |true=>
   have e2:firstS xs a b=(b,a):=by unfold firstS;rw[hf];rfl
   rw[e2]at hr c2 ⊢
   have e1:bC (ah xs a) (ah xs b)=bif iJ (ah xs b) (ah xs a)then(8,false)else(c,true):=by
    unfold bC;rw[show(bn (ah xs a).kind (ah xs a).level (ah xs b).kind (ah xs b).level==2)=true from hf,show aV (ah xs a).kind (ah xs a).level (ah xs b).kind (ah xs b).level=c from hC];simp only[cond_true];rw[c2]
   rw[e1];cases iJ (ah xs b) (ah xs a)with
   |true=>exact⟨rfl,fun h=>absurd rfl h⟩
   |false=>exact⟨rfl,fun _=>⟨rfl,rfl,hr,hc⟩⟩
  |false=>
   have e2:firstS xs a b=(a,b):=by unfold firstS;rw[hf];rfl
   rw[e2]at hr c2 ⊢
   have e1:bC (ah xs a) (ah xs b)=bif iJ (ah xs a) (ah xs b)then(8,false)else(c,false):=by
    unfold bC;rw[show(bn (ah xs a).kind (ah xs a).level (ah xs b).kind (ah xs b).level==2)=false from hf,show aV (ah xs a).kind (ah xs a).level (ah xs b).kind (ah xs b).level=c from hC];simp only[cond_false];rw[c2]
   rw[e1];cases iJ (ah xs a) (ah xs b)with
   |true=>exact⟨rfl,fun h=>absurd rfl h⟩
   |false=>exact⟨rfl,fun _=>⟨rfl,rfl,hr,hc⟩⟩
end
end Go.Tr
namespace Go.Tr
open Go Go.RowKit
section
variable {xs:List NAgent}{a b:Int}{bk:List (List NAgent)}
theorem VO{u v m:Int}:BK u v≤m↔u≤m∧v≤m:=by
 unfold BK;cases h:decide (v<u)with
 |true=>simp only[decide_eq_true_eq]at h;simp only[cond_true];omega
 |false=>simp only[decide_eq_false_iff_not]at h;simp only[cond_false];omega
theorem BA{t:List NAgent}{m:Int}(hm:0≤m):∀k:Nat,mH t k≤m↔∀i:Nat,i<k→(ah t (i:Nat)).2.1≤m
 |0=>⟨fun _ i hi=>by omega,fun _=>hm⟩
 |k+1=>by
  unfold mH;rw[VO,BA hm k];constructor
  ·rintro⟨h1,h2⟩ i hi
   by_cases e:i=k
   ·rw[e];exact h2
   ·exact h1 i (by omega)
  ·intro h;exact⟨fun i hi=>h i (by omega),h k (by omega)⟩
theorem wP{t:List NAgent}{i:Nat}(hi:i<t.length):ah t (i:Nat)=t[i]:=by
 unfold ah elt;rw[Int.toNat_natCast,List.getD_eq_getElem?_getD,List.getElem?_eq_getElem hi];rfl
theorem UA{t:List NAgent}{lv:Int}(ht:∀i:Int,0≤i→i<(t.length:Nat)→Wf (ah t i))(h0:0≤lv)(h8:lv≤8):decide (8<IntKind.i64.wrap (mH t t.length+lv))= !fV lv t:=by
 have hb:mH t t.length≤8:=(BA (by decide) _).2 fun i hi=>by
  have:=xP (ht (i:Nat) (by omega) (by omega));omega
 have hz:0≤mH t t.length:=by
  have:∀k:Nat,0≤mH t k:=fun k=>by
   induction k with
   |zero=>exact Int.le_refl 0
   |succ k ih=>unfold mH BK;cases h:decide ((ah t (k:Nat)).2.1<mH t k)with
    |true=>exact ih
    |false=>simp only[decide_eq_false_iff_not]at h;simp only[cond_false];omega
  exact this _
 rw[IntWalk.i64_in _ (by omega)]
 have key:fV lv t=decide (mH t t.length≤8-lv):=by
  rw[Bool.eq_iff_iff,decide_eq_true_eq,BA (by omega)];unfold fV;rw[List.all_eq_true];constructor
  ·intro h i hi;have q:=h _ (List.getElem_mem hi);have w:=ht (i:Nat) (by omega) (by omega);rw[←wP hi]at q;cases hl:bW (ah t (i:Nat)).kind with
   |true=>
    rw[hl]at q;have:(ah t (i:Nat)).2.1+lv≤8:=by simpa using q
    omega
   |false=>
    have q2:=(fZ w).1;unfold dz at q2;rw[show bW (ah t (i:Nat)).1=false from hl]at q2;simp only[Bool.false_and,Bool.or_false,Bool.and_eq_true,beq_iff_eq]at q2;omega
  ·intro h u hu;obtain⟨i,hi,rfl⟩:=List.mem_iff_getElem.1 hu;have q:=h i hi;rw[wP hi]at q;have:t[i].level+lv≤8:=by show t[i].2.1+lv≤8;omega
   simp[this]
 rw[key,←decide_not];exact decide_eq_decide.2 (by omega)
theorem Vq(ha:Wf (ah xs a))(hb:Wf (ah xs b))(ra:(ah xs a).1≠1)(rb:(ah xs b).1≠1)(hbk:BkW bk):
  ((iw bk (ah xs (firstS xs a b).1) (ah xs (firstS xs a b).2)).2≠0→(checkN bk xs (a,b)).2.2.2=(iw bk (ah xs (firstS xs a b).1) (ah xs (firstS xs a b).2)).2)∧
  ((iw bk (ah xs (firstS xs a b).1) (ah xs (firstS xs a b).2)).2=0→checkN bk xs (a,b)=(bP (ah xs (firstS xs a b).1) (ah xs (firstS xs a b).2),(firstS xs a b).1,(firstS xs a b).2,0)∧
   sW bk xs (bP (ah xs (firstS xs a b).1) (ah xs (firstS xs a b).2)) (firstS xs a b).1 (firstS xs a b).2=(iw bk (ah xs (firstS xs a b).1) (ah xs (firstS xs a b).2)).1∧
   (bP (ah xs (firstS xs a b).1) (ah xs (firstS xs a b).2)=7→(ah xs (firstS xs a b).1).2.2.1<(bk.length:Nat)∧fV (ah xs (firstS xs a b).1).2.1 (bR bk (ah xs (firstS xs a b).1).2.2.1)=true)):=by
 obtain⟨e1,e2⟩:=DV ha hb ra rb
 have hx1:Wf (ah xs (firstS xs a b).1):=by
  unfold firstS;cases bn (ah xs a).1 (ah xs a).2.1 (ah xs b).1 (ah xs b).2.1==2
  ·exact ha
  ·exact hb
 generalize hc:bP (ah xs (firstS xs a b).1) (ah xs (firstS xs a b).2)=c at*;unfold iw checkN;rw[hc];simp only[e1]
 by_cases h8:c=8
 ·subst h8;refine⟨fun _=>rfl,fun h=> ?_⟩;cases h
 ·obtain⟨k1,k2,k3,k4,k5⟩:=e2 (by rw[e1];exact h8);rw[e1]at k3 k4 k5;have k1':(bif (bC (ah xs a) (ah xs b)).2 then((a,b):Int×Int).2 else((a,b):Int×Int).1)=(firstS xs a b).1:=k1;have k2':(bif (bC (ah xs a) (ah xs b)).2 then((a,b):Int×Int).1 else((a,b):Int×Int).2)=(firstS xs a b).2:=k2;rw[show(c==8)=false by simpa using h8];simp only[cond_false];rw[k1',k2'];generalize (firstS xs a b).1=x at*;generalize (firstS xs a b).2=y at*
  by_cases h7:c=7
  ·subst h7;obtain⟨_,_,_,_,_,_,r7⟩:=iN k3 (by decide);have hv:=uW hx1 (r7 rfl).1;have hlv:=xP hx1;rw[show((7:Int)==7)=true from rfl];simp only[cond_true];cases hd:decide ((bk.length:Int)≤(ah xs x).2.2.1)with
   |true=>
    refine⟨fun _=>rfl,fun h=> ?_⟩;cases h
   |false=>
    simp only[decide_eq_false_iff_not]at hd;have hvl:(ah xs x).2.2.1<(bk.length:Nat):=by omega
    rw[UA (hbk.wf _ hv.1 hvl) (by omega) (by omega)];cases hs:fV (ah xs x).2.1 (bR bk (ah xs x).2.2.1)with
    |false=>
     refine⟨fun _=>rfl,fun h=> ?_⟩;cases h
    |true=>
     refine⟨fun h=>absurd rfl h,fun _=>⟨by first|rfl|trivial,by first|rfl|trivial,fun _=>⟨hvl,by first|rfl|trivial⟩⟩⟩
  ·rw[show(c==7)=false by simpa using h7];simp only[cond_false];refine⟨fun h=>absurd rfl h,fun _=>⟨by first|rfl|trivial,?_,fun h=>absurd h h7⟩⟩;rfl
end
end Go.Tr
namespace Go.Tr
open Go Go.RowKit
abbrev UO:U:=.pair (.int .i64) (.pair (.int .i64) (.pair (.int .i64) (.pair (.int .i64) (.int .i64))))
abbrev bX:=Int×Int×Int×Int×Int
def hasB(xs:List NAgent)(k:Int):Bool:=bif decide (0≤k)then decide (k<(xs.length:Nat))else false
def UK(xs:List NAgent)(kv:List (Int×Bool))(k:Int):Bool:=bif hasB xs k then !(bM false kv k)else false
def Ve(xs:List NAgent)(a b:Int):Bool:=
 bif (bif (bif decide (a<b)then gY [(elt (dflt uPort) (ah xs a).2.2.2.2 0).1,(elt (dflt uPort) (ah xs a).2.2.2.2 0).2] [b,0]else false)then(ah xs a).1 !=1 else false)then(ah xs b).1 !=1 else false
theorem yw(kv:List (Int×Bool))(i j:Int):bM false (gL kv i true) j=if i=j then true else bM false kv j:=by
 induction kv with
 |nil=>
  simp only[gL,bM]
  by_cases h:i=j
  ·rw[if_pos h,show(i==j)=true by simpa using h];rfl
  ·rw[if_neg h,show(i==j)=false by simpa using h];rfl
 |cons e l ih=>
  obtain⟨k,v⟩:=e;simp only[gL];cases h:k==i with
  |true=>
   have h1:k=i:=by simpa using h
   subst h1;simp only[cond_true,bM]
   by_cases h2:k=j
   ·rw[if_pos h2,show(k==j)=true by simpa using h2];rfl
   ·rw[if_neg h2,show(k==j)=false by simpa using h2];rfl
  |false=>
   have h1:k≠i:=by simpa using h
   simp only[cond_false,bM,ih]
   by_cases h2:k=j
   ·subst h2;rw[if_neg (Ne.symm h1),if_neg (Ne.symm h1)]
   ·rw[show(k==j)=false by simpa using h2];rfl
theorem uF{kv:List (Int×Bool)}(hT:∀e∈kv,e.2=true){i:Int}(h:bM false kv i=false):(gL kv i true).length=kv.length+1:=by
 induction kv with
 |nil=>rfl
 |cons e l ih=>
  obtain⟨k,v⟩:=e;simp only[bM]at h;simp only[gL];cases hk:k==i with
  |true=>
   rw[hk,cond_true]at h;have:=hT (k,v) (List.mem_cons_self ..);rw[h]at this;cases this
  |false=>
   rw[hk,cond_false]at h;simp only[cond_false,List.length_cons];rw[ih (fun e he=>hT e (List.mem_cons_of_mem _ he)) h]
theorem Jz{kv:List (Int×Bool)}(hT:∀e∈kv,e.2=true)(i:Int):∀e∈gL kv i true,e.2=true:=by
 induction kv with
 |nil=>
  intro e he;simp only[gL,List.mem_singleton]at he;rw[he]
 |cons e l ih=>
  obtain⟨k,v⟩:=e;simp only[gL];cases hk:k==i with
  |true=>
   intro e he;simp only[cond_true,List.mem_cons]at he;rcases he with rfl|he
   ·rfl
   ·exact hT e (List.mem_cons_of_mem _ he)
  |false=>
   intro e he;simp only[cond_false,List.mem_cons]at he;rcases he with rfl|he
   ·exact hT _ (List.mem_cons_self ..)
   ·exact ih (fun e he=>hT e (List.mem_cons_of_mem _ he)) e he
def mM(kv:List (Int×Bool)):Nat→Nat
 |0=>0
 |k+1=>bif bM false kv (k:Nat)then mM kv k+1 else mM kv k
theorem Bl{kv:List (Int×Bool)}{x:Int}(h0:0≤x)(h:bM false kv x=false):∀n:Nat,mM (gL kv x true) n=mM kv n+(if x<(n:Nat)then 1 else 0)
 |0=>by rw[if_neg (by omega)];rfl
 |n+1=>by
  unfold mM;rw[yw,Bl h0 h n]
  by_cases e:x=(n:Nat)
  ·subst e;rw[if_pos rfl,cond_true,h,cond_false,if_neg (by omega),if_pos (by omega)]
  ·rw[if_neg e]
   by_cases hl:x<(n:Nat)
   ·rw[if_pos hl,if_pos (by omega)];cases bM false kv (n:Nat)<;>simp only[cond_true,cond_false]<;>omega
   ·rw[if_neg hl,if_neg (by omega)];cases bM false kv (n:Nat)<;>simp only[cond_true,cond_false]<;>omega
theorem Bj{kv:List (Int×Bool)}{n:Nat}(h:∀i:Int,(n:Int)≤i→bM false kv i=false):∀m:Nat,mM kv (n+m)=mM kv n
 |0=>rfl
 |m+1=>by
  show mM kv ((n+m)+1)=_;unfold mM;rw[h ((n+m:Nat):Int) (by omega),cond_false];have:=Bj h m;rw[this];cases n<;>rfl
theorem Ld{kv:List (Int×Bool)}{ys:List NAgent}:∀n:Nat,(∀i:Nat,i<n→((ah ys (i:Nat)).1=0↔bM false kv (i:Nat)=true))→bU ys n+mM kv n=n
 |0,_=>rfl
 |n+1,h=>by
  have ih:=Ld n fun i hi=>h i (by omega)
  unfold bU mM;have hn:=h n (by omega)
  by_cases e:(ah ys (n:Nat)).1=0
  ·rw[hn.1 e,show((ah ys (n:Nat)).1 !=0)=false by simpa using e,cond_true,cond_false];omega
  ·rw[show((ah ys (n:Nat)).1 !=0)=true by simpa using e,show bM false kv (n:Nat)=false by cases hk:bM false kv (n:Nat)with
    |false=>rfl
    |true=>exact absurd (hn.2 hk) e,cond_true,cond_false]
   omega
section
variable {P:List NAgent→Prop}(hl:∀xs p q,P xs→P (bQ xs p q))(ha:∀xs zs,P xs→P (xs++zs))
include hl
theorem j5{xs:List NAgent}{p q:aJ}(h:P xs):P (dN xs p q):=hl _ _ _ h
theorem yu{xs:List NAgent}{p q:aJ}(h:P xs):P (aT xs p q):=by
 unfold aT;cases ((aF xs p).1==q.1&&(aF xs p).2==q.2)with
 |true=>exact h
 |false=>exact hl _ _ _ h
theorem yS{y:Int}{b:Nat}{xs:List NAgent}(h:P xs):∀k,P (dG y b xs k)
 |0=>h
 |k+1=>j5 hl (yS h k)
include ha
theorem Au{x c d:Int}{xs:List NAgent}(h:P xs):∀k,P (dP x c d xs k)
 |0=>h
 |k+1=>hl _ _ _ (hl _ _ _ (ha _ _ (Au h k)))
theorem K9{y:Int}{xs:List NAgent}(h:P xs):∀k,P (sS y xs k)
 |0=>h
 |k+1=>j5 hl (ha _ _ (K9 h k))
theorem K8{lv x:Int}{b:Nat}{xs:List NAgent}(h:P xs):∀k,P (p8 lv x b xs k)
 |0=>h
 |k+1=>j5 hl (hl _ _ _ (ha _ _ (K8 h k)))
theorem Ey{bk:List (List NAgent)}{xs:List NAgent}{c x y:Int}(h:P xs):P (iE bk xs c x y):=by
 unfold iE;cases c==1
 ·cases c==2
  ·cases c==3
   ·cases c==4
    ·cases c==5
     ·cases c==6
      ·cases c==7
       ·exact h
       ·exact hl _ _ _ (ha _ _ h)
      ·show P (dL xs x y);unfold dL;cases (ah xs y).1==11
       ·exact j5 hl (K8 hl ha (ha _ _ h) _)
       ·exact j5 hl (ha _ _ h)
     ·show P (bJ xs x y);unfold bJ;cases (ah xs y).1==7
      ·exact j5 hl (ha _ _ h)
      ·exact j5 hl (j5 hl (ha _ _ h))
    ·exact K9 hl ha h _
   ·exact yS hl (j5 hl (j5 hl (Au hl ha (ha _ _ (ha _ _ h)) _))) _
  ·exact yu hl (yu hl h)
 ·exact yu hl (yu hl h)
end
def Kj(i:Int)(ys:List NAgent):Prop:=i.toNat<ys.length∧ah ys i=CP
theorem Kj.set{i:Int}{ys:List NAgent}(h:Kj i ys)(p q:aJ):Kj i (aN ys p q):=by
 refine⟨by rw[dD];exact h.1,?_⟩;rw[fu];split
 ·rename_i e;rw[zO e.1,h.2];rfl
 ·exact h.2
theorem Kj.inter{i:Int}{ys:List NAgent}(h:Kj i ys)(bk:List (List NAgent))(c x y:Int):Kj i (iE bk ys c x y):=
 Ey (P:=Kj i) (fun xs p q h=>(h.set p q).set q p) (fun xs zs h=>⟨by rw[List.length_append];have:=h.1;omega,by rw[dJ h.1];exact h.2⟩) h
theorem Kj.drop{i:Int}{ys:List NAgent}(h:Kj i ys)(a:Int):Kj i (bE ys a):=by
 refine⟨by rw[fD];exact h.1,?_⟩;unfold bE;rw[l8];split
 ·rfl
 ·exact h.2
theorem Kj.new{ys:List NAgent}{a:Int}(h0:0≤a)(h1:a<(ys.length:Nat)):Kj a (bE ys a):=by
 refine⟨by rw[fD];omega,?_⟩;unfold bE;rw[l8,if_pos ⟨rfl,by omega⟩]
theorem G9{xs:List NAgent}(bk:List (List NAgent))(c x y:Int):xs.length≤(iE bk xs c x y).length:=
 Ey (P:=fun ws=>xs.length≤ws.length) (fun ws p q h=>by rw[jE];exact h) (fun ws zs h=>by rw[List.length_append];omega) (Nat.le_refl _)
theorem bG.Zx{xs:List NAgent}{p q:aJ}(h:∀r,ak xs r→r≠p→r≠q→ak xs (aF xs r))(hp:ak xs p)(hq:ak xs q):bG (bQ xs p q):=fun r hr=>by
 have hr':=hr.unlink;rw[jQ hp hq hr'];split
 ·exact hp.link
 ·rename_i e1;split
  ·exact hq.link
  ·rename_i e2;exact(h r hr' (Ne.symm e2) (Ne.symm e1)).link
section
variable {xs:List NAgent}{x y c:Int}{bk:List (List NAgent)}
theorem VH(hp:IntPre xs c x y)(hA:bG xs)(h0:ak xs (0,0))(hc:1≤c∧c≤7)(hb:BkW bk)(h7:c=7→(0≤(ah xs x).2.2.1∧(ah xs x).2.2.1<(bk.length:Nat))):bG (gZ bk xs c x y):=by
 obtain⟨hx0,hy0,p12,p3,px,py,dy,p5,p6⟩:=hp;have hcs:c=1∨c=2∨c=3∨c=4∨c=5∨c=6∨c=7:=by omega
 rcases hcs with rfl|rfl|rfl|rfl|rfl|rfl|rfl
 ·obtain⟨j1,j2,j3,j4⟩:=p12 (.inl rfl);exact(hA.join j1 j3).join j2.join j4.join
 ·obtain⟨j1,j2,j3,j4⟩:=p12 (.inr rfl);exact(hA.join j1 j3).join j2.join j4.join
 ·obtain⟨hx1,hx2⟩:=p3 rfl;show bG (bL xs x y);have h2A:=wV (y:=y) hA h0;have hcd:∀i:Nat,i≤(ah xs y).2.2.2.2.length-1→ak (dup2 xs y) (((xs.length:Nat):Int),(i:Nat))∧ak (dup2 xs y) (((xs.length+1:Nat):Int),(i:Nat)):=fun i hi=>⟨rG (by omega) (by omega),rH (by omega) (by omega)⟩
  have h3A:bG (dup3 xs x y):=mU h2A (nQ h0) _ hcd;have h3:∀{p},ak xs p→ak (dup3 xs x y) p:=fun h=>cO (nQ h) _
  have hc0:ak (dup3 xs x y) (((xs.length:Nat):Int),0):=cO (rG (by decide) (by omega)) _;have hd0:ak (dup3 xs x y) (((xs.length+1:Nat):Int),0):=cO (rH (by decide) (by omega)) _;have h4A:bG (lD xs x y):=(h3A.move (h3 hx1) hc0).move (h3 hx2).move hd0.move;refine lF h4A _ fun i hi=>⟨(h3 ⟨hy0.1,hy0.2,by omega,?_⟩).move.move,?_⟩
  ·show((i:Nat):Int)+1<((ah xs y).2.2.2.2.length:Nat);omega
  ·have:=(rJ (x:=x) (c:=((xs.length:Nat):Int)) (d:=((xs.length+1:Nat):Int)) (xs:=dup2 xs y) hi).move (p:=(x,1)) (q:=(((xs.length:Nat):Int),0));have:=this.move (p:=(x,2)) (q:=(((xs.length+1:Nat):Int),0));rw[gW]at this;exact this
 ·exact yh hA h0 _ fun i hi=>⟨hy0.1,hy0.2,by omega,by show((i+1:Nat):Int)<((ah xs y).2.2.2.2.length:Nat);omega⟩
 ·obtain⟨j1,j2,j3⟩:=p5 rfl;show bG (bJ xs x y);unfold bJ;cases hk:(ah xs y).1==7 with
  |true=>
   have k7:=j2 (by simpa using hk);exact((hA.add h0 _ _ _ _ _).move j1.app (ak.new (by decide) (by decide))).move k7.app.move (ak.new (by decide) (by decide)).move
  |false=>exact(hA.add h0 _ _ _ _ _).move j1.app (ak.new (by decide) (by decide))
 ·obtain⟨j1,j2,j3⟩:=p6 rfl;show bG (kr xs x y);unfold kr;cases hk:(ah xs x).1==6 with
  |true=>exact(hA.add h0 _ _ _ _ _).move j1.app (ak.new (by decide) (by decide))
  |false=>
   simp only[cond_false];have h1A:bG (bF xs y (ah xs x).2.2.1):=hA.add h0 _ _ _ _ _;have h1l:(bF xs y (ah xs x).2.2.1).length=xs.length+1:=qV _ _ _;have h1R:ak (bF xs y (ah xs x).2.2.1) (jk (bF xs y (ah xs x).2.2.1).length 0):=by rw[h1l];exact ak.new (by decide) (by decide)
   have h1:∀{p},ak xs p→ak (bF xs y (ah xs x).2.2.1) p:=fun h=>h.app
   have h2A:=Ja (lv:=(ah xs y).2.1) h1A (h1 h0) h1R ((ah xs x).2.2.2.2.length-1);have hR:=GN (lv:=(ah xs y).2.1) h1R ((ah xs x).2.2.2.2.length-1);have h2:∀{p},ak xs p→ak (qR (ah xs y).2.1 (bF xs y (ah xs x).2.2.1).length (bF xs y (ah xs x).2.2.1) ((ah xs x).2.2.2.2.length-1)) p:=fun h=>DL (h1 h) _
   have hxi:∀i:Nat,i<((ah xs x).2.2.2.2.length-1)→ak (qR (ah xs y).2.1 (bF xs y (ah xs x).2.2.1).length (bF xs y (ah xs x).2.2.1) ((ah xs x).2.2.2.2.length-1)) (x,((i:Nat):Int)+1)∧ak (qR (ah xs y).2.1 (bF xs y (ah xs x).2.2.1).length (bF xs y (ah xs x).2.2.1) ((ah xs x).2.2.2.2.length-1)) ((((bF xs y (ah xs x).2.2.1).length+i:Nat):Int),1):=fun i hi=>
    ⟨h2 ⟨hx0.1,hx0.2,by omega,by show((i:Nat):Int)+1<((ah xs x).2.2.2.2.length:Nat);omega⟩,zV (by decide) (by decide) hi⟩
   rw[h1l]at h2A h2 hxi hR;exact(Dl h2A _ hxi).move (nM (h2 j1) _) (nM hR _)
 ·obtain⟨v0,v1⟩:=h7 rfl;show bG (nS bk xs x y);unfold nS nC;have hw:=hb.wi _ v0 v1;have r0:=hb.r0 _ v0 v1;have r1:=hb.r1 _ v0 v1;generalize bR bk (ah xs x).2.2.1=t at*;generalize (ah xs x).2.1=lv;generalize hbb:(xs.length:Int)-1=b;have hb':b=(xs.length:Int)-1:=hbb.symm;have hws:iH (fun p=>ak (dh lv t) p) (dh lv t):=hw.shift;have r0s:ak (dh lv t) (0,0):=ak.jI.2 r0;have r1s:∀p,ak (dh lv t) p→p.1=0→p=(0,0):=fun p hp e=>r1 p (ak.jI.1 hp) e
  generalize dh lv t=T at*;obtain⟨q1,q2,q3,q4⟩:=hws (0,0) r0s
  have rpos:1≤(aF T (0,0)).1:=by
   have h1:0≤(aF T (0,0)).1:=q2.1
   by_cases e:(aF T (0,0)).1=0
   ·exact absurd (r1s _ q2 e) q4
   ·omega
  have hR:ak (xs++(T.drop 1).map (dA b)) ((aF T (0,0)).1+b,(aF T (0,0)).2):=(ak.mZ hb').2 (.inr ⟨by show(xs.length:Int)≤(aF T (0,0)).1+b;omega,by
   rw[show(((aF T (0,0)).1+b,(aF T (0,0)).2):aJ).1-b=(aF T (0,0)).1 by show(aF T (0,0)).1+b-b=_;omega];exact q2⟩)
  have hY:ak xs (y,0):=⟨hy0.1,hy0.2,Int.le_refl 0,by show(0:Int)<((ah xs y).2.2.2.2.length:Nat);omega⟩;refine bG.Zx (fun r hr n1 n2=> ?_) hY.app hR;rcases(ak.mZ hb').1 hr with q|⟨q,qt⟩
  ·rw[oN (EO q)];exact(hA r q).app
  ·rw[xI hb' q qt];obtain⟨s1,s2,s3,s4⟩:=hws _ qt
   by_cases e:(aF T (r.1-b,r.2)).1=0
   ·exfalso;have e2:=r1s _ s2 e;rw[e2]at s3;apply n2;rw[s3];exact eU (by show r.1=r.1-b+b;omega) rfl
   ·have s20:0≤(aF T (r.1-b,r.2)).1:=s2.1;refine(ak.mZ hb').2 (.inr ⟨by show(xs.length:Int)≤(aF T (r.1-b,r.2)).1+b;omega,?_⟩);rw[show(((aF T (r.1-b,r.2)).1+b,(aF T (r.1-b,r.2)).2):aJ).1-b=(aF T (r.1-b,r.2)).1 by show(aF T (r.1-b,r.2)).1+b-b=_;omega];exact s2
end
end Go.Tr
namespace Go.Tr
open Go Go.RowKit
abbrev Gone(kv:List (Int×Bool)):Int→Prop:=fun i=>bM false kv i=true
theorem R4(kv:List (Int×Bool))(ks:List Int)(i:Int):Gone (mD kv ks) i↔Gone kv i∨i∈ks:=by
 unfold mD Gone
 induction ks generalizing kv with
 |nil=>simp
 |cons k ks ih=>
  rw[List.foldl_cons,ih,yw,List.mem_cons]
  by_cases h:k=i
  ·rw[if_pos h];simp[h]
  ·rw[if_neg h];constructor
   ·rintro(h1|h1)
    ·exact .inl h1
    ·exact .inr (.inr h1)
   ·rintro(h1|h1|h1)
    ·exact .inl h1
    ·exact absurd h1.symm h
    ·exact .inr h1
theorem ZY{kv:List (Int×Bool)}(hT:∀e∈kv,e.2=true)(ks:List Int):∀e∈mD kv ks,e.2=true:=by
 unfold mD
 induction ks generalizing kv with
 |nil=>exact hT
 |cons k ks ih=>rw[List.foldl_cons];exact ih (Jz hT k)
structure BkV(bk:List (List NAgent)):Prop extends BkW bk where
 rt:∀v:Int,0≤v→v<(bk.length:Nat)→∀i:Int,0<i→i<((bR bk v).length:Nat)→(ah (bR bk v) i).1≠1
structure Twin(kv:List (Int×Bool))(xs ys:List NAgent):Prop where
 st:St (Gone kv) xs ys
 wf:IV (Gone kv) xs
 dl:∀i,Gone kv i→0≤i∧i<(xs.length:Nat)
 hole:∀i,Gone kv i→Kj i ys
 r1:(ah xs 0).1=1
 r0:¬Gone kv 0
 rl:0<xs.length
 uq:∀i:Int,0<i→i<(xs.length:Nat)→¬Gone kv i→(ah xs i).1≠1
 kt:∀e∈kv,e.2=true
 kl:kv.length=mM kv xs.length
 al:bG xs
section
variable {kv:List (Int×Bool)}{xs ys:List NAgent}{a b x y c:Int}{bk:List (List NAgent)}
theorem Twin.len(h:Twin kv xs ys):xs.length=ys.length:=h.st.ag.1
theorem Twin.at_(h:Twin kv xs ys){i:Int}(h0:0≤i)(h1:i<(xs.length:Nat))(hd:¬Gone kv i):ah ys i=ah xs i:=(h.st.ag.2 i h0 h1 hd).symm
theorem Twin.p0(h:Twin kv xs ys):ak xs (0,0):=by
 have w:=h.wf 0 (Int.le_refl 0) (by have:=h.rl;omega) h.r0;have:=(fZ w).2.2.2;exact⟨Int.le_refl 0,by have:=h.rl;show(0:Int)<_;omega,Int.le_refl 0,by show(0:Int)<((ah xs 0).2.2.2.2.length:Nat);omega⟩
theorem Twin.p0y(h:Twin kv xs ys):ak ys (0,0):=(h.st.ag.port h.p0 h.r0).1
theorem Twin.I6(h:Twin kv xs ys):bG ys:=fun p hp=>by
 by_cases hd:Gone kv p.1
 ·have e:=(h.hole _ hd).2;obtain⟨_,_,h3,h4⟩:=hp;rw[e]at h4;have:p.2<((0:Nat):Int):=h4;omega
 ·have hpx:ak xs p:=by
   obtain⟨h1,h2,h3,h4⟩:=hp;rw[←h.len]at h2;rw[h.at_ h1 h2 hd]at h4;exact⟨h1,h2,h3,h4⟩
  obtain⟨_,k2,_,_⟩:=h.st.wi p ⟨hpx,hd⟩;rw[(h.st.ag.port hpx hd).2];exact(h.st.ag.port k2.1 k2.2).1
theorem Twin.live(h:Twin kv xs ys):bU ys ys.length+kv.length=xs.length:=by
 rw[h.kl,h.len];refine Ld _ fun i hi=> ?_
 constructor
 ·intro e;cases hk:bM false kv (i:Nat)with
  |true=>rfl
  |false=>
   have hd:¬Gone kv (i:Nat):=fun e=>by
    have e':bM false kv (i:Nat)=true:=e;rw[hk]at e';cases e'
   have hl:=h.len;have w:=J9 (h.wf (i:Nat) (by omega) (by omega) hd);rw[h.at_ (by omega) (by omega) hd]at e;omega
 ·intro e;rw[(h.hole _ e).2];rfl
theorem nI.symm{D:Int→Prop}(k:nI D xs a b)(h:St D xs ys):nI D xs b a:=by
 obtain⟨_,_,h3,_⟩:=h.wi (a,0) ⟨k.px,k.lx⟩;rw[k.w]at h3;exact⟨k.ne.symm,k.ly,k.lx,k.py,k.px,h3⟩
theorem nI.first{D:Int→Prop}(k:nI D xs a b)(h:St D xs ys):nI D xs (firstS xs a b).1 (firstS xs a b).2:=by
 unfold firstS;cases bn (ah xs a).1 (ah xs a).2.1 (ah xs b).1 (ah xs b).2.1==2
 ·exact k
 ·exact k.symm h
theorem gu{u:NAgent}(w:Wf u):0<u.2.2.2.2.length∧u.2.2.2.2.length≤4:=by
 have k:=J9 w;obtain⟨x1,x2,x3,x4⟩:=uV w;refine⟨(fZ w).2.2.2,?_⟩
 by_cases h9:u.1=9
 ·exact(x4 h9).2
 ·by_cases h1:u.1=1∨u.1=5∨u.1=6∨u.1=12
  ·rw[x1 h1];decide
  ·by_cases h2:u.1=8∨u.1=10∨u.1=11
   ·rw[x2 h2];decide
   ·rw[x3 (by omega)];decide
theorem OG(wx:Wf (ah xs x))(wy:Wf (ah xs y))(hx:0≤x∧x<(xs.length:Nat))(hy:0≤y∧y<(xs.length:Nat))(hr:rule (ah xs x).1 (ah xs x).2.1 (ah xs y).1 (ah xs y).2.1=c)(hc:1≤c∧c≤7)
  (h6:(ah xs x).1=9→(ah xs y).1=10→(ah xs x).2.2.1<((ah xs y).2.2.2.1.length:Nat)):IQ xs c x y:=by
 obtain⟨r1,r2,r3,r4,r5,r6,r7⟩:=iN hr (by omega);obtain⟨x1,x2,x3,x4⟩:=uV wx;obtain⟨y1,y2,y3,y4⟩:=uV wy;have sx:=gu wx;have sy:=gu wy;have inx:∀s:Int,0≤s→s<((ah xs x).2.2.2.2.length:Nat)→ak xs (x,s):=fun s h0 h1=>⟨hx.1,hx.2,h0,h1⟩
 have iny:∀s:Int,0≤s→s<((ah xs y).2.2.2.2.length:Nat)→ak xs (y,s):=fun s h0 h1=>⟨hy.1,hy.2,h0,h1⟩
 refine⟨⟨hx,hy,fun e=> ?_,fun e=> ?_,by omega,by omega,by have:=wf_data wy;omega,fun e=> ?_,fun e=> ?_⟩,fun e=>(r5 e).2,fun e=> ?_⟩
 ·have kx:(ah xs x).2.2.2.2.length=3:=x3 (by rcases e with e|e;(have:=r1 e;omega);(have:=r2 e;omega));have ky:(ah xs y).2.2.2.2.length=3:=y3 (by rcases e with e|e;(have:=r1 e;omega);(have:=r2 e;omega));exact⟨inx 1 (by decide) (by omega),inx 2 (by decide) (by omega),iny 1 (by decide) (by omega),iny 2 (by decide) (by omega)⟩
 ·have kx:(ah xs x).2.2.2.2.length=3:=x3 (by have:=r3 e;omega);exact⟨inx 1 (by decide) (by omega),inx 2 (by decide) (by omega)⟩
 ·obtain⟨a1,a2⟩:=r5 e;refine⟨?_,fun k7=> ?_,fun k7=> ?_⟩
  ·rcases a2 with q|q
   ·exact iny 1 (by decide) (by rw[y3 (by omega)];decide)
   ·exact iny 1 (by decide) (by rw[y2 (by omega)];decide)
  ·exact iny 2 (by decide) (by rw[y3 (by omega)];decide)
  ·have:=(U2 wy (by omega)).1;omega
 ·refine⟨?_,fun k6=> ?_,fun k6=> ?_⟩
  ·exact iny 1 (by decide) (by rw[y2 (by have:=r6 e;omega)];decide)
  ·exact(F8 wy (by have:=r6 e;omega)).1
  ·have q:=r6 e;have k9:(ah xs x).1=9:=by omega
   exact⟨(F7 wx k9).1,h6 k9 (by omega)⟩
 ·have q:=r6 e;refine⟨fun k=>(F8 wy k).1,fun k=> ?_⟩;have k9:(ah xs x).1=9:=by omega
  exact⟨(F7 wx k9).1,h6 k9 (by omega),k9⟩
theorem vv(h:iJ (ah xs x) (ah xs y)=false):(ah xs x).1=9→(ah xs y).1=10→(ah xs x).2.2.1<((ah xs y).2.2.2.1.length:Nat):=fun h9 h10=>by
 unfold iJ at h;rw[show((ah xs x).1==9)=true by simpa using h9,show((ah xs y).1==10)=true by simpa using h10]at h;simp only[cond_true,decide_eq_false_iff_not]at h;omega
theorem Qs(hy:(ah xs y).1≠1)(hc:1≤c∧c≤7)(hb:BkV bk)(h7:c=7→(0≤(ah xs x).2.2.1∧(ah xs x).2.2.1<(bk.length:Nat))):∀z∈uK bk xs c x y,z.1≠1:=by
 have hcs:c=1∨c=2∨c=3∨c=4∨c=5∨c=6∨c=7:=by omega
 intro z hz;rcases hcs with rfl|rfl|rfl|rfl|rfl|rfl|rfl
 ·cases hz
 ·cases hz
 ·have hz':z∈[nG xs y]++[nG xs y]++List.replicate ((ah xs y).2.2.2.2.length-1) (bD 4 (ah xs x).2.1 0 [] 3):=hz;rw[List.mem_append,List.mem_append,List.mem_singleton]at hz';rcases hz' with(e|e)|e
  ·rw[e];exact hy
  ·rw[e];exact hy
  ·rw[List.eq_of_mem_replicate e];intro k;cases k
 ·have hz':z∈List.replicate ((ah xs y).2.2.2.2.length-1) (bD 5 0 0 [] 1):=hz;rw[List.eq_of_mem_replicate hz'];intro k;cases k
 ·have hz':z∈(bif (ah xs y).1==7 then[bD 8 (ah xs y).2.1 (ah xs y).2.2.1 [(ah xs x).2.2.1] 2]else[bD 6 0 (xG (ah xs y).2.2.1 (jC (ah xs y).2.2.2.1 0) (ah xs x).2.2.1) [] 1]):=hz;cases hk:(ah xs y).1==7 with
  |true=>rw[hk,cond_true,List.mem_singleton]at hz';rw[hz'];intro k;cases k
  |false=>rw[hk,cond_false,List.mem_singleton]at hz';rw[hz'];intro k;cases k
 ·have hz':z∈(bif (ah xs x).1==6 then[bD 12 (ah xs y).2.1 (jC (ah xs y).2.2.2.1 (bif (ah xs x).2.2.1==0 then 1 else 0)) [] 1]
   else[bD 12 (ah xs y).2.1 (jC (ah xs y).2.2.2.1 (ah xs x).2.2.1) [] 1]++List.replicate ((ah xs x).2.2.2.2.length-1) (bD 3 (ah xs y).2.1 0 [] 3)):=hz
  cases hk:(ah xs x).1==6 with
  |true=>rw[hk,cond_true,List.mem_singleton]at hz';rw[hz'];intro k;cases k
  |false=>
   rw[hk,cond_false,List.mem_append,List.mem_singleton]at hz';rcases hz' with e|e
   ·rw[e];intro k;cases k
   ·rw[List.eq_of_mem_replicate e];intro k;cases k
 ·obtain⟨v0,v1⟩:=h7 rfl;have hz':z∈((nC bk xs x).drop 1).map (dA ((xs.length:Nat)-1)):=hz;obtain⟨w,hw,rfl⟩:=List.mem_map.1 hz';unfold nC dh at hw;rw[←List.map_drop]at hw;obtain⟨u,hu,rfl⟩:=List.mem_map.1 hw;obtain⟨i,hi,rfl⟩:=List.mem_iff_getElem.1 hu;have hrt:=hb.rt _ v0 v1;generalize bR bk (ah xs x).2.2.1=t at*;rw[List.length_drop]at hi;rw[List.getElem_drop];have:=hrt ((1+i:Nat):Int) (by omega) (by omega);rw[wP (by omega)]at this;show(jq _ t[1+i]).1≠1;unfold jq;cases bW (t[1+i]).kind
  ·exact this
  ·exact this
theorem Twin.next(h:Twin kv xs ys)(k:nI (Gone kv) xs x y)(hb:BkV bk)(rx:(ah xs x).1≠1)(ry:(ah xs y).1≠1)(hr:rule (ah xs x).1 (ah xs x).2.1 (ah xs y).1 (ah xs y).2.1=c)(hc:1≤c∧c≤7)(hcl:iJ (ah xs x) (ah xs y)=false)
  (h7:c=7→(ah xs x).2.2.1<(bk.length:Nat)∧fV (ah xs x).2.1 (bR bk (ah xs x).2.2.1)=true):IQ xs c x y∧IQ ys c x y∧(c=7→0≤(ah xs x).2.2.1)∧Twin (mD kv (gH c x y)) (gZ bk xs c x y) (gG bk ys c x y)∧(gZ bk xs c x y).length=xs.length+(uK bk xs c x y).length:=by
 have hx:0≤x∧x<(xs.length:Nat):=⟨k.px.1,k.px.2.1⟩;have hy:0≤y∧y<(xs.length:Nat):=⟨k.py.1,k.py.2.1⟩;have wx:=h.wf x hx.1 hx.2 k.lx;have wy:=h.wf y hy.1 hy.2 k.ly;have sp:=OG wx wy hx hy hr hc (vv hcl);have ex:=h.at_ hx.1 hx.2 k.lx;have ey:=h.at_ hy.1 hy.2 k.ly;have sy:IQ ys c x y:=OG (by rw[ex];exact wx) (by rw[ey];exact wy) (by rw[←h.len];exact hx) (by rw[←h.len];exact hy) (by rw[ex,ey];exact hr) hc (vv (by rw[ex,ey];exact hcl));have v0:c=7→0≤(ah xs x).2.2.1:=fun e=>(uW wx ((iN hr (by omega)).2.2.2.2.2.2 e).1).1
 have sg:=He (bk:=bk) (xs:=xs) (x:=x) (y:=y) hc (by omega);have hln:(gZ bk xs c x y).length=xs.length+(uK bk xs c x y).length:=by rw[sg.1,List.length_append]
 have gr:∀i,Gone (mD kv (gH c x y)) i↔Gone kv i∨i∈gH c x y:=fun i=>R4 kv _ i
 have ge:Gone (mD kv (gH c x y))=fun i=>Gone kv i∨i∈gH c x y:=funext fun i=>propext (gr i)
 have gxy:∀i,i∈gH c x y→i=x∨i=y:=fun i hi=>by
  unfold gH at hi;cases hq:c==7 with
  |true=>rw[hq,cond_true,List.mem_singleton]at hi;exact .inl hi
  |false=>rw[hq,cond_false]at hi;simpa using hi
 have nx:x≠0:=fun e=>rx (by rw[e];exact h.r1)
 have ny:y≠0:=fun e=>ry (by rw[e];exact h.r1)
 have ksig:∀i:Int,0≤i→i<(xs.length:Nat)→(ah (gZ bk xs c x y) i).1=(ah xs i).1:=fun i i0 i1=>by
  have:=sg.2 i i0 (by rw[hln];omega);rw[dJ (by omega)]at this;exact congrArg (fun s:Int×Int×Int×List Int×Nat=>s.1) this
 refine⟨sp,sy,v0,?_,hln⟩;refine⟨?_,?_,?_,?_,?_,?_,by omega,?_,ZY h.kt _,?_,VH sp.toIntPre h.al h.p0 hc hb.toBkW fun e=>⟨v0 e,(h7 e).1⟩⟩
 ·rw[ge];exact Sn h.st k (fun i hi=>(h.dl i hi).2) h.wf hr hc hb.toBkW fun e=>(h7 e).1
 ·rw[ge];exact Sq h.wf hx hy k.lx k.ly hr hc hb.toBkW (fun e e9=>by
   have q:=(iN hr (by omega)).2.2.2.2.2.1 e;exact vv hcl e9 (by omega)) h7
 ·intro i hi;rcases(gr i).1 hi with e|e
  ·have:=h.dl i e;omega
  ·rcases gxy i e with e|e<;>omega
 ·intro i hi;unfold gG;have hl:=h.len;have hle:=G9 (xs:=ys) bk c x y;have n1:Kj x (bE (iE bk ys c x y) x):=Kj.new hx.1 (by omega);have n2:Kj y (bE (bE (iE bk ys c x y) x) y):=Kj.new hy.1 (by rw[fD];omega);rcases(gr i).1 hi with e|e
  ·have q:=(h.hole i e).inter bk c x y;cases c==7
   ·exact(q.drop x).drop y
   ·exact q.drop x
  ·unfold gH at e;cases hq:c==7 with
   |true=>rw[hq,cond_true,List.mem_singleton]at e;rw[e];exact n1
   |false=>
    rw[hq,cond_false]at e;have e2:i=x∨i=y:=by simpa using e
    rcases e2 with e2|e2
    ·rw[e2];exact n1.drop y
    ·rw[e2];exact n2
 ·rw[ksig 0 (Int.le_refl 0) (by have:=h.rl;omega)];exact h.r1
 ·intro e;rcases(gr 0).1 e with e|e
  ·exact h.r0 e
  ·rcases gxy 0 e with e|e
   ·exact nx e.symm
   ·exact ny e.symm
 ·intro i i0 i1 hi;have hi2:¬Gone kv i:=fun e=>hi ((gr i).2 (.inl e))
  by_cases hl:i<(xs.length:Nat)
  ·rw[ksig i (by omega) hl];exact h.uq i i0 hl hi2
  ·have:=sg.2 i (by omega) i1;have hlt:i.toNat-xs.length<(uK bk xs c x y).length:=by omega
   have e:ah (xs++uK bk xs c x y) i=(uK bk xs c x y)[i.toNat-xs.length]:=by
    unfold ah elt;rw[List.getD_eq_getElem?_getD,List.getElem?_append_right (by omega),List.getElem?_eq_getElem hlt];rfl
   rw[e]at this;have k1:(ah (gZ bk xs c x y) i).1=((uK bk xs c x y)[i.toNat-xs.length]).1:=congrArg (fun s:Int×Int×Int×List Int×Nat=>s.1) this;rw[k1];exact Qs ry hc hb (fun e=>⟨v0 e,(h7 e).1⟩) _ (List.getElem_mem hlt)
 ·have gf:∀{kv:List (Int×Bool)} {i:Int},¬Gone kv i→bM false kv i=false:=fun {kv i} hi=>by
   cases hq:bM false kv i with
   |true=>exact absurd hq hi
   |false=>rfl
  have c1:mM (gL kv x true) xs.length=mM kv xs.length+1:=by rw[Bl hx.1 (gf k.lx),if_pos hx.2]
  have l1:(gL kv x true).length=kv.length+1:=uF h.kt (gf k.lx);have y1:bM false (gL kv x true) y=false:=by rw[yw,if_neg k.ne];exact gf k.ly
  have c2:mM (gL (gL kv x true) y true) xs.length=mM kv xs.length+2:=by rw[Bl hy.1 y1,if_pos hy.2,c1]
  have l2:(gL (gL kv x true) y true).length=kv.length+2:=by rw[uF (Jz h.kt x) y1,l1]
  have hn:∀i:Int,(xs.length:Int)≤i→bM false (mD kv (gH c x y)) i=false:=fun i hi=>gf fun e=>by
   rcases(gr i).1 e with e|e
   ·have:=h.dl i e;omega
   ·rcases gxy i e with e|e<;>omega
  rw[hln,Bj hn];have hk:=h.kl;unfold gH;cases c==7
  ·show(gL (gL kv x true) y true).length=mM (gL (gL kv x true) y true) xs.length;omega
  ·show(gL kv x true).length=mM (gL kv x true) xs.length;omega
end
end Go.Tr
namespace Go.Tr
open Go Go.RowKit
structure Mq(bk:List (List NAgent)):Prop extends BkV bk where
 tl:∀v:Int,0≤v→v<(bk.length:Nat)→(bR bk v).length≤600
 bl:bk.length≤1000
section
variable {bk:List (List NAgent)}
theorem Ky{v:Int}(h:¬(0≤v∧v<(bk.length:Nat)))(h0:0≤v):bR bk v=[]:=by
 unfold bR elt;rw[List.getD_eq_getElem?_getD,List.getElem?_eq_none (by omega)];rfl
theorem o7{xs:List NAgent}{i:Nat}(h:xs.length≤i):ah xs (i:Nat)=dflt uAgent:=by
 unfold ah elt;rw[List.getD_eq_getElem?_getD,Int.toNat_natCast,List.getElem?_eq_none h];rfl
theorem Mq.len(h:Mq bk)(v:Nat):(bR bk (v:Nat)).length≤600:=by
 by_cases hv:0≤((v:Nat):Int)∧((v:Nat):Int)<(bk.length:Nat)
 ·exact h.tl _ hv.1 hv.2
 ·rw[Ky hv (by omega)];decide
theorem Mq.ag(h:Mq bk)(v j:Nat):(0≤(ah (bR bk (v:Nat)) (j:Nat)).2.1∧(ah (bR bk (v:Nat)) (j:Nat)).2.1≤8)∧(ah (bR bk (v:Nat)) (j:Nat)).2.2.2.1.length≤4∧(ah (bR bk (v:Nat)) (j:Nat)).2.2.2.2.length≤4:=by
 by_cases hv:0≤((v:Nat):Int)∧((v:Nat):Int)<(bk.length:Nat)
 ·by_cases hj:j<(bR bk (v:Nat)).length
  ·have w:=h.wf _ hv.1 hv.2 (j:Nat) (by omega) (by omega);have h1:=xP w;exact⟨by omega,wf_data w,(gu w).2⟩
  ·rw[o7 (by omega)];decide
 ·rw[Ky hv (by omega),o7 (Nat.zero_le _)];decide
theorem Mq.small(h:Mq bk)(v:Nat):NetSmall (bR bk (v:Nat)):=by
 refine⟨by have:=h.len v;omega,fun i=> ?_⟩;have:=(h.ag v i).2;exact⟨by show(ah (bR bk (v:Nat)) (i:Nat)).2.2.2.1.length≤1048576;omega,by show(ah (bR bk (v:Nat)) (i:Nat)).2.2.2.2.length≤1048576;omega⟩
theorem Mq.ok(h:Mq bk):IG bk:=fun v j=>(h.ag v j).1
theorem Uk{t:List NAgent}(hw:iH (fun p=>ak t p) t)(hl:t.length≤600)(i j:Nat):tY (elt (dflt uPort) (ah t (i:Nat)).2.2.2.2 (j:Nat)).1:=by
 by_cases hi:i<t.length
 ·by_cases hj:j<(ah t (i:Nat)).2.2.2.2.length
  ·obtain⟨_,h2,_⟩:=hw ((i:Nat),(j:Nat)) ⟨by show(0:Int)≤(i:Nat);omega,by show((i:Nat):Int)<(t.length:Nat);omega,by show(0:Int)≤(j:Nat);omega,by show((j:Nat):Int)<((ah t (i:Nat)).2.2.2.2.length:Nat);omega⟩;have h3:0≤(elt (dflt uPort) (ah t (i:Nat)).2.2.2.2 (j:Nat)).1:=h2.1;have h4:(elt (dflt uPort) (ah t (i:Nat)).2.2.2.2 (j:Nat)).1<(t.length:Nat):=h2.2.1;have h5:((t.length:Nat):Int)≤1000000:=by omega
   exact⟨h3,Int.le_trans (Int.le_of_lt h4) h5⟩
  ·unfold elt;rw[List.getD_eq_getElem?_getD,Int.toNat_natCast,List.getElem?_eq_none (by omega)];exact⟨by decide,by decide⟩
 ·rw[o7 (by omega)];have e:elt (dflt uPort) (dflt uAgent).2.2.2.2 ((j:Nat):Int)=(0,0):=rfl;rw[e];exact⟨by decide,by decide⟩
structure ExpF(t xs:List NAgent)(lv b:Int):Prop where
 two:2≤t.length
 r0:ak t (0,0)
 rs:ak (dh lv t) (0,0)
 top:ak (xs++((dh lv t).drop 1).map (dA b)) ((aF (dh lv t) (0,0)).1+b,(aF (dh lv t) (0,0)).2)
 pe:aF (dh lv t) (0,0)=aF t (0,0)
 ex:jK lv b t (t.length-1)=((dh lv t).drop 1).map (dA b)
 bt:∀i j:Nat,tY (elt (dflt uPort) (ah t (i:Nat)).2.2.2.2 (j:Nat)).1
 bs:∀i j:Nat,tY (elt (dflt uPort) (ah (dh lv t) (i:Nat)).2.2.2.2 (j:Nat)).1
 ps:∀i:Nat,(ah (dh lv t) (i:Nat)).2.2.2.2.length≤1048576
theorem Mq.exp(h:Mq bk){v:Int}(v0:0≤v)(v1:v<(bk.length:Nat))(xs:List NAgent)(lv b:Int)(hb:b=(xs.length:Int)-1)(hx:0<xs.length):ExpF (bR bk v) xs lv b:=by
 have hw:=h.wi _ v0 v1;have r0:=h.r0 _ v0 v1;have r1:=h.r1 _ v0 v1;have hl:=h.tl _ v0 v1
 have hps:∀i:Nat,(ah (bR bk v) (i:Nat)).2.2.2.2.length≤4:=fun i=>by
  have:=(h.ag v.toNat i).2.2
  rwa[show((v.toNat:Nat):Int)=v by omega]at this
 generalize bR bk v=t at*;have hws:iH (fun p=>ak (dh lv t) p) (dh lv t):=hw.shift;obtain⟨q1,q2,q3,q4⟩:=hw (0,0) r0
 have rpos:1≤(aF t (0,0)).1:=by
  have h1:0≤(aF t (0,0)).1:=q2.1
  by_cases e:(aF t (0,0)).1=0
  ·exact absurd (r1 _ q2 e) q4
  ·omega
 have ps:aF (dh lv t) (0,0)=aF t (0,0):=pE r0;refine⟨?_,r0,ak.jI.2 r0,?_,ps,?_,Uk hw hl,Uk hws (by rw[mI];exact hl),fun i=> ?_⟩
 ·have:=q2.2.1;omega
 ·rw[ps]
  exact(ak.mZ hb).2 (.inr ⟨by show(xs.length:Int)≤(aF t (0,0)).1+b;omega,ak.jI.2 (by
   rw[show(((aF t (0,0)).1+b,(aF t (0,0)).2):aJ).1-b=(aF t (0,0)).1 by show(aF t (0,0)).1+b-b=_;omega];exact q2)⟩)
 ·unfold jK;rw[List.take_of_length_le (by rw[List.length_drop,mI];omega)]
 ·by_cases hi:i<t.length
  ·rw[uZ lv t (by omega) (by omega),show(jq lv (ah t (i:Nat))).2.2.2.2=(ah t (i:Nat)).2.2.2.2 from qN _ _];have:=hps i;show(ah t (i:Nat)).2.2.2.2.length≤1048576;omega
  ·rw[o7 (by rw[mI];omega)];decide
theorem MI(u v:NAgent):bP v u=bP u v:=by
 have h1:iJ v u=nO u v:=by
  unfold iJ nO;cases u.1==10<;>cases v.1==9<;>rfl
 have h2:nO v u=iJ u v:=by
  unfold iJ nO;cases u.1==9<;>cases v.1==10<;>rfl
 unfold bP;rw[h1,h2,yU];cases nO u v<;>cases iJ u v<;>rfl
theorem qF(xs:List NAgent)(a b:Int):bP (ah xs (firstS xs a b).1) (ah xs (firstS xs a b).2)=bP (ah xs a) (ah xs b):=by
 unfold firstS;cases bn (ah xs a).1 (ah xs a).2.1 (ah xs b).1 (ah xs b).2.1==2
 ·rfl
 ·exact MI _ _
theorem Li{xs:List NAgent}{c x y:Int}(hb:Mq bk)(hy:(ah xs y).2.2.2.2.length≤4)(hx:(ah xs x).2.2.2.2.length≤4)(h7:c=7→0≤(ah xs x).2.2.1∧(ah xs x).2.2.1<(bk.length:Nat)):(uK bk xs c x y).length≤600:=by
 unfold uK;cases c==3
 case true=>simp only[cond_true,List.length_append,List.length_cons,List.length_nil,List.length_replicate];omega
 cases c==4
 case true=>simp only[cond_true,cond_false,List.length_replicate];omega
 cases c==5
 case true=>cases (ah xs y).1==7<;>simp
 cases c==6
 case true=>
  cases (ah xs x).1==6
  ·simp only[cond_true,cond_false,List.length_append,List.length_cons,List.length_nil,List.length_replicate];omega
  ·simp
 cases h:c==7
 ·simp
 ·obtain⟨v0,v1⟩:=h7 (by simpa using h);have:=hb.tl _ v0 v1;simp only[cond_true,cond_false,List.length_map,List.length_drop,nC,mI];omega
end
end Go.Tr
namespace Go.Tr
open Go Go.RowKit
abbrev Kg:=Int×Int×Int×List Int×Nat
def toA(s:Kg):NAgent:=(s.1,s.2.1,s.2.2.1,s.2.2.2.1,List.replicate s.2.2.2.2 (0,0))
theorem fG.maps{xs ys:List NAgent}(h:fG xs ys):xs.map sig=ys.map sig:=by
 apply List.ext_getElem?;intro i;rw[List.getElem?_map,List.getElem?_map]
 by_cases hi:i<xs.length
 ·have:=h.2 (i:Nat) (by omega) (by omega);have hj:i<ys.length:=by rw[←h.1];exact hi
  rw[wP hi,wP hj]at this;rw[List.getElem?_eq_getElem hi,List.getElem?_eq_getElem hj,Option.map_some,Option.map_some,this]
 ·rw[List.getElem?_eq_none (by omega),List.getElem?_eq_none (by rw[←h.1];omega)]
def Xa(bk:List (List NAgent))(c:Int)(u v:NAgent):List NAgent:=uK bk [u,v] c 0 1
section
variable {bk:List (List NAgent)}{xs:List NAgent}{x y c:Int}{u v u' v' a b:NAgent}
def nwA(bk:List (List NAgent))(a b:NAgent):List Kg:=bif bn a.1 a.2.1 b.1 b.2.1==2 then(Xa bk (bP a b) b a).map sig else(Xa bk (bP a b) a b).map sig
structure Duo(a b:NAgent):Prop where
 wa:Wf a
 wb:Wf b
 ra:a.1≠1
 rb:b.1≠1
 ok:bP a b≠8
end
def sgAt(s:List Kg)(i:Int):Kg:=s.getD i.toNat (0,0,0,[],0)
def QW(s:List Kg)(i:Int):NAgent:=toA (sgAt s i)
inductive sQ(bk:List (List NAgent)):List Kg→List bX→List Kg→Prop
 |done (s:List Kg):sQ bk s [] s
 |step {s:List Kg} {e:bX} {es:List bX} {s':List Kg} (h0:0≤e.1) (hlt:e.1<e.2.1) (h1:e.2.1<((s.length:Nat):Int)) (hf:e.2.2.2.1=((s.length:Nat):Int))
  (hn:e.2.2.2.2=(((nwA bk (QW s e.1) (QW s e.2.1)).length:Nat):Int)) (hw:Duo (QW s e.1) (QW s e.2.1)) (r:sQ bk (s++nwA bk (QW s e.1) (QW s e.2.1)) es s'):sQ bk s (e::es) s'
end Go.Tr
namespace Go.Tr
open Go Go.RowKit
def gN(xs:List NAgent):GNet:=⟨xs.map gA⟩
theorem VD(xs:List NAgent):(xs.map gA).flatMap aA.enc=List.flatMap (enc uAgent) xs:=by
 induction xs with
 |nil=>rfl
 |cons x l ih=>rw[List.map_cons,List.flatMap_cons,List.flatMap_cons,ih,RY]
theorem Ep(xs:List NAgent):(gN xs).enc=enc uNet xs:=by
 show[D.sl (xs.map gA).length ((xs.map gA).flatMap aA.enc)]=[D.sl _ _];rw[VD,List.length_map]
theorem R3(bk:List (List NAgent)):(bk.map gN).flatMap GNet.enc=List.flatMap (enc uNet) bk:=by
 induction bk with
 |nil=>rfl
 |cons x l ih=>rw[List.map_cons,List.flatMap_cons,List.flatMap_cons,ih,Ep]
theorem OB(xs:List NAgent)(i:Nat):iB (xs.map gA) i=gA (ah xs (i:Nat)):=by
 unfold iB ah elt;rw[Int.toNat_natCast,List.getD_eq_getElem?_getD,List.getD_eq_getElem?_getD,List.getElem?_map];cases xs[i]? <;>rfl
def gP(p:aJ):aG:=⟨p.1,p.2⟩
theorem WT(ps:List aJ)(k:Nat):jT (ps.map gP) k=gP (elt (dflt uPort) ps (k:Nat)):=by
 unfold jT elt;rw[Int.toNat_natCast,List.getD_eq_getElem?_getD,List.getD_eq_getElem?_getD,List.getElem?_map];cases ps[k]? <;>rfl
theorem Eo(a:NAgent):(gA a).ports=a.2.2.2.2.map gP:=rfl
theorem XW{p q:aJ}(h:gP p=gP q):p=q:=by
 have h1:=congrArg aG.agent h;have h2:=congrArg aG.slot h;exact Prod.ext h1 h2
theorem Ni{xs:List NAgent}{p:aJ}(h:iM (xs.map gA) (gP p)=true):ak xs p:=by
 unfold iM at h;rw[Bool.and_eq_true,OB,Eo]at h;have h1:=jY h.1;have h2:=jY h.2;rw[List.length_map]at h1 h2;have e1:(gP p).agent=p.1:=rfl;have e2:(gP p).slot=p.2:=rfl;rw[e1]at h1 h2;rw[e2]at h2;have e3:((p.1.toNat:Nat):Int)=p.1:=by omega
 rw[e3]at h2;exact⟨by omega,by omega,by omega,by show p.2<((ah xs p.1).2.2.2.2.length:Nat);omega⟩
structure Dz(xs:List NAgent):Prop where
 l1:1≤xs.length
 l2:xs.length≤600
 wf:∀i:Int,0≤i→i<(xs.length:Nat)→Wf (ah xs i)
 rt:∀i:Int,0≤i→i<(xs.length:Nat)→((ah xs i).1=1↔i=0)
 wi:iH (fun p=>ak xs p) xs
theorem OP{xs:List NAgent}(h:iT (gN xs)=true):Dz xs:=by
 unfold iT at h;have hag:(gN xs).agents=xs.map gA:=rfl;rw[Bool.and_eq_true,hag,List.length_map]at h;obtain⟨h1,h2⟩:=h;unfold fP at h1;rw[Bool.and_eq_true,List.length_map]at h1;obtain⟨h3,h4⟩:=h1;have h3:=jY h3;have ha:∀i:Nat,i<xs.length→iC (xs.map gA) i=true:=fun i hi=>kL h4 hi
 have hk:∀i:Nat,i<xs.length→Wf (ah xs (i:Nat))∧((ah xs (i:Nat)).1=1↔i=0):=fun i hi=>by
  have:=ha i hi;unfold iC at this;rw[OB,Bool.and_eq_true]at this;refine⟨this.1,?_⟩;have h5:=this.2;have e:(gA (ah xs (i:Nat))).kind=(ah xs (i:Nat)).1:=rfl;rw[e,beq_iff_eq,Bool.eq_iff_iff,beq_iff_eq,beq_iff_eq]at h5;omega
 refine⟨by omega,by omega,fun i h0 h1=> ?_,fun i h0 h1=> ?_,?_⟩
 ·have:=(hk i.toNat (by omega)).1
  rwa[show((i.toNat:Nat):Int)=i by omega]at this
 ·have:=(hk i.toNat (by omega)).2;rw[show((i.toNat:Nat):Int)=i by omega]at this;rw[this];omega
 ·rintro⟨a,s⟩ ⟨p1,p2,p3,p4⟩;have q1:0≤a:=p1;have q2:a<(xs.length:Nat):=p2;have q3:0≤s:=p3;have q4:s<((ah xs a).2.2.2.2.length:Nat):=p4;have ea:((a.toNat:Nat):Int)=a:=by omega
  have es:((s.toNat:Nat):Int)=s:=by omega
  have hw:qO (xs.map gA) a.toNat=true:=kL h2 (by omega);unfold qO at hw;rw[OB,ea,Eo,List.length_map]at hw;have hw2:=kL hw (k:=s.toNat) (by omega);unfold qy at hw2;rw[WT,es]at hw2;have ge:(⟨((a.toNat:Nat):Int),((s.toNat:Nat):Int)⟩:aG)=gP (a,s):=by rw[ea,es];rfl
  simp only[Bool.and_eq_true,Bool.not_eq_true']at hw2;obtain⟨⟨w1,w2⟩,w3⟩:=hw2;have w1:=eqb_nf w1;have w3:=eqb_t w3;have hin:=Ni w2;have hpe:aF xs (a,s)=elt (dflt uPort) (ah xs a).2.2.2.2 s:=rfl;rw[←hpe]at w1 w3 hin;refine⟨⟨p1,p2,p3,p4⟩,hin,?_,fun e=>w1 (by rw[e];rfl)⟩;generalize aF xs (a,s)=r at*;unfold sD at w3;have er:(gP r).agent=r.1:=rfl;have er2:(gP r).slot=r.2:=rfl;have hr0:=hin.1;have hr2:=hin.2.2.1;rw[er,er2,OB,Eo,WT,show((r.1.toNat:Nat):Int)=r.1 by omega,show((r.2.toNat:Nat):Int)=r.2 by omega]at w3
  exact XW (q:=(a,s)) w3
theorem Dz.twin{xs:List NAgent}(h:Dz xs):Twin [] xs xs:=by
 have hg:∀i,¬Gone [] i:=fun i e=>by cases e
 have hl1:=h.l1;refine⟨⟨?_,?_,?_⟩,fun i h0 h1 _=>h.wf i h0 h1,fun i e=>absurd e (hg i),fun i e=>absurd e (hg i),(h.rt 0 (Int.le_refl 0) (by omega)).2 rfl,hg 0,h.l1,fun i h0 h1 _ e=> ?_,fun e he=>(by cases he),?_,fun p hp=>(h.wi p hp).2.1⟩
 ·exact⟨rfl,fun _ _ _ _=>rfl⟩
 ·exact h.wi.congr fun p=>⟨fun k=>k.1,fun k=>⟨k,hg _⟩⟩
 ·exact fun p k=>k.2
 ·have:=(h.rt i (by omega) h1).1 e;omega
 ·have:=Bj (kv:=[]) (n:=0) (fun i _=>rfl) xs.length;rw[Nat.zero_add]at this;rw[this];rfl
theorem Rl(bk:List (List NAgent))(k:Nat):ng (bk.map gN) k=gN (bR bk (k:Nat)):=by
 unfold ng bR elt;rw[Int.toNat_natCast,List.getD_eq_getElem?_getD,List.getD_eq_getElem?_getD,List.getElem?_map];cases bk[k]? <;>rfl
theorem Rn{bk:List (List NAgent)}(h:mK (bk.map gN)=true):Mq bk∧bk.length≤24:=by
 unfold mK at h;rw[Bool.and_eq_true,List.length_map]at h
 have hl:bk.length≤24:=by
  have:=of_decide_eq_true h.1;omega
 have hn:∀v:Int,0≤v→v<(bk.length:Nat)→Dz (bR bk v):=fun v h0 h1=>by
  have:=kL h.2 (k:=v.toNat) (by omega);rw[Rl,show((v.toNat:Nat):Int)=v by omega]at this;exact OP this
 refine⟨⟨⟨⟨fun v h0 h1=>(hn v h0 h1).wi,fun v h0 h1=> ?_,fun v h0 h1 p hp e=> ?_,fun v h0 h1=>(hn v h0 h1).wf⟩,fun v h0 h1 i i0 i1 e=> ?_⟩,fun v h0 h1=>(hn v h0 h1).l2,by omega⟩,hl⟩
 ·have N:=hn v h0 h1;have hl1:=N.l1;have:=(gu (N.wf 0 (Int.le_refl 0) (by omega))).1;exact⟨Int.le_refl 0,by show(0:Int)<((bR bk v).length:Nat);omega,Int.le_refl 0,by show(0:Int)<((ah (bR bk v) 0).2.2.2.2.length:Nat);omega⟩
 ·have N:=hn v h0 h1;have hl1:=N.l1;have w:=N.wf 0 (Int.le_refl 0) (by omega);have hk:=(N.rt 0 (Int.le_refl 0) (by omega)).2 rfl;have hp1:=(uV w).1 (.inl hk);obtain⟨_,_,p3,p4⟩:=hp;rw[e]at p4;have p4':p.2<((ah (bR bk v) 0).2.2.2.2.length:Nat):=p4;exact Prod.ext e (by show p.2=0;omega)
 ·have:=((hn v h0 h1).rt i (by omega) i1).1 e;omega
abbrev CK(e:bX):Int:=e.2.2.2.1
abbrev P8(e:bX):Int:=e.2.2.2.2
def Mv:List bX→Int→Int→Int×Int
 |[],_,k=>(-1,k)
 |e::es,i,k=>bif (bif decide (CK e≤k)then decide (k<CK e+P8 e)else false)then(i,k-CK e)else Mv es (i+1) k
theorem I7{e:bX}{es:List bX}{i k:Int}(h1:CK e≤k)(h2:k<CK e+P8 e):Mv (e::es) i k=(i,k-CK e):=by
 unfold Mv;rw[show decide (CK e≤k)=true by simpa using h1,show decide (k<CK e+P8 e)=true by simpa using h2];rfl
theorem zS{e:bX}{es:List bX}{i k:Int}(h:¬(CK e≤k∧k<CK e+P8 e)):Mv (e::es) i k=Mv es (i+1) k:=by
 conv=>lhs;unfold Mv
 cases h1:decide (CK e≤k)with
 |false=>rfl
 |true=>
  cases h2:decide (k<CK e+P8 e)with
  |false=>rfl
  |true=>exact absurd ⟨by simpa using h1,by simpa using h2⟩ h
theorem Ri:∀(es:List bX) (i k:Int),(Mv es i k).1= -1∨(Mv es i k).1<i+(es.length:Nat)
 |[],i,k=>.inl rfl
 |e::es,i,k=>by
  by_cases h:CK e≤k∧k<CK e+P8 e
  ·rw[I7 h.1 h.2];right;show i<i+((es.length+1:Nat):Int);omega
  ·rw[zS h];have:=Ri es (i+1) k;rw[List.length_cons];omega
theorem Kt:∀{es:List bX} {i k:Int},(∀e∈es,¬(CK e≤k∧k<CK e+P8 e))→Mv es i k=(-1,k)
 |[],_,_,_=>rfl
 |e::es,i,k,h=>by
  rw[zS (h e (by simp))];exact Kt fun e' he=>h e' (by simp[he])
theorem Ku:∀{p q:List bX} {i k:Int},(∀e∈p,¬(CK e≤k∧k<CK e+P8 e))→Mv (p++q) i k=Mv q (i+(p.length:Nat)) k
 |[],q,i,k,_=>by rw[List.nil_append];congr 1;simp
 |e::p,q,i,k,h=>by
  rw[List.cons_append,zS (h e (by simp)),Ku fun e' he=>h e' (by simp[he])]
  congr 1
  rw[List.length_cons];omega
section
variable {bk:List (List NAgent)}
theorem sQ.pre{s s':List Kg}{es:List bX}(h:sQ bk s es s'):s<+:s':=by
 induction h with
 |done s=>exact pR _
 |step _ _ _ _ _ _ _ ih=>exact(List.prefix_append _ _).trans ih
theorem sQ.split{s s':List Kg}:∀{p q:List bX},sQ bk s (p++q) s'→∃t,sQ bk s p t∧sQ bk t q s'
 |[],q,h=>⟨s,.done s,h⟩
 |e::p,q,h=>by
  cases h with
  |step h0 hlt h1 hf hn hw r=>
   obtain⟨t,k1,k2⟩:=sQ.split (p:=p) r;exact⟨t,.step h0 hlt h1 hf hn hw k1,k2⟩
theorem sQ.snoc{s t:List Kg}{p:List bX}{e:bX}(h:sQ bk s p t)(h0:0≤e.1)(hlt:e.1<e.2.1)(h1:e.2.1<((t.length:Nat):Int))(hf:e.2.2.2.1=((t.length:Nat):Int))
  (hn:e.2.2.2.2=(((nwA bk (QW t e.1) (QW t e.2.1)).length:Nat):Int)) (hw:Duo (QW t e.1) (QW t e.2.1)):sQ bk s (p++[e]) (t++nwA bk (QW t e.1) (QW t e.2.1)):=by
 induction h with
 |done s=>exact .step h0 hlt h1 hf hn hw (.done _)
 |step g0 glt g1 gf gn gw _ ih=>exact .step g0 glt g1 gf gn gw (ih h1 hf hn hw)
theorem sQ.rng{s s':List Kg}{es:List bX}(h:sQ bk s es s'):∀e∈es,((s.length:Nat):Int)≤CK e∧0≤P8 e∧CK e+P8 e≤((s'.length:Nat):Int):=by
 induction h with
 |done s=>intro e he;cases he
 |step h0 hlt h1 hf hn hw r ih=>
  intro e' he';have hp:=r.pre.length_le;rw[List.length_append]at hp;rcases List.mem_cons.1 he' with rfl|he'
  ·exact⟨by show _≤e'.2.2.2.1;omega,by show 0≤e'.2.2.2.2;omega,by show e'.2.2.2.1+e'.2.2.2.2≤_;omega⟩
  ·have:=ih e' he';rw[List.length_append]at this;omega
theorem sQ.old{s t s':List Kg}{p q:List bX}(h1:sQ bk s p t)(h2:sQ bk t q s'){k:Int}(hk:k<((t.length:Nat):Int)):(Mv (p++q) 0 k).1<((p.length:Nat):Int):=by
 have hq:∀e∈q,¬(CK e≤k∧k<CK e+P8 e):=fun e he hh=>by
  have:=h2.rng e he;omega
 have key:∀(p:List bX) (i:Int),Mv (p++q) i k=Mv p i k:=by
  intro p
  induction p with
  |nil=>intro i;rw[List.nil_append,Kt hq];rfl
  |cons e p ih=>
   intro i;rw[List.cons_append]
   by_cases h:CK e≤k∧k<CK e+P8 e
   ·rw[I7 h.1 h.2,I7 h.1 h.2]
   ·rw[zS h,zS h,ih]
 rw[key];have:=Ri p 0 k;omega
theorem sQ.new{s t:List Kg}{p q:List bX}{e:bX}(h1:sQ bk s p t)(hf:CK e=((t.length:Nat):Int)){j:Int}(j0:0≤j)(j1:j<P8 e):Mv (p++e::q) 0 (CK e+j)=(((p.length:Nat):Int),j):=by
 rw[Ku fun e' he hh=>by have:=h1.rng e' he;omega,Int.zero_add,I7 (by omega) (by omega)]
 congr 1
 omega
end
section
variable {bk:List (List NAgent)}{s0 sa sb:List Kg}{a b:List bX}
end
end Go.Tr
namespace Go.Tr
open Go Go.RowKit
def nH(f:Int→Int)(p:aJ):aJ:=(f p.1,p.2)
def sJ(f:Int→Int)(a:NAgent):NAgent:=(a.1,a.2.1,a.2.2.1,a.2.2.2.1,a.2.2.2.2.map (nH f))
def cK(ys:List NAgent)(i:Nat):Bool:=(ah ys (i:Nat)).1 !=0
def gy(ys:List NAgent):Nat→Nat
 |0=>0
 |k+1=>bif cK ys k then gy ys k+1 else gy ys k
def kY(ys:List NAgent)(x:Int):Int:=((gy ys x.toNat:Nat):Int)
def dZ(ys:List NAgent):Nat→List NAgent
 |0=>[]
 |k+1=>bif cK ys k then dZ ys k++[sJ (kY ys) (ah ys (k:Nat))]else dZ ys k
def packN(ys:List NAgent):List NAgent:=dZ ys ys.length
def fq(kv:List (Int×Bool)):Nat→List Int
 |0=>[]
 |k+1=>bif !(bM false kv ((k:Nat):Int))then fq kv k++[((k:Nat):Int)]else fq kv k
def NJ(ord:List Int):Nat→List (Int×Int)
 |0=>[]
 |i+1=>gL (NJ ord i) (elt 0 ord ((i:Nat):Int)) ((i:Nat):Int)
def PG(ord:List Int)(x:Int):Int:=bM 0 (NJ ord ord.length) x
def tC(xs:List NAgent)(ord:List Int):Nat→List NAgent
 |0=>[]
 |i+1=>tC xs ord i++[sJ (PG ord) (ah xs (elt 0 ord ((i:Nat):Int)))]
theorem Qg{α:Type}(d:α)(kv:List (Int×α))(i j:Int)(x:α):bM d (gL kv i x) j=if i=j then x else bM d kv j:=by
 induction kv with
 |nil=>
  unfold gL bM
  by_cases h:i=j
  ·rw[if_pos h,show(i==j)=true by simpa using h];rfl
  ·rw[if_neg h,show(i==j)=false by simpa using h];rfl
 |cons e kv ih=>
  obtain⟨k,v⟩:=e;unfold gL
  by_cases h:k=i
  ·rw[show(k==i)=true by simpa using h,cond_true];unfold bM;subst h
   by_cases h2:k=j
   ·rw[if_pos h2,show(k==j)=true by simpa using h2];rfl
   ·rw[if_neg h2,show(k==j)=false by simpa using h2];rfl
  ·rw[show(k==i)=false by simpa using h,cond_false]
   conv=>lhs;unfold bM
   conv=>rhs;unfold bM
   by_cases h2:k=j
   ·rw[show(k==j)=true by simpa using h2,cond_true,cond_true,if_neg (by omega)]
   ·rw[show(k==j)=false by simpa using h2,cond_false,cond_false,ih]
theorem FC(xs:List NAgent)(ord:List Int):∀i:Nat,i≤ord.length→tC xs ord i=(ord.take i).map fun k=>sJ (PG ord) (ah xs k)
 |0,_=>by rw[List.take_zero];rfl
 |i+1,h=>by
  unfold tC;rw[FC xs ord i (by omega),List.take_add_one,List.map_append,List.getElem?_eq_getElem (by omega)];unfold elt;rw[Int.toNat_natCast,List.getD_eq_getElem?_getD,List.getElem?_eq_getElem (by omega)];rfl
def jv(f:Int→Int)(ps:List aJ)(j:Nat):List aJ:=(ps.take j).map (nH f)++ps.drop j
theorem yE(f:Int→Int)(ps:List aJ)(j:Nat):(jv f ps j).length=ps.length:=by unfold jv;simp;omega
theorem FH{f:Int→Int}{ps:List aJ}{j:Nat}(h:j<ps.length):elt (dflt uPort) (jv f ps j) (j:Nat)=elt (dflt uPort) ps (j:Nat):=by
 unfold elt jv;rw[Int.toNat_natCast,List.getD_eq_getElem?_getD,List.getD_eq_getElem?_getD,List.getElem?_append_right (by simp;omega)];simp;rw[show j-min j ps.length=0 by omega,Nat.add_zero]
theorem FI{f:Int→Int}{ps:List aJ}{j:Nat}(h:j<ps.length):jv f ps (j+1)=(jv f ps j).set j (f (elt (dflt uPort) ps (j:Nat)).1,(elt (dflt uPort) ps (j:Nat)).2):=by
 have he:elt (dflt uPort) ps (j:Nat)=ps[j]:=by
  unfold elt;rw[Int.toNat_natCast,List.getD_eq_getElem?_getD,List.getElem?_eq_getElem h];rfl
 unfold jv;rw[List.set_append_right _ _ (by simp;omega),List.take_add_one,List.getElem?_eq_getElem h,List.map_append,he];have e:j-((ps.take j).map (nH f)).length=0:=by simp;omega
 rw[e,List.drop_eq_getElem_cons h,List.set_cons_zero];simp[nH]
theorem Ir(f:Int→Int)(ps:List aJ):jv f ps ps.length=ps.map (nH f):=by unfold jv;simp
section
variable {kv:List (Int×Bool)}{xs ys:List NAgent}
theorem Od(ys:List NAgent):∀k:Nat,gy ys k≤k
 |0=>Nat.le_refl 0
 |k+1=>by unfold gy;have:=Od ys k;cases cK ys k<;>simp<;>omega
theorem Twin.cK(h:Twin kv xs ys){k:Nat}(hk:k<xs.length):cK ys k= !(bM false kv ((k:Nat):Int)):=by
 unfold Tr.cK;cases hg:bM false kv ((k:Nat):Int)with
 |true=>
  rw[(h.hole _ hg).2];rfl
 |false=>
  have hd:¬Gone kv ((k:Nat):Int):=fun e=>by
   have e':bM false kv ((k:Nat):Int)=true:=e;rw[hg]at e';cases e'
  rw[h.at_ (by omega) (by omega) hd];have:=J9 (h.wf (k:Nat) (by omega) (by omega) hd);simp;omega
theorem Twin.ord(h:Twin kv xs ys):∀n:Nat,n≤xs.length→(fq kv n).length=gy ys n∧(∀j:Nat,j<(fq kv n).length→∃x:Nat,x<n∧(fq kv n)[j]? =some ((x:Nat):Int)∧gy ys x=j∧bM false kv ((x:Nat):Int)=false)∧
  (∀x:Nat,x<n→bM false kv ((x:Nat):Int)=false→(fq kv n)[gy ys x]? =some ((x:Nat):Int))
 |0,_=>⟨rfl,fun j hj=>absurd hj (Nat.not_lt_zero _),fun x hx=>absurd hx (Nat.not_lt_zero _)⟩
 |n+1,hn=>by
  obtain⟨h1,h2,h3⟩:=h.ord n (by omega);have hl:=h.cK (k:=n) (by omega);have eo:fq kv (n+1)=bif !(bM false kv ((n:Nat):Int))then fq kv n++[((n:Nat):Int)]else fq kv n:=rfl
  have ec:gy ys (n+1)=bif Tr.cK ys n then gy ys n+1 else gy ys n:=rfl
  rw[eo,ec,hl];cases hg:bM false kv ((n:Nat):Int)with
  |true=>
   simp only[Bool.not_true,cond_false];refine⟨h1,fun j hj=> ?_,fun x hx hx2=> ?_⟩
   ·obtain⟨x,k1,k2,k3,k4⟩:=h2 j hj;exact⟨x,by omega,k2,k3,k4⟩
   ·refine h3 x ?_ hx2
    by_cases e:x=n
    ·rw[e,hg]at hx2;cases hx2
    ·omega
  |false=>
   simp only[Bool.not_false,cond_true];refine⟨by rw[List.length_append,h1];rfl,fun j hj=> ?_,fun x hx hx2=> ?_⟩
   ·rw[List.length_append,List.length_singleton]at hj
    by_cases hj2:j<(fq kv n).length
    ·obtain⟨x,k1,k2,k3,k4⟩:=h2 j hj2;exact⟨x,by omega,by rw[List.getElem?_append_left hj2];exact k2,k3,k4⟩
    ·have hj3:j=(fq kv n).length:=by omega
     exact⟨n,by omega,by rw[hj3,List.getElem?_append_right (Nat.le_refl _),Nat.sub_self];rfl,by rw[hj3,h1],hg⟩
   ·by_cases e:x=n
    ·subst e;rw[←h1,List.getElem?_append_right (Nat.le_refl _),Nat.sub_self];rfl
    ·have k:=h3 x (by omega) hx2;have:=(List.getElem?_eq_some_iff.1 k).1;rw[List.getElem?_append_left this];exact k
theorem Twin.Xq(h:Twin kv xs ys):∀i:Nat,i≤(fq kv xs.length).length→∀j:Nat,j<i→bM 0 (NJ (fq kv xs.length) i) (elt 0 (fq kv xs.length) ((j:Nat):Int))=((j:Nat):Int)
 |0,_,j,hj=>by omega
 |i+1,hi,j,hj=>by
  obtain⟨h1,h2,h3⟩:=h.ord xs.length (Nat.le_refl _);unfold NJ;rw[Qg]
  by_cases e:j=i
  ·subst e;rw[if_pos rfl]
  ·rw[if_neg fun k=>e ?_]
   ·exact h.Xq i (by omega) j (by omega)
   ·obtain⟨x,k1,k2,k3,_⟩:=h2 i (by omega);obtain⟨y,l1,l2,l3,_⟩:=h2 j (by omega);unfold elt at k;rw[Int.toNat_natCast,Int.toNat_natCast,List.getD_eq_getElem?_getD,List.getD_eq_getElem?_getD,k2,l2]at k;have k':((x:Nat):Int)=((y:Nat):Int):=k;have:x=y:=by omega
    rw[←k3,←l3,this]
theorem Twin.PG(h:Twin kv xs ys){x:Int}(h0:0≤x)(h1:x<(xs.length:Nat))(hd:¬Gone kv x):PG (fq kv xs.length) x=kY ys x:=by
 obtain⟨k1,k2,k3⟩:=h.ord xs.length (Nat.le_refl _)
 have hg:bM false kv ((x.toNat:Nat):Int)=false:=by
  rw[show((x.toNat:Nat):Int)=x by omega];cases hq:bM false kv x with
  |true=>exact absurd hq hd
  |false=>rfl
 have k4:=k3 x.toNat (by omega) hg;have k5:=(List.getElem?_eq_some_iff.1 k4).1;have k6:=h.Xq (fq kv xs.length).length (Nat.le_refl _) (gy ys x.toNat) k5
 have e:elt 0 (fq kv xs.length) ((gy ys x.toNat:Nat):Int)=x:=by
  unfold elt;rw[Int.toNat_natCast,List.getD_eq_getElem?_getD,k4];show((x.toNat:Nat):Int)=x;omega
 rw[e]at k6;exact k6
theorem Twin.dZ(h:Twin kv xs ys):∀n:Nat,n≤xs.length→dZ ys n=(fq kv n).map fun k=>sJ (kY ys) (ah ys k)
 |0,_=>rfl
 |n+1,hn=>by
  unfold Tr.dZ fq;rw[h.cK (k:=n) (by omega),h.dZ n (by omega)];cases bM false kv ((n:Nat):Int)
  ·simp
  ·simp
theorem Twin.pack(h:Twin kv xs ys):tC xs (fq kv xs.length) (fq kv xs.length).length=packN ys:=by
 rw[FC _ _ _ (Nat.le_refl _),List.take_length];unfold packN;rw[←h.len,h.dZ _ (Nat.le_refl _)];refine List.map_congr_left fun k hk=> ?_
 obtain⟨j,hj,rfl⟩:=List.mem_iff_getElem.1 hk;obtain⟨x,k1,k2,k3,k4⟩:=(h.ord xs.length (Nat.le_refl _)).2.1 j hj;rw[List.getElem?_eq_getElem hj]at k2;injection k2 with k2
 rw[k2]
 have hd:¬Gone kv ((x:Nat):Int):=fun e=>by
  have e':bM false kv ((x:Nat):Int)=true:=e;rw[k4]at e';cases e'
 rw[h.at_ (by omega) (by omega) hd];unfold sJ
 congr 4
 refine List.map_congr_left fun p hp=> ?_
 obtain⟨i,hi,rfl⟩:=List.mem_iff_getElem.1 hp;have hw:=h.st.wi (((x:Nat):Int),((i:Nat):Int)) ⟨⟨by show(0:Int)≤(x:Nat);omega,by show((x:Nat):Int)<(xs.length:Nat);omega,by show(0:Int)≤(i:Nat);omega,by show((i:Nat):Int)<((ah xs (x:Nat)).2.2.2.2.length:Nat);omega⟩,hd⟩
 have hpe:aF xs (((x:Nat):Int),((i:Nat):Int))=(ah xs (x:Nat)).2.2.2.2[i]:=by
  unfold aF elt;rw[Int.toNat_natCast,List.getD_eq_getElem?_getD,List.getElem?_eq_getElem hi];rfl
 rw[hpe]at hw;obtain⟨_,⟨q1,q2⟩,_⟩:=hw;unfold nH;rw[h.PG q1.1 q1.2.1 q2]
end
end Go.Tr
