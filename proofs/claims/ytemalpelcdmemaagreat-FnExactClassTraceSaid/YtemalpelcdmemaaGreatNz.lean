
/- Nets as data: agents, ports, wires. No program in it. -/
import Derived.Test.YtemalpelcdmemaaGreatVV
import Derived.Test.YtemalpelcdmemaaGreatValid
set_option linter.unusedSimpArgs false
set_option linter.unusedVariables false
set_option linter.unusedSectionVars false
namespace Go.Tr
open Go Go.RowKit
abbrev uPort:U:=.pair (.int .i64) (.int .i64)
abbrev uAgent:U:=.pair (.int .i64) (.pair (.int .i64) (.pair (.int .i64) (.pair (.sl (.int .i64)) (.sl uPort))))
abbrev uNet:U:=.sl uAgent
abbrev aJ:=Int×Int
abbrev NAgent:=Int×Int×Int×List Int×List aJ
def ah(xs:List NAgent)(i:Int):NAgent:=elt (dflt uAgent) xs i
abbrev NAgent.kind(a:NAgent):Int:=a.1
abbrev NAgent.level(a:NAgent):Int:=a.2.1
abbrev NAgent.value(a:NAgent):Int:=a.2.2.1
abbrev NAgent.data(a:NAgent):List Int:=a.2.2.2.1
abbrev NAgent.ports(a:NAgent):List aJ:=a.2.2.2.2
def aF(xs:List NAgent)(p:aJ):aJ:=elt (dflt uPort) (ah xs p.1).ports p.2
def aN(xs:List NAgent)(p q:aJ):List NAgent:=xs.set p.1.toNat ((ah xs p.1).1,(ah xs p.1).2.1,(ah xs p.1).2.2.1,(ah xs p.1).2.2.2.1,(ah xs p.1).2.2.2.2.set p.2.toNat q)
def bP(xs:List NAgent)(p q:aJ):List NAgent:=aN (aN xs p q) q p
def ak(xs:List NAgent)(p:aJ):Prop:=0≤p.1∧p.1<(xs.length:Nat)∧0≤p.2∧p.2<((ah xs p.1).ports.length:Nat)
abbrev vP(p:aJ):SV:=.agg [.int .i64 p.1,.int .i64 p.2]
theorem dA(xs:List NAgent)(p q:aJ):(aN xs p q).length=xs.length:=by unfold aN;simp
theorem mD{xs:List NAgent}{k:Nat}{y:NAgent}{i:Int}:ah (xs.set k y) i=if k=i.toNat∧k<xs.length then y else ah xs i:=by
 unfold ah elt;rw[List.getD_eq_getElem?_getD,List.getD_eq_getElem?_getD,List.getElem?_set]
 by_cases h:k=i.toNat
 ·subst h
  by_cases h2:i.toNat<xs.length
  ·simp[h2]
  ·simp[h2]
 ·simp[h]
theorem fu(xs:List NAgent)(p q:aJ)(i:Int):ah (aN xs p q) i=if p.1.toNat=i.toNat∧p.1.toNat<xs.length then((ah xs p.1).1,(ah xs p.1).2.1,(ah xs p.1).2.2.1,(ah xs p.1).2.2.2.1,(ah xs p.1).2.2.2.2.set p.2.toNat q)else ah xs i:=mD
theorem Aq{xs:List NAgent}{i j:Int}(h:i.toNat=j.toNat):ah xs i=ah xs j:=by unfold ah elt;rw[h]
theorem pK(xs:List NAgent)(p q:aJ)(i:Int):(ah (aN xs p q) i).ports.length=(ah xs i).ports.length:=by
 rw[fu];split
 ·rename_i h;rw[Aq h.1.symm];simp[NAgent.ports]
 ·rfl
theorem ak.set{xs:List NAgent}{p q r:aJ}(h:ak xs r):ak (aN xs p q) r:=by
 unfold ak at h ⊢;rw[dA,pK];exact h
theorem ak.link{xs:List NAgent}{p q r:aJ}(h:ak xs r):ak (bP xs p q) r:=h.set.set
theorem jJ(xs:List NAgent)(p q:aJ):(bP xs p q).length=xs.length:=by unfold bP;rw[dA,dA]
theorem uw{us:List Value}{n:Nat}(hl:us.length=n*5){i:Int}(h0:0≤i)(h1:i<(n:Nat)):i.toNat*5+5≤us.length:=by omega
theorem tu{us:List Value}{n:Nat}(hl:us.length=n*5){i:Int}(h0:0≤i)(h1:i<(n:Nat)){o:Nat}(ho:o<5):us[i.toNat*5+o]? =some (us.getD (i.toNat*5+o) undef):=by
 rw[List.getD_eq_getElem?_getD,List.getElem?_eq_getElem (by omega)];rfl
def dM(xs:List NAgent)(old now:aJ):List NAgent:=bP xs (aF xs old) now
def aS(xs:List NAgent)(x y:aJ):List NAgent:=bif (aF xs x).1==y.1&&(aF xs x).2==y.2 then xs else bP xs (aF xs x) (aF xs y)
def bC(kind level value:Int)(data:List Int)(n:Nat):NAgent:=(kind,level,value,data,List.replicate n (0,0))
def mI(kv:List (Int×Bool))(ks:List Int):List (Int×Bool):=ks.foldl (fun kv k=>gT kv k true) kv
theorem RD(kv:List (Int×Bool)){ks:List Int}{i:Nat}(h:i<ks.length):gT (mI kv (ks.take i)) (ks.getD i 0) true=mI kv (ks.take (i+1)):=by
 unfold mI;rw[List.take_add_one,List.foldl_append,List.getD_eq_getElem?_getD,List.getElem?_eq_getElem h];rfl
theorem wrapS{k:Nat}(h:k<1000000000):IntKind.i64.wrap ((k:Int)+1)=((k+1:Nat):Int):=RU (by omega)
def NetSmall(xs:List NAgent):Prop:=xs.length≤1048576∧∀i:Nat,(ah xs i).data.length≤1048576∧(ah xs i).ports.length≤1048576
def qQ(c:Int)(x y:NAgent):Bool:=bif (bif c==6 then y.kind==10 else false)then decide ((y.data.length:Int)≤x.value)else false
def bn(x y:NAgent):Int×Bool:=
 bif bf x.kind x.level y.kind y.level==2 then(bif qQ (aT x.kind x.level y.kind y.level) y x then(8,false)else(aT x.kind x.level y.kind y.level,bf x.kind x.level y.kind y.level==2))
 else(bif qQ (aT x.kind x.level y.kind y.level) x y then(8,false)else(aT x.kind x.level y.kind y.level,bf x.kind x.level y.kind y.level==2))
theorem ND{x y:NAgent}(h1:(bf x.kind x.level y.kind y.level==2)=true)(h2:qQ (aT x.kind x.level y.kind y.level) y x=true):bn x y=(8,false):=by unfold bn;rw[h1,h2];rfl
theorem NC{x y:NAgent}(h1:(bf x.kind x.level y.kind y.level==2)=true)(h2:qQ (aT x.kind x.level y.kind y.level) y x=false):bn x y=(aT x.kind x.level y.kind y.level,bf x.kind x.level y.kind y.level==2):=by unfold bn;rw[h1,h2];rfl
theorem NA{x y:NAgent}(h1:(bf x.kind x.level y.kind y.level==2)=false)(h2:qQ (aT x.kind x.level y.kind y.level) x y=true):bn x y=(8,false):=by unfold bn;rw[h1,h2];rfl
theorem Nz{x y:NAgent}(h1:(bf x.kind x.level y.kind y.level==2)=false)(h2:qQ (aT x.kind x.level y.kind y.level) x y=false):bn x y=(aT x.kind x.level y.kind y.level,bf x.kind x.level y.kind y.level==2):=by unfold bn;rw[h1,h2];rfl
def kI(p lo hi d:Int):Int×Int:=bif (bif decide (p<lo)then true else decide (hi<p))then(0,2)else(IntKind.i64.wrap (p+d),0)
def dP(c p:Int):Int×Int:=
 bif c==1 then kI p 0 0 (-2)else bif c==2 then kI p 0 0 (-2)else bif c==3 then kI p 0 3 0 else bif c==4 then kI p 0 3 (-2)
 else bif c==5 then kI p 0 0 (-1)else bif c==6 then kI p 0 3 (-1)else bif c==7 then kI p 2 600 (-2)else(0,2)
def jB(by_:Int)(x:NAgent):NAgent:=bif bV x.kind then(x.1,x.2.1+by_,x.2.2)else x
def fV(by_:Int)(xs:List NAgent):Bool:=xs.all fun x=> !(bV x.kind)||decide (x.level+by_≤8)
def cO(by_:Int)(xs:List NAgent):List NAgent:=xs.map (jB by_)
def oF(x:Int):Int:=IntKind.i64.wrap (IntKind.i32.wrap x)
def yB(o a b:Int):Int:=
 bif o==1 then oF (IntKind.i64.wrap (oF a+oF b))else bif o==2 then oF (IntKind.i64.wrap (oF a-oF b))else bif o==3 then oF (IntKind.i64.wrap (oF a*oF b))
 else bif o==4 then(bif oF b==0 then 0 else oF (IntKind.i64.wrap ((oF a).tdiv (oF b))))else bif o==5 then(bif decide (oF a<oF b)then 1 else 0)else bif o==6 then(bif oF a==oF b then 1 else 0)else 0
theorem RQ(x:Int):IntKind.i64.wrap (IntKind.i32.wrap (IntKind.u32.wrap (IntKind.u64.wrap x)))=oF x:=by
 unfold oF;simp only[IntKind.wrap,IntKind.bits,IntKind.signed];simp
def bE(xs:List NAgent):Prop:=∀p,ak xs p→ak xs (aF xs p)
theorem Pt{α:Type}{d:α}{xs:List α}{i j:Int}(h:i.toNat=j.toNat):elt d xs i=elt d xs j:=by unfold elt;rw[h]
theorem Wx{α:Type}{d:α}{xs:List α}{k:Nat}{y:α}{i:Int}:elt d (xs.set k y) i=if k=i.toNat∧k<xs.length then y else elt d xs i:=by
 unfold elt;rw[List.getD_eq_getElem?_getD,List.getD_eq_getElem?_getD,List.getElem?_set]
 by_cases h:k=i.toNat
 ·subst h
  by_cases h2:i.toNat<xs.length<;>simp[h2]
 ·simp[h]
theorem Ww{α:Type}{d:α}{xs ys:List α}{i:Int}(h:i.toNat<xs.length):elt d (xs++ys) i=elt d xs i:=by
 unfold elt;rw[List.getD_eq_getElem?_getD,List.getD_eq_getElem?_getD,List.getElem?_append_left h]
theorem SK{α:Type}{d y:α}{xs:List α}{i:Int}(h:i.toNat=xs.length):elt d (xs++[y]) i=y:=by
 unfold elt;rw[h,List.getD_eq_getElem?_getD];simp
theorem dH{xs ys:List NAgent}{i:Int}(h:i.toNat<xs.length):ah (xs++ys) i=ah xs i:=Ww h
theorem rC{y:NAgent}{xs:List NAgent}{i:Int}(h:i.toNat=xs.length):ah (xs++[y]) i=y:=SK h
theorem ak.app{xs ys:List NAgent}{p:aJ}(h:ak xs p):ak (xs++ys) p:=by
 obtain⟨h1,h2,h3,h4⟩:=h;refine⟨h1,by rw[List.length_append];omega,h3,?_⟩;rw[dH (by omega)];exact h4
theorem ak.new{k l v:Int}{d:List Int}{n:Nat}{xs:List NAgent}{s:Int}(h0:0≤s)(h1:s<(n:Nat)):ak (xs++[bC k l v d n]) ((xs.length:Nat),s):=by
 refine⟨by omega,by rw[List.length_append,List.length_singleton];show((xs.length:Nat):Int)<_;omega,h0,?_⟩;rw[rC (by simp)];simpa[bC,NAgent.ports]using h1
theorem oZ{xs ys:List NAgent}{p:aJ}(h:p.1.toNat<xs.length):aF (xs++ys) p=aF xs p:=by unfold aF;rw[dH h]
theorem Jm{xs:List NAgent}{p q r:aJ}(hp:ak xs p)(hr:ak xs r):aF (aN xs p q) r=if p=r then q else aF xs r:=by
 obtain⟨p1,p2,p3,p4⟩:=hp;obtain⟨r1,r2,r3,r4⟩:=hr;unfold aF;rw[fu]
 by_cases h:p.1.toNat=r.1.toNat
 ·have e:p.1=r.1:=by omega
  rw[if_pos ⟨h,by omega⟩];show elt (dflt uPort) ((ah xs p.1).2.2.2.2.set p.2.toNat q) r.2=_;rw[Wx]
  by_cases h2:p.2.toNat=r.2.toNat
  ·have e2:p.2=r.2:=by omega
   rw[if_pos ⟨h2,by simp only[NAgent.ports]at p4;omega⟩,if_pos (Prod.ext e e2)]
  ·rw[if_neg (fun hh=>h2 hh.1),if_neg (fun hh=>h2 (by rw[hh])),e]
 ·rw[if_neg (fun hh=>h hh.1),if_neg (fun hh=>h (by rw[hh]))]
theorem jX{xs:List NAgent}{p q r:aJ}(hp:ak xs p)(hq:ak xs q)(hr:ak xs r):aF (bP xs p q) r=if q=r then p else if p=r then q else aF xs r:=by
 unfold bP;rw[Jm hq.set hr.set,Jm hp hr]
theorem ak.unset{xs:List NAgent}{p q r:aJ}(h:ak (aN xs p q) r):ak xs r:=by
 unfold ak at h ⊢
 rwa[dA,pK]at h
theorem ak.unlink{xs:List NAgent}{p q r:aJ}(h:ak (bP xs p q) r):ak xs r:=h.unset.unset
theorem bE.link{xs:List NAgent}{p q:aJ}(h:bE xs)(hp:ak xs p)(hq:ak xs q):bE (bP xs p q):=fun r hr=>by
 have hr':=hr.unlink;rw[jX hp hq hr'];split
 ·exact hp.link
 ·split
  ·exact hq.link
  ·exact(h r hr').link
theorem bE.move{xs:List NAgent}{p q:aJ}(h:bE xs)(hp:ak xs p)(hq:ak xs q):bE (dM xs p q):=h.link (h p hp) hq
theorem ak.move{xs:List NAgent}{p q r:aJ}(h:ak xs r):ak (dM xs p q) r:=h.link
theorem ak.join{xs:List NAgent}{p q r:aJ}(h:ak xs r):ak (aS xs p q) r:=by
 unfold aS;cases ((aF xs p).1==q.1&&(aF xs p).2==q.2)with
 |true=>exact h
 |false=>exact h.link
theorem bE.join{xs:List NAgent}{p q:aJ}(h:bE xs)(hp:ak xs p)(hq:ak xs q):bE (aS xs p q):=by
 unfold aS;cases ((aF xs p).1==q.1&&(aF xs p).2==q.2)with
 |true=>exact h
 |false=>exact h.link (h p hp) (h q hq)
theorem bE.add{xs:List NAgent}(h:bE xs)(h0:ak xs (0,0))(k l v:Int)(d:List Int)(n:Nat):bE (xs++[bC k l v d n]):=fun r hr=>by
 by_cases hlt:r.1.toNat<xs.length
 ·rw[oZ hlt];obtain⟨r1,r2,r3,r4⟩:=hr;rw[dH hlt]at r4;exact(h r ⟨r1,by omega,r3,r4⟩).app
 ·obtain⟨r1,r2,r3,r4⟩:=hr;rw[List.length_append,List.length_singleton]at r2;have e:r.1.toNat=xs.length:=by omega
  have hp:aF (xs++[bC k l v d n]) r=(0,0):=by
   unfold aF;rw[rC e]at r4 ⊢;simp only[bC,NAgent.ports,List.length_replicate]at r4;unfold elt;rw[List.getD_eq_getElem?_getD];simp only[bC,NAgent.ports];rw[List.getElem?_replicate];split<;>rfl
  rw[hp];exact h0.app
theorem jL(xs:List NAgent)(p q:aJ):(dM xs p q).length=xs.length:=jJ _ _ _
theorem nG(xs:List NAgent)(p q:aJ):(aS xs p q).length=xs.length:=by
 unfold aS;cases ((aF xs p).1==q.1&&(aF xs p).2==q.2)<;>simp[jJ]
theorem mJ{xs:List NAgent}{p q a b:aJ}(hp:ak xs p)(hq:ak xs q)(hn:p≠q):aN (aN xs p a) q b=aN (aN xs q b) p a:=by
 obtain⟨p1,p2,p3,p4⟩:=hp;obtain⟨q1,q2,q3,q4⟩:=hq
 by_cases h:p.1.toNat=q.1.toNat
 ·have e:p.1=q.1:=by omega
  have h2:p.2.toNat≠q.2.toNat:=fun h2=>hn (Prod.ext e (by omega))
  have k1:ah (aN xs p a) q.1=((ah xs p.1).1,(ah xs p.1).2.1,(ah xs p.1).2.2.1,(ah xs p.1).2.2.2.1,(ah xs p.1).2.2.2.2.set p.2.toNat a):=by
   rw[fu,if_pos ⟨h,by omega⟩]
  have k2:ah (aN xs q b) p.1=((ah xs q.1).1,(ah xs q.1).2.1,(ah xs q.1).2.2.1,(ah xs q.1).2.2.2.1,(ah xs q.1).2.2.2.2.set q.2.toNat b):=by
   rw[fu,if_pos ⟨h.symm,by omega⟩]
  rw[show aN (aN xs p a) q b=(aN xs p a).set q.1.toNat ((ah (aN xs p a) q.1).1,(ah (aN xs p a) q.1).2.1,(ah (aN xs p a) q.1).2.2.1,(ah (aN xs p a) q.1).2.2.2.1,(ah (aN xs p a) q.1).2.2.2.2.set q.2.toNat b) from rfl,show aN (aN xs q b) p a=(aN xs q b).set p.1.toNat ((ah (aN xs q b) p.1).1,(ah (aN xs q b) p.1).2.1,(ah (aN xs q b) p.1).2.2.1,(ah (aN xs q b) p.1).2.2.2.1,(ah (aN xs q b) p.1).2.2.2.2.set p.2.toNat a) from rfl,k1,k2];unfold aN;rw[h,List.set_set,List.set_set,e]
  simp only[];rw[List.set_comm _ _ h2]
 ·have k1:ah (aN xs p a) q.1=ah xs q.1:=by rw[fu,if_neg fun hh=>h hh.1]
  have k2:ah (aN xs q b) p.1=ah xs p.1:=by rw[fu,if_neg fun hh=>h hh.1.symm]
  rw[show aN (aN xs p a) q b=(aN xs p a).set q.1.toNat ((ah (aN xs p a) q.1).1,(ah (aN xs p a) q.1).2.1,(ah (aN xs p a) q.1).2.2.1,(ah (aN xs p a) q.1).2.2.2.1,(ah (aN xs p a) q.1).2.2.2.2.set q.2.toNat b) from rfl,show aN (aN xs q b) p a=(aN xs q b).set p.1.toNat ((ah (aN xs q b) p.1).1,(ah (aN xs q b) p.1).2.1,(ah (aN xs q b) p.1).2.2.1,(ah (aN xs q b) p.1).2.2.2.1,(ah (aN xs q b) p.1).2.2.2.2.set p.2.toNat a) from rfl,k1,k2];unfold aN;rw[List.set_comm _ _ h]
theorem wG{xs:List NAgent}{p q:aJ}(hp:ak xs p)(hq:ak xs q):bP xs p q=bP xs q p:=by
 by_cases h:p=q
 ·rw[h]
 ·unfold bP;exact mJ hp hq h
def jH(d:List Int)(i:Int):Int:=elt (dflt (.int .i64)) d i
def bI(xs:List NAgent)(x y:Int):List NAgent:=
 bif (ah xs y).1==7 then dM (dM (xs++[bC 8 (ah xs y).2.1 (ah xs y).2.2.1 [(ah xs x).2.2.1] 2]) (y,1) ((xs.length:Nat),0)) (y,2) ((xs.length:Nat),1)
 else dM (xs++[bC 6 0 (yB (ah xs y).2.2.1 (jH (ah xs y).2.2.2.1 0) (ah xs x).2.2.1) [] 1]) (y,1) ((xs.length:Nat),0)
def Dz:NAgent:=(0,0,0,[],[])
def bD(xs:List NAgent)(a:Int):List NAgent:=xs.set a.toNat Dz
def oK(x c d:Int)(xs:List NAgent)(i:Nat):List NAgent:=bP (bP (xs++[bC 4 (ah xs x).2.1 0 [] 3]) ((xs.length:Nat),1) (c,(i:Nat))) ((xs.length:Nat),2) (d,(i:Nat))
def dO(x c d:Int)(xs:List NAgent):Nat→List NAgent
 |0=>xs
 |k+1=>oK x c d (dO x c d xs k) (k+1)
def dD(y:Int)(b:Nat)(xs:List NAgent):Nat→List NAgent
 |0=>xs
 |k+1=>dM (dD y b xs k) (y,((k:Nat):Int)+1) (((b+k:Nat):Int),0)
def nO(xs:List NAgent)(y:Int):NAgent:=bC (ah xs y).1 (ah xs y).2.1 (ah xs y).2.2.1 (ah xs y).2.2.2.1 (ah xs y).2.2.2.2.length
def dup2(xs:List NAgent)(y:Int):List NAgent:=xs++[nO xs y]++[nO xs y]
def dup3(xs:List NAgent)(x y:Int):List NAgent:=dO x ((xs.length:Nat)) ((xs.length+1:Nat)) (dup2 xs y) ((ah xs y).2.2.2.2.length-1)
def lQ(xs:List NAgent)(x y:Int):List NAgent:=dM (dM (dup3 xs x y) (x,1) ((xs.length:Nat),0)) (x,2) ((xs.length+1:Nat),0)
def bJ(xs:List NAgent)(x y:Int):List NAgent:=dD y (xs.length+2) (lQ xs x y) ((ah xs y).2.2.2.2.length-1)
def jI(b k:Nat):List Int:=(List.range k).map fun j=>((b+j:Nat):Int)
theorem Fv(b k:Nat):jI b (k+1)=jI b k++[((b+k:Nat):Int)]:=by simp[jI,List.range_succ]
theorem nu(b k:Nat):(jI b k).length=k:=by simp[jI]
theorem IK{b k m:Nat}(h:k<m):elt (0:Int) (jI b m) (k:Nat)=((b+k:Nat):Int):=by
 unfold elt jI;rw[Int.toNat_natCast,List.getD_eq_getElem?_getD,List.getElem?_map,List.getElem?_range h];rfl
theorem NR(x c d:Int)(xs:List NAgent)(i:Nat):(oK x c d xs i).length=xs.length+1:=by unfold oK;rw[jJ,jJ,List.length_append];rfl
theorem jr(x c d:Int)(xs:List NAgent):∀k,(dO x c d xs k).length=xs.length+k
 |0=>rfl
 |k+1=>by unfold dO;rw[NR,jr x c d xs k];omega
theorem IB{x c d:Int}{xs:List NAgent}{i:Nat}{p:aJ}(h:ak xs p):ak (oK x c d xs i) p:=h.app.link.link
theorem cK{x c d:Int}{xs:List NAgent}{p:aJ}(h:ak xs p):∀k,ak (dO x c d xs k) p
 |0=>h
 |k+1=>IB (cK h k)
theorem NP{x c d:Int}{xs:List NAgent}{i:Nat}(h:bE xs)(h0:ak xs (0,0))(hc:ak xs (c,(i:Nat)))(hd:ak xs (d,(i:Nat))):bE (oK x c d xs i):=
 ((h.add h0 4 (ah xs x).2.1 0 [] 3).link (ak.new (by decide) (by decide)) hc.app).link (ak.link (ak.new (by decide) (by decide))) hd.app.link
theorem nk{x c d:Int}{xs:List NAgent}(h:bE xs)(h0:ak xs (0,0)):∀k,(∀i:Nat,i≤k→ak xs (c,(i:Nat))∧ak xs (d,(i:Nat)))→bE (dO x c d xs k)
 |0,_=>h
 |k+1,hk=>NP (nk h h0 k fun i hi=>hk i (by omega)) (cK h0 k) (cK (hk (k+1) (Nat.le_refl _)).1 k) (cK (hk (k+1) (Nat.le_refl _)).2 k)
theorem AY(y:Int)(b:Nat)(xs:List NAgent):∀k,(dD y b xs k).length=xs.length
 |0=>rfl
 |k+1=>by unfold dD;rw[jL,AY y b xs k]
theorem fK{y:Int}{b:Nat}{xs:List NAgent}{p:aJ}(h:ak xs p):∀k,ak (dD y b xs k) p
 |0=>h
 |k+1=>(fK h k).move
theorem lS{y:Int}{b:Nat}{xs:List NAgent}(h:bE xs):∀k,(∀i:Nat,i<k→ak xs (y,((i:Nat):Int)+1)∧ak xs (((b+i:Nat):Int),0))→bE (dD y b xs k)
 |0,_=>h
 |k+1,hk=>(lS h k fun i hi=>hk i (by omega)).move (fK (hk k (by omega)).1 k) (fK (hk k (by omega)).2 k)
theorem gZ(xs:List NAgent)(y:Int):(dup2 xs y).length=xs.length+2:=by unfold dup2;simp
theorem nV{xs:List NAgent}{y:Int}{p:aJ}(h:ak xs p):ak (dup2 xs y) p:=h.app.app
theorem rX{xs:List NAgent}{y:Int}{i:Int}(h0:0≤i)(h1:i<((ah xs y).2.2.2.2.length:Nat)):ak (dup2 xs y) (((xs.length:Nat):Int),i):=(ak.new h0 h1).app
theorem r9{xs:List NAgent}{y:Int}{i:Int}(h0:0≤i)(h1:i<((ah xs y).2.2.2.2.length:Nat)):ak (dup2 xs y) (((xs.length+1:Nat):Int),i):=by
 have:=ak.new (xs:=xs++[nO xs y]) (k:=(ah xs y).1) (l:=(ah xs y).2.1) (v:=(ah xs y).2.2.1) (d:=(ah xs y).2.2.2.1) h0 h1;rw[List.length_append,List.length_singleton]at this;exact this
theorem x9{xs:List NAgent}{y:Int}(h:bE xs)(h0:ak xs (0,0)):bE (dup2 xs y):=(h.add h0 _ _ _ _ _).add h0.app _ _ _ _ _
theorem su{x:Int}{c d:Int}{xs:List NAgent}:∀{k i:Nat},i<k→ak (dO x c d xs k) (((xs.length+i:Nat):Int),0)
 |0,i,h=>by omega
 |k+1,i,h=>by
  by_cases e:i=k
  ·subst e;have h2:=(ak.new (xs:=dO x c d xs i) (k:=4) (l:=(ah (dO x c d xs i) x).2.1) (v:=0) (d:=[]) (n:=3) (s:=0) (by decide) (by decide)).link (p:=(((dO x c d xs i).length:Nat),1)) (q:=(c,((i+1:Nat):Int)));have h3:=h2.link (p:=(((dO x c d xs i).length:Nat),2)) (q:=(d,((i+1:Nat):Int)));rw[jr]at h3;unfold dO oK;rw[jr];exact h3
  ·exact IB (su (by omega))
def jv(b:Nat):Nat→aJ
 |0=>(((b-1:Nat):Int),0)
 |k+1=>(((b+k:Nat):Int),2)
def rD(lv:Int)(b:Nat)(xs:List NAgent):Nat→List NAgent
 |0=>xs
 |k+1=>bP (rD lv b xs k++[bC 3 lv 0 [] 3]) (((b+k:Nat):Int),0) (jv b k)
def E5(x:Int)(b:Nat)(xs:List NAgent):Nat→List NAgent
 |0=>xs
 |k+1=>dM (E5 x b xs k) (x,((k:Nat):Int)+1) (((b+k:Nat):Int),1)
def bF(xs:List NAgent)(y i:Int):List NAgent:=xs++[bC 12 (ah xs y).2.1 (jH (ah xs y).2.2.2.1 i) [] 1]
def kG(xs:List NAgent)(x y:Int):List NAgent:=
 bif (ah xs x).1==6 then dM (bF xs y (bif (ah xs x).2.2.1==0 then 1 else 0)) (y,1) ((xs.length:Nat),0)
 else dM (E5 x (xs.length+1) (rD (ah xs y).2.1 (xs.length+1) (bF xs y (ah xs x).2.2.1) ((ah xs x).2.2.2.2.length-1)) ((ah xs x).2.2.2.2.length-1)) (y,1) (jv (xs.length+1) ((ah xs x).2.2.2.2.length-1))
theorem yM(lv:Int)(b:Nat)(xs:List NAgent):∀k,(rD lv b xs k).length=xs.length+k
 |0=>rfl
 |k+1=>by unfold rD;rw[jJ,List.length_append,yM lv b xs k];simp;omega
theorem E8{lv:Int}{b:Nat}{xs:List NAgent}{p:aJ}(h:ak xs p):∀k,ak (rD lv b xs k) p
 |0=>h
 |k+1=>(E8 h k).app.link
theorem AB{lv:Int}{xs:List NAgent}{s:Int}(h0:0≤s)(h1:s<3):∀{k i:Nat},i<k→ak (rD lv xs.length xs k) (((xs.length+i:Nat):Int),s)
 |0,i,h=>by omega
 |k+1,i,h=>by
  by_cases e:i=k
  ·subst e;have:=(ak.new (xs:=rD lv xs.length xs i) (k:=3) (l:=lv) (v:=0) (d:=[]) (n:=3) h0 (by omega)).link (p:=(((xs.length+i:Nat):Int),0)) (q:=jv xs.length i);rw[yM]at this;exact this
  ·exact(AB h0 h1 (by omega:i<k)).app.link
theorem Iw{lv:Int}{xs:List NAgent}(hr:ak xs (jv xs.length 0)):∀k,ak (rD lv xs.length xs k) (jv xs.length k)
 |0=>hr
 |k+1=>AB (by decide) (by decide) (Nat.lt_succ_self k)
theorem JX{lv:Int}{xs:List NAgent}(h:bE xs)(h0:ak xs (0,0))(hr:ak xs (jv xs.length 0)):∀k,bE (rD lv xs.length xs k)
 |0=>h
 |k+1=>by
  unfold rD;have:=ak.new (xs:=rD lv xs.length xs k) (k:=3) (l:=lv) (v:=0) (d:=[]) (n:=3) (s:=0) (by decide) (by decide);rw[yM]at this;exact((JX h h0 hr k).add (E8 h0 k) _ _ _ _ _).link this (Iw hr k).app
theorem OY(x:Int)(b:Nat)(xs:List NAgent):∀k,(E5 x b xs k).length=xs.length
 |0=>rfl
 |k+1=>by unfold E5;rw[jL,OY x b xs k]
theorem nS{x:Int}{b:Nat}{xs:List NAgent}{p:aJ}(h:ak xs p):∀k,ak (E5 x b xs k) p
 |0=>h
 |k+1=>(nS h k).move
theorem Ep{x:Int}{b:Nat}{xs:List NAgent}(h:bE xs):∀k,(∀i:Nat,i<k→ak xs (x,((i:Nat):Int)+1)∧ak xs (((b+i:Nat):Int),1))→bE (E5 x b xs k)
 |0,_=>h
 |k+1,hk=>(Ep h k fun i hi=>hk i (by omega)).move (nS (hk k (by omega)).1 k) (nS (hk k (by omega)).2 k)
theorem rF(xs:List NAgent)(y i:Int):(bF xs y i).length=xs.length+1:=by simp[bF]
def fT(b:Int)(xs:List NAgent)(i:Nat):List NAgent:=(xs.take i).map (jB b)++xs.drop i
theorem o9(b:Int)(xs:List NAgent)(i:Nat):(fT b xs i).length=xs.length:=by unfold fT;simp;omega
theorem GI{b:Int}{xs:List NAgent}{i:Nat}(h:i<xs.length):ah (fT b xs i) (i:Nat)=ah xs (i:Nat):=by
 unfold ah elt fT;rw[Int.toNat_natCast,List.getD_eq_getElem?_getD,List.getD_eq_getElem?_getD,List.getElem?_append_right (by simp;omega)];simp;rw[show i-min i xs.length=0 by omega,Nat.add_zero]
theorem qI{xs:List NAgent}{i:Nat}(h:i<xs.length):ah xs (i:Nat)=xs[i]:=by
 unfold ah elt;rw[Int.toNat_natCast,List.getD_eq_getElem?_getD,List.getElem?_eq_getElem h];rfl
theorem Af{b:Int}{xs:List NAgent}{i:Nat}(h:i<xs.length):fT b xs (i+1)=(fT b xs i).set i (jB b (ah xs (i:Nat))):=by
 unfold fT;rw[List.set_append_right _ _ (by simp;omega),List.take_add_one,List.getElem?_eq_getElem h,List.map_append,qI h];have e:i-((xs.take i).map (jB b)).length=0:=by simp;omega
 rw[e,List.drop_eq_getElem_cons h,List.set_cons_zero];simp
theorem GJ{b:Int}{xs:List NAgent}{i:Nat}(h:i<xs.length)(hk:bV (ah xs (i:Nat)).1=false):fT b xs (i+1)=fT b xs i:=by
 rw[Af h]
 have:jB b (ah xs (i:Nat))=ah (fT b xs i) (i:Nat):=by
  rw[GI h];unfold jB;rw[show bV (ah xs (i:Nat)).kind=false from hk];rfl
 rw[this,qI (by rw[o9];exact h)];exact List.set_getElem_self _
theorem oD{b:Int}{xs:List NAgent}{i:Nat}(h:i<xs.length):fV b (xs.take (i+1))=(fV b (xs.take i)&&(!(bV (ah xs (i:Nat)).1)||decide ((ah xs (i:Nat)).2.1+b≤8))):=by
 unfold fV;rw[List.take_add_one,List.getElem?_eq_getElem h,List.all_append,qI h];simp
theorem K3{b:Int}{xs:List NAgent}(h:fV b xs=true)(i:Nat):fV b (xs.take i)=true:=by
 unfold fV at h ⊢;rw[List.all_eq_true]at h ⊢;exact fun x hx=>h x (List.mem_of_mem_take hx)
abbrev ZaP:U:=.pair uNet (.pair (.sl uNet) .any)
def bQ(bk:List (List NAgent))(i:Int):List NAgent:=elt ([]:List NAgent) bk i
def checkN(bk:List (List NAgent))(xs:List NAgent)(p:Int×Int):Int×Int×Int×Int:=
 let c:=bn (ah xs p.1) (ah xs p.2)
 let x:=bif c.2 then p.2 else p.1
 let y:=bif c.2 then p.1 else p.2
 bif c.1==8 then(0,0,0,11)else
 bif c.1==7 then(bif decide ((bk.length:Int)≤(ah xs x).2.2.1)then(0,0,0,3)else bif !(fV (ah xs x).2.1 (bQ bk (ah xs x).2.2.1))then(0,0,0,9)else(c.1,x,y,0))
 else(c.1,x,y,0)
def tQ(bk:List (List NAgent))(xs:List NAgent)(c x y:Int):Int:=
 (dP c (bif c==3 then IntKind.i64.wrap (((ah xs y).2.2.2.2.length:Nat)-1)else bif c==4 then IntKind.i64.wrap (((ah xs y).2.2.2.2.length:Nat)-1)
  else bif c==6 then(bif (ah xs x).1==9 then IntKind.i64.wrap (((ah xs x).2.2.2.2.length:Nat)-1)else 0)else bif c==7 then((bQ bk (ah xs x).2.2.1).length:Nat)else 0)).1
def tK(y:Int)(xs:List NAgent):Nat→List NAgent
 |0=>xs
 |k+1=>dM (tK y xs k++[bC 5 0 0 [] 1]) (y,((k+1:Nat):Int)) (((xs.length+k:Nat):Int),0)
def iH(xs:List NAgent)(y:Int):List NAgent:=tK y xs ((ah xs y).2.2.2.2.length-1)
theorem kH(y:Int)(xs:List NAgent):∀k,(tK y xs k).length=xs.length+k
 |0=>rfl
 |k+1=>by unfold tK;rw[jL,List.length_append,kH y xs k];simp;omega
theorem qj{y:Int}{xs:List NAgent}{p:aJ}(h:ak xs p):∀k,ak (tK y xs k) p
 |0=>h
 |k+1=>(qj h k).app.move
theorem AZ{y:Int}{xs:List NAgent}(k:Nat):ak (tK y xs k++[bC 5 0 0 [] 1]) (((xs.length+k:Nat):Int),0):=by
 have:=ak.new (xs:=tK y xs k) (k:=5) (l:=0) (v:=0) (d:=[]) (n:=1) (s:=0) (by decide) (by decide)
 rwa[kH]at this
theorem yR{y:Int}{xs:List NAgent}(h:bE xs)(h0:ak xs (0,0)):∀k,(∀i:Nat,i<k→ak xs (y,((i+1:Nat):Int)))→bE (tK y xs k)
 |0,_=>h
 |k+1,hk=>((yR h h0 k fun i hi=>hk i (by omega)).add (qj h0 k) _ _ _ _ _).move (qj (hk k (by omega)) k).app (AZ k)
theorem Ov(xs:List NAgent)(p q:aJ)(i:Int):(ah (bP xs p q) i).2.2.2.2.length=(ah xs i).2.2.2.2.length:=by
 unfold bP;have h1:=pK (aN xs p q) q p i;have h2:=pK xs p q i;exact h1.trans h2
theorem IJ{y:Int}{xs:List NAgent}(hy:y.toNat<xs.length):∀k,(ah (tK y xs k) y).2.2.2.2.length=(ah xs y).2.2.2.2.length
 |0=>rfl
 |k+1=>by
  unfold tK dM;rw[Ov,dH (by rw[kH];omega),IJ hy k]
def Jz(bk:List (List NAgent)):Prop:=∀i:Nat,(∀j:Nat,0≤(ah (bQ bk i) j).2.1∧(ah (bQ bk i) j).2.1≤8)
def dz(b:Int)(a:NAgent):NAgent:=(a.1,a.2.1,a.2.2.1,a.2.2.2.1,a.2.2.2.2.map fun p=>(p.1+b,p.2))
def nN(bk:List (List NAgent))(xs:List NAgent)(x:Int):List NAgent:=cO (ah xs x).2.1 (bQ bk (ah xs x).2.2.1)
def nX(bk:List (List NAgent))(xs:List NAgent)(x y:Int):List NAgent:=
 bP (xs++((nN bk xs x).drop 1).map (dz ((xs.length:Nat)-1))) (y,0) ((aF (nN bk xs x) (0,0)).1+((xs.length:Nat)-1),(aF (nN bk xs x) (0,0)).2)
def iq(bk:List (List NAgent))(xs:List NAgent)(c x y:Int):List NAgent:=
 bif c==1 then aS (aS xs (x,1) (y,1)) (x,2) (y,2)else bif c==2 then aS (aS xs (x,1) (y,1)) (x,2) (y,2)
 else bif c==3 then bJ xs x y else bif c==4 then iH xs y else bif c==5 then bI xs x y else bif c==6 then kG xs x y else bif c==7 then nX bk xs x y else xs
def gI(c x y:Int):List Int:=bif c==7 then[x]else[x,y]
structure IntPre(xs:List NAgent)(c x y:Int):Prop where
 x0:0≤x∧x<(xs.length:Nat)
 y0:0≤y∧y<(xs.length:Nat)
 c12:c=1∨c=2→ak xs (x,1)∧ak xs (x,2)∧ak xs (y,1)∧ak xs (y,2)
 c3:c=3→ak xs (x,1)∧ak xs (x,2)
 px:0<(ah xs x).2.2.2.2.length∧(ah xs x).2.2.2.2.length≤1000
 py:0<(ah xs y).2.2.2.2.length∧(ah xs y).2.2.2.2.length≤1000
 dy:(ah xs y).2.2.2.1.length≤1000000
 c5:c=5→ak xs (y,1)∧((ah xs y).1=7→ak xs (y,2))∧((ah xs y).1≠7→0<(ah xs y).2.2.2.1.length)
 c6:c=6→ak xs (y,1)∧((ah xs x).1=6→(ah xs y).2.2.2.1.length=2)∧((ah xs x).1≠6→0≤(ah xs x).2.2.1∧(ah xs x).2.2.1<((ah xs y).2.2.2.1.length:Nat))
def qo(lv x:Int)(b:Nat)(xs:List NAgent):Nat→List NAgent
 |0=>xs
 |k+1=>dM (bP (qo lv x b xs k++[bC 3 lv 0 [] 3]) (jv b k) (((b+k:Nat):Int),0)) (x,((k+1:Nat):Int)) (((b+k:Nat):Int),1)
def dJ(xs:List NAgent)(x y:Int):List NAgent:=
 bif (ah xs y).1==11 then dM (bF xs y (bif (ah xs x).2.2.1==0 then 1 else 0)) (y,1) ((xs.length:Nat),0)
 else dM (qo (ah xs y).2.1 x (xs.length+1) (bF xs y (ah xs x).2.2.1) ((ah xs x).2.2.2.2.length-1)) (y,1) (jv (xs.length+1) ((ah xs x).2.2.2.2.length-1))
theorem qO(lv x:Int)(b:Nat)(xs:List NAgent):∀k,(qo lv x b xs k).length=xs.length+k
 |0=>rfl
 |k+1=>by unfold qo;rw[jL,jJ,List.length_append,qO lv x b xs k];simp;omega
theorem nT{lv x:Int}{b:Nat}{xs:List NAgent}{p:aJ}(h:ak xs p):∀k,ak (qo lv x b xs k) p
 |0=>h
 |k+1=>(nT h k).app.link.move
theorem Pg{lv x:Int}{xs:List NAgent}{s:Int}(h0:0≤s)(h1:s<3):∀{k i:Nat},i<k→ak (qo lv x xs.length xs k) (((xs.length+i:Nat):Int),s)
 |0,i,h=>by omega
 |k+1,i,h=>by
  by_cases e:i=k
  ·subst e;have:=(ak.new (xs:=qo lv x xs.length xs i) (k:=3) (l:=lv) (v:=0) (d:=[]) (n:=3) h0 (by omega));rw[qO]at this;exact this.link.move
  ·exact(Pg h0 h1 (by omega:i<k)).app.link.move
theorem xR{lv x:Int}{xs:List NAgent}(hr:ak xs (jv xs.length 0)):∀k,ak (qo lv x xs.length xs k) (jv xs.length k)
 |0=>hr
 |k+1=>Pg (by decide) (by decide) (Nat.lt_succ_self k)
theorem wz{lv x:Int}{xs:List NAgent}(k:Nat){s:Int}(h0:0≤s)(h1:s<3):ak (qo lv x xs.length xs k++[bC 3 lv 0 [] 3]) (((xs.length+k:Nat):Int),s):=by
 have:=ak.new (xs:=qo lv x xs.length xs k) (k:=3) (l:=lv) (v:=0) (d:=[]) (n:=3) h0 (by omega)
 rwa[qO]at this
theorem wC{lv x:Int}{xs:List NAgent}(h:bE xs)(h0:ak xs (0,0))(hr:ak xs (jv xs.length 0)):∀k,(∀i:Nat,i<k→ak xs (x,((i+1:Nat):Int)))→bE (qo lv x xs.length xs k)
 |0,_=>h
 |k+1,hk=>(((wC h h0 hr k fun i hi=>hk i (by omega)).add (nT h0 k) _ _ _ _ _).link (xR hr k).app (wz k (by decide) (by decide))).move (nT (hk k (by omega)) k).app.link (wz k (by decide) (by decide)).link
def yO(lab c d:Int)(xs:List NAgent)(i:Nat):List NAgent:=bP (bP (xs++[bC 4 lab 0 [] 3]) ((xs.length:Nat),1) (c,(i:Nat))) ((xs.length:Nat),2) (d,(i:Nat))
def aW(lab c d:Int)(xs:List NAgent):Nat→List NAgent
 |0=>xs
 |k+1=>yO lab c d (aW lab c d xs k) (k+1)
theorem Ml(xs:List NAgent)(p q:aJ)(i:Int):(ah (bP xs p q) i).2.1=(ah xs i).2.1:=by
 unfold bP
 have h:∀(xs:List NAgent) (p q:aJ),(ah (aN xs p q) i).2.1=(ah xs i).2.1:=fun xs p q=>by
  rw[fu];split
  ·rename_i h;rw[Aq h.1.symm]
  ·rfl
 rw[h,h]
theorem kW{x c d:Int}{xs:List NAgent}(hx:x.toNat<xs.length):∀k,aW (ah xs x).2.1 c d xs k=dO x c d xs k∧(ah (dO x c d xs k) x).2.1=(ah xs x).2.1
 |0=>⟨rfl,rfl⟩
 |k+1=>by
  obtain⟨h1,h2⟩:=kW hx k (c:=c) (d:=d);refine⟨?_,?_⟩
  ·unfold aW dO yO oK;rw[h1,h2]
  ·unfold dO oK;rw[Ml,Ml,dH (by rw[jr];omega),h2]
def uM(z:Int):Prop:=0≤z∧z≤1000000
def d9(b:Int)(ps:List aJ)(j:Nat):List aJ:=(ps.take j).map (fun p=>(p.1+b,p.2))++ps.drop j
theorem jo(b:Int)(ps:List aJ)(j:Nat):(d9 b ps j).length=ps.length:=by unfold d9;simp;omega
theorem uZ{b:Int}{ps:List aJ}{j:Nat}(h:j<ps.length):elt (dflt uPort) (d9 b ps j) (j:Nat)=elt (dflt uPort) ps (j:Nat):=by
 unfold elt d9;rw[Int.toNat_natCast,List.getD_eq_getElem?_getD,List.getD_eq_getElem?_getD,List.getElem?_append_right (by simp;omega)];simp;rw[show j-min j ps.length=0 by omega,Nat.add_zero]
theorem sP{b:Int}{ps:List aJ}{j:Nat}(h:j<ps.length):d9 b ps (j+1)=(d9 b ps j).set j ((elt (dflt uPort) ps (j:Nat)).1+b,(elt (dflt uPort) ps (j:Nat)).2):=by
 have he:elt (dflt uPort) ps (j:Nat)=ps[j]:=by
  unfold elt;rw[Int.toNat_natCast,List.getD_eq_getElem?_getD,List.getElem?_eq_getElem h];rfl
 unfold d9;rw[List.set_append_right _ _ (by simp;omega),List.take_add_one,List.getElem?_eq_getElem h,List.map_append,he];have e:j-((ps.take j).map fun p:aJ=>(p.1+b,p.2)).length=0:=by simp;omega
 rw[e,List.drop_eq_getElem_cons h,List.set_cons_zero];simp
theorem uY(b:Int)(ps:List aJ):d9 b ps ps.length=ps.map fun p=>(p.1+b,p.2):=by unfold d9;simp
def jQ(lv b:Int)(t:List NAgent)(k:Nat):List NAgent:=(((cO lv t).drop 1).take k).map (dz b)
theorem yS{lv b:Int}{t:List NAgent}{k:Nat}(h:k+1<t.length):jQ lv b t (k+1)=jQ lv b t k++[dz b (jB lv (ah t ((k+1:Nat):Int)))]:=by
 unfold jQ cO;rw[List.take_add_one,List.map_append,List.getElem?_drop,List.getElem?_map,qI h,show 1+k=k+1 by omega,List.getElem?_eq_getElem h];rfl
theorem A9{lv b:Int}{t:List NAgent}{k:Nat}(h:k+1≤t.length):(jQ lv b t k).length=k:=by unfold jQ cO;simp;omega
def fE(t:List NAgent)(lv:Int)(xs:List NAgent)(y:Int):List NAgent:=
 bP (xs++jQ lv ((xs.length:Nat)-1) t (t.length-1)) (((xs.length:Nat)-1)+(aF t (0,0)).1,(aF t (0,0)).2) (y,0)
def iN(x y:NAgent):Bool:=bif (bif x.1==9 then y.1==10 else false)then decide ((y.2.2.2.1.length:Int)≤x.2.2.1)else false
def nU(x y:NAgent):Bool:=bif (bif x.1==10 then y.1==9 else false)then decide ((x.2.2.2.1.length:Int)≤y.2.2.1)else false
def bO(x y:NAgent):Int:=bif iN x y then 8 else bif nU x y then 8 else aT x.1 x.2.1 y.1 y.2.1
def firstS(xs:List NAgent)(a b:Int):Int×Int:=bif bf (ah xs a).1 (ah xs a).2.1 (ah xs b).1 (ah xs b).2.1==2 then(b,a)else(a,b)
def Bv(a b:Int):Int:=bif decide (b<a)then a else b
def mO(t:List NAgent):Nat→Int
 |0=>0
 |k+1=>Bv (mO t k) (ah t (k:Nat)).2.1
def nZ(x:NAgent):Int:=bif x.1==9 then IntKind.i64.wrap ((x.2.2.2.2.length:Nat)-1)else 0
def sV(bk:List (List NAgent))(c:Int)(x y:NAgent):Int:=
 bif c==3 then IntKind.i64.wrap ((y.2.2.2.2.length:Nat)-1)else bif c==4 then IntKind.i64.wrap ((y.2.2.2.2.length:Nat)-1)else bif c==6 then nZ x else bif c==7 then((bQ bk x.2.2.1).length:Nat)else 0
def iB(bk:List (List NAgent))(x y:NAgent):Int×Int:=
 bif bO x y==8 then(0,11)else
 bif bO x y==7 then(bif decide ((bk.length:Int)≤x.2.2.1)then(0,3)else bif decide (8<IntKind.i64.wrap (mO (bQ bk x.2.2.1) (bQ bk x.2.2.1).length+x.2.1))then(0,9)else((dP 7 (sV bk 7 x y)).1,0))
 else((dP (bO x y) (sV bk (bO x y) x y)).1,0)
def bR(xs:List NAgent):Nat→Nat
 |0=>0
 |k+1=>bif (ah xs (k:Nat)).1 !=0 then bR xs k+1 else bR xs k
theorem uX(xs:List NAgent):∀k,bR xs k≤k
 |0=>Nat.le_refl _
 |k+1=>by
  have:=uX xs k;unfold bR;cases ((ah xs (k:Nat)).1 !=0)<;>simp<;>omega
def iJ(bk:List (List NAgent))(xs:List NAgent)(c x y:Int):List NAgent:=
 bif c==1 then aS (aS xs (x,1) (y,1)) (x,2) (y,2)else bif c==2 then aS (aS xs (x,1) (y,1)) (x,2) (y,2)
 else bif c==3 then bJ xs x y else bif c==4 then iH xs y else bif c==5 then bI xs x y else bif c==6 then dJ xs x y else bif c==7 then fE (bQ bk (ah xs x).2.2.1) (ah xs x).2.1 xs y else xs
def gH(bk:List (List NAgent))(xs:List NAgent)(c x y:Int):List NAgent:=bif c==7 then bD (iJ bk xs c x y) x else bD (bD (iJ bk xs c x y) x) y
structure JF(xs:List NAgent)(c x y:Int):Prop extends IntPre xs c x y where
 k5:c=5→(ah xs y).1=7∨(ah xs y).1=8
 k6:c=6→((ah xs y).1=11→(ah xs y).2.2.2.1.length=2)∧((ah xs y).1≠11→0≤(ah xs x).2.2.1∧(ah xs x).2.2.1<((ah xs y).2.2.2.1.length:Nat)∧(ah xs x).1=9)
theorem firstS_in{xs:List NAgent}{a b:Int}{n:Int}(ha:0≤a∧a<n)(hb:0≤b∧b<n):(0≤(firstS xs a b).1∧(firstS xs a b).1<n)∧(0≤(firstS xs a b).2∧(firstS xs a b).2<n):=by
 unfold firstS;cases bf (ah xs a).1 (ah xs a).2.1 (ah xs b).1 (ah xs b).2.1==2
 ·exact⟨ha,hb⟩
 ·exact⟨hb,ha⟩
theorem fD(xs:List NAgent)(a:Int):(bD xs a).length=xs.length:=List.length_set
theorem zy(xs:List NAgent)(x y:Int):xs.length≤(bJ xs x y).length:=by
 unfold bJ lQ dup3;rw[AY,jL,jL,jr,gZ];omega
theorem DI(xs:List NAgent)(x y:Int):xs.length≤(bI xs x y).length:=by
 unfold bI;cases (ah xs y).1==7
 ·rw[cond_false,jL];simp
 ·rw[cond_true,jL,jL];simp
theorem Fa(xs:List NAgent)(x y:Int):xs.length≤(dJ xs x y).length:=by
 unfold dJ;cases (ah xs y).1==11
 ·rw[cond_false,jL,qO];unfold bF;simp;omega
 ·rw[cond_true,jL];unfold bF;simp
def Z5(us:List Value):El (hol 5):=(us.getD 0 undef,us.getD 1 undef,us.getD 2 undef,us.getD 3 undef,us.getD 4 undef)
def mH:Nat→List Value→List (El (hol 5))
 |0,_=>[]
 |n+1,us=>Z5 us::mH n (us.drop 5)
theorem y5:∀(n:Nat) (us:List Value),(mH n us).length=n
 |0,_=>rfl
 |n+1,us=>by unfold mH;rw[List.length_cons,y5 n]
theorem CZ:∀(n:Nat) (us:List Value),us.length=n*5→(mH n us).flatMap (enc (hol 5))=us.map D.v
 |0,us,h=>by
  have:us=[]:=List.length_eq_zero_iff.1 (by omega);rw[this];rfl
 |n+1,us,h=>by
  match us,h with
  |a::b::c::d::e::us,h=>
   have ih:=CZ n us (by simp only[List.length_cons]at h;omega);unfold mH;rw[List.flatMap_cons];show _++(mH n us).flatMap (enc (hol 5))=_;rw[ih];rfl
  |[],h=>simp at h
  |[_],h=>simp at h;omega
  |[_,_],h=>simp at h;omega
  |[_,_,_],h=>simp at h;omega
  |[_,_,_,_],h=>simp at h;omega
theorem TN.Qb{w:World}:∀{vs us:List Value} {bs:List Nat},TN w (vs.map D.v) bs us→us=vs∧bs=[]
 |[],us,bs,h=>by obtain⟨rfl,rfl⟩:=TN.nil.1 h;exact⟨rfl,rfl⟩
 |v::vs,us,bs,h=>by
  rw[List.map_cons]at h;obtain⟨b1,b2,u,us',rfl,rfl,h1,h2⟩:=TN.cons.1 h;obtain⟨rfl,rfl,_⟩:=T1.v.1 h1;obtain⟨rfl,rfl⟩:=TN.Qb h2;exact⟨rfl,rfl⟩
theorem Zv{w:World}{x:Value}{ds:List D}{bs:List Nat}{us:List Value}(h:TN w (.v x::ds) bs us):∃us',us=x::us'∧TN w ds bs us':=by
 obtain⟨b1,b2,u,us',e1,e2,h1,h2⟩:=TN.cons.1 h;obtain⟨e3,e4,_⟩:=T1.v.1 h1;exact⟨us',by rw[e1,e3],by rw[e2,e4];exact h2⟩
theorem ZaO{w:World}{d:D}{ds:List D}{bs:List Nat}{us:List Value}(h:TN w (d::ds) bs us):∃u us' b2,us=u::us'∧TN w ds b2 us':=by
 obtain⟨b1,b2,u,us',e1,e2,h1,h2⟩:=TN.cons.1 h;exact⟨u,us',b2,e1,h2⟩
section
variable {cx:Cx}{β:Nat→Value}{w:World}{R:List fQ}
theorem Inv.YU{g t n:Nat}{xs:List NAgent}{us:List Value}(h:Inv cx.w0 cx.F0 w (Tok.res cx β (.row g t 5 uAgent xs us)::R))(hl:us.length=xs.length*5):
  Inv cx.w0 cx.F0 w (Tok.res cx β (.row g t 5 (hol 5) (mH xs.length us) us)::Tok.res cx β (.nest n uAgent xs us)::R):=by
 refine Inv.part h fun F hp=> ?_
 obtain⟨hs,bs,us',rfl,hg,hpre⟩:=hp;have hul:us'.length=xs.length*5:=hg.row.1;have e:us=us':=hpre.eq_of_length (by omega);subst e;refine⟨C9 (β g),bs,fun b hb=>by simp[hb],fun b hb=>by simp[hb],fun b hb=>hg.out b (lD.1 hb),⟨rfl,[],us,by simp,?_,List.prefix_refl _⟩,⟨hg.tn,hg.own⟩⟩;refine⟨?_,?_,Own.nil _ _,by simp⟩
 ·have:=hg.row;show World.ownsRow w 0 t 5 (β g) (mH xs.length us).length us;rw[y5];exact this
 ·show TN w ((mH xs.length us).flatMap (enc (hol 5))) [] us;rw[CZ _ _ hl];exact TN.scalars hg.tn.Ih
def tL(ys:List NAgent)(us:List Value)(j:Nat):El (hol 5):=(.int .i64 (ah ys (j:Nat)).1,.int .i64 (ah ys (j:Nat)).2.1,.int .i64 (ah ys (j:Nat)).2.2.1,us.getD (j*5+3) undef,us.getD (j*5+4) undef)
theorem Ce:∀{ys:List NAgent} {us:List Value} {bs:List Nat},TN w (ys.flatMap (enc uAgent)) bs us→us.length=ys.length*5∧((List.range ys.length).map (tL ys us)).flatMap (enc (hol 5))=us.map D.v
 |[],us,bs,h=>by obtain⟨rfl,rfl⟩:=TN.nil.1 h;exact⟨rfl,rfl⟩
 |y::ys,us,bs,h=>by
  rw[List.flatMap_cons]at h;obtain⟨b1,b2,u1,u2,rfl,rfl,h1,h2⟩:=TN.append.1 h;have h1':TN w [.v (.int .i64 y.1),.v (.int .i64 y.2.1),.v (.int .i64 y.2.2.1),.sl y.2.2.2.1.length (List.flatMap (enc (.int .i64)) y.2.2.2.1),.sl y.2.2.2.2.length (List.flatMap (enc uPort) y.2.2.2.2)] b1 u1:=h1;obtain⟨v1,rfl,k3⟩:=Zv h1';obtain⟨v2,rfl,k4⟩:=Zv k3;obtain⟨v3,rfl,k5⟩:=Zv k4;obtain⟨a4,v4,b4,rfl,k6⟩:=ZaO k5;obtain⟨a5,v5,b5,rfl,k7⟩:=ZaO k6;obtain⟨rfl,rfl⟩:=TN.nil.1 k7;obtain⟨k1,k2⟩:=Ce h2;refine⟨by simp only[List.length_append,List.length_cons,List.length_nil];omega,?_⟩
  rw[List.length_cons,List.range_succ_eq_map,List.map_cons,List.flatMap_cons,List.map_map]
  have e:(List.range ys.length).map (tL (y::ys) ([.int .i64 y.1,.int .i64 y.2.1,.int .i64 y.2.2.1,a4,a5]++u2)∘Nat.succ)=(List.range ys.length).map (tL ys u2):=List.map_congr_left fun j _=>by
   have e1:ah (y::ys) ((j.succ:Nat):Int)=ah ys (j:Nat):=by unfold ah elt;rw[Int.toNat_natCast,Int.toNat_natCast];rfl
   have e2:∀o:Nat,([.int .i64 y.1,.int .i64 y.2.1,.int .i64 y.2.2.1,a4,a5]++u2:List Value).getD (j.succ*5+o) undef=u2.getD (j*5+o) undef:=fun o=>by
    rw[List.getD_eq_getElem?_getD,List.getElem?_append_right (by simp only[List.length_cons,List.length_nil];omega),List.getD_eq_getElem?_getD];simp only[List.length_cons,List.length_nil];rw[show j.succ*5+o-(0+1+1+1+1+1)=j*5+o by omega]
   simp only[Function.comp,tL];rw[e1,e2,e2]
  have e':(List.range ys.length).map (tL (y::ys) (Value.int .i64 y.1::Value.int .i64 y.2.1::Value.int .i64 y.2.2.1::a4::a5::[]++u2)∘Nat.succ)=(List.range ys.length).map (tL ys u2):=e;rw[e',k2,List.map_append];rfl
theorem Inv.merge{gA gB t t' n:Nat}{xs ys:List NAgent}{usA usB preA:List Value}{hs:List (El (hol 5))}(h:Inv cx.w0 cx.F0 w (Tok.res cx β (.row gA t 5 (hol 5) (mH xs.length usA++hs) preA)::Tok.res cx β (.nest n uAgent xs usA)::Tok.res cx β (.row gB t' 5 uAgent ys usB)::R))
  (hlA:usA.length=xs.length*5) (hlB:usB.length=ys.length*5) (h0:0<ys.length) (hh:hs=(List.range (ys.length-1)).map fun j=>tL ys usB (j+1)):
  Inv cx.w0 cx.F0 w (Tok.res cx β (.row gA t 5 uAgent (xs++ys.drop 1) usA)::R):=by
 have hB:=h.perm ((List.Perm.cons _ (List.Perm.swap _ _ _)).trans (List.Perm.swap _ _ _));obtain⟨F,hp,k,_⟩:=hB.take1;obtain⟨_,bs,us',rfl,hg,hpre⟩:=hp;have hul:us'.length=ys.length*5:=hg.row.1;have e:usB=us':=hpre.eq_of_length (by omega);subst e
 match ys,h0,hg,hh,hlB with
 |y::ys,h0,hg,hh,hlB=>
  have htn:TN w ((y::ys).flatMap (enc uAgent)) bs usB:=hg.tn;obtain⟨q1,q2⟩:=Ce htn;rw[List.flatMap_cons]at htn;obtain⟨b1,b2,u1,u2,rfl,rfl,h1,h2⟩:=TN.append.1 htn
  have hu1:u1.length=5:=by
   have:=(Ce h2).1;rw[List.length_append]at q1;simp only[List.length_cons]at q1;omega
  have hcell:hs.flatMap (enc (hol 5))=u2.map D.v:=by
   rw[List.length_cons,List.range_succ_eq_map,List.map_cons,List.flatMap_cons,List.map_map,List.map_append]at q2;have l1:(enc (hol 5) (tL (y::ys) (u1++u2) 0)).length=(u1.map D.v).length:=by rw[List.length_map,hu1];rfl
   have:=(List.append_inj q2 l1).2;rw[hh];exact this
  have hN:Inv cx.w0 cx.F0 w (gW u2 (ys.flatMap (enc uAgent))::Tok.res cx β (.row gA t 5 (hol 5) (mH xs.length usA++hs) preA)::Tok.res cx β (.nest n uAgent xs usA)::R):=k _ b2 (fun b hb=>by simp[hb]) ⟨h2,(Own.parts hg.own).2.1⟩
  have hM:Inv cx.w0 cx.F0 w (gW (usA++u2) (xs.flatMap (enc uAgent)++ys.flatMap (enc uAgent))::Tok.res cx β (.row gA t 5 (hol 5) (mH xs.length usA++hs) preA)::R):=by
   have:Inv cx.w0 cx.F0 w (gW usA (xs.flatMap (enc uAgent))::gW u2 (ys.flatMap (enc uAgent))::Tok.res cx β (.row gA t 5 (hol 5) (mH xs.length usA++hs) preA)::R):=hN.perm (by
    refine(List.Perm.cons _ (List.Perm.swap _ _ _)).trans (List.Perm.swap _ _ _))
   exact this.zT
  refine hM.swap.join fun F1 F2 hp1 hp2 hd=> ?_
  obtain⟨_,bA,uA,rfl,gA',_⟩:=hp1;have hAtn:TN w ((mH xs.length usA++hs).flatMap (enc (hol 5))) bA uA:=gA'.tn;rw[List.flatMap_append,CZ _ _ hlA,hcell,←List.map_append]at hAtn;obtain⟨rfl,rfl⟩:=TN.Qb hAtn;have hhl:hs.length=ys.length:=by rw[hh,List.length_map,List.length_range];rfl
  refine⟨C9 (β gA)++F2,fun b hb=>by
   rcases List.mem_append.1 hb with hb|hb
   ·exact .inl (by simp[hb])
   ·exact .inr hb,⟨rfl,F2,usA++u2,rfl,⟨?_,?_,hp2.2,fun k hk hm=>hd k (by simp[lD.2 hk]) hm⟩,List.prefix_append _ _⟩⟩
  ·have:=gA'.row;show World.ownsRow w 0 t 5 (β gA) (xs++ys).length (usA++u2);rw[show(mH xs.length usA++hs).length=(xs++ys).length by rw[List.length_append,y5,hhl,List.length_append]]at this;exact this
  ·have:=hp2.1;rw[←List.flatMap_append]at this;exact this
end
end Go.Tr
namespace Go.Tr
open Go Go.RowKit
def uK(b:Int)(t:List NAgent):Nat→List NAgent
 |0=>t
 |k+1=>(uK b t k).set (1+k) (dz b (ah t ((1+k:Nat):Int)))
def Rl(b:Int)(a:NAgent)(j:Nat):NAgent:=(a.1,a.2.1,a.2.2.1,a.2.2.2.1,d9 b a.2.2.2.2 j)
def FW(b:Int)(t:List NAgent)(k j:Nat):List NAgent:=(uK b t k).set (1+k) (Rl b (ah t ((1+k:Nat):Int)) j)
section
variable {b:Int}{t:List NAgent}
theorem tY:∀k,(uK b t k).length=t.length
 |0=>rfl
 |k+1=>by unfold uK;rw[List.length_set,tY k]
theorem PZ(k j:Nat):(FW b t k j).length=t.length:=by unfold FW;rw[List.length_set,tY k]
theorem Bz:∀(k i:Nat),(uK b t k)[i]? =if 1≤i∧i≤k then(t[i]?).map (dz b)else t[i]?
 |0,i=>by rw[if_neg (by omega)];rfl
 |k+1,i=>by
  unfold uK;rw[List.getElem?_set,tY,Bz k i]
  by_cases h:1+k=i
  ·subst h;rw[if_pos (rfl:1+k=1+k)]
   by_cases h2:1+k<t.length
   ·rw[if_pos h2,if_pos (by omega:1≤1+k∧1+k≤k+1),List.getElem?_eq_getElem h2];show _=some (dz b _)
    congr 2
    unfold ah elt;rw[Int.toNat_natCast,List.getD_eq_getElem?_getD,List.getElem?_eq_getElem h2];rfl
   ·rw[if_neg h2,if_pos (by omega:1≤1+k∧1+k≤k+1),List.getElem?_eq_none (by omega)];rfl
  ·rw[if_neg h]
   by_cases h2:1≤i∧i≤k
   ·rw[if_pos h2,if_pos (by omega)]
   ·rw[if_neg h2,if_neg (by omega)]
theorem Ap(xs:List NAgent)(i:Nat):ah xs (i:Nat)=(xs[i]?).getD (dflt uAgent):=by
 unfold ah elt;rw[Int.toNat_natCast,List.getD_eq_getElem?_getD]
theorem Y3{k i:Nat}(h:k<i):ah (uK b t k) (i:Nat)=ah t (i:Nat):=by
 rw[Ap,Ap,Bz,if_neg (by omega)]
theorem Uv(k i:Nat):(ah (uK b t k) (i:Nat)).1=(ah t (i:Nat)).1∧(ah (uK b t k) (i:Nat)).2.1=(ah t (i:Nat)).2.1∧(ah (uK b t k) (i:Nat)).2.2.1=(ah t (i:Nat)).2.2.1:=by
 rw[Ap,Ap,Bz];split
 ·cases t[i]? <;>exact⟨rfl,rfl,rfl⟩
 ·exact⟨rfl,rfl,rfl⟩
theorem Rm(k:Nat)(us:List Value)(i:Nat):tL (uK b t k) us i=tL t us i:=by
 obtain⟨h1,h2,h3⟩:=Uv (b:=b) (t:=t) k i;unfold tL;rw[h1,h2,h3]
theorem Us{k j:Nat}(h:1+k<t.length):ah (FW b t k j) ((1+k:Nat):Int)=Rl b (ah t ((1+k:Nat):Int)) j:=by
 unfold FW;rw[mD,if_pos ⟨by rw[Int.toNat_natCast],by rw[tY];exact h⟩]
theorem Uu(k:Nat):FW b t k 0=uK b t k:=by
 unfold FW;apply List.ext_getElem?;intro i;rw[List.getElem?_set,tY]
 by_cases h:1+k=i
 ·subst h;rw[if_pos (rfl:1+k=1+k),Bz,if_neg (by omega:¬(1≤1+k∧1+k≤k))]
  by_cases h2:1+k<t.length
  ·rw[if_pos h2,List.getElem?_eq_getElem h2]
   congr 1
   rw[Ap,List.getElem?_eq_getElem h2];unfold Rl d9;simp
  ·rw[if_neg h2,List.getElem?_eq_none (by omega)]
 ·rw[if_neg h]
theorem WS(k:Nat):FW b t k (ah t ((1+k:Nat):Int)).2.2.2.2.length=uK b t (k+1):=by
 show(uK b t k).set (1+k) (Rl b (ah t ((1+k:Nat):Int)) (ah t ((1+k:Nat):Int)).2.2.2.2.length)=(uK b t k).set (1+k) (dz b (ah t ((1+k:Nat):Int)))
 congr 1
 unfold Rl dz;rw[uY]
theorem Ut{k j:Nat}(h:1+k<t.length)(hj:j<(ah t ((1+k:Nat):Int)).2.2.2.2.length){z:Int}(hz:z=(elt (dflt uPort) (ah t ((1+k:Nat):Int)).2.2.2.2 (j:Nat)).1+b):
  (FW b t k j).set (1+k) ((ah (FW b t k j) ((1+k:Nat):Int)).1,(ah (FW b t k j) ((1+k:Nat):Int)).2.1,(ah (FW b t k j) ((1+k:Nat):Int)).2.2.1,(ah (FW b t k j) ((1+k:Nat):Int)).2.2.2.1,(ah (FW b t k j) ((1+k:Nat):Int)).2.2.2.2.set j (z,(elt (dflt uPort) (ah (FW b t k j) ((1+k:Nat):Int)).2.2.2.2 (j:Nat)).2))=FW b t k (j+1):=by
 rw[Us h];unfold FW;rw[List.set_set]
 congr 1
 unfold Rl;rw[sP hj,uZ hj,hz]
theorem Y1{k j:Nat}(h:1+k<t.length)(hj:j<(ah t ((1+k:Nat):Int)).2.2.2.2.length):elt (dflt uPort) (ah (FW b t k j) ((1+k:Nat):Int)).2.2.2.2 (j:Nat)=elt (dflt uPort) (ah t ((1+k:Nat):Int)).2.2.2.2 (j:Nat):=by
 rw[Us h];exact uZ hj
theorem Uw:(uK b t (t.length-1)).drop 1=(t.drop 1).map (dz b):=by
 apply List.ext_getElem?;intro i;rw[List.getElem?_drop,List.getElem?_map,List.getElem?_drop,Bz]
 by_cases h:1+i<t.length
 ·rw[if_pos (by omega)]
 ·rw[List.getElem?_eq_none (by omega:t.length≤1+i)];split<;>rfl
def NS(t:List NAgent)(us:List Value)(k:Nat):List (El (hol 5)):=(List.range k).map fun j=>tL t us (j+1)
theorem SY(us:List Value)(k:Nat):NS t us (k+1)=NS t us k++[tL t us (1+k)]:=by
 unfold NS;rw[List.range_succ,List.map_append,Nat.add_comm 1 k];rfl
theorem WB(us:List Value)(k:Nat):(NS t us k).length=k:=by unfold NS;simp
theorem WA{us:List Value}(k:Nat):NS t us k=(List.range k).map fun j=>tL (uK b t k) us (j+1):=by
 unfold NS;exact List.map_congr_left fun j _=>(Rm _ _ _).symm
end
end Go.Tr
namespace Go.Tr
open Go Go.RowKit
def iM(L:aJ→Prop)(xs:List NAgent):Prop:=∀p,L p→ak xs p∧L (aF xs p)∧aF xs (aF xs p)=p∧aF xs p≠p
theorem iM.congr{L M:aJ→Prop}{xs:List NAgent}(h:iM L xs)(e:∀p,M p↔L p):iM M xs:=fun p hp=>by
 obtain⟨h1,h2,h3⟩:=h p ((e p).1 hp);exact⟨h1,(e _).2 h2,h3⟩
theorem iM.cut{L:aJ→Prop}{xs:List NAgent}(h:iM L xs){a:aJ}(ha:L a):iM (fun p=>L p∧p≠a∧p≠aF xs a) xs:=fun p ⟨hp,h1,h2⟩=>by
 obtain⟨k1,k2,k3,k4⟩:=h p hp;refine⟨k1,⟨k2,fun e=>h2 (by rw[←e,k3]),fun e=>h1 ?_⟩,k3,k4⟩;have:=congrArg (aF xs) e;rw[k3,(h a ha).2.2.1]at this;exact this
theorem eU{p q:aJ}(h1:p.1=q.1)(h2:p.2=q.2):p=q:=by cases p;cases q;simp_all
theorem iM.link{L:aJ→Prop}{xs:List NAgent}(h:iM L xs){p q:aJ}(hp:ak xs p)(hq:ak xs q)(np:¬L p)(nq:¬L q)(hpq:p≠q):iM (fun r=>L r∨r=p∨r=q) (bP xs p q):=fun r hr=>by
 have key:∀s,L s→ak xs s∧s≠p∧s≠q:=fun s hs=>⟨(h s hs).1,fun e=>np (e▸hs),fun e=>nq (e▸hs)⟩
 rcases hr with hr|rfl|rfl
 ·obtain⟨h1,h2,h3,h5⟩:=h r hr;obtain⟨_,n1,n2⟩:=key r hr;obtain⟨h4,n3,n4⟩:=key _ h2;have e1:aF (bP xs p q) r=aF xs r:=by rw[jX hp hq h1,if_neg n2.symm,if_neg n1.symm]
  refine⟨h1.link,?_,?_,?_⟩
  ·rw[e1];exact .inl h2
  ·rw[e1,jX hp hq h4,if_neg n4.symm,if_neg n3.symm,h3]
  ·rw[e1];exact h5
 ·have e1:aF (bP xs r q) r=q:=by rw[jX hp hq hp,if_neg hpq.symm,if_pos rfl]
  have e2:aF (bP xs r q) q=r:=by rw[jX hp hq hq,if_pos rfl]
  exact⟨hp.link,by rw[e1];exact .inr (.inr rfl),by rw[e1,e2],by rw[e1];exact hpq.symm⟩
 ·have e1:aF (bP xs p r) r=p:=by rw[jX hp hq hq,if_pos rfl]
  have e2:aF (bP xs p r) p=r:=by rw[jX hp hq hp,if_neg hpq.symm,if_pos rfl]
  exact⟨hq.link,by rw[e1];exact .inr (.inl rfl),by rw[e1,e2],by rw[e1];exact hpq⟩
theorem iM.move{L:aJ→Prop}{xs:List NAgent}(h:iM L xs){old now:aJ}(ho:L old)(hn:ak xs now)(nn:¬L now):iM (fun r=>(L r∧r≠old)∨r=now) (dM xs old now):=by
 obtain⟨h1,h2,h3,h4⟩:=h old ho;have hne:aF xs old≠now:=fun e=>nn (e▸h2)
 have:=(h.cut ho).link (p:=aF xs old) (q:=now) (h _ h2).1 hn (fun e=>e.2.2 rfl) (fun e=>nn e.1) hne;refine this.congr fun r=> ?_
 constructor
 ·rintro(⟨k1,k2⟩|rfl)
  ·by_cases e:r=aF xs old
   ·exact .inr (.inl e)
   ·exact .inl ⟨k1,k2,e⟩
  ·exact .inr (.inr rfl)
 ·rintro(⟨k1,k2,k3⟩|rfl|rfl)
  ·exact .inl ⟨k1,k2⟩
  ·exact .inl ⟨h2,h4⟩
  ·exact .inr rfl
theorem iM.join{L:aJ→Prop}{xs:List NAgent}(h:iM L xs){x y:aJ}(hx:L x)(hy:L y)(hxy:x≠y):iM (fun r=>L r∧r≠x∧r≠y) (aS xs x y):=by
 obtain⟨h1,h2,h3,h4⟩:=h x hx;obtain⟨k1,k2,k3,k4⟩:=h y hy;unfold aS
 by_cases e:aF xs x=y
 ·rw[show((aF xs x).1==y.1&&(aF xs x).2==y.2)=true by rw[e];simp];refine(h.cut hx).congr fun r=> ?_
  rw[e]
 ·rw[show((aF xs x).1==y.1&&(aF xs x).2==y.2)=false by
   cases hb:((aF xs x).1==y.1&&(aF xs x).2==y.2)with
   |false=>rfl
   |true=>
    simp only[Bool.and_eq_true,beq_iff_eq]at hb;exact absurd (eU hb.1 hb.2) e]
  rw[cond_false];have hyx:aF xs y≠x:=fun h=>e (by rw[←h,k3])
  have hpp:aF xs x≠aF xs y:=fun h=>hxy (by rw[←h3,h,k3])
  have c1:=h.cut hx;have hy':L y∧y≠x∧y≠aF xs x:=⟨hy,hxy.symm,fun h=>e h.symm⟩;have c2:=c1.cut (a:=y) hy';have:=c2.link (p:=aF xs x) (q:=aF xs y) (h _ h2).1 (h _ k2).1 (fun h=>h.1.2.2 rfl) (fun h=>h.2.2 rfl) hpp;refine this.congr fun r=> ?_
  constructor
  ·rintro⟨q1,q2,q3⟩
   by_cases e1:r=aF xs x
   ·exact .inr (.inl e1)
   by_cases e2:r=aF xs y
   ·exact .inr (.inr e2)
   ·exact .inl ⟨⟨q1,q2,e1⟩,q3,e2⟩
  ·rintro(⟨⟨q1,q2,q3⟩,q4,q5⟩|rfl|rfl)
   ·exact⟨q1,q2,q4⟩
   ·exact⟨h2,h4,e⟩
   ·exact⟨k2,hyx,k4⟩
theorem iM.app{L:aJ→Prop}{xs:List NAgent}(h:iM L xs)(zs:List NAgent):iM L (xs++zs):=fun p hp=>by
 obtain⟨h1,h2,h3,h4⟩:=h p hp;have lt:∀{q:aJ},ak xs q→q.1.toNat<xs.length:=fun {q} hq=>by have:=hq.1;have:=hq.2.1;omega
 have e1:=oZ (ys:=zs) (lt h1);exact⟨h1.app,by rw[e1];exact h2,by rw[e1,oZ (lt (h _ h2).1),h3],by rw[e1];exact h4⟩
def Agree(D:Int→Prop)(xs ys:List NAgent):Prop:=xs.length=ys.length∧∀i:Int,0≤i→i<(xs.length:Nat)→¬D i→ah xs i=ah ys i
theorem Agree.port{D:Int→Prop}{xs ys:List NAgent}(h:Agree D xs ys){p:aJ}(hp:ak xs p)(hd:¬D p.1):ak ys p∧aF ys p=aF xs p:=by
 obtain⟨p1,p2,p3,p4⟩:=hp;have e:=h.2 p.1 p1 p2 hd;exact⟨⟨p1,by rw[←h.1];exact p2,p3,by rw[←e];exact p4⟩,by unfold aF;rw[e]⟩
theorem Agree.setPort{D:Int→Prop}{xs ys:List NAgent}(h:Agree D xs ys){p:aJ}(q:aJ)(hp:ak xs p)(hd:¬D p.1):Agree D (aN xs p q) (aN ys p q):=by
 refine⟨by rw[dA,dA];exact h.1,fun i h0 h1 hi=> ?_⟩;rw[dA]at h1;rw[fu,fu,h.2 p.1 hp.1 hp.2.1 hd,h.2 i h0 h1 hi,h.1]
theorem Agree.link{D:Int→Prop}{xs ys:List NAgent}(h:Agree D xs ys){p q:aJ}(hp:ak xs p)(hq:ak xs q)(dp:¬D p.1)(dq:¬D q.1):Agree D (bP xs p q) (bP ys p q):=(h.setPort q hp dp).setPort p hq.set dq
theorem Agree.app{D:Int→Prop}{xs ys:List NAgent}(h:Agree D xs ys)(zs:List NAgent):Agree D (xs++zs) (ys++zs):=by
 refine⟨by rw[List.length_append,List.length_append,h.1],fun i h0 h1 hi=> ?_⟩;rw[List.length_append]at h1
 by_cases hl:i<(xs.length:Nat)
 ·rw[dH (by omega),dH (by rw[←h.1];omega)];exact h.2 i h0 hl hi
 ·have:∀ws:List NAgent,ws.length=xs.length→ah (ws++zs) i=zs.getD (i.toNat-xs.length) (dflt uAgent):=fun ws hw=>by
   unfold ah elt;rw[List.getD_eq_getElem?_getD,List.getElem?_append_right (by omega),hw,List.getD_eq_getElem?_getD]
  rw[this xs rfl,this ys h.1.symm]
theorem Agree.mono{D E:Int→Prop}{xs ys:List NAgent}(h:Agree D xs ys)(k:∀i,D i→E i):Agree E xs ys:=⟨h.1,fun i h0 h1 hi=>h.2 i h0 h1 fun hd=>hi (k i hd)⟩
theorem Agree.drop{D:Int→Prop}{xs ys:List NAgent}(h:Agree D xs ys){a:Int}(h0:0≤a)(hd:D a):Agree D xs (bD ys a):=by
 refine⟨by unfold bD;rw[List.length_set];exact h.1,fun i i0 i1 hi=> ?_⟩;unfold bD;rw[mD,if_neg (fun e=>hi (by(have:i=a:=by omega);rw[this];exact hd))];exact h.2 i i0 i1 hi
structure wZ(D:Int→Prop)(L:aJ→Prop)(xs ys:List NAgent):Prop where
 ag:Agree D xs ys
 wi:iM L xs
 al:∀p,L p→¬D p.1
section
variable {D:Int→Prop}{L:aJ→Prop}{xs ys:List NAgent}
theorem wZ.peer(h:wZ D L xs ys){p:aJ}(hp:L p):aF ys p=aF xs p:=(h.ag.port (h.wi p hp).1 (h.al p hp)).2
theorem wZ.move(h:wZ D L xs ys){old now:aJ}(ho:L old)(hn:ak xs now)(nn:¬L now)(dn:¬D now.1):wZ D (fun r=>(L r∧r≠old)∨r=now) (dM xs old now) (dM ys old now):=by
 refine⟨?_,h.wi.move ho hn nn,fun p hp=> ?_⟩
 ·unfold dM;rw[h.peer ho];exact h.ag.link (h.wi _ (h.wi _ ho).2.1).1 hn (h.al _ (h.wi _ ho).2.1) dn
 ·rcases hp with hp|rfl
  ·exact h.al p hp.1
  ·exact dn
theorem wZ.join(h:wZ D L xs ys){x y:aJ}(hx:L x)(hy:L y)(hxy:x≠y):wZ D (fun r=>L r∧r≠x∧r≠y) (aS xs x y) (aS ys x y):=by
 refine⟨?_,h.wi.join hx hy hxy,fun p hp=>h.al p hp.1⟩;unfold aS;rw[h.peer hx,h.peer hy];cases ((aF xs x).1==y.1&&(aF xs x).2==y.2)with
 |true=>exact h.ag
 |false=>exact h.ag.link (h.wi _ (h.wi _ hx).2.1).1 (h.wi _ (h.wi _ hy).2.1).1 (h.al _ (h.wi _ hx).2.1) (h.al _ (h.wi _ hy).2.1)
theorem wZ.link(h:wZ D L xs ys){p q:aJ}(hp:ak xs p)(hq:ak xs q)(np:¬L p)(nq:¬L q)(hpq:p≠q)(dp:¬D p.1)(dq:¬D q.1):wZ D (fun r=>L r∨r=p∨r=q) (bP xs p q) (bP ys p q):=by
 refine⟨h.ag.link hp hq dp dq,h.wi.link hp hq np nq hpq,fun r hr=> ?_⟩;rcases hr with hr|rfl|rfl
 ·exact h.al r hr
 ·exact dp
 ·exact dq
theorem wZ.app(h:wZ D L xs ys)(zs:List NAgent):wZ D L (xs++zs) (ys++zs):=⟨h.ag.app zs,h.wi.app zs,h.al⟩
theorem wZ.congr(h:wZ D L xs ys){M:aJ→Prop}(e:∀p,M p↔L p):wZ D M xs ys:=⟨h.ag,h.wi.congr e,fun p hp=>h.al p ((e p).1 hp)⟩
theorem wZ.cut(h:wZ D L xs ys){a:aJ}(ha:L a):wZ D (fun p=>L p∧p≠a∧p≠aF xs a) xs ys:=⟨h.ag,h.wi.cut ha,fun p hp=>h.al p hp.1⟩
theorem wZ.gone(h:wZ D L xs ys)(a:Int)(h0:0≤a)(ha:∀p,L p→p.1≠a):wZ (fun i=>D i∨i=a) L xs (bD ys a):=
 ⟨(h.ag.mono fun i hi=>.inl hi).drop h0 (.inr rfl),h.wi,fun p hp e=>e.elim (h.al p hp) (ha p hp)⟩
end
end Go.Tr
namespace Go.Tr
open Go Go.RowKit
def Live(D:Int→Prop)(xs:List NAgent):aJ→Prop:=fun p=>ak xs p∧¬D p.1
def St(D:Int→Prop)(xs ys:List NAgent):Prop:=wZ D (Live D xs) xs ys
theorem ak.jK{xs:List NAgent}{p q r:aJ}:ak (bP xs p q) r↔ak xs r:=⟨ak.unlink,ak.link⟩
theorem ak.jN{xs:List NAgent}{p q r:aJ}:ak (dM xs p q) r↔ak xs r:=ak.jK
theorem ak.Mg{xs:List NAgent}{p q r:aJ}:ak (aS xs p q) r↔ak xs r:=by
 unfold aS;cases ((aF xs p).1==q.1&&(aF xs p).2==q.2)with
 |true=>exact Iff.rfl
 |false=>exact ak.jK
theorem ak.eu{xs:List NAgent}{a:NAgent}{r:aJ}:ak (xs++[a]) r↔ak xs r∨(r.1=(xs.length:Nat)∧0≤r.2∧r.2<(a.ports.length:Nat)):=by
 constructor
 ·rintro⟨h1,h2,h3,h4⟩;rw[List.length_append,List.length_singleton]at h2
  by_cases hl:r.1.toNat<xs.length
  ·rw[dH hl]at h4;exact .inl ⟨h1,by omega,h3,h4⟩
  ·have e:r.1.toNat=xs.length:=by omega
   rw[rC e]at h4;exact .inr ⟨by omega,h3,h4⟩
 ·rintro(h|⟨h1,h2,h3⟩)
  ·exact h.app
  ·refine⟨by omega,by rw[List.length_append,List.length_singleton];omega,h2,?_⟩;rw[rC (by omega)];exact h3
structure nQ(D:Int→Prop)(xs:List NAgent)(x y:Int):Prop where
 ne:x≠y
 lx:¬D x
 ly:¬D y
 px:ak xs (x,0)
 py:ak xs (y,0)
 w:aF xs (x,0)=(y,0)
section
variable {D:Int→Prop}{xs ys:List NAgent}{x y:Int}
theorem St.open_(h:St D xs ys)(k:nQ D xs x y):wZ D (fun p=>(ak xs p∧¬D p.1)∧p≠(x,0)∧p≠(y,0)) xs ys:=by
 have:=h.cut (a:=(x,0)) ⟨k.px,k.lx⟩;rw[k.w]at this;exact this
theorem dS{a b s t:Int}(h:a≠b∨s≠t):((a,s):aJ)≠(b,t):=fun e=>by
 injection e with e1 e2
 rcases h with h|h
 ·exact h e1
 ·exact h e2
theorem St.joins(h:St D xs ys)(k:nQ D xs x y)(hx:(ah xs x).2.2.2.2.length=3)(hy:(ah xs y).2.2.2.2.length=3):
  St (fun i=>D i∨i=x∨i=y) (aS (aS xs (x,1) (y,1)) (x,2) (y,2)) (bD (bD (aS (aS ys (x,1) (y,1)) (x,2) (y,2)) x) y):=by
 have inx:∀s:Int,0≤s→s<3→ak xs (x,s):=fun s h0 h1=>⟨k.px.1,k.px.2.1,h0,by show s<((ah xs x).2.2.2.2.length:Nat);omega⟩
 have iny:∀s:Int,0≤s→s<3→ak xs (y,s):=fun s h0 h1=>⟨k.py.1,k.py.2.1,h0,by show s<((ah xs y).2.2.2.2.length:Nat);omega⟩
 have s0:=h.open_ k;have s1:=s0.join (x:=(x,1)) (y:=(y,1)) ⟨⟨inx 1 (by decide) (by decide),k.lx⟩,dS (.inr (by decide)),dS (.inl k.ne)⟩ ⟨⟨iny 1 (by decide) (by decide),k.ly⟩,dS (.inl k.ne.symm),dS (.inr (by decide))⟩ (dS (.inl k.ne));have s2:=s1.join (x:=(x,2)) (y:=(y,2)) ⟨⟨⟨inx 2 (by decide) (by decide),k.lx⟩,dS (.inr (by decide)),dS (.inl k.ne)⟩,dS (.inr (by decide)),dS (.inl k.ne)⟩ ⟨⟨⟨iny 2 (by decide) (by decide),k.ly⟩,dS (.inl k.ne.symm),dS (.inr (by decide))⟩,dS (.inl k.ne.symm),dS (.inr (by decide))⟩ (dS (.inl k.ne))
 have key:∀p:aJ,Live (fun i=>D i∨i=x∨i=y) (aS (aS xs (x,1) (y,1)) (x,2) (y,2)) p↔((((ak xs p∧¬D p.1)∧p≠(x,0)∧p≠(y,0))∧p≠(x,1)∧p≠(y,1))∧p≠(x,2)∧p≠(y,2)):=fun p=>by
  unfold Live;rw[ak.Mg,ak.Mg];constructor
  ·rintro⟨h1,h2⟩;have h3:p.1≠x:=fun e=>h2 (.inr (.inl e))
   have h4:p.1≠y:=fun e=>h2 (.inr (.inr e))
   have nx:∀s,p≠(x,s):=fun s e=>h3 (by rw[e])
   have ny:∀s,p≠(y,s):=fun s e=>h4 (by rw[e])
   exact⟨⟨⟨⟨h1,fun e=>h2 (.inl e)⟩,nx 0,ny 0⟩,nx 1,ny 1⟩,nx 2,ny 2⟩
  ·rintro⟨⟨⟨⟨h1,h2⟩,x0,y0⟩,x1,y1⟩,x2,y2⟩;refine⟨h1,fun e=> ?_⟩;obtain⟨q1,q2,q3,q4⟩:=h1;rcases e with e|e|e
   ·exact h2 e
   ·rw[e]at q4;have q5:p.2<3:=by(have:p.2<((ah xs x).2.2.2.2.length:Nat):=q4);omega
    have:p.2=0∨p.2=1∨p.2=2:=by omega
    rcases this with e2|e2|e2
    ·exact x0 (eU e e2)
    ·exact x1 (eU e e2)
    ·exact x2 (eU e e2)
   ·rw[e]at q4;have q5:p.2<3:=by(have:p.2<((ah xs y).2.2.2.2.length:Nat):=q4);omega
    have:p.2=0∨p.2=1∨p.2=2:=by omega
    rcases this with e2|e2|e2
    ·exact y0 (eU e e2)
    ·exact y1 (eU e e2)
    ·exact y2 (eU e e2)
 have s3:=s2.congr key;have s4:=(s3.gone x k.px.1 fun p hp e=>hp.2 (.inr (.inl e))).gone y k.py.1 fun p hp e=>hp.2 (.inr (.inr e))
 exact⟨s4.ag.mono fun i hi=>by rcases hi with(hi|hi)|hi<;>simp_all,s4.wi,fun p hp=>hp.2⟩
end
end Go.Tr
namespace Go.Tr
open Go Go.RowKit
def SX(D:Int→Prop)(X:aJ→Prop)(xs ys:List NAgent):Prop:=wZ D (fun p=>(ak xs p∧¬D p.1)∧¬X p) xs ys
section
variable {D:Int→Prop}{X Y:aJ→Prop}{xs ys:List NAgent}
theorem SX.congr(h:SX D X xs ys)(e:∀p,ak xs p→¬D p.1→(Y p↔X p)):SX D Y xs ys:=wZ.congr h fun p=>by
 constructor
 ·rintro⟨⟨h1,h2⟩,h3⟩;exact⟨⟨h1,h2⟩,fun h4=>h3 ((e p h1 h2).2 h4)⟩
 ·rintro⟨⟨h1,h2⟩,h3⟩;exact⟨⟨h1,h2⟩,fun h4=>h3 ((e p h1 h2).1 h4)⟩
theorem SX.add(h:SX D X xs ys)(a:NAgent):SX D (fun p=>X p∨p.1=(xs.length:Nat)) (xs++[a]) (ys++[a]):=wZ.congr (wZ.app h [a]) fun p=>by
 rw[ak.eu];constructor
 ·rintro⟨⟨h1,h2⟩,h3⟩;rcases h1 with h1|h1
  ·exact⟨⟨h1,h2⟩,fun h4=>h3 (.inl h4)⟩
  ·exact absurd (.inr h1.1) h3
 ·rintro⟨⟨h1,h2⟩,h3⟩;refine⟨⟨.inl h1,h2⟩,fun h4=> ?_⟩;rcases h4 with h4|h4
  ·exact h3 h4
  ·have:=h1.2.1;omega
theorem SX.move(h:SX D X xs ys){old now:aJ}(ho:ak xs old)(od:¬D old.1)(ox:¬X old)(hn:ak xs now)(nd:¬D now.1)(nx:X now):SX D (fun p=>(X p∨p=old)∧p≠now) (dM xs old now) (dM ys old now):=by
 refine wZ.congr (wZ.move h (old:=old) (now:=now) ⟨⟨ho,od⟩,ox⟩ hn (fun k=>k.2 nx) nd) fun p=> ?_
 rw[ak.jN];constructor
 ·rintro⟨⟨h1,h2⟩,h3⟩
  by_cases e:p=now
  ·exact .inr e
  ·exact .inl ⟨⟨⟨h1,h2⟩,fun k=>h3 ⟨.inl k,e⟩⟩,fun k=>h3 ⟨.inr k,e⟩⟩
 ·rintro(⟨⟨⟨h1,h2⟩,h3⟩,h4⟩|rfl)
  ·exact⟨⟨h1,h2⟩,fun k=>k.1.elim h3 h4⟩
  ·exact⟨⟨hn,nd⟩,fun k=>k.2 rfl⟩
theorem SX.link(h:SX D X xs ys){p q:aJ}(hp:ak xs p)(pd:¬D p.1)(px:X p)(hq:ak xs q)(qd:¬D q.1)(qx:X q)(hpq:p≠q):SX D (fun r=>X r∧r≠p∧r≠q) (bP xs p q) (bP ys p q):=by
 refine wZ.congr (wZ.link h hp hq (fun k=>k.2 px) (fun k=>k.2 qx) hpq pd qd) fun r=> ?_
 rw[ak.jK];constructor
 ·rintro⟨⟨h1,h2⟩,h3⟩
  by_cases e1:r=p
  ·exact .inr (.inl e1)
  by_cases e2:r=q
  ·exact .inr (.inr e2)
  ·exact .inl ⟨⟨h1,h2⟩,fun k=>h3 ⟨k,e1,e2⟩⟩
 ·rintro(⟨⟨h1,h2⟩,h3⟩|rfl|rfl)
  ·exact⟨⟨h1,h2⟩,fun k=>h3 k.1⟩
  ·exact⟨⟨hp,pd⟩,fun k=>k.2.1 rfl⟩
  ·exact⟨⟨hq,qd⟩,fun k=>k.2.2 rfl⟩
theorem SX.start{x y:Int}(h:St D xs ys)(k:nQ D xs x y):SX D (fun p=>p=(x,0)∨p=(y,0)) xs ys:=wZ.congr (h.open_ k) fun p=>by
 constructor
 ·rintro⟨h1,h3⟩;exact⟨h1,fun e=>h3 (.inl e),fun e=>h3 (.inr e)⟩
 ·rintro⟨h1,h2,h3⟩;exact⟨h1,fun e=>e.elim h2 h3⟩
theorem SX.QU{x y:Int}(h:SX D X xs ys)(x0:0≤x)(y0:0≤y)(e:∀p,ak xs p→¬D p.1→(X p↔p.1=x∨p.1=y)):St (fun i=>D i∨i=x∨i=y) xs (bD (bD ys x) y):=by
 have s3:wZ D (Live (fun i=>D i∨i=x∨i=y) xs) xs ys:=wZ.congr h fun p=>by
  unfold Live;constructor
  ·rintro⟨h1,h2⟩;have h3:¬D p.1:=fun k=>h2 (.inl k)
   exact⟨⟨h1,h3⟩,fun k=>h2 (.inr ((e p h1 h3).1 k))⟩
  ·rintro⟨⟨h1,h2⟩,h3⟩;exact⟨h1,fun k=>k.elim h2 fun k=>h3 ((e p h1 h2).2 k)⟩
 have s4:=(s3.gone x x0 fun p hp e=>hp.2 (.inr (.inl e))).gone y y0 fun p hp e=>hp.2 (.inr (.inr e))
 exact⟨s4.ag.mono fun i hi=>by rcases hi with(hi|hi)|hi<;>simp_all,s4.wi,fun p hp=>hp.2⟩
theorem SX.end1{x:Int}(h:SX D X xs ys)(x0:0≤x)(e:∀p,ak xs p→¬D p.1→(X p↔p.1=x)):St (fun i=>D i∨i=x) xs (bD ys x):=by
 have s3:wZ D (Live (fun i=>D i∨i=x) xs) xs ys:=wZ.congr h fun p=>by
  unfold Live;constructor
  ·rintro⟨h1,h2⟩;have h3:¬D p.1:=fun k=>h2 (.inl k)
   exact⟨⟨h1,h3⟩,fun k=>h2 (.inr ((e p h1 h3).1 k))⟩
  ·rintro⟨⟨h1,h2⟩,h3⟩;exact⟨h1,fun k=>k.elim h2 fun k=>h3 ((e p h1 h2).2 k)⟩
 have s4:=s3.gone x x0 fun p hp e=>hp.2 (.inr e)
 exact⟨s4.ag,s4.wi,fun p hp=>hp.2⟩
theorem SX.len(h:SX D X xs ys):xs.length=ys.length:=h.ag.1
theorem SX.at_(h:SX D X xs ys){i:Int}(h0:0≤i)(h1:i<(xs.length:Nat))(hd:¬D i):ah ys i=ah xs i:=(h.ag.2 i h0 h1 hd).symm
theorem LU{y:Int}{p:aJ}(hlt:p.1.toNat<xs.length):∀{k:Nat},ak (tK y xs k) p→ak xs p
 |0,h=>h
 |k+1,h=>by
  unfold tK at h;rw[ak.jN,ak.eu,kH]at h;rcases h with h|⟨h,_⟩
  ·exact LU hlt h
  ·omega
theorem SS{x y:Int}(h:St D xs ys)(k:nQ D xs x y)(hD:∀i,D i→i<(xs.length:Nat)):∀n:Nat,n≤(ah xs y).2.2.2.2.length-1→SX D (fun p=>p=(x,0)∨(p.1=y∧p.2≤(n:Nat))) (tK y xs n) (tK y ys n)
 |0,_=>(SX.start h k).congr fun p hp _=>by
  constructor
  ·rintro(e|⟨e1,e2⟩)
   ·exact .inl e
   ·exact .inr (eU e1 (by have:=hp.2.2.1;show p.2=0;omega))
  ·rintro(e|e)
   ·exact .inl e
   ·exact .inr (by rw[e];exact⟨rfl,Int.le_refl _⟩)
 |n+1,hn=>by
  have ih:=SS h k hD n (by omega);have hl:(tK y xs n).length=xs.length+n:=kH y xs n;have hyl:=k.py.2.1;have hy0:=k.py.1;have hpy:ak xs (y,((n+1:Nat):Int)):=⟨hy0,hyl,by omega,by show((n+1:Nat):Int)<((ah xs y).2.2.2.2.length:Nat);omega⟩;have hin:=qj (y:=y) hpy n;have s1:=ih.add (bC 5 0 0 [] 1);have hnew:ak (tK y xs n++[bC 5 0 0 [] 1]) (((xs.length+n:Nat):Int),0):=ak.eu.2 (.inr ⟨by rw[hl],Int.le_refl _,show(0:Int)<1 by decide⟩)
  have s2:=s1.move (old:=(y,((n+1:Nat):Int))) (now:=(((xs.length+n:Nat):Int),0)) hin.app k.ly (by
   rintro((e|⟨_,e⟩)|e)
   ·exact dS (.inl k.ne.symm) e
   ·have:((n+1:Nat):Int)≤(n:Nat):=e;omega
   ·have:y=((tK y xs n).length:Nat):=e;rw[hl]at this;omega) hnew (fun e=>by have:=hD _ e;show False;have h2:((xs.length+n:Nat):Int)<(xs.length:Nat):=this;omega) (.inr (by rw[hl]))
  have hyx:(tK y ys n++[bC 5 0 0 [] 1])=tK y ys n++[bC 5 0 0 [] 1]:=rfl
  have s3:SX D (fun p=>p=(x,0)∨(p.1=y∧p.2≤((n+1:Nat):Int))) (dM (tK y xs n++[bC 5 0 0 [] 1]) (y,((n+1:Nat):Int)) (((xs.length+n:Nat):Int),0)) (dM (tK y ys n++[bC 5 0 0 [] 1]) (y,((n+1:Nat):Int)) (((xs.length+n:Nat):Int),0)):=s2.congr fun p hp _=>by
   rw[ak.jN,ak.eu,hl]at hp;rw[hl];constructor
   ·rintro(rfl|⟨e1,e2⟩)
    ·refine⟨.inl (.inl (.inl rfl)),dS (.inl ?_)⟩;have:=k.px.2.1;show x≠((xs.length+n:Nat):Int);have h2:x<(xs.length:Nat):=this;omega
    ·refine⟨?_,fun e=> ?_⟩
     ·by_cases e3:p.2=((n+1:Nat):Int)
      ·exact .inr (eU e1 e3)
      ·exact .inl (.inl (.inr ⟨e1,by omega⟩))
     ·rw[e]at e1;have:((xs.length+n:Nat):Int)=y:=e1;have h2:y<(xs.length:Nat):=hyl;omega
   ·rintro⟨((e|⟨e1,e2⟩)|e)|e,e3⟩
    ·exact .inl e
    ·exact .inr ⟨e1,by omega⟩
    ·rcases hp with hp|⟨q1,q2,q3⟩
     ·have h2:=hp.2.1;rw[hl]at h2;have e':p.1=((xs.length+n:Nat):Int):=e;omega
     ·refine absurd (eU (q:=(((xs.length+n:Nat):Int),0)) e ?_) e3;have:p.2<1:=q3;show p.2=0;omega
    ·exact .inr (by rw[e];exact⟨rfl,Int.le_refl _⟩)
  show SX D _ (tK y xs (n+1)) (tK y ys (n+1));unfold tK;rw[←h.ag.1];exact s3
theorem St.erase{x y:Int}(h:St D xs ys)(k:nQ D xs x y)(hD:∀i,D i→i<(xs.length:Nat))(hx:(ah xs x).2.2.2.2.length=1):St (fun i=>D i∨i=x∨i=y) (iH xs y) (bD (bD (iH ys y) x) y):=by
 have e:ah ys y=ah xs y:=(h.ag.2 y k.py.1 k.py.2.1 k.ly).symm;unfold iH;rw[e];have s:=SS h k hD ((ah xs y).2.2.2.2.length-1) (Nat.le_refl _);refine s.QU k.px.1 k.py.1 fun p hp _=> ?_
 have hport:p.1=x∨p.1=y→ak xs p:=fun hc=>by
  have hlt:p.1.toNat<xs.length:=by
   have h1:=k.px.2.1;have h2:=k.py.2.1;have h3:=k.px.1;have h4:=k.py.1
   have g1:x<(xs.length:Nat):=h1;have g2:y<(xs.length:Nat):=h2;have g3:0≤x:=h3;have g4:0≤y:=h4;rcases hc with hc|hc<;>omega
  exact LU hlt hp
 constructor
 ·rintro(rfl|⟨e1,_⟩)
  ·exact .inl rfl
  ·exact .inr e1
 ·intro hc;obtain⟨q1,q2,q3,q4⟩:=hport hc;rcases hc with hc|hc
  ·rw[hc]at q4;have:p.2<((ah xs x).2.2.2.2.length:Nat):=q4;exact .inl (eU hc (by show p.2=0;omega))
  ·rw[hc]at q4;have:p.2<((ah xs y).2.2.2.2.length:Nat):=q4;exact .inr ⟨hc,by omega⟩
theorem FR{p:aJ}(h:ak xs p):p.1.toNat<xs.length:=by have:=h.1;have:=h.2.1;omega
theorem St.operate{x y:Int}(h:St D xs ys)(k:nQ D xs x y)(hD:∀i,D i→i<(xs.length:Nat))(hx:(ah xs x).2.2.2.2.length=1)(h7:(ah xs y).1=7→(ah xs y).2.2.2.2.length=3)(h8:(ah xs y).1≠7→(ah xs y).2.2.2.2.length=2):
  St (fun i=>D i∨i=x∨i=y) (bI xs x y) (bD (bD (bI ys x y) x) y):=by
 have ey:ah ys y=ah xs y:=(h.ag.2 y k.py.1 k.py.2.1 k.ly).symm;have ex:ah ys x=ah xs x:=(h.ag.2 x k.px.1 k.px.2.1 k.lx).symm;have hn:¬D (xs.length:Nat):=fun e=>by have:=hD _ e;omega
 have xl:x<(xs.length:Nat):=k.px.2.1;have yl:y<(xs.length:Nat):=k.py.2.1;have iny:∀s:Int,0≤s→s<((ah xs y).2.2.2.2.length:Nat)→ak xs (y,s):=fun s h0 h1=>⟨k.py.1,k.py.2.1,h0,h1⟩
 have fin:∀(X:aJ→Prop) (a:NAgent) (zs:List NAgent),(∀p,ak zs p↔ak (xs++[a]) p)→(∀p,ak (xs++[a]) p→(X p↔(ak xs p∧(p.1=x∨p.1=y))))→∀p,ak zs p→¬D p.1→(X p↔p.1=x∨p.1=y):=fun X a zs hz hX p hp _=>by
  rw[hX p ((hz p).1 hp)];constructor
  ·exact fun e=>e.2
  ·intro e;refine⟨?_,e⟩;rcases ak.eu.1 ((hz p).1 hp)with q|⟨q,_⟩
   ·exact q
   ·rcases e with e|e<;>omega
 unfold bI;rw[ex,ey,←h.ag.1];cases hk:(ah xs y).1==7 with
 |true=>
  have h3:=h7 (by simpa using hk);simp only[cond_true];have i1:=iny 1 (by decide) (by omega);have i2:=iny 2 (by decide) (by omega);have s1:=(SX.start h k).add (bC 8 (ah xs y).2.1 (ah xs y).2.2.1 [(ah xs x).2.2.1] 2);have n0:ak (xs++[bC 8 (ah xs y).2.1 (ah xs y).2.2.1 [(ah xs x).2.2.1] 2]) ((xs.length:Nat),0):=ak.eu.2 (.inr ⟨rfl,Int.le_refl _,show(0:Int)<2 by decide⟩);have n1:ak (xs++[bC 8 (ah xs y).2.1 (ah xs y).2.2.1 [(ah xs x).2.2.1] 2]) ((xs.length:Nat),1):=ak.eu.2 (.inr ⟨rfl,show(0:Int)≤1 by decide,show(1:Int)<2 by decide⟩)
  have s2:=s1.move (old:=(y,1)) (now:=((xs.length:Nat),0)) i1.app k.ly (by
   rintro((e|e)|e)
   ·exact dS (.inl k.ne.symm) e
   ·exact dS (.inr (by decide)) e
   ·have:y=(xs.length:Nat):=e;omega) n0 hn (.inr rfl)
  have s3:=s2.move (old:=(y,2)) (now:=((xs.length:Nat),1)) i2.app.move k.ly (by
   rintro⟨((e|e)|e)|e,_⟩
   ·exact dS (.inl k.ne.symm) e
   ·exact dS (.inr (by decide)) e
   ·have:y=(xs.length:Nat):=e;omega
   ·exact dS (.inr (by decide)) e) n1.move hn ⟨.inl (.inr rfl),dS (.inr (by decide))⟩
  refine s3.QU k.px.1 k.py.1 (fin _ _ _ (fun p=>by rw[ak.jN,ak.jN]) fun p hp=> ?_)
  have hA:p.1=(xs.length:Nat)→p=(((xs.length:Nat):Int),0)∨p=(((xs.length:Nat):Int),1):=fun e=>by
   rcases ak.eu.1 hp with q|⟨_,q2,q3⟩
   ·have:=q.2.1;omega
   ·have:p.2<2:=q3;have:p.2=0∨p.2=1:=by omega
    rcases this with e2|e2
    ·exact .inl (eU e e2)
    ·exact .inr (eU e e2)
  constructor
  ·rintro⟨(⟨((e|e)|e)|e,e2⟩|e),e3⟩
   ·rw[e];exact⟨k.px,.inl rfl⟩
   ·rw[e];exact⟨k.py,.inr rfl⟩
   ·rcases hA e with e4|e4
    ·exact absurd e4 e2
    ·exact absurd e4 e3
   ·rw[e];exact⟨i1,.inr rfl⟩
   ·rw[e];exact⟨i2,.inr rfl⟩
  ·rintro⟨q,e⟩;have ne:∀s,p≠(((xs.length:Nat):Int),s):=fun s e2=>by have:=q.2.1;rw[e2]at this;have h3:((xs.length:Nat):Int)<(xs.length:Nat):=this;omega
   refine⟨?_,ne 1⟩;obtain⟨q1,q2,q3,q4⟩:=q;rcases e with e|e
   ·rw[e]at q4;have:p.2<((ah xs x).2.2.2.2.length:Nat):=q4;exact .inl ⟨.inl (.inl (.inl (eU e (by show p.2=0;omega)))),ne 0⟩
   ·rw[e]at q4;have:p.2<((ah xs y).2.2.2.2.length:Nat):=q4;have:p.2=0∨p.2=1∨p.2=2:=by omega
    rcases this with e2|e2|e2
    ·exact .inl ⟨.inl (.inl (.inr (eU e e2))),ne 0⟩
    ·exact .inl ⟨.inr (eU e e2),ne 0⟩
    ·exact .inr (eU e e2)
 |false=>
  have h3:=h8 (by simpa using hk);simp only[cond_false];have i1:=iny 1 (by decide) (by omega);generalize hv:yB (ah xs y).2.2.1 (jH (ah xs y).2.2.2.1 0) (ah xs x).2.2.1=v;have s1:=(SX.start h k).add (bC 6 0 v [] 1);have n0:ak (xs++[bC 6 0 v [] 1]) ((xs.length:Nat),0):=ak.eu.2 (.inr ⟨rfl,Int.le_refl _,show(0:Int)<1 by decide⟩)
  have s2:=s1.move (old:=(y,1)) (now:=((xs.length:Nat),0)) i1.app k.ly (by
   rintro((e|e)|e)
   ·exact dS (.inl k.ne.symm) e
   ·exact dS (.inr (by decide)) e
   ·have:y=(xs.length:Nat):=e;omega) n0 hn (.inr rfl)
  refine s2.QU k.px.1 k.py.1 (fin _ _ _ (fun p=>by rw[ak.jN]) fun p hp=> ?_)
  have hA:p.1=(xs.length:Nat)→p=(((xs.length:Nat):Int),0):=fun e=>by
   rcases ak.eu.1 hp with q|⟨_,q2,q3⟩
   ·have:=q.2.1;omega
   ·have:p.2<1:=q3;exact eU e (by show p.2=0;omega)
  constructor
  ·rintro⟨((e|e)|e)|e,e2⟩
   ·rw[e];exact⟨k.px,.inl rfl⟩
   ·rw[e];exact⟨k.py,.inr rfl⟩
   ·exact absurd (hA e) e2
   ·rw[e];exact⟨i1,.inr rfl⟩
  ·rintro⟨q,e⟩;have ne:∀s,p≠(((xs.length:Nat):Int),s):=fun s e2=>by have:=q.2.1;rw[e2]at this;have h3:((xs.length:Nat):Int)<(xs.length:Nat):=this;omega
   refine⟨?_,ne 0⟩;obtain⟨q1,q2,q3,q4⟩:=q;rcases e with e|e
   ·rw[e]at q4;have:p.2<((ah xs x).2.2.2.2.length:Nat):=q4;exact .inl (.inl (.inl (eU e (by show p.2=0;omega))))
   ·rw[e]at q4;have:p.2<((ah xs y).2.2.2.2.length:Nat):=q4;have:p.2=0∨p.2=1:=by omega
    rcases this with e2|e2
    ·exact .inl (.inl (.inr (eU e e2)))
    ·exact .inr (eU e e2)
end
end Go.Tr
namespace Go.Tr
open Go Go.RowKit
section
variable {D:Int→Prop}{xs ys:List NAgent}{x y:Int}
theorem qV(lab c d:Int)(xs:List NAgent):∀k,(aW lab c d xs k).length=xs.length+k
 |0=>rfl
 |k+1=>by unfold aW yO;rw[jJ,jJ,List.length_append,qV lab c d xs k];rfl
theorem ng{lab c d:Int}{xs:List NAgent}{p:aJ}(h:ak xs p):∀k,ak (aW lab c d xs k) p
 |0=>h
 |k+1=>(ng h k).app.link.link
theorem LX{P Q:List NAgent}{lab:Int}{n m:Nat}(hn:P.length=n+2)(hx:x<(n:Nat))(hy:y<(n:Nat))(hD:∀i,D i→i<(n:Nat))(hm:∀s:Int,0≤s→s<(m:Nat)→ak P ((n:Nat),s)∧ak P ((n+1:Nat),s))
  (h:SX D (fun p=>p=(x,0)∨p=(y,0)∨p.1=(n:Nat)∨p.1=((n+1:Nat):Int)) P Q):∀k:Nat,k+1≤m→
  SX D (fun p=>p=(x,0)∨p=(y,0)∨((p.1=(n:Nat)∨p.1=((n+1:Nat):Int))∧(p.2=0∨(k:Int)<p.2))∨(((n+2:Nat):Int)≤p.1∧p.2=0)) (aW lab ((n:Nat):Int) ((n+1:Nat):Int) P k) (aW lab ((n:Nat):Int) ((n+1:Nat):Int) Q k)
 |0,_=>h.congr fun p hp _=>by
  obtain⟨q1,q2,q3,_⟩:=hp;obtain⟨a,s⟩:=p;rw[hn]at q2;simp only[Prod.mk.injEq]at*;omega
 |k+1,hk=>by
  have ih:=LX (lab:=lab) hn hx hy hD hm h k (by omega);have hl:(aW lab ((n:Nat):Int) ((n+1:Nat):Int) P k).length=n+2+k:=by rw[qV,hn]
  have hlq:(aW lab ((n:Nat):Int) ((n+1:Nat):Int) Q k).length=n+2+k:=by rw[←ih.len,hl]
  have nd:∀i:Nat,n≤i→¬D (i:Nat):=fun i hi e=>by have:=hD _ e;omega
  obtain⟨hc,hd⟩:=hm ((k+1:Nat):Int) (by omega) (by omega);have hc1:=ng (lab:=lab) (c:=((n:Nat):Int)) (d:=((n+1:Nat):Int)) hc k;have hd1:=ng (lab:=lab) (c:=((n:Nat):Int)) (d:=((n+1:Nat):Int)) hd k;generalize hA:aW lab ((n:Nat):Int) ((n+1:Nat):Int) P k=A at*;generalize hB:aW lab ((n:Nat):Int) ((n+1:Nat):Int) Q k=B at*;have s1:=ih.add (bC 4 lab 0 [] 3);have f1:ak (A++[bC 4 lab 0 [] 3]) ((A.length:Nat),1):=ak.eu.2 (.inr ⟨rfl,show(0:Int)≤1 by decide,show(1:Int)<3 by decide⟩)
  have f2:ak (A++[bC 4 lab 0 [] 3]) ((A.length:Nat),2):=ak.eu.2 (.inr ⟨rfl,show(0:Int)≤2 by decide,show(2:Int)<3 by decide⟩);rw[hl]at f1 f2 s1;have s2:=s1.link (p:=((n+2+k:Nat),1)) (q:=((n:Nat),((k+1:Nat):Int))) f1 (nd _ (by omega)) (.inr rfl) hc1.app (nd _ (Nat.le_refl _)) (.inl (.inr (.inr (.inl ⟨.inl rfl,.inr (show(k:Int)<((k+1:Nat):Int) by omega)⟩)))) (dS (.inl (by omega)))
  have s3:=s2.link (p:=((n+2+k:Nat),2)) (q:=((n+1:Nat),((k+1:Nat):Int))) f2.link (nd _ (by omega)) ⟨.inr rfl,dS (.inr (by decide)),dS (.inl (by omega))⟩ hd1.app.link (nd _ (by omega))
   ⟨.inl (.inr (.inr (.inl ⟨.inr rfl,.inr (show(k:Int)<((k+1:Nat):Int) by omega)⟩))),dS (.inl (by omega)),dS (.inl (by omega))⟩ (dS (.inl (by omega)))
  have e1:aW lab ((n:Nat):Int) ((n+1:Nat):Int) P (k+1)=bP (bP (A++[bC 4 lab 0 [] 3]) ((n+2+k:Nat),1) ((n:Nat),((k+1:Nat):Int))) ((n+2+k:Nat),2) ((n+1:Nat),((k+1:Nat):Int)):=by
   rw[←hl,←hA];rfl
  have e2:aW lab ((n:Nat):Int) ((n+1:Nat):Int) Q (k+1)=bP (bP (B++[bC 4 lab 0 [] 3]) ((n+2+k:Nat),1) ((n:Nat),((k+1:Nat):Int))) ((n+2+k:Nat),2) ((n+1:Nat),((k+1:Nat):Int)):=by
   rw[←hlq,←hB];rfl
  rw[e1,e2];refine s3.congr fun p hp _=> ?_
  rw[ak.jK,ak.jK,ak.eu,hl]at hp
  have hp':p.1<((n+2+k:Nat):Int)∨(p.1=((n+2+k:Nat):Int)∧0≤p.2∧p.2<3):=by
   rcases hp with hp|hp
   ·have:=hp.2.1;rw[hl]at this;exact .inl this
   ·exact .inr hp
  have h0:0≤p.2:=by
   rcases hp with hp|hp
   ·exact hp.2.2.1
   ·exact hp.2.1
  obtain⟨a,s⟩:=p;simp only[Prod.mk.injEq,ne_eq]at*;omega
theorem Ja{P Q:List NAgent}{b m:Nat}{X:aJ→Prop}(hX:∀k:Nat,k<m→¬X (y,((k:Nat):Int)+1)∧X (((b+k:Nat):Int),0))(hy:ak P (y,0)∧∀k:Nat,k<m→ak P (y,((k:Nat):Int)+1)∧ak P (((b+k:Nat):Int),0))(yd:¬D y)(bd:∀k:Nat,¬D ((b+k:Nat):Int))(yb:y<(b:Nat))(h:SX D X P Q):
  ∀k:Nat,k≤m→SX D (fun p=>(X p∨(p.1=y∧1≤p.2∧p.2≤(k:Nat)))∧¬((b:Int)≤p.1∧p.1<((b+k:Nat):Int)∧p.2=0)) (dD y b P k) (dD y b Q k)
 |0,_=>h.congr fun p hp _=>by
  constructor
  ·rintro⟨e|e,_⟩
   ·exact e
   ·omega
  ·intro e;exact⟨.inl e,fun k=>by omega⟩
 |k+1,hk=>by
  have ih:=Ja hX hy yd bd yb h k (by omega);obtain⟨x1,x2⟩:=hX k (by omega);obtain⟨y1,y2⟩:=hy.2 k (by omega)
  have s1:=ih.move (old:=(y,((k:Nat):Int)+1)) (now:=(((b+k:Nat):Int),0)) (fK y1 k) yd (by
   rintro⟨e|⟨_,_,e⟩,_⟩
   ·exact x1 e
   ·have:((k:Nat):Int)+1≤(k:Nat):=e;omega) (fK y2 k) (bd k) ⟨.inl x2,fun e=>by have:((b+k:Nat):Int)<((b+k:Nat):Int):=e.2.1;omega⟩
  refine s1.congr fun p hp _=> ?_
  have q:(((X p∨(p.1=y∧1≤p.2∧p.2≤((k+1:Nat):Int)))∧¬((b:Int)≤p.1∧p.1<((b+(k+1):Nat):Int)∧p.2=0))↔((((X p∨(p.1=y∧1≤p.2∧p.2≤(k:Nat)))∧¬((b:Int)≤p.1∧p.1<((b+k:Nat):Int)∧p.2=0))∨p=(y,((k:Nat):Int)+1))∧p≠(((b+k:Nat):Int),0))):=by
   obtain⟨a,s⟩:=p;simp only[Prod.mk.injEq,ne_eq]
   by_cases hXp:X (a,s)
   ·simp only[hXp,true_or,true_and];omega
   ·simp only[hXp,false_or];omega
  exact q
theorem zx{lab c d:Int}{xs:List NAgent}{p:aJ}(hlt:p.1.toNat<xs.length):∀{k:Nat},ak (aW lab c d xs k) p→ak xs p
 |0,h=>h
 |k+1,h=>by
  unfold aW yO at h;rw[ak.jK,ak.jK,ak.eu,qV]at h;rcases h with h|⟨h,_⟩
  ·exact zx hlt h
  ·omega
theorem AX{y:Int}{b:Nat}{xs:List NAgent}{p:aJ}:∀k:Nat,ak (dD y b xs k) p↔ak xs p
 |0=>Iff.rfl
 |k+1=>by unfold dD;rw[ak.jN,AX k]
theorem QS{xs:List NAgent}{y:Int}{p:aJ}(hlt:p.1.toNat<xs.length)(h:ak (dup2 xs y) p):ak xs p:=by
 unfold dup2 at h;rw[ak.eu,ak.eu,List.length_append]at h;rcases h with(h|⟨h,_⟩)|⟨h,_⟩
 ·exact h
 ·omega
 ·simp only[List.length_singleton]at h;omega
theorem IC{xs:List NAgent}{y:Int}{lab:Int}{p:aJ}:∀k:Nat,ak (aW lab ((xs.length:Nat):Int) ((xs.length+1:Nat):Int) (dup2 xs y) k) p→0≤p.1∧p.1<((xs.length+2+k:Nat):Int)∧0≤p.2∧(p.1=(xs.length:Nat)∨p.1=((xs.length+1:Nat):Int)→p.2<((ah xs y).2.2.2.2.length:Nat))
 |0,h=>by
  have h5:ak (dup2 xs y) p:=h;obtain⟨h1,h2,h3,_⟩:=h;refine⟨h1,by(have:(aW lab ((xs.length:Nat):Int) ((xs.length+1:Nat):Int) (dup2 xs y) 0).length=xs.length+2:=gZ xs y);omega,h3,fun e=> ?_⟩;unfold dup2 at h5;have hd:(nO xs y).ports.length=(ah xs y).2.2.2.2.length:=by show(List.replicate _ _).length=_;rw[List.length_replicate]
  rw[ak.eu,ak.eu,List.length_append,List.length_singleton]at h5;rcases h5 with(h5|⟨_,_,h5⟩)|⟨_,_,h5⟩
  ·have:=h5.2.1;omega
  ·omega
  ·omega
 |k+1,h=>by
  unfold aW yO at h;rw[ak.jK,ak.jK,ak.eu,qV,gZ]at h;rcases h with h|⟨h1,h2,h3⟩
  ·obtain⟨q1,q2,q3,q4⟩:=IC k h;exact⟨q1,by omega,q3,q4⟩
  ·exact⟨by omega,by omega,h2,fun e=>by omega⟩
theorem St.duplicate(h:St D xs ys)(k:nQ D xs x y)(hD:∀i,D i→i<(xs.length:Nat))(hx:(ah xs x).2.2.2.2.length=3)(hy:1≤(ah xs y).2.2.2.2.length):
  St (fun i=>D i∨i=x∨i=y) (bJ xs x y) (bD (bD (bJ ys x y) x) y):=by
 have ey:ah ys y=ah xs y:=(h.ag.2 y k.py.1 k.py.2.1 k.ly).symm;have ex:ah ys x=ah xs x:=(h.ag.2 x k.px.1 k.px.2.1 k.lx).symm;have hl:xs.length=ys.length:=h.ag.1;have xl:x<(xs.length:Nat):=k.px.2.1;have yl:y<(xs.length:Nat):=k.py.2.1;have x0:0≤x:=k.px.1;have y0:0≤y:=k.py.1;have hne:=k.ne;generalize hm:(ah xs y).2.2.2.2.length=m at*;generalize hn:xs.length=n at*;have nd:∀i:Nat,n≤i→¬D (i:Nat):=fun i hi e=>by have:=hD _ e;omega
 have s0:=SX.start h k
 have s2:SX D (fun p=>p=(x,0)∨p=(y,0)∨p.1=(n:Nat)∨p.1=((n+1:Nat):Int)) (dup2 xs y) (dup2 ys y):=by
  have e:nO ys y=nO xs y:=by unfold nO;rw[ey]
  unfold dup2;rw[e];refine((s0.add (nO xs y)).add (nO xs y)).congr fun p _ _=> ?_
  rw[List.length_append,hn];simp only[List.length_singleton];constructor
  ·rintro(e|e|e|e)
   ·exact .inl (.inl (.inl e))
   ·exact .inl (.inl (.inr e))
   ·exact .inl (.inr e)
   ·exact .inr e
  ·rintro(((e|e)|e)|e)
   ·exact .inl e
   ·exact .inr (.inl e)
   ·exact .inr (.inr (.inl e))
   ·exact .inr (.inr (.inr e))
 have hP:(dup2 xs y).length=n+2:=by rw[gZ,hn]
 have hc:∀s:Int,0≤s→s<(m:Nat)→ak (dup2 xs y) ((n:Nat),s)∧ak (dup2 xs y) ((n+1:Nat),s):=fun s h0 h1=>by
  have q1:=rX (xs:=xs) (y:=y) h0 (by rw[hm];exact h1);have q2:=r9 (xs:=xs) (y:=y) h0 (by rw[hm];exact h1);rw[hn]at q1 q2;exact⟨q1,q2⟩
 have s3:=LX (lab:=(ah xs x).2.1) hP xl yl hD hc s2 (m-1) (by omega)
 have fx:(ah (dup2 xs y) x).2.1=(ah xs x).2.1:=by
  unfold dup2;rw[dH (by rw[List.length_append,hn];omega),dH (by omega)]
 have fy:(ah (dup2 ys y) x).2.1=(ah xs x).2.1:=by
  unfold dup2;rw[dH (by rw[List.length_append];omega),dH (by omega),ex]
 have d3x:dup3 xs x y=aW (ah xs x).2.1 ((n:Nat):Int) ((n+1:Nat):Int) (dup2 xs y) (m-1):=by
  unfold dup3;rw[←(kW (x:=x) (by rw[hP];omega) _).1,fx,hn,hm]
 have d3y:dup3 ys x y=aW (ah xs x).2.1 ((n:Nat):Int) ((n+1:Nat):Int) (dup2 ys y) (m-1):=by
  unfold dup3;rw[←(kW (x:=x) (by rw[gZ];omega) _).1,fy,←hl,ey,hm]
 have hpp:=fun p=>IC (xs:=xs) (y:=y) (lab:=(ah xs x).2.1) (p:=p) (m-1)
 have hbk:∀p:aJ,p.1.toNat<n→ak (aW (ah xs x).2.1 ((n:Nat):Int) ((n+1:Nat):Int) (dup2 xs y) (m-1)) p→ak xs p:=fun p hlt hp=>QS (by rw[hn];exact hlt) (zx (by rw[hP];omega) hp)
 have hin:∀p:aJ,ak xs p→ak (aW (ah xs x).2.1 ((n:Nat):Int) ((n+1:Nat):Int) (dup2 xs y) (m-1)) p:=fun p hp=>ng (nV hp) _
 have hfan:∀i:Nat,i<m-1→ak (aW (ah xs x).2.1 ((n:Nat):Int) ((n+1:Nat):Int) (dup2 xs y) (m-1)) (((n+2+i:Nat):Int),0):=fun i hi=>by
  have:=su (x:=x) (c:=((n:Nat):Int)) (d:=((n+1:Nat):Int)) (xs:=dup2 xs y) hi;rw[←(kW (x:=x) (by rw[hP];omega) _).1,fx,hP]at this;exact this
 rw[hn,hm]at hpp;have hcn:=ng (lab:=(ah xs x).2.1) (c:=((n:Nat):Int)) (d:=((n+1:Nat):Int)) (hc 0 (Int.le_refl _) (by omega)).1 (m-1);have hdn:=ng (lab:=(ah xs x).2.1) (c:=((n:Nat):Int)) (d:=((n+1:Nat):Int)) (hc 0 (Int.le_refl _) (by omega)).2 (m-1);have inx:∀s:Int,0≤s→s<3→ak xs (x,s):=fun s h0 h1=>⟨k.px.1,k.px.2.1,h0,by show s<((ah xs x).2.2.2.2.length:Nat);omega⟩
 have iny:∀s:Int,0≤s→s<(m:Nat)→ak xs (y,s):=fun s h0 h1=>⟨k.py.1,k.py.2.1,h0,by show s<((ah xs y).2.2.2.2.length:Nat);rw[hm];exact h1⟩
 unfold bJ lQ;rw[d3x,d3y,←hl,hn,ey,hm];generalize aW (ah xs x).2.1 ((n:Nat):Int) ((n+1:Nat):Int) (dup2 xs y) (m-1)=A at*;generalize aW (ah xs x).2.1 ((n:Nat):Int) ((n+1:Nat):Int) (dup2 ys y) (m-1)=B at*;have s4:=s3.move (old:=(x,1)) (now:=((n:Nat),0)) (hin _ (inx 1 (by decide) (by decide))) k.lx (by simp only[Prod.mk.injEq,ne_eq,and_true,true_and,or_true,true_or];omega) hcn (nd _ (Nat.le_refl _)) (.inr (.inr (.inl ⟨.inl rfl,.inl rfl⟩)));have s5:=s4.move (old:=(x,2)) (now:=((n+1:Nat),0)) (hin _ (inx 2 (by decide) (by decide))).move k.lx (by simp only[Prod.mk.injEq,ne_eq,and_true,true_and,or_true,true_or];omega) hdn.move (nd _ (by omega)) (by simp only[Prod.mk.injEq,ne_eq,and_true,true_and,or_true,true_or];omega)
 have s6:=Ja (y:=y) (b:=n+2) (m:=m-1) (fun i hi=>by simp only[Prod.mk.injEq,ne_eq,and_true,true_and,or_true,true_or];omega) ⟨(hin _ (iny 0 (Int.le_refl _) (by omega))).move.move,fun i hi=>⟨(hin _ (iny _ (by omega) (by omega))).move.move,(hfan i hi).move.move⟩⟩ k.ly (fun i=>nd _ (by omega)) (by omega) s5 (m-1) (Nat.le_refl _);refine s6.QU x0 y0 fun p hp _=> ?_
 rw[AX,ak.jN,ak.jN]at hp;obtain⟨q1,q2,q3,q4⟩:=hpp p hp
 have q5:p.1=x→p.2<3:=fun e=>by
  have:=(hbk p (by omega) hp).2.2.2;rw[e]at this;have h2:p.2<((ah xs x).2.2.2.2.length:Nat):=this;omega
 have q6:p.1=y→p.2<(m:Nat):=fun e=>by
  have:=(hbk p (by omega) hp).2.2.2;rw[e]at this;have h2:p.2<((ah xs y).2.2.2.2.length:Nat):=this;omega
 clear hpp hbk hin hfan s0 s2 s3 s4 s5 s6 hc inx iny nd;obtain⟨a,s⟩:=p;simp only[Prod.mk.injEq,ne_eq]at*;omega
end
end Go.Tr
namespace Go.Tr
open Go Go.RowKit
section
variable {D:Int→Prop}{xs ys:List NAgent}{x y:Int}
theorem BM{zs:List NAgent}{p:aJ}(q:aJ)(hp:ak xs p):aN (xs++zs) p q=aN xs p q++zs:=by
 have hl:=FR hp;unfold aN;rw[dH hl,List.set_append_left _ _ hl]
theorem Rb{zs:List NAgent}{p q:aJ}(hp:ak xs p)(hq:ak xs q):bP (xs++zs) p q=bP xs p q++zs:=by
 unfold bP;rw[BM q hp,BM p hq.set]
theorem NZ{p q r s:aJ}(hp:ak xs p)(hq:ak xs q)(hr:ak xs r)(hs:ak xs s)(pr:p≠r)(ps:p≠s)(qr:q≠r)(qs:q≠s):bP (bP xs p q) r s=bP (bP xs r s) p q:=by
 unfold bP;rw[mJ hq.set hr.set qr,mJ (xs:=xs) hp hr pr];rw[mJ (xs:=aN (aN xs r s) p q) hq.set.set hs.set.set qs,mJ (xs:=aN xs r s) hp.set hs.set ps]
theorem Rj{W:List NAgent}{a:NAgent}{old now P Q:aJ}(ho:ak W old)(hpe:ak W (aF W old))(hn:ak W now)(hP:ak (W++[a]) P)(hPl:(W.length:Int)≤P.1)(hQ:ak W Q)(oq:old≠Q)(pq:aF W old≠Q)(nq:now≠Q):
  dM (bP (W++[a]) P Q) old now=bP (dM W old now++[a]) P Q:=by
 have far:∀r:aJ,ak W r→r≠P:=fun r hr e=>by have:=hr.2.1;rw[e]at this;omega
 have e1:aF (bP (W++[a]) P Q) old=aF W old:=by
  rw[jX hP hQ.app ho.app,if_neg (fun e=>oq e.symm),if_neg (fun e=>far old ho e.symm),oZ (FR ho)]
 unfold dM;rw[e1,NZ hP hQ.app hpe.app hn.app (fun e=>far _ hpe e.symm) (fun e=>far _ hn e.symm) (fun e=>pq e.symm) (fun e=>nq e.symm),Rb hpe hn]
theorem Ph{P Q:List NAgent}{lv:Int}{n m:Nat}(hn:P.length=n+1)(xl:x<(n:Nat))(yl:y<(n:Nat))(x0:0≤x)(xy:x≠y)(xd:¬D x)(hD:∀i,D i→i<(n:Nat))(hx:∀s:Int,0≤s→s<(m:Nat)→ak P (x,s))(hr:ak P ((n:Nat),0))
  (h:SX D (fun p=>p=(x,0)∨p=(y,0)∨p.1=(n:Nat)) P Q) (h1:∀p,ak P p→p.1=(n:Nat)→p.2=0):∀k:Nat,k+1≤m→
  SX D (fun p=>(p.1=x∧p.2≤(k:Nat))∨p=(y,0)∨p=jv (n+1) k) (qo lv x (n+1) P k) (qo lv x (n+1) Q k)
 |0,_=>h.congr fun p hp _=>by
  have h2:=h1 p hp;obtain⟨q1,q2,q3,_⟩:=hp;unfold jv;obtain⟨a,s⟩:=p;rw[hn]at q2;simp only[Prod.mk.injEq]at*;omega
 |k+1,hk=>by
  have ih:=Ph (lv:=lv) hn xl yl x0 xy xd hD hx hr h h1 k (by omega);have hl:(qo lv x (n+1) P k).length=n+1+k:=by rw[qO,hn]
  have nd:∀i:Nat,n≤i→¬D (i:Nat):=fun i hi e=>by have:=hD _ e;omega
  have hxk:=nT (lv:=lv) (x:=x) (b:=n+1) (hx ((k+1:Nat):Int) (by omega) (by omega)) k
  have hR:ak (qo lv x (n+1) P k) (jv (n+1) k):=by
   have:=xR (lv:=lv) (x:=x) (xs:=P) (by rw[hn];exact hr) k;rw[hn]at this;exact this
  have hR1:(n:Int)≤(jv (n+1) k).1∧(jv (n+1) k).1<((n+1+k:Nat):Int):=by
   cases k with
   |zero=>unfold jv;simp only[];omega
   |succ k=>unfold jv;simp only[];omega
  have s1:=ih.add (bC 3 lv 0 [] 3);rw[hl]at s1;have f0:ak (qo lv x (n+1) P k++[bC 3 lv 0 [] 3]) ((n+1+k:Nat),0):=ak.eu.2 (.inr ⟨by rw[hl],Int.le_refl _,show(0:Int)<3 by decide⟩);have f1:ak (qo lv x (n+1) P k++[bC 3 lv 0 [] 3]) ((n+1+k:Nat),1):=ak.eu.2 (.inr ⟨by rw[hl],show(0:Int)≤1 by decide,show(1:Int)<3 by decide⟩);have hRd:¬D (jv (n+1) k).1:=fun e=>by have:=hD _ e;omega
  have s2:=s1.link (p:=jv (n+1) k) (q:=((n+1+k:Nat),0)) hR.app hRd (.inl (.inr (.inr rfl))) f0 (nd _ (by omega)) (.inr rfl) (fun e=>by rw[e]at hR1;have:=hR1.2;have h3:((n+1+k:Nat):Int)<((n+1+k:Nat):Int):=this;omega)
  have s3:=s2.move (old:=(x,((k+1:Nat):Int))) (now:=((n+1+k:Nat),1)) hxk.app.link xd (by
   rintro⟨(⟨_,e⟩|e|e)|e,_,_⟩
   ·have:((k+1:Nat):Int)≤(k:Nat):=e;omega
   ·exact dS (.inl xy) e
   ·rw[←e]at hR1;have:=hR1.1;have h3:(n:Int)≤x:=this;omega
   ·have:x=((n+1+k:Nat):Int):=e;omega) f1.link (nd _ (by omega)) ⟨.inr rfl,fun e=>by rw[←e]at hR1;have:=hR1.2;have h3:((n+1+k:Nat):Int)<((n+1+k:Nat):Int):=this;omega,dS (.inr (by decide))⟩
  show SX D _ (qo lv x (n+1) P (k+1)) (qo lv x (n+1) Q (k+1));unfold qo;refine s3.congr fun p hp _=> ?_
  rw[ak.jN,ak.jK,ak.eu,hl]at hp
  have hp':p.1<((n+1+k:Nat):Int)∨(p.1=((n+1+k:Nat):Int)∧0≤p.2∧p.2<3):=by
   rcases hp with hp|hp
   ·have:=hp.2.1;rw[hl]at this;exact .inl this
   ·exact .inr hp
  have e2:jv (n+1) (k+1)=(((n+1+k:Nat):Int),2):=rfl;rw[e2];obtain⟨a,s⟩:=p;generalize hRR:jv (n+1) k=R at*;obtain⟨ra,rs⟩:=R;simp only[Prod.mk.injEq,ne_eq]at*;omega
theorem SX.self{X:aJ→Prop}(h:SX D X xs ys):SX D X xs xs:=⟨⟨rfl,fun _ _ _ _=>rfl⟩,h.wi,h.al⟩
theorem JY{n k:Nat}:(n:Int)≤(jv (n+1) k).1∧(jv (n+1) k).1<((n+1+k:Nat):Int)∧(jv (n+1) k).2≠1:=by
 cases k with
 |zero=>unfold jv;simp only[];omega
 |succ k=>unfold jv;simp only[];omega
theorem Pf{P Q:List NAgent}{lv:Int}{n:Nat}(hn:P.length=n+1)(xl:x<(n:Nat))(yl:y<(n:Nat))(hD:∀i,D i→i<(n:Nat))(hr:ak P ((n:Nat),0))
  (h:SX D (fun p=>p=(x,0)∨p=(y,0)∨p.1=(n:Nat)) P Q) (h1:∀p,ak P p→p.1=(n:Nat)→p.2=0):∀k:Nat,
  SX D (fun p=>p=(x,0)∨p=(y,0)∨(((n+1:Nat):Int)≤p.1∧p.2=1)∨p=jv (n+1) k) (rD lv (n+1) P k) (rD lv (n+1) Q k)
 |0=>h.congr fun p hp _=>by
  have h2:=h1 p hp;obtain⟨q1,q2,q3,_⟩:=hp;unfold jv;obtain⟨a,s⟩:=p;rw[hn]at q2;simp only[Prod.mk.injEq]at*;omega
 |k+1=>by
  have ih:=Pf (lv:=lv) hn xl yl hD hr h h1 k;have hl:(rD lv (n+1) P k).length=n+1+k:=by rw[yM,hn]
  have nd:∀i:Nat,n≤i→¬D (i:Nat):=fun i hi e=>by have:=hD _ e;omega
  obtain⟨r1,r2,r3⟩:=JY (n:=n) (k:=k)
  have hR:ak (rD lv (n+1) P k) (jv (n+1) k):=by
   have:=Iw (lv:=lv) (xs:=P) (by rw[hn];exact hr) k;rw[hn]at this;exact this
  have s1:=ih.add (bC 3 lv 0 [] 3);rw[hl]at s1;have f0:ak (rD lv (n+1) P k++[bC 3 lv 0 [] 3]) ((n+1+k:Nat),0):=ak.eu.2 (.inr ⟨by rw[hl],Int.le_refl _,show(0:Int)<3 by decide⟩);have s2:=s1.link (p:=((n+1+k:Nat),0)) (q:=jv (n+1) k) f0 (nd _ (by omega)) (.inr rfl) hR.app (fun e=>by have:=hD _ e;omega) (.inl (.inr (.inr (.inr rfl)))) (fun e=>by rw[←e]at r2;have h3:((n+1+k:Nat):Int)<((n+1+k:Nat):Int):=r2;omega);unfold rD;refine s2.congr fun p hp _=> ?_
  rw[ak.jK,ak.eu,hl]at hp
  have hp':p.1<((n+1+k:Nat):Int)∨(p.1=((n+1+k:Nat):Int)∧0≤p.2∧p.2<3):=by
   rcases hp with hp|hp
   ·have:=hp.2.1;rw[hl]at this;exact .inl this
   ·exact .inr hp
  have e2:jv (n+1) (k+1)=(((n+1+k:Nat):Int),2):=rfl;rw[e2];obtain⟨a,s⟩:=p;generalize hRR:jv (n+1) k=R at*;obtain⟨ra,rs⟩:=R;simp only[Prod.mk.injEq,ne_eq]at*;omega
theorem O1{Z:List NAgent}{n m k:Nat}(xl:x<(n:Nat))(x0:0≤x)(xy:x≠y)(xd:¬D x)(hD:∀i,D i→i<(n:Nat))(hx:∀s:Int,0≤s→s<(m:Nat)→ak Z (x,s))(hz:∀i:Nat,i<k→ak Z (((n+1+i:Nat):Int),1))(hl:Z.length=n+1+k)
  (h:SX D (fun p=>p=(x,0)∨p=(y,0)∨(((n+1:Nat):Int)≤p.1∧p.2=1)∨p=jv (n+1) k) Z Z):∀j:Nat,j≤k→j+1≤m→
  SX D (fun p=>(p.1=x∧p.2≤(j:Nat))∨p=(y,0)∨(((n+1+j:Nat):Int)≤p.1∧p.2=1)∨p=jv (n+1) k) (E5 x (n+1) Z j) (E5 x (n+1) Z j)
 |0,_,_=>h.congr fun p hp _=>by
  obtain⟨q1,q2,q3,_⟩:=hp;obtain⟨a,s⟩:=p;generalize jv (n+1) k=R;obtain⟨ra,rs⟩:=R;simp only[Prod.mk.injEq]at*;omega
 |j+1,hj,hm=>by
  have ih:=O1 xl x0 xy xd hD hx hz hl h j (by omega) (by omega);obtain⟨r1,r2,r3⟩:=JY (n:=n) (k:=k);have nd:∀i:Nat,n≤i→¬D (i:Nat):=fun i hi e=>by have:=hD _ e;omega
  have s1:=ih.move (old:=(x,((j:Nat):Int)+1)) (now:=(((n+1+j:Nat):Int),1)) (nS (hx _ (by omega) (by omega)) j) xd (by
   generalize jv (n+1) k=R at*;obtain⟨ra,rs⟩:=R;simp only[Prod.mk.injEq,ne_eq]at*;omega) (nS (hz j (by omega)) j) (nd _ (by omega)) (.inr (.inr (.inl ⟨Int.le_refl _,rfl⟩)))
  unfold E5;refine s1.congr fun p hp _=> ?_
  have q3:=hp.2.2.1;have q2:=hp.2.1;obtain⟨a,s⟩:=p;generalize hRR:jv (n+1) k=R at*;obtain⟨ra,rs⟩:=R;simp only[Prod.mk.injEq,ne_eq]at*;omega
theorem XP{P:List NAgent}{lv:Int}{n m:Nat}(hn:P.length=n+1)(xl:x<(n:Nat))(yl:y<(n:Nat))(x0:0≤x)(xy:x≠y)(xd:¬D x)(hD:∀i,D i→i<(n:Nat))(hx:∀s:Int,0≤s→s<(m:Nat)→ak P (x,s))(hr:ak P ((n:Nat),0))
  (h:SX D (fun p=>p=(x,0)∨p=(y,0)∨p.1=(n:Nat)) P P) (h1:∀p,ak P p→p.1=(n:Nat)→p.2=0):∀k:Nat,k+1≤m→E5 x (n+1) (rD lv (n+1) P k) k=qo lv x (n+1) P k
 |0,_=>rfl
 |k+1,hk=>by
  have ih:=XP (lv:=lv) hn xl yl x0 xy xd hD hx hr h h1 k (by omega);have hl:(rD lv (n+1) P k).length=n+1+k:=by rw[yM,hn]
  have nd:∀i:Nat,n≤i→¬D (i:Nat):=fun i hi e=>by have:=hD _ e;omega
  obtain⟨r1,r2,r3⟩:=JY (n:=n) (k:=k)
  have hR:ak (rD lv (n+1) P k) (jv (n+1) k):=by
   have:=Iw (lv:=lv) (xs:=P) (by rw[hn];exact hr) k;rw[hn]at this;exact this
  have hxN:∀s:Int,0≤s→s<(m:Nat)→ak (rD lv (n+1) P k) (x,s):=fun s a b=>E8 (hx s a b) k
  have hzN:∀i:Nat,i<k→ak (rD lv (n+1) P k) (((n+1+i:Nat):Int),1):=fun i hi=>by
   have:=AB (lv:=lv) (xs:=P) (s:=1) (by decide) (by decide) hi;rw[hn]at this;exact this
  have sN:=Pf (lv:=lv) hn xl yl hD hr h h1 k
  have key:∀j:Nat,j≤k→E5 x (n+1) (bP (rD lv (n+1) P k++[bC 3 lv 0 [] 3]) ((n+1+k:Nat),0) (jv (n+1) k)) j=bP (E5 x (n+1) (rD lv (n+1) P k) j++[bC 3 lv 0 [] 3]) ((n+1+k:Nat),0) (jv (n+1) k):=by
   intro j
   induction j with
   |zero=>intro _;rfl
   |succ j ihj=>
    intro hj;have e:=ihj (by omega);have sM:=O1 (k:=k) xl x0 xy xd hD hxN hzN hl sN j (by omega) (by omega);have hlW:(E5 x (n+1) (rD lv (n+1) P k) j).length=n+1+k:=by rw[OY,hl]
    show dM (E5 x (n+1) (bP (rD lv (n+1) P k++[bC 3 lv 0 [] 3]) ((n+1+k:Nat),0) (jv (n+1) k)) j) (x,((j:Nat):Int)+1) (((n+1+j:Nat):Int),1)=bP (dM (E5 x (n+1) (rD lv (n+1) P k) j) (x,((j:Nat):Int)+1) (((n+1+j:Nat):Int),1)++[bC 3 lv 0 [] 3]) _ _;rw[e];have ho:=nS (x:=x) (b:=n+1) (hxN (((j:Nat):Int)+1) (by omega) (by omega)) j
    have hw:=sM.wi (x,((j:Nat):Int)+1) ⟨⟨ho,xd⟩,by
     generalize jv (n+1) k=R at*;obtain⟨ra,rs⟩:=R;simp only[Prod.mk.injEq]at*;omega⟩
    refine Rj ho hw.2.1.1.1 (nS (hzN j (by omega)) j) (ak.eu.2 (.inr ⟨by rw[hlW],Int.le_refl _,show(0:Int)<3 by decide⟩)) (by rw[hlW];exact Int.le_refl _) (nS hR j) ?_ (fun e=>hw.2.1.2 (.inr (.inr (.inr e)))) ?_
    ·intro e;rw[←e]at r1;have:(n:Int)≤x:=r1;omega
    ·intro e;rw[←e]at r3;exact r3 rfl
  show dM (E5 x (n+1) (bP (rD lv (n+1) P k++[bC 3 lv 0 [] 3]) (((n+1+k:Nat):Int),0) (jv (n+1) k)) k) (x,((k:Nat):Int)+1) (((n+1+k:Nat):Int),1)=dM (bP (qo lv x (n+1) P k++[bC 3 lv 0 [] 3]) (jv (n+1) k) (((n+1+k:Nat):Int),0)) (x,((k+1:Nat):Int)) (((n+1+k:Nat):Int),1);rw[key k (Nat.le_refl _),ih];have hlS:(qo lv x (n+1) P k).length=n+1+k:=by rw[qO,hn]
  have hRS:ak (qo lv x (n+1) P k) (jv (n+1) k):=by
   have:=xR (lv:=lv) (x:=x) (xs:=P) (by rw[hn];exact hr) k;rw[hn]at this;exact this
  rw[wG (ak.eu.2 (.inr ⟨by rw[hlS],Int.le_refl _,show(0:Int)<3 by decide⟩)) hRS.app];rfl
theorem E9{lv:Int}{b:Nat}{P:List NAgent}{p:aJ}(hlt:p.1.toNat<P.length):∀{k:Nat},ak (qo lv x b P k) p→ak P p
 |0,h=>h
 |k+1,h=>by
  unfold qo at h;rw[ak.jN,ak.jK,ak.eu,qO]at h;rcases h with h|⟨h,_⟩
  ·exact E9 hlt h
  ·omega
theorem St.choose(h:St D xs ys)(k:nQ D xs x y)(hD:∀i,D i→i<(xs.length:Nat))(h6:(ah xs x).1=6↔(ah xs y).1=11)(hx:(ah xs x).1=6→(ah xs x).2.2.2.2.length=1)(hx1:1≤(ah xs x).2.2.2.2.length)(hy:(ah xs y).2.2.2.2.length=2):
  St (fun i=>D i∨i=x∨i=y) (kG xs x y) (bD (bD (dJ ys x y) x) y):=by
 have ey:ah ys y=ah xs y:=(h.ag.2 y k.py.1 k.py.2.1 k.ly).symm;have ex:ah ys x=ah xs x:=(h.ag.2 x k.px.1 k.px.2.1 k.lx).symm;have hl:xs.length=ys.length:=h.ag.1;have xl:x<(xs.length:Nat):=k.px.2.1;have yl:y<(xs.length:Nat):=k.py.2.1;have x0:0≤x:=k.px.1;have y0:0≤y:=k.py.1;have hne:=k.ne;have nd:∀i:Nat,xs.length≤i→¬D (i:Nat):=fun i hi e=>by have:=hD _ e;omega
 have iny1:ak xs (y,1):=⟨k.py.1,k.py.2.1,show(0:Int)≤1 by decide,by show(1:Int)<((ah xs y).2.2.2.2.length:Nat);omega⟩;have hkb:((ah xs x).1==6)=((ah xs y).1==11):=by rw[Bool.eq_iff_iff];simpa using h6
 have s1:∀i:Int,SX D (fun p=>p=(x,0)∨p=(y,0)∨p.1=(xs.length:Nat)) (bF xs y i) (bF ys y i):=fun i=>by
  unfold bF;rw[ey];refine((SX.start h k).add _).congr fun p _ _=> ?_
  constructor
  ·rintro(e|e|e)
   ·exact .inl (.inl e)
   ·exact .inl (.inr e)
   ·exact .inr e
  ·rintro((e|e)|e)
   ·exact .inl e
   ·exact .inr (.inl e)
   ·exact .inr (.inr e)
 have hlen:∀i:Int,(bF xs y i).length=xs.length+1:=fun i=>by unfold bF;rw[List.length_append];rfl
 have hnew:∀i:Int,ak (bF xs y i) ((xs.length:Nat),0):=fun i=>ak.eu.2 (.inr ⟨rfl,Int.le_refl _,show(0:Int)<1 by decide⟩)
 have h1:∀(i:Int) p,ak (bF xs y i) p→p.1=(xs.length:Nat)→p.2=0:=fun i p hp e=>by
  rcases ak.eu.1 hp with q|⟨_,q2,q3⟩
  ·have:=q.2.1;omega
  ·have:p.2<1:=q3;omega
 have hback:∀(i:Int) (p:aJ),p.1.toNat<xs.length→ak (bF xs y i) p→ak xs p:=fun i p hlt hp=>by
  rcases ak.eu.1 hp with q|⟨q,_⟩
  ·exact q
  ·omega
 have hin:∀(i:Int) (p:aJ),ak xs p→ak (bF xs y i) p:=fun i p hp=>hp.app
 unfold kG dJ;rw[ex,ey,hkb,←hl];cases hk:(ah xs y).1==11 with
 |true=>
  simp only[cond_true];have h3:=hx (h6.2 (by simpa using hk));generalize (bif (ah xs x).2.2.1==0 then(1:Int)else 0)=i;have s2:=(s1 i).move (old:=(y,1)) (now:=((xs.length:Nat),0)) (hin i _ iny1) k.ly (by simp only[Prod.mk.injEq];omega) (hnew i) (nd _ (Nat.le_refl _)) (.inr (.inr rfl));refine s2.QU x0 y0 fun p hp _=> ?_
  rw[ak.jN]at hp;have q0:=h1 i p hp;have q1:=hp.2.2.1;have q2:=hp.1
  have q4:p.1=x→p.2<1:=fun e=>by
   have:=(hback i p (by omega) hp).2.2.2;rw[e]at this;have h2:p.2<((ah xs x).2.2.2.2.length:Nat):=this;omega
  have q5:p.1=y→p.2<2:=fun e=>by
   have:=(hback i p (by omega) hp).2.2.2;rw[e]at this;have h2:p.2<((ah xs y).2.2.2.2.length:Nat):=this;omega
  obtain⟨a,s⟩:=p;simp only[Prod.mk.injEq,ne_eq]at*;omega
 |false=>
  simp only[cond_false];generalize (ah xs x).2.2.1=i;generalize (ah xs y).2.1=lv;have hxi:∀s:Int,0≤s→s<((ah xs x).2.2.2.2.length:Nat)→ak (bF xs y i) (x,s):=fun s a b=>hin i _ ⟨x0,xl,a,b⟩
  rw[XP (lv:=lv) (hlen i) xl yl x0 k.ne k.lx hD hxi (hnew i) (s1 i).self (h1 i) ((ah xs x).2.2.2.2.length-1) (by omega)];have s2:=Ph (lv:=lv) (hlen i) xl yl x0 k.ne k.lx hD hxi (hnew i) (s1 i) (h1 i) ((ah xs x).2.2.2.2.length-1) (by omega);generalize hm:(ah xs x).2.2.2.2.length=m at*;obtain⟨r1,r2,r3⟩:=JY (n:=xs.length) (k:=m-1)
  have hR:ak (qo lv x (xs.length+1) (bF xs y i) (m-1)) (jv (xs.length+1) (m-1)):=by
   have:=xR (lv:=lv) (x:=x) (xs:=bF xs y i) (by rw[hlen];exact hnew i) (m-1);rw[hlen]at this;exact this
  have s3:=s2.move (old:=(y,1)) (now:=jv (xs.length+1) (m-1)) (nT (hin i _ iny1) _) k.ly (by
   generalize jv (xs.length+1) (m-1)=R at*;obtain⟨ra,rs⟩:=R;simp only[Prod.mk.injEq]at*;omega) hR (fun e=>by have:=hD _ e;omega) (.inr (.inr rfl))
  refine s3.QU x0 y0 fun p hp _=> ?_
  rw[ak.jN]at hp;have q1:=hp.2.2.1;have q2:=hp.1
  have q4:p.1=x→p.2<(m:Nat):=fun e=>by
   have:=(hback i p (by omega) (E9 (by rw[hlen];omega) hp)).2.2.2;rw[e]at this;have h2:p.2<((ah xs x).2.2.2.2.length:Nat):=this;omega
  have q5:p.1=y→p.2<2:=fun e=>by
   have:=(hback i p (by omega) (E9 (by rw[hlen];omega) hp)).2.2.2;rw[e]at this;have h2:p.2<((ah xs y).2.2.2.2.length:Nat):=this;omega
  generalize jv (xs.length+1) (m-1)=R at*;obtain⟨ra,rs⟩:=R;obtain⟨a,s⟩:=p;clear h1 hback hin hxi s1 s2 s3 hnew hlen nd;simp only[Prod.mk.injEq,ne_eq]at*;omega
end
end Go.Tr
namespace Go.Tr
open Go Go.RowKit
section
variable {D:Int→Prop}{X:aJ→Prop}{xs ys:List NAgent}{x y:Int}
theorem rQ{t:List NAgent}{b i:Int}(hb:b=(xs.length:Int)-1)(h1:(xs.length:Int)≤i)(h2:i-b<(t.length:Nat)):ah (xs++(t.drop 1).map (dz b)) i=dz b (ah t (i-b)):=by
 unfold ah elt;rw[List.getD_eq_getElem?_getD,List.getElem?_append_right (by omega),List.getElem?_map,List.getElem?_drop];have e:1+(i.toNat-xs.length)=(i-b).toNat:=by omega
 rw[e,List.getD_eq_getElem?_getD,List.getElem?_eq_getElem (by omega)];rfl
theorem oU(t:List NAgent)(b:Int):((t.drop 1).map (dz b)).length=t.length-1:=by rw[List.length_map,List.length_drop]
theorem ak.nH{t:List NAgent}{b:Int}{p:aJ}(hb:b=(xs.length:Int)-1):ak (xs++(t.drop 1).map (dz b)) p↔ak xs p∨((xs.length:Int)≤p.1∧ak t (p.1-b,p.2)):=by
 have hml:=oU t b;have hpl:∀a:NAgent,(dz b a).ports.length=a.ports.length:=fun a=>by show(List.map _ _).length=_;rw[List.length_map]
 constructor
 ·intro h;have h':=h;obtain⟨h1,h2,h3,h4⟩:=h;rw[List.length_append,hml]at h2
  by_cases hl:p.1.toNat<xs.length
  ·rw[dH hl]at h4;exact .inl ⟨h1,by omega,h3,h4⟩
  ·have hlt:p.1-b<(t.length:Nat):=by omega
   rw[rQ hb (by omega) hlt,hpl]at h4;exact .inr ⟨by omega,by show 0≤p.1-b;omega,hlt,h3,h4⟩
 ·rintro(h|⟨h,h1,h2,h3,h4⟩)
  ·exact h.app
  ·have h2':p.1-b<(t.length:Nat):=h2;refine⟨by omega,by rw[List.length_append,hml];omega,h3,?_⟩;rw[rQ hb h h2',hpl];exact h4
theorem yC{t:List NAgent}{b:Int}{p:aJ}(hb:b=(xs.length:Int)-1)(h:(xs.length:Int)≤p.1)(hp:ak t (p.1-b,p.2)):aF (xs++(t.drop 1).map (dz b)) p=((aF t (p.1-b,p.2)).1+b,(aF t (p.1-b,p.2)).2):=by
 obtain⟨h1,h2,h3,h4⟩:=hp;unfold aF;rw[rQ hb h h2];show elt (dflt uPort) (List.map _ _) p.2=_;unfold elt
 have h4':p.2.toNat<(ah t (p.1-b)).ports.length:=by
  have h5:p.2<((ah t (p.1-b)).ports.length:Nat):=h4;have h6:0≤p.2:=h3;omega
 rw[List.getD_eq_getElem?_getD,List.getElem?_map,List.getElem?_eq_getElem h4'];show _=(((ah t (p.1-b)).ports.getD p.2.toNat (dflt uPort)).1+b,((ah t (p.1-b)).ports.getD p.2.toNat (dflt uPort)).2);rw[List.getD_eq_getElem?_getD,List.getElem?_eq_getElem h4'];rfl
theorem SX.Zt{t:List NAgent}{b:Int}(hb:b=(xs.length:Int)-1)(ht:iM (fun p=>ak t p) t)(h0:ak t (0,0))(h00:∀p,ak t p→p.1=0→p=(0,0))(hD:∀i,D i→i<(xs.length:Nat))(hX:∀p,X p→p.1<(xs.length:Nat))(h:SX D X xs ys):
  SX D (fun p=>X p∨p=((aF t (0,0)).1+b,(aF t (0,0)).2)) (xs++(t.drop 1).map (dz b)) (ys++(t.drop 1).map (dz b)):=by
 obtain⟨r1,r2,r3,r4⟩:=ht (0,0) h0;have rR:ak t (aF t (0,0)):=r2
 have rpos:1≤(aF t (0,0)).1:=by
  have h1:=rR.1
  by_cases e:(aF t (0,0)).1=0
  ·exact absurd (h00 _ rR e) r4
  ·omega
 refine⟨h.ag.app _,fun p hp=> ?_,fun p hp=>hp.1.2⟩;obtain⟨⟨p1,p2⟩,p3⟩:=hp;rcases(ak.nH hb).1 p1 with q|⟨q1,q2⟩
 ·obtain⟨w1,w2,w3,w4⟩:=h.wi p ⟨⟨q,p2⟩,fun k=>p3 (.inl k)⟩;have e:=oZ (ys:=(t.drop 1).map (dz b)) (FR q);refine⟨p1,?_,by rw[e,oZ (FR w2.1.1),w3],by rw[e];exact w4⟩;rw[e];refine⟨⟨w2.1.1.app,w2.1.2⟩,fun k=> ?_⟩;rcases k with k|k
  ·exact w2.2 k
  ·have:=w2.1.1.2.1;rw[k]at this;have h2:(aF t (0,0)).1+b<(xs.length:Nat):=this;omega
 ·obtain⟨w1,w2,w3,w4⟩:=ht _ q2;have w2':ak t (aF t (p.1-b,p.2)):=w2;have e:=yC hb q1 q2
  have hne:(aF t (p.1-b,p.2)).1≠0:=fun e0=>by
   have e1:=h00 _ w2' e0;rw[e1]at w3;exact p3 (.inr (eU (by rw[w3];show p.1=p.1-b+b;omega) (by rw[w3])))
  have hge:1≤(aF t (p.1-b,p.2)).1:=by have:=w2'.1;omega
  have hin:ak (xs++(t.drop 1).map (dz b)) ((aF t (p.1-b,p.2)).1+b,(aF t (p.1-b,p.2)).2):=(ak.nH hb).2 (.inr ⟨by show(xs.length:Int)≤(aF t (p.1-b,p.2)).1+b;omega,by
   rw[show(((aF t (p.1-b,p.2)).1+b,(aF t (p.1-b,p.2)).2):aJ).1-b=(aF t (p.1-b,p.2)).1 by show(aF t (p.1-b,p.2)).1+b-b=_;omega];exact w2'⟩)
  refine⟨p1,?_,?_,?_⟩
  ·rw[e];refine⟨⟨hin,fun k=> ?_⟩,fun k=> ?_⟩
   ·have:=hD _ k;have h2:(aF t (p.1-b,p.2)).1+b<(xs.length:Nat):=this;omega
   ·rcases k with k|k
    ·have:=hX _ k;have h2:(aF t (p.1-b,p.2)).1+b<(xs.length:Nat):=this;omega
    ·have e2:aF t (p.1-b,p.2)=aF t (0,0):=by
      injection k with k1 k2
      exact eU (by omega) k2
     rw[e2,r3]at w3;injection w3 with w5 w6
     omega
  ·rw[e,yC hb (by show(xs.length:Int)≤(aF t (p.1-b,p.2)).1+b;omega) (by
    rw[show(((aF t (p.1-b,p.2)).1+b,(aF t (p.1-b,p.2)).2):aJ).1-b=(aF t (p.1-b,p.2)).1 by show(aF t (p.1-b,p.2)).1+b-b=_;omega];exact w2')]
   have e3:((((aF t (p.1-b,p.2)).1+b,(aF t (p.1-b,p.2)).2):aJ).1-b,(((aF t (p.1-b,p.2)).1+b,(aF t (p.1-b,p.2)).2):aJ).2)=aF t (p.1-b,p.2):=eU (by show(aF t (p.1-b,p.2)).1+b-b=_;omega) rfl;rw[e3,w3];exact eU (by show p.1-b+b=p.1;omega) rfl
  ·rw[e];intro k;refine w4 (eU ?_ ?_)
   ·have:=congrArg Prod.fst k;show(aF t (p.1-b,p.2)).1=p.1-b;have h2:(aF t (p.1-b,p.2)).1+b=p.1:=this;omega
   ·have h2:=congrArg Prod.snd k;exact h2
theorem rz(lv:Int)(a:NAgent):(jB lv a).ports=a.ports:=by unfold jB;cases bV a.kind<;>rfl
theorem vY(lv:Int)(t:List NAgent){i:Int}(h0:0≤i)(h1:i<(t.length:Nat)):ah (cO lv t) i=jB lv (ah t i):=by
 unfold ah elt cO;rw[List.getD_eq_getElem?_getD,List.getElem?_map,List.getD_eq_getElem?_getD,List.getElem?_eq_getElem (by omega)];rfl
theorem mQ(lv:Int)(t:List NAgent):(cO lv t).length=t.length:=by unfold cO;rw[List.length_map]
theorem ak.jO{lv:Int}{t:List NAgent}{p:aJ}:ak (cO lv t) p↔ak t p:=by
 unfold ak;rw[mQ];constructor
 ·rintro⟨h1,h2,h3,h4⟩;rw[vY lv t h1 h2,rz]at h4;exact⟨h1,h2,h3,h4⟩
 ·rintro⟨h1,h2,h3,h4⟩;refine⟨h1,h2,h3,?_⟩;rw[vY lv t h1 h2,rz];exact h4
theorem pY{lv:Int}{t:List NAgent}{p:aJ}(hp:ak t p):aF (cO lv t) p=aF t p:=by
 unfold aF;rw[vY lv t hp.1 hp.2.1,rz]
theorem iM.shift{lv:Int}{t:List NAgent}(h:iM (fun p=>ak t p) t):iM (fun p=>ak (cO lv t) p) (cO lv t):=fun p hp=>by
 have hp':=ak.jO.1 hp;obtain⟨h1,h2,h3,h4⟩:=h p hp';rw[pY hp'];exact⟨hp,ak.jO.2 h2,by rw[pY h2,h3],h4⟩
theorem St.expand{bk:List (List NAgent)}(h:St D xs ys)(k:nQ D xs x y)(hD:∀i,D i→i<(xs.length:Nat))(hx:(ah xs x).2.2.2.2.length=1)
  (ht:iM (fun p=>ak (bQ bk (ah xs x).2.2.1) p) (bQ bk (ah xs x).2.2.1)) (h0:ak (bQ bk (ah xs x).2.2.1) (0,0)) (h00:∀p,ak (bQ bk (ah xs x).2.2.1) p→p.1=0→p=(0,0)):
  St (fun i=>D i∨i=x) (nX bk xs x y) (bD (fE (bQ bk (ah ys x).2.2.1) (ah ys x).2.1 ys y) x):=by
 have ex:ah ys x=ah xs x:=(h.ag.2 x k.px.1 k.px.2.1 k.lx).symm;have hl:xs.length=ys.length:=h.ag.1;have xl:x<(xs.length:Nat):=k.px.2.1;have yl:y<(xs.length:Nat):=k.py.2.1;have hne:=k.ne;rw[ex];unfold nX fE nN;generalize bQ bk (ah xs x).2.2.1=t at*;generalize (ah xs x).2.1=lv;generalize hb:(xs.length:Int)-1=b;have hb':b=(xs.length:Int)-1:=hb.symm
 have e1:jQ lv ((ys.length:Int)-1) t (t.length-1)=((cO lv t).drop 1).map (dz b):=by
  unfold jQ;rw[←hl,hb,List.take_of_length_le (by rw[List.length_drop,mQ];exact Nat.le_refl _)]
 have s0:=SX.start h k;have s1:=s0.Zt (t:=cO lv t) hb' ht.shift (ak.jO.2 h0) (fun p hp e=>h00 p (ak.jO.1 hp) e) hD (fun p hp=>by rcases hp with e|e<;>rw[e]<;>assumption);rw[e1,pY h0]at*;obtain⟨r1,r2,r3,r4⟩:=ht (0,0) h0;have rR:ak t (aF t (0,0)):=r2
 have rpos:1≤(aF t (0,0)).1:=by
  have h1:=rR.1
  by_cases e:(aF t (0,0)).1=0
  ·exact absurd (h00 _ rR e) r4
  ·omega
 generalize aF t (0,0)=R at*
 have hR:ak (xs++((cO lv t).drop 1).map (dz b)) (R.1+b,R.2):=(ak.nH hb').2 (.inr ⟨by show(xs.length:Int)≤R.1+b;omega,ak.jO.2 (by
  rw[show((R.1+b,R.2):aJ).1-b=R.1 by show R.1+b-b=R.1;omega];exact rR)⟩)
 have s2:=s1.link (p:=(y,0)) (q:=(R.1+b,R.2)) k.py.app k.ly (.inl (.inr rfl)) hR (fun e=>by have:=hD _ e;have h2:R.1+b<(xs.length:Nat):=this;omega) (.inr rfl) (dS (.inl (by omega)))
 have e2:bP (ys++((cO lv t).drop 1).map (dz b)) ((ys.length:Int)-1+R.1,R.2) (y,0)=bP (ys++((cO lv t).drop 1).map (dz b)) (y,0) (R.1+b,R.2):=by
  rw[←hl,hb,show b+R.1=R.1+b by omega];refine wG ?_ ?_
  ·have:=(s1.ag.port hR (fun e=>by have:=hD _ e;have h2:R.1+b<(xs.length:Nat):=this;omega)).1;exact this
  ·exact(s1.ag.port (p:=(y,0)) k.py.app k.ly).1
 rw[e2];refine s2.end1 k.px.1 fun p hp _=> ?_
 rw[ak.jK]at hp;constructor
 ·rintro⟨(e|e)|e,e3,e4⟩
  ·rw[e]
  ·exact absurd e e3
  ·exact absurd e e4
 ·intro e;rcases(ak.nH hb').1 hp with q|⟨q,_⟩
  ·obtain⟨q1,q2,q3,q4⟩:=q;rw[e]at q4;have h3:p.2<((ah xs x).2.2.2.2.length:Nat):=q4;refine⟨.inl (.inl (eU e (by show p.2=0;omega))),fun e2=> ?_,fun e2=> ?_⟩
   ·rw[e2]at e;exact hne e.symm
   ·rw[e2]at e;have h4:R.1+b=x:=e;omega
  ·omega
end
end Go.Tr
namespace Go.Tr
open Go Go.RowKit
def gA(a:NAgent):aA:=⟨a.1,a.2.1,a.2.2.1,a.2.2.2.1,a.2.2.2.2.map fun p=>⟨p.1,p.2⟩⟩
theorem sw(l:List Int):List.flatMap (enc (.int .i64)) l=l.flatMap bg:=by
 induction l with
 |nil=>rfl
 |cons x l ih=>rw[List.flatMap_cons,List.flatMap_cons,ih];rfl
theorem QT(l:List aJ):(l.map fun p=>(⟨p.1,p.2⟩:aG)).flatMap aG.enc=List.flatMap (enc uPort) l:=by
 induction l with
 |nil=>rfl
 |cons x l ih=>rw[List.map_cons,List.flatMap_cons,List.flatMap_cons,ih];rfl
theorem TR(a:NAgent):(gA a).enc=enc uAgent a:=by
 show[_,_,_,D.sl _ _,D.sl _ _]=[_]++([_]++([_]++([_]++[_])));simp only[List.cons_append,List.nil_append,gA];rw[QT,←sw,List.length_map]
abbrev XH:=Int×Int
def BJ(xs:List NAgent):Nat→XH→XH×Bool
 |0,w=>(w,false)
 |k+1,w=>bif (w.1 !=2)||(ah xs w.2).2.2.2.2.length==0 then(w,true)else BJ xs k ((ah xs w.2).2.2.2.2.getD 0 (0,0))
def Bg{α:Type}(g:α→Bool):List α→Int→Int
 |[],_=> -1
 |x::l,k=>bif g x then k else Bg g l (k+1)
theorem Fp{α:Type}(d:α){xs:List α}{i:Nat}(h:i<xs.length):xs.drop i=xs.getD i d::xs.drop (i+1):=by
 rw[List.getD_eq_getElem?_getD,List.getElem?_eq_getElem h];exact List.drop_eq_getElem_cons h
theorem Dt(n:Nat)(f:Nat→Bool):eH (n+1) f=(eH n f&&f n):=by simp[eH,List.range_succ]
def Wf(a:NAgent):Prop:=dY (gA a)=true
theorem fZ{a:NAgent}(h:Wf a):dx a.1 a.2.1=true∧gY (gA a)=true∧(a.2.2.2.2.length:Int)=dG a.1 (fF a.1 a.2.2.2.2.length)∧0<a.2.2.2.2.length:=by
 unfold Wf dY at h;simp only[Bool.and_eq_true,decide_eq_true_eq,beq_iff_eq]at h;obtain⟨⟨⟨h1,h2⟩,h3⟩,h4⟩:=h;have e:((gA a).ports.length:Int)=(a.2.2.2.2.length:Int):=by simp[gA]
 have e2:fieldsOf (gA a)=fF a.1 a.2.2.2.2.length:=by unfold fieldsOf;rw[e];rfl
 rw[e,e2]at h2;rw[e2]at h1;exact⟨h3,h4,h2,by(have:0<dG a.1 (fF a.1 a.2.2.2.2.length):=h1);omega⟩
theorem K9{a:NAgent}(h:Wf a):1≤a.1∧a.1≤12:=by
 have:=(fZ h).1;unfold dx lC at this;simp only[Bool.and_eq_true]at this;exact kr this.1
theorem vR{a:NAgent}(h:Wf a):(a.1=1∨a.1=5∨a.1=6∨a.1=12→a.2.2.2.2.length=1)∧(a.1=8∨a.1=10∨a.1=11→a.2.2.2.2.length=2)∧(a.1=2∨a.1=3∨a.1=4∨a.1=7→a.2.2.2.2.length=3)∧(a.1=9→1≤a.2.2.2.2.length∧a.2.2.2.2.length≤4):=by
 obtain⟨_,_,h3,h4⟩:=fZ h;have hf:∀k:Int,k≠9→fF k a.2.2.2.2.length=0:=fun k hk=>by unfold fF;rw[if_neg (by simpa using hk)]
 refine⟨fun e=> ?_,fun e=> ?_,fun e=> ?_,fun e=> ?_⟩
 ·have k9:a.1≠9:=by omega
  rw[hf _ k9]at h3;unfold dG at h3;rw[if_neg k9,if_pos rfl,if_pos e]at h3;omega
 ·have k9:a.1≠9:=by omega
  rw[hf _ k9]at h3;unfold dG at h3;rw[if_neg k9,if_pos rfl,if_neg (by omega),if_pos e]at h3;omega
 ·have k9:a.1≠9:=by omega
  rw[hf _ k9]at h3;unfold dG at h3;rw[if_neg k9,if_pos rfl,if_neg (by omega),if_neg (by omega),if_pos e]at h3;omega
 ·rw[e]at h3;unfold dG fF at h3;simp only[beq_self_eq_true,if_true]at h3
  by_cases hb:inB ((a.2.2.2.2.length:Int)-1) 0 3=true
  ·have:=kr hb;omega
  ·rw[if_neg hb]at h3;omega
theorem iY{ka la kb lb c:Int}(h:rule ka la kb lb=c)(h0:c≠0):
  (c=1→ka=2∧kb=3)∧(c=2→ka=4∧kb=4)∧(c=3→ka=4)∧(c=4→ka=5)∧(c=5→ka=6∧(kb=7∨kb=8))∧(c=6→(ka=6∧kb=11)∨(ka=9∧kb=10))∧(c=7→ka=12∧(kb=3∨kb=7∨kb=8∨kb=10∨kb=11)):=by
 unfold rule at h;split at h
 ·subst h;simp_all
 split at h
 ·split at h
  ·rename_i h1;simp only[Bool.and_eq_true,beq_iff_eq]at h1;subst h;simp_all
  ·split at h
   ·subst h;simp_all
   ·omega
 split at h
 ·split at h
  ·rename_i h1;simp only[Bool.and_eq_true,beq_iff_eq]at h1;subst h;simp_all
  ·omega
 split at h
 ·split at h
  ·rename_i h1;simp only[Bool.or_eq_true,beq_iff_eq]at h1;subst h;simp_all
  ·split at h
   ·rename_i h1;simp only[beq_iff_eq]at h1;subst h;simp_all
   ·omega
 split at h
 ·split at h
  ·rename_i h1;simp only[beq_iff_eq]at h1;subst h;simp_all
  ·omega
 split at h
 ·split at h
  ·rename_i h1;unfold qz at h1;simp only[Bool.or_eq_true,beq_iff_eq]at h1;subst h;refine⟨by simp,by simp,by simp,by simp,by simp,by simp,fun _=>⟨by assumption,by omega⟩⟩
  ·omega
 ·omega
theorem Gd(ka la kb lb:Int):(bf ka la kb lb=2→rule kb lb ka la=aT ka la kb lb∧aT ka la kb lb≠0)∧(bf ka la kb lb=1→rule ka la kb lb=aT ka la kb lb∧aT ka la kb lb≠0)∧(bf ka la kb lb=0∨bf ka la kb lb=1∨bf ka la kb lb=2):=by
 unfold bf aT;cases mG ka la kb lb with
 |false=>simp
 |true=>
  simp only[if_true]
  by_cases h1:rule ka la kb lb=0<;>by_cases h2:rule kb lb ka la=0<;>simp[h1,h2]
theorem NT{xs:List NAgent}{a b:Int}(hc:1≤aT (ah xs a).1 (ah xs a).2.1 (ah xs b).1 (ah xs b).2.1∧aT (ah xs a).1 (ah xs a).2.1 (ah xs b).1 (ah xs b).2.1≤7):
  rule (ah xs (firstS xs a b).1).1 (ah xs (firstS xs a b).1).2.1 (ah xs (firstS xs a b).2).1 (ah xs (firstS xs a b).2).2.1=aT (ah xs a).1 (ah xs a).2.1 (ah xs b).1 (ah xs b).2.1:=by
 obtain⟨h2,h1,h3⟩:=Gd (ah xs a).1 (ah xs a).2.1 (ah xs b).1 (ah xs b).2.1;unfold firstS;rcases h3 with e|e|e
 ·exfalso;unfold bf at e;unfold aT at hc;cases hp:mG (ah xs a).1 (ah xs a).2.1 (ah xs b).1 (ah xs b).2.1 with
  |false=>rw[hp]at hc;simp at hc
  |true=>
   rw[hp]at e hc;simp only[if_true]at e hc;split at e
   ·rename_i r1;rw[if_pos r1]at hc;split at e
    ·rename_i r2;rw[if_pos r2]at hc;omega
    ·omega
   ·omega
 ·rw[e];exact(h1 e).1
 ·rw[e];exact(h2 e).1
def sig(a:NAgent):Int×Int×Int×List Int×Nat:=(a.1,a.2.1,a.2.2.1,a.2.2.2.1,a.2.2.2.2.length)
theorem La{a b:NAgent}(h:sig a=sig b):Wf a↔Wf b:=by
 unfold sig at h;simp only[Prod.mk.injEq]at h;obtain⟨h1,h2,h3,h4,h5⟩:=h
 have e:dY (gA a)=dY (gA b):=by
  unfold dY fieldsOf gY gA;simp only[List.length_map,h1,h2,h3,h4,h5]
 unfold Wf;rw[e]
def fG(xs ys:List NAgent):Prop:=xs.length=ys.length∧∀i:Int,0≤i→i<(xs.length:Nat)→sig (ah xs i)=sig (ah ys i)
theorem fG.refl(xs:List NAgent):fG xs xs:=⟨rfl,fun _ _ _=>rfl⟩
theorem fG.setPort{xs ys:List NAgent}(h:fG xs ys)(p q:aJ):fG (aN xs p q) ys:=by
 refine⟨by rw[dA];exact h.1,fun i h0 h1=> ?_⟩;rw[dA]at h1;rw[←h.2 i h0 h1,fu];split
 ·rename_i e;rw[Aq (xs:=xs) e.1];unfold sig;simp only[List.length_set,NAgent.ports]
 ·rfl
theorem fG.link{xs ys:List NAgent}(h:fG xs ys)(p q:aJ):fG (bP xs p q) ys:=(h.setPort p q).setPort q p
theorem fG.move{xs ys:List NAgent}(h:fG xs ys)(p q:aJ):fG (dM xs p q) ys:=h.link _ _
theorem fG.join{xs ys:List NAgent}(h:fG xs ys)(p q:aJ):fG (aS xs p q) ys:=by
 unfold aS;cases ((aF xs p).1==q.1&&(aF xs p).2==q.2)with
 |true=>exact h
 |false=>exact h.link _ _
theorem fG.app{xs ys:List NAgent}(h:fG xs ys)(zs:List NAgent):fG (xs++zs) (ys++zs):=by
 refine⟨by rw[List.length_append,List.length_append,h.1],fun i h0 h1=> ?_⟩;rw[List.length_append]at h1
 by_cases hl:i<(xs.length:Nat)
 ·rw[dH (by omega),dH (by rw[←h.1];omega)];exact h.2 i h0 hl
 ·have:∀ws:List NAgent,ws.length=xs.length→ah (ws++zs) i=zs.getD (i.toNat-xs.length) (dflt uAgent):=fun ws hw=>by
   unfold ah elt;rw[List.getD_eq_getElem?_getD,List.getElem?_append_right (by omega),hw,List.getD_eq_getElem?_getD]
  rw[this xs rfl,this ys h.1.symm]
theorem Px(y:Int)(xs:List NAgent):∀k,fG (tK y xs k) (xs++List.replicate k (bC 5 0 0 [] 1))
 |0=>by rw[List.replicate_zero,List.append_nil];exact fG.refl _
 |k+1=>by
  unfold tK;rw[List.replicate_succ',←List.append_assoc];exact((Px y xs k).app _).move _ _
theorem LW(lab c d:Int)(P:List NAgent):∀k,fG (aW lab c d P k) (P++List.replicate k (bC 4 lab 0 [] 3))
 |0=>by rw[List.replicate_zero,List.append_nil];exact fG.refl _
 |k+1=>by
  unfold aW yO;rw[List.replicate_succ',←List.append_assoc];exact(((LW lab c d P k).app _).link _ _).link _ _
theorem I9{y:Int}{b:Nat}{P Q:List NAgent}(h:fG P Q):∀k,fG (dD y b P k) Q
 |0=>h
 |k+1=>(I9 h k).move _ _
theorem ZA:Wf (bC 5 0 0 [] 1):=by unfold Wf;decide
theorem QK{k l:Int}(h:dx k l=true):l=0∨(0≤l∧l≤8):=by
 unfold dx at h;simp only[Bool.and_eq_true,Bool.or_eq_true,beq_iff_eq]at h;rcases h.2 with h|h
 ·exact .inl h
 ·exact .inr (kr h.2)
theorem Av{k l:Int}(hk:k=3∨k=4∨k=8∨k=12)(h:l=0∨(0≤l∧l≤8)):dx k l=true:=by
 have h1:lC k=true:=yg (by omega) (by omega)
 have h2:bV k=true:=by
  unfold bV;rw[h1];rcases hk with rfl|rfl|rfl|rfl<;>decide
 unfold dx;rw[h1,h2];rcases h with rfl|h
 ·rfl
 ·rw[show zk l=true from yg h.1 h.2];simp
theorem Nl{k lv v:Int}{d:List Int}{n:Nat}(h1:dx k lv=true)(h2:gY (gA (bC k lv v d n))=true)(h3:(n:Int)=dG k (fF k n))(h4:0<n):Wf (bC k lv v d n):=by
 unfold Wf dY;have e:((gA (bC k lv v d n)).ports.length:Int)=(n:Int):=by simp[gA,bC]
 have e2:fieldsOf (gA (bC k lv v d n))=fF k n:=by unfold fieldsOf;rw[e];rfl
 rw[e2,e];show(decide (0<dG k (fF k n))&&(n:Int)==dG k (fF k n)&&dx k lv&&gY (gA (bC k lv v d n)))=true;rw[←h3,h1,h2];simp only[beq_self_eq_true,Bool.and_true,decide_eq_true_eq];omega
theorem ZB{lv:Int}(h:lv=0∨(0≤lv∧lv≤8)):Wf (bC 4 lv 0 [] 3):=Nl (Av (by omega) h) rfl rfl (by decide)
theorem Zz{lv:Int}(h:lv=0∨(0≤lv∧lv≤8)):Wf (bC 3 lv 0 [] 3):=Nl (Av (by omega) h) rfl rfl (by decide)
theorem VR{lv v:Int}(h:lv=0∨(0≤lv∧lv≤8))(hv:kQ v=true):Wf (bC 12 lv v [] 1):=Nl (Av (by omega) h) (by show((((0:Nat):Int)==0)&&kQ v)=true;rw[hv];rfl) rfl (by decide)
theorem ZC{v:Int}(hv:sK v=true):Wf (bC 6 0 v [] 1):=Nl (by decide) (by show((((0:Nat):Int)==0)&&sK v)=true;rw[hv];rfl) rfl (by decide)
theorem ZE{lv v w:Int}(h:lv=0∨(0≤lv∧lv≤8))(hv:kJ v=true)(hw:sK w=true):Wf (bC 8 lv v [w] 2):=Nl (Av (by omega) h) (by show(((((1:Nat):Int)==1)&&kJ v)&&sK (eD [w] 0))=true;rw[hv,show eD [w] 0=w from rfl,hw];rfl) rfl (by decide)
theorem QF{a:NAgent}(h:Wf a):Wf (bC a.1 a.2.1 a.2.2.1 a.2.2.2.1 a.2.2.2.2.length):=(La (by unfold sig bC;simp)).2 h
theorem yI{a:NAgent}(h:Wf a):a.2.1=0∨(0≤a.2.1∧a.2.1≤8):=QK (fZ h).1
theorem VP{a:NAgent}(h:Wf a)(k:a.1=6):sK a.2.2.1=true:=by
 have:=(fZ h).2.1;unfold gY gA at this;simp only[k,beq_self_eq_true,if_true,Bool.and_eq_true]at this;exact this.2
theorem XF{a:NAgent}(h:Wf a)(k:a.1=7):kJ a.2.2.1=true:=by
 have:=(fZ h).2.1;unfold gY gA at this;simp only[k]at this;simp at this;exact this.2
theorem VQ{a:NAgent}(h:Wf a)(k:a.1=8):a.2.2.2.1.length=1∧kJ a.2.2.1=true∧sK (eD a.2.2.2.1 0)=true:=by
 have:=(fZ h).2.1;unfold gY gA at this;simp only[k]at this;simp at this;exact⟨by omega,this.1.2,this.2⟩
theorem Po{l:List Int}(h:l9 l=true){i:Int}(h0:0≤i)(h1:i<(l.length:Nat)):kQ (jH l i)=true:=by
 unfold l9 eH at h;rw[List.all_eq_true]at h;have:=h i.toNat (List.mem_range.2 (by omega));exact this
theorem VO{a:NAgent}(h:Wf a)(k:a.1=10):1≤a.2.2.2.1.length∧a.2.2.2.1.length≤4∧l9 a.2.2.2.1=true:=by
 have:=(fZ h).2.1;unfold gY gA at this;simp only[k]at this;simp at this;have h2:=kr this.1.2;exact⟨by omega,by omega,this.2⟩
theorem G6{a:NAgent}(h:Wf a)(k:a.1=11):a.2.2.2.1.length=2∧l9 a.2.2.2.1=true:=by
 have:=(fZ h).2.1;unfold gY gA at this;simp only[k]at this;simp at this;exact⟨by omega,this.2⟩
theorem vS{a:NAgent}(h:Wf a)(k:a.1=12):0≤a.2.2.1∧a.2.2.1≤23:=by
 have:=(fZ h).2.1;unfold gY gA at this;simp only[k]at this;simp at this;exact kr this.2
theorem G5{a:NAgent}(h:Wf a)(k:a.1=9):0≤a.2.2.1∧a.2.2.1≤3:=by
 have:=(fZ h).2.1;unfold gY gA at this;simp only[k]at this;simp at this;exact kr this.2
theorem wf_data{a:NAgent}(h:Wf a):a.2.2.2.1.length≤4:=by
 have:=(fZ h).2.1;unfold gY gA at this;dsimp only at this;split at this
 ·simp at this;rw[this.1];decide
 split at this
 ·simp at this;rw[this.1];decide
 split at this
 ·simp at this;omega
 split at this
 ·simp at this;rw[this.1];decide
 split at this
 ·simp at this;rw[this.1];decide
 split at this
 ·simp at this;have:=kr this.1.2;omega
 split at this
 ·simp at this;omega
 ·simp at this;rw[this.2];decide
def JH(D:Int→Prop)(xs:List NAgent):Prop:=∀i:Int,0≤i→i<(xs.length:Nat)→¬D i→Wf (ah xs i)
theorem JH.grow{D E:Int→Prop}{xs xs' zs:List NAgent}(h:JH D xs)(hs:fG xs' (xs++zs))(hz:∀z∈zs,Wf z)(hE:∀i,D i→E i):JH E xs':=fun i h0 h1 hi=>by
 rw[La (hs.2 i h0 h1)]
 by_cases hl:i<(xs.length:Nat)
 ·rw[dH (by omega)];exact h i h0 hl fun k=>hi (hE i k)
 ·have hln:=hs.1;rw[List.length_append]at hln;have hlt:i.toNat-xs.length<zs.length:=by omega
  have e:ah (xs++zs) i=zs[i.toNat-xs.length]:=by
   unfold ah elt;rw[List.getD_eq_getElem?_getD,List.getElem?_append_right (by omega),List.getElem?_eq_getElem hlt];rfl
  rw[e];exact hz _ (List.getElem_mem hlt)
structure BkW(bk:List (List NAgent)):Prop where
 wi:∀v:Int,0≤v→v<(bk.length:Nat)→iM (fun p=>ak (bQ bk v) p) (bQ bk v)
 r0:∀v:Int,0≤v→v<(bk.length:Nat)→ak (bQ bk v) (0,0)
 r1:∀v:Int,0≤v→v<(bk.length:Nat)→∀p,ak (bQ bk v) p→p.1=0→p=(0,0)
 wf:∀v:Int,0≤v→v<(bk.length:Nat)→∀i:Int,0≤i→i<((bQ bk v).length:Nat)→Wf (ah (bQ bk v) i)
def vg(bk:List (List NAgent))(xs:List NAgent)(c x y:Int):List NAgent:=
 bif c==3 then[nO xs y]++[nO xs y]++List.replicate ((ah xs y).2.2.2.2.length-1) (bC 4 (ah xs x).2.1 0 [] 3)
 else bif c==4 then List.replicate ((ah xs y).2.2.2.2.length-1) (bC 5 0 0 [] 1)
 else bif c==5 then(bif (ah xs y).1==7 then[bC 8 (ah xs y).2.1 (ah xs y).2.2.1 [(ah xs x).2.2.1] 2]else[bC 6 0 (yB (ah xs y).2.2.1 (jH (ah xs y).2.2.2.1 0) (ah xs x).2.2.1) [] 1])
 else bif c==6 then(bif (ah xs x).1==6 then[bC 12 (ah xs y).2.1 (jH (ah xs y).2.2.2.1 (bif (ah xs x).2.2.1==0 then 1 else 0)) [] 1]
  else[bC 12 (ah xs y).2.1 (jH (ah xs y).2.2.2.1 (ah xs x).2.2.1) [] 1]++List.replicate ((ah xs x).2.2.2.2.length-1) (bC 3 (ah xs y).2.1 0 [] 3))
 else bif c==7 then((nN bk xs x).drop 1).map (dz ((xs.length:Nat)-1))else[]
section
variable {D:Int→Prop}{xs ys:List NAgent}{x y:Int}{bk:List (List NAgent)}
theorem OZ{x:Int}{b:Nat}{P Q:List NAgent}(h:fG P Q):∀k,fG (E5 x b P k) Q
 |0=>h
 |k+1=>(OZ h k).move _ _
theorem Pb(lv:Int)(b:Nat)(P:List NAgent):∀k,fG (rD lv b P k) (P++List.replicate k (bC 3 lv 0 [] 3))
 |0=>by rw[List.replicate_zero,List.append_nil];exact fG.refl _
 |k+1=>by
  unfold rD;rw[List.replicate_succ',←List.append_assoc];exact((Pb lv b P k).app _).link _ _
theorem IV{c:Int}(hc:1≤c∧c≤7)(hx:x.toNat<xs.length):fG (iq bk xs c x y) (xs++vg bk xs c x y):=by
 have hcs:c=1∨c=2∨c=3∨c=4∨c=5∨c=6∨c=7:=by omega
 rcases hcs with rfl|rfl|rfl|rfl|rfl|rfl|rfl
 ·show fG (aS (aS xs (x,1) (y,1)) (x,2) (y,2)) (xs++[]);rw[List.append_nil];exact((fG.refl xs).join _ _).join _ _
 ·show fG (aS (aS xs (x,1) (y,1)) (x,2) (y,2)) (xs++[]);rw[List.append_nil];exact((fG.refl xs).join _ _).join _ _
 ·show fG (bJ xs x y) (xs++([nO xs y]++[nO xs y]++List.replicate ((ah xs y).2.2.2.2.length-1) (bC 4 (ah xs x).2.1 0 [] 3)));unfold bJ lQ dup3
  have e:(ah (dup2 xs y) x).2.1=(ah xs x).2.1:=by
   unfold dup2;rw[dH (by rw[List.length_append];omega),dH hx]
  rw[←(kW (x:=x) (by rw[gZ];omega) _).1,e];refine I9 ((fG.move ?_ _ _).move _ _) _;rw[←List.append_assoc,←List.append_assoc];exact LW _ _ _ _ _
 ·exact Px y xs _
 ·show fG (bI xs x y) (xs++(bif (ah xs y).1==7 then[bC 8 (ah xs y).2.1 (ah xs y).2.2.1 [(ah xs x).2.2.1] 2]else[bC 6 0 (yB (ah xs y).2.2.1 (jH (ah xs y).2.2.2.1 0) (ah xs x).2.2.1) [] 1]));unfold bI;cases (ah xs y).1==7 with
  |true=>exact(((fG.refl xs).app _).move _ _).move _ _
  |false=>exact((fG.refl xs).app _).move _ _
 ·show fG (kG xs x y) (xs++(bif (ah xs x).1==6 then[bC 12 (ah xs y).2.1 (jH (ah xs y).2.2.2.1 (bif (ah xs x).2.2.1==0 then 1 else 0)) [] 1]
   else[bC 12 (ah xs y).2.1 (jH (ah xs y).2.2.2.1 (ah xs x).2.2.1) [] 1]++List.replicate ((ah xs x).2.2.2.2.length-1) (bC 3 (ah xs y).2.1 0 [] 3)))
  unfold kG;cases (ah xs x).1==6 with
  |true=>exact((fG.refl xs).app _).move _ _
  |false=>
   simp only[cond_false];rw[←List.append_assoc];exact(OZ (Pb _ _ _ _) _).move _ _
 ·exact((fG.refl xs).app _).link _ _
theorem Ui{c:Int}(h:St D xs ys)(k:nQ D xs x y)(hD:∀i,D i→i<(xs.length:Nat))(hw:JH D xs)(hr:rule (ah xs x).1 (ah xs x).2.1 (ah xs y).1 (ah xs y).2.1=c)(hc:1≤c∧c≤7)(hb:BkW bk)(h7:c=7→(ah xs x).2.2.1<(bk.length:Nat)):
  St (fun i=>D i∨i∈gI c x y) (iq bk xs c x y) (gH bk ys c x y):=by
 have wx:=hw x k.px.1 k.px.2.1 k.lx;have wy:=hw y k.py.1 k.py.2.1 k.ly;obtain⟨x1,x2,x3,x4⟩:=vR wx;obtain⟨y1,y2,y3,y4⟩:=vR wy;obtain⟨r1,r2,r3,r4,r5,r6,r7⟩:=iY hr (by omega)
 have mono:∀{E:Int→Prop} {A B:List NAgent},(∀i,E i↔D i∨i=x∨i=y)→St (fun i=>D i∨i=x∨i=y) A B→St E A B:=fun {E A B} e s=>by
  have:E=fun i=>D i∨i=x∨i=y:=funext fun i=>propext (e i)
  rw[this];exact s
 have g2:c≠7→∀i,(D i∨i∈gI c x y)↔D i∨i=x∨i=y:=fun hne i=>by
  unfold gI;rw[show(c==7)=false by simpa using hne];simp
 have hcs:c=1∨c=2∨c=3∨c=4∨c=5∨c=6∨c=7:=by omega
 rcases hcs with rfl|rfl|rfl|rfl|rfl|rfl|rfl
 ·obtain⟨a,b⟩:=r1 rfl;exact mono (g2 (by decide)) (h.joins k (x3 (by omega)) (y3 (by omega)))
 ·obtain⟨a,b⟩:=r2 rfl;exact mono (g2 (by decide)) (h.joins k (x3 (by omega)) (y3 (by omega)))
 ·exact mono (g2 (by decide)) (h.duplicate k hD (x3 (by have:=r3 rfl;omega)) (fZ wy).2.2.2)
 ·exact mono (g2 (by decide)) (h.erase k hD (x1 (by have:=r4 rfl;omega)))
 ·obtain⟨a,b⟩:=r5 rfl;exact mono (g2 (by decide)) (h.operate k hD (x1 (by omega)) (fun e=>y3 (by omega)) (fun e=>y2 (by omega)))
 ·have q:=r6 rfl;exact mono (g2 (by decide)) (h.choose k hD (by omega) (fun e=>x1 (by omega)) (fZ wx).2.2.2 (y2 (by omega)))
 ·obtain⟨a,b⟩:=r7 rfl;have v:=vS wx a;have e:(fun i=>D i∨i∈gI 7 x y)=fun i=>D i∨i=x:=funext fun i=>propext (by unfold gI;simp)
  rw[e];exact h.expand k hD (x1 (by omega)) (hb.wi _ v.1 (h7 rfl)) (hb.r0 _ v.1 (h7 rfl)) (hb.r1 _ v.1 (h7 rfl))
end
end Go.Tr
namespace Go.Tr
open Go Go.RowKit
theorem BS(x:Int):sK (oF x)=true:=by
 have h: -2147483648≤IntKind.i32.wrap x∧IntKind.i32.wrap x≤2147483647:=by
  simp only[IntKind.wrap,IntKind.bits,IntKind.signed];simp;omega
 unfold oF;rw[IntWalk.i64_in _ (by omega)];exact yg h.1 h.2
theorem WX(o a b:Int):sK (yB o a b)=true:=by
 unfold yB;cases o==1 with
 |true=>exact BS _
 |false=>
 cases o==2 with
 |true=>exact BS _
 |false=>
 cases o==3 with
 |true=>exact BS _
 |false=>
 cases o==4 with
 |true=>
  cases oF b==0 with
  |true=>rfl
  |false=>exact BS _
 |false=>
 cases o==5 with
 |true=>cases decide (oF a<oF b)<;>rfl
 |false=>
 cases o==6 with
 |true=>cases oF a==oF b<;>rfl
 |false=>rfl
theorem VT{lv:Int}{a:NAgent}(h:Wf a)(h0:0≤lv)(h8:(!(bV a.kind)||decide (a.level+lv≤8))=true):Wf (jB lv a):=by
 unfold jB;cases hl:bV a.kind with
 |false=>exact h
 |true=>
  have h9:a.2.1+lv≤8:=by
   rw[show NAgent.kind a=a.1 from rfl]at*;rw[hl]at h8;simpa using h8
  have hp:=fZ h;have hlev:=yI h;unfold Wf dY at h ⊢;simp only[Bool.and_eq_true]at h ⊢;obtain⟨⟨⟨q1,q2⟩,q3⟩,q4⟩:=h;refine⟨⟨⟨q1,q2⟩,?_⟩,q4⟩;show dx a.1 (a.2.1+lv)=true;have q5:dx a.1 a.2.1=true:=q3;unfold dx at q5 ⊢;simp only[Bool.and_eq_true,Bool.or_eq_true]at q5 ⊢;exact⟨q5.1,.inr ⟨hl,yg (by omega) h9⟩⟩
theorem Rk(b:Int)(a:NAgent):sig (dz b a)=sig a:=by unfold sig dz;simp
section
variable {D:Int→Prop}{xs:List NAgent}{x y:Int}{bk:List (List NAgent)}
theorem IW{c:Int}(hw:JH D xs)(hx:0≤x∧x<(xs.length:Nat))(hy:0≤y∧y<(xs.length:Nat))(lx:¬D x)(ly:¬D y)(hr:rule (ah xs x).1 (ah xs x).2.1 (ah xs y).1 (ah xs y).2.1=c)(hc:1≤c∧c≤7)(hb:BkW bk)
  (h6:c=6→(ah xs x).1=9→(ah xs x).2.2.1<((ah xs y).2.2.2.1.length:Nat)) (h7:c=7→(ah xs x).2.2.1<(bk.length:Nat)∧fV (ah xs x).2.1 (bQ bk (ah xs x).2.2.1)=true):JH D (iq bk xs c x y):=by
 have wx:=hw x hx.1 hx.2 lx;have wy:=hw y hy.1 hy.2 ly;have lvx:=yI wx;have lvy:=yI wy;obtain⟨r1,r2,r3,r4,r5,r6,r7⟩:=iY hr (by omega);refine hw.grow (IV hc (by omega)) ?_ fun i e=>e
 have hcs:c=1∨c=2∨c=3∨c=4∨c=5∨c=6∨c=7:=by omega
 rcases hcs with rfl|rfl|rfl|rfl|rfl|rfl|rfl
 ·intro z hz;cases hz
 ·intro z hz;cases hz
 ·intro z hz;have hz':z∈[nO xs y]++[nO xs y]++List.replicate ((ah xs y).2.2.2.2.length-1) (bC 4 (ah xs x).2.1 0 [] 3):=hz;rw[List.mem_append,List.mem_append,List.mem_singleton]at hz';rcases hz' with(e|e)|e
  ·rw[e];exact QF wy
  ·rw[e];exact QF wy
  ·rw[List.eq_of_mem_replicate e];exact ZB lvx
 ·intro z hz;have hz':z∈List.replicate ((ah xs y).2.2.2.2.length-1) (bC 5 0 0 [] 1):=hz;rw[List.eq_of_mem_replicate hz'];exact ZA
 ·obtain⟨a,b⟩:=r5 rfl;intro z hz;have hz':z∈(bif (ah xs y).1==7 then[bC 8 (ah xs y).2.1 (ah xs y).2.2.1 [(ah xs x).2.2.1] 2]else[bC 6 0 (yB (ah xs y).2.2.1 (jH (ah xs y).2.2.2.1 0) (ah xs x).2.2.1) [] 1]):=hz;cases hk:(ah xs y).1==7 with
  |true=>
   rw[hk,cond_true,List.mem_singleton]at hz';rw[hz'];exact ZE lvy (XF wy (by simpa using hk)) (VP wx a)
  |false=>
   rw[hk,cond_false,List.mem_singleton]at hz';rw[hz'];exact ZC (WX _ _ _)
 ·have q:=r6 rfl;intro z hz
  have hz':z∈(bif (ah xs x).1==6 then[bC 12 (ah xs y).2.1 (jH (ah xs y).2.2.2.1 (bif (ah xs x).2.2.1==0 then 1 else 0)) [] 1]
   else[bC 12 (ah xs y).2.1 (jH (ah xs y).2.2.2.1 (ah xs x).2.2.1) [] 1]++List.replicate ((ah xs x).2.2.2.2.length-1) (bC 3 (ah xs y).2.1 0 [] 3)):=hz
  rcases q with⟨a,b⟩|⟨a,b⟩
  ·rw[show((ah xs x).1==6)=true by simpa using a,cond_true,List.mem_singleton]at hz';obtain⟨l2,d⟩:=G6 wy b;rw[hz'];refine VR lvy (Po d ?_ ?_)
   ·cases (ah xs x).2.2.1==0<;>decide
   ·rw[l2];cases (ah xs x).2.2.1==0<;>decide
  ·rw[show((ah xs x).1==6)=false by simp[a],cond_false,List.mem_append,List.mem_singleton]at hz';obtain⟨_,_,d⟩:=VO wy b;rcases hz' with e|e
   ·rw[e];exact VR lvy (Po d (G5 wx a).1 (h6 rfl a))
   ·rw[List.eq_of_mem_replicate e];exact Zz lvy
 ·obtain⟨a,b⟩:=r7 rfl;obtain⟨v1,v2⟩:=h7 rfl;intro z hz;have hz':z∈((nN bk xs x).drop 1).map (dz ((xs.length:Nat)-1)):=hz;obtain⟨w,hw1,rfl⟩:=List.mem_map.1 hz';rw[La (Rk _ w)];have hw2:=List.mem_of_mem_drop hw1;unfold nN cO at hw2;obtain⟨u,hu,rfl⟩:=List.mem_map.1 hw2;obtain⟨i,hi,rfl⟩:=List.mem_iff_getElem.1 hu;have hv:=vS wx a;have wu:=hb.wf _ hv.1 v1 (i:Nat) (by omega) (by omega)
  have e:ah (bQ bk (ah xs x).2.2.1) (i:Nat)=(bQ bk (ah xs x).2.2.1)[i]:=by
   generalize bQ bk (ah xs x).2.2.1=t at*;unfold ah elt;rw[Int.toNat_natCast,List.getD_eq_getElem?_getD,List.getElem?_eq_getElem hi];rfl
  rw[e]at wu;refine VT wu (by omega) ?_;unfold fV at v2;exact List.all_eq_true.1 v2 _ hu
theorem Uj{c:Int}(hw:JH D xs)(hx:0≤x∧x<(xs.length:Nat))(hy:0≤y∧y<(xs.length:Nat))(lx:¬D x)(ly:¬D y)(hr:rule (ah xs x).1 (ah xs x).2.1 (ah xs y).1 (ah xs y).2.1=c)(hc:1≤c∧c≤7)(hb:BkW bk)
  (h6:c=6→(ah xs x).1=9→(ah xs x).2.2.1<((ah xs y).2.2.2.1.length:Nat)) (h7:c=7→(ah xs x).2.2.1<(bk.length:Nat)∧fV (ah xs x).2.1 (bQ bk (ah xs x).2.2.1)=true):JH (fun i=>D i∨i∈gI c x y) (iq bk xs c x y):=fun i h0 h1 hi=>IW hw hx hy lx ly hr hc hb h6 h7 i h0 h1 fun e=>hi (.inl e)
end
end Go.Tr
namespace Go.Tr
open Go Go.RowKit
section
variable {D:Int→Prop}{xs ys:List NAgent}{x y a b:Int}{bk:List (List NAgent)}
theorem MK{u v:NAgent}(hu:Wf u)(hv:Wf v)(ru:u.1≠1)(rv:v.1≠1):mG u.1 u.2.1 v.1 v.2.1=true:=by
 unfold mG;rw[(fZ hu).1,(fZ hv).1];simp[ru,rv]
theorem QO{u v:NAgent}(hu:Wf u)(hv:Wf v)(ru:u.1≠1)(rv:v.1≠1):1≤aT u.1 u.2.1 v.1 v.2.1∧aT u.1 u.2.1 v.1 v.2.1≤8:=by
 have hp:=MK hu hv ru rv;unfold aT;rw[hp,if_pos rfl];have r1:=wQ u.1 u.2.1 v.1 v.2.1;have r2:=wQ v.1 v.2.1 u.1 u.2.1;split
 ·split
  ·decide
  ·omega
 ·omega
theorem NU{u v:NAgent}(hu:Wf u)(hv:Wf v)(ru:u.1≠1)(rv:v.1≠1)(h8:aT u.1 u.2.1 v.1 v.2.1=8):bf u.1 u.2.1 v.1 v.2.1=0:=by
 have hp:=MK hu hv ru rv;unfold aT at h8;unfold bf;rw[hp,if_pos rfl]at h8;rw[hp,if_pos rfl];have r1:=wQ u.1 u.2.1 v.1 v.2.1;have r2:=wQ v.1 v.2.1 u.1 u.2.1;split at h8
 ·rename_i e1;rw[if_pos e1];split at h8
  ·rename_i e2;rw[if_pos e2]
  ·omega
 ·omega
theorem Ny{u v:NAgent}{c:Int}(hr:rule u.1 u.2.1 v.1 v.2.1=c)(hc:1≤c∧c≤7):nU u v=false∧qQ c u v=iN u v:=by
 obtain⟨r1,r2,r3,r4,r5,r6,r7⟩:=iY hr (by omega)
 have k2:u.1≠10:=by
  intro e;have:c=1∨c=2∨c=3∨c=4∨c=5∨c=6∨c=7:=by omega
  rcases this with h|h|h|h|h|h|h
  ·have:=r1 h;omega
  ·have:=r2 h;omega
  ·have:=r3 h;omega
  ·have:=r4 h;omega
  ·have:=r5 h;omega
  ·have:=r6 h;omega
  ·have:=r7 h;omega
 constructor
 ·unfold nU;rw[show(u.1==10)=false by simpa using k2];rfl
 ·unfold qQ iN
  have e:(bif c==6 then v.kind==10 else false)=(bif u.1==9 then v.1==10 else false):=by
   show(bif c==6 then v.1==10 else false)=_
   by_cases h9:u.1=9
   ·have hc6:c=6∨v.1≠10:=by
     by_cases hv:v.1=10
     ·left;rw[←hr];unfold rule;rw[h9,hv];rfl
     ·exact .inr hv
    rw[show(u.1==9)=true by simpa using h9,cond_true];rcases hc6 with h|h
    ·rw[h];rfl
    ·rw[show(v.1==10)=false by simpa using h];cases c==6<;>rfl
   ·rw[show(u.1==9)=false by simpa using h9,cond_false]
    by_cases h6:c=6
    ·have:=r6 h6;rw[show(v.1==10)=false by simp;omega];cases c==6<;>rfl
    ·rw[show(c==6)=false by simpa using h6];rfl
  rw[e]
theorem Fb(ha:Wf (ah xs a))(hb:Wf (ah xs b))(ra:(ah xs a).1≠1)(rb:(ah xs b).1≠1):(bn (ah xs a) (ah xs b)).1=bO (ah xs (firstS xs a b).1) (ah xs (firstS xs a b).2)∧
  ((bn (ah xs a) (ah xs b)).1≠8→(bif (bn (ah xs a) (ah xs b)).2 then b else a)=(firstS xs a b).1∧(bif (bn (ah xs a) (ah xs b)).2 then a else b)=(firstS xs a b).2∧
   rule (ah xs (firstS xs a b).1).1 (ah xs (firstS xs a b).1).2.1 (ah xs (firstS xs a b).2).1 (ah xs (firstS xs a b).2).2.1=(bn (ah xs a) (ah xs b)).1∧1≤(bn (ah xs a) (ah xs b)).1∧(bn (ah xs a) (ah xs b)).1≤7):=by
 have hp:=QO ha hb ra rb
 by_cases h8:aT (ah xs a).1 (ah xs a).2.1 (ah xs b).1 (ah xs b).2.1=8
 ·have hf:=NU ha hb ra rb h8
  have e1:bn (ah xs a) (ah xs b)=(8,false):=by
   unfold bn qQ;rw[show(bf (ah xs a).kind (ah xs a).level (ah xs b).kind (ah xs b).level==2)=false by rw[show bf (ah xs a).kind (ah xs a).level (ah xs b).kind (ah xs b).level=0 from hf];rfl];rw[show aT (ah xs a).kind (ah xs a).level (ah xs b).kind (ah xs b).level=8 from h8];rfl
  have e2:firstS xs a b=(a,b):=by unfold firstS;rw[hf];rfl
  rw[e1,e2];refine⟨?_,fun h=>absurd rfl h⟩;unfold bO;rw[h8];cases iN (ah xs a) (ah xs b)<;>cases nU (ah xs a) (ah xs b)<;>rfl
 ·have hc:1≤aT (ah xs a).1 (ah xs a).2.1 (ah xs b).1 (ah xs b).2.1∧aT (ah xs a).1 (ah xs a).2.1 (ah xs b).1 (ah xs b).2.1≤7:=by omega
  have hr:=NT (xs:=xs) (a:=a) (b:=b) hc;obtain⟨c1,c2⟩:=Ny hr hc
  have hcS:bO (ah xs (firstS xs a b).1) (ah xs (firstS xs a b).2)=bif iN (ah xs (firstS xs a b).1) (ah xs (firstS xs a b).2)then 8 else aT (ah xs a).1 (ah xs a).2.1 (ah xs b).1 (ah xs b).2.1:=by
   unfold bO;rw[c1]
   have:aT (ah xs (firstS xs a b).1).1 (ah xs (firstS xs a b).1).2.1 (ah xs (firstS xs a b).2).1 (ah xs (firstS xs a b).2).2.1=aT (ah xs a).1 (ah xs a).2.1 (ah xs b).1 (ah xs b).2.1:=by
    unfold firstS;cases bf (ah xs a).1 (ah xs a).2.1 (ah xs b).1 (ah xs b).2.1==2 with
    |true=>exact zJ _ _ _ _
    |false=>rfl
   rw[this];cases iN (ah xs (firstS xs a b).1) (ah xs (firstS xs a b).2)<;>rfl
  rw[hcS];generalize hC:aT (ah xs a).1 (ah xs a).2.1 (ah xs b).1 (ah xs b).2.1=c at*;cases hf:bf (ah xs a).1 (ah xs a).2.1 (ah xs b).1 (ah xs b).2.1==2 with
  |true=>
   have e2:firstS xs a b=(b,a):=by unfold firstS;rw[hf];rfl
   rw[e2]at hr c2 ⊢
   have e1:bn (ah xs a) (ah xs b)=bif iN (ah xs b) (ah xs a)then(8,false)else(c,true):=by
    unfold bn;rw[show(bf (ah xs a).kind (ah xs a).level (ah xs b).kind (ah xs b).level==2)=true from hf,show aT (ah xs a).kind (ah xs a).level (ah xs b).kind (ah xs b).level=c from hC];simp only[cond_true];rw[c2]
   rw[e1];cases iN (ah xs b) (ah xs a)with
   |true=>exact⟨rfl,fun h=>absurd rfl h⟩
   |false=>exact⟨rfl,fun _=>⟨rfl,rfl,hr,hc⟩⟩
  |false=>
   have e2:firstS xs a b=(a,b):=by unfold firstS;rw[hf];rfl
   rw[e2]at hr c2 ⊢
   have e1:bn (ah xs a) (ah xs b)=bif iN (ah xs a) (ah xs b)then(8,false)else(c,false):=by
    unfold bn;rw[show(bf (ah xs a).kind (ah xs a).level (ah xs b).kind (ah xs b).level==2)=false from hf,show aT (ah xs a).kind (ah xs a).level (ah xs b).kind (ah xs b).level=c from hC];simp only[cond_false];rw[c2]
   rw[e1];cases iN (ah xs a) (ah xs b)with
   |true=>exact⟨rfl,fun h=>absurd rfl h⟩
   |false=>exact⟨rfl,fun _=>⟨rfl,rfl,hr,hc⟩⟩
end
end Go.Tr
namespace Go.Tr
open Go Go.RowKit
section
variable {xs:List NAgent}{a b:Int}{bk:List (List NAgent)}
theorem WR{u v m:Int}:Bv u v≤m↔u≤m∧v≤m:=by
 unfold Bv;cases h:decide (v<u)with
 |true=>simp only[decide_eq_true_eq]at h;simp only[cond_true];omega
 |false=>simp only[decide_eq_false_iff_not]at h;simp only[cond_false];omega
theorem CF{t:List NAgent}{m:Int}(hm:0≤m):∀k:Nat,mO t k≤m↔∀i:Nat,i<k→(ah t (i:Nat)).2.1≤m
 |0=>⟨fun _ i hi=>by omega,fun _=>hm⟩
 |k+1=>by
  unfold mO;rw[WR,CF hm k];constructor
  ·rintro⟨h1,h2⟩ i hi
   by_cases e:i=k
   ·rw[e];exact h2
   ·exact h1 i (by omega)
  ·intro h;exact⟨fun i hi=>h i (by omega),h k (by omega)⟩
theorem xL{t:List NAgent}{i:Nat}(hi:i<t.length):ah t (i:Nat)=t[i]:=by
 unfold ah elt;rw[Int.toNat_natCast,List.getD_eq_getElem?_getD,List.getElem?_eq_getElem hi];rfl
theorem Vs{t:List NAgent}{lv:Int}(ht:∀i:Int,0≤i→i<(t.length:Nat)→Wf (ah t i))(h0:0≤lv)(h8:lv≤8):decide (8<IntKind.i64.wrap (mO t t.length+lv))= !fV lv t:=by
 have hb:mO t t.length≤8:=(CF (by decide) _).2 fun i hi=>by
  have:=yI (ht (i:Nat) (by omega) (by omega));omega
 have hz:0≤mO t t.length:=by
  have:∀k:Nat,0≤mO t k:=fun k=>by
   induction k with
   |zero=>exact Int.le_refl 0
   |succ k ih=>unfold mO Bv;cases h:decide ((ah t (k:Nat)).2.1<mO t k)with
    |true=>exact ih
    |false=>simp only[decide_eq_false_iff_not]at h;simp only[cond_false];omega
  exact this _
 rw[IntWalk.i64_in _ (by omega)]
 have key:fV lv t=decide (mO t t.length≤8-lv):=by
  rw[Bool.eq_iff_iff,decide_eq_true_eq,CF (by omega)];unfold fV;rw[List.all_eq_true];constructor
  ·intro h i hi;have q:=h _ (List.getElem_mem hi);have w:=ht (i:Nat) (by omega) (by omega);rw[←xL hi]at q;cases hl:bV (ah t (i:Nat)).kind with
   |true=>
    rw[hl]at q;have:(ah t (i:Nat)).2.1+lv≤8:=by simpa using q
    omega
   |false=>
    have q2:=(fZ w).1;unfold dx at q2;rw[show bV (ah t (i:Nat)).1=false from hl]at q2;simp only[Bool.false_and,Bool.or_false,Bool.and_eq_true,beq_iff_eq]at q2;omega
  ·intro h u hu;obtain⟨i,hi,rfl⟩:=List.mem_iff_getElem.1 hu;have q:=h i hi;rw[xL hi]at q;have:t[i].level+lv≤8:=by show t[i].2.1+lv≤8;omega
   simp[this]
 rw[key,←decide_not];exact decide_eq_decide.2 (by omega)
theorem Ws(ha:Wf (ah xs a))(hb:Wf (ah xs b))(ra:(ah xs a).1≠1)(rb:(ah xs b).1≠1)(hbk:BkW bk):
  ((iB bk (ah xs (firstS xs a b).1) (ah xs (firstS xs a b).2)).2≠0→(checkN bk xs (a,b)).2.2.2=(iB bk (ah xs (firstS xs a b).1) (ah xs (firstS xs a b).2)).2)∧
  ((iB bk (ah xs (firstS xs a b).1) (ah xs (firstS xs a b).2)).2=0→checkN bk xs (a,b)=(bO (ah xs (firstS xs a b).1) (ah xs (firstS xs a b).2),(firstS xs a b).1,(firstS xs a b).2,0)∧
   tQ bk xs (bO (ah xs (firstS xs a b).1) (ah xs (firstS xs a b).2)) (firstS xs a b).1 (firstS xs a b).2=(iB bk (ah xs (firstS xs a b).1) (ah xs (firstS xs a b).2)).1∧
   (bO (ah xs (firstS xs a b).1) (ah xs (firstS xs a b).2)=7→(ah xs (firstS xs a b).1).2.2.1<(bk.length:Nat)∧fV (ah xs (firstS xs a b).1).2.1 (bQ bk (ah xs (firstS xs a b).1).2.2.1)=true)):=by
 obtain⟨e1,e2⟩:=Fb ha hb ra rb
 have hx1:Wf (ah xs (firstS xs a b).1):=by
  unfold firstS;cases bf (ah xs a).1 (ah xs a).2.1 (ah xs b).1 (ah xs b).2.1==2
  ·exact ha
  ·exact hb
 generalize hc:bO (ah xs (firstS xs a b).1) (ah xs (firstS xs a b).2)=c at*;unfold iB checkN;rw[hc];simp only[e1]
 by_cases h8:c=8
 ·subst h8;refine⟨fun _=>rfl,fun h=> ?_⟩;cases h
 ·obtain⟨k1,k2,k3,k4,k5⟩:=e2 (by rw[e1];exact h8);rw[e1]at k3 k4 k5;have k1':(bif (bn (ah xs a) (ah xs b)).2 then((a,b):Int×Int).2 else((a,b):Int×Int).1)=(firstS xs a b).1:=k1;have k2':(bif (bn (ah xs a) (ah xs b)).2 then((a,b):Int×Int).1 else((a,b):Int×Int).2)=(firstS xs a b).2:=k2;rw[show(c==8)=false by simpa using h8];simp only[cond_false];rw[k1',k2'];generalize (firstS xs a b).1=x at*;generalize (firstS xs a b).2=y at*
  by_cases h7:c=7
  ·subst h7;obtain⟨_,_,_,_,_,_,r7⟩:=iY k3 (by decide);have hv:=vS hx1 (r7 rfl).1;have hlv:=yI hx1;rw[show((7:Int)==7)=true from rfl];simp only[cond_true];cases hd:decide ((bk.length:Int)≤(ah xs x).2.2.1)with
   |true=>
    refine⟨fun _=>rfl,fun h=> ?_⟩;cases h
   |false=>
    simp only[decide_eq_false_iff_not]at hd;have hvl:(ah xs x).2.2.1<(bk.length:Nat):=by omega
    rw[Vs (hbk.wf _ hv.1 hvl) (by omega) (by omega)];cases hs:fV (ah xs x).2.1 (bQ bk (ah xs x).2.2.1)with
    |false=>
     refine⟨fun _=>rfl,fun h=> ?_⟩;cases h
    |true=>
     refine⟨fun h=>absurd rfl h,fun _=>⟨by first|rfl|trivial,by first|rfl|trivial,fun _=>⟨hvl,by first|rfl|trivial⟩⟩⟩
  ·rw[show(c==7)=false by simpa using h7];simp only[cond_false];refine⟨fun h=>absurd rfl h,fun _=>⟨by first|rfl|trivial,?_,fun h=>absurd h h7⟩⟩;rfl
end
end Go.Tr
namespace Go.Tr
open Go Go.RowKit
abbrev VG:U:=.pair (.int .i64) (.pair (.int .i64) (.pair (.int .i64) (.pair (.int .i64) (.int .i64))))
abbrev bW:=Int×Int×Int×Int×Int
def hasB(xs:List NAgent)(k:Int):Bool:=bif decide (0≤k)then decide (k<(xs.length:Nat))else false
def VA(xs:List NAgent)(kv:List (Int×Bool))(k:Int):Bool:=bif hasB xs k then !(bL false kv k)else false
def V6(xs:List NAgent)(a b:Int):Bool:=
 bif (bif (bif decide (a<b)then ig [(elt (dflt uPort) (ah xs a).2.2.2.2 0).1,(elt (dflt uPort) (ah xs a).2.2.2.2 0).2] [b,0]else false)then(ah xs a).1 !=1 else false)then(ah xs b).1 !=1 else false
theorem yV(kv:List (Int×Bool))(i j:Int):bL false (gT kv i true) j=if i=j then true else bL false kv j:=by
 induction kv with
 |nil=>
  simp only[gT,bL]
  by_cases h:i=j
  ·rw[if_pos h,show(i==j)=true by simpa using h];rfl
  ·rw[if_neg h,show(i==j)=false by simpa using h];rfl
 |cons e l ih=>
  obtain⟨k,v⟩:=e;simp only[gT];cases h:k==i with
  |true=>
   have h1:k=i:=by simpa using h
   subst h1;simp only[cond_true,bL]
   by_cases h2:k=j
   ·rw[if_pos h2,show(k==j)=true by simpa using h2];rfl
   ·rw[if_neg h2,show(k==j)=false by simpa using h2];rfl
  |false=>
   have h1:k≠i:=by simpa using h
   simp only[cond_false,bL,ih]
   by_cases h2:k=j
   ·subst h2;rw[if_neg (Ne.symm h1),if_neg (Ne.symm h1)]
   ·rw[show(k==j)=false by simpa using h2];rfl
theorem uV{kv:List (Int×Bool)}(hT:∀e∈kv,e.2=true){i:Int}(h:bL false kv i=false):(gT kv i true).length=kv.length+1:=by
 induction kv with
 |nil=>rfl
 |cons e l ih=>
  obtain⟨k,v⟩:=e;simp only[bL]at h;simp only[gT];cases hk:k==i with
  |true=>
   rw[hk,cond_true]at h;have:=hT (k,v) (List.mem_cons_self ..);rw[h]at this;cases this
  |false=>
   rw[hk,cond_false]at h;simp only[cond_false,List.length_cons];rw[ih (fun e he=>hT e (List.mem_cons_of_mem _ he)) h]
theorem Kr{kv:List (Int×Bool)}(hT:∀e∈kv,e.2=true)(i:Int):∀e∈gT kv i true,e.2=true:=by
 induction kv with
 |nil=>
  intro e he;simp only[gT,List.mem_singleton]at he;rw[he]
 |cons e l ih=>
  obtain⟨k,v⟩:=e;simp only[gT];cases hk:k==i with
  |true=>
   intro e he;simp only[cond_true,List.mem_cons]at he;rcases he with rfl|he
   ·rfl
   ·exact hT e (List.mem_cons_of_mem _ he)
  |false=>
   intro e he;simp only[cond_false,List.mem_cons]at he;rcases he with rfl|he
   ·exact hT _ (List.mem_cons_self ..)
   ·exact ih (fun e he=>hT e (List.mem_cons_of_mem _ he)) e he
def mX(kv:List (Int×Bool)):Nat→Nat
 |0=>0
 |k+1=>bif bL false kv (k:Nat)then mX kv k+1 else mX kv k
theorem Cm{kv:List (Int×Bool)}{x:Int}(h0:0≤x)(h:bL false kv x=false):∀n:Nat,mX (gT kv x true) n=mX kv n+(if x<(n:Nat)then 1 else 0)
 |0=>by rw[if_neg (by omega)];rfl
 |n+1=>by
  unfold mX;rw[yV,Cm h0 h n]
  by_cases e:x=(n:Nat)
  ·subst e;rw[if_pos rfl,cond_true,h,cond_false,if_neg (by omega),if_pos (by omega)]
  ·rw[if_neg e]
   by_cases hl:x<(n:Nat)
   ·rw[if_pos hl,if_pos (by omega)];cases bL false kv (n:Nat)<;>simp only[cond_true,cond_false]<;>omega
   ·rw[if_neg hl,if_neg (by omega)];cases bL false kv (n:Nat)<;>simp only[cond_true,cond_false]<;>omega
theorem Ck{kv:List (Int×Bool)}{n:Nat}(h:∀i:Int,(n:Int)≤i→bL false kv i=false):∀m:Nat,mX kv (n+m)=mX kv n
 |0=>rfl
 |m+1=>by
  show mX kv ((n+m)+1)=_;unfold mX;rw[h ((n+m:Nat):Int) (by omega),cond_false];have:=Ck h m;rw[this];cases n<;>rfl
theorem Mq{kv:List (Int×Bool)}{ys:List NAgent}:∀n:Nat,(∀i:Nat,i<n→((ah ys (i:Nat)).1=0↔bL false kv (i:Nat)=true))→bR ys n+mX kv n=n
 |0,_=>rfl
 |n+1,h=>by
  have ih:=Mq n fun i hi=>h i (by omega)
  unfold bR mX;have hn:=h n (by omega)
  by_cases e:(ah ys (n:Nat)).1=0
  ·rw[hn.1 e,show((ah ys (n:Nat)).1 !=0)=false by simpa using e,cond_true,cond_false];omega
  ·rw[show((ah ys (n:Nat)).1 !=0)=true by simpa using e,show bL false kv (n:Nat)=false by cases hk:bL false kv (n:Nat)with
    |false=>rfl
    |true=>exact absurd (hn.2 hk) e,cond_true,cond_false]
   omega
section
variable {P:List NAgent→Prop}(hl:∀xs p q,P xs→P (bP xs p q))(ha:∀xs zs,P xs→P (xs++zs))
include hl
theorem kD{xs:List NAgent}{p q:aJ}(h:P xs):P (dM xs p q):=hl _ _ _ h
theorem yU{xs:List NAgent}{p q:aJ}(h:P xs):P (aS xs p q):=by
 unfold aS;cases ((aF xs p).1==q.1&&(aF xs p).2==q.2)with
 |true=>exact h
 |false=>exact hl _ _ _ h
theorem zB{y:Int}{b:Nat}{xs:List NAgent}(h:P xs):∀k,P (dD y b xs k)
 |0=>h
 |k+1=>kD hl (zB h k)
include ha
theorem Bo{x c d:Int}{xs:List NAgent}(h:P xs):∀k,P (dO x c d xs k)
 |0=>h
 |k+1=>hl _ _ _ (hl _ _ _ (ha _ _ (Bo h k)))
theorem Mi{y:Int}{xs:List NAgent}(h:P xs):∀k,P (tK y xs k)
 |0=>h
 |k+1=>kD hl (ha _ _ (Mi h k))
theorem Mh{lv x:Int}{b:Nat}{xs:List NAgent}(h:P xs):∀k,P (qo lv x b xs k)
 |0=>h
 |k+1=>kD hl (hl _ _ _ (ha _ _ (Mh h k)))
theorem FK{bk:List (List NAgent)}{xs:List NAgent}{c x y:Int}(h:P xs):P (iJ bk xs c x y):=by
 unfold iJ;cases c==1
 ·cases c==2
  ·cases c==3
   ·cases c==4
    ·cases c==5
     ·cases c==6
      ·cases c==7
       ·exact h
       ·exact hl _ _ _ (ha _ _ h)
      ·show P (dJ xs x y);unfold dJ;cases (ah xs y).1==11
       ·exact kD hl (Mh hl ha (ha _ _ h) _)
       ·exact kD hl (ha _ _ h)
     ·show P (bI xs x y);unfold bI;cases (ah xs y).1==7
      ·exact kD hl (ha _ _ h)
      ·exact kD hl (kD hl (ha _ _ h))
    ·exact Mi hl ha h _
   ·exact zB hl (kD hl (kD hl (Bo hl ha (ha _ _ (ha _ _ h)) _))) _
  ·exact yU hl (yU hl h)
 ·exact yU hl (yU hl h)
end
def Lg(i:Int)(ys:List NAgent):Prop:=i.toNat<ys.length∧ah ys i=Dz
theorem Lg.set{i:Int}{ys:List NAgent}(h:Lg i ys)(p q:aJ):Lg i (aN ys p q):=by
 refine⟨by rw[dA];exact h.1,?_⟩;rw[fu];split
 ·rename_i e;rw[Aq e.1,h.2];rfl
 ·exact h.2
theorem Lg.inter{i:Int}{ys:List NAgent}(h:Lg i ys)(bk:List (List NAgent))(c x y:Int):Lg i (iJ bk ys c x y):=
 FK (P:=Lg i) (fun xs p q h=>(h.set p q).set q p) (fun xs zs h=>⟨by rw[List.length_append];have:=h.1;omega,by rw[dH h.1];exact h.2⟩) h
theorem Lg.drop{i:Int}{ys:List NAgent}(h:Lg i ys)(a:Int):Lg i (bD ys a):=by
 refine⟨by rw[fD];exact h.1,?_⟩;unfold bD;rw[mD];split
 ·rfl
 ·exact h.2
theorem Lg.new{ys:List NAgent}{a:Int}(h0:0≤a)(h1:a<(ys.length:Nat)):Lg a (bD ys a):=by
 refine⟨by rw[fD];omega,?_⟩;unfold bD;rw[mD,if_pos ⟨rfl,by omega⟩]
theorem IU{xs:List NAgent}(bk:List (List NAgent))(c x y:Int):xs.length≤(iJ bk xs c x y).length:=
 FK (P:=fun ws=>xs.length≤ws.length) (fun ws p q h=>by rw[jJ];exact h) (fun ws zs h=>by rw[List.length_append];omega) (Nat.le_refl _)
theorem bE.Zaj{xs:List NAgent}{p q:aJ}(h:∀r,ak xs r→r≠p→r≠q→ak xs (aF xs r))(hp:ak xs p)(hq:ak xs q):bE (bP xs p q):=fun r hr=>by
 have hr':=hr.unlink;rw[jX hp hq hr'];split
 ·exact hp.link
 ·rename_i e1;split
  ·exact hq.link
  ·rename_i e2;exact(h r hr' (Ne.symm e2) (Ne.symm e1)).link
section
variable {xs:List NAgent}{x y c:Int}{bk:List (List NAgent)}
theorem WJ(hp:IntPre xs c x y)(hA:bE xs)(h0:ak xs (0,0))(hc:1≤c∧c≤7)(hb:BkW bk)(h7:c=7→(0≤(ah xs x).2.2.1∧(ah xs x).2.2.1<(bk.length:Nat))):bE (iq bk xs c x y):=by
 obtain⟨hx0,hy0,p12,p3,px,py,dy,p5,p6⟩:=hp;have hcs:c=1∨c=2∨c=3∨c=4∨c=5∨c=6∨c=7:=by omega
 rcases hcs with rfl|rfl|rfl|rfl|rfl|rfl|rfl
 ·obtain⟨j1,j2,j3,j4⟩:=p12 (.inl rfl);exact(hA.join j1 j3).join j2.join j4.join
 ·obtain⟨j1,j2,j3,j4⟩:=p12 (.inr rfl);exact(hA.join j1 j3).join j2.join j4.join
 ·obtain⟨hx1,hx2⟩:=p3 rfl;show bE (bJ xs x y);have h2A:=x9 (y:=y) hA h0;have hcd:∀i:Nat,i≤(ah xs y).2.2.2.2.length-1→ak (dup2 xs y) (((xs.length:Nat):Int),(i:Nat))∧ak (dup2 xs y) (((xs.length+1:Nat):Int),(i:Nat)):=fun i hi=>⟨rX (by omega) (by omega),r9 (by omega) (by omega)⟩
  have h3A:bE (dup3 xs x y):=nk h2A (nV h0) _ hcd;have h3:∀{p},ak xs p→ak (dup3 xs x y) p:=fun h=>cK (nV h) _
  have hc0:ak (dup3 xs x y) (((xs.length:Nat):Int),0):=cK (rX (by decide) (by omega)) _;have hd0:ak (dup3 xs x y) (((xs.length+1:Nat):Int),0):=cK (r9 (by decide) (by omega)) _;have h4A:bE (lQ xs x y):=(h3A.move (h3 hx1) hc0).move (h3 hx2).move hd0.move;refine lS h4A _ fun i hi=>⟨(h3 ⟨hy0.1,hy0.2,by omega,?_⟩).move.move,?_⟩
  ·show((i:Nat):Int)+1<((ah xs y).2.2.2.2.length:Nat);omega
  ·have:=(su (x:=x) (c:=((xs.length:Nat):Int)) (d:=((xs.length+1:Nat):Int)) (xs:=dup2 xs y) hi).move (p:=(x,1)) (q:=(((xs.length:Nat):Int),0));have:=this.move (p:=(x,2)) (q:=(((xs.length+1:Nat):Int),0));rw[gZ]at this;exact this
 ·exact yR hA h0 _ fun i hi=>⟨hy0.1,hy0.2,by omega,by show((i+1:Nat):Int)<((ah xs y).2.2.2.2.length:Nat);omega⟩
 ·obtain⟨j1,j2,j3⟩:=p5 rfl;show bE (bI xs x y);unfold bI;cases hk:(ah xs y).1==7 with
  |true=>
   have k7:=j2 (by simpa using hk);exact((hA.add h0 _ _ _ _ _).move j1.app (ak.new (by decide) (by decide))).move k7.app.move (ak.new (by decide) (by decide)).move
  |false=>exact(hA.add h0 _ _ _ _ _).move j1.app (ak.new (by decide) (by decide))
 ·obtain⟨j1,j2,j3⟩:=p6 rfl;show bE (kG xs x y);unfold kG;cases hk:(ah xs x).1==6 with
  |true=>exact(hA.add h0 _ _ _ _ _).move j1.app (ak.new (by decide) (by decide))
  |false=>
   simp only[cond_false];have h1A:bE (bF xs y (ah xs x).2.2.1):=hA.add h0 _ _ _ _ _;have h1l:(bF xs y (ah xs x).2.2.1).length=xs.length+1:=rF _ _ _;have h1R:ak (bF xs y (ah xs x).2.2.1) (jv (bF xs y (ah xs x).2.2.1).length 0):=by rw[h1l];exact ak.new (by decide) (by decide)
   have h1:∀{p},ak xs p→ak (bF xs y (ah xs x).2.2.1) p:=fun h=>h.app
   have h2A:=JX (lv:=(ah xs y).2.1) h1A (h1 h0) h1R ((ah xs x).2.2.2.2.length-1);have hR:=Iw (lv:=(ah xs y).2.1) h1R ((ah xs x).2.2.2.2.length-1);have h2:∀{p},ak xs p→ak (rD (ah xs y).2.1 (bF xs y (ah xs x).2.2.1).length (bF xs y (ah xs x).2.2.1) ((ah xs x).2.2.2.2.length-1)) p:=fun h=>E8 (h1 h) _
   have hxi:∀i:Nat,i<((ah xs x).2.2.2.2.length-1)→ak (rD (ah xs y).2.1 (bF xs y (ah xs x).2.2.1).length (bF xs y (ah xs x).2.2.1) ((ah xs x).2.2.2.2.length-1)) (x,((i:Nat):Int)+1)∧ak (rD (ah xs y).2.1 (bF xs y (ah xs x).2.2.1).length (bF xs y (ah xs x).2.2.1) ((ah xs x).2.2.2.2.length-1)) ((((bF xs y (ah xs x).2.2.1).length+i:Nat):Int),1):=fun i hi=>
    ⟨h2 ⟨hx0.1,hx0.2,by omega,by show((i:Nat):Int)+1<((ah xs x).2.2.2.2.length:Nat);omega⟩,AB (by decide) (by decide) hi⟩
   rw[h1l]at h2A h2 hxi hR;exact(Ep h2A _ hxi).move (nS (h2 j1) _) (nS hR _)
 ·obtain⟨v0,v1⟩:=h7 rfl;show bE (nX bk xs x y);unfold nX nN;have hw:=hb.wi _ v0 v1;have r0:=hb.r0 _ v0 v1;have r1:=hb.r1 _ v0 v1;generalize bQ bk (ah xs x).2.2.1=t at*;generalize (ah xs x).2.1=lv;generalize hbb:(xs.length:Int)-1=b;have hb':b=(xs.length:Int)-1:=hbb.symm;have hws:iM (fun p=>ak (cO lv t) p) (cO lv t):=hw.shift;have r0s:ak (cO lv t) (0,0):=ak.jO.2 r0;have r1s:∀p,ak (cO lv t) p→p.1=0→p=(0,0):=fun p hp e=>r1 p (ak.jO.1 hp) e
  generalize cO lv t=T at*;obtain⟨q1,q2,q3,q4⟩:=hws (0,0) r0s
  have rpos:1≤(aF T (0,0)).1:=by
   have h1:0≤(aF T (0,0)).1:=q2.1
   by_cases e:(aF T (0,0)).1=0
   ·exact absurd (r1s _ q2 e) q4
   ·omega
  have hR:ak (xs++(T.drop 1).map (dz b)) ((aF T (0,0)).1+b,(aF T (0,0)).2):=(ak.nH hb').2 (.inr ⟨by show(xs.length:Int)≤(aF T (0,0)).1+b;omega,by
   rw[show(((aF T (0,0)).1+b,(aF T (0,0)).2):aJ).1-b=(aF T (0,0)).1 by show(aF T (0,0)).1+b-b=_;omega];exact q2⟩)
  have hY:ak xs (y,0):=⟨hy0.1,hy0.2,Int.le_refl 0,by show(0:Int)<((ah xs y).2.2.2.2.length:Nat);omega⟩;refine bE.Zaj (fun r hr n1 n2=> ?_) hY.app hR;rcases(ak.nH hb').1 hr with q|⟨q,qt⟩
  ·rw[oZ (FR q)];exact(hA r q).app
  ·rw[yC hb' q qt];obtain⟨s1,s2,s3,s4⟩:=hws _ qt
   by_cases e:(aF T (r.1-b,r.2)).1=0
   ·exfalso;have e2:=r1s _ s2 e;rw[e2]at s3;apply n2;rw[s3];exact eU (by show r.1=r.1-b+b;omega) rfl
   ·have s20:0≤(aF T (r.1-b,r.2)).1:=s2.1;refine(ak.nH hb').2 (.inr ⟨by show(xs.length:Int)≤(aF T (r.1-b,r.2)).1+b;omega,?_⟩);rw[show(((aF T (r.1-b,r.2)).1+b,(aF T (r.1-b,r.2)).2):aJ).1-b=(aF T (r.1-b,r.2)).1 by show(aF T (r.1-b,r.2)).1+b-b=_;omega];exact s2
end
end Go.Tr
namespace Go.Tr
open Go Go.RowKit
abbrev Gone(kv:List (Int×Bool)):Int→Prop:=fun i=>bL false kv i=true
theorem TT(kv:List (Int×Bool))(ks:List Int)(i:Int):Gone (mI kv ks) i↔Gone kv i∨i∈ks:=by
 unfold mI Gone
 induction ks generalizing kv with
 |nil=>simp
 |cons k ks ih=>
  rw[List.foldl_cons,ih,yV,List.mem_cons]
  by_cases h:k=i
  ·rw[if_pos h];simp[h]
  ·rw[if_neg h];constructor
   ·rintro(h1|h1)
    ·exact .inl h1
    ·exact .inr (.inr h1)
   ·rintro(h1|h1|h1)
    ·exact .inl h1
    ·exact absurd h1.symm h
    ·exact .inr h1
theorem ZaD{kv:List (Int×Bool)}(hT:∀e∈kv,e.2=true)(ks:List Int):∀e∈mI kv ks,e.2=true:=by
 unfold mI
 induction ks generalizing kv with
 |nil=>exact hT
 |cons k ks ih=>rw[List.foldl_cons];exact ih (Kr hT k)
structure BkV(bk:List (List NAgent)):Prop extends BkW bk where
 rt:∀v:Int,0≤v→v<(bk.length:Nat)→∀i:Int,0<i→i<((bQ bk v).length:Nat)→(ah (bQ bk v) i).1≠1
structure Twin(kv:List (Int×Bool))(xs ys:List NAgent):Prop where
 st:St (Gone kv) xs ys
 wf:JH (Gone kv) xs
 dl:∀i,Gone kv i→0≤i∧i<(xs.length:Nat)
 hole:∀i,Gone kv i→Lg i ys
 r1:(ah xs 0).1=1
 r0:¬Gone kv 0
 rl:0<xs.length
 uq:∀i:Int,0<i→i<(xs.length:Nat)→¬Gone kv i→(ah xs i).1≠1
 kt:∀e∈kv,e.2=true
 kl:kv.length=mX kv xs.length
 al:bE xs
section
variable {kv:List (Int×Bool)}{xs ys:List NAgent}{a b x y c:Int}{bk:List (List NAgent)}
theorem Twin.len(h:Twin kv xs ys):xs.length=ys.length:=h.st.ag.1
theorem Twin.at_(h:Twin kv xs ys){i:Int}(h0:0≤i)(h1:i<(xs.length:Nat))(hd:¬Gone kv i):ah ys i=ah xs i:=(h.st.ag.2 i h0 h1 hd).symm
theorem Twin.p0(h:Twin kv xs ys):ak xs (0,0):=by
 have w:=h.wf 0 (Int.le_refl 0) (by have:=h.rl;omega) h.r0;have:=(fZ w).2.2.2;exact⟨Int.le_refl 0,by have:=h.rl;show(0:Int)<_;omega,Int.le_refl 0,by show(0:Int)<((ah xs 0).2.2.2.2.length:Nat);omega⟩
theorem Twin.p0y(h:Twin kv xs ys):ak ys (0,0):=(h.st.ag.port h.p0 h.r0).1
theorem Twin.JN(h:Twin kv xs ys):bE ys:=fun p hp=>by
 by_cases hd:Gone kv p.1
 ·have e:=(h.hole _ hd).2;obtain⟨_,_,h3,h4⟩:=hp;rw[e]at h4;have:p.2<((0:Nat):Int):=h4;omega
 ·have hpx:ak xs p:=by
   obtain⟨h1,h2,h3,h4⟩:=hp;rw[←h.len]at h2;rw[h.at_ h1 h2 hd]at h4;exact⟨h1,h2,h3,h4⟩
  obtain⟨_,k2,_,_⟩:=h.st.wi p ⟨hpx,hd⟩;rw[(h.st.ag.port hpx hd).2];exact(h.st.ag.port k2.1 k2.2).1
theorem Twin.live(h:Twin kv xs ys):bR ys ys.length+kv.length=xs.length:=by
 rw[h.kl,h.len];refine Mq _ fun i hi=> ?_
 constructor
 ·intro e;cases hk:bL false kv (i:Nat)with
  |true=>rfl
  |false=>
   have hd:¬Gone kv (i:Nat):=fun e=>by
    have e':bL false kv (i:Nat)=true:=e;rw[hk]at e';cases e'
   have hl:=h.len;have w:=K9 (h.wf (i:Nat) (by omega) (by omega) hd);rw[h.at_ (by omega) (by omega) hd]at e;omega
 ·intro e;rw[(h.hole _ e).2];rfl
theorem nQ.symm{D:Int→Prop}(k:nQ D xs a b)(h:St D xs ys):nQ D xs b a:=by
 obtain⟨_,_,h3,_⟩:=h.wi (a,0) ⟨k.px,k.lx⟩;rw[k.w]at h3;exact⟨k.ne.symm,k.ly,k.lx,k.py,k.px,h3⟩
theorem nQ.first{D:Int→Prop}(k:nQ D xs a b)(h:St D xs ys):nQ D xs (firstS xs a b).1 (firstS xs a b).2:=by
 unfold firstS;cases bf (ah xs a).1 (ah xs a).2.1 (ah xs b).1 (ah xs b).2.1==2
 ·exact k
 ·exact k.symm h
theorem gu{u:NAgent}(w:Wf u):0<u.2.2.2.2.length∧u.2.2.2.2.length≤4:=by
 have k:=K9 w;obtain⟨x1,x2,x3,x4⟩:=vR w;refine⟨(fZ w).2.2.2,?_⟩
 by_cases h9:u.1=9
 ·exact(x4 h9).2
 ·by_cases h1:u.1=1∨u.1=5∨u.1=6∨u.1=12
  ·rw[x1 h1];decide
  ·by_cases h2:u.1=8∨u.1=10∨u.1=11
   ·rw[x2 h2];decide
   ·rw[x3 (by omega)];decide
theorem PU(wx:Wf (ah xs x))(wy:Wf (ah xs y))(hx:0≤x∧x<(xs.length:Nat))(hy:0≤y∧y<(xs.length:Nat))(hr:rule (ah xs x).1 (ah xs x).2.1 (ah xs y).1 (ah xs y).2.1=c)(hc:1≤c∧c≤7)
  (h6:(ah xs x).1=9→(ah xs y).1=10→(ah xs x).2.2.1<((ah xs y).2.2.2.1.length:Nat)):JF xs c x y:=by
 obtain⟨r1,r2,r3,r4,r5,r6,r7⟩:=iY hr (by omega);obtain⟨x1,x2,x3,x4⟩:=vR wx;obtain⟨y1,y2,y3,y4⟩:=vR wy;have sx:=gu wx;have sy:=gu wy;have inx:∀s:Int,0≤s→s<((ah xs x).2.2.2.2.length:Nat)→ak xs (x,s):=fun s h0 h1=>⟨hx.1,hx.2,h0,h1⟩
 have iny:∀s:Int,0≤s→s<((ah xs y).2.2.2.2.length:Nat)→ak xs (y,s):=fun s h0 h1=>⟨hy.1,hy.2,h0,h1⟩
 refine⟨⟨hx,hy,fun e=> ?_,fun e=> ?_,by omega,by omega,by have:=wf_data wy;omega,fun e=> ?_,fun e=> ?_⟩,fun e=>(r5 e).2,fun e=> ?_⟩
 ·have kx:(ah xs x).2.2.2.2.length=3:=x3 (by rcases e with e|e;(have:=r1 e;omega);(have:=r2 e;omega));have ky:(ah xs y).2.2.2.2.length=3:=y3 (by rcases e with e|e;(have:=r1 e;omega);(have:=r2 e;omega));exact⟨inx 1 (by decide) (by omega),inx 2 (by decide) (by omega),iny 1 (by decide) (by omega),iny 2 (by decide) (by omega)⟩
 ·have kx:(ah xs x).2.2.2.2.length=3:=x3 (by have:=r3 e;omega);exact⟨inx 1 (by decide) (by omega),inx 2 (by decide) (by omega)⟩
 ·obtain⟨a1,a2⟩:=r5 e;refine⟨?_,fun k7=> ?_,fun k7=> ?_⟩
  ·rcases a2 with q|q
   ·exact iny 1 (by decide) (by rw[y3 (by omega)];decide)
   ·exact iny 1 (by decide) (by rw[y2 (by omega)];decide)
  ·exact iny 2 (by decide) (by rw[y3 (by omega)];decide)
  ·have:=(VQ wy (by omega)).1;omega
 ·refine⟨?_,fun k6=> ?_,fun k6=> ?_⟩
  ·exact iny 1 (by decide) (by rw[y2 (by have:=r6 e;omega)];decide)
  ·exact(G6 wy (by have:=r6 e;omega)).1
  ·have q:=r6 e;have k9:(ah xs x).1=9:=by omega
   exact⟨(G5 wx k9).1,h6 k9 (by omega)⟩
 ·have q:=r6 e;refine⟨fun k=>(G6 wy k).1,fun k=> ?_⟩;have k9:(ah xs x).1=9:=by omega
  exact⟨(G5 wx k9).1,h6 k9 (by omega),k9⟩
theorem wD(h:iN (ah xs x) (ah xs y)=false):(ah xs x).1=9→(ah xs y).1=10→(ah xs x).2.2.1<((ah xs y).2.2.2.1.length:Nat):=fun h9 h10=>by
 unfold iN at h;rw[show((ah xs x).1==9)=true by simpa using h9,show((ah xs y).1==10)=true by simpa using h10]at h;simp only[cond_true,decide_eq_false_iff_not]at h;omega
theorem Ro(hy:(ah xs y).1≠1)(hc:1≤c∧c≤7)(hb:BkV bk)(h7:c=7→(0≤(ah xs x).2.2.1∧(ah xs x).2.2.1<(bk.length:Nat))):∀z∈vg bk xs c x y,z.1≠1:=by
 have hcs:c=1∨c=2∨c=3∨c=4∨c=5∨c=6∨c=7:=by omega
 intro z hz;rcases hcs with rfl|rfl|rfl|rfl|rfl|rfl|rfl
 ·cases hz
 ·cases hz
 ·have hz':z∈[nO xs y]++[nO xs y]++List.replicate ((ah xs y).2.2.2.2.length-1) (bC 4 (ah xs x).2.1 0 [] 3):=hz;rw[List.mem_append,List.mem_append,List.mem_singleton]at hz';rcases hz' with(e|e)|e
  ·rw[e];exact hy
  ·rw[e];exact hy
  ·rw[List.eq_of_mem_replicate e];intro k;cases k
 ·have hz':z∈List.replicate ((ah xs y).2.2.2.2.length-1) (bC 5 0 0 [] 1):=hz;rw[List.eq_of_mem_replicate hz'];intro k;cases k
 ·have hz':z∈(bif (ah xs y).1==7 then[bC 8 (ah xs y).2.1 (ah xs y).2.2.1 [(ah xs x).2.2.1] 2]else[bC 6 0 (yB (ah xs y).2.2.1 (jH (ah xs y).2.2.2.1 0) (ah xs x).2.2.1) [] 1]):=hz;cases hk:(ah xs y).1==7 with
  |true=>rw[hk,cond_true,List.mem_singleton]at hz';rw[hz'];intro k;cases k
  |false=>rw[hk,cond_false,List.mem_singleton]at hz';rw[hz'];intro k;cases k
 ·have hz':z∈(bif (ah xs x).1==6 then[bC 12 (ah xs y).2.1 (jH (ah xs y).2.2.2.1 (bif (ah xs x).2.2.1==0 then 1 else 0)) [] 1]
   else[bC 12 (ah xs y).2.1 (jH (ah xs y).2.2.2.1 (ah xs x).2.2.1) [] 1]++List.replicate ((ah xs x).2.2.2.2.length-1) (bC 3 (ah xs y).2.1 0 [] 3)):=hz
  cases hk:(ah xs x).1==6 with
  |true=>rw[hk,cond_true,List.mem_singleton]at hz';rw[hz'];intro k;cases k
  |false=>
   rw[hk,cond_false,List.mem_append,List.mem_singleton]at hz';rcases hz' with e|e
   ·rw[e];intro k;cases k
   ·rw[List.eq_of_mem_replicate e];intro k;cases k
 ·obtain⟨v0,v1⟩:=h7 rfl;have hz':z∈((nN bk xs x).drop 1).map (dz ((xs.length:Nat)-1)):=hz;obtain⟨w,hw,rfl⟩:=List.mem_map.1 hz';unfold nN cO at hw;rw[←List.map_drop]at hw;obtain⟨u,hu,rfl⟩:=List.mem_map.1 hw;obtain⟨i,hi,rfl⟩:=List.mem_iff_getElem.1 hu;have hrt:=hb.rt _ v0 v1;generalize bQ bk (ah xs x).2.2.1=t at*;rw[List.length_drop]at hi;rw[List.getElem_drop];have:=hrt ((1+i:Nat):Int) (by omega) (by omega);rw[xL (by omega)]at this;show(jB _ t[1+i]).1≠1;unfold jB;cases bV (t[1+i]).kind
  ·exact this
  ·exact this
theorem Twin.next(h:Twin kv xs ys)(k:nQ (Gone kv) xs x y)(hb:BkV bk)(rx:(ah xs x).1≠1)(ry:(ah xs y).1≠1)(hr:rule (ah xs x).1 (ah xs x).2.1 (ah xs y).1 (ah xs y).2.1=c)(hc:1≤c∧c≤7)(hcl:iN (ah xs x) (ah xs y)=false)
  (h7:c=7→(ah xs x).2.2.1<(bk.length:Nat)∧fV (ah xs x).2.1 (bQ bk (ah xs x).2.2.1)=true):JF xs c x y∧JF ys c x y∧(c=7→0≤(ah xs x).2.2.1)∧Twin (mI kv (gI c x y)) (iq bk xs c x y) (gH bk ys c x y)∧(iq bk xs c x y).length=xs.length+(vg bk xs c x y).length:=by
 have hx:0≤x∧x<(xs.length:Nat):=⟨k.px.1,k.px.2.1⟩;have hy:0≤y∧y<(xs.length:Nat):=⟨k.py.1,k.py.2.1⟩;have wx:=h.wf x hx.1 hx.2 k.lx;have wy:=h.wf y hy.1 hy.2 k.ly;have sp:=PU wx wy hx hy hr hc (wD hcl);have ex:=h.at_ hx.1 hx.2 k.lx;have ey:=h.at_ hy.1 hy.2 k.ly;have sy:JF ys c x y:=PU (by rw[ex];exact wx) (by rw[ey];exact wy) (by rw[←h.len];exact hx) (by rw[←h.len];exact hy) (by rw[ex,ey];exact hr) hc (wD (by rw[ex,ey];exact hcl));have v0:c=7→0≤(ah xs x).2.2.1:=fun e=>(vS wx ((iY hr (by omega)).2.2.2.2.2.2 e).1).1
 have sg:=IV (bk:=bk) (xs:=xs) (x:=x) (y:=y) hc (by omega);have hln:(iq bk xs c x y).length=xs.length+(vg bk xs c x y).length:=by rw[sg.1,List.length_append]
 have gr:∀i,Gone (mI kv (gI c x y)) i↔Gone kv i∨i∈gI c x y:=fun i=>TT kv _ i
 have ge:Gone (mI kv (gI c x y))=fun i=>Gone kv i∨i∈gI c x y:=funext fun i=>propext (gr i)
 have gxy:∀i,i∈gI c x y→i=x∨i=y:=fun i hi=>by
  unfold gI at hi;cases hq:c==7 with
  |true=>rw[hq,cond_true,List.mem_singleton]at hi;exact .inl hi
  |false=>rw[hq,cond_false]at hi;simpa using hi
 have nx:x≠0:=fun e=>rx (by rw[e];exact h.r1)
 have ny:y≠0:=fun e=>ry (by rw[e];exact h.r1)
 have ksig:∀i:Int,0≤i→i<(xs.length:Nat)→(ah (iq bk xs c x y) i).1=(ah xs i).1:=fun i i0 i1=>by
  have:=sg.2 i i0 (by rw[hln];omega);rw[dH (by omega)]at this;exact congrArg (fun s:Int×Int×Int×List Int×Nat=>s.1) this
 refine⟨sp,sy,v0,?_,hln⟩;refine⟨?_,?_,?_,?_,?_,?_,by omega,?_,ZaD h.kt _,?_,WJ sp.toIntPre h.al h.p0 hc hb.toBkW fun e=>⟨v0 e,(h7 e).1⟩⟩
 ·rw[ge];exact Ui h.st k (fun i hi=>(h.dl i hi).2) h.wf hr hc hb.toBkW fun e=>(h7 e).1
 ·rw[ge];exact Uj h.wf hx hy k.lx k.ly hr hc hb.toBkW (fun e e9=>by
   have q:=(iY hr (by omega)).2.2.2.2.2.1 e;exact wD hcl e9 (by omega)) h7
 ·intro i hi;rcases(gr i).1 hi with e|e
  ·have:=h.dl i e;omega
  ·rcases gxy i e with e|e<;>omega
 ·intro i hi;unfold gH;have hl:=h.len;have hle:=IU (xs:=ys) bk c x y;have n1:Lg x (bD (iJ bk ys c x y) x):=Lg.new hx.1 (by omega);have n2:Lg y (bD (bD (iJ bk ys c x y) x) y):=Lg.new hy.1 (by rw[fD];omega);rcases(gr i).1 hi with e|e
  ·have q:=(h.hole i e).inter bk c x y;cases c==7
   ·exact(q.drop x).drop y
   ·exact q.drop x
  ·unfold gI at e;cases hq:c==7 with
   |true=>rw[hq,cond_true,List.mem_singleton]at e;rw[e];exact n1
   |false=>
    rw[hq,cond_false]at e;have e2:i=x∨i=y:=by simpa using e
    rcases e2 with e2|e2
    ·rw[e2];exact n1.drop y
    ·rw[e2];exact n2
 ·rw[ksig 0 (Int.le_refl 0) (by have:=h.rl;omega)];exact h.r1
 ·intro e;rcases(gr 0).1 e with e|e
  ·exact h.r0 e
  ·rcases gxy 0 e with e|e
   ·exact nx e.symm
   ·exact ny e.symm
 ·intro i i0 i1 hi;have hi2:¬Gone kv i:=fun e=>hi ((gr i).2 (.inl e))
  by_cases hl:i<(xs.length:Nat)
  ·rw[ksig i (by omega) hl];exact h.uq i i0 hl hi2
  ·have:=sg.2 i (by omega) i1;have hlt:i.toNat-xs.length<(vg bk xs c x y).length:=by omega
   have e:ah (xs++vg bk xs c x y) i=(vg bk xs c x y)[i.toNat-xs.length]:=by
    unfold ah elt;rw[List.getD_eq_getElem?_getD,List.getElem?_append_right (by omega),List.getElem?_eq_getElem hlt];rfl
   rw[e]at this;have k1:(ah (iq bk xs c x y) i).1=((vg bk xs c x y)[i.toNat-xs.length]).1:=congrArg (fun s:Int×Int×Int×List Int×Nat=>s.1) this;rw[k1];exact Ro ry hc hb (fun e=>⟨v0 e,(h7 e).1⟩) _ (List.getElem_mem hlt)
 ·have gf:∀{kv:List (Int×Bool)} {i:Int},¬Gone kv i→bL false kv i=false:=fun {kv i} hi=>by
   cases hq:bL false kv i with
   |true=>exact absurd hq hi
   |false=>rfl
  have c1:mX (gT kv x true) xs.length=mX kv xs.length+1:=by rw[Cm hx.1 (gf k.lx),if_pos hx.2]
  have l1:(gT kv x true).length=kv.length+1:=uV h.kt (gf k.lx);have y1:bL false (gT kv x true) y=false:=by rw[yV,if_neg k.ne];exact gf k.ly
  have c2:mX (gT (gT kv x true) y true) xs.length=mX kv xs.length+2:=by rw[Cm hy.1 y1,if_pos hy.2,c1]
  have l2:(gT (gT kv x true) y true).length=kv.length+2:=by rw[uV (Kr h.kt x) y1,l1]
  have hn:∀i:Int,(xs.length:Int)≤i→bL false (mI kv (gI c x y)) i=false:=fun i hi=>gf fun e=>by
   rcases(gr i).1 e with e|e
   ·have:=h.dl i e;omega
   ·rcases gxy i e with e|e<;>omega
  rw[hln,Ck hn];have hk:=h.kl;unfold gI;cases c==7
  ·show(gT (gT kv x true) y true).length=mX (gT (gT kv x true) y true) xs.length;omega
  ·show(gT kv x true).length=mX (gT kv x true) xs.length;omega
end
end Go.Tr
namespace Go.Tr
open Go Go.RowKit
structure Np(bk:List (List NAgent)):Prop extends BkV bk where
 tl:∀v:Int,0≤v→v<(bk.length:Nat)→(bQ bk v).length≤600
 bl:bk.length≤1000
section
variable {bk:List (List NAgent)}
theorem Lv{v:Int}(h:¬(0≤v∧v<(bk.length:Nat)))(h0:0≤v):bQ bk v=[]:=by
 unfold bQ elt;rw[List.getD_eq_getElem?_getD,List.getElem?_eq_none (by omega)];rfl
theorem pO{xs:List NAgent}{i:Nat}(h:xs.length≤i):ah xs (i:Nat)=dflt uAgent:=by
 unfold ah elt;rw[List.getD_eq_getElem?_getD,Int.toNat_natCast,List.getElem?_eq_none h];rfl
theorem Np.len(h:Np bk)(v:Nat):(bQ bk (v:Nat)).length≤600:=by
 by_cases hv:0≤((v:Nat):Int)∧((v:Nat):Int)<(bk.length:Nat)
 ·exact h.tl _ hv.1 hv.2
 ·rw[Lv hv (by omega)];decide
theorem Np.ag(h:Np bk)(v j:Nat):(0≤(ah (bQ bk (v:Nat)) (j:Nat)).2.1∧(ah (bQ bk (v:Nat)) (j:Nat)).2.1≤8)∧(ah (bQ bk (v:Nat)) (j:Nat)).2.2.2.1.length≤4∧(ah (bQ bk (v:Nat)) (j:Nat)).2.2.2.2.length≤4:=by
 by_cases hv:0≤((v:Nat):Int)∧((v:Nat):Int)<(bk.length:Nat)
 ·by_cases hj:j<(bQ bk (v:Nat)).length
  ·have w:=h.wf _ hv.1 hv.2 (j:Nat) (by omega) (by omega);have h1:=yI w;exact⟨by omega,wf_data w,(gu w).2⟩
  ·rw[pO (by omega)];decide
 ·rw[Lv hv (by omega),pO (Nat.zero_le _)];decide
theorem Np.small(h:Np bk)(v:Nat):NetSmall (bQ bk (v:Nat)):=by
 refine⟨by have:=h.len v;omega,fun i=> ?_⟩;have:=(h.ag v i).2;exact⟨by show(ah (bQ bk (v:Nat)) (i:Nat)).2.2.2.1.length≤1048576;omega,by show(ah (bQ bk (v:Nat)) (i:Nat)).2.2.2.2.length≤1048576;omega⟩
theorem Np.ok(h:Np bk):Jz bk:=fun v j=>(h.ag v j).1
theorem Vd{t:List NAgent}(hw:iM (fun p=>ak t p) t)(hl:t.length≤600)(i j:Nat):uM (elt (dflt uPort) (ah t (i:Nat)).2.2.2.2 (j:Nat)).1:=by
 by_cases hi:i<t.length
 ·by_cases hj:j<(ah t (i:Nat)).2.2.2.2.length
  ·obtain⟨_,h2,_⟩:=hw ((i:Nat),(j:Nat)) ⟨by show(0:Int)≤(i:Nat);omega,by show((i:Nat):Int)<(t.length:Nat);omega,by show(0:Int)≤(j:Nat);omega,by show((j:Nat):Int)<((ah t (i:Nat)).2.2.2.2.length:Nat);omega⟩;have h3:0≤(elt (dflt uPort) (ah t (i:Nat)).2.2.2.2 (j:Nat)).1:=h2.1;have h4:(elt (dflt uPort) (ah t (i:Nat)).2.2.2.2 (j:Nat)).1<(t.length:Nat):=h2.2.1;have h5:((t.length:Nat):Int)≤1000000:=by omega
   exact⟨h3,Int.le_trans (Int.le_of_lt h4) h5⟩
  ·unfold elt;rw[List.getD_eq_getElem?_getD,Int.toNat_natCast,List.getElem?_eq_none (by omega)];exact⟨by decide,by decide⟩
 ·rw[pO (by omega)];have e:elt (dflt uPort) (dflt uAgent).2.2.2.2 ((j:Nat):Int)=(0,0):=rfl;rw[e];exact⟨by decide,by decide⟩
structure ExpF(t xs:List NAgent)(lv b:Int):Prop where
 two:2≤t.length
 r0:ak t (0,0)
 rs:ak (cO lv t) (0,0)
 top:ak (xs++((cO lv t).drop 1).map (dz b)) ((aF (cO lv t) (0,0)).1+b,(aF (cO lv t) (0,0)).2)
 pe:aF (cO lv t) (0,0)=aF t (0,0)
 ex:jQ lv b t (t.length-1)=((cO lv t).drop 1).map (dz b)
 bt:∀i j:Nat,uM (elt (dflt uPort) (ah t (i:Nat)).2.2.2.2 (j:Nat)).1
 bs:∀i j:Nat,uM (elt (dflt uPort) (ah (cO lv t) (i:Nat)).2.2.2.2 (j:Nat)).1
 ps:∀i:Nat,(ah (cO lv t) (i:Nat)).2.2.2.2.length≤1048576
theorem Np.exp(h:Np bk){v:Int}(v0:0≤v)(v1:v<(bk.length:Nat))(xs:List NAgent)(lv b:Int)(hb:b=(xs.length:Int)-1)(hx:0<xs.length):ExpF (bQ bk v) xs lv b:=by
 have hw:=h.wi _ v0 v1;have r0:=h.r0 _ v0 v1;have r1:=h.r1 _ v0 v1;have hl:=h.tl _ v0 v1
 have hps:∀i:Nat,(ah (bQ bk v) (i:Nat)).2.2.2.2.length≤4:=fun i=>by
  have:=(h.ag v.toNat i).2.2
  rwa[show((v.toNat:Nat):Int)=v by omega]at this
 generalize bQ bk v=t at*;have hws:iM (fun p=>ak (cO lv t) p) (cO lv t):=hw.shift;obtain⟨q1,q2,q3,q4⟩:=hw (0,0) r0
 have rpos:1≤(aF t (0,0)).1:=by
  have h1:0≤(aF t (0,0)).1:=q2.1
  by_cases e:(aF t (0,0)).1=0
  ·exact absurd (r1 _ q2 e) q4
  ·omega
 have ps:aF (cO lv t) (0,0)=aF t (0,0):=pY r0;refine⟨?_,r0,ak.jO.2 r0,?_,ps,?_,Vd hw hl,Vd hws (by rw[mQ];exact hl),fun i=> ?_⟩
 ·have:=q2.2.1;omega
 ·rw[ps]
  exact(ak.nH hb).2 (.inr ⟨by show(xs.length:Int)≤(aF t (0,0)).1+b;omega,ak.jO.2 (by
   rw[show(((aF t (0,0)).1+b,(aF t (0,0)).2):aJ).1-b=(aF t (0,0)).1 by show(aF t (0,0)).1+b-b=_;omega];exact q2)⟩)
 ·unfold jQ;rw[List.take_of_length_le (by rw[List.length_drop,mQ];omega)]
 ·by_cases hi:i<t.length
  ·rw[vY lv t (by omega) (by omega),show(jB lv (ah t (i:Nat))).2.2.2.2=(ah t (i:Nat)).2.2.2.2 from rz _ _];have:=hps i;show(ah t (i:Nat)).2.2.2.2.length≤1048576;omega
  ·rw[pO (by rw[mQ];omega)];decide
theorem NH(u v:NAgent):bO v u=bO u v:=by
 have h1:iN v u=nU u v:=by
  unfold iN nU;cases u.1==10<;>cases v.1==9<;>rfl
 have h2:nU v u=iN u v:=by
  unfold iN nU;cases u.1==9<;>cases v.1==10<;>rfl
 unfold bO;rw[h1,h2,zJ];cases nU u v<;>cases iN u v<;>rfl
theorem qR(xs:List NAgent)(a b:Int):bO (ah xs (firstS xs a b).1) (ah xs (firstS xs a b).2)=bO (ah xs a) (ah xs b):=by
 unfold firstS;cases bf (ah xs a).1 (ah xs a).2.1 (ah xs b).1 (ah xs b).2.1==2
 ·rfl
 ·exact NH _ _
theorem Mw{xs:List NAgent}{c x y:Int}(hb:Np bk)(hy:(ah xs y).2.2.2.2.length≤4)(hx:(ah xs x).2.2.2.2.length≤4)(h7:c=7→0≤(ah xs x).2.2.1∧(ah xs x).2.2.1<(bk.length:Nat)):(vg bk xs c x y).length≤600:=by
 unfold vg;cases c==3
 case true=>simp only[cond_true,List.length_append,List.length_cons,List.length_nil,List.length_replicate];omega
 cases c==4
 case true=>simp only[cond_true,cond_false,List.length_replicate];omega
 cases c==5
 case true=>cases (ah xs y).1==7<;>simp
 cases c==6
 case true=>
  cases (ah xs x).1==6
  ·simp only[cond_true,cond_false,List.length_append,List.length_cons,List.length_nil,List.length_replicate];omega
  ·simp
 cases h:c==7
 ·simp
 ·obtain⟨v0,v1⟩:=h7 (by simpa using h);have:=hb.tl _ v0 v1;simp only[cond_true,cond_false,List.length_map,List.length_drop,nN,mQ];omega
end
end Go.Tr
namespace Go.Tr
open Go Go.RowKit
abbrev Ld:=Int×Int×Int×List Int×Nat
def toA(s:Ld):NAgent:=(s.1,s.2.1,s.2.2.1,s.2.2.2.1,List.replicate s.2.2.2.2 (0,0))
theorem fG.maps{xs ys:List NAgent}(h:fG xs ys):xs.map sig=ys.map sig:=by
 apply List.ext_getElem?;intro i;rw[List.getElem?_map,List.getElem?_map]
 by_cases hi:i<xs.length
 ·have:=h.2 (i:Nat) (by omega) (by omega);have hj:i<ys.length:=by rw[←h.1];exact hi
  rw[xL hi,xL hj]at this;rw[List.getElem?_eq_getElem hi,List.getElem?_eq_getElem hj,Option.map_some,Option.map_some,this]
 ·rw[List.getElem?_eq_none (by omega),List.getElem?_eq_none (by rw[←h.1];omega)]
def X3(bk:List (List NAgent))(c:Int)(u v:NAgent):List NAgent:=vg bk [u,v] c 0 1
section
variable {bk:List (List NAgent)}{xs:List NAgent}{x y c:Int}{u v u' v' a b:NAgent}
def nwA(bk:List (List NAgent))(a b:NAgent):List Ld:=bif bf a.1 a.2.1 b.1 b.2.1==2 then(X3 bk (bO a b) b a).map sig else(X3 bk (bO a b) a b).map sig
structure Duo(a b:NAgent):Prop where
 wa:Wf a
 wb:Wf b
 ra:a.1≠1
 rb:b.1≠1
 ok:bO a b≠8
end
def sgAt(s:List Ld)(i:Int):Ld:=s.getD i.toNat (0,0,0,[],0)
def RY(s:List Ld)(i:Int):NAgent:=toA (sgAt s i)
inductive tJ(bk:List (List NAgent)):List Ld→List bW→List Ld→Prop
 |done (s:List Ld):tJ bk s [] s
 |step {s:List Ld} {e:bW} {es:List bW} {s':List Ld} (h0:0≤e.1) (hlt:e.1<e.2.1) (h1:e.2.1<((s.length:Nat):Int)) (hf:e.2.2.2.1=((s.length:Nat):Int))
  (hn:e.2.2.2.2=(((nwA bk (RY s e.1) (RY s e.2.1)).length:Nat):Int)) (hw:Duo (RY s e.1) (RY s e.2.1)) (r:tJ bk (s++nwA bk (RY s e.1) (RY s e.2.1)) es s'):tJ bk s (e::es) s'
end Go.Tr
namespace Go.Tr
open Go Go.RowKit
def gN(xs:List NAgent):aH:=⟨xs.map gA⟩
theorem WG(xs:List NAgent):(xs.map gA).flatMap aA.enc=List.flatMap (enc uAgent) xs:=by
 induction xs with
 |nil=>rfl
 |cons x l ih=>rw[List.map_cons,List.flatMap_cons,List.flatMap_cons,ih,TR]
theorem FC(xs:List NAgent):(gN xs).enc=enc uNet xs:=by
 show[D.sl (xs.map gA).length ((xs.map gA).flatMap aA.enc)]=[D.sl _ _];rw[WG,List.length_map]
theorem TS(bk:List (List NAgent)):(bk.map gN).flatMap aH.enc=List.flatMap (enc uNet) bk:=by
 induction bk with
 |nil=>rfl
 |cons x l ih=>rw[List.map_cons,List.flatMap_cons,List.flatMap_cons,ih,FC]
theorem PL(xs:List NAgent)(i:Nat):iE (xs.map gA) i=gA (ah xs (i:Nat)):=by
 unfold iE ah elt;rw[Int.toNat_natCast,List.getD_eq_getElem?_getD,List.getD_eq_getElem?_getD,List.getElem?_map];cases xs[i]? <;>rfl
def gP(p:aJ):aG:=⟨p.1,p.2⟩
theorem XT(ps:List aJ)(k:Nat):jY (ps.map gP) k=gP (elt (dflt uPort) ps (k:Nat)):=by
 unfold jY elt;rw[Int.toNat_natCast,List.getD_eq_getElem?_getD,List.getD_eq_getElem?_getD,List.getElem?_map];cases ps[k]? <;>rfl
theorem FB(a:NAgent):(gA a).ports=a.2.2.2.2.map gP:=rfl
theorem YQ{p q:aJ}(h:gP p=gP q):p=q:=by
 have h1:=congrArg aG.agent h;have h2:=congrArg aG.slot h;exact Prod.ext h1 h2
theorem Oo{xs:List NAgent}{p:aJ}(h:iV (xs.map gA) (gP p)=true):ak xs p:=by
 unfold iV at h;rw[Bool.and_eq_true,PL,FB]at h;have h1:=kr h.1;have h2:=kr h.2;rw[List.length_map]at h1 h2;have e1:(gP p).agent=p.1:=rfl;have e2:(gP p).slot=p.2:=rfl;rw[e1]at h1 h2;rw[e2]at h2;have e3:((p.1.toNat:Nat):Int)=p.1:=by omega
 rw[e3]at h2;exact⟨by omega,by omega,by omega,by show p.2<((ah xs p.1).2.2.2.2.length:Nat);omega⟩
structure ES(xs:List NAgent):Prop where
 l1:1≤xs.length
 l2:xs.length≤600
 wf:∀i:Int,0≤i→i<(xs.length:Nat)→Wf (ah xs i)
 rt:∀i:Int,0≤i→i<(xs.length:Nat)→((ah xs i).1=1↔i=0)
 wi:iM (fun p=>ak xs p) xs
theorem P6{xs:List NAgent}(h:je (gN xs)=true):ES xs:=by
 unfold je at h;have hag:(gN xs).agents=xs.map gA:=rfl;rw[Bool.and_eq_true,hag,List.length_map]at h;obtain⟨h1,h2⟩:=h;unfold fP at h1;rw[Bool.and_eq_true,List.length_map]at h1;obtain⟨h3,h4⟩:=h1;have h3:=kr h3;have ha:∀i:Nat,i<xs.length→iF (xs.map gA) i=true:=fun i hi=>kV h4 hi
 have hk:∀i:Nat,i<xs.length→Wf (ah xs (i:Nat))∧((ah xs (i:Nat)).1=1↔i=0):=fun i hi=>by
  have:=ha i hi;unfold iF at this;rw[PL,Bool.and_eq_true]at this;refine⟨this.1,?_⟩;have h5:=this.2;have e:(gA (ah xs (i:Nat))).kind=(ah xs (i:Nat)).1:=rfl;rw[e,beq_iff_eq,Bool.eq_iff_iff,beq_iff_eq,beq_iff_eq]at h5;omega
 refine⟨by omega,by omega,fun i h0 h1=> ?_,fun i h0 h1=> ?_,?_⟩
 ·have:=(hk i.toNat (by omega)).1
  rwa[show((i.toNat:Nat):Int)=i by omega]at this
 ·have:=(hk i.toNat (by omega)).2;rw[show((i.toNat:Nat):Int)=i by omega]at this;rw[this];omega
 ·rintro⟨a,s⟩ ⟨p1,p2,p3,p4⟩;have q1:0≤a:=p1;have q2:a<(xs.length:Nat):=p2;have q3:0≤s:=p3;have q4:s<((ah xs a).2.2.2.2.length:Nat):=p4;have ea:((a.toNat:Nat):Int)=a:=by omega
  have es:((s.toNat:Nat):Int)=s:=by omega
  have hw:rA (xs.map gA) a.toNat=true:=kV h2 (by omega);unfold rA at hw;rw[PL,ea,FB,List.length_map]at hw;have hw2:=kV hw (k:=s.toNat) (by omega);unfold qH at hw2;rw[XT,es]at hw2;have ge:(⟨((a.toNat:Nat):Int),((s.toNat:Nat):Int)⟩:aG)=gP (a,s):=by rw[ea,es];rfl
  simp only[Bool.and_eq_true,Bool.not_eq_true']at hw2;obtain⟨⟨w1,w2⟩,w3⟩:=hw2;have w1:=eqb_nf w1;have w3:=eqb_t w3;have hin:=Oo w2;have hpe:aF xs (a,s)=elt (dflt uPort) (ah xs a).2.2.2.2 s:=rfl;rw[←hpe]at w1 w3 hin;refine⟨⟨p1,p2,p3,p4⟩,hin,?_,fun e=>w1 (by rw[e];rfl)⟩;generalize aF xs (a,s)=r at*;unfold sS at w3;have er:(gP r).agent=r.1:=rfl;have er2:(gP r).slot=r.2:=rfl;have hr0:=hin.1;have hr2:=hin.2.2.1;rw[er,er2,PL,FB,XT,show((r.1.toNat:Nat):Int)=r.1 by omega,show((r.2.toNat:Nat):Int)=r.2 by omega]at w3
  exact YQ (q:=(a,s)) w3
theorem ES.twin{xs:List NAgent}(h:ES xs):Twin [] xs xs:=by
 have hg:∀i,¬Gone [] i:=fun i e=>by cases e
 have hl1:=h.l1;refine⟨⟨?_,?_,?_⟩,fun i h0 h1 _=>h.wf i h0 h1,fun i e=>absurd e (hg i),fun i e=>absurd e (hg i),(h.rt 0 (Int.le_refl 0) (by omega)).2 rfl,hg 0,h.l1,fun i h0 h1 _ e=> ?_,fun e he=>(by cases he),?_,fun p hp=>(h.wi p hp).2.1⟩
 ·exact⟨rfl,fun _ _ _ _=>rfl⟩
 ·exact h.wi.congr fun p=>⟨fun k=>k.1,fun k=>⟨k,hg _⟩⟩
 ·exact fun p k=>k.2
 ·have:=(h.rt i (by omega) h1).1 e;omega
 ·have:=Ck (kv:=[]) (n:=0) (fun i _=>rfl) xs.length;rw[Nat.zero_add]at this;rw[this];rfl
theorem Sq(bk:List (List NAgent))(k:Nat):nI (bk.map gN) k=gN (bQ bk (k:Nat)):=by
 unfold nI bQ elt;rw[Int.toNat_natCast,List.getD_eq_getElem?_getD,List.getD_eq_getElem?_getD,List.getElem?_map];cases bk[k]? <;>rfl
theorem Sv{bk:List (List NAgent)}(h:mW (bk.map gN)=true):Np bk∧bk.length≤24:=by
 unfold mW at h;rw[Bool.and_eq_true,List.length_map]at h
 have hl:bk.length≤24:=by
  have:=of_decide_eq_true h.1;omega
 have hn:∀v:Int,0≤v→v<(bk.length:Nat)→ES (bQ bk v):=fun v h0 h1=>by
  have:=kV h.2 (k:=v.toNat) (by omega);rw[Sq,show((v.toNat:Nat):Int)=v by omega]at this;exact P6 this
 refine⟨⟨⟨⟨fun v h0 h1=>(hn v h0 h1).wi,fun v h0 h1=> ?_,fun v h0 h1 p hp e=> ?_,fun v h0 h1=>(hn v h0 h1).wf⟩,fun v h0 h1 i i0 i1 e=> ?_⟩,fun v h0 h1=>(hn v h0 h1).l2,by omega⟩,hl⟩
 ·have N:=hn v h0 h1;have hl1:=N.l1;have:=(gu (N.wf 0 (Int.le_refl 0) (by omega))).1;exact⟨Int.le_refl 0,by show(0:Int)<((bQ bk v).length:Nat);omega,Int.le_refl 0,by show(0:Int)<((ah (bQ bk v) 0).2.2.2.2.length:Nat);omega⟩
 ·have N:=hn v h0 h1;have hl1:=N.l1;have w:=N.wf 0 (Int.le_refl 0) (by omega);have hk:=(N.rt 0 (Int.le_refl 0) (by omega)).2 rfl;have hp1:=(vR w).1 (.inl hk);obtain⟨_,_,p3,p4⟩:=hp;rw[e]at p4;have p4':p.2<((ah (bQ bk v) 0).2.2.2.2.length:Nat):=p4;exact Prod.ext e (by show p.2=0;omega)
 ·have:=((hn v h0 h1).rt i (by omega) i1).1 e;omega
abbrev Dx(e:bW):Int:=e.2.2.2.1
abbrev QW(e:bW):Int:=e.2.2.2.2
def Nt:List bW→Int→Int→Int×Int
 |[],_,k=>(-1,k)
 |e::es,i,k=>bif (bif decide (Dx e≤k)then decide (k<Dx e+QW e)else false)then(i,k-Dx e)else Nt es (i+1) k
theorem JO{e:bW}{es:List bW}{i k:Int}(h1:Dx e≤k)(h2:k<Dx e+QW e):Nt (e::es) i k=(i,k-Dx e):=by
 unfold Nt;rw[show decide (Dx e≤k)=true by simpa using h1,show decide (k<Dx e+QW e)=true by simpa using h2];rfl
theorem Aw{e:bW}{es:List bW}{i k:Int}(h:¬(Dx e≤k∧k<Dx e+QW e)):Nt (e::es) i k=Nt es (i+1) k:=by
 conv=>lhs;unfold Nt
 cases h1:decide (Dx e≤k)with
 |false=>rfl
 |true=>
  cases h2:decide (k<Dx e+QW e)with
  |false=>rfl
  |true=>exact absurd ⟨by simpa using h1,by simpa using h2⟩ h
theorem Sl:∀(es:List bW) (i k:Int),(Nt es i k).1= -1∨(Nt es i k).1<i+(es.length:Nat)
 |[],i,k=>.inl rfl
 |e::es,i,k=>by
  by_cases h:Dx e≤k∧k<Dx e+QW e
  ·rw[JO h.1 h.2];right;show i<i+((es.length+1:Nat):Int);omega
  ·rw[Aw h];have:=Sl es (i+1) k;rw[List.length_cons];omega
theorem Lr:∀{es:List bW} {i k:Int},(∀e∈es,¬(Dx e≤k∧k<Dx e+QW e))→Nt es i k=(-1,k)
 |[],_,_,_=>rfl
 |e::es,i,k,h=>by
  rw[Aw (h e (by simp))];exact Lr fun e' he=>h e' (by simp[he])
theorem Ls:∀{p q:List bW} {i k:Int},(∀e∈p,¬(Dx e≤k∧k<Dx e+QW e))→Nt (p++q) i k=Nt q (i+(p.length:Nat)) k
 |[],q,i,k,_=>by rw[List.nil_append];congr 1;simp
 |e::p,q,i,k,h=>by
  rw[List.cons_append,Aw (h e (by simp)),Ls fun e' he=>h e' (by simp[he])]
  congr 1
  rw[List.length_cons];omega
section
variable {bk:List (List NAgent)}
theorem tJ.pre{s s':List Ld}{es:List bW}(h:tJ bk s es s'):s<+:s':=by
 induction h with
 |done s=>exact List.prefix_refl _
 |step _ _ _ _ _ _ _ ih=>exact(List.prefix_append _ _).trans ih
theorem tJ.split{s s':List Ld}:∀{p q:List bW},tJ bk s (p++q) s'→∃t,tJ bk s p t∧tJ bk t q s'
 |[],q,h=>⟨s,.done s,h⟩
 |e::p,q,h=>by
  cases h with
  |step h0 hlt h1 hf hn hw r=>
   obtain⟨t,k1,k2⟩:=tJ.split (p:=p) r;exact⟨t,.step h0 hlt h1 hf hn hw k1,k2⟩
theorem tJ.snoc{s t:List Ld}{p:List bW}{e:bW}(h:tJ bk s p t)(h0:0≤e.1)(hlt:e.1<e.2.1)(h1:e.2.1<((t.length:Nat):Int))(hf:e.2.2.2.1=((t.length:Nat):Int))
  (hn:e.2.2.2.2=(((nwA bk (RY t e.1) (RY t e.2.1)).length:Nat):Int)) (hw:Duo (RY t e.1) (RY t e.2.1)):tJ bk s (p++[e]) (t++nwA bk (RY t e.1) (RY t e.2.1)):=by
 induction h with
 |done s=>exact .step h0 hlt h1 hf hn hw (.done _)
 |step g0 glt g1 gf gn gw _ ih=>exact .step g0 glt g1 gf gn gw (ih h1 hf hn hw)
theorem tJ.rng{s s':List Ld}{es:List bW}(h:tJ bk s es s'):∀e∈es,((s.length:Nat):Int)≤Dx e∧0≤QW e∧Dx e+QW e≤((s'.length:Nat):Int):=by
 induction h with
 |done s=>intro e he;cases he
 |step h0 hlt h1 hf hn hw r ih=>
  intro e' he';have hp:=r.pre.length_le;rw[List.length_append]at hp;rcases List.mem_cons.1 he' with rfl|he'
  ·exact⟨by show _≤e'.2.2.2.1;omega,by show 0≤e'.2.2.2.2;omega,by show e'.2.2.2.1+e'.2.2.2.2≤_;omega⟩
  ·have:=ih e' he';rw[List.length_append]at this;omega
theorem tJ.old{s t s':List Ld}{p q:List bW}(h1:tJ bk s p t)(h2:tJ bk t q s'){k:Int}(hk:k<((t.length:Nat):Int)):(Nt (p++q) 0 k).1<((p.length:Nat):Int):=by
 have hq:∀e∈q,¬(Dx e≤k∧k<Dx e+QW e):=fun e he hh=>by
  have:=h2.rng e he;omega
 have key:∀(p:List bW) (i:Int),Nt (p++q) i k=Nt p i k:=by
  intro p
  induction p with
  |nil=>intro i;rw[List.nil_append,Lr hq];rfl
  |cons e p ih=>
   intro i;rw[List.cons_append]
   by_cases h:Dx e≤k∧k<Dx e+QW e
   ·rw[JO h.1 h.2,JO h.1 h.2]
   ·rw[Aw h,Aw h,ih]
 rw[key];have:=Sl p 0 k;omega
theorem tJ.new{s t:List Ld}{p q:List bW}{e:bW}(h1:tJ bk s p t)(hf:Dx e=((t.length:Nat):Int)){j:Int}(j0:0≤j)(j1:j<QW e):Nt (p++e::q) 0 (Dx e+j)=(((p.length:Nat):Int),j):=by
 rw[Ls fun e' he hh=>by have:=h1.rng e' he;omega,Int.zero_add,JO (by omega) (by omega)]
 congr 1
 omega
end
section
variable {bk:List (List NAgent)}{s0 sa sb:List Ld}{a b:List bW}
end
end Go.Tr
namespace Go.Tr
open Go Go.RowKit
def nP(f:Int→Int)(p:aJ):aJ:=(f p.1,p.2)
def sZ(f:Int→Int)(a:NAgent):NAgent:=(a.1,a.2.1,a.2.2.1,a.2.2.2.1,a.2.2.2.2.map (nP f))
def cB(ys:List NAgent)(i:Nat):Bool:=(ah ys (i:Nat)).1 !=0
def gG(ys:List NAgent):Nat→Nat
 |0=>0
 |k+1=>bif cB ys k then gG ys k+1 else gG ys k
def lF(ys:List NAgent)(x:Int):Int:=((gG ys x.toNat:Nat):Int)
def dZ(ys:List NAgent):Nat→List NAgent
 |0=>[]
 |k+1=>bif cB ys k then dZ ys k++[sZ (lF ys) (ah ys (k:Nat))]else dZ ys k
def packN(ys:List NAgent):List NAgent:=dZ ys ys.length
def fq(kv:List (Int×Bool)):Nat→List Int
 |0=>[]
 |k+1=>bif !(bL false kv ((k:Nat):Int))then fq kv k++[((k:Nat):Int)]else fq kv k
def OL(ord:List Int):Nat→List (Int×Int)
 |0=>[]
 |i+1=>gT (OL ord i) (elt 0 ord ((i:Nat):Int)) ((i:Nat):Int)
def QD(ord:List Int)(x:Int):Int:=bL 0 (OL ord ord.length) x
def uj(xs:List NAgent)(ord:List Int):Nat→List NAgent
 |0=>[]
 |i+1=>uj xs ord i++[sZ (QD ord) (ah xs (elt 0 ord ((i:Nat):Int)))]
theorem Q8{α:Type}(d:α)(kv:List (Int×α))(i j:Int)(x:α):bL d (gT kv i x) j=if i=j then x else bL d kv j:=by
 induction kv with
 |nil=>
  unfold gT bL
  by_cases h:i=j
  ·rw[if_pos h,show(i==j)=true by simpa using h];rfl
  ·rw[if_neg h,show(i==j)=false by simpa using h];rfl
 |cons e kv ih=>
  obtain⟨k,v⟩:=e;unfold gT
  by_cases h:k=i
  ·rw[show(k==i)=true by simpa using h,cond_true];unfold bL;subst h
   by_cases h2:k=j
   ·rw[if_pos h2,show(k==j)=true by simpa using h2];rfl
   ·rw[if_neg h2,show(k==j)=false by simpa using h2];rfl
  ·rw[show(k==i)=false by simpa using h,cond_false]
   conv=>lhs;unfold bL
   conv=>rhs;unfold bL
   by_cases h2:k=j
   ·rw[show(k==j)=true by simpa using h2,cond_true,cond_true,if_neg (by omega)]
   ·rw[show(k==j)=false by simpa using h2,cond_false,cond_false,ih]
theorem Gm(xs:List NAgent)(ord:List Int):∀i:Nat,i≤ord.length→uj xs ord i=(ord.take i).map fun k=>sZ (QD ord) (ah xs k)
 |0,_=>by rw[List.take_zero];rfl
 |i+1,h=>by
  unfold uj;rw[Gm xs ord i (by omega),List.take_add_one,List.map_append,List.getElem?_eq_getElem (by omega)];unfold elt;rw[Int.toNat_natCast,List.getD_eq_getElem?_getD,List.getElem?_eq_getElem (by omega)];rfl
def jD(f:Int→Int)(ps:List aJ)(j:Nat):List aJ:=(ps.take j).map (nP f)++ps.drop j
theorem y9(f:Int→Int)(ps:List aJ)(j:Nat):(jD f ps j).length=ps.length:=by unfold jD;simp;omega
theorem Gs{f:Int→Int}{ps:List aJ}{j:Nat}(h:j<ps.length):elt (dflt uPort) (jD f ps j) (j:Nat)=elt (dflt uPort) ps (j:Nat):=by
 unfold elt jD;rw[Int.toNat_natCast,List.getD_eq_getElem?_getD,List.getD_eq_getElem?_getD,List.getElem?_append_right (by simp;omega)];simp;rw[show j-min j ps.length=0 by omega,Nat.add_zero]
theorem Gt{f:Int→Int}{ps:List aJ}{j:Nat}(h:j<ps.length):jD f ps (j+1)=(jD f ps j).set j (f (elt (dflt uPort) ps (j:Nat)).1,(elt (dflt uPort) ps (j:Nat)).2):=by
 have he:elt (dflt uPort) ps (j:Nat)=ps[j]:=by
  unfold elt;rw[Int.toNat_natCast,List.getD_eq_getElem?_getD,List.getElem?_eq_getElem h];rfl
 unfold jD;rw[List.set_append_right _ _ (by simp;omega),List.take_add_one,List.getElem?_eq_getElem h,List.map_append,he];have e:j-((ps.take j).map (nP f)).length=0:=by simp;omega
 rw[e,List.drop_eq_getElem_cons h,List.set_cons_zero];simp[nP]
theorem Jp(f:Int→Int)(ps:List aJ):jD f ps ps.length=ps.map (nP f):=by unfold jD;simp
section
variable {kv:List (Int×Bool)}{xs ys:List NAgent}
theorem Pj(ys:List NAgent):∀k:Nat,gG ys k≤k
 |0=>Nat.le_refl 0
 |k+1=>by unfold gG;have:=Pj ys k;cases cB ys k<;>simp<;>omega
theorem Twin.cB(h:Twin kv xs ys){k:Nat}(hk:k<xs.length):cB ys k= !(bL false kv ((k:Nat):Int)):=by
 unfold Tr.cB;cases hg:bL false kv ((k:Nat):Int)with
 |true=>
  rw[(h.hole _ hg).2];rfl
 |false=>
  have hd:¬Gone kv ((k:Nat):Int):=fun e=>by
   have e':bL false kv ((k:Nat):Int)=true:=e;rw[hg]at e';cases e'
  rw[h.at_ (by omega) (by omega) hd];have:=K9 (h.wf (k:Nat) (by omega) (by omega) hd);simp;omega
theorem Twin.ord(h:Twin kv xs ys):∀n:Nat,n≤xs.length→(fq kv n).length=gG ys n∧(∀j:Nat,j<(fq kv n).length→∃x:Nat,x<n∧(fq kv n)[j]? =some ((x:Nat):Int)∧gG ys x=j∧bL false kv ((x:Nat):Int)=false)∧
  (∀x:Nat,x<n→bL false kv ((x:Nat):Int)=false→(fq kv n)[gG ys x]? =some ((x:Nat):Int))
 |0,_=>⟨rfl,fun j hj=>absurd hj (Nat.not_lt_zero _),fun x hx=>absurd hx (Nat.not_lt_zero _)⟩
 |n+1,hn=>by
  obtain⟨h1,h2,h3⟩:=h.ord n (by omega);have hl:=h.cB (k:=n) (by omega);have eo:fq kv (n+1)=bif !(bL false kv ((n:Nat):Int))then fq kv n++[((n:Nat):Int)]else fq kv n:=rfl
  have ec:gG ys (n+1)=bif Tr.cB ys n then gG ys n+1 else gG ys n:=rfl
  rw[eo,ec,hl];cases hg:bL false kv ((n:Nat):Int)with
  |true=>
   simp only[Bool.not_true,cond_false];refine⟨h1,fun j hj=> ?_,fun x hx hx2=> ?_⟩
   ·obtain⟨x,k1,k2,k3,k4⟩:=h2 j hj;exact⟨x,by omega,k2,k3,k4⟩
   ·refine h3 x ?_ hx2
    by_cases e:x=n
    ·rw[e,hg]at hx2;cases hx2
    ·omega
  |false=>
   simp only[Bool.not_false,cond_true];refine⟨by rw[List.length_append,h1];rfl,fun j hj=> ?_,fun x hx hx2=> ?_⟩
   ·rw[List.length_append,List.length_singleton]at hj
    by_cases hj2:j<(fq kv n).length
    ·obtain⟨x,k1,k2,k3,k4⟩:=h2 j hj2;exact⟨x,by omega,by rw[List.getElem?_append_left hj2];exact k2,k3,k4⟩
    ·have hj3:j=(fq kv n).length:=by omega
     exact⟨n,by omega,by rw[hj3,List.getElem?_append_right (Nat.le_refl _),Nat.sub_self];rfl,by rw[hj3,h1],hg⟩
   ·by_cases e:x=n
    ·subst e;rw[←h1,List.getElem?_append_right (Nat.le_refl _),Nat.sub_self];rfl
    ·have k:=h3 x (by omega) hx2;have:=(List.getElem?_eq_some_iff.1 k).1;rw[List.getElem?_append_left this];exact k
theorem Twin.Yr(h:Twin kv xs ys):∀i:Nat,i≤(fq kv xs.length).length→∀j:Nat,j<i→bL 0 (OL (fq kv xs.length) i) (elt 0 (fq kv xs.length) ((j:Nat):Int))=((j:Nat):Int)
 |0,_,j,hj=>by omega
 |i+1,hi,j,hj=>by
  obtain⟨h1,h2,h3⟩:=h.ord xs.length (Nat.le_refl _);unfold OL;rw[Q8]
  by_cases e:j=i
  ·subst e;rw[if_pos rfl]
  ·rw[if_neg fun k=>e ?_]
   ·exact h.Yr i (by omega) j (by omega)
   ·obtain⟨x,k1,k2,k3,_⟩:=h2 i (by omega);obtain⟨y,l1,l2,l3,_⟩:=h2 j (by omega);unfold elt at k;rw[Int.toNat_natCast,Int.toNat_natCast,List.getD_eq_getElem?_getD,List.getD_eq_getElem?_getD,k2,l2]at k;have k':((x:Nat):Int)=((y:Nat):Int):=k;have:x=y:=by omega
    rw[←k3,←l3,this]
theorem Twin.QD(h:Twin kv xs ys){x:Int}(h0:0≤x)(h1:x<(xs.length:Nat))(hd:¬Gone kv x):QD (fq kv xs.length) x=lF ys x:=by
 obtain⟨k1,k2,k3⟩:=h.ord xs.length (Nat.le_refl _)
 have hg:bL false kv ((x.toNat:Nat):Int)=false:=by
  rw[show((x.toNat:Nat):Int)=x by omega];cases hq:bL false kv x with
  |true=>exact absurd hq hd
  |false=>rfl
 have k4:=k3 x.toNat (by omega) hg;have k5:=(List.getElem?_eq_some_iff.1 k4).1;have k6:=h.Yr (fq kv xs.length).length (Nat.le_refl _) (gG ys x.toNat) k5
 have e:elt 0 (fq kv xs.length) ((gG ys x.toNat:Nat):Int)=x:=by
  unfold elt;rw[Int.toNat_natCast,List.getD_eq_getElem?_getD,k4];show((x.toNat:Nat):Int)=x;omega
 rw[e]at k6;exact k6
theorem Twin.dZ(h:Twin kv xs ys):∀n:Nat,n≤xs.length→dZ ys n=(fq kv n).map fun k=>sZ (lF ys) (ah ys k)
 |0,_=>rfl
 |n+1,hn=>by
  unfold Tr.dZ fq;rw[h.cB (k:=n) (by omega),h.dZ n (by omega)];cases bL false kv ((n:Nat):Int)
  ·simp
  ·simp
theorem Twin.pack(h:Twin kv xs ys):uj xs (fq kv xs.length) (fq kv xs.length).length=packN ys:=by
 rw[Gm _ _ _ (Nat.le_refl _),List.take_length];unfold packN;rw[←h.len,h.dZ _ (Nat.le_refl _)];refine List.map_congr_left fun k hk=> ?_
 obtain⟨j,hj,rfl⟩:=List.mem_iff_getElem.1 hk;obtain⟨x,k1,k2,k3,k4⟩:=(h.ord xs.length (Nat.le_refl _)).2.1 j hj;rw[List.getElem?_eq_getElem hj]at k2;injection k2 with k2
 rw[k2]
 have hd:¬Gone kv ((x:Nat):Int):=fun e=>by
  have e':bL false kv ((x:Nat):Int)=true:=e;rw[k4]at e';cases e'
 rw[h.at_ (by omega) (by omega) hd];unfold sZ
 congr 4
 refine List.map_congr_left fun p hp=> ?_
 obtain⟨i,hi,rfl⟩:=List.mem_iff_getElem.1 hp;have hw:=h.st.wi (((x:Nat):Int),((i:Nat):Int)) ⟨⟨by show(0:Int)≤(x:Nat);omega,by show((x:Nat):Int)<(xs.length:Nat);omega,by show(0:Int)≤(i:Nat);omega,by show((i:Nat):Int)<((ah xs (x:Nat)).2.2.2.2.length:Nat);omega⟩,hd⟩
 have hpe:aF xs (((x:Nat):Int),((i:Nat):Int))=(ah xs (x:Nat)).2.2.2.2[i]:=by
  unfold aF elt;rw[Int.toNat_natCast,List.getD_eq_getElem?_getD,List.getElem?_eq_getElem hi];rfl
 rw[hpe]at hw;obtain⟨_,⟨q1,q2⟩,_⟩:=hw;unfold nP;rw[h.QD q1.1 q1.2.1 q2]
end
end Go.Tr
