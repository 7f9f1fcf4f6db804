
/- Nets as data: agents, ports, wires. No program in it. -/
import Derived.Test.YtjijpkphkicoeaaGreatShort
import Derived.Test.YtjijpkphkicoeaaGreatVV
import Derived.Test.YtjijpkphkicoeaaGreatValid
set_option linter.unusedSimpArgs false
set_option linter.unusedVariables false
set_option linter.unusedSectionVars false
namespace Go.Tr
open Go Go.RowKit
abbrev uPort:U:=.pair (.int .i64) (.int .i64)
abbrev uAgent:U:=.pair (.int .i64) (.pair (.int .i64) (.pair (.int .i64) (.pair (.sl (.int .i64)) (.sl uPort))))
abbrev uNet:U:=.sl uAgent
abbrev NPort:=Int×Int
abbrev NAgent:=Int×Int×Int×List Int×List NPort
def agAt(xs:List NAgent)(i:Int):NAgent:=elt (dflt uAgent) xs i
abbrev NAgent.kind(a:NAgent):Int:=a.1
abbrev NAgent.level(a:NAgent):Int:=a.2.1
abbrev NAgent.value(a:NAgent):Int:=a.2.2.1
abbrev NAgent.data(a:NAgent):List Int:=a.2.2.2.1
abbrev NAgent.ports(a:NAgent):List NPort:=a.2.2.2.2
def peerN(xs:List NAgent)(p:NPort):NPort:=elt (dflt uPort) (agAt xs p.1).ports p.2
def ay(xs:List NAgent)(p q:NPort):List NAgent:=xs.set p.1.toNat ((agAt xs p.1).1,(agAt xs p.1).2.1,(agAt xs p.1).2.2.1,(agAt xs p.1).2.2.2.1,(agAt xs p.1).2.2.2.2.set p.2.toNat q)
def aR(xs:List NAgent)(p q:NPort):List NAgent:=ay (ay xs p q) q p
def PortIn(xs:List NAgent)(p:NPort):Prop:=0≤p.1∧p.1<(xs.length:Nat)∧0≤p.2∧p.2<((agAt xs p.1).ports.length:Nat)
abbrev vP(p:NPort):SV:=.agg [.int .i64 p.1,.int .i64 p.2]
theorem bB(xs:List NAgent)(p q:NPort):(ay xs p q).length=xs.length:=by unfold ay;simp
theorem jo{xs:List NAgent}{k:Nat}{y:NAgent}{i:Int}:agAt (xs.set k y) i=if k=i.toNat∧k<xs.length then y else agAt xs i:=by
 unfold agAt elt;rw[List.getD_eq_getElem?_getD,List.getD_eq_getElem?_getD,List.getElem?_set]
 by_cases h:k=i.toNat
 ·subst h
  by_cases h2:i.toNat<xs.length
  ·simp[h2]
  ·simp[h2]
 ·simp[h]
theorem bZ(xs:List NAgent)(p q:NPort)(i:Int):agAt (ay xs p q) i=if p.1.toNat=i.toNat∧p.1.toNat<xs.length then((agAt xs p.1).1,(agAt xs p.1).2.1,(agAt xs p.1).2.2.1,(agAt xs p.1).2.2.2.1,(agAt xs p.1).2.2.2.2.set p.2.toNat q)else agAt xs i:=jo
theorem vg{xs:List NAgent}{i j:Int}(h:i.toNat=j.toNat):agAt xs i=agAt xs j:=by unfold agAt elt;rw[h]
theorem kV(xs:List NAgent)(p q:NPort)(i:Int):(agAt (ay xs p q) i).ports.length=(agAt xs i).ports.length:=by
 rw[bZ];split
 ·rename_i h;rw[vg h.1.symm];simp[NAgent.ports]
 ·rfl
theorem PortIn.set{xs:List NAgent}{p q r:NPort}(h:PortIn xs r):PortIn (ay xs p q) r:=by
 unfold PortIn at h ⊢;rw[bB,kV];exact h
theorem PortIn.link{xs:List NAgent}{p q r:NPort}(h:PortIn xs r):PortIn (aR xs p q) r:=h.set.set
theorem gD(xs:List NAgent)(p q:NPort):(aR xs p q).length=xs.length:=by unfold aR;rw[bB,bB]
theorem oG{us:List Value}{n:Nat}(hl:us.length=n*5){i:Int}(h0:0≤i)(h1:i<(n:Nat)):i.toNat*5+5≤us.length:=by omega
theorem nU{us:List Value}{n:Nat}(hl:us.length=n*5){i:Int}(h0:0≤i)(h1:i<(n:Nat)){o:Nat}(ho:o<5):us[i.toNat*5+o]? =some (us.getD (i.toNat*5+o) undef):=by
 rw[List.getD_eq_getElem?_getD,List.getElem?_eq_getElem (by omega)];rfl
def bH(xs:List NAgent)(old now:NPort):List NAgent:=aR xs (peerN xs old) now
def aB(xs:List NAgent)(x y:NPort):List NAgent:=bif (peerN xs x).1==y.1&&(peerN xs x).2==y.2 then xs else aR xs (peerN xs x) (peerN xs y)
def aJ(kind level value:Int)(data:List Int)(n:Nat):NAgent:=(kind,level,value,data,List.replicate n (0,0))
def jy(kv:List (Int×Bool))(ks:List Int):List (Int×Bool):=ks.foldl (fun kv k=>kvSet kv k true) kv
theorem Lb(kv:List (Int×Bool)){ks:List Int}{i:Nat}(h:i<ks.length):kvSet (jy kv (ks.take i)) (ks.getD i 0) true=jy kv (ks.take (i+1)):=by
 unfold jy;rw[List.take_add_one,List.foldl_append,List.getD_eq_getElem?_getD,List.getElem?_eq_getElem h];rfl
theorem wrapS{k:Nat}(h:k<1000000000):IntKind.i64.wrap ((k:Int)+1)=((k+1:Nat):Int):=Lr (by omega)
def NetSmall(xs:List NAgent):Prop:=xs.length≤1048576∧∀i:Nat,(agAt xs i).data.length≤1048576∧(agAt xs i).ports.length≤1048576
def mg(c:Int)(x y:NAgent):Bool:=bif (bif c==6 then y.kind==10 else false)then decide ((y.data.length:Int)≤x.value)else false
def aH(x y:NAgent):Int×Bool:=
 bif aG x.kind x.level y.kind y.level==2 then(bif mg (aC x.kind x.level y.kind y.level) y x then(8,false)else(aC x.kind x.level y.kind y.level,aG x.kind x.level y.kind y.level==2))
 else(bif mg (aC x.kind x.level y.kind y.level) x y then(8,false)else(aC x.kind x.level y.kind y.level,aG x.kind x.level y.kind y.level==2))
theorem G5{x y:NAgent}(h1:(aG x.kind x.level y.kind y.level==2)=true)(h2:mg (aC x.kind x.level y.kind y.level) y x=true):aH x y=(8,false):=by unfold aH;rw[h1,h2];rfl
theorem GZ{x y:NAgent}(h1:(aG x.kind x.level y.kind y.level==2)=true)(h2:mg (aC x.kind x.level y.kind y.level) y x=false):aH x y=(aC x.kind x.level y.kind y.level,aG x.kind x.level y.kind y.level==2):=by unfold aH;rw[h1,h2];rfl
theorem GY{x y:NAgent}(h1:(aG x.kind x.level y.kind y.level==2)=false)(h2:mg (aC x.kind x.level y.kind y.level) x y=true):aH x y=(8,false):=by unfold aH;rw[h1,h2];rfl
theorem GX{x y:NAgent}(h1:(aG x.kind x.level y.kind y.level==2)=false)(h2:mg (aC x.kind x.level y.kind y.level) x y=false):aH x y=(aC x.kind x.level y.kind y.level,aG x.kind x.level y.kind y.level==2):=by unfold aH;rw[h1,h2];rfl
def iE(p lo hi d:Int):Int×Int:=bif (bif decide (p<lo)then true else decide (hi<p))then(0,2)else(IntKind.i64.wrap (p+d),0)
def bK(c p:Int):Int×Int:=
 bif c==1 then iE p 0 0 (-2)else bif c==2 then iE p 0 0 (-2)else bif c==3 then iE p 0 3 0 else bif c==4 then iE p 0 3 (-2)
 else bif c==5 then iE p 0 0 (-1)else bif c==6 then iE p 0 3 (-1)else bif c==7 then iE p 2 600 (-2)else(0,2)
def fQ(by_:Int)(x:NAgent):NAgent:=bif aU x.kind then(x.1,x.2.1+by_,x.2.2)else x
def dD(by_:Int)(xs:List NAgent):Bool:=xs.all fun x=> !(aU x.kind)||decide (x.level+by_≤8)
def aZ(by_:Int)(xs:List NAgent):List NAgent:=xs.map (fQ by_)
def kC(x:Int):Int:=IntKind.i64.wrap (IntKind.i32.wrap x)
def r9(o a b:Int):Int:=
 bif o==1 then kC (IntKind.i64.wrap (kC a+kC b))else bif o==2 then kC (IntKind.i64.wrap (kC a-kC b))else bif o==3 then kC (IntKind.i64.wrap (kC a*kC b))
 else bif o==4 then(bif kC b==0 then 0 else kC (IntKind.i64.wrap ((kC a).tdiv (kC b))))else bif o==5 then(bif decide (kC a<kC b)then 1 else 0)else bif o==6 then(bif kC a==kC b then 1 else 0)else 0
theorem Lm(x:Int):IntKind.i64.wrap (IntKind.i32.wrap (IntKind.u32.wrap (IntKind.u64.wrap x)))=kC x:=by
 unfold kC;simp only[IntKind.wrap,IntKind.bits,IntKind.signed];simp
def AllIn(xs:List NAgent):Prop:=∀p,PortIn xs p→PortIn xs (peerN xs p)
theorem Jk{α:Type}{d:α}{xs:List α}{i j:Int}(h:i.toNat=j.toNat):elt d xs i=elt d xs j:=by unfold elt;rw[h]
theorem Pv{α:Type}{d:α}{xs:List α}{k:Nat}{y:α}{i:Int}:elt d (xs.set k y) i=if k=i.toNat∧k<xs.length then y else elt d xs i:=by
 unfold elt;rw[List.getD_eq_getElem?_getD,List.getD_eq_getElem?_getD,List.getElem?_set]
 by_cases h:k=i.toNat
 ·subst h
  by_cases h2:i.toNat<xs.length<;>simp[h2]
 ·simp[h]
theorem Pt{α:Type}{d:α}{xs ys:List α}{i:Int}(h:i.toNat<xs.length):elt d (xs++ys) i=elt d xs i:=by
 unfold elt;rw[List.getD_eq_getElem?_getD,List.getD_eq_getElem?_getD,List.getElem?_append_left h]
theorem Mh{α:Type}{d y:α}{xs:List α}{i:Int}(h:i.toNat=xs.length):elt d (xs++[y]) i=y:=by
 unfold elt;rw[h,List.getD_eq_getElem?_getD];simp
theorem bE{xs ys:List NAgent}{i:Int}(h:i.toNat<xs.length):agAt (xs++ys) i=agAt xs i:=Pt h
theorem mI{y:NAgent}{xs:List NAgent}{i:Int}(h:i.toNat=xs.length):agAt (xs++[y]) i=y:=Mh h
theorem PortIn.app{xs ys:List NAgent}{p:NPort}(h:PortIn xs p):PortIn (xs++ys) p:=by
 obtain⟨h1,h2,h3,h4⟩:=h;refine⟨h1,by rw[List.length_append];omega,h3,?_⟩;rw[bE (by omega)];exact h4
theorem PortIn.new{k l v:Int}{d:List Int}{n:Nat}{xs:List NAgent}{s:Int}(h0:0≤s)(h1:s<(n:Nat)):PortIn (xs++[aJ k l v d n]) ((xs.length:Nat),s):=by
 refine⟨by omega,by rw[List.length_append,List.length_singleton];show((xs.length:Nat):Int)<_;omega,h0,?_⟩;rw[mI (by simp)];simpa[aJ,NAgent.ports]using h1
theorem kP{xs ys:List NAgent}{p:NPort}(h:p.1.toNat<xs.length):peerN (xs++ys) p=peerN xs p:=by unfold peerN;rw[bE h]
theorem Cz{xs:List NAgent}{p q r:NPort}(hp:PortIn xs p)(hr:PortIn xs r):peerN (ay xs p q) r=if p=r then q else peerN xs r:=by
 obtain⟨p1,p2,p3,p4⟩:=hp;obtain⟨r1,r2,r3,r4⟩:=hr;unfold peerN;rw[bZ]
 by_cases h:p.1.toNat=r.1.toNat
 ·have e:p.1=r.1:=by omega
  rw[if_pos ⟨h,by omega⟩];show elt (dflt uPort) ((agAt xs p.1).2.2.2.2.set p.2.toNat q) r.2=_;rw[Pv]
  by_cases h2:p.2.toNat=r.2.toNat
  ·have e2:p.2=r.2:=by omega
   rw[if_pos ⟨h2,by simp only[NAgent.ports]at p4;omega⟩,if_pos (Prod.ext e e2)]
  ·rw[if_neg (fun hh=>h2 hh.1),if_neg (fun hh=>h2 (by rw[hh])),e]
 ·rw[if_neg (fun hh=>h hh.1),if_neg (fun hh=>h (by rw[hh]))]
theorem gV{xs:List NAgent}{p q r:NPort}(hp:PortIn xs p)(hq:PortIn xs q)(hr:PortIn xs r):peerN (aR xs p q) r=if q=r then p else if p=r then q else peerN xs r:=by
 unfold aR;rw[Cz hq.set hr.set,Cz hp hr]
theorem PortIn.unset{xs:List NAgent}{p q r:NPort}(h:PortIn (ay xs p q) r):PortIn xs r:=by
 unfold PortIn at h ⊢
 rwa[bB,kV]at h
theorem PortIn.unlink{xs:List NAgent}{p q r:NPort}(h:PortIn (aR xs p q) r):PortIn xs r:=h.unset.unset
theorem AllIn.link{xs:List NAgent}{p q:NPort}(h:AllIn xs)(hp:PortIn xs p)(hq:PortIn xs q):AllIn (aR xs p q):=fun r hr=>by
 have hr':=hr.unlink;rw[gV hp hq hr'];split
 ·exact hp.link
 ·split
  ·exact hq.link
  ·exact(h r hr').link
theorem AllIn.move{xs:List NAgent}{p q:NPort}(h:AllIn xs)(hp:PortIn xs p)(hq:PortIn xs q):AllIn (bH xs p q):=h.link (h p hp) hq
theorem PortIn.move{xs:List NAgent}{p q r:NPort}(h:PortIn xs r):PortIn (bH xs p q) r:=h.link
theorem PortIn.join{xs:List NAgent}{p q r:NPort}(h:PortIn xs r):PortIn (aB xs p q) r:=by
 unfold aB;cases ((peerN xs p).1==q.1&&(peerN xs p).2==q.2)with
 |true=>exact h
 |false=>exact h.link
theorem AllIn.join{xs:List NAgent}{p q:NPort}(h:AllIn xs)(hp:PortIn xs p)(hq:PortIn xs q):AllIn (aB xs p q):=by
 unfold aB;cases ((peerN xs p).1==q.1&&(peerN xs p).2==q.2)with
 |true=>exact h
 |false=>exact h.link (h p hp) (h q hq)
theorem AllIn.add{xs:List NAgent}(h:AllIn xs)(h0:PortIn xs (0,0))(k l v:Int)(d:List Int)(n:Nat):AllIn (xs++[aJ k l v d n]):=fun r hr=>by
 by_cases hlt:r.1.toNat<xs.length
 ·rw[kP hlt];obtain⟨r1,r2,r3,r4⟩:=hr;rw[bE hlt]at r4;exact(h r ⟨r1,by omega,r3,r4⟩).app
 ·obtain⟨r1,r2,r3,r4⟩:=hr;rw[List.length_append,List.length_singleton]at r2;have e:r.1.toNat=xs.length:=by omega
  have hp:peerN (xs++[aJ k l v d n]) r=(0,0):=by
   unfold peerN;rw[mI e]at r4 ⊢;simp only[aJ,NAgent.ports,List.length_replicate]at r4;unfold elt;rw[List.getD_eq_getElem?_getD];simp only[aJ,NAgent.ports];rw[List.getElem?_replicate];split<;>rfl
  rw[hp];exact h0.app
theorem gG(xs:List NAgent)(p q:NPort):(bH xs p q).length=xs.length:=gD _ _ _
theorem jN(xs:List NAgent)(p q:NPort):(aB xs p q).length=xs.length:=by
 unfold aB;cases ((peerN xs p).1==q.1&&(peerN xs p).2==q.2)<;>simp[gD]
theorem jA{xs:List NAgent}{p q a b:NPort}(hp:PortIn xs p)(hq:PortIn xs q)(hn:p≠q):ay (ay xs p a) q b=ay (ay xs q b) p a:=by
 obtain⟨p1,p2,p3,p4⟩:=hp;obtain⟨q1,q2,q3,q4⟩:=hq
 by_cases h:p.1.toNat=q.1.toNat
 ·have e:p.1=q.1:=by omega
  have h2:p.2.toNat≠q.2.toNat:=fun h2=>hn (Prod.ext e (by omega))
  have k1:agAt (ay xs p a) q.1=((agAt xs p.1).1,(agAt xs p.1).2.1,(agAt xs p.1).2.2.1,(agAt xs p.1).2.2.2.1,(agAt xs p.1).2.2.2.2.set p.2.toNat a):=by
   rw[bZ,if_pos ⟨h,by omega⟩]
  have k2:agAt (ay xs q b) p.1=((agAt xs q.1).1,(agAt xs q.1).2.1,(agAt xs q.1).2.2.1,(agAt xs q.1).2.2.2.1,(agAt xs q.1).2.2.2.2.set q.2.toNat b):=by
   rw[bZ,if_pos ⟨h.symm,by omega⟩]
  rw[show ay (ay xs p a) q b=(ay xs p a).set q.1.toNat ((agAt (ay xs p a) q.1).1,(agAt (ay xs p a) q.1).2.1,(agAt (ay xs p a) q.1).2.2.1,(agAt (ay xs p a) q.1).2.2.2.1,(agAt (ay xs p a) q.1).2.2.2.2.set q.2.toNat b) from rfl,show ay (ay xs q b) p a=(ay xs q b).set p.1.toNat ((agAt (ay xs q b) p.1).1,(agAt (ay xs q b) p.1).2.1,(agAt (ay xs q b) p.1).2.2.1,(agAt (ay xs q b) p.1).2.2.2.1,(agAt (ay xs q b) p.1).2.2.2.2.set p.2.toNat a) from rfl,k1,k2];unfold ay;rw[h,List.set_set,List.set_set,e]
  simp only[];rw[List.set_comm _ _ h2]
 ·have k1:agAt (ay xs p a) q.1=agAt xs q.1:=by rw[bZ,if_neg fun hh=>h hh.1]
  have k2:agAt (ay xs q b) p.1=agAt xs p.1:=by rw[bZ,if_neg fun hh=>h hh.1.symm]
  rw[show ay (ay xs p a) q b=(ay xs p a).set q.1.toNat ((agAt (ay xs p a) q.1).1,(agAt (ay xs p a) q.1).2.1,(agAt (ay xs p a) q.1).2.2.1,(agAt (ay xs p a) q.1).2.2.2.1,(agAt (ay xs p a) q.1).2.2.2.2.set q.2.toNat b) from rfl,show ay (ay xs q b) p a=(ay xs q b).set p.1.toNat ((agAt (ay xs q b) p.1).1,(agAt (ay xs q b) p.1).2.1,(agAt (ay xs q b) p.1).2.2.1,(agAt (ay xs q b) p.1).2.2.2.1,(agAt (ay xs q b) p.1).2.2.2.2.set p.2.toNat a) from rfl,k1,k2];unfold ay;rw[List.set_comm _ _ h]
theorem qz{xs:List NAgent}{p q:NPort}(hp:PortIn xs p)(hq:PortIn xs q):aR xs p q=aR xs q p:=by
 by_cases h:p=q
 ·rw[h]
 ·unfold aR;exact jA hp hq h
def gu(d:List Int)(i:Int):Int:=elt (dflt (.int .i64)) d i
def aN(xs:List NAgent)(x y:Int):List NAgent:=
 bif (agAt xs y).1==7 then bH (bH (xs++[aJ 8 (agAt xs y).2.1 (agAt xs y).2.2.1 [(agAt xs x).2.2.1] 2]) (y,1) ((xs.length:Nat),0)) (y,2) ((xs.length:Nat),1)
 else bH (xs++[aJ 6 0 (r9 (agAt xs y).2.2.1 (gu (agAt xs y).2.2.2.1 0) (agAt xs x).2.2.1) [] 1]) (y,1) ((xs.length:Nat),0)
def yj:NAgent:=(0,0,0,[],[])
def aK(xs:List NAgent)(a:Int):List NAgent:=xs.set a.toNat yj
def kH(x c d:Int)(xs:List NAgent)(i:Nat):List NAgent:=aR (aR (xs++[aJ 4 (agAt xs x).2.1 0 [] 3]) ((xs.length:Nat),1) (c,(i:Nat))) ((xs.length:Nat),2) (d,(i:Nat))
def bJ(x c d:Int)(xs:List NAgent):Nat→List NAgent
 |0=>xs
 |k+1=>kH x c d (bJ x c d xs k) (k+1)
def bC(y:Int)(b:Nat)(xs:List NAgent):Nat→List NAgent
 |0=>xs
 |k+1=>bH (bC y b xs k) (y,((k:Nat):Int)+1) (((b+k:Nat):Int),0)
def jS(xs:List NAgent)(y:Int):NAgent:=aJ (agAt xs y).1 (agAt xs y).2.1 (agAt xs y).2.2.1 (agAt xs y).2.2.2.1 (agAt xs y).2.2.2.2.length
def dup2(xs:List NAgent)(y:Int):List NAgent:=xs++[jS xs y]++[jS xs y]
def dup3(xs:List NAgent)(x y:Int):List NAgent:=bJ x ((xs.length:Nat)) ((xs.length+1:Nat)) (dup2 xs y) ((agAt xs y).2.2.2.2.length-1)
def iZ(xs:List NAgent)(x y:Int):List NAgent:=bH (bH (dup3 xs x y) (x,1) ((xs.length:Nat),0)) (x,2) ((xs.length+1:Nat),0)
def aO(xs:List NAgent)(x y:Int):List NAgent:=bC y (xs.length+2) (iZ xs x y) ((agAt xs y).2.2.2.2.length-1)
def gy(b k:Nat):List Int:=(List.range k).map fun j=>((b+j:Nat):Int)
theorem zu(b k:Nat):gy b (k+1)=gy b k++[((b+k:Nat):Int)]:=by simp[gy,List.range_succ]
theorem jL(b k:Nat):(gy b k).length=k:=by simp[gy]
theorem BS{b k m:Nat}(h:k<m):elt (0:Int) (gy b m) (k:Nat)=((b+k:Nat):Int):=by
 unfold elt gy;rw[Int.toNat_natCast,List.getD_eq_getElem?_getD,List.getElem?_map,List.getElem?_range h];rfl
theorem Hf(x c d:Int)(xs:List NAgent)(i:Nat):(kH x c d xs i).length=xs.length+1:=by unfold kH;rw[gD,gD,List.length_append];rfl
theorem fM(x c d:Int)(xs:List NAgent):∀k,(bJ x c d xs k).length=xs.length+k
 |0=>rfl
 |k+1=>by unfold bJ;rw[Hf,fM x c d xs k];omega
theorem BN{x c d:Int}{xs:List NAgent}{i:Nat}{p:NPort}(h:PortIn xs p):PortIn (kH x c d xs i) p:=h.app.link.link
theorem aY{x c d:Int}{xs:List NAgent}{p:NPort}(h:PortIn xs p):∀k,PortIn (bJ x c d xs k) p
 |0=>h
 |k+1=>BN (aY h k)
theorem He{x c d:Int}{xs:List NAgent}{i:Nat}(h:AllIn xs)(h0:PortIn xs (0,0))(hc:PortIn xs (c,(i:Nat)))(hd:PortIn xs (d,(i:Nat))):AllIn (kH x c d xs i):=
 ((h.add h0 4 (agAt xs x).2.1 0 [] 3).link (PortIn.new (by decide) (by decide)) hc.app).link (PortIn.link (PortIn.new (by decide) (by decide))) hd.app.link
theorem jK{x c d:Int}{xs:List NAgent}(h:AllIn xs)(h0:PortIn xs (0,0)):∀k,(∀i:Nat,i≤k→PortIn xs (c,(i:Nat))∧PortIn xs (d,(i:Nat)))→AllIn (bJ x c d xs k)
 |0,_=>h
 |k+1,hk=>He (jK h h0 k fun i hi=>hk i (by omega)) (aY h0 k) (aY (hk (k+1) (Nat.le_refl _)).1 k) (aY (hk (k+1) (Nat.le_refl _)).2 k)
theorem vJ(y:Int)(b:Nat)(xs:List NAgent):∀k,(bC y b xs k).length=xs.length
 |0=>rfl
 |k+1=>by unfold bC;rw[gG,vJ y b xs k]
theorem dh{y:Int}{b:Nat}{xs:List NAgent}{p:NPort}(h:PortIn xs p):∀k,PortIn (bC y b xs k) p
 |0=>h
 |k+1=>(dh h k).move
theorem jc{y:Int}{b:Nat}{xs:List NAgent}(h:AllIn xs):∀k,(∀i:Nat,i<k→PortIn xs (y,((i:Nat):Int)+1)∧PortIn xs (((b+i:Nat):Int),0))→AllIn (bC y b xs k)
 |0,_=>h
 |k+1,hk=>(jc h k fun i hi=>hk i (by omega)).move (dh (hk k (by omega)).1 k) (dh (hk k (by omega)).2 k)
theorem dU(xs:List NAgent)(y:Int):(dup2 xs y).length=xs.length+2:=by unfold dup2;simp
theorem jY{xs:List NAgent}{y:Int}{p:NPort}(h:PortIn xs p):PortIn (dup2 xs y) p:=h.app.app
theorem ng{xs:List NAgent}{y:Int}{i:Int}(h0:0≤i)(h1:i<((agAt xs y).2.2.2.2.length:Nat)):PortIn (dup2 xs y) (((xs.length:Nat):Int),i):=(PortIn.new h0 h1).app
theorem ni{xs:List NAgent}{y:Int}{i:Int}(h0:0≤i)(h1:i<((agAt xs y).2.2.2.2.length:Nat)):PortIn (dup2 xs y) (((xs.length+1:Nat):Int),i):=by
 have:=PortIn.new (xs:=xs++[jS xs y]) (k:=(agAt xs y).1) (l:=(agAt xs y).2.1) (v:=(agAt xs y).2.2.1) (d:=(agAt xs y).2.2.2.1) h0 h1;rw[List.length_append,List.length_singleton]at this;exact this
theorem rJ{xs:List NAgent}{y:Int}(h:AllIn xs)(h0:PortIn xs (0,0)):AllIn (dup2 xs y):=(h.add h0 _ _ _ _ _).add h0.app _ _ _ _ _
theorem nk{x:Int}{c d:Int}{xs:List NAgent}:∀{k i:Nat},i<k→PortIn (bJ x c d xs k) (((xs.length+i:Nat):Int),0)
 |0,i,h=>by omega
 |k+1,i,h=>by
  by_cases e:i=k
  ·subst e;have h2:=(PortIn.new (xs:=bJ x c d xs i) (k:=4) (l:=(agAt (bJ x c d xs i) x).2.1) (v:=0) (d:=[]) (n:=3) (s:=0) (by decide) (by decide)).link (p:=(((bJ x c d xs i).length:Nat),1)) (q:=(c,((i+1:Nat):Int)));have h3:=h2.link (p:=(((bJ x c d xs i).length:Nat),2)) (q:=(d,((i+1:Nat):Int)));rw[fM]at h3;unfold bJ kH;rw[fM];exact h3
  ·exact BN (nk (by omega))
def fO(b:Nat):Nat→NPort
 |0=>(((b-1:Nat):Int),0)
 |k+1=>(((b+k:Nat):Int),2)
def mJ(lv:Int)(b:Nat)(xs:List NAgent):Nat→List NAgent
 |0=>xs
 |k+1=>aR (mJ lv b xs k++[aJ 3 lv 0 [] 3]) (((b+k:Nat):Int),0) (fO b k)
def y9(x:Int)(b:Nat)(xs:List NAgent):Nat→List NAgent
 |0=>xs
 |k+1=>bH (y9 x b xs k) (x,((k:Nat):Int)+1) (((b+k:Nat):Int),1)
def aL(xs:List NAgent)(y i:Int):List NAgent:=xs++[aJ 12 (agAt xs y).2.1 (gu (agAt xs y).2.2.2.1 i) [] 1]
def iC(xs:List NAgent)(x y:Int):List NAgent:=
 bif (agAt xs x).1==6 then bH (aL xs y (bif (agAt xs x).2.2.1==0 then 1 else 0)) (y,1) ((xs.length:Nat),0)
 else bH (y9 x (xs.length+1) (mJ (agAt xs y).2.1 (xs.length+1) (aL xs y (agAt xs x).2.2.1) ((agAt xs x).2.2.2.2.length-1)) ((agAt xs x).2.2.2.2.length-1)) (y,1) (fO (xs.length+1) ((agAt xs x).2.2.2.2.length-1))
theorem sK(lv:Int)(b:Nat)(xs:List NAgent):∀k,(mJ lv b xs k).length=xs.length+k
 |0=>rfl
 |k+1=>by unfold mJ;rw[gD,List.length_append,sK lv b xs k];simp;omega
theorem za{lv:Int}{b:Nat}{xs:List NAgent}{p:NPort}(h:PortIn xs p):∀k,PortIn (mJ lv b xs k) p
 |0=>h
 |k+1=>(za h k).app.link
theorem vB{lv:Int}{xs:List NAgent}{s:Int}(h0:0≤s)(h1:s<3):∀{k i:Nat},i<k→PortIn (mJ lv xs.length xs k) (((xs.length+i:Nat):Int),s)
 |0,i,h=>by omega
 |k+1,i,h=>by
  by_cases e:i=k
  ·subst e;have:=(PortIn.new (xs:=mJ lv xs.length xs i) (k:=3) (l:=lv) (v:=0) (d:=[]) (n:=3) h0 (by omega)).link (p:=(((xs.length+i:Nat):Int),0)) (q:=fO xs.length i);rw[sK]at this;exact this
  ·exact(vB h0 h1 (by omega:i<k)).app.link
theorem BK{lv:Int}{xs:List NAgent}(hr:PortIn xs (fO xs.length 0)):∀k,PortIn (mJ lv xs.length xs k) (fO xs.length k)
 |0=>hr
 |k+1=>vB (by decide) (by decide) (Nat.lt_succ_self k)
theorem Dk{lv:Int}{xs:List NAgent}(h:AllIn xs)(h0:PortIn xs (0,0))(hr:PortIn xs (fO xs.length 0)):∀k,AllIn (mJ lv xs.length xs k)
 |0=>h
 |k+1=>by
  unfold mJ;have:=PortIn.new (xs:=mJ lv xs.length xs k) (k:=3) (l:=lv) (v:=0) (d:=[]) (n:=3) (s:=0) (by decide) (by decide);rw[sK]at this;exact((Dk h h0 hr k).add (za h0 k) _ _ _ _ _).link this (BK hr k).app
theorem I6(x:Int)(b:Nat)(xs:List NAgent):∀k,(y9 x b xs k).length=xs.length
 |0=>rfl
 |k+1=>by unfold y9;rw[gG,I6 x b xs k]
theorem jV{x:Int}{b:Nat}{xs:List NAgent}{p:NPort}(h:PortIn xs p):∀k,PortIn (y9 x b xs k) p
 |0=>h
 |k+1=>(jV h k).move
theorem yN{x:Int}{b:Nat}{xs:List NAgent}(h:AllIn xs):∀k,(∀i:Nat,i<k→PortIn xs (x,((i:Nat):Int)+1)∧PortIn xs (((b+i:Nat):Int),1))→AllIn (y9 x b xs k)
 |0,_=>h
 |k+1,hk=>(yN h k fun i hi=>hk i (by omega)).move (jV (hk k (by omega)).1 k) (jV (hk k (by omega)).2 k)
theorem mK(xs:List NAgent)(y i:Int):(aL xs y i).length=xs.length+1:=by simp[aL]
def dA(b:Int)(xs:List NAgent)(i:Nat):List NAgent:=(xs.take i).map (fQ b)++xs.drop i
theorem kR(b:Int)(xs:List NAgent)(i:Nat):(dA b xs i).length=xs.length:=by unfold dA;simp;omega
theorem AA{b:Int}{xs:List NAgent}{i:Nat}(h:i<xs.length):agAt (dA b xs i) (i:Nat)=agAt xs (i:Nat):=by
 unfold agAt elt dA;rw[Int.toNat_natCast,List.getD_eq_getElem?_getD,List.getD_eq_getElem?_getD,List.getElem?_append_right (by simp;omega)];simp;rw[show i-min i xs.length=0 by omega,Nat.add_zero]
theorem lW{xs:List NAgent}{i:Nat}(h:i<xs.length):agAt xs (i:Nat)=xs[i]:=by
 unfold agAt elt;rw[Int.toNat_natCast,List.getD_eq_getElem?_getD,List.getElem?_eq_getElem h];rfl
theorem uQ{b:Int}{xs:List NAgent}{i:Nat}(h:i<xs.length):dA b xs (i+1)=(dA b xs i).set i (fQ b (agAt xs (i:Nat))):=by
 unfold dA;rw[List.set_append_right _ _ (by simp;omega),List.take_add_one,List.getElem?_eq_getElem h,List.map_append,lW h];have e:i-((xs.take i).map (fQ b)).length=0:=by simp;omega
 rw[e,List.drop_eq_getElem_cons h,List.set_cons_zero];simp
theorem AB{b:Int}{xs:List NAgent}{i:Nat}(h:i<xs.length)(hk:aU (agAt xs (i:Nat)).1=false):dA b xs (i+1)=dA b xs i:=by
 rw[uQ h]
 have:fQ b (agAt xs (i:Nat))=agAt (dA b xs i) (i:Nat):=by
  rw[AA h];unfold fQ;rw[show aU (agAt xs (i:Nat)).kind=false from hk];rfl
 rw[this,lW (by rw[kR];exact h)];exact List.set_getElem_self _
theorem ku{b:Int}{xs:List NAgent}{i:Nat}(h:i<xs.length):dD b (xs.take (i+1))=(dD b (xs.take i)&&(!(aU (agAt xs (i:Nat)).1)||decide ((agAt xs (i:Nat)).2.1+b≤8))):=by
 unfold dD;rw[List.take_add_one,List.getElem?_eq_getElem h,List.all_append,lW h];simp
theorem Et{b:Int}{xs:List NAgent}(h:dD b xs=true)(i:Nat):dD b (xs.take i)=true:=by
 unfold dD at h ⊢;rw[List.all_eq_true]at h ⊢;exact fun x hx=>h x (List.mem_of_mem_take hx)
abbrev UG:U:=.pair uNet (.pair (.sl uNet) .any)
def aS(bk:List (List NAgent))(i:Int):List NAgent:=elt ([]:List NAgent) bk i
def checkN(bk:List (List NAgent))(xs:List NAgent)(p:Int×Int):Int×Int×Int×Int:=
 let c:=aH (agAt xs p.1) (agAt xs p.2)
 let x:=bif c.2 then p.2 else p.1
 let y:=bif c.2 then p.1 else p.2
 bif c.1==8 then(0,0,0,11)else
 bif c.1==7 then(bif decide ((bk.length:Int)≤(agAt xs x).2.2.1)then(0,0,0,3)else bif !(dD (agAt xs x).2.1 (aS bk (agAt xs x).2.2.1))then(0,0,0,9)else(c.1,x,y,0))
 else(c.1,x,y,0)
def om(bk:List (List NAgent))(xs:List NAgent)(c x y:Int):Int:=
 (bK c (bif c==3 then IntKind.i64.wrap (((agAt xs y).2.2.2.2.length:Nat)-1)else bif c==4 then IntKind.i64.wrap (((agAt xs y).2.2.2.2.length:Nat)-1)
  else bif c==6 then(bif (agAt xs x).1==9 then IntKind.i64.wrap (((agAt xs x).2.2.2.2.length:Nat)-1)else 0)else bif c==7 then((aS bk (agAt xs x).2.2.1).length:Nat)else 0)).1
def nW(y:Int)(xs:List NAgent):Nat→List NAgent
 |0=>xs
 |k+1=>bH (nW y xs k++[aJ 5 0 0 [] 1]) (y,((k+1:Nat):Int)) (((xs.length+k:Nat):Int),0)
def eG(xs:List NAgent)(y:Int):List NAgent:=nW y xs ((agAt xs y).2.2.2.2.length-1)
theorem iD(y:Int)(xs:List NAgent):∀k,(nW y xs k).length=xs.length+k
 |0=>rfl
 |k+1=>by unfold nW;rw[gG,List.length_append,iD y xs k];simp;omega
theorem lC{y:Int}{xs:List NAgent}{p:NPort}(h:PortIn xs p):∀k,PortIn (nW y xs k) p
 |0=>h
 |k+1=>(lC h k).app.move
theorem vK{y:Int}{xs:List NAgent}(k:Nat):PortIn (nW y xs k++[aJ 5 0 0 [] 1]) (((xs.length+k:Nat):Int),0):=by
 have:=PortIn.new (xs:=nW y xs k) (k:=5) (l:=0) (v:=0) (d:=[]) (n:=1) (s:=0) (by decide) (by decide)
 rwa[iD]at this
theorem sQ{y:Int}{xs:List NAgent}(h:AllIn xs)(h0:PortIn xs (0,0)):∀k,(∀i:Nat,i<k→PortIn xs (y,((i+1:Nat):Int)))→AllIn (nW y xs k)
 |0,_=>h
 |k+1,hk=>((sQ h h0 k fun i hi=>hk i (by omega)).add (lC h0 k) _ _ _ _ _).move (lC (hk k (by omega)) k).app (vK k)
theorem Io(xs:List NAgent)(p q:NPort)(i:Int):(agAt (aR xs p q) i).2.2.2.2.length=(agAt xs i).2.2.2.2.length:=by
 unfold aR;have h1:=kV (ay xs p q) q p i;have h2:=kV xs p q i;exact h1.trans h2
theorem BR{y:Int}{xs:List NAgent}(hy:y.toNat<xs.length):∀k,(agAt (nW y xs k) y).2.2.2.2.length=(agAt xs y).2.2.2.2.length
 |0=>rfl
 |k+1=>by
  unfold nW bH;rw[Io,bE (by rw[iD];omega),BR hy k]
def CU(bk:List (List NAgent)):Prop:=∀i:Nat,(∀j:Nat,0≤(agAt (aS bk i) j).2.1∧(agAt (aS bk i) j).2.1≤8)
def bn(b:Int)(a:NAgent):NAgent:=(a.1,a.2.1,a.2.2.1,a.2.2.2.1,a.2.2.2.2.map fun p=>(p.1+b,p.2))
def jR(bk:List (List NAgent))(xs:List NAgent)(x:Int):List NAgent:=aZ (agAt xs x).2.1 (aS bk (agAt xs x).2.2.1)
def j5(bk:List (List NAgent))(xs:List NAgent)(x y:Int):List NAgent:=
 aR (xs++((jR bk xs x).drop 1).map (bn ((xs.length:Nat)-1))) (y,0) ((peerN (jR bk xs x) (0,0)).1+((xs.length:Nat)-1),(peerN (jR bk xs x) (0,0)).2)
def dW(bk:List (List NAgent))(xs:List NAgent)(c x y:Int):List NAgent:=
 bif c==1 then aB (aB xs (x,1) (y,1)) (x,2) (y,2)else bif c==2 then aB (aB xs (x,1) (y,1)) (x,2) (y,2)
 else bif c==3 then aO xs x y else bif c==4 then eG xs y else bif c==5 then aN xs x y else bif c==6 then iC xs x y else bif c==7 then j5 bk xs x y else xs
def dI(c x y:Int):List Int:=bif c==7 then[x]else[x,y]
structure IntPre(xs:List NAgent)(c x y:Int):Prop where
 x0:0≤x∧x<(xs.length:Nat)
 y0:0≤y∧y<(xs.length:Nat)
 c12:c=1∨c=2→PortIn xs (x,1)∧PortIn xs (x,2)∧PortIn xs (y,1)∧PortIn xs (y,2)
 c3:c=3→PortIn xs (x,1)∧PortIn xs (x,2)
 px:0<(agAt xs x).2.2.2.2.length∧(agAt xs x).2.2.2.2.length≤1000
 py:0<(agAt xs y).2.2.2.2.length∧(agAt xs y).2.2.2.2.length≤1000
 dy:(agAt xs y).2.2.2.1.length≤1000000
 c5:c=5→PortIn xs (y,1)∧((agAt xs y).1=7→PortIn xs (y,2))∧((agAt xs y).1≠7→0<(agAt xs y).2.2.2.1.length)
 c6:c=6→PortIn xs (y,1)∧((agAt xs x).1=6→(agAt xs y).2.2.2.1.length=2)∧((agAt xs x).1≠6→0≤(agAt xs x).2.2.1∧(agAt xs x).2.2.1<((agAt xs y).2.2.2.1.length:Nat))
def lG(lv x:Int)(b:Nat)(xs:List NAgent):Nat→List NAgent
 |0=>xs
 |k+1=>bH (aR (lG lv x b xs k++[aJ 3 lv 0 [] 3]) (fO b k) (((b+k:Nat):Int),0)) (x,((k+1:Nat):Int)) (((b+k:Nat):Int),1)
def bF(xs:List NAgent)(x y:Int):List NAgent:=
 bif (agAt xs y).1==11 then bH (aL xs y (bif (agAt xs x).2.2.1==0 then 1 else 0)) (y,1) ((xs.length:Nat),0)
 else bH (lG (agAt xs y).2.1 x (xs.length+1) (aL xs y (agAt xs x).2.2.1) ((agAt xs x).2.2.2.2.length-1)) (y,1) (fO (xs.length+1) ((agAt xs x).2.2.2.2.length-1))
theorem l9(lv x:Int)(b:Nat)(xs:List NAgent):∀k,(lG lv x b xs k).length=xs.length+k
 |0=>rfl
 |k+1=>by unfold lG;rw[gG,gD,List.length_append,l9 lv x b xs k];simp;omega
theorem jW{lv x:Int}{b:Nat}{xs:List NAgent}{p:NPort}(h:PortIn xs p):∀k,PortIn (lG lv x b xs k) p
 |0=>h
 |k+1=>(jW h k).app.link.move
theorem Jb{lv x:Int}{xs:List NAgent}{s:Int}(h0:0≤s)(h1:s<3):∀{k i:Nat},i<k→PortIn (lG lv x xs.length xs k) (((xs.length+i:Nat):Int),s)
 |0,i,h=>by omega
 |k+1,i,h=>by
  by_cases e:i=k
  ·subst e;have:=(PortIn.new (xs:=lG lv x xs.length xs i) (k:=3) (l:=lv) (v:=0) (d:=[]) (n:=3) h0 (by omega));rw[l9]at this;exact this.link.move
  ·exact(Jb h0 h1 (by omega:i<k)).app.link.move
theorem rG{lv x:Int}{xs:List NAgent}(hr:PortIn xs (fO xs.length 0)):∀k,PortIn (lG lv x xs.length xs k) (fO xs.length k)
 |0=>hr
 |k+1=>Jb (by decide) (by decide) (Nat.lt_succ_self k)
theorem qo{lv x:Int}{xs:List NAgent}(k:Nat){s:Int}(h0:0≤s)(h1:s<3):PortIn (lG lv x xs.length xs k++[aJ 3 lv 0 [] 3]) (((xs.length+k:Nat):Int),s):=by
 have:=PortIn.new (xs:=lG lv x xs.length xs k) (k:=3) (l:=lv) (v:=0) (d:=[]) (n:=3) h0 (by omega)
 rwa[l9]at this
theorem qp{lv x:Int}{xs:List NAgent}(h:AllIn xs)(h0:PortIn xs (0,0))(hr:PortIn xs (fO xs.length 0)):∀k,(∀i:Nat,i<k→PortIn xs (x,((i+1:Nat):Int)))→AllIn (lG lv x xs.length xs k)
 |0,_=>h
 |k+1,hk=>(((qp h h0 hr k fun i hi=>hk i (by omega)).add (jW h0 k) _ _ _ _ _).link (rG hr k).app (qo k (by decide) (by decide))).move (jW (hk k (by omega)) k).app.link (qo k (by decide) (by decide)).link
def sP(lab c d:Int)(xs:List NAgent)(i:Nat):List NAgent:=aR (aR (xs++[aJ 4 lab 0 [] 3]) ((xs.length:Nat),1) (c,(i:Nat))) ((xs.length:Nat),2) (d,(i:Nat))
def aF(lab c d:Int)(xs:List NAgent):Nat→List NAgent
 |0=>xs
 |k+1=>sP lab c d (aF lab c d xs k) (k+1)
theorem FQ(xs:List NAgent)(p q:NPort)(i:Int):(agAt (aR xs p q) i).2.1=(agAt xs i).2.1:=by
 unfold aR
 have h:∀(xs:List NAgent) (p q:NPort),(agAt (ay xs p q) i).2.1=(agAt xs i).2.1:=fun xs p q=>by
  rw[bZ];split
  ·rename_i h;rw[vg h.1.symm]
  ·rfl
 rw[h,h]
theorem iN{x c d:Int}{xs:List NAgent}(hx:x.toNat<xs.length):∀k,aF (agAt xs x).2.1 c d xs k=bJ x c d xs k∧(agAt (bJ x c d xs k) x).2.1=(agAt xs x).2.1
 |0=>⟨rfl,rfl⟩
 |k+1=>by
  obtain⟨h1,h2⟩:=iN hx k (c:=c) (d:=d);refine⟨?_,?_⟩
  ·unfold aF bJ sP kH;rw[h1,h2]
  ·unfold bJ kH;rw[FQ,FQ,bE (by rw[fM];omega),h2]
def oN(z:Int):Prop:=0≤z∧z≤1000000
def bP(b:Int)(ps:List NPort)(j:Nat):List NPort:=(ps.take j).map (fun p=>(p.1+b,p.2))++ps.drop j
theorem fJ(b:Int)(ps:List NPort)(j:Nat):(bP b ps j).length=ps.length:=by unfold bP;simp;omega
theorem pK{b:Int}{ps:List NPort}{j:Nat}(h:j<ps.length):elt (dflt uPort) (bP b ps j) (j:Nat)=elt (dflt uPort) ps (j:Nat):=by
 unfold elt bP;rw[Int.toNat_natCast,List.getD_eq_getElem?_getD,List.getD_eq_getElem?_getD,List.getElem?_append_right (by simp;omega)];simp;rw[show j-min j ps.length=0 by omega,Nat.add_zero]
theorem nJ{b:Int}{ps:List NPort}{j:Nat}(h:j<ps.length):bP b ps (j+1)=(bP b ps j).set j ((elt (dflt uPort) ps (j:Nat)).1+b,(elt (dflt uPort) ps (j:Nat)).2):=by
 have he:elt (dflt uPort) ps (j:Nat)=ps[j]:=by
  unfold elt;rw[Int.toNat_natCast,List.getD_eq_getElem?_getD,List.getElem?_eq_getElem h];rfl
 unfold bP;rw[List.set_append_right _ _ (by simp;omega),List.take_add_one,List.getElem?_eq_getElem h,List.map_append,he];have e:j-((ps.take j).map fun p:NPort=>(p.1+b,p.2)).length=0:=by simp;omega
 rw[e,List.drop_eq_getElem_cons h,List.set_cons_zero];simp
theorem pJ(b:Int)(ps:List NPort):bP b ps ps.length=ps.map fun p=>(p.1+b,p.2):=by unfold bP;simp
def gK(lv b:Int)(t:List NAgent)(k:Nat):List NAgent:=(((aZ lv t).drop 1).take k).map (bn b)
theorem sS{lv b:Int}{t:List NAgent}{k:Nat}(h:k+1<t.length):gK lv b t (k+1)=gK lv b t k++[bn b (fQ lv (agAt t ((k+1:Nat):Int)))]:=by
 unfold gK aZ;rw[List.take_add_one,List.map_append,List.getElem?_drop,List.getElem?_map,lW h,show 1+k=k+1 by omega,List.getElem?_eq_getElem h];rfl
theorem vM{lv b:Int}{t:List NAgent}{k:Nat}(h:k+1≤t.length):(gK lv b t k).length=k:=by unfold gK aZ;simp;omega
def cK(t:List NAgent)(lv:Int)(xs:List NAgent)(y:Int):List NAgent:=
 aR (xs++gK lv ((xs.length:Nat)-1) t (t.length-1)) (((xs.length:Nat)-1)+(peerN t (0,0)).1,(peerN t (0,0)).2) (y,0)
def eP(x y:NAgent):Bool:=bif (bif x.1==9 then y.1==10 else false)then decide ((y.2.2.2.1.length:Int)≤x.2.2.1)else false
def jX(x y:NAgent):Bool:=bif (bif x.1==10 then y.1==9 else false)then decide ((x.2.2.2.1.length:Int)≤y.2.2.1)else false
def aQ(x y:NAgent):Int:=bif eP x y then 8 else bif jX x y then 8 else aC x.1 x.2.1 y.1 y.2.1
def firstS(xs:List NAgent)(a b:Int):Int×Int:=bif aG (agAt xs a).1 (agAt xs a).2.1 (agAt xs b).1 (agAt xs b).2.1==2 then(b,a)else(a,b)
def maxI(a b:Int):Int:=bif decide (b<a)then a else b
def jD(t:List NAgent):Nat→Int
 |0=>0
 |k+1=>maxI (jD t k) (agAt t (k:Nat)).2.1
def j6(x:NAgent):Int:=bif x.1==9 then IntKind.i64.wrap ((x.2.2.2.2.length:Nat)-1)else 0
def nO(bk:List (List NAgent))(c:Int)(x y:NAgent):Int:=
 bif c==3 then IntKind.i64.wrap ((y.2.2.2.2.length:Nat)-1)else bif c==4 then IntKind.i64.wrap ((y.2.2.2.2.length:Nat)-1)else bif c==6 then j6 x else bif c==7 then((aS bk x.2.2.1).length:Nat)else 0
def d9(bk:List (List NAgent))(x y:NAgent):Int×Int:=
 bif aQ x y==8 then(0,11)else
 bif aQ x y==7 then(bif decide ((bk.length:Int)≤x.2.2.1)then(0,3)else bif decide (8<IntKind.i64.wrap (jD (aS bk x.2.2.1) (aS bk x.2.2.1).length+x.2.1))then(0,9)else((bK 7 (nO bk 7 x y)).1,0))
 else((bK (aQ x y) (nO bk (aQ x y) x y)).1,0)
def aT(xs:List NAgent):Nat→Nat
 |0=>0
 |k+1=>bif (agAt xs (k:Nat)).1 !=0 then aT xs k+1 else aT xs k
theorem pI(xs:List NAgent):∀k,aT xs k≤k
 |0=>Nat.le_refl _
 |k+1=>by
  have:=pI xs k;unfold aT;cases ((agAt xs (k:Nat)).1 !=0)<;>simp<;>omega
def eH(bk:List (List NAgent))(xs:List NAgent)(c x y:Int):List NAgent:=
 bif c==1 then aB (aB xs (x,1) (y,1)) (x,2) (y,2)else bif c==2 then aB (aB xs (x,1) (y,1)) (x,2) (y,2)
 else bif c==3 then aO xs x y else bif c==4 then eG xs y else bif c==5 then aN xs x y else bif c==6 then bF xs x y else bif c==7 then cK (aS bk (agAt xs x).2.2.1) (agAt xs x).2.1 xs y else xs
def dH(bk:List (List NAgent))(xs:List NAgent)(c x y:Int):List NAgent:=bif c==7 then aK (eH bk xs c x y) x else aK (aK (eH bk xs c x y) x) y
structure CZ(xs:List NAgent)(c x y:Int):Prop extends IntPre xs c x y where
 k5:c=5→(agAt xs y).1=7∨(agAt xs y).1=8
 k6:c=6→((agAt xs y).1=11→(agAt xs y).2.2.2.1.length=2)∧((agAt xs y).1≠11→0≤(agAt xs x).2.2.1∧(agAt xs x).2.2.1<((agAt xs y).2.2.2.1.length:Nat)∧(agAt xs x).1=9)
theorem firstS_in{xs:List NAgent}{a b:Int}{n:Int}(ha:0≤a∧a<n)(hb:0≤b∧b<n):(0≤(firstS xs a b).1∧(firstS xs a b).1<n)∧(0≤(firstS xs a b).2∧(firstS xs a b).2<n):=by
 unfold firstS;cases aG (agAt xs a).1 (agAt xs a).2.1 (agAt xs b).1 (agAt xs b).2.1==2
 ·exact⟨ha,hb⟩
 ·exact⟨hb,ha⟩
theorem cB(xs:List NAgent)(a:Int):(aK xs a).length=xs.length:=List.length_set
theorem tV(xs:List NAgent)(x y:Int):xs.length≤(aO xs x y).length:=by
 unfold aO iZ dup3;rw[vJ,gG,gG,fM,dU];omega
theorem yw(xs:List NAgent)(x y:Int):xs.length≤(aN xs x y).length:=by
 unfold aN;cases (agAt xs y).1==7
 ·rw[cond_false,gG];simp
 ·rw[cond_true,gG,gG];simp
theorem zf(xs:List NAgent)(x y:Int):xs.length≤(bF xs x y).length:=by
 unfold bF;cases (agAt xs y).1==11
 ·rw[cond_false,gG,l9];unfold aL;simp;omega
 ·rw[cond_true,gG];unfold aL;simp
def Tz(us:List Value):El (hol 5):=(us.getD 0 undef,us.getD 1 undef,us.getD 2 undef,us.getD 3 undef,us.getD 4 undef)
def jw:Nat→List Value→List (El (hol 5))
 |0,_=>[]
 |n+1,us=>Tz us::jw n (us.drop 5)
theorem tq:∀(n:Nat) (us:List Value),(jw n us).length=n
 |0,_=>rfl
 |n+1,us=>by unfold jw;rw[List.length_cons,tq n]
theorem xK:∀(n:Nat) (us:List Value),us.length=n*5→(jw n us).flatMap (enc (hol 5))=us.map D.v
 |0,us,h=>by
  have:us=[]:=List.length_eq_zero_iff.1 (by omega);rw[this];rfl
 |n+1,us,h=>by
  match us,h with
  |a::b::c::d::e::us,h=>
   have ih:=xK n us (by simp only[List.length_cons]at h;omega);unfold jw;rw[List.flatMap_cons];show _++(jw n us).flatMap (enc (hol 5))=_;rw[ih];rfl
  |[],h=>simp at h
  |[_],h=>simp at h;omega
  |[_,_],h=>simp at h;omega
  |[_,_,_],h=>simp at h;omega
  |[_,_,_,_],h=>simp at h;omega
theorem TN.JM{w:World}:∀{vs us:List Value} {bs:List Nat},TN w (vs.map D.v) bs us→us=vs∧bs=[]
 |[],us,bs,h=>by obtain⟨rfl,rfl⟩:=TN.nil.1 h;exact⟨rfl,rfl⟩
 |v::vs,us,bs,h=>by
  rw[List.map_cons]at h;obtain⟨b1,b2,u,us',rfl,rfl,h1,h2⟩:=TN.cons.1 h;obtain⟨rfl,rfl,_⟩:=T1.v.1 h1;obtain⟨rfl,rfl⟩:=TN.JM h2;exact⟨rfl,rfl⟩
theorem SH{w:World}{x:Value}{ds:List D}{bs:List Nat}{us:List Value}(h:TN w (.v x::ds) bs us):∃us',us=x::us'∧TN w ds bs us':=by
 obtain⟨b1,b2,u,us',e1,e2,h1,h2⟩:=TN.cons.1 h;obtain⟨e3,e4,_⟩:=T1.v.1 h1;exact⟨us',by rw[e1,e3],by rw[e2,e4];exact h2⟩
theorem UF{w:World}{d:D}{ds:List D}{bs:List Nat}{us:List Value}(h:TN w (d::ds) bs us):∃u us' b2,us=u::us'∧TN w ds b2 us':=by
 obtain⟨b1,b2,u,us',e1,e2,h1,h2⟩:=TN.cons.1 h;exact⟨u,us',b2,e1,h2⟩
section
variable {cx:Cx}{β:Nat→Value}{w:World}{R:List dz}
theorem Inv.RQ{g t n:Nat}{xs:List NAgent}{us:List Value}(h:Inv cx.w0 cx.F0 w (Tok.res cx β (.row g t 5 uAgent xs us)::R))(hl:us.length=xs.length*5):
  Inv cx.w0 cx.F0 w (Tok.res cx β (.row g t 5 (hol 5) (jw xs.length us) us)::Tok.res cx β (.nest n uAgent xs us)::R):=by
 refine Inv.part h fun F hp=> ?_
 obtain⟨hs,bs,us',rfl,hg,hpre⟩:=hp;have hul:us'.length=xs.length*5:=hg.row.1;have e:us=us':=hpre.eq_of_length (by omega);subst e;refine⟨xM (β g),bs,fun b hb=>by simp[hb],fun b hb=>by simp[hb],fun b hb=>hg.out b (iU.1 hb),⟨rfl,[],us,by simp,?_,pR _⟩,⟨hg.tn,hg.own⟩⟩;refine⟨?_,?_,Own.nil _ _,by simp⟩
 ·have:=hg.row;show World.ownsRow w 0 t 5 (β g) (jw xs.length us).length us;rw[tq];exact this
 ·show TN w ((jw xs.length us).flatMap (enc (hol 5))) [] us;rw[xK _ _ hl];exact TN.scalars hg.tn.Bv
def nZ(ys:List NAgent)(us:List Value)(j:Nat):El (hol 5):=(.int .i64 (agAt ys (j:Nat)).1,.int .i64 (agAt ys (j:Nat)).2.1,.int .i64 (agAt ys (j:Nat)).2.2.1,us.getD (j*5+3) undef,us.getD (j*5+4) undef)
theorem wU:∀{ys:List NAgent} {us:List Value} {bs:List Nat},TN w (ys.flatMap (enc uAgent)) bs us→us.length=ys.length*5∧((List.range ys.length).map (nZ ys us)).flatMap (enc (hol 5))=us.map D.v
 |[],us,bs,h=>by obtain⟨rfl,rfl⟩:=TN.nil.1 h;exact⟨rfl,rfl⟩
 |y::ys,us,bs,h=>by
  rw[List.flatMap_cons]at h;obtain⟨b1,b2,u1,u2,rfl,rfl,h1,h2⟩:=TN.append.1 h;have h1':TN w [.v (.int .i64 y.1),.v (.int .i64 y.2.1),.v (.int .i64 y.2.2.1),.sl y.2.2.2.1.length (List.flatMap (enc (.int .i64)) y.2.2.2.1),.sl y.2.2.2.2.length (List.flatMap (enc uPort) y.2.2.2.2)] b1 u1:=h1;obtain⟨v1,rfl,k3⟩:=SH h1';obtain⟨v2,rfl,k4⟩:=SH k3;obtain⟨v3,rfl,k5⟩:=SH k4;obtain⟨a4,v4,b4,rfl,k6⟩:=UF k5;obtain⟨a5,v5,b5,rfl,k7⟩:=UF k6;obtain⟨rfl,rfl⟩:=TN.nil.1 k7;obtain⟨k1,k2⟩:=wU h2;refine⟨by simp only[List.length_append,List.length_cons,List.length_nil];omega,?_⟩
  rw[List.length_cons,List.range_succ_eq_map,List.map_cons,List.flatMap_cons,List.map_map]
  have e:(List.range ys.length).map (nZ (y::ys) ([.int .i64 y.1,.int .i64 y.2.1,.int .i64 y.2.2.1,a4,a5]++u2)∘Nat.succ)=(List.range ys.length).map (nZ ys u2):=List.map_congr_left fun j _=>by
   have e1:agAt (y::ys) ((j.succ:Nat):Int)=agAt ys (j:Nat):=by unfold agAt elt;rw[Int.toNat_natCast,Int.toNat_natCast];rfl
   have e2:∀o:Nat,([.int .i64 y.1,.int .i64 y.2.1,.int .i64 y.2.2.1,a4,a5]++u2:List Value).getD (j.succ*5+o) undef=u2.getD (j*5+o) undef:=fun o=>by
    rw[List.getD_eq_getElem?_getD,List.getElem?_append_right (by simp only[List.length_cons,List.length_nil];omega),List.getD_eq_getElem?_getD];simp only[List.length_cons,List.length_nil];rw[show j.succ*5+o-(0+1+1+1+1+1)=j*5+o by omega]
   simp only[Function.comp,nZ];rw[e1,e2,e2]
  have e':(List.range ys.length).map (nZ (y::ys) (Value.int .i64 y.1::Value.int .i64 y.2.1::Value.int .i64 y.2.2.1::a4::a5::[]++u2)∘Nat.succ)=(List.range ys.length).map (nZ ys u2):=e;rw[e',k2,List.map_append];rfl
theorem Inv.merge{gA gB t t' n:Nat}{xs ys:List NAgent}{usA usB preA:List Value}{hs:List (El (hol 5))}(h:Inv cx.w0 cx.F0 w (Tok.res cx β (.row gA t 5 (hol 5) (jw xs.length usA++hs) preA)::Tok.res cx β (.nest n uAgent xs usA)::Tok.res cx β (.row gB t' 5 uAgent ys usB)::R))
  (hlA:usA.length=xs.length*5) (hlB:usB.length=ys.length*5) (h0:0<ys.length) (hh:hs=(List.range (ys.length-1)).map fun j=>nZ ys usB (j+1)):
  Inv cx.w0 cx.F0 w (Tok.res cx β (.row gA t 5 uAgent (xs++ys.drop 1) usA)::R):=by
 have hB:=h.perm ((List.Perm.cons _ (List.Perm.swap _ _ _)).trans (List.Perm.swap _ _ _));obtain⟨F,hp,k,_⟩:=hB.take1;obtain⟨_,bs,us',rfl,hg,hpre⟩:=hp;have hul:us'.length=ys.length*5:=hg.row.1;have e:usB=us':=hpre.eq_of_length (by omega);subst e
 match ys,h0,hg,hh,hlB with
 |y::ys,h0,hg,hh,hlB=>
  have htn:TN w ((y::ys).flatMap (enc uAgent)) bs usB:=hg.tn;obtain⟨q1,q2⟩:=wU htn;rw[List.flatMap_cons]at htn;obtain⟨b1,b2,u1,u2,rfl,rfl,h1,h2⟩:=TN.append.1 htn
  have hu1:u1.length=5:=by
   have:=(wU h2).1;rw[List.length_append]at q1;simp only[List.length_cons]at q1;omega
  have hcell:hs.flatMap (enc (hol 5))=u2.map D.v:=by
   rw[List.length_cons,List.range_succ_eq_map,List.map_cons,List.flatMap_cons,List.map_map,List.map_append]at q2;have l1:(enc (hol 5) (nZ (y::ys) (u1++u2) 0)).length=(u1.map D.v).length:=by rw[List.length_map,hu1];rfl
   have:=(List.append_inj q2 l1).2;rw[hh];exact this
  have hN:Inv cx.w0 cx.F0 w (dQ u2 (ys.flatMap (enc uAgent))::Tok.res cx β (.row gA t 5 (hol 5) (jw xs.length usA++hs) preA)::Tok.res cx β (.nest n uAgent xs usA)::R):=k _ b2 (fun b hb=>by simp[hb]) ⟨h2,(Own.parts hg.own).2.1⟩
  have hM:Inv cx.w0 cx.F0 w (dQ (usA++u2) (xs.flatMap (enc uAgent)++ys.flatMap (enc uAgent))::Tok.res cx β (.row gA t 5 (hol 5) (jw xs.length usA++hs) preA)::R):=by
   have:Inv cx.w0 cx.F0 w (dQ usA (xs.flatMap (enc uAgent))::dQ u2 (ys.flatMap (enc uAgent))::Tok.res cx β (.row gA t 5 (hol 5) (jw xs.length usA++hs) preA)::R):=hN.perm (by
    refine(List.Perm.cons _ (List.Perm.swap _ _ _)).trans (List.Perm.swap _ _ _))
   exact this.uE
  refine hM.swap.join fun F1 F2 hp1 hp2 hd=> ?_
  obtain⟨_,bA,uA,rfl,gA',_⟩:=hp1;have hAtn:TN w ((jw xs.length usA++hs).flatMap (enc (hol 5))) bA uA:=gA'.tn;rw[List.flatMap_append,xK _ _ hlA,hcell,←List.map_append]at hAtn;obtain⟨rfl,rfl⟩:=TN.JM hAtn;have hhl:hs.length=ys.length:=by rw[hh,List.length_map,List.length_range];rfl
  refine⟨xM (β gA)++F2,fun b hb=>by
   rcases List.mem_append.1 hb with hb|hb
   ·exact .inl (by simp[hb])
   ·exact .inr hb,⟨rfl,F2,usA++u2,rfl,⟨?_,?_,hp2.2,fun k hk hm=>hd k (by simp[iU.2 hk]) hm⟩,List.prefix_append _ _⟩⟩
  ·have:=gA'.row;show World.ownsRow w 0 t 5 (β gA) (xs++ys).length (usA++u2);rw[show(jw xs.length usA++hs).length=(xs++ys).length by rw[List.length_append,tq,hhl,List.length_append]]at this;exact this
  ·have:=hp2.1;rw[←List.flatMap_append]at this;exact this
end
end Go.Tr
namespace Go.Tr
open Go Go.RowKit
def oM(b:Int)(t:List NAgent):Nat→List NAgent
 |0=>t
 |k+1=>(oM b t k).set (1+k) (bn b (agAt t ((1+k:Nat):Int)))
def KU(b:Int)(a:NAgent)(j:Nat):NAgent:=(a.1,a.2.1,a.2.2.1,a.2.2.2.1,bP b a.2.2.2.2 j)
def zR(b:Int)(t:List NAgent)(k j:Nat):List NAgent:=(oM b t k).set (1+k) (KU b (agAt t ((1+k:Nat):Int)) j)
section
variable {b:Int}{t:List NAgent}
theorem ow:∀k,(oM b t k).length=t.length
 |0=>rfl
 |k+1=>by unfold oM;rw[List.length_set,ow k]
theorem JG(k j:Nat):(zR b t k j).length=t.length:=by unfold zR;rw[List.length_set,ow k]
theorem wo:∀(k i:Nat),(oM b t k)[i]? =if 1≤i∧i≤k then(t[i]?).map (bn b)else t[i]?
 |0,i=>by rw[if_neg (by omega)];rfl
 |k+1,i=>by
  unfold oM;rw[List.getElem?_set,ow,wo k i]
  by_cases h:1+k=i
  ·subst h;rw[if_pos (rfl:1+k=1+k)]
   by_cases h2:1+k<t.length
   ·rw[if_pos h2,if_pos (by omega:1≤1+k∧1+k≤k+1),List.getElem?_eq_getElem h2];show _=some (bn b _)
    congr 2
    unfold agAt elt;rw[Int.toNat_natCast,List.getD_eq_getElem?_getD,List.getElem?_eq_getElem h2];rfl
   ·rw[if_neg h2,if_pos (by omega:1≤1+k∧1+k≤k+1),List.getElem?_eq_none (by omega)];rfl
  ·rw[if_neg h]
   by_cases h2:1≤i∧i≤k
   ·rw[if_pos h2,if_pos (by omega)]
   ·rw[if_neg h2,if_neg (by omega)]
theorem uZ(xs:List NAgent)(i:Nat):agAt xs (i:Nat)=(xs[i]?).getD (dflt uAgent):=by
 unfold agAt elt;rw[Int.toNat_natCast,List.getD_eq_getElem?_getD]
theorem R4{k i:Nat}(h:k<i):agAt (oM b t k) (i:Nat)=agAt t (i:Nat):=by
 rw[uZ,uZ,wo,if_neg (by omega)]
theorem M8(k i:Nat):(agAt (oM b t k) (i:Nat)).1=(agAt t (i:Nat)).1∧(agAt (oM b t k) (i:Nat)).2.1=(agAt t (i:Nat)).2.1∧(agAt (oM b t k) (i:Nat)).2.2.1=(agAt t (i:Nat)).2.2.1:=by
 rw[uZ,uZ,wo];split
 ·cases t[i]? <;>exact⟨rfl,rfl,rfl⟩
 ·exact⟨rfl,rfl,rfl⟩
theorem KV(k:Nat)(us:List Value)(i:Nat):nZ (oM b t k) us i=nZ t us i:=by
 obtain⟨h1,h2,h3⟩:=M8 (b:=b) (t:=t) k i;unfold nZ;rw[h1,h2,h3]
theorem M5{k j:Nat}(h:1+k<t.length):agAt (zR b t k j) ((1+k:Nat):Int)=KU b (agAt t ((1+k:Nat):Int)) j:=by
 unfold zR;rw[jo,if_pos ⟨by rw[Int.toNat_natCast],by rw[ow];exact h⟩]
theorem M7(k:Nat):zR b t k 0=oM b t k:=by
 unfold zR;apply List.ext_getElem?;intro i;rw[List.getElem?_set,ow]
 by_cases h:1+k=i
 ·subst h;rw[if_pos (rfl:1+k=1+k),wo,if_neg (by omega:¬(1≤1+k∧1+k≤k))]
  by_cases h2:1+k<t.length
  ·rw[if_pos h2,List.getElem?_eq_getElem h2]
   congr 1
   rw[uZ,List.getElem?_eq_getElem h2];unfold KU bP;simp
  ·rw[if_neg h2,List.getElem?_eq_none (by omega)]
 ·rw[if_neg h]
theorem PX(k:Nat):zR b t k (agAt t ((1+k:Nat):Int)).2.2.2.2.length=oM b t (k+1):=by
 show(oM b t k).set (1+k) (KU b (agAt t ((1+k:Nat):Int)) (agAt t ((1+k:Nat):Int)).2.2.2.2.length)=(oM b t k).set (1+k) (bn b (agAt t ((1+k:Nat):Int)))
 congr 1
 unfold KU bn;rw[pJ]
theorem M6{k j:Nat}(h:1+k<t.length)(hj:j<(agAt t ((1+k:Nat):Int)).2.2.2.2.length){z:Int}(hz:z=(elt (dflt uPort) (agAt t ((1+k:Nat):Int)).2.2.2.2 (j:Nat)).1+b):
  (zR b t k j).set (1+k) ((agAt (zR b t k j) ((1+k:Nat):Int)).1,(agAt (zR b t k j) ((1+k:Nat):Int)).2.1,(agAt (zR b t k j) ((1+k:Nat):Int)).2.2.1,(agAt (zR b t k j) ((1+k:Nat):Int)).2.2.2.1,(agAt (zR b t k j) ((1+k:Nat):Int)).2.2.2.2.set j (z,(elt (dflt uPort) (agAt (zR b t k j) ((1+k:Nat):Int)).2.2.2.2 (j:Nat)).2))=zR b t k (j+1):=by
 rw[M5 h];unfold zR;rw[List.set_set]
 congr 1
 unfold KU;rw[nJ hj,pK hj,hz]
theorem R3{k j:Nat}(h:1+k<t.length)(hj:j<(agAt t ((1+k:Nat):Int)).2.2.2.2.length):elt (dflt uPort) (agAt (zR b t k j) ((1+k:Nat):Int)).2.2.2.2 (j:Nat)=elt (dflt uPort) (agAt t ((1+k:Nat):Int)).2.2.2.2 (j:Nat):=by
 rw[M5 h];exact pK hj
theorem M9:(oM b t (t.length-1)).drop 1=(t.drop 1).map (bn b):=by
 apply List.ext_getElem?;intro i;rw[List.getElem?_drop,List.getElem?_map,List.getElem?_drop,wo]
 by_cases h:1+i<t.length
 ·rw[if_pos (by omega)]
 ·rw[List.getElem?_eq_none (by omega:t.length≤1+i)];split<;>rfl
def Hg(t:List NAgent)(us:List Value)(k:Nat):List (El (hol 5)):=(List.range k).map fun j=>nZ t us (j+1)
theorem Mq(us:List Value)(k:Nat):Hg t us (k+1)=Hg t us k++[nZ t us (1+k)]:=by
 unfold Hg;rw[List.range_succ,List.map_append,Nat.add_comm 1 k];rfl
theorem Pz(us:List Value)(k:Nat):(Hg t us k).length=k:=by unfold Hg;simp
theorem Py{us:List Value}(k:Nat):Hg t us k=(List.range k).map fun j=>nZ (oM b t k) us (j+1):=by
 unfold Hg;exact List.map_congr_left fun j _=>(KV _ _ _).symm
end
end Go.Tr
namespace Go.Tr
open Go Go.RowKit
def Wired(L:NPort→Prop)(xs:List NAgent):Prop:=∀p,L p→PortIn xs p∧L (peerN xs p)∧peerN xs (peerN xs p)=p∧peerN xs p≠p
theorem Wired.congr{L M:NPort→Prop}{xs:List NAgent}(h:Wired L xs)(e:∀p,M p↔L p):Wired M xs:=fun p hp=>by
 obtain⟨h1,h2,h3⟩:=h p ((e p).1 hp);exact⟨h1,(e _).2 h2,h3⟩
theorem Wired.cut{L:NPort→Prop}{xs:List NAgent}(h:Wired L xs){a:NPort}(ha:L a):Wired (fun p=>L p∧p≠a∧p≠peerN xs a) xs:=fun p ⟨hp,h1,h2⟩=>by
 obtain⟨k1,k2,k3,k4⟩:=h p hp;refine⟨k1,⟨k2,fun e=>h2 (by rw[←e,k3]),fun e=>h1 ?_⟩,k3,k4⟩;have:=congrArg (peerN xs) e;rw[k3,(h a ha).2.2.1]at this;exact this
theorem bV{p q:NPort}(h1:p.1=q.1)(h2:p.2=q.2):p=q:=by cases p;cases q;simp_all
theorem Wired.link{L:NPort→Prop}{xs:List NAgent}(h:Wired L xs){p q:NPort}(hp:PortIn xs p)(hq:PortIn xs q)(np:¬L p)(nq:¬L q)(hpq:p≠q):Wired (fun r=>L r∨r=p∨r=q) (aR xs p q):=fun r hr=>by
 have key:∀s,L s→PortIn xs s∧s≠p∧s≠q:=fun s hs=>⟨(h s hs).1,fun e=>np (e▸hs),fun e=>nq (e▸hs)⟩
 rcases hr with hr|rfl|rfl
 ·obtain⟨h1,h2,h3,h5⟩:=h r hr;obtain⟨_,n1,n2⟩:=key r hr;obtain⟨h4,n3,n4⟩:=key _ h2;have e1:peerN (aR xs p q) r=peerN xs r:=by rw[gV hp hq h1,if_neg n2.symm,if_neg n1.symm]
  refine⟨h1.link,?_,?_,?_⟩
  ·rw[e1];exact .inl h2
  ·rw[e1,gV hp hq h4,if_neg n4.symm,if_neg n3.symm,h3]
  ·rw[e1];exact h5
 ·have e1:peerN (aR xs r q) r=q:=by rw[gV hp hq hp,if_neg hpq.symm,if_pos rfl]
  have e2:peerN (aR xs r q) q=r:=by rw[gV hp hq hq,if_pos rfl]
  exact⟨hp.link,by rw[e1];exact .inr (.inr rfl),by rw[e1,e2],by rw[e1];exact hpq.symm⟩
 ·have e1:peerN (aR xs p r) r=p:=by rw[gV hp hq hq,if_pos rfl]
  have e2:peerN (aR xs p r) p=r:=by rw[gV hp hq hp,if_neg hpq.symm,if_pos rfl]
  exact⟨hq.link,by rw[e1];exact .inr (.inl rfl),by rw[e1,e2],by rw[e1];exact hpq⟩
theorem Wired.move{L:NPort→Prop}{xs:List NAgent}(h:Wired L xs){old now:NPort}(ho:L old)(hn:PortIn xs now)(nn:¬L now):Wired (fun r=>(L r∧r≠old)∨r=now) (bH xs old now):=by
 obtain⟨h1,h2,h3,h4⟩:=h old ho;have hne:peerN xs old≠now:=fun e=>nn (e▸h2)
 have:=(h.cut ho).link (p:=peerN xs old) (q:=now) (h _ h2).1 hn (fun e=>e.2.2 rfl) (fun e=>nn e.1) hne;refine this.congr fun r=> ?_
 constructor
 ·rintro(⟨k1,k2⟩|rfl)
  ·by_cases e:r=peerN xs old
   ·exact .inr (.inl e)
   ·exact .inl ⟨k1,k2,e⟩
  ·exact .inr (.inr rfl)
 ·rintro(⟨k1,k2,k3⟩|rfl|rfl)
  ·exact .inl ⟨k1,k2⟩
  ·exact .inl ⟨h2,h4⟩
  ·exact .inr rfl
theorem Wired.join{L:NPort→Prop}{xs:List NAgent}(h:Wired L xs){x y:NPort}(hx:L x)(hy:L y)(hxy:x≠y):Wired (fun r=>L r∧r≠x∧r≠y) (aB xs x y):=by
 obtain⟨h1,h2,h3,h4⟩:=h x hx;obtain⟨k1,k2,k3,k4⟩:=h y hy;unfold aB
 by_cases e:peerN xs x=y
 ·rw[show((peerN xs x).1==y.1&&(peerN xs x).2==y.2)=true by rw[e];simp];refine(h.cut hx).congr fun r=> ?_
  rw[e]
 ·rw[show((peerN xs x).1==y.1&&(peerN xs x).2==y.2)=false by
   cases hb:((peerN xs x).1==y.1&&(peerN xs x).2==y.2)with
   |false=>rfl
   |true=>
    simp only[Bool.and_eq_true,beq_iff_eq]at hb;exact absurd (bV hb.1 hb.2) e]
  rw[cond_false];have hyx:peerN xs y≠x:=fun h=>e (by rw[←h,k3])
  have hpp:peerN xs x≠peerN xs y:=fun h=>hxy (by rw[←h3,h,k3])
  have c1:=h.cut hx;have hy':L y∧y≠x∧y≠peerN xs x:=⟨hy,hxy.symm,fun h=>e h.symm⟩;have c2:=c1.cut (a:=y) hy';have:=c2.link (p:=peerN xs x) (q:=peerN xs y) (h _ h2).1 (h _ k2).1 (fun h=>h.1.2.2 rfl) (fun h=>h.2.2 rfl) hpp;refine this.congr fun r=> ?_
  constructor
  ·rintro⟨q1,q2,q3⟩
   by_cases e1:r=peerN xs x
   ·exact .inr (.inl e1)
   by_cases e2:r=peerN xs y
   ·exact .inr (.inr e2)
   ·exact .inl ⟨⟨q1,q2,e1⟩,q3,e2⟩
  ·rintro(⟨⟨q1,q2,q3⟩,q4,q5⟩|rfl|rfl)
   ·exact⟨q1,q2,q4⟩
   ·exact⟨h2,h4,e⟩
   ·exact⟨k2,hyx,k4⟩
theorem Wired.app{L:NPort→Prop}{xs:List NAgent}(h:Wired L xs)(zs:List NAgent):Wired L (xs++zs):=fun p hp=>by
 obtain⟨h1,h2,h3,h4⟩:=h p hp;have lt:∀{q:NPort},PortIn xs q→q.1.toNat<xs.length:=fun {q} hq=>by have:=hq.1;have:=hq.2.1;omega
 have e1:=kP (ys:=zs) (lt h1);exact⟨h1.app,by rw[e1];exact h2,by rw[e1,kP (lt (h _ h2).1),h3],by rw[e1];exact h4⟩
def Agree(D:Int→Prop)(xs ys:List NAgent):Prop:=xs.length=ys.length∧∀i:Int,0≤i→i<(xs.length:Nat)→¬D i→agAt xs i=agAt ys i
theorem Agree.port{D:Int→Prop}{xs ys:List NAgent}(h:Agree D xs ys){p:NPort}(hp:PortIn xs p)(hd:¬D p.1):PortIn ys p∧peerN ys p=peerN xs p:=by
 obtain⟨p1,p2,p3,p4⟩:=hp;have e:=h.2 p.1 p1 p2 hd;exact⟨⟨p1,by rw[←h.1];exact p2,p3,by rw[←e];exact p4⟩,by unfold peerN;rw[e]⟩
theorem Agree.setPort{D:Int→Prop}{xs ys:List NAgent}(h:Agree D xs ys){p:NPort}(q:NPort)(hp:PortIn xs p)(hd:¬D p.1):Agree D (ay xs p q) (ay ys p q):=by
 refine⟨by rw[bB,bB];exact h.1,fun i h0 h1 hi=> ?_⟩;rw[bB]at h1;rw[bZ,bZ,h.2 p.1 hp.1 hp.2.1 hd,h.2 i h0 h1 hi,h.1]
theorem Agree.link{D:Int→Prop}{xs ys:List NAgent}(h:Agree D xs ys){p q:NPort}(hp:PortIn xs p)(hq:PortIn xs q)(dp:¬D p.1)(dq:¬D q.1):Agree D (aR xs p q) (aR ys p q):=(h.setPort q hp dp).setPort p hq.set dq
theorem Agree.app{D:Int→Prop}{xs ys:List NAgent}(h:Agree D xs ys)(zs:List NAgent):Agree D (xs++zs) (ys++zs):=by
 refine⟨by rw[List.length_append,List.length_append,h.1],fun i h0 h1 hi=> ?_⟩;rw[List.length_append]at h1
 by_cases hl:i<(xs.length:Nat)
 ·rw[bE (by omega),bE (by rw[←h.1];omega)];exact h.2 i h0 hl hi
 ·have:∀ws:List NAgent,ws.length=xs.length→agAt (ws++zs) i=zs.getD (i.toNat-xs.length) (dflt uAgent):=fun ws hw=>by
   unfold agAt elt;rw[List.getD_eq_getElem?_getD,List.getElem?_append_right (by omega),hw,List.getD_eq_getElem?_getD]
  rw[this xs rfl,this ys h.1.symm]
theorem Agree.mono{D E:Int→Prop}{xs ys:List NAgent}(h:Agree D xs ys)(k:∀i,D i→E i):Agree E xs ys:=⟨h.1,fun i h0 h1 hi=>h.2 i h0 h1 fun hd=>hi (k i hd)⟩
theorem Agree.drop{D:Int→Prop}{xs ys:List NAgent}(h:Agree D xs ys){a:Int}(h0:0≤a)(hd:D a):Agree D xs (aK ys a):=by
 refine⟨by unfold aK;rw[List.length_set];exact h.1,fun i i0 i1 hi=> ?_⟩;unfold aK;rw[jo,if_neg (fun e=>hi (by(have:i=a:=by omega);rw[this];exact hd))];exact h.2 i i0 i1 hi
structure qO(D:Int→Prop)(L:NPort→Prop)(xs ys:List NAgent):Prop where
 ag:Agree D xs ys
 wi:Wired L xs
 al:∀p,L p→¬D p.1
section
variable {D:Int→Prop}{L:NPort→Prop}{xs ys:List NAgent}
theorem qO.peer(h:qO D L xs ys){p:NPort}(hp:L p):peerN ys p=peerN xs p:=(h.ag.port (h.wi p hp).1 (h.al p hp)).2
theorem qO.move(h:qO D L xs ys){old now:NPort}(ho:L old)(hn:PortIn xs now)(nn:¬L now)(dn:¬D now.1):qO D (fun r=>(L r∧r≠old)∨r=now) (bH xs old now) (bH ys old now):=by
 refine⟨?_,h.wi.move ho hn nn,fun p hp=> ?_⟩
 ·unfold bH;rw[h.peer ho];exact h.ag.link (h.wi _ (h.wi _ ho).2.1).1 hn (h.al _ (h.wi _ ho).2.1) dn
 ·rcases hp with hp|rfl
  ·exact h.al p hp.1
  ·exact dn
theorem qO.join(h:qO D L xs ys){x y:NPort}(hx:L x)(hy:L y)(hxy:x≠y):qO D (fun r=>L r∧r≠x∧r≠y) (aB xs x y) (aB ys x y):=by
 refine⟨?_,h.wi.join hx hy hxy,fun p hp=>h.al p hp.1⟩;unfold aB;rw[h.peer hx,h.peer hy];cases ((peerN xs x).1==y.1&&(peerN xs x).2==y.2)with
 |true=>exact h.ag
 |false=>exact h.ag.link (h.wi _ (h.wi _ hx).2.1).1 (h.wi _ (h.wi _ hy).2.1).1 (h.al _ (h.wi _ hx).2.1) (h.al _ (h.wi _ hy).2.1)
theorem qO.link(h:qO D L xs ys){p q:NPort}(hp:PortIn xs p)(hq:PortIn xs q)(np:¬L p)(nq:¬L q)(hpq:p≠q)(dp:¬D p.1)(dq:¬D q.1):qO D (fun r=>L r∨r=p∨r=q) (aR xs p q) (aR ys p q):=by
 refine⟨h.ag.link hp hq dp dq,h.wi.link hp hq np nq hpq,fun r hr=> ?_⟩;rcases hr with hr|rfl|rfl
 ·exact h.al r hr
 ·exact dp
 ·exact dq
theorem qO.app(h:qO D L xs ys)(zs:List NAgent):qO D L (xs++zs) (ys++zs):=⟨h.ag.app zs,h.wi.app zs,h.al⟩
theorem qO.congr(h:qO D L xs ys){M:NPort→Prop}(e:∀p,M p↔L p):qO D M xs ys:=⟨h.ag,h.wi.congr e,fun p hp=>h.al p ((e p).1 hp)⟩
theorem qO.cut(h:qO D L xs ys){a:NPort}(ha:L a):qO D (fun p=>L p∧p≠a∧p≠peerN xs a) xs ys:=⟨h.ag,h.wi.cut ha,fun p hp=>h.al p hp.1⟩
theorem qO.gone(h:qO D L xs ys)(a:Int)(h0:0≤a)(ha:∀p,L p→p.1≠a):qO (fun i=>D i∨i=a) L xs (aK ys a):=
 ⟨(h.ag.mono fun i hi=>.inl hi).drop h0 (.inr rfl),h.wi,fun p hp e=>e.elim (h.al p hp) (ha p hp)⟩
end
end Go.Tr
namespace Go.Tr
open Go Go.RowKit
def Live(D:Int→Prop)(xs:List NAgent):NPort→Prop:=fun p=>PortIn xs p∧¬D p.1
def St(D:Int→Prop)(xs ys:List NAgent):Prop:=qO D (Live D xs) xs ys
theorem PortIn.gF{xs:List NAgent}{p q r:NPort}:PortIn (aR xs p q) r↔PortIn xs r:=⟨PortIn.unlink,PortIn.link⟩
theorem PortIn.gH{xs:List NAgent}{p q r:NPort}:PortIn (bH xs p q) r↔PortIn xs r:=PortIn.gF
theorem PortIn.FK{xs:List NAgent}{p q r:NPort}:PortIn (aB xs p q) r↔PortIn xs r:=by
 unfold aB;cases ((peerN xs p).1==q.1&&(peerN xs p).2==q.2)with
 |true=>exact Iff.rfl
 |false=>exact PortIn.gF
theorem PortIn.bR{xs:List NAgent}{a:NAgent}{r:NPort}:PortIn (xs++[a]) r↔PortIn xs r∨(r.1=(xs.length:Nat)∧0≤r.2∧r.2<(a.ports.length:Nat)):=by
 constructor
 ·rintro⟨h1,h2,h3,h4⟩;rw[List.length_append,List.length_singleton]at h2
  by_cases hl:r.1.toNat<xs.length
  ·rw[bE hl]at h4;exact .inl ⟨h1,by omega,h3,h4⟩
  ·have e:r.1.toNat=xs.length:=by omega
   rw[mI e]at h4;exact .inr ⟨by omega,h3,h4⟩
 ·rintro(h|⟨h1,h2,h3⟩)
  ·exact h.app
  ·refine⟨by omega,by rw[List.length_append,List.length_singleton];omega,h2,?_⟩;rw[mI (by omega)];exact h3
structure jT(D:Int→Prop)(xs:List NAgent)(x y:Int):Prop where
 ne:x≠y
 lx:¬D x
 ly:¬D y
 px:PortIn xs (x,0)
 py:PortIn xs (y,0)
 w:peerN xs (x,0)=(y,0)
section
variable {D:Int→Prop}{xs ys:List NAgent}{x y:Int}
theorem St.open_(h:St D xs ys)(k:jT D xs x y):qO D (fun p=>(PortIn xs p∧¬D p.1)∧p≠(x,0)∧p≠(y,0)) xs ys:=by
 have:=h.cut (a:=(x,0)) ⟨k.px,k.lx⟩;rw[k.w]at this;exact this
theorem bL{a b s t:Int}(h:a≠b∨s≠t):((a,s):NPort)≠(b,t):=fun e=>by
 injection e with e1 e2
 rcases h with h|h
 ·exact h e1
 ·exact h e2
theorem St.joins(h:St D xs ys)(k:jT D xs x y)(hx:(agAt xs x).2.2.2.2.length=3)(hy:(agAt xs y).2.2.2.2.length=3):
  St (fun i=>D i∨i=x∨i=y) (aB (aB xs (x,1) (y,1)) (x,2) (y,2)) (aK (aK (aB (aB ys (x,1) (y,1)) (x,2) (y,2)) x) y):=by
 have inx:∀s:Int,0≤s→s<3→PortIn xs (x,s):=fun s h0 h1=>⟨k.px.1,k.px.2.1,h0,by show s<((agAt xs x).2.2.2.2.length:Nat);omega⟩
 have iny:∀s:Int,0≤s→s<3→PortIn xs (y,s):=fun s h0 h1=>⟨k.py.1,k.py.2.1,h0,by show s<((agAt xs y).2.2.2.2.length:Nat);omega⟩
 have s0:=h.open_ k;have s1:=s0.join (x:=(x,1)) (y:=(y,1)) ⟨⟨inx 1 (by decide) (by decide),k.lx⟩,bL (.inr (by decide)),bL (.inl k.ne)⟩ ⟨⟨iny 1 (by decide) (by decide),k.ly⟩,bL (.inl k.ne.symm),bL (.inr (by decide))⟩ (bL (.inl k.ne));have s2:=s1.join (x:=(x,2)) (y:=(y,2)) ⟨⟨⟨inx 2 (by decide) (by decide),k.lx⟩,bL (.inr (by decide)),bL (.inl k.ne)⟩,bL (.inr (by decide)),bL (.inl k.ne)⟩ ⟨⟨⟨iny 2 (by decide) (by decide),k.ly⟩,bL (.inl k.ne.symm),bL (.inr (by decide))⟩,bL (.inl k.ne.symm),bL (.inr (by decide))⟩ (bL (.inl k.ne))
 have key:∀p:NPort,Live (fun i=>D i∨i=x∨i=y) (aB (aB xs (x,1) (y,1)) (x,2) (y,2)) p↔((((PortIn xs p∧¬D p.1)∧p≠(x,0)∧p≠(y,0))∧p≠(x,1)∧p≠(y,1))∧p≠(x,2)∧p≠(y,2)):=fun p=>by
  unfold Live;rw[PortIn.FK,PortIn.FK];constructor
  ·rintro⟨h1,h2⟩;have h3:p.1≠x:=fun e=>h2 (.inr (.inl e))
   have h4:p.1≠y:=fun e=>h2 (.inr (.inr e))
   have nx:∀s,p≠(x,s):=fun s e=>h3 (by rw[e])
   have ny:∀s,p≠(y,s):=fun s e=>h4 (by rw[e])
   exact⟨⟨⟨⟨h1,fun e=>h2 (.inl e)⟩,nx 0,ny 0⟩,nx 1,ny 1⟩,nx 2,ny 2⟩
  ·rintro⟨⟨⟨⟨h1,h2⟩,x0,y0⟩,x1,y1⟩,x2,y2⟩;refine⟨h1,fun e=> ?_⟩;obtain⟨q1,q2,q3,q4⟩:=h1;rcases e with e|e|e
   ·exact h2 e
   ·rw[e]at q4;have q5:p.2<3:=by(have:p.2<((agAt xs x).2.2.2.2.length:Nat):=q4);omega
    have:p.2=0∨p.2=1∨p.2=2:=by omega
    rcases this with e2|e2|e2
    ·exact x0 (bV e e2)
    ·exact x1 (bV e e2)
    ·exact x2 (bV e e2)
   ·rw[e]at q4;have q5:p.2<3:=by(have:p.2<((agAt xs y).2.2.2.2.length:Nat):=q4);omega
    have:p.2=0∨p.2=1∨p.2=2:=by omega
    rcases this with e2|e2|e2
    ·exact y0 (bV e e2)
    ·exact y1 (bV e e2)
    ·exact y2 (bV e e2)
 have s3:=s2.congr key;have s4:=(s3.gone x k.px.1 fun p hp e=>hp.2 (.inr (.inl e))).gone y k.py.1 fun p hp e=>hp.2 (.inr (.inr e))
 exact⟨s4.ag.mono fun i hi=>by rcases hi with(hi|hi)|hi<;>simp_all,s4.wi,fun p hp=>hp.2⟩
end
end Go.Tr
namespace Go.Tr
open Go Go.RowKit
def SX(D:Int→Prop)(X:NPort→Prop)(xs ys:List NAgent):Prop:=qO D (fun p=>(PortIn xs p∧¬D p.1)∧¬X p) xs ys
section
variable {D:Int→Prop}{X Y:NPort→Prop}{xs ys:List NAgent}
theorem SX.congr(h:SX D X xs ys)(e:∀p,PortIn xs p→¬D p.1→(Y p↔X p)):SX D Y xs ys:=qO.congr h fun p=>by
 constructor
 ·rintro⟨⟨h1,h2⟩,h3⟩;exact⟨⟨h1,h2⟩,fun h4=>h3 ((e p h1 h2).2 h4)⟩
 ·rintro⟨⟨h1,h2⟩,h3⟩;exact⟨⟨h1,h2⟩,fun h4=>h3 ((e p h1 h2).1 h4)⟩
theorem SX.add(h:SX D X xs ys)(a:NAgent):SX D (fun p=>X p∨p.1=(xs.length:Nat)) (xs++[a]) (ys++[a]):=qO.congr (qO.app h [a]) fun p=>by
 rw[PortIn.bR];constructor
 ·rintro⟨⟨h1,h2⟩,h3⟩;rcases h1 with h1|h1
  ·exact⟨⟨h1,h2⟩,fun h4=>h3 (.inl h4)⟩
  ·exact absurd (.inr h1.1) h3
 ·rintro⟨⟨h1,h2⟩,h3⟩;refine⟨⟨.inl h1,h2⟩,fun h4=> ?_⟩;rcases h4 with h4|h4
  ·exact h3 h4
  ·have:=h1.2.1;omega
theorem SX.move(h:SX D X xs ys){old now:NPort}(ho:PortIn xs old)(od:¬D old.1)(ox:¬X old)(hn:PortIn xs now)(nd:¬D now.1)(nx:X now):SX D (fun p=>(X p∨p=old)∧p≠now) (bH xs old now) (bH ys old now):=by
 refine qO.congr (qO.move h (old:=old) (now:=now) ⟨⟨ho,od⟩,ox⟩ hn (fun k=>k.2 nx) nd) fun p=> ?_
 rw[PortIn.gH];constructor
 ·rintro⟨⟨h1,h2⟩,h3⟩
  by_cases e:p=now
  ·exact .inr e
  ·exact .inl ⟨⟨⟨h1,h2⟩,fun k=>h3 ⟨.inl k,e⟩⟩,fun k=>h3 ⟨.inr k,e⟩⟩
 ·rintro(⟨⟨⟨h1,h2⟩,h3⟩,h4⟩|rfl)
  ·exact⟨⟨h1,h2⟩,fun k=>k.1.elim h3 h4⟩
  ·exact⟨⟨hn,nd⟩,fun k=>k.2 rfl⟩
theorem SX.link(h:SX D X xs ys){p q:NPort}(hp:PortIn xs p)(pd:¬D p.1)(px:X p)(hq:PortIn xs q)(qd:¬D q.1)(qx:X q)(hpq:p≠q):SX D (fun r=>X r∧r≠p∧r≠q) (aR xs p q) (aR ys p q):=by
 refine qO.congr (qO.link h hp hq (fun k=>k.2 px) (fun k=>k.2 qx) hpq pd qd) fun r=> ?_
 rw[PortIn.gF];constructor
 ·rintro⟨⟨h1,h2⟩,h3⟩
  by_cases e1:r=p
  ·exact .inr (.inl e1)
  by_cases e2:r=q
  ·exact .inr (.inr e2)
  ·exact .inl ⟨⟨h1,h2⟩,fun k=>h3 ⟨k,e1,e2⟩⟩
 ·rintro(⟨⟨h1,h2⟩,h3⟩|rfl|rfl)
  ·exact⟨⟨h1,h2⟩,fun k=>h3 k.1⟩
  ·exact⟨⟨hp,pd⟩,fun k=>k.2.1 rfl⟩
  ·exact⟨⟨hq,qd⟩,fun k=>k.2.2 rfl⟩
theorem SX.start{x y:Int}(h:St D xs ys)(k:jT D xs x y):SX D (fun p=>p=(x,0)∨p=(y,0)) xs ys:=qO.congr (h.open_ k) fun p=>by
 constructor
 ·rintro⟨h1,h3⟩;exact⟨h1,fun e=>h3 (.inl e),fun e=>h3 (.inr e)⟩
 ·rintro⟨h1,h2,h3⟩;exact⟨h1,fun e=>e.elim h2 h3⟩
theorem SX.KC{x y:Int}(h:SX D X xs ys)(x0:0≤x)(y0:0≤y)(e:∀p,PortIn xs p→¬D p.1→(X p↔p.1=x∨p.1=y)):St (fun i=>D i∨i=x∨i=y) xs (aK (aK ys x) y):=by
 have s3:qO D (Live (fun i=>D i∨i=x∨i=y) xs) xs ys:=qO.congr h fun p=>by
  unfold Live;constructor
  ·rintro⟨h1,h2⟩;have h3:¬D p.1:=fun k=>h2 (.inl k)
   exact⟨⟨h1,h3⟩,fun k=>h2 (.inr ((e p h1 h3).1 k))⟩
  ·rintro⟨⟨h1,h2⟩,h3⟩;exact⟨h1,fun k=>k.elim h2 fun k=>h3 ((e p h1 h2).2 k)⟩
 have s4:=(s3.gone x x0 fun p hp e=>hp.2 (.inr (.inl e))).gone y y0 fun p hp e=>hp.2 (.inr (.inr e))
 exact⟨s4.ag.mono fun i hi=>by rcases hi with(hi|hi)|hi<;>simp_all,s4.wi,fun p hp=>hp.2⟩
theorem SX.Va{x:Int}(h:SX D X xs ys)(x0:0≤x)(e:∀p,PortIn xs p→¬D p.1→(X p↔p.1=x)):St (fun i=>D i∨i=x) xs (aK ys x):=by
 have s3:qO D (Live (fun i=>D i∨i=x) xs) xs ys:=qO.congr h fun p=>by
  unfold Live;constructor
  ·rintro⟨h1,h2⟩;have h3:¬D p.1:=fun k=>h2 (.inl k)
   exact⟨⟨h1,h3⟩,fun k=>h2 (.inr ((e p h1 h3).1 k))⟩
  ·rintro⟨⟨h1,h2⟩,h3⟩;exact⟨h1,fun k=>k.elim h2 fun k=>h3 ((e p h1 h2).2 k)⟩
 have s4:=s3.gone x x0 fun p hp e=>hp.2 (.inr e)
 exact⟨s4.ag,s4.wi,fun p hp=>hp.2⟩
theorem SX.len(h:SX D X xs ys):xs.length=ys.length:=h.ag.1
theorem SX.at_(h:SX D X xs ys){i:Int}(h0:0≤i)(h1:i<(xs.length:Nat))(hd:¬D i):agAt ys i=agAt xs i:=(h.ag.2 i h0 h1 hd).symm
theorem Fu{y:Int}{p:NPort}(hlt:p.1.toNat<xs.length):∀{k:Nat},PortIn (nW y xs k) p→PortIn xs p
 |0,h=>h
 |k+1,h=>by
  unfold nW at h;rw[PortIn.gH,PortIn.bR,iD]at h;rcases h with h|⟨h,_⟩
  ·exact Fu hlt h
  ·omega
theorem Ml{x y:Int}(h:St D xs ys)(k:jT D xs x y)(hD:∀i,D i→i<(xs.length:Nat)):∀n:Nat,n≤(agAt xs y).2.2.2.2.length-1→SX D (fun p=>p=(x,0)∨(p.1=y∧p.2≤(n:Nat))) (nW y xs n) (nW y ys n)
 |0,_=>(SX.start h k).congr fun p hp _=>by
  constructor
  ·rintro(e|⟨e1,e2⟩)
   ·exact .inl e
   ·exact .inr (bV e1 (by have:=hp.2.2.1;show p.2=0;omega))
  ·rintro(e|e)
   ·exact .inl e
   ·exact .inr (by rw[e];exact⟨rfl,Int.le_refl _⟩)
 |n+1,hn=>by
  have ih:=Ml h k hD n (by omega);have hl:(nW y xs n).length=xs.length+n:=iD y xs n;have hyl:=k.py.2.1;have hy0:=k.py.1;have hpy:PortIn xs (y,((n+1:Nat):Int)):=⟨hy0,hyl,by omega,by show((n+1:Nat):Int)<((agAt xs y).2.2.2.2.length:Nat);omega⟩;have hin:=lC (y:=y) hpy n;have s1:=ih.add (aJ 5 0 0 [] 1);have hnew:PortIn (nW y xs n++[aJ 5 0 0 [] 1]) (((xs.length+n:Nat):Int),0):=PortIn.bR.2 (.inr ⟨by rw[hl],Int.le_refl _,show(0:Int)<1 by decide⟩)
  have s2:=s1.move (old:=(y,((n+1:Nat):Int))) (now:=(((xs.length+n:Nat):Int),0)) hin.app k.ly (by
   rintro((e|⟨_,e⟩)|e)
   ·exact bL (.inl k.ne.symm) e
   ·have:((n+1:Nat):Int)≤(n:Nat):=e;omega
   ·have:y=((nW y xs n).length:Nat):=e;rw[hl]at this;omega) hnew (fun e=>by have:=hD _ e;show False;have h2:((xs.length+n:Nat):Int)<(xs.length:Nat):=this;omega) (.inr (by rw[hl]))
  have hyx:(nW y ys n++[aJ 5 0 0 [] 1])=nW y ys n++[aJ 5 0 0 [] 1]:=rfl
  have s3:SX D (fun p=>p=(x,0)∨(p.1=y∧p.2≤((n+1:Nat):Int))) (bH (nW y xs n++[aJ 5 0 0 [] 1]) (y,((n+1:Nat):Int)) (((xs.length+n:Nat):Int),0)) (bH (nW y ys n++[aJ 5 0 0 [] 1]) (y,((n+1:Nat):Int)) (((xs.length+n:Nat):Int),0)):=s2.congr fun p hp _=>by
   rw[PortIn.gH,PortIn.bR,hl]at hp;rw[hl];constructor
   ·rintro(rfl|⟨e1,e2⟩)
    ·refine⟨.inl (.inl (.inl rfl)),bL (.inl ?_)⟩;have:=k.px.2.1;show x≠((xs.length+n:Nat):Int);have h2:x<(xs.length:Nat):=this;omega
    ·refine⟨?_,fun e=> ?_⟩
     ·by_cases e3:p.2=((n+1:Nat):Int)
      ·exact .inr (bV e1 e3)
      ·exact .inl (.inl (.inr ⟨e1,by omega⟩))
     ·rw[e]at e1;have:((xs.length+n:Nat):Int)=y:=e1;have h2:y<(xs.length:Nat):=hyl;omega
   ·rintro⟨((e|⟨e1,e2⟩)|e)|e,e3⟩
    ·exact .inl e
    ·exact .inr ⟨e1,by omega⟩
    ·rcases hp with hp|⟨q1,q2,q3⟩
     ·have h2:=hp.2.1;rw[hl]at h2;have e':p.1=((xs.length+n:Nat):Int):=e;omega
     ·refine absurd (bV (q:=(((xs.length+n:Nat):Int),0)) e ?_) e3;have:p.2<1:=q3;show p.2=0;omega
    ·exact .inr (by rw[e];exact⟨rfl,Int.le_refl _⟩)
  show SX D _ (nW y xs (n+1)) (nW y ys (n+1));unfold nW;rw[←h.ag.1];exact s3
theorem St.erase{x y:Int}(h:St D xs ys)(k:jT D xs x y)(hD:∀i,D i→i<(xs.length:Nat))(hx:(agAt xs x).2.2.2.2.length=1):St (fun i=>D i∨i=x∨i=y) (eG xs y) (aK (aK (eG ys y) x) y):=by
 have e:agAt ys y=agAt xs y:=(h.ag.2 y k.py.1 k.py.2.1 k.ly).symm;unfold eG;rw[e];have s:=Ml h k hD ((agAt xs y).2.2.2.2.length-1) (Nat.le_refl _);refine s.KC k.px.1 k.py.1 fun p hp _=> ?_
 have hport:p.1=x∨p.1=y→PortIn xs p:=fun hc=>by
  have hlt:p.1.toNat<xs.length:=by
   have h1:=k.px.2.1;have h2:=k.py.2.1;have h3:=k.px.1;have h4:=k.py.1
   have g1:x<(xs.length:Nat):=h1;have g2:y<(xs.length:Nat):=h2;have g3:0≤x:=h3;have g4:0≤y:=h4;rcases hc with hc|hc<;>omega
  exact Fu hlt hp
 constructor
 ·rintro(rfl|⟨e1,_⟩)
  ·exact .inl rfl
  ·exact .inr e1
 ·intro hc;obtain⟨q1,q2,q3,q4⟩:=hport hc;rcases hc with hc|hc
  ·rw[hc]at q4;have:p.2<((agAt xs x).2.2.2.2.length:Nat):=q4;exact .inl (bV hc (by show p.2=0;omega))
  ·rw[hc]at q4;have:p.2<((agAt xs y).2.2.2.2.length:Nat):=q4;exact .inr ⟨hc,by omega⟩
theorem zN{p:NPort}(h:PortIn xs p):p.1.toNat<xs.length:=by have:=h.1;have:=h.2.1;omega
theorem St.operate{x y:Int}(h:St D xs ys)(k:jT D xs x y)(hD:∀i,D i→i<(xs.length:Nat))(hx:(agAt xs x).2.2.2.2.length=1)(h7:(agAt xs y).1=7→(agAt xs y).2.2.2.2.length=3)(h8:(agAt xs y).1≠7→(agAt xs y).2.2.2.2.length=2):
  St (fun i=>D i∨i=x∨i=y) (aN xs x y) (aK (aK (aN ys x y) x) y):=by
 have ey:agAt ys y=agAt xs y:=(h.ag.2 y k.py.1 k.py.2.1 k.ly).symm;have ex:agAt ys x=agAt xs x:=(h.ag.2 x k.px.1 k.px.2.1 k.lx).symm;have hn:¬D (xs.length:Nat):=fun e=>by have:=hD _ e;omega
 have xl:x<(xs.length:Nat):=k.px.2.1;have yl:y<(xs.length:Nat):=k.py.2.1;have iny:∀s:Int,0≤s→s<((agAt xs y).2.2.2.2.length:Nat)→PortIn xs (y,s):=fun s h0 h1=>⟨k.py.1,k.py.2.1,h0,h1⟩
 have fin:∀(X:NPort→Prop) (a:NAgent) (zs:List NAgent),(∀p,PortIn zs p↔PortIn (xs++[a]) p)→(∀p,PortIn (xs++[a]) p→(X p↔(PortIn xs p∧(p.1=x∨p.1=y))))→∀p,PortIn zs p→¬D p.1→(X p↔p.1=x∨p.1=y):=fun X a zs hz hX p hp _=>by
  rw[hX p ((hz p).1 hp)];constructor
  ·exact fun e=>e.2
  ·intro e;refine⟨?_,e⟩;rcases PortIn.bR.1 ((hz p).1 hp)with q|⟨q,_⟩
   ·exact q
   ·rcases e with e|e<;>omega
 unfold aN;rw[ex,ey,←h.ag.1];cases hk:(agAt xs y).1==7 with
 |true=>
  have h3:=h7 (by simpa using hk);simp only[cond_true];have i1:=iny 1 (by decide) (by omega);have i2:=iny 2 (by decide) (by omega);have s1:=(SX.start h k).add (aJ 8 (agAt xs y).2.1 (agAt xs y).2.2.1 [(agAt xs x).2.2.1] 2);have n0:PortIn (xs++[aJ 8 (agAt xs y).2.1 (agAt xs y).2.2.1 [(agAt xs x).2.2.1] 2]) ((xs.length:Nat),0):=PortIn.bR.2 (.inr ⟨rfl,Int.le_refl _,show(0:Int)<2 by decide⟩);have n1:PortIn (xs++[aJ 8 (agAt xs y).2.1 (agAt xs y).2.2.1 [(agAt xs x).2.2.1] 2]) ((xs.length:Nat),1):=PortIn.bR.2 (.inr ⟨rfl,show(0:Int)≤1 by decide,show(1:Int)<2 by decide⟩)
  have s2:=s1.move (old:=(y,1)) (now:=((xs.length:Nat),0)) i1.app k.ly (by
   rintro((e|e)|e)
   ·exact bL (.inl k.ne.symm) e
   ·exact bL (.inr (by decide)) e
   ·have:y=(xs.length:Nat):=e;omega) n0 hn (.inr rfl)
  have s3:=s2.move (old:=(y,2)) (now:=((xs.length:Nat),1)) i2.app.move k.ly (by
   rintro⟨((e|e)|e)|e,_⟩
   ·exact bL (.inl k.ne.symm) e
   ·exact bL (.inr (by decide)) e
   ·have:y=(xs.length:Nat):=e;omega
   ·exact bL (.inr (by decide)) e) n1.move hn ⟨.inl (.inr rfl),bL (.inr (by decide))⟩
  refine s3.KC k.px.1 k.py.1 (fin _ _ _ (fun p=>by rw[PortIn.gH,PortIn.gH]) fun p hp=> ?_)
  have hA:p.1=(xs.length:Nat)→p=(((xs.length:Nat):Int),0)∨p=(((xs.length:Nat):Int),1):=fun e=>by
   rcases PortIn.bR.1 hp with q|⟨_,q2,q3⟩
   ·have:=q.2.1;omega
   ·have:p.2<2:=q3;have:p.2=0∨p.2=1:=by omega
    rcases this with e2|e2
    ·exact .inl (bV e e2)
    ·exact .inr (bV e e2)
  constructor
  ·rintro⟨(⟨((e|e)|e)|e,e2⟩|e),e3⟩
   ·rw[e];exact⟨k.px,.inl rfl⟩
   ·rw[e];exact⟨k.py,.inr rfl⟩
   ·rcases hA e with e4|e4
    ·exact absurd e4 e2
    ·exact absurd e4 e3
   ·rw[e];exact⟨i1,.inr rfl⟩
   ·rw[e];exact⟨i2,.inr rfl⟩
  ·rintro⟨q,e⟩;have ne:∀s,p≠(((xs.length:Nat):Int),s):=fun s e2=>by have:=q.2.1;rw[e2]at this;have h3:((xs.length:Nat):Int)<(xs.length:Nat):=this;omega
   refine⟨?_,ne 1⟩;obtain⟨q1,q2,q3,q4⟩:=q;rcases e with e|e
   ·rw[e]at q4;have:p.2<((agAt xs x).2.2.2.2.length:Nat):=q4;exact .inl ⟨.inl (.inl (.inl (bV e (by show p.2=0;omega)))),ne 0⟩
   ·rw[e]at q4;have:p.2<((agAt xs y).2.2.2.2.length:Nat):=q4;have:p.2=0∨p.2=1∨p.2=2:=by omega
    rcases this with e2|e2|e2
    ·exact .inl ⟨.inl (.inl (.inr (bV e e2))),ne 0⟩
    ·exact .inl ⟨.inr (bV e e2),ne 0⟩
    ·exact .inr (bV e e2)
 |false=>
  have h3:=h8 (by simpa using hk);simp only[cond_false];have i1:=iny 1 (by decide) (by omega);generalize hv:r9 (agAt xs y).2.2.1 (gu (agAt xs y).2.2.2.1 0) (agAt xs x).2.2.1=v;have s1:=(SX.start h k).add (aJ 6 0 v [] 1);have n0:PortIn (xs++[aJ 6 0 v [] 1]) ((xs.length:Nat),0):=PortIn.bR.2 (.inr ⟨rfl,Int.le_refl _,show(0:Int)<1 by decide⟩)
  have s2:=s1.move (old:=(y,1)) (now:=((xs.length:Nat),0)) i1.app k.ly (by
   rintro((e|e)|e)
   ·exact bL (.inl k.ne.symm) e
   ·exact bL (.inr (by decide)) e
   ·have:y=(xs.length:Nat):=e;omega) n0 hn (.inr rfl)
  refine s2.KC k.px.1 k.py.1 (fin _ _ _ (fun p=>by rw[PortIn.gH]) fun p hp=> ?_)
  have hA:p.1=(xs.length:Nat)→p=(((xs.length:Nat):Int),0):=fun e=>by
   rcases PortIn.bR.1 hp with q|⟨_,q2,q3⟩
   ·have:=q.2.1;omega
   ·have:p.2<1:=q3;exact bV e (by show p.2=0;omega)
  constructor
  ·rintro⟨((e|e)|e)|e,e2⟩
   ·rw[e];exact⟨k.px,.inl rfl⟩
   ·rw[e];exact⟨k.py,.inr rfl⟩
   ·exact absurd (hA e) e2
   ·rw[e];exact⟨i1,.inr rfl⟩
  ·rintro⟨q,e⟩;have ne:∀s,p≠(((xs.length:Nat):Int),s):=fun s e2=>by have:=q.2.1;rw[e2]at this;have h3:((xs.length:Nat):Int)<(xs.length:Nat):=this;omega
   refine⟨?_,ne 0⟩;obtain⟨q1,q2,q3,q4⟩:=q;rcases e with e|e
   ·rw[e]at q4;have:p.2<((agAt xs x).2.2.2.2.length:Nat):=q4;exact .inl (.inl (.inl (bV e (by show p.2=0;omega))))
   ·rw[e]at q4;have:p.2<((agAt xs y).2.2.2.2.length:Nat):=q4;have:p.2=0∨p.2=1:=by omega
    rcases this with e2|e2
    ·exact .inl (.inl (.inr (bV e e2)))
    ·exact .inr (bV e e2)
end
end Go.Tr
namespace Go.Tr
open Go Go.RowKit
section
variable {D:Int→Prop}{xs ys:List NAgent}{x y:Int}
theorem mo(lab c d:Int)(xs:List NAgent):∀k,(aF lab c d xs k).length=xs.length+k
 |0=>rfl
 |k+1=>by unfold aF sP;rw[gD,gD,List.length_append,mo lab c d xs k];rfl
theorem jJ{lab c d:Int}{xs:List NAgent}{p:NPort}(h:PortIn xs p):∀k,PortIn (aF lab c d xs k) p
 |0=>h
 |k+1=>(jJ h k).app.link.link
theorem Fx{P Q:List NAgent}{lab:Int}{n m:Nat}(hn:P.length=n+2)(hx:x<(n:Nat))(hy:y<(n:Nat))(hD:∀i,D i→i<(n:Nat))(hm:∀s:Int,0≤s→s<(m:Nat)→PortIn P ((n:Nat),s)∧PortIn P ((n+1:Nat),s))
  (h:SX D (fun p=>p=(x,0)∨p=(y,0)∨p.1=(n:Nat)∨p.1=((n+1:Nat):Int)) P Q):∀k:Nat,k+1≤m→
  SX D (fun p=>p=(x,0)∨p=(y,0)∨((p.1=(n:Nat)∨p.1=((n+1:Nat):Int))∧(p.2=0∨(k:Int)<p.2))∨(((n+2:Nat):Int)≤p.1∧p.2=0)) (aF lab ((n:Nat):Int) ((n+1:Nat):Int) P k) (aF lab ((n:Nat):Int) ((n+1:Nat):Int) Q k)
 |0,_=>h.congr fun p hp _=>by
  obtain⟨q1,q2,q3,_⟩:=hp;obtain⟨a,s⟩:=p;rw[hn]at q2;simp only[Prod.mk.injEq]at*;omega
 |k+1,hk=>by
  have ih:=Fx (lab:=lab) hn hx hy hD hm h k (by omega);have hl:(aF lab ((n:Nat):Int) ((n+1:Nat):Int) P k).length=n+2+k:=by rw[mo,hn]
  have hlq:(aF lab ((n:Nat):Int) ((n+1:Nat):Int) Q k).length=n+2+k:=by rw[←ih.len,hl]
  have nd:∀i:Nat,n≤i→¬D (i:Nat):=fun i hi e=>by have:=hD _ e;omega
  obtain⟨hc,hd⟩:=hm ((k+1:Nat):Int) (by omega) (by omega);have hc1:=jJ (lab:=lab) (c:=((n:Nat):Int)) (d:=((n+1:Nat):Int)) hc k;have hd1:=jJ (lab:=lab) (c:=((n:Nat):Int)) (d:=((n+1:Nat):Int)) hd k;generalize hA:aF lab ((n:Nat):Int) ((n+1:Nat):Int) P k=A at*;generalize hB:aF lab ((n:Nat):Int) ((n+1:Nat):Int) Q k=B at*;have s1:=ih.add (aJ 4 lab 0 [] 3);have f1:PortIn (A++[aJ 4 lab 0 [] 3]) ((A.length:Nat),1):=PortIn.bR.2 (.inr ⟨rfl,show(0:Int)≤1 by decide,show(1:Int)<3 by decide⟩)
  have f2:PortIn (A++[aJ 4 lab 0 [] 3]) ((A.length:Nat),2):=PortIn.bR.2 (.inr ⟨rfl,show(0:Int)≤2 by decide,show(2:Int)<3 by decide⟩);rw[hl]at f1 f2 s1;have s2:=s1.link (p:=((n+2+k:Nat),1)) (q:=((n:Nat),((k+1:Nat):Int))) f1 (nd _ (by omega)) (.inr rfl) hc1.app (nd _ (Nat.le_refl _)) (.inl (.inr (.inr (.inl ⟨.inl rfl,.inr (show(k:Int)<((k+1:Nat):Int) by omega)⟩)))) (bL (.inl (by omega)))
  have s3:=s2.link (p:=((n+2+k:Nat),2)) (q:=((n+1:Nat),((k+1:Nat):Int))) f2.link (nd _ (by omega)) ⟨.inr rfl,bL (.inr (by decide)),bL (.inl (by omega))⟩ hd1.app.link (nd _ (by omega))
   ⟨.inl (.inr (.inr (.inl ⟨.inr rfl,.inr (show(k:Int)<((k+1:Nat):Int) by omega)⟩))),bL (.inl (by omega)),bL (.inl (by omega))⟩ (bL (.inl (by omega)))
  have e1:aF lab ((n:Nat):Int) ((n+1:Nat):Int) P (k+1)=aR (aR (A++[aJ 4 lab 0 [] 3]) ((n+2+k:Nat),1) ((n:Nat),((k+1:Nat):Int))) ((n+2+k:Nat),2) ((n+1:Nat),((k+1:Nat):Int)):=by
   rw[←hl,←hA];rfl
  have e2:aF lab ((n:Nat):Int) ((n+1:Nat):Int) Q (k+1)=aR (aR (B++[aJ 4 lab 0 [] 3]) ((n+2+k:Nat),1) ((n:Nat),((k+1:Nat):Int))) ((n+2+k:Nat),2) ((n+1:Nat),((k+1:Nat):Int)):=by
   rw[←hlq,←hB];rfl
  rw[e1,e2];refine s3.congr fun p hp _=> ?_
  rw[PortIn.gF,PortIn.gF,PortIn.bR,hl]at hp
  have hp':p.1<((n+2+k:Nat):Int)∨(p.1=((n+2+k:Nat):Int)∧0≤p.2∧p.2<3):=by
   rcases hp with hp|hp
   ·have:=hp.2.1;rw[hl]at this;exact .inl this
   ·exact .inr hp
  have h0:0≤p.2:=by
   rcases hp with hp|hp
   ·exact hp.2.2.1
   ·exact hp.2.1
  obtain⟨a,s⟩:=p;simp only[Prod.mk.injEq,ne_eq]at*;omega
theorem Cm{P Q:List NAgent}{b m:Nat}{X:NPort→Prop}(hX:∀k:Nat,k<m→¬X (y,((k:Nat):Int)+1)∧X (((b+k:Nat):Int),0))(hy:PortIn P (y,0)∧∀k:Nat,k<m→PortIn P (y,((k:Nat):Int)+1)∧PortIn P (((b+k:Nat):Int),0))(yd:¬D y)(bd:∀k:Nat,¬D ((b+k:Nat):Int))(yb:y<(b:Nat))(h:SX D X P Q):
  ∀k:Nat,k≤m→SX D (fun p=>(X p∨(p.1=y∧1≤p.2∧p.2≤(k:Nat)))∧¬((b:Int)≤p.1∧p.1<((b+k:Nat):Int)∧p.2=0)) (bC y b P k) (bC y b Q k)
 |0,_=>h.congr fun p hp _=>by
  constructor
  ·rintro⟨e|e,_⟩
   ·exact e
   ·omega
  ·intro e;exact⟨.inl e,fun k=>by omega⟩
 |k+1,hk=>by
  have ih:=Cm hX hy yd bd yb h k (by omega);obtain⟨x1,x2⟩:=hX k (by omega);obtain⟨y1,y2⟩:=hy.2 k (by omega)
  have s1:=ih.move (old:=(y,((k:Nat):Int)+1)) (now:=(((b+k:Nat):Int),0)) (dh y1 k) yd (by
   rintro⟨e|⟨_,_,e⟩,_⟩
   ·exact x1 e
   ·have:((k:Nat):Int)+1≤(k:Nat):=e;omega) (dh y2 k) (bd k) ⟨.inl x2,fun e=>by have:((b+k:Nat):Int)<((b+k:Nat):Int):=e.2.1;omega⟩
  refine s1.congr fun p hp _=> ?_
  have q:(((X p∨(p.1=y∧1≤p.2∧p.2≤((k+1:Nat):Int)))∧¬((b:Int)≤p.1∧p.1<((b+(k+1):Nat):Int)∧p.2=0))↔((((X p∨(p.1=y∧1≤p.2∧p.2≤(k:Nat)))∧¬((b:Int)≤p.1∧p.1<((b+k:Nat):Int)∧p.2=0))∨p=(y,((k:Nat):Int)+1))∧p≠(((b+k:Nat):Int),0))):=by
   obtain⟨a,s⟩:=p;simp only[Prod.mk.injEq,ne_eq]
   by_cases hXp:X (a,s)
   ·simp only[hXp,true_or,true_and];omega
   ·simp only[hXp,false_or];omega
  exact q
theorem tT{lab c d:Int}{xs:List NAgent}{p:NPort}(hlt:p.1.toNat<xs.length):∀{k:Nat},PortIn (aF lab c d xs k) p→PortIn xs p
 |0,h=>h
 |k+1,h=>by
  unfold aF sP at h;rw[PortIn.gF,PortIn.gF,PortIn.bR,mo]at h;rcases h with h|⟨h,_⟩
  ·exact tT hlt h
  ·omega
theorem vI{y:Int}{b:Nat}{xs:List NAgent}{p:NPort}:∀k:Nat,PortIn (bC y b xs k) p↔PortIn xs p
 |0=>Iff.rfl
 |k+1=>by unfold bC;rw[PortIn.gH,vI k]
theorem Kz{xs:List NAgent}{y:Int}{p:NPort}(hlt:p.1.toNat<xs.length)(h:PortIn (dup2 xs y) p):PortIn xs p:=by
 unfold dup2 at h;rw[PortIn.bR,PortIn.bR,List.length_append]at h;rcases h with(h|⟨h,_⟩)|⟨h,_⟩
 ·exact h
 ·omega
 ·simp only[List.length_singleton]at h;omega
theorem BO{xs:List NAgent}{y:Int}{lab:Int}{p:NPort}:∀k:Nat,PortIn (aF lab ((xs.length:Nat):Int) ((xs.length+1:Nat):Int) (dup2 xs y) k) p→0≤p.1∧p.1<((xs.length+2+k:Nat):Int)∧0≤p.2∧(p.1=(xs.length:Nat)∨p.1=((xs.length+1:Nat):Int)→p.2<((agAt xs y).2.2.2.2.length:Nat))
 |0,h=>by
  have h5:PortIn (dup2 xs y) p:=h;obtain⟨h1,h2,h3,_⟩:=h;refine⟨h1,by(have:(aF lab ((xs.length:Nat):Int) ((xs.length+1:Nat):Int) (dup2 xs y) 0).length=xs.length+2:=dU xs y);omega,h3,fun e=> ?_⟩;unfold dup2 at h5;have hd:(jS xs y).ports.length=(agAt xs y).2.2.2.2.length:=by show(List.replicate _ _).length=_;rw[List.length_replicate]
  rw[PortIn.bR,PortIn.bR,List.length_append,List.length_singleton]at h5;rcases h5 with(h5|⟨_,_,h5⟩)|⟨_,_,h5⟩
  ·have:=h5.2.1;omega
  ·omega
  ·omega
 |k+1,h=>by
  unfold aF sP at h;rw[PortIn.gF,PortIn.gF,PortIn.bR,mo,dU]at h;rcases h with h|⟨h1,h2,h3⟩
  ·obtain⟨q1,q2,q3,q4⟩:=BO k h;exact⟨q1,by omega,q3,q4⟩
  ·exact⟨by omega,by omega,h2,fun e=>by omega⟩
theorem St.duplicate(h:St D xs ys)(k:jT D xs x y)(hD:∀i,D i→i<(xs.length:Nat))(hx:(agAt xs x).2.2.2.2.length=3)(hy:1≤(agAt xs y).2.2.2.2.length):
  St (fun i=>D i∨i=x∨i=y) (aO xs x y) (aK (aK (aO ys x y) x) y):=by
 have ey:agAt ys y=agAt xs y:=(h.ag.2 y k.py.1 k.py.2.1 k.ly).symm;have ex:agAt ys x=agAt xs x:=(h.ag.2 x k.px.1 k.px.2.1 k.lx).symm;have hl:xs.length=ys.length:=h.ag.1;have xl:x<(xs.length:Nat):=k.px.2.1;have yl:y<(xs.length:Nat):=k.py.2.1;have x0:0≤x:=k.px.1;have y0:0≤y:=k.py.1;have hne:=k.ne;generalize hm:(agAt xs y).2.2.2.2.length=m at*;generalize hn:xs.length=n at*;have nd:∀i:Nat,n≤i→¬D (i:Nat):=fun i hi e=>by have:=hD _ e;omega
 have s0:=SX.start h k
 have s2:SX D (fun p=>p=(x,0)∨p=(y,0)∨p.1=(n:Nat)∨p.1=((n+1:Nat):Int)) (dup2 xs y) (dup2 ys y):=by
  have e:jS ys y=jS xs y:=by unfold jS;rw[ey]
  unfold dup2;rw[e];refine((s0.add (jS xs y)).add (jS xs y)).congr fun p _ _=> ?_
  rw[List.length_append,hn];simp only[List.length_singleton];constructor
  ·rintro(e|e|e|e)
   ·exact .inl (.inl (.inl e))
   ·exact .inl (.inl (.inr e))
   ·exact .inl (.inr e)
   ·exact .inr e
  ·rintro(((e|e)|e)|e)
   ·exact .inl e
   ·exact .inr (.inl e)
   ·exact .inr (.inr (.inl e))
   ·exact .inr (.inr (.inr e))
 have hP:(dup2 xs y).length=n+2:=by rw[dU,hn]
 have hc:∀s:Int,0≤s→s<(m:Nat)→PortIn (dup2 xs y) ((n:Nat),s)∧PortIn (dup2 xs y) ((n+1:Nat),s):=fun s h0 h1=>by
  have q1:=ng (xs:=xs) (y:=y) h0 (by rw[hm];exact h1);have q2:=ni (xs:=xs) (y:=y) h0 (by rw[hm];exact h1);rw[hn]at q1 q2;exact⟨q1,q2⟩
 have s3:=Fx (lab:=(agAt xs x).2.1) hP xl yl hD hc s2 (m-1) (by omega)
 have fx:(agAt (dup2 xs y) x).2.1=(agAt xs x).2.1:=by
  unfold dup2;rw[bE (by rw[List.length_append,hn];omega),bE (by omega)]
 have fy:(agAt (dup2 ys y) x).2.1=(agAt xs x).2.1:=by
  unfold dup2;rw[bE (by rw[List.length_append];omega),bE (by omega),ex]
 have d3x:dup3 xs x y=aF (agAt xs x).2.1 ((n:Nat):Int) ((n+1:Nat):Int) (dup2 xs y) (m-1):=by
  unfold dup3;rw[←(iN (x:=x) (by rw[hP];omega) _).1,fx,hn,hm]
 have d3y:dup3 ys x y=aF (agAt xs x).2.1 ((n:Nat):Int) ((n+1:Nat):Int) (dup2 ys y) (m-1):=by
  unfold dup3;rw[←(iN (x:=x) (by rw[dU];omega) _).1,fy,←hl,ey,hm]
 have hpp:=fun p=>BO (xs:=xs) (y:=y) (lab:=(agAt xs x).2.1) (p:=p) (m-1)
 have hbk:∀p:NPort,p.1.toNat<n→PortIn (aF (agAt xs x).2.1 ((n:Nat):Int) ((n+1:Nat):Int) (dup2 xs y) (m-1)) p→PortIn xs p:=fun p hlt hp=>Kz (by rw[hn];exact hlt) (tT (by rw[hP];omega) hp)
 have hin:∀p:NPort,PortIn xs p→PortIn (aF (agAt xs x).2.1 ((n:Nat):Int) ((n+1:Nat):Int) (dup2 xs y) (m-1)) p:=fun p hp=>jJ (jY hp) _
 have hfan:∀i:Nat,i<m-1→PortIn (aF (agAt xs x).2.1 ((n:Nat):Int) ((n+1:Nat):Int) (dup2 xs y) (m-1)) (((n+2+i:Nat):Int),0):=fun i hi=>by
  have:=nk (x:=x) (c:=((n:Nat):Int)) (d:=((n+1:Nat):Int)) (xs:=dup2 xs y) hi;rw[←(iN (x:=x) (by rw[hP];omega) _).1,fx,hP]at this;exact this
 rw[hn,hm]at hpp;have hcn:=jJ (lab:=(agAt xs x).2.1) (c:=((n:Nat):Int)) (d:=((n+1:Nat):Int)) (hc 0 (Int.le_refl _) (by omega)).1 (m-1);have hdn:=jJ (lab:=(agAt xs x).2.1) (c:=((n:Nat):Int)) (d:=((n+1:Nat):Int)) (hc 0 (Int.le_refl _) (by omega)).2 (m-1);have inx:∀s:Int,0≤s→s<3→PortIn xs (x,s):=fun s h0 h1=>⟨k.px.1,k.px.2.1,h0,by show s<((agAt xs x).2.2.2.2.length:Nat);omega⟩
 have iny:∀s:Int,0≤s→s<(m:Nat)→PortIn xs (y,s):=fun s h0 h1=>⟨k.py.1,k.py.2.1,h0,by show s<((agAt xs y).2.2.2.2.length:Nat);rw[hm];exact h1⟩
 unfold aO iZ;rw[d3x,d3y,←hl,hn,ey,hm];generalize aF (agAt xs x).2.1 ((n:Nat):Int) ((n+1:Nat):Int) (dup2 xs y) (m-1)=A at*;generalize aF (agAt xs x).2.1 ((n:Nat):Int) ((n+1:Nat):Int) (dup2 ys y) (m-1)=B at*;have s4:=s3.move (old:=(x,1)) (now:=((n:Nat),0)) (hin _ (inx 1 (by decide) (by decide))) k.lx (by simp only[Prod.mk.injEq,ne_eq,and_true,true_and,or_true,true_or];omega) hcn (nd _ (Nat.le_refl _)) (.inr (.inr (.inl ⟨.inl rfl,.inl rfl⟩)));have s5:=s4.move (old:=(x,2)) (now:=((n+1:Nat),0)) (hin _ (inx 2 (by decide) (by decide))).move k.lx (by simp only[Prod.mk.injEq,ne_eq,and_true,true_and,or_true,true_or];omega) hdn.move (nd _ (by omega)) (by simp only[Prod.mk.injEq,ne_eq,and_true,true_and,or_true,true_or];omega)
 have s6:=Cm (y:=y) (b:=n+2) (m:=m-1) (fun i hi=>by simp only[Prod.mk.injEq,ne_eq,and_true,true_and,or_true,true_or];omega) ⟨(hin _ (iny 0 (Int.le_refl _) (by omega))).move.move,fun i hi=>⟨(hin _ (iny _ (by omega) (by omega))).move.move,(hfan i hi).move.move⟩⟩ k.ly (fun i=>nd _ (by omega)) (by omega) s5 (m-1) (Nat.le_refl _);refine s6.KC x0 y0 fun p hp _=> ?_
 rw[vI,PortIn.gH,PortIn.gH]at hp;obtain⟨q1,q2,q3,q4⟩:=hpp p hp
 have q5:p.1=x→p.2<3:=fun e=>by
  have:=(hbk p (by omega) hp).2.2.2;rw[e]at this;have h2:p.2<((agAt xs x).2.2.2.2.length:Nat):=this;omega
 have q6:p.1=y→p.2<(m:Nat):=fun e=>by
  have:=(hbk p (by omega) hp).2.2.2;rw[e]at this;have h2:p.2<((agAt xs y).2.2.2.2.length:Nat):=this;omega
 clear hpp hbk hin hfan s0 s2 s3 s4 s5 s6 hc inx iny nd;obtain⟨a,s⟩:=p;simp only[Prod.mk.injEq,ne_eq]at*;omega
end
end Go.Tr
namespace Go.Tr
open Go Go.RowKit
section
variable {D:Int→Prop}{xs ys:List NAgent}{x y:Int}
theorem wH{zs:List NAgent}{p:NPort}(q:NPort)(hp:PortIn xs p):ay (xs++zs) p q=ay xs p q++zs:=by
 have hl:=zN hp;unfold ay;rw[bE hl,List.set_append_left _ _ hl]
theorem KO{zs:List NAgent}{p q:NPort}(hp:PortIn xs p)(hq:PortIn xs q):aR (xs++zs) p q=aR xs p q++zs:=by
 unfold aR;rw[wH q hp,wH p hq.set]
theorem Hz{p q r s:NPort}(hp:PortIn xs p)(hq:PortIn xs q)(hr:PortIn xs r)(hs:PortIn xs s)(pr:p≠r)(ps:p≠s)(qr:q≠r)(qs:q≠s):aR (aR xs p q) r s=aR (aR xs r s) p q:=by
 unfold aR;rw[jA hq.set hr.set qr,jA (xs:=xs) hp hr pr];rw[jA (xs:=ay (ay xs r s) p q) hq.set.set hs.set.set qs,jA (xs:=ay xs r s) hp.set hs.set ps]
theorem KS{W:List NAgent}{a:NAgent}{old now P Q:NPort}(ho:PortIn W old)(hpe:PortIn W (peerN W old))(hn:PortIn W now)(hP:PortIn (W++[a]) P)(hPl:(W.length:Int)≤P.1)(hQ:PortIn W Q)(oq:old≠Q)(pq:peerN W old≠Q)(nq:now≠Q):
  bH (aR (W++[a]) P Q) old now=aR (bH W old now++[a]) P Q:=by
 have far:∀r:NPort,PortIn W r→r≠P:=fun r hr e=>by have:=hr.2.1;rw[e]at this;omega
 have e1:peerN (aR (W++[a]) P Q) old=peerN W old:=by
  rw[gV hP hQ.app ho.app,if_neg (fun e=>oq e.symm),if_neg (fun e=>far old ho e.symm),kP (zN ho)]
 unfold bH;rw[e1,Hz hP hQ.app hpe.app hn.app (fun e=>far _ hpe e.symm) (fun e=>far _ hn e.symm) (fun e=>pq e.symm) (fun e=>nq e.symm),KO hpe hn]
theorem Jc{P Q:List NAgent}{lv:Int}{n m:Nat}(hn:P.length=n+1)(xl:x<(n:Nat))(yl:y<(n:Nat))(x0:0≤x)(xy:x≠y)(xd:¬D x)(hD:∀i,D i→i<(n:Nat))(hx:∀s:Int,0≤s→s<(m:Nat)→PortIn P (x,s))(hr:PortIn P ((n:Nat),0))
  (h:SX D (fun p=>p=(x,0)∨p=(y,0)∨p.1=(n:Nat)) P Q) (h1:∀p,PortIn P p→p.1=(n:Nat)→p.2=0):∀k:Nat,k+1≤m→
  SX D (fun p=>(p.1=x∧p.2≤(k:Nat))∨p=(y,0)∨p=fO (n+1) k) (lG lv x (n+1) P k) (lG lv x (n+1) Q k)
 |0,_=>h.congr fun p hp _=>by
  have h2:=h1 p hp;obtain⟨q1,q2,q3,_⟩:=hp;unfold fO;obtain⟨a,s⟩:=p;rw[hn]at q2;simp only[Prod.mk.injEq]at*;omega
 |k+1,hk=>by
  have ih:=Jc (lv:=lv) hn xl yl x0 xy xd hD hx hr h h1 k (by omega);have hl:(lG lv x (n+1) P k).length=n+1+k:=by rw[l9,hn]
  have nd:∀i:Nat,n≤i→¬D (i:Nat):=fun i hi e=>by have:=hD _ e;omega
  have hxk:=jW (lv:=lv) (x:=x) (b:=n+1) (hx ((k+1:Nat):Int) (by omega) (by omega)) k
  have hR:PortIn (lG lv x (n+1) P k) (fO (n+1) k):=by
   have:=rG (lv:=lv) (x:=x) (xs:=P) (by rw[hn];exact hr) k;rw[hn]at this;exact this
  have hR1:(n:Int)≤(fO (n+1) k).1∧(fO (n+1) k).1<((n+1+k:Nat):Int):=by
   cases k with
   |zero=>unfold fO;simp only[];omega
   |succ k=>unfold fO;simp only[];omega
  have s1:=ih.add (aJ 3 lv 0 [] 3);rw[hl]at s1;have f0:PortIn (lG lv x (n+1) P k++[aJ 3 lv 0 [] 3]) ((n+1+k:Nat),0):=PortIn.bR.2 (.inr ⟨by rw[hl],Int.le_refl _,show(0:Int)<3 by decide⟩);have f1:PortIn (lG lv x (n+1) P k++[aJ 3 lv 0 [] 3]) ((n+1+k:Nat),1):=PortIn.bR.2 (.inr ⟨by rw[hl],show(0:Int)≤1 by decide,show(1:Int)<3 by decide⟩);have hRd:¬D (fO (n+1) k).1:=fun e=>by have:=hD _ e;omega
  have s2:=s1.link (p:=fO (n+1) k) (q:=((n+1+k:Nat),0)) hR.app hRd (.inl (.inr (.inr rfl))) f0 (nd _ (by omega)) (.inr rfl) (fun e=>by rw[e]at hR1;have:=hR1.2;have h3:((n+1+k:Nat):Int)<((n+1+k:Nat):Int):=this;omega)
  have s3:=s2.move (old:=(x,((k+1:Nat):Int))) (now:=((n+1+k:Nat),1)) hxk.app.link xd (by
   rintro⟨(⟨_,e⟩|e|e)|e,_,_⟩
   ·have:((k+1:Nat):Int)≤(k:Nat):=e;omega
   ·exact bL (.inl xy) e
   ·rw[←e]at hR1;have:=hR1.1;have h3:(n:Int)≤x:=this;omega
   ·have:x=((n+1+k:Nat):Int):=e;omega) f1.link (nd _ (by omega)) ⟨.inr rfl,fun e=>by rw[←e]at hR1;have:=hR1.2;have h3:((n+1+k:Nat):Int)<((n+1+k:Nat):Int):=this;omega,bL (.inr (by decide))⟩
  show SX D _ (lG lv x (n+1) P (k+1)) (lG lv x (n+1) Q (k+1));unfold lG;refine s3.congr fun p hp _=> ?_
  rw[PortIn.gH,PortIn.gF,PortIn.bR,hl]at hp
  have hp':p.1<((n+1+k:Nat):Int)∨(p.1=((n+1+k:Nat):Int)∧0≤p.2∧p.2<3):=by
   rcases hp with hp|hp
   ·have:=hp.2.1;rw[hl]at this;exact .inl this
   ·exact .inr hp
  have e2:fO (n+1) (k+1)=(((n+1+k:Nat):Int),2):=rfl;rw[e2];obtain⟨a,s⟩:=p;generalize hRR:fO (n+1) k=R at*;obtain⟨ra,rs⟩:=R;simp only[Prod.mk.injEq,ne_eq]at*;omega
theorem SX.self{X:NPort→Prop}(h:SX D X xs ys):SX D X xs xs:=⟨⟨rfl,fun _ _ _ _=>rfl⟩,h.wi,h.al⟩
theorem Dl{n k:Nat}:(n:Int)≤(fO (n+1) k).1∧(fO (n+1) k).1<((n+1+k:Nat):Int)∧(fO (n+1) k).2≠1:=by
 cases k with
 |zero=>unfold fO;simp only[];omega
 |succ k=>unfold fO;simp only[];omega
theorem Ja{P Q:List NAgent}{lv:Int}{n:Nat}(hn:P.length=n+1)(xl:x<(n:Nat))(yl:y<(n:Nat))(hD:∀i,D i→i<(n:Nat))(hr:PortIn P ((n:Nat),0))
  (h:SX D (fun p=>p=(x,0)∨p=(y,0)∨p.1=(n:Nat)) P Q) (h1:∀p,PortIn P p→p.1=(n:Nat)→p.2=0):∀k:Nat,
  SX D (fun p=>p=(x,0)∨p=(y,0)∨(((n+1:Nat):Int)≤p.1∧p.2=1)∨p=fO (n+1) k) (mJ lv (n+1) P k) (mJ lv (n+1) Q k)
 |0=>h.congr fun p hp _=>by
  have h2:=h1 p hp;obtain⟨q1,q2,q3,_⟩:=hp;unfold fO;obtain⟨a,s⟩:=p;rw[hn]at q2;simp only[Prod.mk.injEq]at*;omega
 |k+1=>by
  have ih:=Ja (lv:=lv) hn xl yl hD hr h h1 k;have hl:(mJ lv (n+1) P k).length=n+1+k:=by rw[sK,hn]
  have nd:∀i:Nat,n≤i→¬D (i:Nat):=fun i hi e=>by have:=hD _ e;omega
  obtain⟨r1,r2,r3⟩:=Dl (n:=n) (k:=k)
  have hR:PortIn (mJ lv (n+1) P k) (fO (n+1) k):=by
   have:=BK (lv:=lv) (xs:=P) (by rw[hn];exact hr) k;rw[hn]at this;exact this
  have s1:=ih.add (aJ 3 lv 0 [] 3);rw[hl]at s1;have f0:PortIn (mJ lv (n+1) P k++[aJ 3 lv 0 [] 3]) ((n+1+k:Nat),0):=PortIn.bR.2 (.inr ⟨by rw[hl],Int.le_refl _,show(0:Int)<3 by decide⟩);have s2:=s1.link (p:=((n+1+k:Nat),0)) (q:=fO (n+1) k) f0 (nd _ (by omega)) (.inr rfl) hR.app (fun e=>by have:=hD _ e;omega) (.inl (.inr (.inr (.inr rfl)))) (fun e=>by rw[←e]at r2;have h3:((n+1+k:Nat):Int)<((n+1+k:Nat):Int):=r2;omega);unfold mJ;refine s2.congr fun p hp _=> ?_
  rw[PortIn.gF,PortIn.bR,hl]at hp
  have hp':p.1<((n+1+k:Nat):Int)∨(p.1=((n+1+k:Nat):Int)∧0≤p.2∧p.2<3):=by
   rcases hp with hp|hp
   ·have:=hp.2.1;rw[hl]at this;exact .inl this
   ·exact .inr hp
  have e2:fO (n+1) (k+1)=(((n+1+k:Nat):Int),2):=rfl;rw[e2];obtain⟨a,s⟩:=p;generalize hRR:fO (n+1) k=R at*;obtain⟨ra,rs⟩:=R;simp only[Prod.mk.injEq,ne_eq]at*;omega
theorem I8{Z:List NAgent}{n m k:Nat}(xl:x<(n:Nat))(x0:0≤x)(xy:x≠y)(xd:¬D x)(hD:∀i,D i→i<(n:Nat))(hx:∀s:Int,0≤s→s<(m:Nat)→PortIn Z (x,s))(hz:∀i:Nat,i<k→PortIn Z (((n+1+i:Nat):Int),1))(hl:Z.length=n+1+k)
  (h:SX D (fun p=>p=(x,0)∨p=(y,0)∨(((n+1:Nat):Int)≤p.1∧p.2=1)∨p=fO (n+1) k) Z Z):∀j:Nat,j≤k→j+1≤m→
  SX D (fun p=>(p.1=x∧p.2≤(j:Nat))∨p=(y,0)∨(((n+1+j:Nat):Int)≤p.1∧p.2=1)∨p=fO (n+1) k) (y9 x (n+1) Z j) (y9 x (n+1) Z j)
 |0,_,_=>h.congr fun p hp _=>by
  obtain⟨q1,q2,q3,_⟩:=hp;obtain⟨a,s⟩:=p;generalize fO (n+1) k=R;obtain⟨ra,rs⟩:=R;simp only[Prod.mk.injEq]at*;omega
 |j+1,hj,hm=>by
  have ih:=I8 xl x0 xy xd hD hx hz hl h j (by omega) (by omega);obtain⟨r1,r2,r3⟩:=Dl (n:=n) (k:=k);have nd:∀i:Nat,n≤i→¬D (i:Nat):=fun i hi e=>by have:=hD _ e;omega
  have s1:=ih.move (old:=(x,((j:Nat):Int)+1)) (now:=(((n+1+j:Nat):Int),1)) (jV (hx _ (by omega) (by omega)) j) xd (by
   generalize fO (n+1) k=R at*;obtain⟨ra,rs⟩:=R;simp only[Prod.mk.injEq,ne_eq]at*;omega) (jV (hz j (by omega)) j) (nd _ (by omega)) (.inr (.inr (.inl ⟨Int.le_refl _,rfl⟩)))
  unfold y9;refine s1.congr fun p hp _=> ?_
  have q3:=hp.2.2.1;have q2:=hp.2.1;obtain⟨a,s⟩:=p;generalize hRR:fO (n+1) k=R at*;obtain⟨ra,rs⟩:=R;simp only[Prod.mk.injEq,ne_eq]at*;omega
theorem QL{P:List NAgent}{lv:Int}{n m:Nat}(hn:P.length=n+1)(xl:x<(n:Nat))(yl:y<(n:Nat))(x0:0≤x)(xy:x≠y)(xd:¬D x)(hD:∀i,D i→i<(n:Nat))(hx:∀s:Int,0≤s→s<(m:Nat)→PortIn P (x,s))(hr:PortIn P ((n:Nat),0))
  (h:SX D (fun p=>p=(x,0)∨p=(y,0)∨p.1=(n:Nat)) P P) (h1:∀p,PortIn P p→p.1=(n:Nat)→p.2=0):∀k:Nat,k+1≤m→y9 x (n+1) (mJ lv (n+1) P k) k=lG lv x (n+1) P k
 |0,_=>rfl
 |k+1,hk=>by
  have ih:=QL (lv:=lv) hn xl yl x0 xy xd hD hx hr h h1 k (by omega);have hl:(mJ lv (n+1) P k).length=n+1+k:=by rw[sK,hn]
  have nd:∀i:Nat,n≤i→¬D (i:Nat):=fun i hi e=>by have:=hD _ e;omega
  obtain⟨r1,r2,r3⟩:=Dl (n:=n) (k:=k)
  have hR:PortIn (mJ lv (n+1) P k) (fO (n+1) k):=by
   have:=BK (lv:=lv) (xs:=P) (by rw[hn];exact hr) k;rw[hn]at this;exact this
  have hxN:∀s:Int,0≤s→s<(m:Nat)→PortIn (mJ lv (n+1) P k) (x,s):=fun s a b=>za (hx s a b) k
  have hzN:∀i:Nat,i<k→PortIn (mJ lv (n+1) P k) (((n+1+i:Nat):Int),1):=fun i hi=>by
   have:=vB (lv:=lv) (xs:=P) (s:=1) (by decide) (by decide) hi;rw[hn]at this;exact this
  have sN:=Ja (lv:=lv) hn xl yl hD hr h h1 k
  have key:∀j:Nat,j≤k→y9 x (n+1) (aR (mJ lv (n+1) P k++[aJ 3 lv 0 [] 3]) ((n+1+k:Nat),0) (fO (n+1) k)) j=aR (y9 x (n+1) (mJ lv (n+1) P k) j++[aJ 3 lv 0 [] 3]) ((n+1+k:Nat),0) (fO (n+1) k):=by
   intro j
   induction j with
   |zero=>intro _;rfl
   |succ j ihj=>
    intro hj;have e:=ihj (by omega);have sM:=I8 (k:=k) xl x0 xy xd hD hxN hzN hl sN j (by omega) (by omega);have hlW:(y9 x (n+1) (mJ lv (n+1) P k) j).length=n+1+k:=by rw[I6,hl]
    show bH (y9 x (n+1) (aR (mJ lv (n+1) P k++[aJ 3 lv 0 [] 3]) ((n+1+k:Nat),0) (fO (n+1) k)) j) (x,((j:Nat):Int)+1) (((n+1+j:Nat):Int),1)=aR (bH (y9 x (n+1) (mJ lv (n+1) P k) j) (x,((j:Nat):Int)+1) (((n+1+j:Nat):Int),1)++[aJ 3 lv 0 [] 3]) _ _;rw[e];have ho:=jV (x:=x) (b:=n+1) (hxN (((j:Nat):Int)+1) (by omega) (by omega)) j
    have hw:=sM.wi (x,((j:Nat):Int)+1) ⟨⟨ho,xd⟩,by
     generalize fO (n+1) k=R at*;obtain⟨ra,rs⟩:=R;simp only[Prod.mk.injEq]at*;omega⟩
    refine KS ho hw.2.1.1.1 (jV (hzN j (by omega)) j) (PortIn.bR.2 (.inr ⟨by rw[hlW],Int.le_refl _,show(0:Int)<3 by decide⟩)) (by rw[hlW];exact Int.le_refl _) (jV hR j) ?_ (fun e=>hw.2.1.2 (.inr (.inr (.inr e)))) ?_
    ·intro e;rw[←e]at r1;have:(n:Int)≤x:=r1;omega
    ·intro e;rw[←e]at r3;exact r3 rfl
  show bH (y9 x (n+1) (aR (mJ lv (n+1) P k++[aJ 3 lv 0 [] 3]) (((n+1+k:Nat):Int),0) (fO (n+1) k)) k) (x,((k:Nat):Int)+1) (((n+1+k:Nat):Int),1)=bH (aR (lG lv x (n+1) P k++[aJ 3 lv 0 [] 3]) (fO (n+1) k) (((n+1+k:Nat):Int),0)) (x,((k+1:Nat):Int)) (((n+1+k:Nat):Int),1);rw[key k (Nat.le_refl _),ih];have hlS:(lG lv x (n+1) P k).length=n+1+k:=by rw[l9,hn]
  have hRS:PortIn (lG lv x (n+1) P k) (fO (n+1) k):=by
   have:=rG (lv:=lv) (x:=x) (xs:=P) (by rw[hn];exact hr) k;rw[hn]at this;exact this
  rw[qz (PortIn.bR.2 (.inr ⟨by rw[hlS],Int.le_refl _,show(0:Int)<3 by decide⟩)) hRS.app];rfl
theorem ze{lv:Int}{b:Nat}{P:List NAgent}{p:NPort}(hlt:p.1.toNat<P.length):∀{k:Nat},PortIn (lG lv x b P k) p→PortIn P p
 |0,h=>h
 |k+1,h=>by
  unfold lG at h;rw[PortIn.gH,PortIn.gF,PortIn.bR,l9]at h;rcases h with h|⟨h,_⟩
  ·exact ze hlt h
  ·omega
theorem St.choose(h:St D xs ys)(k:jT D xs x y)(hD:∀i,D i→i<(xs.length:Nat))(h6:(agAt xs x).1=6↔(agAt xs y).1=11)(hx:(agAt xs x).1=6→(agAt xs x).2.2.2.2.length=1)(hx1:1≤(agAt xs x).2.2.2.2.length)(hy:(agAt xs y).2.2.2.2.length=2):
  St (fun i=>D i∨i=x∨i=y) (iC xs x y) (aK (aK (bF ys x y) x) y):=by
 have ey:agAt ys y=agAt xs y:=(h.ag.2 y k.py.1 k.py.2.1 k.ly).symm;have ex:agAt ys x=agAt xs x:=(h.ag.2 x k.px.1 k.px.2.1 k.lx).symm;have hl:xs.length=ys.length:=h.ag.1;have xl:x<(xs.length:Nat):=k.px.2.1;have yl:y<(xs.length:Nat):=k.py.2.1;have x0:0≤x:=k.px.1;have y0:0≤y:=k.py.1;have hne:=k.ne;have nd:∀i:Nat,xs.length≤i→¬D (i:Nat):=fun i hi e=>by have:=hD _ e;omega
 have iny1:PortIn xs (y,1):=⟨k.py.1,k.py.2.1,show(0:Int)≤1 by decide,by show(1:Int)<((agAt xs y).2.2.2.2.length:Nat);omega⟩;have hkb:((agAt xs x).1==6)=((agAt xs y).1==11):=by rw[Bool.eq_iff_iff];simpa using h6
 have s1:∀i:Int,SX D (fun p=>p=(x,0)∨p=(y,0)∨p.1=(xs.length:Nat)) (aL xs y i) (aL ys y i):=fun i=>by
  unfold aL;rw[ey];refine((SX.start h k).add _).congr fun p _ _=> ?_
  constructor
  ·rintro(e|e|e)
   ·exact .inl (.inl e)
   ·exact .inl (.inr e)
   ·exact .inr e
  ·rintro((e|e)|e)
   ·exact .inl e
   ·exact .inr (.inl e)
   ·exact .inr (.inr e)
 have hlen:∀i:Int,(aL xs y i).length=xs.length+1:=fun i=>by unfold aL;rw[List.length_append];rfl
 have hnew:∀i:Int,PortIn (aL xs y i) ((xs.length:Nat),0):=fun i=>PortIn.bR.2 (.inr ⟨rfl,Int.le_refl _,show(0:Int)<1 by decide⟩)
 have h1:∀(i:Int) p,PortIn (aL xs y i) p→p.1=(xs.length:Nat)→p.2=0:=fun i p hp e=>by
  rcases PortIn.bR.1 hp with q|⟨_,q2,q3⟩
  ·have:=q.2.1;omega
  ·have:p.2<1:=q3;omega
 have hback:∀(i:Int) (p:NPort),p.1.toNat<xs.length→PortIn (aL xs y i) p→PortIn xs p:=fun i p hlt hp=>by
  rcases PortIn.bR.1 hp with q|⟨q,_⟩
  ·exact q
  ·omega
 have hin:∀(i:Int) (p:NPort),PortIn xs p→PortIn (aL xs y i) p:=fun i p hp=>hp.app
 unfold iC bF;rw[ex,ey,hkb,←hl];cases hk:(agAt xs y).1==11 with
 |true=>
  simp only[cond_true];have h3:=hx (h6.2 (by simpa using hk));generalize (bif (agAt xs x).2.2.1==0 then(1:Int)else 0)=i;have s2:=(s1 i).move (old:=(y,1)) (now:=((xs.length:Nat),0)) (hin i _ iny1) k.ly (by simp only[Prod.mk.injEq];omega) (hnew i) (nd _ (Nat.le_refl _)) (.inr (.inr rfl));refine s2.KC x0 y0 fun p hp _=> ?_
  rw[PortIn.gH]at hp;have q0:=h1 i p hp;have q1:=hp.2.2.1;have q2:=hp.1
  have q4:p.1=x→p.2<1:=fun e=>by
   have:=(hback i p (by omega) hp).2.2.2;rw[e]at this;have h2:p.2<((agAt xs x).2.2.2.2.length:Nat):=this;omega
  have q5:p.1=y→p.2<2:=fun e=>by
   have:=(hback i p (by omega) hp).2.2.2;rw[e]at this;have h2:p.2<((agAt xs y).2.2.2.2.length:Nat):=this;omega
  obtain⟨a,s⟩:=p;simp only[Prod.mk.injEq,ne_eq]at*;omega
 |false=>
  simp only[cond_false];generalize (agAt xs x).2.2.1=i;generalize (agAt xs y).2.1=lv;have hxi:∀s:Int,0≤s→s<((agAt xs x).2.2.2.2.length:Nat)→PortIn (aL xs y i) (x,s):=fun s a b=>hin i _ ⟨x0,xl,a,b⟩
  rw[QL (lv:=lv) (hlen i) xl yl x0 k.ne k.lx hD hxi (hnew i) (s1 i).self (h1 i) ((agAt xs x).2.2.2.2.length-1) (by omega)];have s2:=Jc (lv:=lv) (hlen i) xl yl x0 k.ne k.lx hD hxi (hnew i) (s1 i) (h1 i) ((agAt xs x).2.2.2.2.length-1) (by omega);generalize hm:(agAt xs x).2.2.2.2.length=m at*;obtain⟨r1,r2,r3⟩:=Dl (n:=xs.length) (k:=m-1)
  have hR:PortIn (lG lv x (xs.length+1) (aL xs y i) (m-1)) (fO (xs.length+1) (m-1)):=by
   have:=rG (lv:=lv) (x:=x) (xs:=aL xs y i) (by rw[hlen];exact hnew i) (m-1);rw[hlen]at this;exact this
  have s3:=s2.move (old:=(y,1)) (now:=fO (xs.length+1) (m-1)) (jW (hin i _ iny1) _) k.ly (by
   generalize fO (xs.length+1) (m-1)=R at*;obtain⟨ra,rs⟩:=R;simp only[Prod.mk.injEq]at*;omega) hR (fun e=>by have:=hD _ e;omega) (.inr (.inr rfl))
  refine s3.KC x0 y0 fun p hp _=> ?_
  rw[PortIn.gH]at hp;have q1:=hp.2.2.1;have q2:=hp.1
  have q4:p.1=x→p.2<(m:Nat):=fun e=>by
   have:=(hback i p (by omega) (ze (by rw[hlen];omega) hp)).2.2.2;rw[e]at this;have h2:p.2<((agAt xs x).2.2.2.2.length:Nat):=this;omega
  have q5:p.1=y→p.2<2:=fun e=>by
   have:=(hback i p (by omega) (ze (by rw[hlen];omega) hp)).2.2.2;rw[e]at this;have h2:p.2<((agAt xs y).2.2.2.2.length:Nat):=this;omega
  generalize fO (xs.length+1) (m-1)=R at*;obtain⟨ra,rs⟩:=R;obtain⟨a,s⟩:=p;clear h1 hback hin hxi s1 s2 s3 hnew hlen nd;simp only[Prod.mk.injEq,ne_eq]at*;omega
end
end Go.Tr
namespace Go.Tr
open Go Go.RowKit
section
variable {D:Int→Prop}{X:NPort→Prop}{xs ys:List NAgent}{x y:Int}
theorem mX{t:List NAgent}{b i:Int}(hb:b=(xs.length:Int)-1)(h1:(xs.length:Int)≤i)(h2:i-b<(t.length:Nat)):agAt (xs++(t.drop 1).map (bn b)) i=bn b (agAt t (i-b)):=by
 unfold agAt elt;rw[List.getD_eq_getElem?_getD,List.getElem?_append_right (by omega),List.getElem?_map,List.getElem?_drop];have e:1+(i.toNat-xs.length)=(i-b).toNat:=by omega
 rw[e,List.getD_eq_getElem?_getD,List.getElem?_eq_getElem (by omega)];rfl
theorem kM(t:List NAgent)(b:Int):((t.drop 1).map (bn b)).length=t.length-1:=by rw[List.length_map,List.length_drop]
theorem PortIn.jO{t:List NAgent}{b:Int}{p:NPort}(hb:b=(xs.length:Int)-1):PortIn (xs++(t.drop 1).map (bn b)) p↔PortIn xs p∨((xs.length:Int)≤p.1∧PortIn t (p.1-b,p.2)):=by
 have hml:=kM t b;have hpl:∀a:NAgent,(bn b a).ports.length=a.ports.length:=fun a=>by show(List.map _ _).length=_;rw[List.length_map]
 constructor
 ·intro h;have h':=h;obtain⟨h1,h2,h3,h4⟩:=h;rw[List.length_append,hml]at h2
  by_cases hl:p.1.toNat<xs.length
  ·rw[bE hl]at h4;exact .inl ⟨h1,by omega,h3,h4⟩
  ·have hlt:p.1-b<(t.length:Nat):=by omega
   rw[mX hb (by omega) hlt,hpl]at h4;exact .inr ⟨by omega,by show 0≤p.1-b;omega,hlt,h3,h4⟩
 ·rintro(h|⟨h,h1,h2,h3,h4⟩)
  ·exact h.app
  ·have h2':p.1-b<(t.length:Nat):=h2;refine⟨by omega,by rw[List.length_append,hml];omega,h3,?_⟩;rw[mX hb h h2',hpl];exact h4
theorem su{t:List NAgent}{b:Int}{p:NPort}(hb:b=(xs.length:Int)-1)(h:(xs.length:Int)≤p.1)(hp:PortIn t (p.1-b,p.2)):peerN (xs++(t.drop 1).map (bn b)) p=((peerN t (p.1-b,p.2)).1+b,(peerN t (p.1-b,p.2)).2):=by
 obtain⟨h1,h2,h3,h4⟩:=hp;unfold peerN;rw[mX hb h h2];show elt (dflt uPort) (List.map _ _) p.2=_;unfold elt
 have h4':p.2.toNat<(agAt t (p.1-b)).ports.length:=by
  have h5:p.2<((agAt t (p.1-b)).ports.length:Nat):=h4;have h6:0≤p.2:=h3;omega
 rw[List.getD_eq_getElem?_getD,List.getElem?_map,List.getElem?_eq_getElem h4'];show _=(((agAt t (p.1-b)).ports.getD p.2.toNat (dflt uPort)).1+b,((agAt t (p.1-b)).ports.getD p.2.toNat (dflt uPort)).2);rw[List.getD_eq_getElem?_getD,List.getElem?_eq_getElem h4'];rfl
theorem SX.SF{t:List NAgent}{b:Int}(hb:b=(xs.length:Int)-1)(ht:Wired (fun p=>PortIn t p) t)(h0:PortIn t (0,0))(h00:∀p,PortIn t p→p.1=0→p=(0,0))(hD:∀i,D i→i<(xs.length:Nat))(hX:∀p,X p→p.1<(xs.length:Nat))(h:SX D X xs ys):
  SX D (fun p=>X p∨p=((peerN t (0,0)).1+b,(peerN t (0,0)).2)) (xs++(t.drop 1).map (bn b)) (ys++(t.drop 1).map (bn b)):=by
 obtain⟨r1,r2,r3,r4⟩:=ht (0,0) h0;have rR:PortIn t (peerN t (0,0)):=r2
 have rpos:1≤(peerN t (0,0)).1:=by
  have h1:=rR.1
  by_cases e:(peerN t (0,0)).1=0
  ·exact absurd (h00 _ rR e) r4
  ·omega
 refine⟨h.ag.app _,fun p hp=> ?_,fun p hp=>hp.1.2⟩;obtain⟨⟨p1,p2⟩,p3⟩:=hp;rcases(PortIn.jO hb).1 p1 with q|⟨q1,q2⟩
 ·obtain⟨w1,w2,w3,w4⟩:=h.wi p ⟨⟨q,p2⟩,fun k=>p3 (.inl k)⟩;have e:=kP (ys:=(t.drop 1).map (bn b)) (zN q);refine⟨p1,?_,by rw[e,kP (zN w2.1.1),w3],by rw[e];exact w4⟩;rw[e];refine⟨⟨w2.1.1.app,w2.1.2⟩,fun k=> ?_⟩;rcases k with k|k
  ·exact w2.2 k
  ·have:=w2.1.1.2.1;rw[k]at this;have h2:(peerN t (0,0)).1+b<(xs.length:Nat):=this;omega
 ·obtain⟨w1,w2,w3,w4⟩:=ht _ q2;have w2':PortIn t (peerN t (p.1-b,p.2)):=w2;have e:=su hb q1 q2
  have hne:(peerN t (p.1-b,p.2)).1≠0:=fun e0=>by
   have e1:=h00 _ w2' e0;rw[e1]at w3;exact p3 (.inr (bV (by rw[w3];show p.1=p.1-b+b;omega) (by rw[w3])))
  have hge:1≤(peerN t (p.1-b,p.2)).1:=by have:=w2'.1;omega
  have hin:PortIn (xs++(t.drop 1).map (bn b)) ((peerN t (p.1-b,p.2)).1+b,(peerN t (p.1-b,p.2)).2):=(PortIn.jO hb).2 (.inr ⟨by show(xs.length:Int)≤(peerN t (p.1-b,p.2)).1+b;omega,by
   rw[show(((peerN t (p.1-b,p.2)).1+b,(peerN t (p.1-b,p.2)).2):NPort).1-b=(peerN t (p.1-b,p.2)).1 by show(peerN t (p.1-b,p.2)).1+b-b=_;omega];exact w2'⟩)
  refine⟨p1,?_,?_,?_⟩
  ·rw[e];refine⟨⟨hin,fun k=> ?_⟩,fun k=> ?_⟩
   ·have:=hD _ k;have h2:(peerN t (p.1-b,p.2)).1+b<(xs.length:Nat):=this;omega
   ·rcases k with k|k
    ·have:=hX _ k;have h2:(peerN t (p.1-b,p.2)).1+b<(xs.length:Nat):=this;omega
    ·have e2:peerN t (p.1-b,p.2)=peerN t (0,0):=by
      injection k with k1 k2
      exact bV (by omega) k2
     rw[e2,r3]at w3;injection w3 with w5 w6
     omega
  ·rw[e,su hb (by show(xs.length:Int)≤(peerN t (p.1-b,p.2)).1+b;omega) (by
    rw[show(((peerN t (p.1-b,p.2)).1+b,(peerN t (p.1-b,p.2)).2):NPort).1-b=(peerN t (p.1-b,p.2)).1 by show(peerN t (p.1-b,p.2)).1+b-b=_;omega];exact w2')]
   have e3:((((peerN t (p.1-b,p.2)).1+b,(peerN t (p.1-b,p.2)).2):NPort).1-b,(((peerN t (p.1-b,p.2)).1+b,(peerN t (p.1-b,p.2)).2):NPort).2)=peerN t (p.1-b,p.2):=bV (by show(peerN t (p.1-b,p.2)).1+b-b=_;omega) rfl;rw[e3,w3];exact bV (by show p.1-b+b=p.1;omega) rfl
  ·rw[e];intro k;refine w4 (bV ?_ ?_)
   ·have:=congrArg Prod.fst k;show(peerN t (p.1-b,p.2)).1=p.1-b;have h2:(peerN t (p.1-b,p.2)).1+b=p.1:=this;omega
   ·have h2:=congrArg Prod.snd k;exact h2
theorem mF(lv:Int)(a:NAgent):(fQ lv a).ports=a.ports:=by unfold fQ;cases aU a.kind<;>rfl
theorem ql(lv:Int)(t:List NAgent){i:Int}(h0:0≤i)(h1:i<(t.length:Nat)):agAt (aZ lv t) i=fQ lv (agAt t i):=by
 unfold agAt elt aZ;rw[List.getD_eq_getElem?_getD,List.getElem?_map,List.getD_eq_getElem?_getD,List.getElem?_eq_getElem (by omega)];rfl
theorem jE(lv:Int)(t:List NAgent):(aZ lv t).length=t.length:=by unfold aZ;rw[List.length_map]
theorem PortIn.gI{lv:Int}{t:List NAgent}{p:NPort}:PortIn (aZ lv t) p↔PortIn t p:=by
 unfold PortIn;rw[jE];constructor
 ·rintro⟨h1,h2,h3,h4⟩;rw[ql lv t h1 h2,mF]at h4;exact⟨h1,h2,h3,h4⟩
 ·rintro⟨h1,h2,h3,h4⟩;refine⟨h1,h2,h3,?_⟩;rw[ql lv t h1 h2,mF];exact h4
theorem kY{lv:Int}{t:List NAgent}{p:NPort}(hp:PortIn t p):peerN (aZ lv t) p=peerN t p:=by
 unfold peerN;rw[ql lv t hp.1 hp.2.1,mF]
theorem Wired.shift{lv:Int}{t:List NAgent}(h:Wired (fun p=>PortIn t p) t):Wired (fun p=>PortIn (aZ lv t) p) (aZ lv t):=fun p hp=>by
 have hp':=PortIn.gI.1 hp;obtain⟨h1,h2,h3,h4⟩:=h p hp';rw[kY hp'];exact⟨hp,PortIn.gI.2 h2,by rw[kY h2,h3],h4⟩
theorem St.expand{bk:List (List NAgent)}(h:St D xs ys)(k:jT D xs x y)(hD:∀i,D i→i<(xs.length:Nat))(hx:(agAt xs x).2.2.2.2.length=1)
  (ht:Wired (fun p=>PortIn (aS bk (agAt xs x).2.2.1) p) (aS bk (agAt xs x).2.2.1)) (h0:PortIn (aS bk (agAt xs x).2.2.1) (0,0)) (h00:∀p,PortIn (aS bk (agAt xs x).2.2.1) p→p.1=0→p=(0,0)):
  St (fun i=>D i∨i=x) (j5 bk xs x y) (aK (cK (aS bk (agAt ys x).2.2.1) (agAt ys x).2.1 ys y) x):=by
 have ex:agAt ys x=agAt xs x:=(h.ag.2 x k.px.1 k.px.2.1 k.lx).symm;have hl:xs.length=ys.length:=h.ag.1;have xl:x<(xs.length:Nat):=k.px.2.1;have yl:y<(xs.length:Nat):=k.py.2.1;have hne:=k.ne;rw[ex];unfold j5 cK jR;generalize aS bk (agAt xs x).2.2.1=t at*;generalize (agAt xs x).2.1=lv;generalize hb:(xs.length:Int)-1=b;have hb':b=(xs.length:Int)-1:=hb.symm
 have e1:gK lv ((ys.length:Int)-1) t (t.length-1)=((aZ lv t).drop 1).map (bn b):=by
  unfold gK;rw[←hl,hb,List.take_of_length_le (by rw[List.length_drop,jE];exact Nat.le_refl _)]
 have s0:=SX.start h k;have s1:=s0.SF (t:=aZ lv t) hb' ht.shift (PortIn.gI.2 h0) (fun p hp e=>h00 p (PortIn.gI.1 hp) e) hD (fun p hp=>by rcases hp with e|e<;>rw[e]<;>assumption);rw[e1,kY h0]at*;obtain⟨r1,r2,r3,r4⟩:=ht (0,0) h0;have rR:PortIn t (peerN t (0,0)):=r2
 have rpos:1≤(peerN t (0,0)).1:=by
  have h1:=rR.1
  by_cases e:(peerN t (0,0)).1=0
  ·exact absurd (h00 _ rR e) r4
  ·omega
 generalize peerN t (0,0)=R at*
 have hR:PortIn (xs++((aZ lv t).drop 1).map (bn b)) (R.1+b,R.2):=(PortIn.jO hb').2 (.inr ⟨by show(xs.length:Int)≤R.1+b;omega,PortIn.gI.2 (by
  rw[show((R.1+b,R.2):NPort).1-b=R.1 by show R.1+b-b=R.1;omega];exact rR)⟩)
 have s2:=s1.link (p:=(y,0)) (q:=(R.1+b,R.2)) k.py.app k.ly (.inl (.inr rfl)) hR (fun e=>by have:=hD _ e;have h2:R.1+b<(xs.length:Nat):=this;omega) (.inr rfl) (bL (.inl (by omega)))
 have e2:aR (ys++((aZ lv t).drop 1).map (bn b)) ((ys.length:Int)-1+R.1,R.2) (y,0)=aR (ys++((aZ lv t).drop 1).map (bn b)) (y,0) (R.1+b,R.2):=by
  rw[←hl,hb,show b+R.1=R.1+b by omega];refine qz ?_ ?_
  ·have:=(s1.ag.port hR (fun e=>by have:=hD _ e;have h2:R.1+b<(xs.length:Nat):=this;omega)).1;exact this
  ·exact(s1.ag.port (p:=(y,0)) k.py.app k.ly).1
 rw[e2];refine s2.Va k.px.1 fun p hp _=> ?_
 rw[PortIn.gF]at hp;constructor
 ·rintro⟨(e|e)|e,e3,e4⟩
  ·rw[e]
  ·exact absurd e e3
  ·exact absurd e e4
 ·intro e;rcases(PortIn.jO hb').1 hp with q|⟨q,_⟩
  ·obtain⟨q1,q2,q3,q4⟩:=q;rw[e]at q4;have h3:p.2<((agAt xs x).2.2.2.2.length:Nat):=q4;refine⟨.inl (.inl (bV e (by show p.2=0;omega))),fun e2=> ?_,fun e2=> ?_⟩
   ·rw[e2]at e;exact hne e.symm
   ·rw[e2]at e;have h4:R.1+b=x:=e;omega
  ·omega
end
end Go.Tr
namespace Go.Tr
open Go Go.RowKit
def gA(a:NAgent):aj:=⟨a.1,a.2.1,a.2.2.1,a.2.2.2.1,a.2.2.2.2.map fun p=>⟨p.1,p.2⟩⟩
theorem oZ(l:List Int):List.flatMap (enc (.int .i64)) l=l.flatMap intE:=by
 induction l with
 |nil=>rfl
 |cons x l ih=>rw[List.flatMap_cons,List.flatMap_cons,ih];rfl
theorem KA(l:List NPort):(l.map fun p=>(⟨p.1,p.2⟩:ak)).flatMap ak.enc=List.flatMap (enc uPort) l:=by
 induction l with
 |nil=>rfl
 |cons x l ih=>rw[List.map_cons,List.flatMap_cons,List.flatMap_cons,ih];rfl
theorem ME(a:NAgent):(gA a).enc=enc uAgent a:=by
 show[_,_,_,D.sl _ _,D.sl _ _]=[_]++([_]++([_]++([_]++[_])));simp only[List.cons_append,List.nil_append,gA];rw[KA,←oZ,List.length_map]
abbrev QE:=Int×Int
def resN(xs:List NAgent):Nat→QE→QE×Bool
 |0,w=>(w,false)
 |k+1,w=>bif (w.1 !=2)||(agAt xs w.2).2.2.2.2.length==0 then(w,true)else resN xs k ((agAt xs w.2).2.2.2.2.getD 0 (0,0))
def vT{α:Type}(g:α→Bool):List α→Int→Int
 |[],_=> -1
 |x::l,k=>bif g x then k else vT g l (k+1)
theorem zm{α:Type}(d:α){xs:List α}{i:Nat}(h:i<xs.length):xs.drop i=xs.getD i d::xs.drop (i+1):=by
 rw[List.getD_eq_getElem?_getD,List.getElem?_eq_getElem h];exact List.drop_eq_getElem_cons h
theorem xZ(n:Nat)(f:Nat→Bool):bU (n+1) f=(bU n f&&f n):=by simp[bU,List.range_succ]
def Wf(a:NAgent):Prop:=bN (gA a)=true
theorem dF{a:NAgent}(h:Wf a):bg a.1 a.2.1=true∧dS (gA a)=true∧(a.2.2.2.2.length:Int)=bD a.1 (cO a.1 a.2.2.2.2.length)∧0<a.2.2.2.2.length:=by
 unfold Wf bN at h;simp only[Bool.and_eq_true,decide_eq_true_eq,beq_iff_eq]at h;obtain⟨⟨⟨h1,h2⟩,h3⟩,h4⟩:=h;have e:((gA a).ports.length:Int)=(a.2.2.2.2.length:Int):=by simp[gA]
 have e2:fieldsOf (gA a)=cO a.1 a.2.2.2.2.length:=by unfold fieldsOf;rw[e];rfl
 rw[e,e2]at h2;rw[e2]at h1;exact⟨h3,h4,h2,by(have:0<bD a.1 (cO a.1 a.2.2.2.2.length):=h1);omega⟩
theorem EC{a:NAgent}(h:Wf a):1≤a.1∧a.1≤12:=by
 have:=(dF h).1;unfold bg iT at this;simp only[Bool.and_eq_true]at this;exact inB_t this.1
theorem wf_ports{a:NAgent}(h:Wf a):(a.1=1∨a.1=5∨a.1=6∨a.1=12→a.2.2.2.2.length=1)∧(a.1=8∨a.1=10∨a.1=11→a.2.2.2.2.length=2)∧(a.1=2∨a.1=3∨a.1=4∨a.1=7→a.2.2.2.2.length=3)∧(a.1=9→1≤a.2.2.2.2.length∧a.2.2.2.2.length≤4):=by
 obtain⟨_,_,h3,h4⟩:=dF h;have hf:∀k:Int,k≠9→cO k a.2.2.2.2.length=0:=fun k hk=>by unfold cO;rw[if_neg (by simpa using hk)]
 refine⟨fun e=> ?_,fun e=> ?_,fun e=> ?_,fun e=> ?_⟩
 ·have k9:a.1≠9:=by omega
  rw[hf _ k9]at h3;unfold bD at h3;rw[if_neg k9,if_pos rfl,if_pos e]at h3;omega
 ·have k9:a.1≠9:=by omega
  rw[hf _ k9]at h3;unfold bD at h3;rw[if_neg k9,if_pos rfl,if_neg (by omega),if_pos e]at h3;omega
 ·have k9:a.1≠9:=by omega
  rw[hf _ k9]at h3;unfold bD at h3;rw[if_neg k9,if_pos rfl,if_neg (by omega),if_neg (by omega),if_pos e]at h3;omega
 ·rw[e]at h3;unfold bD cO at h3;simp only[beq_self_eq_true,if_true]at h3
  by_cases hb:inB ((a.2.2.2.2.length:Int)-1) 0 3=true
  ·have:=inB_t hb;omega
  ·rw[if_neg hb]at h3;omega
theorem fq{ka la kb lb c:Int}(h:rule ka la kb lb=c)(h0:c≠0):
  (c=1→ka=2∧kb=3)∧(c=2→ka=4∧kb=4)∧(c=3→ka=4)∧(c=4→ka=5)∧(c=5→ka=6∧(kb=7∨kb=8))∧(c=6→(ka=6∧kb=11)∨(ka=9∧kb=10))∧(c=7→ka=12∧(kb=3∨kb=7∨kb=8∨kb=10∨kb=11)):=by
 unfold rule at h;split at h
 ·subst h;simp_all
 split at h
 ·split at h
  ·rename_i h1;simp only[Bool.and_eq_true,beq_iff_eq]at h1;subst h;simp_all
  ·split at h
   ·subst h;simp_all
   ·omega
 split at h
 ·split at h
  ·rename_i h1;simp only[Bool.and_eq_true,beq_iff_eq]at h1;subst h;simp_all
  ·omega
 split at h
 ·split at h
  ·rename_i h1;simp only[Bool.or_eq_true,beq_iff_eq]at h1;subst h;simp_all
  ·split at h
   ·rename_i h1;simp only[beq_iff_eq]at h1;subst h;simp_all
   ·omega
 split at h
 ·split at h
  ·rename_i h1;simp only[beq_iff_eq]at h1;subst h;simp_all
  ·omega
 split at h
 ·split at h
  ·rename_i h1;unfold lI at h1;simp only[Bool.or_eq_true,beq_iff_eq]at h1;subst h;refine⟨by simp,by simp,by simp,by simp,by simp,by simp,fun _=>⟨by assumption,by omega⟩⟩
  ·omega
 ·omega
theorem Af(ka la kb lb:Int):(aG ka la kb lb=2→rule kb lb ka la=aC ka la kb lb∧aC ka la kb lb≠0)∧(aG ka la kb lb=1→rule ka la kb lb=aC ka la kb lb∧aC ka la kb lb≠0)∧(aG ka la kb lb=0∨aG ka la kb lb=1∨aG ka la kb lb=2):=by
 unfold aG aC;cases jv ka la kb lb with
 |false=>simp
 |true=>
  simp only[if_true]
  by_cases h1:rule ka la kb lb=0<;>by_cases h2:rule kb lb ka la=0<;>simp[h1,h2]
theorem Ho{xs:List NAgent}{a b:Int}(hc:1≤aC (agAt xs a).1 (agAt xs a).2.1 (agAt xs b).1 (agAt xs b).2.1∧aC (agAt xs a).1 (agAt xs a).2.1 (agAt xs b).1 (agAt xs b).2.1≤7):
  rule (agAt xs (firstS xs a b).1).1 (agAt xs (firstS xs a b).1).2.1 (agAt xs (firstS xs a b).2).1 (agAt xs (firstS xs a b).2).2.1=aC (agAt xs a).1 (agAt xs a).2.1 (agAt xs b).1 (agAt xs b).2.1:=by
 obtain⟨h2,h1,h3⟩:=Af (agAt xs a).1 (agAt xs a).2.1 (agAt xs b).1 (agAt xs b).2.1;unfold firstS;rcases h3 with e|e|e
 ·exfalso;unfold aG at e;unfold aC at hc;cases hp:jv (agAt xs a).1 (agAt xs a).2.1 (agAt xs b).1 (agAt xs b).2.1 with
  |false=>rw[hp]at hc;simp at hc
  |true=>
   rw[hp]at e hc;simp only[if_true]at e hc;split at e
   ·rename_i r1;rw[if_pos r1]at hc;split at e
    ·rename_i r2;rw[if_pos r2]at hc;omega
    ·omega
   ·omega
 ·rw[e];exact(h1 e).1
 ·rw[e];exact(h2 e).1
def sig(a:NAgent):Int×Int×Int×List Int×Nat:=(a.1,a.2.1,a.2.2.1,a.2.2.2.1,a.2.2.2.2.length)
theorem ED{a b:NAgent}(h:sig a=sig b):Wf a↔Wf b:=by
 unfold sig at h;simp only[Prod.mk.injEq]at h;obtain⟨h1,h2,h3,h4,h5⟩:=h
 have e:bN (gA a)=bN (gA b):=by
  unfold bN fieldsOf dS gA;simp only[List.length_map,h1,h2,h3,h4,h5]
 unfold Wf;rw[e]
def cZ(xs ys:List NAgent):Prop:=xs.length=ys.length∧∀i:Int,0≤i→i<(xs.length:Nat)→sig (agAt xs i)=sig (agAt ys i)
theorem cZ.refl(xs:List NAgent):cZ xs xs:=⟨rfl,fun _ _ _=>rfl⟩
theorem cZ.setPort{xs ys:List NAgent}(h:cZ xs ys)(p q:NPort):cZ (ay xs p q) ys:=by
 refine⟨by rw[bB];exact h.1,fun i h0 h1=> ?_⟩;rw[bB]at h1;rw[←h.2 i h0 h1,bZ];split
 ·rename_i e;rw[vg (xs:=xs) e.1];unfold sig;simp only[List.length_set,NAgent.ports]
 ·rfl
theorem cZ.link{xs ys:List NAgent}(h:cZ xs ys)(p q:NPort):cZ (aR xs p q) ys:=(h.setPort p q).setPort q p
theorem cZ.move{xs ys:List NAgent}(h:cZ xs ys)(p q:NPort):cZ (bH xs p q) ys:=h.link _ _
theorem cZ.join{xs ys:List NAgent}(h:cZ xs ys)(p q:NPort):cZ (aB xs p q) ys:=by
 unfold aB;cases ((peerN xs p).1==q.1&&(peerN xs p).2==q.2)with
 |true=>exact h
 |false=>exact h.link _ _
theorem cZ.app{xs ys:List NAgent}(h:cZ xs ys)(zs:List NAgent):cZ (xs++zs) (ys++zs):=by
 refine⟨by rw[List.length_append,List.length_append,h.1],fun i h0 h1=> ?_⟩;rw[List.length_append]at h1
 by_cases hl:i<(xs.length:Nat)
 ·rw[bE (by omega),bE (by rw[←h.1];omega)];exact h.2 i h0 hl
 ·have:∀ws:List NAgent,ws.length=xs.length→agAt (ws++zs) i=zs.getD (i.toNat-xs.length) (dflt uAgent):=fun ws hw=>by
   unfold agAt elt;rw[List.getD_eq_getElem?_getD,List.getElem?_append_right (by omega),hw,List.getD_eq_getElem?_getD]
  rw[this xs rfl,this ys h.1.symm]
theorem Jo(y:Int)(xs:List NAgent):∀k,cZ (nW y xs k) (xs++List.replicate k (aJ 5 0 0 [] 1))
 |0=>by rw[List.replicate_zero,List.append_nil];exact cZ.refl _
 |k+1=>by
  unfold nW;rw[List.replicate_succ',←List.append_assoc];exact((Jo y xs k).app _).move _ _
theorem Fw(lab c d:Int)(P:List NAgent):∀k,cZ (aF lab c d P k) (P++List.replicate k (aJ 4 lab 0 [] 3))
 |0=>by rw[List.replicate_zero,List.append_nil];exact cZ.refl _
 |k+1=>by
  unfold aF sP;rw[List.replicate_succ',←List.append_assoc];exact(((Fw lab c d P k).app _).link _ _).link _ _
theorem Ck{y:Int}{b:Nat}{P Q:List NAgent}(h:cZ P Q):∀k,cZ (bC y b P k) Q
 |0=>h
 |k+1=>(Ck h k).move _ _
theorem SQ:Wf (aJ 5 0 0 [] 1):=by unfold Wf;decide
theorem Kt{k l:Int}(h:bg k l=true):l=0∨(0≤l∧l≤8):=by
 unfold bg at h;simp only[Bool.and_eq_true,Bool.or_eq_true,beq_iff_eq]at h;rcases h.2 with h|h
 ·exact .inl h
 ·exact .inr (inB_t h.2)
theorem vk{k l:Int}(hk:k=3∨k=4∨k=8∨k=12)(h:l=0∨(0≤l∧l≤8)):bg k l=true:=by
 have h1:iT k=true:=rO (by omega) (by omega)
 have h2:aU k=true:=by
  unfold aU;rw[h1];rcases hk with rfl|rfl|rfl|rfl<;>decide
 unfold bg;rw[h1,h2];rcases h with rfl|h
 ·rfl
 ·rw[show tL l=true from rO h.1 h.2];simp
theorem GJ{k lv v:Int}{d:List Int}{n:Nat}(h1:bg k lv=true)(h2:dS (gA (aJ k lv v d n))=true)(h3:(n:Int)=bD k (cO k n))(h4:0<n):Wf (aJ k lv v d n):=by
 unfold Wf bN;have e:((gA (aJ k lv v d n)).ports.length:Int)=(n:Int):=by simp[gA,aJ]
 have e2:fieldsOf (gA (aJ k lv v d n))=cO k n:=by unfold fieldsOf;rw[e];rfl
 rw[e2,e];show(decide (0<bD k (cO k n))&&(n:Int)==bD k (cO k n)&&bg k lv&&dS (gA (aJ k lv v d n)))=true;rw[←h3,h1,h2];simp only[beq_self_eq_true,Bool.and_true,decide_eq_true_eq];omega
theorem SS{lv:Int}(h:lv=0∨(0≤lv∧lv≤8)):Wf (aJ 4 lv 0 [] 3):=GJ (vk (by omega) h) rfl rfl (by decide)
theorem SN{lv:Int}(h:lv=0∨(0≤lv∧lv≤8)):Wf (aJ 3 lv 0 [] 3):=GJ (vk (by omega) h) rfl rfl (by decide)
theorem OG{lv v:Int}(h:lv=0∨(0≤lv∧lv≤8))(hv:iK v=true):Wf (aJ 12 lv v [] 1):=GJ (vk (by omega) h) (by show((((0:Nat):Int)==0)&&iK v)=true;rw[hv];rfl) rfl (by decide)
theorem SY{v:Int}(hv:nH v=true):Wf (aJ 6 0 v [] 1):=GJ (by decide) (by show((((0:Nat):Int)==0)&&nH v)=true;rw[hv];rfl) rfl (by decide)
theorem S9{lv v w:Int}(h:lv=0∨(0≤lv∧lv≤8))(hv:iF v=true)(hw:nH w=true):Wf (aJ 8 lv v [w] 2):=GJ (vk (by omega) h) (by show(((((1:Nat):Int)==1)&&iF v)&&nH (bS [w] 0))=true;rw[hv,show bS [w] 0=w from rfl,hw];rfl) rfl (by decide)
theorem Kl{a:NAgent}(h:Wf a):Wf (aJ a.1 a.2.1 a.2.2.1 a.2.2.2.1 a.2.2.2.2.length):=(ED (by unfold sig aJ;simp)).2 h
theorem sH{a:NAgent}(h:Wf a):a.2.1=0∨(0≤a.2.1∧a.2.1≤8):=Kt (dF h).1
theorem OD{a:NAgent}(h:Wf a)(k:a.1=6):nH a.2.2.1=true:=by
 have:=(dF h).2.1;unfold dS gA at this;simp only[k,beq_self_eq_true,if_true,Bool.and_eq_true]at this;exact this.2
theorem QB{a:NAgent}(h:Wf a)(k:a.1=7):iF a.2.2.1=true:=by
 have:=(dF h).2.1;unfold dS gA at this;simp only[k]at this;simp at this;exact this.2
theorem OE{a:NAgent}(h:Wf a)(k:a.1=8):a.2.2.2.1.length=1∧iF a.2.2.1=true∧nH (bS a.2.2.2.1 0)=true:=by
 have:=(dF h).2.1;unfold dS gA at this;simp only[k]at this;simp at this;exact⟨by omega,this.1.2,this.2⟩
theorem Jh{l:List Int}(h:jk l=true){i:Int}(h0:0≤i)(h1:i<(l.length:Nat)):iK (gu l i)=true:=by
 unfold jk bU at h;rw[List.all_eq_true]at h;have:=h i.toNat (List.mem_range.2 (by omega));exact this
theorem OC{a:NAgent}(h:Wf a)(k:a.1=10):1≤a.2.2.2.1.length∧a.2.2.2.1.length≤4∧jk a.2.2.2.1=true:=by
 have:=(dF h).2.1;unfold dS gA at this;simp only[k]at this;simp at this;have h2:=inB_t this.1.2;exact⟨by omega,by omega,this.2⟩
theorem A8{a:NAgent}(h:Wf a)(k:a.1=11):a.2.2.2.1.length=2∧jk a.2.2.2.1=true:=by
 have:=(dF h).2.1;unfold dS gA at this;simp only[k]at this;simp at this;exact⟨by omega,this.2⟩
theorem qg{a:NAgent}(h:Wf a)(k:a.1=12):0≤a.2.2.1∧a.2.2.1≤23:=by
 have:=(dF h).2.1;unfold dS gA at this;simp only[k]at this;simp at this;exact inB_t this.2
theorem AZ{a:NAgent}(h:Wf a)(k:a.1=9):0≤a.2.2.1∧a.2.2.1≤3:=by
 have:=(dF h).2.1;unfold dS gA at this;simp only[k]at this;simp at this;exact inB_t this.2
theorem wf_data{a:NAgent}(h:Wf a):a.2.2.2.1.length≤4:=by
 have:=(dF h).2.1;unfold dS gA at this;dsimp only at this;split at this
 ·simp at this;rw[this.1];decide
 split at this
 ·simp at this;rw[this.1];decide
 split at this
 ·simp at this;omega
 split at this
 ·simp at this;rw[this.1];decide
 split at this
 ·simp at this;rw[this.1];decide
 split at this
 ·simp at this;have:=inB_t this.1.2;omega
 split at this
 ·simp at this;omega
 ·simp at this;rw[this.2];decide
def C9(D:Int→Prop)(xs:List NAgent):Prop:=∀i:Int,0≤i→i<(xs.length:Nat)→¬D i→Wf (agAt xs i)
theorem C9.grow{D E:Int→Prop}{xs xs' zs:List NAgent}(h:C9 D xs)(hs:cZ xs' (xs++zs))(hz:∀z∈zs,Wf z)(hE:∀i,D i→E i):C9 E xs':=fun i h0 h1 hi=>by
 rw[ED (hs.2 i h0 h1)]
 by_cases hl:i<(xs.length:Nat)
 ·rw[bE (by omega)];exact h i h0 hl fun k=>hi (hE i k)
 ·have hln:=hs.1;rw[List.length_append]at hln;have hlt:i.toNat-xs.length<zs.length:=by omega
  have e:agAt (xs++zs) i=zs[i.toNat-xs.length]:=by
   unfold agAt elt;rw[List.getD_eq_getElem?_getD,List.getElem?_append_right (by omega),List.getElem?_eq_getElem hlt];rfl
  rw[e];exact hz _ (List.getElem_mem hlt)
structure BkW(bk:List (List NAgent)):Prop where
 wi:∀v:Int,0≤v→v<(bk.length:Nat)→Wired (fun p=>PortIn (aS bk v) p) (aS bk v)
 r0:∀v:Int,0≤v→v<(bk.length:Nat)→PortIn (aS bk v) (0,0)
 r1:∀v:Int,0≤v→v<(bk.length:Nat)→∀p,PortIn (aS bk v) p→p.1=0→p=(0,0)
 wf:∀v:Int,0≤v→v<(bk.length:Nat)→∀i:Int,0≤i→i<((aS bk v).length:Nat)→Wf (agAt (aS bk v) i)
def pO(bk:List (List NAgent))(xs:List NAgent)(c x y:Int):List NAgent:=
 bif c==3 then[jS xs y]++[jS xs y]++List.replicate ((agAt xs y).2.2.2.2.length-1) (aJ 4 (agAt xs x).2.1 0 [] 3)
 else bif c==4 then List.replicate ((agAt xs y).2.2.2.2.length-1) (aJ 5 0 0 [] 1)
 else bif c==5 then(bif (agAt xs y).1==7 then[aJ 8 (agAt xs y).2.1 (agAt xs y).2.2.1 [(agAt xs x).2.2.1] 2]else[aJ 6 0 (r9 (agAt xs y).2.2.1 (gu (agAt xs y).2.2.2.1 0) (agAt xs x).2.2.1) [] 1])
 else bif c==6 then(bif (agAt xs x).1==6 then[aJ 12 (agAt xs y).2.1 (gu (agAt xs y).2.2.2.1 (bif (agAt xs x).2.2.1==0 then 1 else 0)) [] 1]
  else[aJ 12 (agAt xs y).2.1 (gu (agAt xs y).2.2.2.1 (agAt xs x).2.2.1) [] 1]++List.replicate ((agAt xs x).2.2.2.2.length-1) (aJ 3 (agAt xs y).2.1 0 [] 3))
 else bif c==7 then((jR bk xs x).drop 1).map (bn ((xs.length:Nat)-1))else[]
section
variable {D:Int→Prop}{xs ys:List NAgent}{x y:Int}{bk:List (List NAgent)}
theorem I7{x:Int}{b:Nat}{P Q:List NAgent}(h:cZ P Q):∀k,cZ (y9 x b P k) Q
 |0=>h
 |k+1=>(I7 h k).move _ _
theorem I9(lv:Int)(b:Nat)(P:List NAgent):∀k,cZ (mJ lv b P k) (P++List.replicate k (aJ 3 lv 0 [] 3))
 |0=>by rw[List.replicate_zero,List.append_nil];exact cZ.refl _
 |k+1=>by
  unfold mJ;rw[List.replicate_succ',←List.append_assoc];exact((I9 lv b P k).app _).link _ _
theorem Ca{c:Int}(hc:1≤c∧c≤7)(hx:x.toNat<xs.length):cZ (dW bk xs c x y) (xs++pO bk xs c x y):=by
 have hcs:c=1∨c=2∨c=3∨c=4∨c=5∨c=6∨c=7:=by omega
 rcases hcs with rfl|rfl|rfl|rfl|rfl|rfl|rfl
 ·show cZ (aB (aB xs (x,1) (y,1)) (x,2) (y,2)) (xs++[]);rw[List.append_nil];exact((cZ.refl xs).join _ _).join _ _
 ·show cZ (aB (aB xs (x,1) (y,1)) (x,2) (y,2)) (xs++[]);rw[List.append_nil];exact((cZ.refl xs).join _ _).join _ _
 ·show cZ (aO xs x y) (xs++([jS xs y]++[jS xs y]++List.replicate ((agAt xs y).2.2.2.2.length-1) (aJ 4 (agAt xs x).2.1 0 [] 3)));unfold aO iZ dup3
  have e:(agAt (dup2 xs y) x).2.1=(agAt xs x).2.1:=by
   unfold dup2;rw[bE (by rw[List.length_append];omega),bE hx]
  rw[←(iN (x:=x) (by rw[dU];omega) _).1,e];refine Ck ((cZ.move ?_ _ _).move _ _) _;rw[←List.append_assoc,←List.append_assoc];exact Fw _ _ _ _ _
 ·exact Jo y xs _
 ·show cZ (aN xs x y) (xs++(bif (agAt xs y).1==7 then[aJ 8 (agAt xs y).2.1 (agAt xs y).2.2.1 [(agAt xs x).2.2.1] 2]else[aJ 6 0 (r9 (agAt xs y).2.2.1 (gu (agAt xs y).2.2.2.1 0) (agAt xs x).2.2.1) [] 1]));unfold aN;cases (agAt xs y).1==7 with
  |true=>exact(((cZ.refl xs).app _).move _ _).move _ _
  |false=>exact((cZ.refl xs).app _).move _ _
 ·show cZ (iC xs x y) (xs++(bif (agAt xs x).1==6 then[aJ 12 (agAt xs y).2.1 (gu (agAt xs y).2.2.2.1 (bif (agAt xs x).2.2.1==0 then 1 else 0)) [] 1]
   else[aJ 12 (agAt xs y).2.1 (gu (agAt xs y).2.2.2.1 (agAt xs x).2.2.1) [] 1]++List.replicate ((agAt xs x).2.2.2.2.length-1) (aJ 3 (agAt xs y).2.1 0 [] 3)))
  unfold iC;cases (agAt xs x).1==6 with
  |true=>exact((cZ.refl xs).app _).move _ _
  |false=>
   simp only[cond_false];rw[←List.append_assoc];exact(I7 (I9 _ _ _ _) _).move _ _
 ·exact((cZ.refl xs).app _).link _ _
theorem MS{c:Int}(h:St D xs ys)(k:jT D xs x y)(hD:∀i,D i→i<(xs.length:Nat))(hw:C9 D xs)(hr:rule (agAt xs x).1 (agAt xs x).2.1 (agAt xs y).1 (agAt xs y).2.1=c)(hc:1≤c∧c≤7)(hb:BkW bk)(h7:c=7→(agAt xs x).2.2.1<(bk.length:Nat)):
  St (fun i=>D i∨i∈dI c x y) (dW bk xs c x y) (dH bk ys c x y):=by
 have wx:=hw x k.px.1 k.px.2.1 k.lx;have wy:=hw y k.py.1 k.py.2.1 k.ly;obtain⟨x1,x2,x3,x4⟩:=wf_ports wx;obtain⟨y1,y2,y3,y4⟩:=wf_ports wy;obtain⟨r1,r2,r3,r4,r5,r6,r7⟩:=fq hr (by omega)
 have mono:∀{E:Int→Prop} {A B:List NAgent},(∀i,E i↔D i∨i=x∨i=y)→St (fun i=>D i∨i=x∨i=y) A B→St E A B:=fun {E A B} e s=>by
  have:E=fun i=>D i∨i=x∨i=y:=funext fun i=>propext (e i)
  rw[this];exact s
 have g2:c≠7→∀i,(D i∨i∈dI c x y)↔D i∨i=x∨i=y:=fun hne i=>by
  unfold dI;rw[show(c==7)=false by simpa using hne];simp
 have hcs:c=1∨c=2∨c=3∨c=4∨c=5∨c=6∨c=7:=by omega
 rcases hcs with rfl|rfl|rfl|rfl|rfl|rfl|rfl
 ·obtain⟨a,b⟩:=r1 rfl;exact mono (g2 (by decide)) (h.joins k (x3 (by omega)) (y3 (by omega)))
 ·obtain⟨a,b⟩:=r2 rfl;exact mono (g2 (by decide)) (h.joins k (x3 (by omega)) (y3 (by omega)))
 ·exact mono (g2 (by decide)) (h.duplicate k hD (x3 (by have:=r3 rfl;omega)) (dF wy).2.2.2)
 ·exact mono (g2 (by decide)) (h.erase k hD (x1 (by have:=r4 rfl;omega)))
 ·obtain⟨a,b⟩:=r5 rfl;exact mono (g2 (by decide)) (h.operate k hD (x1 (by omega)) (fun e=>y3 (by omega)) (fun e=>y2 (by omega)))
 ·have q:=r6 rfl;exact mono (g2 (by decide)) (h.choose k hD (by omega) (fun e=>x1 (by omega)) (dF wx).2.2.2 (y2 (by omega)))
 ·obtain⟨a,b⟩:=r7 rfl;have v:=qg wx a;have e:(fun i=>D i∨i∈dI 7 x y)=fun i=>D i∨i=x:=funext fun i=>propext (by unfold dI;simp)
  rw[e];exact h.expand k hD (x1 (by omega)) (hb.wi _ v.1 (h7 rfl)) (hb.r0 _ v.1 (h7 rfl)) (hb.r1 _ v.1 (h7 rfl))
end
end Go.Tr
namespace Go.Tr
open Go Go.RowKit
theorem wM(x:Int):nH (kC x)=true:=by
 have h: -2147483648≤IntKind.i32.wrap x∧IntKind.i32.wrap x≤2147483647:=by
  simp only[IntKind.wrap,IntKind.bits,IntKind.signed];simp;omega
 unfold kC;rw[IntWalk.i64_in _ (by omega)];exact rO h.1 h.2
theorem P7(o a b:Int):nH (r9 o a b)=true:=by
 unfold r9;cases o==1 with
 |true=>exact wM _
 |false=>
 cases o==2 with
 |true=>exact wM _
 |false=>
 cases o==3 with
 |true=>exact wM _
 |false=>
 cases o==4 with
 |true=>
  cases kC b==0 with
  |true=>rfl
  |false=>exact wM _
 |false=>
 cases o==5 with
 |true=>cases decide (kC a<kC b)<;>rfl
 |false=>
 cases o==6 with
 |true=>cases kC a==kC b<;>rfl
 |false=>rfl
theorem OH{lv:Int}{a:NAgent}(h:Wf a)(h0:0≤lv)(h8:(!(aU a.kind)||decide (a.level+lv≤8))=true):Wf (fQ lv a):=by
 unfold fQ;cases hl:aU a.kind with
 |false=>exact h
 |true=>
  have h9:a.2.1+lv≤8:=by
   rw[show NAgent.kind a=a.1 from rfl]at*;rw[hl]at h8;simpa using h8
  have hp:=dF h;have hlev:=sH h;unfold Wf bN at h ⊢;simp only[Bool.and_eq_true]at h ⊢;obtain⟨⟨⟨q1,q2⟩,q3⟩,q4⟩:=h;refine⟨⟨⟨q1,q2⟩,?_⟩,q4⟩;show bg a.1 (a.2.1+lv)=true;have q5:bg a.1 a.2.1=true:=q3;unfold bg at q5 ⊢;simp only[Bool.and_eq_true,Bool.or_eq_true]at q5 ⊢;exact⟨q5.1,.inr ⟨hl,rO (by omega) h9⟩⟩
theorem KT(b:Int)(a:NAgent):sig (bn b a)=sig a:=by unfold sig bn;simp
section
variable {D:Int→Prop}{xs:List NAgent}{x y:Int}{bk:List (List NAgent)}
theorem Cb{c:Int}(hw:C9 D xs)(hx:0≤x∧x<(xs.length:Nat))(hy:0≤y∧y<(xs.length:Nat))(lx:¬D x)(ly:¬D y)(hr:rule (agAt xs x).1 (agAt xs x).2.1 (agAt xs y).1 (agAt xs y).2.1=c)(hc:1≤c∧c≤7)(hb:BkW bk)
  (h6:c=6→(agAt xs x).1=9→(agAt xs x).2.2.1<((agAt xs y).2.2.2.1.length:Nat)) (h7:c=7→(agAt xs x).2.2.1<(bk.length:Nat)∧dD (agAt xs x).2.1 (aS bk (agAt xs x).2.2.1)=true):C9 D (dW bk xs c x y):=by
 have wx:=hw x hx.1 hx.2 lx;have wy:=hw y hy.1 hy.2 ly;have lvx:=sH wx;have lvy:=sH wy;obtain⟨r1,r2,r3,r4,r5,r6,r7⟩:=fq hr (by omega);refine hw.grow (Ca hc (by omega)) ?_ fun i e=>e
 have hcs:c=1∨c=2∨c=3∨c=4∨c=5∨c=6∨c=7:=by omega
 rcases hcs with rfl|rfl|rfl|rfl|rfl|rfl|rfl
 ·intro z hz;cases hz
 ·intro z hz;cases hz
 ·intro z hz;have hz':z∈[jS xs y]++[jS xs y]++List.replicate ((agAt xs y).2.2.2.2.length-1) (aJ 4 (agAt xs x).2.1 0 [] 3):=hz;rw[List.mem_append,List.mem_append,List.mem_singleton]at hz';rcases hz' with(e|e)|e
  ·rw[e];exact Kl wy
  ·rw[e];exact Kl wy
  ·rw[List.eq_of_mem_replicate e];exact SS lvx
 ·intro z hz;have hz':z∈List.replicate ((agAt xs y).2.2.2.2.length-1) (aJ 5 0 0 [] 1):=hz;rw[List.eq_of_mem_replicate hz'];exact SQ
 ·obtain⟨a,b⟩:=r5 rfl;intro z hz;have hz':z∈(bif (agAt xs y).1==7 then[aJ 8 (agAt xs y).2.1 (agAt xs y).2.2.1 [(agAt xs x).2.2.1] 2]else[aJ 6 0 (r9 (agAt xs y).2.2.1 (gu (agAt xs y).2.2.2.1 0) (agAt xs x).2.2.1) [] 1]):=hz;cases hk:(agAt xs y).1==7 with
  |true=>
   rw[hk,cond_true,List.mem_singleton]at hz';rw[hz'];exact S9 lvy (QB wy (by simpa using hk)) (OD wx a)
  |false=>
   rw[hk,cond_false,List.mem_singleton]at hz';rw[hz'];exact SY (P7 _ _ _)
 ·have q:=r6 rfl;intro z hz
  have hz':z∈(bif (agAt xs x).1==6 then[aJ 12 (agAt xs y).2.1 (gu (agAt xs y).2.2.2.1 (bif (agAt xs x).2.2.1==0 then 1 else 0)) [] 1]
   else[aJ 12 (agAt xs y).2.1 (gu (agAt xs y).2.2.2.1 (agAt xs x).2.2.1) [] 1]++List.replicate ((agAt xs x).2.2.2.2.length-1) (aJ 3 (agAt xs y).2.1 0 [] 3)):=hz
  rcases q with⟨a,b⟩|⟨a,b⟩
  ·rw[show((agAt xs x).1==6)=true by simpa using a,cond_true,List.mem_singleton]at hz';obtain⟨l2,d⟩:=A8 wy b;rw[hz'];refine OG lvy (Jh d ?_ ?_)
   ·cases (agAt xs x).2.2.1==0<;>decide
   ·rw[l2];cases (agAt xs x).2.2.1==0<;>decide
  ·rw[show((agAt xs x).1==6)=false by simp[a],cond_false,List.mem_append,List.mem_singleton]at hz';obtain⟨_,_,d⟩:=OC wy b;rcases hz' with e|e
   ·rw[e];exact OG lvy (Jh d (AZ wx a).1 (h6 rfl a))
   ·rw[List.eq_of_mem_replicate e];exact SN lvy
 ·obtain⟨a,b⟩:=r7 rfl;obtain⟨v1,v2⟩:=h7 rfl;intro z hz;have hz':z∈((jR bk xs x).drop 1).map (bn ((xs.length:Nat)-1)):=hz;obtain⟨w,hw1,rfl⟩:=List.mem_map.1 hz';rw[ED (KT _ w)];have hw2:=List.mem_of_mem_drop hw1;unfold jR aZ at hw2;obtain⟨u,hu,rfl⟩:=List.mem_map.1 hw2;obtain⟨i,hi,rfl⟩:=List.mem_iff_getElem.1 hu;have hv:=qg wx a;have wu:=hb.wf _ hv.1 v1 (i:Nat) (by omega) (by omega)
  have e:agAt (aS bk (agAt xs x).2.2.1) (i:Nat)=(aS bk (agAt xs x).2.2.1)[i]:=by
   generalize aS bk (agAt xs x).2.2.1=t at*;unfold agAt elt;rw[Int.toNat_natCast,List.getD_eq_getElem?_getD,List.getElem?_eq_getElem hi];rfl
  rw[e]at wu;refine OH wu (by omega) ?_;unfold dD at v2;exact List.all_eq_true.1 v2 _ hu
theorem MU{c:Int}(hw:C9 D xs)(hx:0≤x∧x<(xs.length:Nat))(hy:0≤y∧y<(xs.length:Nat))(lx:¬D x)(ly:¬D y)(hr:rule (agAt xs x).1 (agAt xs x).2.1 (agAt xs y).1 (agAt xs y).2.1=c)(hc:1≤c∧c≤7)(hb:BkW bk)
  (h6:c=6→(agAt xs x).1=9→(agAt xs x).2.2.1<((agAt xs y).2.2.2.1.length:Nat)) (h7:c=7→(agAt xs x).2.2.1<(bk.length:Nat)∧dD (agAt xs x).2.1 (aS bk (agAt xs x).2.2.1)=true):C9 (fun i=>D i∨i∈dI c x y) (dW bk xs c x y):=fun i h0 h1 hi=>Cb hw hx hy lx ly hr hc hb h6 h7 i h0 h1 fun e=>hi (.inl e)
end
end Go.Tr
namespace Go.Tr
open Go Go.RowKit
section
variable {D:Int→Prop}{xs ys:List NAgent}{x y a b:Int}{bk:List (List NAgent)}
theorem F9{u v:NAgent}(hu:Wf u)(hv:Wf v)(ru:u.1≠1)(rv:v.1≠1):jv u.1 u.2.1 v.1 v.2.1=true:=by
 unfold jv;rw[(dF hu).1,(dF hv).1];simp[ru,rv]
theorem Ky{u v:NAgent}(hu:Wf u)(hv:Wf v)(ru:u.1≠1)(rv:v.1≠1):1≤aC u.1 u.2.1 v.1 v.2.1∧aC u.1 u.2.1 v.1 v.2.1≤8:=by
 have hp:=F9 hu hv ru rv;unfold aC;rw[hp,if_pos rfl];have r1:=qH u.1 u.2.1 v.1 v.2.1;have r2:=qH v.1 v.2.1 u.1 u.2.1;split
 ·split
  ·decide
  ·omega
 ·omega
theorem Ht{u v:NAgent}(hu:Wf u)(hv:Wf v)(ru:u.1≠1)(rv:v.1≠1)(h8:aC u.1 u.2.1 v.1 v.2.1=8):aG u.1 u.2.1 v.1 v.2.1=0:=by
 have hp:=F9 hu hv ru rv;unfold aC at h8;unfold aG;rw[hp,if_pos rfl]at h8;rw[hp,if_pos rfl];have r1:=qH u.1 u.2.1 v.1 v.2.1;have r2:=qH v.1 v.2.1 u.1 u.2.1;split at h8
 ·rename_i e1;rw[if_pos e1];split at h8
  ·rename_i e2;rw[if_pos e2]
  ·omega
 ·omega
theorem GV{u v:NAgent}{c:Int}(hr:rule u.1 u.2.1 v.1 v.2.1=c)(hc:1≤c∧c≤7):jX u v=false∧mg c u v=eP u v:=by
 obtain⟨r1,r2,r3,r4,r5,r6,r7⟩:=fq hr (by omega)
 have k2:u.1≠10:=by
  intro e;have:c=1∨c=2∨c=3∨c=4∨c=5∨c=6∨c=7:=by omega
  rcases this with h|h|h|h|h|h|h
  ·have:=r1 h;omega
  ·have:=r2 h;omega
  ·have:=r3 h;omega
  ·have:=r4 h;omega
  ·have:=r5 h;omega
  ·have:=r6 h;omega
  ·have:=r7 h;omega
 constructor
 ·unfold jX;rw[show(u.1==10)=false by simpa using k2];rfl
 ·unfold mg eP
  have e:(bif c==6 then v.kind==10 else false)=(bif u.1==9 then v.1==10 else false):=by
   show(bif c==6 then v.1==10 else false)=_
   by_cases h9:u.1=9
   ·have hc6:c=6∨v.1≠10:=by
     by_cases hv:v.1=10
     ·left;rw[←hr];unfold rule;rw[h9,hv];rfl
     ·exact .inr hv
    rw[show(u.1==9)=true by simpa using h9,cond_true];rcases hc6 with h|h
    ·rw[h];rfl
    ·rw[show(v.1==10)=false by simpa using h];cases c==6<;>rfl
   ·rw[show(u.1==9)=false by simpa using h9,cond_false]
    by_cases h6:c=6
    ·have:=r6 h6;rw[show(v.1==10)=false by simp;omega];cases c==6<;>rfl
    ·rw[show(c==6)=false by simpa using h6];rfl
  rw[e]
theorem zh(ha:Wf (agAt xs a))(hb:Wf (agAt xs b))(ra:(agAt xs a).1≠1)(rb:(agAt xs b).1≠1):(aH (agAt xs a) (agAt xs b)).1=aQ (agAt xs (firstS xs a b).1) (agAt xs (firstS xs a b).2)∧
  ((aH (agAt xs a) (agAt xs b)).1≠8→(bif (aH (agAt xs a) (agAt xs b)).2 then b else a)=(firstS xs a b).1∧(bif (aH (agAt xs a) (agAt xs b)).2 then a else b)=(firstS xs a b).2∧
   rule (agAt xs (firstS xs a b).1).1 (agAt xs (firstS xs a b).1).2.1 (agAt xs (firstS xs a b).2).1 (agAt xs (firstS xs a b).2).2.1=(aH (agAt xs a) (agAt xs b)).1∧1≤(aH (agAt xs a) (agAt xs b)).1∧(aH (agAt xs a) (agAt xs b)).1≤7):=by
 have hp:=Ky ha hb ra rb
 by_cases h8:aC (agAt xs a).1 (agAt xs a).2.1 (agAt xs b).1 (agAt xs b).2.1=8
 ·have hf:=Ht ha hb ra rb h8
  have e1:aH (agAt xs a) (agAt xs b)=(8,false):=by
   unfold aH mg;rw[show(aG (agAt xs a).kind (agAt xs a).level (agAt xs b).kind (agAt xs b).level==2)=false by rw[show aG (agAt xs a).kind (agAt xs a).level (agAt xs b).kind (agAt xs b).level=0 from hf];rfl];rw[show aC (agAt xs a).kind (agAt xs a).level (agAt xs b).kind (agAt xs b).level=8 from h8];rfl
  have e2:firstS xs a b=(a,b):=by unfold firstS;rw[hf];rfl
  rw[e1,e2];refine⟨?_,fun h=>absurd rfl h⟩;unfold aQ;rw[h8];cases eP (agAt xs a) (agAt xs b)<;>cases jX (agAt xs a) (agAt xs b)<;>rfl
 ·have hc:1≤aC (agAt xs a).1 (agAt xs a).2.1 (agAt xs b).1 (agAt xs b).2.1∧aC (agAt xs a).1 (agAt xs a).2.1 (agAt xs b).1 (agAt xs b).2.1≤7:=by omega
  have hr:=Ho (xs:=xs) (a:=a) (b:=b) hc;obtain⟨c1,c2⟩:=GV hr hc
  have hcS:aQ (agAt xs (firstS xs a b).1) (agAt xs (firstS xs a b).2)=bif eP (agAt xs (firstS xs a b).1) (agAt xs (firstS xs a b).2)then 8 else aC (agAt xs a).1 (agAt xs a).2.1 (agAt xs b).1 (agAt xs b).2.1:=by
   unfold aQ;rw[c1]
   have:aC (agAt xs (firstS xs a b).1).1 (agAt xs (firstS xs a b).1).2.1 (agAt xs (firstS xs a b).2).1 (agAt xs (firstS xs a b).2).2.1=aC (agAt xs a).1 (agAt xs a).2.1 (agAt xs b).1 (agAt xs b).2.1:=by
    unfold firstS;cases aG (agAt xs a).1 (agAt xs a).2.1 (agAt xs b).1 (agAt xs b).2.1==2 with
    |true=>exact tZ _ _ _ _
    |false=>rfl
   rw[this];cases eP (agAt xs (firstS xs a b).1) (agAt xs (firstS xs a b).2)<;>rfl
  rw[hcS];generalize hC:aC (agAt xs a).1 (agAt xs a).2.1 (agAt xs b).1 (agAt xs b).2.1=c at*;cases hf:aG (agAt xs a).1 (agAt xs a).2.1 (agAt xs b).1 (agAt xs b).2.1==2 with
  |true=>
   have e2:firstS xs a b=(b,a):=by unfold firstS;rw[hf];rfl
   rw[e2]at hr c2 ⊢
   have e1:aH (agAt xs a) (agAt xs b)=bif eP (agAt xs b) (agAt xs a)then(8,false)else(c,true):=by
    unfold aH;rw[show(aG (agAt xs a).kind (agAt xs a).level (agAt xs b).kind (agAt xs b).level==2)=true from hf,show aC (agAt xs a).kind (agAt xs a).level (agAt xs b).kind (agAt xs b).level=c from hC];simp only[cond_true];rw[c2]
   rw[e1];cases eP (agAt xs b) (agAt xs a)with
   |true=>exact⟨rfl,fun h=>absurd rfl h⟩
   |false=>exact⟨rfl,fun _=>⟨rfl,rfl,hr,hc⟩⟩
  |false=>
   have e2:firstS xs a b=(a,b):=by unfold firstS;rw[hf];rfl
   rw[e2]at hr c2 ⊢
   have e1:aH (agAt xs a) (agAt xs b)=bif eP (agAt xs a) (agAt xs b)then(8,false)else(c,false):=by
    unfold aH;rw[show(aG (agAt xs a).kind (agAt xs a).level (agAt xs b).kind (agAt xs b).level==2)=false from hf,show aC (agAt xs a).kind (agAt xs a).level (agAt xs b).kind (agAt xs b).level=c from hC];simp only[cond_false];rw[c2]
   rw[e1];cases eP (agAt xs a) (agAt xs b)with
   |true=>exact⟨rfl,fun h=>absurd rfl h⟩
   |false=>exact⟨rfl,fun _=>⟨rfl,rfl,hr,hc⟩⟩
end
end Go.Tr
namespace Go.Tr
open Go Go.RowKit
section
variable {xs:List NAgent}{a b:Int}{bk:List (List NAgent)}
theorem PW{u v m:Int}:maxI u v≤m↔u≤m∧v≤m:=by
 unfold maxI;cases h:decide (v<u)with
 |true=>simp only[decide_eq_true_eq]at h;simp only[cond_true];omega
 |false=>simp only[decide_eq_false_iff_not]at h;simp only[cond_false];omega
theorem xq{t:List NAgent}{m:Int}(hm:0≤m):∀k:Nat,jD t k≤m↔∀i:Nat,i<k→(agAt t (i:Nat)).2.1≤m
 |0=>⟨fun _ i hi=>by omega,fun _=>hm⟩
 |k+1=>by
  unfold jD;rw[PW,xq hm k];constructor
  ·rintro⟨h1,h2⟩ i hi
   by_cases e:i=k
   ·rw[e];exact h2
   ·exact h1 i (by omega)
  ·intro h;exact⟨fun i hi=>h i (by omega),h k (by omega)⟩
theorem rC{t:List NAgent}{i:Nat}(hi:i<t.length):agAt t (i:Nat)=t[i]:=by
 unfold agAt elt;rw[Int.toNat_natCast,List.getD_eq_getElem?_getD,List.getElem?_eq_getElem hi];rfl
theorem Oe{t:List NAgent}{lv:Int}(ht:∀i:Int,0≤i→i<(t.length:Nat)→Wf (agAt t i))(h0:0≤lv)(h8:lv≤8):decide (8<IntKind.i64.wrap (jD t t.length+lv))= !dD lv t:=by
 have hb:jD t t.length≤8:=(xq (by decide) _).2 fun i hi=>by
  have:=sH (ht (i:Nat) (by omega) (by omega));omega
 have hz:0≤jD t t.length:=by
  have:∀k:Nat,0≤jD t k:=fun k=>by
   induction k with
   |zero=>exact Int.le_refl 0
   |succ k ih=>unfold jD maxI;cases h:decide ((agAt t (k:Nat)).2.1<jD t k)with
    |true=>exact ih
    |false=>simp only[decide_eq_false_iff_not]at h;simp only[cond_false];omega
  exact this _
 rw[IntWalk.i64_in _ (by omega)]
 have key:dD lv t=decide (jD t t.length≤8-lv):=by
  rw[Bool.eq_iff_iff,decide_eq_true_eq,xq (by omega)];unfold dD;rw[List.all_eq_true];constructor
  ·intro h i hi;have q:=h _ (List.getElem_mem hi);have w:=ht (i:Nat) (by omega) (by omega);rw[←rC hi]at q;cases hl:aU (agAt t (i:Nat)).kind with
   |true=>
    rw[hl]at q;have:(agAt t (i:Nat)).2.1+lv≤8:=by simpa using q
    omega
   |false=>
    have q2:=(dF w).1;unfold bg at q2;rw[show aU (agAt t (i:Nat)).1=false from hl]at q2;simp only[Bool.false_and,Bool.or_false,Bool.and_eq_true,beq_iff_eq]at q2;omega
  ·intro h u hu;obtain⟨i,hi,rfl⟩:=List.mem_iff_getElem.1 hu;have q:=h i hi;rw[rC hi]at q;have:t[i].level+lv≤8:=by show t[i].2.1+lv≤8;omega
   simp[this]
 rw[key,←decide_not];exact decide_eq_decide.2 (by omega)
theorem Pn(ha:Wf (agAt xs a))(hb:Wf (agAt xs b))(ra:(agAt xs a).1≠1)(rb:(agAt xs b).1≠1)(hbk:BkW bk):
  ((d9 bk (agAt xs (firstS xs a b).1) (agAt xs (firstS xs a b).2)).2≠0→(checkN bk xs (a,b)).2.2.2=(d9 bk (agAt xs (firstS xs a b).1) (agAt xs (firstS xs a b).2)).2)∧
  ((d9 bk (agAt xs (firstS xs a b).1) (agAt xs (firstS xs a b).2)).2=0→checkN bk xs (a,b)=(aQ (agAt xs (firstS xs a b).1) (agAt xs (firstS xs a b).2),(firstS xs a b).1,(firstS xs a b).2,0)∧
   om bk xs (aQ (agAt xs (firstS xs a b).1) (agAt xs (firstS xs a b).2)) (firstS xs a b).1 (firstS xs a b).2=(d9 bk (agAt xs (firstS xs a b).1) (agAt xs (firstS xs a b).2)).1∧
   (aQ (agAt xs (firstS xs a b).1) (agAt xs (firstS xs a b).2)=7→(agAt xs (firstS xs a b).1).2.2.1<(bk.length:Nat)∧dD (agAt xs (firstS xs a b).1).2.1 (aS bk (agAt xs (firstS xs a b).1).2.2.1)=true)):=by
 obtain⟨e1,e2⟩:=zh ha hb ra rb
 have hx1:Wf (agAt xs (firstS xs a b).1):=by
  unfold firstS;cases aG (agAt xs a).1 (agAt xs a).2.1 (agAt xs b).1 (agAt xs b).2.1==2
  ·exact ha
  ·exact hb
 generalize hc:aQ (agAt xs (firstS xs a b).1) (agAt xs (firstS xs a b).2)=c at*;unfold d9 checkN;rw[hc];simp only[e1]
 by_cases h8:c=8
 ·subst h8;refine⟨fun _=>rfl,fun h=> ?_⟩;cases h
 ·obtain⟨k1,k2,k3,k4,k5⟩:=e2 (by rw[e1];exact h8);rw[e1]at k3 k4 k5;have k1':(bif (aH (agAt xs a) (agAt xs b)).2 then((a,b):Int×Int).2 else((a,b):Int×Int).1)=(firstS xs a b).1:=k1;have k2':(bif (aH (agAt xs a) (agAt xs b)).2 then((a,b):Int×Int).1 else((a,b):Int×Int).2)=(firstS xs a b).2:=k2;rw[show(c==8)=false by simpa using h8];simp only[cond_false];rw[k1',k2'];generalize (firstS xs a b).1=x at*;generalize (firstS xs a b).2=y at*
  by_cases h7:c=7
  ·subst h7;obtain⟨_,_,_,_,_,_,r7⟩:=fq k3 (by decide);have hv:=qg hx1 (r7 rfl).1;have hlv:=sH hx1;rw[show((7:Int)==7)=true from rfl];simp only[cond_true];cases hd:decide ((bk.length:Int)≤(agAt xs x).2.2.1)with
   |true=>
    refine⟨fun _=>rfl,fun h=> ?_⟩;cases h
   |false=>
    simp only[decide_eq_false_iff_not]at hd;have hvl:(agAt xs x).2.2.1<(bk.length:Nat):=by omega
    rw[Oe (hbk.wf _ hv.1 hvl) (by omega) (by omega)];cases hs:dD (agAt xs x).2.1 (aS bk (agAt xs x).2.2.1)with
    |false=>
     refine⟨fun _=>rfl,fun h=> ?_⟩;cases h
    |true=>
     refine⟨fun h=>absurd rfl h,fun _=>⟨by first|rfl|trivial,by first|rfl|trivial,fun _=>⟨hvl,by first|rfl|trivial⟩⟩⟩
  ·rw[show(c==7)=false by simpa using h7];simp only[cond_false];refine⟨fun h=>absurd rfl h,fun _=>⟨by first|rfl|trivial,?_,fun h=>absurd h h7⟩⟩;rfl
end
end Go.Tr
namespace Go.Tr
open Go Go.RowKit
abbrev Ov:U:=.pair (.int .i64) (.pair (.int .i64) (.pair (.int .i64) (.pair (.int .i64) (.int .i64))))
abbrev aX:=Int×Int×Int×Int×Int
def hasB(xs:List NAgent)(k:Int):Bool:=bif decide (0≤k)then decide (k<(xs.length:Nat))else false
def Oo(xs:List NAgent)(kv:List (Int×Bool))(k:Int):Bool:=bif hasB xs k then !(kvGet false kv k)else false
def OW(xs:List NAgent)(a b:Int):Bool:=
 bif (bif (bif decide (a<b)then dV [(elt (dflt uPort) (agAt xs a).2.2.2.2 0).1,(elt (dflt uPort) (agAt xs a).2.2.2.2 0).2] [b,0]else false)then(agAt xs a).1 !=1 else false)then(agAt xs b).1 !=1 else false
theorem kvGet_set(kv:List (Int×Bool))(i j:Int):kvGet false (kvSet kv i true) j=if i=j then true else kvGet false kv j:=by
 induction kv with
 |nil=>
  simp only[kvSet,kvGet]
  by_cases h:i=j
  ·rw[if_pos h,show(i==j)=true by simpa using h];rfl
  ·rw[if_neg h,show(i==j)=false by simpa using h];rfl
 |cons e l ih=>
  obtain⟨k,v⟩:=e;simp only[kvSet];cases h:k==i with
  |true=>
   have h1:k=i:=by simpa using h
   subst h1;simp only[cond_true,kvGet]
   by_cases h2:k=j
   ·rw[if_pos h2,show(k==j)=true by simpa using h2];rfl
   ·rw[if_neg h2,show(k==j)=false by simpa using h2];rfl
  |false=>
   have h1:k≠i:=by simpa using h
   simp only[cond_false,kvGet,ih]
   by_cases h2:k=j
   ·subst h2;rw[if_neg (Ne.symm h1),if_neg (Ne.symm h1)]
   ·rw[show(k==j)=false by simpa using h2];rfl
theorem pE{kv:List (Int×Bool)}(hT:∀e∈kv,e.2=true){i:Int}(h:kvGet false kv i=false):(kvSet kv i true).length=kv.length+1:=by
 induction kv with
 |nil=>rfl
 |cons e l ih=>
  obtain⟨k,v⟩:=e;simp only[kvGet]at h;simp only[kvSet];cases hk:k==i with
  |true=>
   rw[hk,cond_true]at h;have:=hT (k,v) (List.mem_cons_self ..);rw[h]at this;cases this
  |false=>
   rw[hk,cond_false]at h;simp only[cond_false,List.length_cons];rw[ih (fun e he=>hT e (List.mem_cons_of_mem _ he)) h]
theorem DU{kv:List (Int×Bool)}(hT:∀e∈kv,e.2=true)(i:Int):∀e∈kvSet kv i true,e.2=true:=by
 induction kv with
 |nil=>
  intro e he;simp only[kvSet,List.mem_singleton]at he;rw[he]
 |cons e l ih=>
  obtain⟨k,v⟩:=e;simp only[kvSet];cases hk:k==i with
  |true=>
   intro e he;simp only[cond_true,List.mem_cons]at he;rcases he with rfl|he
   ·rfl
   ·exact hT e (List.mem_cons_of_mem _ he)
  |false=>
   intro e he;simp only[cond_false,List.mem_cons]at he;rcases he with rfl|he
   ·exact hT _ (List.mem_cons_self ..)
   ·exact ih (fun e he=>hT e (List.mem_cons_of_mem _ he)) e he
def jH(kv:List (Int×Bool)):Nat→Nat
 |0=>0
 |k+1=>bif kvGet false kv (k:Nat)then jH kv k+1 else jH kv k
theorem wX{kv:List (Int×Bool)}{x:Int}(h0:0≤x)(h:kvGet false kv x=false):∀n:Nat,jH (kvSet kv x true) n=jH kv n+(if x<(n:Nat)then 1 else 0)
 |0=>by rw[if_neg (by omega)];rfl
 |n+1=>by
  unfold jH;rw[kvGet_set,wX h0 h n]
  by_cases e:x=(n:Nat)
  ·subst e;rw[if_pos rfl,cond_true,h,cond_false,if_neg (by omega),if_pos (by omega)]
  ·rw[if_neg e]
   by_cases hl:x<(n:Nat)
   ·rw[if_pos hl,if_pos (by omega)];cases kvGet false kv (n:Nat)<;>simp only[cond_true,cond_false]<;>omega
   ·rw[if_neg hl,if_neg (by omega)];cases kvGet false kv (n:Nat)<;>simp only[cond_true,cond_false]<;>omega
theorem wW{kv:List (Int×Bool)}{n:Nat}(h:∀i:Int,(n:Int)≤i→kvGet false kv i=false):∀m:Nat,jH kv (n+m)=jH kv n
 |0=>rfl
 |m+1=>by
  show jH kv ((n+m)+1)=_;unfold jH;rw[h ((n+m:Nat):Int) (by omega),cond_false];have:=wW h m;rw[this];cases n<;>rfl
theorem FR{kv:List (Int×Bool)}{ys:List NAgent}:∀n:Nat,(∀i:Nat,i<n→((agAt ys (i:Nat)).1=0↔kvGet false kv (i:Nat)=true))→aT ys n+jH kv n=n
 |0,_=>rfl
 |n+1,h=>by
  have ih:=FR n fun i hi=>h i (by omega)
  unfold aT jH;have hn:=h n (by omega)
  by_cases e:(agAt ys (n:Nat)).1=0
  ·rw[hn.1 e,show((agAt ys (n:Nat)).1 !=0)=false by simpa using e,cond_true,cond_false];omega
  ·rw[show((agAt ys (n:Nat)).1 !=0)=true by simpa using e,show kvGet false kv (n:Nat)=false by cases hk:kvGet false kv (n:Nat)with
    |false=>rfl
    |true=>exact absurd (hn.2 hk) e,cond_true,cond_false]
   omega
section
variable {P:List NAgent→Prop}(hl:∀xs p q,P xs→P (aR xs p q))(ha:∀xs zs,P xs→P (xs++zs))
include hl
theorem iy{xs:List NAgent}{p q:NPort}(h:P xs):P (bH xs p q):=hl _ _ _ h
theorem sV{xs:List NAgent}{p q:NPort}(h:P xs):P (aB xs p q):=by
 unfold aB;cases ((peerN xs p).1==q.1&&(peerN xs p).2==q.2)with
 |true=>exact h
 |false=>exact hl _ _ _ h
theorem tX{y:Int}{b:Nat}{xs:List NAgent}(h:P xs):∀k,P (bC y b xs k)
 |0=>h
 |k+1=>iy hl (tX h k)
include ha
theorem vY{x c d:Int}{xs:List NAgent}(h:P xs):∀k,P (bJ x c d xs k)
 |0=>h
 |k+1=>hl _ _ _ (hl _ _ _ (ha _ _ (vY h k)))
theorem FM{y:Int}{xs:List NAgent}(h:P xs):∀k,P (nW y xs k)
 |0=>h
 |k+1=>iy hl (ha _ _ (FM h k))
theorem FL{lv x:Int}{b:Nat}{xs:List NAgent}(h:P xs):∀k,P (lG lv x b xs k)
 |0=>h
 |k+1=>iy hl (hl _ _ _ (ha _ _ (FL h k)))
theorem zI{bk:List (List NAgent)}{xs:List NAgent}{c x y:Int}(h:P xs):P (eH bk xs c x y):=by
 unfold eH;cases c==1
 ·cases c==2
  ·cases c==3
   ·cases c==4
    ·cases c==5
     ·cases c==6
      ·cases c==7
       ·exact h
       ·exact hl _ _ _ (ha _ _ h)
      ·show P (bF xs x y);unfold bF;cases (agAt xs y).1==11
       ·exact iy hl (FL hl ha (ha _ _ h) _)
       ·exact iy hl (ha _ _ h)
     ·show P (aN xs x y);unfold aN;cases (agAt xs y).1==7
      ·exact iy hl (ha _ _ h)
      ·exact iy hl (iy hl (ha _ _ h))
    ·exact FM hl ha h _
   ·exact tX hl (iy hl (iy hl (vY hl ha (ha _ _ (ha _ _ h)) _))) _
  ·exact sV hl (sV hl h)
 ·exact sV hl (sV hl h)
end
def EM(i:Int)(ys:List NAgent):Prop:=i.toNat<ys.length∧agAt ys i=yj
theorem EM.set{i:Int}{ys:List NAgent}(h:EM i ys)(p q:NPort):EM i (ay ys p q):=by
 refine⟨by rw[bB];exact h.1,?_⟩;rw[bZ];split
 ·rename_i e;rw[vg e.1,h.2];rfl
 ·exact h.2
theorem EM.inter{i:Int}{ys:List NAgent}(h:EM i ys)(bk:List (List NAgent))(c x y:Int):EM i (eH bk ys c x y):=
 zI (P:=EM i) (fun xs p q h=>(h.set p q).set q p) (fun xs zs h=>⟨by rw[List.length_append];have:=h.1;omega,by rw[bE h.1];exact h.2⟩) h
theorem EM.drop{i:Int}{ys:List NAgent}(h:EM i ys)(a:Int):EM i (aK ys a):=by
 refine⟨by rw[cB];exact h.1,?_⟩;unfold aK;rw[jo];split
 ·rfl
 ·exact h.2
theorem EM.new{ys:List NAgent}{a:Int}(h0:0≤a)(h1:a<(ys.length:Nat)):EM a (aK ys a):=by
 refine⟨by rw[cB];omega,?_⟩;unfold aK;rw[jo,if_pos ⟨rfl,by omega⟩]
theorem BZ{xs:List NAgent}(bk:List (List NAgent))(c x y:Int):xs.length≤(eH bk xs c x y).length:=
 zI (P:=fun ws=>xs.length≤ws.length) (fun ws p q h=>by rw[gD];exact h) (fun ws zs h=>by rw[List.length_append];omega) (Nat.le_refl _)
theorem AllIn.TR{xs:List NAgent}{p q:NPort}(h:∀r,PortIn xs r→r≠p→r≠q→PortIn xs (peerN xs r))(hp:PortIn xs p)(hq:PortIn xs q):AllIn (aR xs p q):=fun r hr=>by
 have hr':=hr.unlink;rw[gV hp hq hr'];split
 ·exact hp.link
 ·rename_i e1;split
  ·exact hq.link
  ·rename_i e2;exact(h r hr' (Ne.symm e2) (Ne.symm e1)).link
section
variable {xs:List NAgent}{x y c:Int}{bk:List (List NAgent)}
theorem PL(hp:IntPre xs c x y)(hA:AllIn xs)(h0:PortIn xs (0,0))(hc:1≤c∧c≤7)(hb:BkW bk)(h7:c=7→(0≤(agAt xs x).2.2.1∧(agAt xs x).2.2.1<(bk.length:Nat))):AllIn (dW bk xs c x y):=by
 obtain⟨hx0,hy0,p12,p3,px,py,dy,p5,p6⟩:=hp;have hcs:c=1∨c=2∨c=3∨c=4∨c=5∨c=6∨c=7:=by omega
 rcases hcs with rfl|rfl|rfl|rfl|rfl|rfl|rfl
 ·obtain⟨j1,j2,j3,j4⟩:=p12 (.inl rfl);exact(hA.join j1 j3).join j2.join j4.join
 ·obtain⟨j1,j2,j3,j4⟩:=p12 (.inr rfl);exact(hA.join j1 j3).join j2.join j4.join
 ·obtain⟨hx1,hx2⟩:=p3 rfl;show AllIn (aO xs x y);have h2A:=rJ (y:=y) hA h0;have hcd:∀i:Nat,i≤(agAt xs y).2.2.2.2.length-1→PortIn (dup2 xs y) (((xs.length:Nat):Int),(i:Nat))∧PortIn (dup2 xs y) (((xs.length+1:Nat):Int),(i:Nat)):=fun i hi=>⟨ng (by omega) (by omega),ni (by omega) (by omega)⟩
  have h3A:AllIn (dup3 xs x y):=jK h2A (jY h0) _ hcd;have h3:∀{p},PortIn xs p→PortIn (dup3 xs x y) p:=fun h=>aY (jY h) _
  have hc0:PortIn (dup3 xs x y) (((xs.length:Nat):Int),0):=aY (ng (by decide) (by omega)) _;have hd0:PortIn (dup3 xs x y) (((xs.length+1:Nat):Int),0):=aY (ni (by decide) (by omega)) _;have h4A:AllIn (iZ xs x y):=(h3A.move (h3 hx1) hc0).move (h3 hx2).move hd0.move;refine jc h4A _ fun i hi=>⟨(h3 ⟨hy0.1,hy0.2,by omega,?_⟩).move.move,?_⟩
  ·show((i:Nat):Int)+1<((agAt xs y).2.2.2.2.length:Nat);omega
  ·have:=(nk (x:=x) (c:=((xs.length:Nat):Int)) (d:=((xs.length+1:Nat):Int)) (xs:=dup2 xs y) hi).move (p:=(x,1)) (q:=(((xs.length:Nat):Int),0));have:=this.move (p:=(x,2)) (q:=(((xs.length+1:Nat):Int),0));rw[dU]at this;exact this
 ·exact sQ hA h0 _ fun i hi=>⟨hy0.1,hy0.2,by omega,by show((i+1:Nat):Int)<((agAt xs y).2.2.2.2.length:Nat);omega⟩
 ·obtain⟨j1,j2,j3⟩:=p5 rfl;show AllIn (aN xs x y);unfold aN;cases hk:(agAt xs y).1==7 with
  |true=>
   have k7:=j2 (by simpa using hk);exact((hA.add h0 _ _ _ _ _).move j1.app (PortIn.new (by decide) (by decide))).move k7.app.move (PortIn.new (by decide) (by decide)).move
  |false=>exact(hA.add h0 _ _ _ _ _).move j1.app (PortIn.new (by decide) (by decide))
 ·obtain⟨j1,j2,j3⟩:=p6 rfl;show AllIn (iC xs x y);unfold iC;cases hk:(agAt xs x).1==6 with
  |true=>exact(hA.add h0 _ _ _ _ _).move j1.app (PortIn.new (by decide) (by decide))
  |false=>
   simp only[cond_false];have h1A:AllIn (aL xs y (agAt xs x).2.2.1):=hA.add h0 _ _ _ _ _;have h1l:(aL xs y (agAt xs x).2.2.1).length=xs.length+1:=mK _ _ _;have h1R:PortIn (aL xs y (agAt xs x).2.2.1) (fO (aL xs y (agAt xs x).2.2.1).length 0):=by rw[h1l];exact PortIn.new (by decide) (by decide)
   have h1:∀{p},PortIn xs p→PortIn (aL xs y (agAt xs x).2.2.1) p:=fun h=>h.app
   have h2A:=Dk (lv:=(agAt xs y).2.1) h1A (h1 h0) h1R ((agAt xs x).2.2.2.2.length-1);have hR:=BK (lv:=(agAt xs y).2.1) h1R ((agAt xs x).2.2.2.2.length-1);have h2:∀{p},PortIn xs p→PortIn (mJ (agAt xs y).2.1 (aL xs y (agAt xs x).2.2.1).length (aL xs y (agAt xs x).2.2.1) ((agAt xs x).2.2.2.2.length-1)) p:=fun h=>za (h1 h) _
   have hxi:∀i:Nat,i<((agAt xs x).2.2.2.2.length-1)→PortIn (mJ (agAt xs y).2.1 (aL xs y (agAt xs x).2.2.1).length (aL xs y (agAt xs x).2.2.1) ((agAt xs x).2.2.2.2.length-1)) (x,((i:Nat):Int)+1)∧PortIn (mJ (agAt xs y).2.1 (aL xs y (agAt xs x).2.2.1).length (aL xs y (agAt xs x).2.2.1) ((agAt xs x).2.2.2.2.length-1)) ((((aL xs y (agAt xs x).2.2.1).length+i:Nat):Int),1):=fun i hi=>
    ⟨h2 ⟨hx0.1,hx0.2,by omega,by show((i:Nat):Int)+1<((agAt xs x).2.2.2.2.length:Nat);omega⟩,vB (by decide) (by decide) hi⟩
   rw[h1l]at h2A h2 hxi hR;exact(yN h2A _ hxi).move (jV (h2 j1) _) (jV hR _)
 ·obtain⟨v0,v1⟩:=h7 rfl;show AllIn (j5 bk xs x y);unfold j5 jR;have hw:=hb.wi _ v0 v1;have r0:=hb.r0 _ v0 v1;have r1:=hb.r1 _ v0 v1;generalize aS bk (agAt xs x).2.2.1=t at*;generalize (agAt xs x).2.1=lv;generalize hbb:(xs.length:Int)-1=b;have hb':b=(xs.length:Int)-1:=hbb.symm;have hws:Wired (fun p=>PortIn (aZ lv t) p) (aZ lv t):=hw.shift;have r0s:PortIn (aZ lv t) (0,0):=PortIn.gI.2 r0;have r1s:∀p,PortIn (aZ lv t) p→p.1=0→p=(0,0):=fun p hp e=>r1 p (PortIn.gI.1 hp) e
  generalize aZ lv t=T at*;obtain⟨q1,q2,q3,q4⟩:=hws (0,0) r0s
  have rpos:1≤(peerN T (0,0)).1:=by
   have h1:0≤(peerN T (0,0)).1:=q2.1
   by_cases e:(peerN T (0,0)).1=0
   ·exact absurd (r1s _ q2 e) q4
   ·omega
  have hR:PortIn (xs++(T.drop 1).map (bn b)) ((peerN T (0,0)).1+b,(peerN T (0,0)).2):=(PortIn.jO hb').2 (.inr ⟨by show(xs.length:Int)≤(peerN T (0,0)).1+b;omega,by
   rw[show(((peerN T (0,0)).1+b,(peerN T (0,0)).2):NPort).1-b=(peerN T (0,0)).1 by show(peerN T (0,0)).1+b-b=_;omega];exact q2⟩)
  have hY:PortIn xs (y,0):=⟨hy0.1,hy0.2,Int.le_refl 0,by show(0:Int)<((agAt xs y).2.2.2.2.length:Nat);omega⟩;refine AllIn.TR (fun r hr n1 n2=> ?_) hY.app hR;rcases(PortIn.jO hb').1 hr with q|⟨q,qt⟩
  ·rw[kP (zN q)];exact(hA r q).app
  ·rw[su hb' q qt];obtain⟨s1,s2,s3,s4⟩:=hws _ qt
   by_cases e:(peerN T (r.1-b,r.2)).1=0
   ·exfalso;have e2:=r1s _ s2 e;rw[e2]at s3;apply n2;rw[s3];exact bV (by show r.1=r.1-b+b;omega) rfl
   ·have s20:0≤(peerN T (r.1-b,r.2)).1:=s2.1;refine(PortIn.jO hb').2 (.inr ⟨by show(xs.length:Int)≤(peerN T (r.1-b,r.2)).1+b;omega,?_⟩);rw[show(((peerN T (r.1-b,r.2)).1+b,(peerN T (r.1-b,r.2)).2):NPort).1-b=(peerN T (r.1-b,r.2)).1 by show(peerN T (r.1-b,r.2)).1+b-b=_;omega];exact s2
end
end Go.Tr
namespace Go.Tr
open Go Go.RowKit
abbrev Gone(kv:List (Int×Bool)):Int→Prop:=fun i=>kvGet false kv i=true
theorem MG(kv:List (Int×Bool))(ks:List Int)(i:Int):Gone (jy kv ks) i↔Gone kv i∨i∈ks:=by
 unfold jy Gone
 induction ks generalizing kv with
 |nil=>simp
 |cons k ks ih=>
  rw[List.foldl_cons,ih,kvGet_set,List.mem_cons]
  by_cases h:k=i
  ·rw[if_pos h];simp[h]
  ·rw[if_neg h];constructor
   ·rintro(h1|h1)
    ·exact .inl h1
    ·exact .inr (.inr h1)
   ·rintro(h1|h1|h1)
    ·exact .inl h1
    ·exact absurd h1.symm h
    ·exact .inr h1
theorem Us{kv:List (Int×Bool)}(hT:∀e∈kv,e.2=true)(ks:List Int):∀e∈jy kv ks,e.2=true:=by
 unfold jy
 induction ks generalizing kv with
 |nil=>exact hT
 |cons k ks ih=>rw[List.foldl_cons];exact ih (DU hT k)
structure BkV(bk:List (List NAgent)):Prop extends BkW bk where
 rt:∀v:Int,0≤v→v<(bk.length:Nat)→∀i:Int,0<i→i<((aS bk v).length:Nat)→(agAt (aS bk v) i).1≠1
structure Twin(kv:List (Int×Bool))(xs ys:List NAgent):Prop where
 st:St (Gone kv) xs ys
 wf:C9 (Gone kv) xs
 dl:∀i,Gone kv i→0≤i∧i<(xs.length:Nat)
 hole:∀i,Gone kv i→EM i ys
 r1:(agAt xs 0).1=1
 r0:¬Gone kv 0
 rl:0<xs.length
 uq:∀i:Int,0<i→i<(xs.length:Nat)→¬Gone kv i→(agAt xs i).1≠1
 kt:∀e∈kv,e.2=true
 kl:kv.length=jH kv xs.length
 al:AllIn xs
section
variable {kv:List (Int×Bool)}{xs ys:List NAgent}{a b x y c:Int}{bk:List (List NAgent)}
theorem Twin.len(h:Twin kv xs ys):xs.length=ys.length:=h.st.ag.1
theorem Twin.at_(h:Twin kv xs ys){i:Int}(h0:0≤i)(h1:i<(xs.length:Nat))(hd:¬Gone kv i):agAt ys i=agAt xs i:=(h.st.ag.2 i h0 h1 hd).symm
theorem Twin.p0(h:Twin kv xs ys):PortIn xs (0,0):=by
 have w:=h.wf 0 (Int.le_refl 0) (by have:=h.rl;omega) h.r0;have:=(dF w).2.2.2;exact⟨Int.le_refl 0,by have:=h.rl;show(0:Int)<_;omega,Int.le_refl 0,by show(0:Int)<((agAt xs 0).2.2.2.2.length:Nat);omega⟩
theorem Twin.p0y(h:Twin kv xs ys):PortIn ys (0,0):=(h.st.ag.port h.p0 h.r0).1
theorem Twin.ally(h:Twin kv xs ys):AllIn ys:=fun p hp=>by
 by_cases hd:Gone kv p.1
 ·have e:=(h.hole _ hd).2;obtain⟨_,_,h3,h4⟩:=hp;rw[e]at h4;have:p.2<((0:Nat):Int):=h4;omega
 ·have hpx:PortIn xs p:=by
   obtain⟨h1,h2,h3,h4⟩:=hp;rw[←h.len]at h2;rw[h.at_ h1 h2 hd]at h4;exact⟨h1,h2,h3,h4⟩
  obtain⟨_,k2,_,_⟩:=h.st.wi p ⟨hpx,hd⟩;rw[(h.st.ag.port hpx hd).2];exact(h.st.ag.port k2.1 k2.2).1
theorem Twin.live(h:Twin kv xs ys):aT ys ys.length+kv.length=xs.length:=by
 rw[h.kl,h.len];refine FR _ fun i hi=> ?_
 constructor
 ·intro e;cases hk:kvGet false kv (i:Nat)with
  |true=>rfl
  |false=>
   have hd:¬Gone kv (i:Nat):=fun e=>by
    have e':kvGet false kv (i:Nat)=true:=e;rw[hk]at e';cases e'
   have hl:=h.len;have w:=EC (h.wf (i:Nat) (by omega) (by omega) hd);rw[h.at_ (by omega) (by omega) hd]at e;omega
 ·intro e;rw[(h.hole _ e).2];rfl
theorem jT.symm{D:Int→Prop}(k:jT D xs a b)(h:St D xs ys):jT D xs b a:=by
 obtain⟨_,_,h3,_⟩:=h.wi (a,0) ⟨k.px,k.lx⟩;rw[k.w]at h3;exact⟨k.ne.symm,k.ly,k.lx,k.py,k.px,h3⟩
theorem jT.first{D:Int→Prop}(k:jT D xs a b)(h:St D xs ys):jT D xs (firstS xs a b).1 (firstS xs a b).2:=by
 unfold firstS;cases aG (agAt xs a).1 (agAt xs a).2.1 (agAt xs b).1 (agAt xs b).2.1==2
 ·exact k
 ·exact k.symm h
theorem wf_small{u:NAgent}(w:Wf u):0<u.2.2.2.2.length∧u.2.2.2.2.length≤4:=by
 have k:=EC w;obtain⟨x1,x2,x3,x4⟩:=wf_ports w;refine⟨(dF w).2.2.2,?_⟩
 by_cases h9:u.1=9
 ·exact(x4 h9).2
 ·by_cases h1:u.1=1∨u.1=5∨u.1=6∨u.1=12
  ·rw[x1 h1];decide
  ·by_cases h2:u.1=8∨u.1=10∨u.1=11
   ·rw[x2 h2];decide
   ·rw[x3 (by omega)];decide
theorem JB(wx:Wf (agAt xs x))(wy:Wf (agAt xs y))(hx:0≤x∧x<(xs.length:Nat))(hy:0≤y∧y<(xs.length:Nat))(hr:rule (agAt xs x).1 (agAt xs x).2.1 (agAt xs y).1 (agAt xs y).2.1=c)(hc:1≤c∧c≤7)
  (h6:(agAt xs x).1=9→(agAt xs y).1=10→(agAt xs x).2.2.1<((agAt xs y).2.2.2.1.length:Nat)):CZ xs c x y:=by
 obtain⟨r1,r2,r3,r4,r5,r6,r7⟩:=fq hr (by omega);obtain⟨x1,x2,x3,x4⟩:=wf_ports wx;obtain⟨y1,y2,y3,y4⟩:=wf_ports wy;have sx:=wf_small wx;have sy:=wf_small wy;have inx:∀s:Int,0≤s→s<((agAt xs x).2.2.2.2.length:Nat)→PortIn xs (x,s):=fun s h0 h1=>⟨hx.1,hx.2,h0,h1⟩
 have iny:∀s:Int,0≤s→s<((agAt xs y).2.2.2.2.length:Nat)→PortIn xs (y,s):=fun s h0 h1=>⟨hy.1,hy.2,h0,h1⟩
 refine⟨⟨hx,hy,fun e=> ?_,fun e=> ?_,by omega,by omega,by have:=wf_data wy;omega,fun e=> ?_,fun e=> ?_⟩,fun e=>(r5 e).2,fun e=> ?_⟩
 ·have kx:(agAt xs x).2.2.2.2.length=3:=x3 (by rcases e with e|e;(have:=r1 e;omega);(have:=r2 e;omega));have ky:(agAt xs y).2.2.2.2.length=3:=y3 (by rcases e with e|e;(have:=r1 e;omega);(have:=r2 e;omega));exact⟨inx 1 (by decide) (by omega),inx 2 (by decide) (by omega),iny 1 (by decide) (by omega),iny 2 (by decide) (by omega)⟩
 ·have kx:(agAt xs x).2.2.2.2.length=3:=x3 (by have:=r3 e;omega);exact⟨inx 1 (by decide) (by omega),inx 2 (by decide) (by omega)⟩
 ·obtain⟨a1,a2⟩:=r5 e;refine⟨?_,fun k7=> ?_,fun k7=> ?_⟩
  ·rcases a2 with q|q
   ·exact iny 1 (by decide) (by rw[y3 (by omega)];decide)
   ·exact iny 1 (by decide) (by rw[y2 (by omega)];decide)
  ·exact iny 2 (by decide) (by rw[y3 (by omega)];decide)
  ·have:=(OE wy (by omega)).1;omega
 ·refine⟨?_,fun k6=> ?_,fun k6=> ?_⟩
  ·exact iny 1 (by decide) (by rw[y2 (by have:=r6 e;omega)];decide)
  ·exact(A8 wy (by have:=r6 e;omega)).1
  ·have q:=r6 e;have k9:(agAt xs x).1=9:=by omega
   exact⟨(AZ wx k9).1,h6 k9 (by omega)⟩
 ·have q:=r6 e;refine⟨fun k=>(A8 wy k).1,fun k=> ?_⟩;have k9:(agAt xs x).1=9:=by omega
  exact⟨(AZ wx k9).1,h6 k9 (by omega),k9⟩
theorem qw(h:eP (agAt xs x) (agAt xs y)=false):(agAt xs x).1=9→(agAt xs y).1=10→(agAt xs x).2.2.1<((agAt xs y).2.2.2.1.length:Nat):=fun h9 h10=>by
 unfold eP at h;rw[show((agAt xs x).1==9)=true by simpa using h9,show((agAt xs y).1==10)=true by simpa using h10]at h;simp only[cond_true,decide_eq_false_iff_not]at h;omega
theorem KX(hy:(agAt xs y).1≠1)(hc:1≤c∧c≤7)(hb:BkV bk)(h7:c=7→(0≤(agAt xs x).2.2.1∧(agAt xs x).2.2.1<(bk.length:Nat))):∀z∈pO bk xs c x y,z.1≠1:=by
 have hcs:c=1∨c=2∨c=3∨c=4∨c=5∨c=6∨c=7:=by omega
 intro z hz;rcases hcs with rfl|rfl|rfl|rfl|rfl|rfl|rfl
 ·cases hz
 ·cases hz
 ·have hz':z∈[jS xs y]++[jS xs y]++List.replicate ((agAt xs y).2.2.2.2.length-1) (aJ 4 (agAt xs x).2.1 0 [] 3):=hz;rw[List.mem_append,List.mem_append,List.mem_singleton]at hz';rcases hz' with(e|e)|e
  ·rw[e];exact hy
  ·rw[e];exact hy
  ·rw[List.eq_of_mem_replicate e];intro k;cases k
 ·have hz':z∈List.replicate ((agAt xs y).2.2.2.2.length-1) (aJ 5 0 0 [] 1):=hz;rw[List.eq_of_mem_replicate hz'];intro k;cases k
 ·have hz':z∈(bif (agAt xs y).1==7 then[aJ 8 (agAt xs y).2.1 (agAt xs y).2.2.1 [(agAt xs x).2.2.1] 2]else[aJ 6 0 (r9 (agAt xs y).2.2.1 (gu (agAt xs y).2.2.2.1 0) (agAt xs x).2.2.1) [] 1]):=hz;cases hk:(agAt xs y).1==7 with
  |true=>rw[hk,cond_true,List.mem_singleton]at hz';rw[hz'];intro k;cases k
  |false=>rw[hk,cond_false,List.mem_singleton]at hz';rw[hz'];intro k;cases k
 ·have hz':z∈(bif (agAt xs x).1==6 then[aJ 12 (agAt xs y).2.1 (gu (agAt xs y).2.2.2.1 (bif (agAt xs x).2.2.1==0 then 1 else 0)) [] 1]
   else[aJ 12 (agAt xs y).2.1 (gu (agAt xs y).2.2.2.1 (agAt xs x).2.2.1) [] 1]++List.replicate ((agAt xs x).2.2.2.2.length-1) (aJ 3 (agAt xs y).2.1 0 [] 3)):=hz
  cases hk:(agAt xs x).1==6 with
  |true=>rw[hk,cond_true,List.mem_singleton]at hz';rw[hz'];intro k;cases k
  |false=>
   rw[hk,cond_false,List.mem_append,List.mem_singleton]at hz';rcases hz' with e|e
   ·rw[e];intro k;cases k
   ·rw[List.eq_of_mem_replicate e];intro k;cases k
 ·obtain⟨v0,v1⟩:=h7 rfl;have hz':z∈((jR bk xs x).drop 1).map (bn ((xs.length:Nat)-1)):=hz;obtain⟨w,hw,rfl⟩:=List.mem_map.1 hz';unfold jR aZ at hw;rw[←List.map_drop]at hw;obtain⟨u,hu,rfl⟩:=List.mem_map.1 hw;obtain⟨i,hi,rfl⟩:=List.mem_iff_getElem.1 hu;have hrt:=hb.rt _ v0 v1;generalize aS bk (agAt xs x).2.2.1=t at*;rw[List.length_drop]at hi;rw[List.getElem_drop];have:=hrt ((1+i:Nat):Int) (by omega) (by omega);rw[rC (by omega)]at this;show(fQ _ t[1+i]).1≠1;unfold fQ;cases aU (t[1+i]).kind
  ·exact this
  ·exact this
theorem Twin.next(h:Twin kv xs ys)(k:jT (Gone kv) xs x y)(hb:BkV bk)(rx:(agAt xs x).1≠1)(ry:(agAt xs y).1≠1)(hr:rule (agAt xs x).1 (agAt xs x).2.1 (agAt xs y).1 (agAt xs y).2.1=c)(hc:1≤c∧c≤7)(hcl:eP (agAt xs x) (agAt xs y)=false)
  (h7:c=7→(agAt xs x).2.2.1<(bk.length:Nat)∧dD (agAt xs x).2.1 (aS bk (agAt xs x).2.2.1)=true):CZ xs c x y∧CZ ys c x y∧(c=7→0≤(agAt xs x).2.2.1)∧Twin (jy kv (dI c x y)) (dW bk xs c x y) (dH bk ys c x y)∧(dW bk xs c x y).length=xs.length+(pO bk xs c x y).length:=by
 have hx:0≤x∧x<(xs.length:Nat):=⟨k.px.1,k.px.2.1⟩;have hy:0≤y∧y<(xs.length:Nat):=⟨k.py.1,k.py.2.1⟩;have wx:=h.wf x hx.1 hx.2 k.lx;have wy:=h.wf y hy.1 hy.2 k.ly;have sp:=JB wx wy hx hy hr hc (qw hcl);have ex:=h.at_ hx.1 hx.2 k.lx;have ey:=h.at_ hy.1 hy.2 k.ly;have sy:CZ ys c x y:=JB (by rw[ex];exact wx) (by rw[ey];exact wy) (by rw[←h.len];exact hx) (by rw[←h.len];exact hy) (by rw[ex,ey];exact hr) hc (qw (by rw[ex,ey];exact hcl));have v0:c=7→0≤(agAt xs x).2.2.1:=fun e=>(qg wx ((fq hr (by omega)).2.2.2.2.2.2 e).1).1
 have sg:=Ca (bk:=bk) (xs:=xs) (x:=x) (y:=y) hc (by omega);have hln:(dW bk xs c x y).length=xs.length+(pO bk xs c x y).length:=by rw[sg.1,List.length_append]
 have gr:∀i,Gone (jy kv (dI c x y)) i↔Gone kv i∨i∈dI c x y:=fun i=>MG kv _ i
 have ge:Gone (jy kv (dI c x y))=fun i=>Gone kv i∨i∈dI c x y:=funext fun i=>propext (gr i)
 have gxy:∀i,i∈dI c x y→i=x∨i=y:=fun i hi=>by
  unfold dI at hi;cases hq:c==7 with
  |true=>rw[hq,cond_true,List.mem_singleton]at hi;exact .inl hi
  |false=>rw[hq,cond_false]at hi;simpa using hi
 have nx:x≠0:=fun e=>rx (by rw[e];exact h.r1)
 have ny:y≠0:=fun e=>ry (by rw[e];exact h.r1)
 have ksig:∀i:Int,0≤i→i<(xs.length:Nat)→(agAt (dW bk xs c x y) i).1=(agAt xs i).1:=fun i i0 i1=>by
  have:=sg.2 i i0 (by rw[hln];omega);rw[bE (by omega)]at this;exact congrArg (fun s:Int×Int×Int×List Int×Nat=>s.1) this
 refine⟨sp,sy,v0,?_,hln⟩;refine⟨?_,?_,?_,?_,?_,?_,by omega,?_,Us h.kt _,?_,PL sp.toIntPre h.al h.p0 hc hb.toBkW fun e=>⟨v0 e,(h7 e).1⟩⟩
 ·rw[ge];exact MS h.st k (fun i hi=>(h.dl i hi).2) h.wf hr hc hb.toBkW fun e=>(h7 e).1
 ·rw[ge];exact MU h.wf hx hy k.lx k.ly hr hc hb.toBkW (fun e e9=>by
   have q:=(fq hr (by omega)).2.2.2.2.2.1 e;exact qw hcl e9 (by omega)) h7
 ·intro i hi;rcases(gr i).1 hi with e|e
  ·have:=h.dl i e;omega
  ·rcases gxy i e with e|e<;>omega
 ·intro i hi;unfold dH;have hl:=h.len;have hle:=BZ (xs:=ys) bk c x y;have n1:EM x (aK (eH bk ys c x y) x):=EM.new hx.1 (by omega);have n2:EM y (aK (aK (eH bk ys c x y) x) y):=EM.new hy.1 (by rw[cB];omega);rcases(gr i).1 hi with e|e
  ·have q:=(h.hole i e).inter bk c x y;cases c==7
   ·exact(q.drop x).drop y
   ·exact q.drop x
  ·unfold dI at e;cases hq:c==7 with
   |true=>rw[hq,cond_true,List.mem_singleton]at e;rw[e];exact n1
   |false=>
    rw[hq,cond_false]at e;have e2:i=x∨i=y:=by simpa using e
    rcases e2 with e2|e2
    ·rw[e2];exact n1.drop y
    ·rw[e2];exact n2
 ·rw[ksig 0 (Int.le_refl 0) (by have:=h.rl;omega)];exact h.r1
 ·intro e;rcases(gr 0).1 e with e|e
  ·exact h.r0 e
  ·rcases gxy 0 e with e|e
   ·exact nx e.symm
   ·exact ny e.symm
 ·intro i i0 i1 hi;have hi2:¬Gone kv i:=fun e=>hi ((gr i).2 (.inl e))
  by_cases hl:i<(xs.length:Nat)
  ·rw[ksig i (by omega) hl];exact h.uq i i0 hl hi2
  ·have:=sg.2 i (by omega) i1;have hlt:i.toNat-xs.length<(pO bk xs c x y).length:=by omega
   have e:agAt (xs++pO bk xs c x y) i=(pO bk xs c x y)[i.toNat-xs.length]:=by
    unfold agAt elt;rw[List.getD_eq_getElem?_getD,List.getElem?_append_right (by omega),List.getElem?_eq_getElem hlt];rfl
   rw[e]at this;have k1:(agAt (dW bk xs c x y) i).1=((pO bk xs c x y)[i.toNat-xs.length]).1:=congrArg (fun s:Int×Int×Int×List Int×Nat=>s.1) this;rw[k1];exact KX ry hc hb (fun e=>⟨v0 e,(h7 e).1⟩) _ (List.getElem_mem hlt)
 ·have gf:∀{kv:List (Int×Bool)} {i:Int},¬Gone kv i→kvGet false kv i=false:=fun {kv i} hi=>by
   cases hq:kvGet false kv i with
   |true=>exact absurd hq hi
   |false=>rfl
  have c1:jH (kvSet kv x true) xs.length=jH kv xs.length+1:=by rw[wX hx.1 (gf k.lx),if_pos hx.2]
  have l1:(kvSet kv x true).length=kv.length+1:=pE h.kt (gf k.lx);have y1:kvGet false (kvSet kv x true) y=false:=by rw[kvGet_set,if_neg k.ne];exact gf k.ly
  have c2:jH (kvSet (kvSet kv x true) y true) xs.length=jH kv xs.length+2:=by rw[wX hy.1 y1,if_pos hy.2,c1]
  have l2:(kvSet (kvSet kv x true) y true).length=kv.length+2:=by rw[pE (DU h.kt x) y1,l1]
  have hn:∀i:Int,(xs.length:Int)≤i→kvGet false (jy kv (dI c x y)) i=false:=fun i hi=>gf fun e=>by
   rcases(gr i).1 e with e|e
   ·have:=h.dl i e;omega
   ·rcases gxy i e with e|e<;>omega
  rw[hln,wW hn];have hk:=h.kl;unfold dI;cases c==7
  ·show(kvSet (kvSet kv x true) y true).length=jH (kvSet (kvSet kv x true) y true) xs.length;omega
  ·show(kvSet kv x true).length=jH (kvSet kv x true) xs.length;omega
end
end Go.Tr
namespace Go.Tr
open Go Go.RowKit
structure BkS(bk:List (List NAgent)):Prop extends BkV bk where
 tl:∀v:Int,0≤v→v<(bk.length:Nat)→(aS bk v).length≤600
 bl:bk.length≤1000
section
variable {bk:List (List NAgent)}
theorem E5{v:Int}(h:¬(0≤v∧v<(bk.length:Nat)))(h0:0≤v):aS bk v=[]:=by
 unfold aS elt;rw[List.getD_eq_getElem?_getD,List.getElem?_eq_none (by omega)];rfl
theorem kW{xs:List NAgent}{i:Nat}(h:xs.length≤i):agAt xs (i:Nat)=dflt uAgent:=by
 unfold agAt elt;rw[List.getD_eq_getElem?_getD,Int.toNat_natCast,List.getElem?_eq_none h];rfl
theorem BkS.len(h:BkS bk)(v:Nat):(aS bk (v:Nat)).length≤600:=by
 by_cases hv:0≤((v:Nat):Int)∧((v:Nat):Int)<(bk.length:Nat)
 ·exact h.tl _ hv.1 hv.2
 ·rw[E5 hv (by omega)];decide
theorem BkS.ag(h:BkS bk)(v j:Nat):(0≤(agAt (aS bk (v:Nat)) (j:Nat)).2.1∧(agAt (aS bk (v:Nat)) (j:Nat)).2.1≤8)∧(agAt (aS bk (v:Nat)) (j:Nat)).2.2.2.1.length≤4∧(agAt (aS bk (v:Nat)) (j:Nat)).2.2.2.2.length≤4:=by
 by_cases hv:0≤((v:Nat):Int)∧((v:Nat):Int)<(bk.length:Nat)
 ·by_cases hj:j<(aS bk (v:Nat)).length
  ·have w:=h.wf _ hv.1 hv.2 (j:Nat) (by omega) (by omega);have h1:=sH w;exact⟨by omega,wf_data w,(wf_small w).2⟩
  ·rw[kW (by omega)];decide
 ·rw[E5 hv (by omega),kW (Nat.zero_le _)];decide
theorem BkS.small(h:BkS bk)(v:Nat):NetSmall (aS bk (v:Nat)):=by
 refine⟨by have:=h.len v;omega,fun i=> ?_⟩;have:=(h.ag v i).2;exact⟨by show(agAt (aS bk (v:Nat)) (i:Nat)).2.2.2.1.length≤1048576;omega,by show(agAt (aS bk (v:Nat)) (i:Nat)).2.2.2.2.length≤1048576;omega⟩
theorem BkS.ok(h:BkS bk):CU bk:=fun v j=>(h.ag v j).1
theorem NS{t:List NAgent}(hw:Wired (fun p=>PortIn t p) t)(hl:t.length≤600)(i j:Nat):oN (elt (dflt uPort) (agAt t (i:Nat)).2.2.2.2 (j:Nat)).1:=by
 by_cases hi:i<t.length
 ·by_cases hj:j<(agAt t (i:Nat)).2.2.2.2.length
  ·obtain⟨_,h2,_⟩:=hw ((i:Nat),(j:Nat)) ⟨by show(0:Int)≤(i:Nat);omega,by show((i:Nat):Int)<(t.length:Nat);omega,by show(0:Int)≤(j:Nat);omega,by show((j:Nat):Int)<((agAt t (i:Nat)).2.2.2.2.length:Nat);omega⟩;have h3:0≤(elt (dflt uPort) (agAt t (i:Nat)).2.2.2.2 (j:Nat)).1:=h2.1;have h4:(elt (dflt uPort) (agAt t (i:Nat)).2.2.2.2 (j:Nat)).1<(t.length:Nat):=h2.2.1;have h5:((t.length:Nat):Int)≤1000000:=by omega
   exact⟨h3,Int.le_trans (Int.le_of_lt h4) h5⟩
  ·unfold elt;rw[List.getD_eq_getElem?_getD,Int.toNat_natCast,List.getElem?_eq_none (by omega)];exact⟨by decide,by decide⟩
 ·rw[kW (by omega)];have e:elt (dflt uPort) (dflt uAgent).2.2.2.2 ((j:Nat):Int)=(0,0):=rfl;rw[e];exact⟨by decide,by decide⟩
structure U0(t xs:List NAgent)(lv b:Int):Prop where
 two:2≤t.length
 r0:PortIn t (0,0)
 rs:PortIn (aZ lv t) (0,0)
 top:PortIn (xs++((aZ lv t).drop 1).map (bn b)) ((peerN (aZ lv t) (0,0)).1+b,(peerN (aZ lv t) (0,0)).2)
 pe:peerN (aZ lv t) (0,0)=peerN t (0,0)
 ex:gK lv b t (t.length-1)=((aZ lv t).drop 1).map (bn b)
 bt:∀i j:Nat,oN (elt (dflt uPort) (agAt t (i:Nat)).2.2.2.2 (j:Nat)).1
 bs:∀i j:Nat,oN (elt (dflt uPort) (agAt (aZ lv t) (i:Nat)).2.2.2.2 (j:Nat)).1
 ps:∀i:Nat,(agAt (aZ lv t) (i:Nat)).2.2.2.2.length≤1048576
theorem BkS.exp(h:BkS bk){v:Int}(v0:0≤v)(v1:v<(bk.length:Nat))(xs:List NAgent)(lv b:Int)(hb:b=(xs.length:Int)-1)(hx:0<xs.length):U0 (aS bk v) xs lv b:=by
 have hw:=h.wi _ v0 v1;have r0:=h.r0 _ v0 v1;have r1:=h.r1 _ v0 v1;have hl:=h.tl _ v0 v1
 have hps:∀i:Nat,(agAt (aS bk v) (i:Nat)).2.2.2.2.length≤4:=fun i=>by
  have:=(h.ag v.toNat i).2.2
  rwa[show((v.toNat:Nat):Int)=v by omega]at this
 generalize aS bk v=t at*;have hws:Wired (fun p=>PortIn (aZ lv t) p) (aZ lv t):=hw.shift;obtain⟨q1,q2,q3,q4⟩:=hw (0,0) r0
 have rpos:1≤(peerN t (0,0)).1:=by
  have h1:0≤(peerN t (0,0)).1:=q2.1
  by_cases e:(peerN t (0,0)).1=0
  ·exact absurd (r1 _ q2 e) q4
  ·omega
 have ps:peerN (aZ lv t) (0,0)=peerN t (0,0):=kY r0;refine⟨?_,r0,PortIn.gI.2 r0,?_,ps,?_,NS hw hl,NS hws (by rw[jE];exact hl),fun i=> ?_⟩
 ·have:=q2.2.1;omega
 ·rw[ps]
  exact(PortIn.jO hb).2 (.inr ⟨by show(xs.length:Int)≤(peerN t (0,0)).1+b;omega,PortIn.gI.2 (by
   rw[show(((peerN t (0,0)).1+b,(peerN t (0,0)).2):NPort).1-b=(peerN t (0,0)).1 by show(peerN t (0,0)).1+b-b=_;omega];exact q2)⟩)
 ·unfold gK;rw[List.take_of_length_le (by rw[List.length_drop,jE];omega)]
 ·by_cases hi:i<t.length
  ·rw[ql lv t (by omega) (by omega),show(fQ lv (agAt t (i:Nat))).2.2.2.2=(agAt t (i:Nat)).2.2.2.2 from mF _ _];have:=hps i;show(agAt t (i:Nat)).2.2.2.2.length≤1048576;omega
  ·rw[kW (by rw[jE];omega)];decide
theorem G6(u v:NAgent):aQ v u=aQ u v:=by
 have h1:eP v u=jX u v:=by
  unfold eP jX;cases u.1==10<;>cases v.1==9<;>rfl
 have h2:jX v u=eP u v:=by
  unfold eP jX;cases u.1==9<;>cases v.1==10<;>rfl
 unfold aQ;rw[h1,h2,tZ];cases jX u v<;>cases eP u v<;>rfl
theorem mh(xs:List NAgent)(a b:Int):aQ (agAt xs (firstS xs a b).1) (agAt xs (firstS xs a b).2)=aQ (agAt xs a) (agAt xs b):=by
 unfold firstS;cases aG (agAt xs a).1 (agAt xs a).2.1 (agAt xs b).1 (agAt xs b).2.1==2
 ·rfl
 ·exact G6 _ _
theorem FX{xs:List NAgent}{c x y:Int}(hb:BkS bk)(hy:(agAt xs y).2.2.2.2.length≤4)(hx:(agAt xs x).2.2.2.2.length≤4)(h7:c=7→0≤(agAt xs x).2.2.1∧(agAt xs x).2.2.1<(bk.length:Nat)):(pO bk xs c x y).length≤600:=by
 unfold pO;cases c==3
 case true=>simp only[cond_true,List.length_append,List.length_cons,List.length_nil,List.length_replicate];omega
 cases c==4
 case true=>simp only[cond_true,cond_false,List.length_replicate];omega
 cases c==5
 case true=>cases (agAt xs y).1==7<;>simp
 cases c==6
 case true=>
  cases (agAt xs x).1==6
  ·simp only[cond_true,cond_false,List.length_append,List.length_cons,List.length_nil,List.length_replicate];omega
  ·simp
 cases h:c==7
 ·simp
 ·obtain⟨v0,v1⟩:=h7 (by simpa using h);have:=hb.tl _ v0 v1;simp only[cond_true,cond_false,List.length_map,List.length_drop,jR,jE];omega
end
end Go.Tr
namespace Go.Tr
open Go Go.RowKit
abbrev EO:=Int×Int×Int×List Int×Nat
def toA(s:EO):NAgent:=(s.1,s.2.1,s.2.2.1,s.2.2.2.1,List.replicate s.2.2.2.2 (0,0))
theorem cZ.maps{xs ys:List NAgent}(h:cZ xs ys):xs.map sig=ys.map sig:=by
 apply List.ext_getElem?;intro i;rw[List.getElem?_map,List.getElem?_map]
 by_cases hi:i<xs.length
 ·have:=h.2 (i:Nat) (by omega) (by omega);have hj:i<ys.length:=by rw[←h.1];exact hi
  rw[rC hi,rC hj]at this;rw[List.getElem?_eq_getElem hi,List.getElem?_eq_getElem hj,Option.map_some,Option.map_some,this]
 ·rw[List.getElem?_eq_none (by omega),List.getElem?_eq_none (by rw[←h.1];omega)]
def QV(bk:List (List NAgent))(c:Int)(u v:NAgent):List NAgent:=pO bk [u,v] c 0 1
section
variable {bk:List (List NAgent)}{xs:List NAgent}{x y c:Int}{u v u' v' a b:NAgent}
def UU(bk:List (List NAgent))(a b:NAgent):List EO:=bif aG a.1 a.2.1 b.1 b.2.1==2 then(QV bk (aQ a b) b a).map sig else(QV bk (aQ a b) a b).map sig
structure Duo(a b:NAgent):Prop where
 wa:Wf a
 wb:Wf b
 ra:a.1≠1
 rb:b.1≠1
 ok:aQ a b≠8
end
def Vo(s:List EO)(i:Int):EO:=s.getD i.toNat (0,0,0,[],0)
def Lv(s:List EO)(i:Int):NAgent:=toA (Vo s i)
inductive oO(bk:List (List NAgent)):List EO→List aX→List EO→Prop
 |done (s:List EO):oO bk s [] s
 |step {s:List EO} {e:aX} {es:List aX} {s':List EO} (h0:0≤e.1) (hlt:e.1<e.2.1) (h1:e.2.1<((s.length:Nat):Int)) (hf:e.2.2.2.1=((s.length:Nat):Int))
  (hn:e.2.2.2.2=(((UU bk (Lv s e.1) (Lv s e.2.1)).length:Nat):Int)) (hw:Duo (Lv s e.1) (Lv s e.2.1)) (r:oO bk (s++UU bk (Lv s e.1) (Lv s e.2.1)) es s'):oO bk s (e::es) s'
end Go.Tr
namespace Go.Tr
open Go Go.RowKit
def gN(xs:List NAgent):GNet:=⟨xs.map gA⟩
theorem PG(xs:List NAgent):(xs.map gA).flatMap aj.enc=List.flatMap (enc uAgent) xs:=by
 induction xs with
 |nil=>rfl
 |cons x l ih=>rw[List.map_cons,List.flatMap_cons,List.flatMap_cons,ih,ME]
theorem zB(xs:List NAgent):(gN xs).enc=enc uNet xs:=by
 show[D.sl (xs.map gA).length ((xs.map gA).flatMap aj.enc)]=[D.sl _ _];rw[PG,List.length_map]
theorem MF(bk:List (List NAgent)):(bk.map gN).flatMap GNet.enc=List.flatMap (enc uNet) bk:=by
 induction bk with
 |nil=>rfl
 |cons x l ih=>rw[List.map_cons,List.flatMap_cons,List.flatMap_cons,ih,zB]
theorem Jw(xs:List NAgent)(i:Nat):eD (xs.map gA) i=gA (agAt xs (i:Nat)):=by
 unfold eD agAt elt;rw[Int.toNat_natCast,List.getD_eq_getElem?_getD,List.getD_eq_getElem?_getD,List.getElem?_map];cases xs[i]? <;>rfl
def gP(p:NPort):ak:=⟨p.1,p.2⟩
theorem QO(ps:List NPort)(k:Nat):gW (ps.map gP) k=gP (elt (dflt uPort) ps (k:Nat)):=by
 unfold gW elt;rw[Int.toNat_natCast,List.getD_eq_getElem?_getD,List.getD_eq_getElem?_getD,List.getElem?_map];cases ps[k]? <;>rfl
theorem zA(a:NAgent):(gA a).ports=a.2.2.2.2.map gP:=rfl
theorem RN{p q:NPort}(h:gP p=gP q):p=q:=by
 have h1:=congrArg ak.agent h;have h2:=congrArg ak.slot h;exact Prod.ext h1 h2
theorem Ij{xs:List NAgent}{p:NPort}(h:eZ (xs.map gA) (gP p)=true):PortIn xs p:=by
 unfold eZ at h;rw[Bool.and_eq_true,Jw,zA]at h;have h1:=inB_t h.1;have h2:=inB_t h.2;rw[List.length_map]at h1 h2;have e1:(gP p).agent=p.1:=rfl;have e2:(gP p).slot=p.2:=rfl;rw[e1]at h1 h2;rw[e2]at h2;have e3:((p.1.toNat:Nat):Int)=p.1:=by omega
 rw[e3]at h2;exact⟨by omega,by omega,by omega,by show p.2<((agAt xs p.1).2.2.2.2.length:Nat);omega⟩
structure yY(xs:List NAgent):Prop where
 l1:1≤xs.length
 l2:xs.length≤600
 wf:∀i:Int,0≤i→i<(xs.length:Nat)→Wf (agAt xs i)
 rt:∀i:Int,0≤i→i<(xs.length:Nat)→((agAt xs i).1=1↔i=0)
 wi:Wired (fun p=>PortIn xs p) xs
theorem netB_ok{xs:List NAgent}(h:fD (gN xs)=true):yY xs:=by
 unfold fD at h;have hag:(gN xs).agents=xs.map gA:=rfl;rw[Bool.and_eq_true,hag,List.length_map]at h;obtain⟨h1,h2⟩:=h;unfold dx at h1;rw[Bool.and_eq_true,List.length_map]at h1;obtain⟨h3,h4⟩:=h1;have h3:=inB_t h3;have ha:∀i:Nat,i<xs.length→eF (xs.map gA) i=true:=fun i hi=>iM h4 hi
 have hk:∀i:Nat,i<xs.length→Wf (agAt xs (i:Nat))∧((agAt xs (i:Nat)).1=1↔i=0):=fun i hi=>by
  have:=ha i hi;unfold eF at this;rw[Jw,Bool.and_eq_true]at this;refine⟨this.1,?_⟩;have h5:=this.2;have e:(gA (agAt xs (i:Nat))).kind=(agAt xs (i:Nat)).1:=rfl;rw[e,beq_iff_eq,Bool.eq_iff_iff,beq_iff_eq,beq_iff_eq]at h5;omega
 refine⟨by omega,by omega,fun i h0 h1=> ?_,fun i h0 h1=> ?_,?_⟩
 ·have:=(hk i.toNat (by omega)).1
  rwa[show((i.toNat:Nat):Int)=i by omega]at this
 ·have:=(hk i.toNat (by omega)).2;rw[show((i.toNat:Nat):Int)=i by omega]at this;rw[this];omega
 ·rintro⟨a,s⟩ ⟨p1,p2,p3,p4⟩;have q1:0≤a:=p1;have q2:a<(xs.length:Nat):=p2;have q3:0≤s:=p3;have q4:s<((agAt xs a).2.2.2.2.length:Nat):=p4;have ea:((a.toNat:Nat):Int)=a:=by omega
  have es:((s.toNat:Nat):Int)=s:=by omega
  have hw:mH (xs.map gA) a.toNat=true:=iM h2 (by omega);unfold mH at hw;rw[Jw,ea,zA,List.length_map]at hw;have hw2:=iM hw (k:=s.toNat) (by omega);unfold lV at hw2;rw[QO,es]at hw2;have ge:(⟨((a.toNat:Nat):Int),((s.toNat:Nat):Int)⟩:ak)=gP (a,s):=by rw[ea,es];rfl
  simp only[Bool.and_eq_true,Bool.not_eq_true']at hw2;obtain⟨⟨w1,w2⟩,w3⟩:=hw2;have w1:=Dq w1;have w3:=zq w3;have hin:=Ij w2;have hpe:peerN xs (a,s)=elt (dflt uPort) (agAt xs a).2.2.2.2 s:=rfl;rw[←hpe]at w1 w3 hin;refine⟨⟨p1,p2,p3,p4⟩,hin,?_,fun e=>w1 (by rw[e];rfl)⟩;generalize peerN xs (a,s)=r at*;unfold nL at w3;have er:(gP r).agent=r.1:=rfl;have er2:(gP r).slot=r.2:=rfl;have hr0:=hin.1;have hr2:=hin.2.2.1;rw[er,er2,Jw,zA,QO,show((r.1.toNat:Nat):Int)=r.1 by omega,show((r.2.toNat:Nat):Int)=r.2 by omega]at w3
  exact RN (q:=(a,s)) w3
theorem yY.twin{xs:List NAgent}(h:yY xs):Twin [] xs xs:=by
 have hg:∀i,¬Gone [] i:=fun i e=>by cases e
 have hl1:=h.l1;refine⟨⟨?_,?_,?_⟩,fun i h0 h1 _=>h.wf i h0 h1,fun i e=>absurd e (hg i),fun i e=>absurd e (hg i),(h.rt 0 (Int.le_refl 0) (by omega)).2 rfl,hg 0,h.l1,fun i h0 h1 _ e=> ?_,fun e he=>(by cases he),?_,fun p hp=>(h.wi p hp).2.1⟩
 ·exact⟨rfl,fun _ _ _ _=>rfl⟩
 ·exact h.wi.congr fun p=>⟨fun k=>k.1,fun k=>⟨k,hg _⟩⟩
 ·exact fun p k=>k.2
 ·have:=(h.rt i (by omega) h1).1 e;omega
 ·have:=wW (kv:=[]) (n:=0) (fun i _=>rfl) xs.length;rw[Nat.zero_add]at this;rw[this];rfl
theorem LW(bk:List (List NAgent))(k:Nat):jP (bk.map gN) k=gN (aS bk (k:Nat)):=by
 unfold jP aS elt;rw[Int.toNat_natCast,List.getD_eq_getElem?_getD,List.getD_eq_getElem?_getD,List.getElem?_map];cases bk[k]? <;>rfl
theorem bookB_ok{bk:List (List NAgent)}(h:jG (bk.map gN)=true):BkS bk∧bk.length≤24:=by
 unfold jG at h;rw[Bool.and_eq_true,List.length_map]at h
 have hl:bk.length≤24:=by
  have:=of_decide_eq_true h.1;omega
 have hn:∀v:Int,0≤v→v<(bk.length:Nat)→yY (aS bk v):=fun v h0 h1=>by
  have:=iM h.2 (k:=v.toNat) (by omega);rw[LW,show((v.toNat:Nat):Int)=v by omega]at this;exact netB_ok this
 refine⟨⟨⟨⟨fun v h0 h1=>(hn v h0 h1).wi,fun v h0 h1=> ?_,fun v h0 h1 p hp e=> ?_,fun v h0 h1=>(hn v h0 h1).wf⟩,fun v h0 h1 i i0 i1 e=> ?_⟩,fun v h0 h1=>(hn v h0 h1).l2,by omega⟩,hl⟩
 ·have N:=hn v h0 h1;have hl1:=N.l1;have:=(wf_small (N.wf 0 (Int.le_refl 0) (by omega))).1;exact⟨Int.le_refl 0,by show(0:Int)<((aS bk v).length:Nat);omega,Int.le_refl 0,by show(0:Int)<((agAt (aS bk v) 0).2.2.2.2.length:Nat);omega⟩
 ·have N:=hn v h0 h1;have hl1:=N.l1;have w:=N.wf 0 (Int.le_refl 0) (by omega);have hk:=(N.rt 0 (Int.le_refl 0) (by omega)).2 rfl;have hp1:=(wf_ports w).1 (.inl hk);obtain⟨_,_,p3,p4⟩:=hp;rw[e]at p4;have p4':p.2<((agAt (aS bk v) 0).2.2.2.2.length:Nat):=p4;exact Prod.ext e (by show p.2=0;omega)
 ·have:=((hn v h0 h1).rt i (by omega) i1).1 e;omega
abbrev yg(e:aX):Int:=e.2.2.2.1
abbrev KE(e:aX):Int:=e.2.2.2.2
def GQ:List aX→Int→Int→Int×Int
 |[],_,k=>(-1,k)
 |e::es,i,k=>bif (bif decide (yg e≤k)then decide (k<yg e+KE e)else false)then(i,k-yg e)else GQ es (i+1) k
theorem Dh{e:aX}{es:List aX}{i k:Int}(h1:yg e≤k)(h2:k<yg e+KE e):GQ (e::es) i k=(i,k-yg e):=by
 unfold GQ;rw[show decide (yg e≤k)=true by simpa using h1,show decide (k<yg e+KE e)=true by simpa using h2];rfl
theorem vo{e:aX}{es:List aX}{i k:Int}(h:¬(yg e≤k∧k<yg e+KE e)):GQ (e::es) i k=GQ es (i+1) k:=by
 conv=>lhs;unfold GQ
 cases h1:decide (yg e≤k)with
 |false=>rfl
 |true=>
  cases h2:decide (k<yg e+KE e)with
  |false=>rfl
  |true=>exact absurd ⟨by simpa using h1,by simpa using h2⟩ h
theorem LP:∀(es:List aX) (i k:Int),(GQ es i k).1= -1∨(GQ es i k).1<i+(es.length:Nat)
 |[],i,k=>.inl rfl
 |e::es,i,k=>by
  by_cases h:yg e≤k∧k<yg e+KE e
  ·rw[Dh h.1 h.2];right;show i<i+((es.length+1:Nat):Int);omega
  ·rw[vo h];have:=LP es (i+1) k;rw[List.length_cons];omega
theorem EX:∀{es:List aX} {i k:Int},(∀e∈es,¬(yg e≤k∧k<yg e+KE e))→GQ es i k=(-1,k)
 |[],_,_,_=>rfl
 |e::es,i,k,h=>by
  rw[vo (h e (by simp))];exact EX fun e' he=>h e' (by simp[he])
theorem EY:∀{p q:List aX} {i k:Int},(∀e∈p,¬(yg e≤k∧k<yg e+KE e))→GQ (p++q) i k=GQ q (i+(p.length:Nat)) k
 |[],q,i,k,_=>by rw[List.nil_append];congr 1;simp
 |e::p,q,i,k,h=>by
  rw[List.cons_append,vo (h e (by simp)),EY fun e' he=>h e' (by simp[he])]
  congr 1
  rw[List.length_cons];omega
section
variable {bk:List (List NAgent)}
theorem oO.pre{s s':List EO}{es:List aX}(h:oO bk s es s'):s<+:s':=by
 induction h with
 |done s=>exact pR _
 |step _ _ _ _ _ _ _ ih=>exact(List.prefix_append _ _).trans ih
theorem oO.split{s s':List EO}:∀{p q:List aX},oO bk s (p++q) s'→∃t,oO bk s p t∧oO bk t q s'
 |[],q,h=>⟨s,.done s,h⟩
 |e::p,q,h=>by
  cases h with
  |step h0 hlt h1 hf hn hw r=>
   obtain⟨t,k1,k2⟩:=oO.split (p:=p) r;exact⟨t,.step h0 hlt h1 hf hn hw k1,k2⟩
theorem oO.snoc{s t:List EO}{p:List aX}{e:aX}(h:oO bk s p t)(h0:0≤e.1)(hlt:e.1<e.2.1)(h1:e.2.1<((t.length:Nat):Int))(hf:e.2.2.2.1=((t.length:Nat):Int))
  (hn:e.2.2.2.2=(((UU bk (Lv t e.1) (Lv t e.2.1)).length:Nat):Int)) (hw:Duo (Lv t e.1) (Lv t e.2.1)):oO bk s (p++[e]) (t++UU bk (Lv t e.1) (Lv t e.2.1)):=by
 induction h with
 |done s=>exact .step h0 hlt h1 hf hn hw (.done _)
 |step g0 glt g1 gf gn gw _ ih=>exact .step g0 glt g1 gf gn gw (ih h1 hf hn hw)
theorem oO.rng{s s':List EO}{es:List aX}(h:oO bk s es s'):∀e∈es,((s.length:Nat):Int)≤yg e∧0≤KE e∧yg e+KE e≤((s'.length:Nat):Int):=by
 induction h with
 |done s=>intro e he;cases he
 |step h0 hlt h1 hf hn hw r ih=>
  intro e' he';have hp:=r.pre.length_le;rw[List.length_append]at hp;rcases List.mem_cons.1 he' with rfl|he'
  ·exact⟨by show _≤e'.2.2.2.1;omega,by show 0≤e'.2.2.2.2;omega,by show e'.2.2.2.1+e'.2.2.2.2≤_;omega⟩
  ·have:=ih e' he';rw[List.length_append]at this;omega
theorem oO.old{s t s':List EO}{p q:List aX}(h1:oO bk s p t)(h2:oO bk t q s'){k:Int}(hk:k<((t.length:Nat):Int)):(GQ (p++q) 0 k).1<((p.length:Nat):Int):=by
 have hq:∀e∈q,¬(yg e≤k∧k<yg e+KE e):=fun e he hh=>by
  have:=h2.rng e he;omega
 have key:∀(p:List aX) (i:Int),GQ (p++q) i k=GQ p i k:=by
  intro p
  induction p with
  |nil=>intro i;rw[List.nil_append,EX hq];rfl
  |cons e p ih=>
   intro i;rw[List.cons_append]
   by_cases h:yg e≤k∧k<yg e+KE e
   ·rw[Dh h.1 h.2,Dh h.1 h.2]
   ·rw[vo h,vo h,ih]
 rw[key];have:=LP p 0 k;omega
theorem oO.new{s t:List EO}{p q:List aX}{e:aX}(h1:oO bk s p t)(hf:yg e=((t.length:Nat):Int)){j:Int}(j0:0≤j)(j1:j<KE e):GQ (p++e::q) 0 (yg e+j)=(((p.length:Nat):Int),j):=by
 rw[EY fun e' he hh=>by have:=h1.rng e' he;omega,Int.zero_add,Dh (by omega) (by omega)]
 congr 1
 omega
end
section
variable {bk:List (List NAgent)}{s0 sa sb:List EO}{a b:List aX}
end
end Go.Tr
namespace Go.Tr
open Go Go.RowKit
def rnP(f:Int→Int)(p:NPort):NPort:=(f p.1,p.2)
def nS(f:Int→Int)(a:NAgent):NAgent:=(a.1,a.2.1,a.2.2.1,a.2.2.2.1,a.2.2.2.2.map (rnP f))
def liveY(ys:List NAgent)(i:Nat):Bool:=(agAt ys (i:Nat)).1 !=0
def dG(ys:List NAgent):Nat→Nat
 |0=>0
 |k+1=>bif liveY ys k then dG ys k+1 else dG ys k
def iV(ys:List NAgent)(x:Int):Int:=((dG ys x.toNat:Nat):Int)
def bO(ys:List NAgent):Nat→List NAgent
 |0=>[]
 |k+1=>bif liveY ys k then bO ys k++[nS (iV ys) (agAt ys (k:Nat))]else bO ys k
def packN(ys:List NAgent):List NAgent:=bO ys ys.length
def bY(kv:List (Int×Bool)):Nat→List Int
 |0=>[]
 |k+1=>bif !(kvGet false kv ((k:Nat):Int))then bY kv k++[((k:Nat):Int)]else bY kv k
def IL(ord:List Int):Nat→List (Int×Int)
 |0=>[]
 |i+1=>kvSet (IL ord i) (elt 0 ord ((i:Nat):Int)) ((i:Nat):Int)
def Kj(ord:List Int)(x:Int):Int:=kvGet 0 (IL ord ord.length) x
def oD(xs:List NAgent)(ord:List Int):Nat→List NAgent
 |0=>[]
 |i+1=>oD xs ord i++[nS (Kj ord) (agAt xs (elt 0 ord ((i:Nat):Int)))]
theorem KN{α:Type}(d:α)(kv:List (Int×α))(i j:Int)(x:α):kvGet d (kvSet kv i x) j=if i=j then x else kvGet d kv j:=by
 induction kv with
 |nil=>
  unfold kvSet kvGet
  by_cases h:i=j
  ·rw[if_pos h,show(i==j)=true by simpa using h];rfl
  ·rw[if_neg h,show(i==j)=false by simpa using h];rfl
 |cons e kv ih=>
  obtain⟨k,v⟩:=e;unfold kvSet
  by_cases h:k=i
  ·rw[show(k==i)=true by simpa using h,cond_true];unfold kvGet;subst h
   by_cases h2:k=j
   ·rw[if_pos h2,show(k==j)=true by simpa using h2];rfl
   ·rw[if_neg h2,show(k==j)=false by simpa using h2];rfl
  ·rw[show(k==i)=false by simpa using h,cond_false]
   conv=>lhs;unfold kvGet
   conv=>rhs;unfold kvGet
   by_cases h2:k=j
   ·rw[show(k==j)=true by simpa using h2,cond_true,cond_true,if_neg (by omega)]
   ·rw[show(k==j)=false by simpa using h2,cond_false,cond_false,ih]
theorem Ak(xs:List NAgent)(ord:List Int):∀i:Nat,i≤ord.length→oD xs ord i=(ord.take i).map fun k=>nS (Kj ord) (agAt xs k)
 |0,_=>by rw[List.take_zero];rfl
 |i+1,h=>by
  unfold oD;rw[Ak xs ord i (by omega),List.take_add_one,List.map_append,List.getElem?_eq_getElem (by omega)];unfold elt;rw[Int.toNat_natCast,List.getD_eq_getElem?_getD,List.getElem?_eq_getElem (by omega)];rfl
def fU(f:Int→Int)(ps:List NPort)(j:Nat):List NPort:=(ps.take j).map (rnP f)++ps.drop j
theorem tC(f:Int→Int)(ps:List NPort)(j:Nat):(fU f ps j).length=ps.length:=by unfold fU;simp;omega
theorem Ao{f:Int→Int}{ps:List NPort}{j:Nat}(h:j<ps.length):elt (dflt uPort) (fU f ps j) (j:Nat)=elt (dflt uPort) ps (j:Nat):=by
 unfold elt fU;rw[Int.toNat_natCast,List.getD_eq_getElem?_getD,List.getD_eq_getElem?_getD,List.getElem?_append_right (by simp;omega)];simp;rw[show j-min j ps.length=0 by omega,Nat.add_zero]
theorem Ap{f:Int→Int}{ps:List NPort}{j:Nat}(h:j<ps.length):fU f ps (j+1)=(fU f ps j).set j (f (elt (dflt uPort) ps (j:Nat)).1,(elt (dflt uPort) ps (j:Nat)).2):=by
 have he:elt (dflt uPort) ps (j:Nat)=ps[j]:=by
  unfold elt;rw[Int.toNat_natCast,List.getD_eq_getElem?_getD,List.getElem?_eq_getElem h];rfl
 unfold fU;rw[List.set_append_right _ _ (by simp;omega),List.take_add_one,List.getElem?_eq_getElem h,List.map_append,he];have e:j-((ps.take j).map (rnP f)).length=0:=by simp;omega
 rw[e,List.drop_eq_getElem_cons h,List.set_cons_zero];simp[rnP]
theorem CF(f:Int→Int)(ps:List NPort):fU f ps ps.length=ps.map (rnP f):=by unfold fU;simp
section
variable {kv:List (Int×Bool)}{xs ys:List NAgent}
theorem Jd(ys:List NAgent):∀k:Nat,dG ys k≤k
 |0=>Nat.le_refl 0
 |k+1=>by unfold dG;have:=Jd ys k;cases liveY ys k<;>simp<;>omega
theorem Twin.liveY(h:Twin kv xs ys){k:Nat}(hk:k<xs.length):liveY ys k= !(kvGet false kv ((k:Nat):Int)):=by
 unfold Tr.liveY;cases hg:kvGet false kv ((k:Nat):Int)with
 |true=>
  rw[(h.hole _ hg).2];rfl
 |false=>
  have hd:¬Gone kv ((k:Nat):Int):=fun e=>by
   have e':kvGet false kv ((k:Nat):Int)=true:=e;rw[hg]at e';cases e'
  rw[h.at_ (by omega) (by omega) hd];have:=EC (h.wf (k:Nat) (by omega) (by omega) hd);simp;omega
theorem Twin.ord(h:Twin kv xs ys):∀n:Nat,n≤xs.length→(bY kv n).length=dG ys n∧(∀j:Nat,j<(bY kv n).length→∃x:Nat,x<n∧(bY kv n)[j]? =some ((x:Nat):Int)∧dG ys x=j∧kvGet false kv ((x:Nat):Int)=false)∧
  (∀x:Nat,x<n→kvGet false kv ((x:Nat):Int)=false→(bY kv n)[dG ys x]? =some ((x:Nat):Int))
 |0,_=>⟨rfl,fun j hj=>absurd hj (Nat.not_lt_zero _),fun x hx=>absurd hx (Nat.not_lt_zero _)⟩
 |n+1,hn=>by
  obtain⟨h1,h2,h3⟩:=h.ord n (by omega);have hl:=h.liveY (k:=n) (by omega);have eo:bY kv (n+1)=bif !(kvGet false kv ((n:Nat):Int))then bY kv n++[((n:Nat):Int)]else bY kv n:=rfl
  have ec:dG ys (n+1)=bif Tr.liveY ys n then dG ys n+1 else dG ys n:=rfl
  rw[eo,ec,hl];cases hg:kvGet false kv ((n:Nat):Int)with
  |true=>
   simp only[Bool.not_true,cond_false];refine⟨h1,fun j hj=> ?_,fun x hx hx2=> ?_⟩
   ·obtain⟨x,k1,k2,k3,k4⟩:=h2 j hj;exact⟨x,by omega,k2,k3,k4⟩
   ·refine h3 x ?_ hx2
    by_cases e:x=n
    ·rw[e,hg]at hx2;cases hx2
    ·omega
  |false=>
   simp only[Bool.not_false,cond_true];refine⟨by rw[List.length_append,h1];rfl,fun j hj=> ?_,fun x hx hx2=> ?_⟩
   ·rw[List.length_append,List.length_singleton]at hj
    by_cases hj2:j<(bY kv n).length
    ·obtain⟨x,k1,k2,k3,k4⟩:=h2 j hj2;exact⟨x,by omega,by rw[List.getElem?_append_left hj2];exact k2,k3,k4⟩
    ·have hj3:j=(bY kv n).length:=by omega
     exact⟨n,by omega,by rw[hj3,List.getElem?_append_right (Nat.le_refl _),Nat.sub_self];rfl,by rw[hj3,h1],hg⟩
   ·by_cases e:x=n
    ·subst e;rw[←h1,List.getElem?_append_right (Nat.le_refl _),Nat.sub_self];rfl
    ·have k:=h3 x (by omega) hx2;have:=(List.getElem?_eq_some_iff.1 k).1;rw[List.getElem?_append_left this];exact k
theorem Twin.Rj(h:Twin kv xs ys):∀i:Nat,i≤(bY kv xs.length).length→∀j:Nat,j<i→kvGet 0 (IL (bY kv xs.length) i) (elt 0 (bY kv xs.length) ((j:Nat):Int))=((j:Nat):Int)
 |0,_,j,hj=>by omega
 |i+1,hi,j,hj=>by
  obtain⟨h1,h2,h3⟩:=h.ord xs.length (Nat.le_refl _);unfold IL;rw[KN]
  by_cases e:j=i
  ·subst e;rw[if_pos rfl]
  ·rw[if_neg fun k=>e ?_]
   ·exact h.Rj i (by omega) j (by omega)
   ·obtain⟨x,k1,k2,k3,_⟩:=h2 i (by omega);obtain⟨y,l1,l2,l3,_⟩:=h2 j (by omega);unfold elt at k;rw[Int.toNat_natCast,Int.toNat_natCast,List.getD_eq_getElem?_getD,List.getD_eq_getElem?_getD,k2,l2]at k;have k':((x:Nat):Int)=((y:Nat):Int):=k;have:x=y:=by omega
    rw[←k3,←l3,this]
theorem Twin.Kj(h:Twin kv xs ys){x:Int}(h0:0≤x)(h1:x<(xs.length:Nat))(hd:¬Gone kv x):Kj (bY kv xs.length) x=iV ys x:=by
 obtain⟨k1,k2,k3⟩:=h.ord xs.length (Nat.le_refl _)
 have hg:kvGet false kv ((x.toNat:Nat):Int)=false:=by
  rw[show((x.toNat:Nat):Int)=x by omega];cases hq:kvGet false kv x with
  |true=>exact absurd hq hd
  |false=>rfl
 have k4:=k3 x.toNat (by omega) hg;have k5:=(List.getElem?_eq_some_iff.1 k4).1;have k6:=h.Rj (bY kv xs.length).length (Nat.le_refl _) (dG ys x.toNat) k5
 have e:elt 0 (bY kv xs.length) ((dG ys x.toNat:Nat):Int)=x:=by
  unfold elt;rw[Int.toNat_natCast,List.getD_eq_getElem?_getD,k4];show((x.toNat:Nat):Int)=x;omega
 rw[e]at k6;exact k6
theorem Twin.bO(h:Twin kv xs ys):∀n:Nat,n≤xs.length→bO ys n=(bY kv n).map fun k=>nS (iV ys) (agAt ys k)
 |0,_=>rfl
 |n+1,hn=>by
  unfold Tr.bO bY;rw[h.liveY (k:=n) (by omega),h.bO n (by omega)];cases kvGet false kv ((n:Nat):Int)
  ·simp
  ·simp
theorem Twin.pack(h:Twin kv xs ys):oD xs (bY kv xs.length) (bY kv xs.length).length=packN ys:=by
 rw[Ak _ _ _ (Nat.le_refl _),List.take_length];unfold packN;rw[←h.len,h.bO _ (Nat.le_refl _)];refine List.map_congr_left fun k hk=> ?_
 obtain⟨j,hj,rfl⟩:=List.mem_iff_getElem.1 hk;obtain⟨x,k1,k2,k3,k4⟩:=(h.ord xs.length (Nat.le_refl _)).2.1 j hj;rw[List.getElem?_eq_getElem hj]at k2;injection k2 with k2
 rw[k2]
 have hd:¬Gone kv ((x:Nat):Int):=fun e=>by
  have e':kvGet false kv ((x:Nat):Int)=true:=e;rw[k4]at e';cases e'
 rw[h.at_ (by omega) (by omega) hd];unfold nS
 congr 4
 refine List.map_congr_left fun p hp=> ?_
 obtain⟨i,hi,rfl⟩:=List.mem_iff_getElem.1 hp;have hw:=h.st.wi (((x:Nat):Int),((i:Nat):Int)) ⟨⟨by show(0:Int)≤(x:Nat);omega,by show((x:Nat):Int)<(xs.length:Nat);omega,by show(0:Int)≤(i:Nat);omega,by show((i:Nat):Int)<((agAt xs (x:Nat)).2.2.2.2.length:Nat);omega⟩,hd⟩
 have hpe:peerN xs (((x:Nat):Int),((i:Nat):Int))=(agAt xs (x:Nat)).2.2.2.2[i]:=by
  unfold peerN elt;rw[Int.toNat_natCast,List.getD_eq_getElem?_getD,List.getElem?_eq_getElem hi];rfl
 rw[hpe]at hw;obtain⟨_,⟨q1,q2⟩,_⟩:=hw;unfold rnP;rw[h.Kj q1.1 q1.2.1 q2]
end
end Go.Tr
