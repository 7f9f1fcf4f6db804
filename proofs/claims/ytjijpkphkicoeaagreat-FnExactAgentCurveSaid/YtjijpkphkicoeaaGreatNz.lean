
/- Nets as data: agents, ports, wires. No program in it. -/
import Derived.Test.YtjijpkphkicoeaaGreatShort
import Derived.Test.YtjijpkphkicoeaaGreatVV
import Derived.Test.YtjijpkphkicoeaaGreatValid
set_option linter.unusedSimpArgs false
set_option linter.unusedVariables false
set_option linter.unusedSectionVars false
namespace Go.Tr
open Go Go.RowKit
abbrev uPort:U:=.pair (.int .i64) (.int .i64)
abbrev uAgent:U:=.pair (.int .i64) (.pair (.int .i64) (.pair (.int .i64) (.pair (.sl (.int .i64)) (.sl uPort))))
abbrev uNet:U:=.sl uAgent
abbrev NPort:=Int×Int
abbrev NAgent:=Int×Int×Int×List Int×List NPort
def agAt(xs:List NAgent)(i:Int):NAgent:=elt (dflt uAgent) xs i
abbrev NAgent.kind(a:NAgent):Int:=a.1
abbrev NAgent.level(a:NAgent):Int:=a.2.1
abbrev NAgent.value(a:NAgent):Int:=a.2.2.1
abbrev NAgent.data(a:NAgent):List Int:=a.2.2.2.1
abbrev NAgent.ports(a:NAgent):List NPort:=a.2.2.2.2
def peerN(xs:List NAgent)(p:NPort):NPort:=elt (dflt uPort) (agAt xs p.1).ports p.2
def ay(xs:List NAgent)(p q:NPort):List NAgent:=xs.set p.1.toNat ((agAt xs p.1).1,(agAt xs p.1).2.1,(agAt xs p.1).2.2.1,(agAt xs p.1).2.2.2.1,(agAt xs p.1).2.2.2.2.set p.2.toNat q)
def aR(xs:List NAgent)(p q:NPort):List NAgent:=ay (ay xs p q) q p
def PortIn(xs:List NAgent)(p:NPort):Prop:=0≤p.1∧p.1<(xs.length:Nat)∧0≤p.2∧p.2<((agAt xs p.1).ports.length:Nat)
abbrev vP(p:NPort):SV:=.agg [.int .i64 p.1,.int .i64 p.2]
theorem bn(xs:List NAgent)(p q:NPort):(ay xs p q).length=xs.length:=by unfold ay;simp
theorem ji{xs:List NAgent}{k:Nat}{y:NAgent}{i:Int}:agAt (xs.set k y) i=if k=i.toNat∧k<xs.length then y else agAt xs i:=by
 unfold agAt elt;rw[List.getD_eq_getElem?_getD,List.getD_eq_getElem?_getD,List.getElem?_set]
 by_cases h:k=i.toNat
 ·subst h
  by_cases h2:i.toNat<xs.length
  ·simp[h2]
  ·simp[h2]
 ·simp[h]
theorem bW(xs:List NAgent)(p q:NPort)(i:Int):agAt (ay xs p q) i=if p.1.toNat=i.toNat∧p.1.toNat<xs.length then((agAt xs p.1).1,(agAt xs p.1).2.1,(agAt xs p.1).2.2.1,(agAt xs p.1).2.2.2.1,(agAt xs p.1).2.2.2.2.set p.2.toNat q)else agAt xs i:=ji
theorem uT{xs:List NAgent}{i j:Int}(h:i.toNat=j.toNat):agAt xs i=agAt xs j:=by unfold agAt elt;rw[h]
theorem kS(xs:List NAgent)(p q:NPort)(i:Int):(agAt (ay xs p q) i).ports.length=(agAt xs i).ports.length:=by
 rw[bW];split
 ·rename_i h;rw[uT h.1.symm];simp[NAgent.ports]
 ·rfl
theorem PortIn.set{xs:List NAgent}{p q r:NPort}(h:PortIn xs r):PortIn (ay xs p q) r:=by
 unfold PortIn at h ⊢;rw[bn,kS];exact h
theorem PortIn.link{xs:List NAgent}{p q r:NPort}(h:PortIn xs r):PortIn (aR xs p q) r:=h.set.set
theorem fT(xs:List NAgent)(p q:NPort):(aR xs p q).length=xs.length:=by unfold aR;rw[bn,bn]
theorem oG{us:List Value}{n:Nat}(hl:us.length=n*5){i:Int}(h0:0≤i)(h1:i<(n:Nat)):i.toNat*5+5≤us.length:=by omega
theorem nU{us:List Value}{n:Nat}(hl:us.length=n*5){i:Int}(h0:0≤i)(h1:i<(n:Nat)){o:Nat}(ho:o<5):us[i.toNat*5+o]? =some (us.getD (i.toNat*5+o) undef):=by
 rw[List.getD_eq_getElem?_getD,List.getElem?_eq_getElem (by omega)];rfl
def bG(xs:List NAgent)(old now:NPort):List NAgent:=aR xs (peerN xs old) now
def aB(xs:List NAgent)(x y:NPort):List NAgent:=bif (peerN xs x).1==y.1&&(peerN xs x).2==y.2 then xs else aR xs (peerN xs x) (peerN xs y)
def aJ(kind level value:Int)(data:List Int)(n:Nat):NAgent:=(kind,level,value,data,List.replicate n (0,0))
def jo(kv:List (Int×Bool))(ks:List Int):List (Int×Bool):=ks.foldl (fun kv k=>kvSet kv k true) kv
theorem KQ(kv:List (Int×Bool)){ks:List Int}{i:Nat}(h:i<ks.length):kvSet (jo kv (ks.take i)) (ks.getD i 0) true=jo kv (ks.take (i+1)):=by
 unfold jo;rw[List.take_add_one,List.foldl_append,List.getD_eq_getElem?_getD,List.getElem?_eq_getElem h];rfl
theorem wrapS{k:Nat}(h:k<1000000000):IntKind.i64.wrap ((k:Int)+1)=((k+1:Nat):Int):=K3 (by omega)
def NetSmall(xs:List NAgent):Prop:=xs.length≤1048576∧∀i:Nat,(agAt xs i).data.length≤1048576∧(agAt xs i).ports.length≤1048576
def lZ(c:Int)(x y:NAgent):Bool:=bif (bif c==6 then y.kind==10 else false)then decide ((y.data.length:Int)≤x.value)else false
def aH(x y:NAgent):Int×Bool:=
 bif aG x.kind x.level y.kind y.level==2 then(bif lZ (aC x.kind x.level y.kind y.level) y x then(8,false)else(aC x.kind x.level y.kind y.level,aG x.kind x.level y.kind y.level==2))
 else(bif lZ (aC x.kind x.level y.kind y.level) x y then(8,false)else(aC x.kind x.level y.kind y.level,aG x.kind x.level y.kind y.level==2))
theorem Gw{x y:NAgent}(h1:(aG x.kind x.level y.kind y.level==2)=true)(h2:lZ (aC x.kind x.level y.kind y.level) y x=true):aH x y=(8,false):=by unfold aH;rw[h1,h2];rfl
theorem Gu{x y:NAgent}(h1:(aG x.kind x.level y.kind y.level==2)=true)(h2:lZ (aC x.kind x.level y.kind y.level) y x=false):aH x y=(aC x.kind x.level y.kind y.level,aG x.kind x.level y.kind y.level==2):=by unfold aH;rw[h1,h2];rfl
theorem Gt{x y:NAgent}(h1:(aG x.kind x.level y.kind y.level==2)=false)(h2:lZ (aC x.kind x.level y.kind y.level) x y=true):aH x y=(8,false):=by unfold aH;rw[h1,h2];rfl
theorem Gs{x y:NAgent}(h1:(aG x.kind x.level y.kind y.level==2)=false)(h2:lZ (aC x.kind x.level y.kind y.level) x y=false):aH x y=(aC x.kind x.level y.kind y.level,aG x.kind x.level y.kind y.level==2):=by unfold aH;rw[h1,h2];rfl
def iA(p lo hi d:Int):Int×Int:=bif (bif decide (p<lo)then true else decide (hi<p))then(0,2)else(IntKind.i64.wrap (p+d),0)
def bI(c p:Int):Int×Int:=
 bif c==1 then iA p 0 0 (-2)else bif c==2 then iA p 0 0 (-2)else bif c==3 then iA p 0 3 0 else bif c==4 then iA p 0 3 (-2)
 else bif c==5 then iA p 0 0 (-1)else bif c==6 then iA p 0 3 (-1)else bif c==7 then iA p 2 600 (-2)else(0,2)
def fH(by_:Int)(x:NAgent):NAgent:=bif aU x.kind then(x.1,x.2.1+by_,x.2.2)else x
def dA(by_:Int)(xs:List NAgent):Bool:=xs.all fun x=> !(aU x.kind)||decide (x.level+by_≤8)
def aY(by_:Int)(xs:List NAgent):List NAgent:=xs.map (fH by_)
def kg(x:Int):Int:=IntKind.i64.wrap (IntKind.i32.wrap x)
def rQ(o a b:Int):Int:=
 bif o==1 then kg (IntKind.i64.wrap (kg a+kg b))else bif o==2 then kg (IntKind.i64.wrap (kg a-kg b))else bif o==3 then kg (IntKind.i64.wrap (kg a*kg b))
 else bif o==4 then(bif kg b==0 then 0 else kg (IntKind.i64.wrap ((kg a).tdiv (kg b))))else bif o==5 then(bif decide (kg a<kg b)then 1 else 0)else bif o==6 then(bif kg a==kg b then 1 else 0)else 0
theorem KZ(x:Int):IntKind.i64.wrap (IntKind.i32.wrap (IntKind.u32.wrap (IntKind.u64.wrap x)))=kg x:=by
 unfold kg;simp only[IntKind.wrap,IntKind.bits,IntKind.signed];simp
def AllIn(xs:List NAgent):Prop:=∀p,PortIn xs p→PortIn xs (peerN xs p)
theorem IY{α:Type}{d:α}{xs:List α}{i j:Int}(h:i.toNat=j.toNat):elt d xs i=elt d xs j:=by unfold elt;rw[h]
theorem OC{α:Type}{d:α}{xs:List α}{k:Nat}{y:α}{i:Int}:elt d (xs.set k y) i=if k=i.toNat∧k<xs.length then y else elt d xs i:=by
 unfold elt;rw[List.getD_eq_getElem?_getD,List.getD_eq_getElem?_getD,List.getElem?_set]
 by_cases h:k=i.toNat
 ·subst h
  by_cases h2:i.toNat<xs.length<;>simp[h2]
 ·simp[h]
theorem OB{α:Type}{d:α}{xs ys:List α}{i:Int}(h:i.toNat<xs.length):elt d (xs++ys) i=elt d xs i:=by
 unfold elt;rw[List.getD_eq_getElem?_getD,List.getD_eq_getElem?_getD,List.getElem?_append_left h]
theorem LD{α:Type}{d y:α}{xs:List α}{i:Int}(h:i.toNat=xs.length):elt d (xs++[y]) i=y:=by
 unfold elt;rw[h,List.getD_eq_getElem?_getD];simp
theorem bD{xs ys:List NAgent}{i:Int}(h:i.toNat<xs.length):agAt (xs++ys) i=agAt xs i:=OB h
theorem mF{y:NAgent}{xs:List NAgent}{i:Int}(h:i.toNat=xs.length):agAt (xs++[y]) i=y:=LD h
theorem PortIn.app{xs ys:List NAgent}{p:NPort}(h:PortIn xs p):PortIn (xs++ys) p:=by
 obtain⟨h1,h2,h3,h4⟩:=h;refine⟨h1,by rw[List.length_append];omega,h3,?_⟩;rw[bD (by omega)];exact h4
theorem PortIn.new{k l v:Int}{d:List Int}{n:Nat}{xs:List NAgent}{s:Int}(h0:0≤s)(h1:s<(n:Nat)):PortIn (xs++[aJ k l v d n]) ((xs.length:Nat),s):=by
 refine⟨by omega,by rw[List.length_append,List.length_singleton];show((xs.length:Nat):Int)<_;omega,h0,?_⟩;rw[mF (by simp)];simpa[aJ,NAgent.ports]using h1
theorem kL{xs ys:List NAgent}{p:NPort}(h:p.1.toNat<xs.length):peerN (xs++ys) p=peerN xs p:=by unfold peerN;rw[bD h]
theorem Cc{xs:List NAgent}{p q r:NPort}(hp:PortIn xs p)(hr:PortIn xs r):peerN (ay xs p q) r=if p=r then q else peerN xs r:=by
 obtain⟨p1,p2,p3,p4⟩:=hp;obtain⟨r1,r2,r3,r4⟩:=hr;unfold peerN;rw[bW]
 by_cases h:p.1.toNat=r.1.toNat
 ·have e:p.1=r.1:=by omega
  rw[if_pos ⟨h,by omega⟩];show elt (dflt uPort) ((agAt xs p.1).2.2.2.2.set p.2.toNat q) r.2=_;rw[OC]
  by_cases h2:p.2.toNat=r.2.toNat
  ·have e2:p.2=r.2:=by omega
   rw[if_pos ⟨h2,by simp only[NAgent.ports]at p4;omega⟩,if_pos (Prod.ext e e2)]
  ·rw[if_neg (fun hh=>h2 hh.1),if_neg (fun hh=>h2 (by rw[hh])),e]
 ·rw[if_neg (fun hh=>h hh.1),if_neg (fun hh=>h (by rw[hh]))]
theorem gJ{xs:List NAgent}{p q r:NPort}(hp:PortIn xs p)(hq:PortIn xs q)(hr:PortIn xs r):peerN (aR xs p q) r=if q=r then p else if p=r then q else peerN xs r:=by
 unfold aR;rw[Cc hq.set hr.set,Cc hp hr]
theorem PortIn.unset{xs:List NAgent}{p q r:NPort}(h:PortIn (ay xs p q) r):PortIn xs r:=by
 unfold PortIn at h ⊢
 rwa[bn,kS]at h
theorem PortIn.unlink{xs:List NAgent}{p q r:NPort}(h:PortIn (aR xs p q) r):PortIn xs r:=h.unset.unset
theorem AllIn.link{xs:List NAgent}{p q:NPort}(h:AllIn xs)(hp:PortIn xs p)(hq:PortIn xs q):AllIn (aR xs p q):=fun r hr=>by
 have hr':=hr.unlink;rw[gJ hp hq hr'];split
 ·exact hp.link
 ·split
  ·exact hq.link
  ·exact(h r hr').link
theorem AllIn.move{xs:List NAgent}{p q:NPort}(h:AllIn xs)(hp:PortIn xs p)(hq:PortIn xs q):AllIn (bG xs p q):=h.link (h p hp) hq
theorem PortIn.move{xs:List NAgent}{p q r:NPort}(h:PortIn xs r):PortIn (bG xs p q) r:=h.link
theorem PortIn.join{xs:List NAgent}{p q r:NPort}(h:PortIn xs r):PortIn (aB xs p q) r:=by
 unfold aB;cases ((peerN xs p).1==q.1&&(peerN xs p).2==q.2)with
 |true=>exact h
 |false=>exact h.link
theorem AllIn.join{xs:List NAgent}{p q:NPort}(h:AllIn xs)(hp:PortIn xs p)(hq:PortIn xs q):AllIn (aB xs p q):=by
 unfold aB;cases ((peerN xs p).1==q.1&&(peerN xs p).2==q.2)with
 |true=>exact h
 |false=>exact h.link (h p hp) (h q hq)
theorem AllIn.add{xs:List NAgent}(h:AllIn xs)(h0:PortIn xs (0,0))(k l v:Int)(d:List Int)(n:Nat):AllIn (xs++[aJ k l v d n]):=fun r hr=>by
 by_cases hlt:r.1.toNat<xs.length
 ·rw[kL hlt];obtain⟨r1,r2,r3,r4⟩:=hr;rw[bD hlt]at r4;exact(h r ⟨r1,by omega,r3,r4⟩).app
 ·obtain⟨r1,r2,r3,r4⟩:=hr;rw[List.length_append,List.length_singleton]at r2;have e:r.1.toNat=xs.length:=by omega
  have hp:peerN (xs++[aJ k l v d n]) r=(0,0):=by
   unfold peerN;rw[mF e]at r4 ⊢;simp only[aJ,NAgent.ports,List.length_replicate]at r4;unfold elt;rw[List.getD_eq_getElem?_getD];simp only[aJ,NAgent.ports];rw[List.getElem?_replicate];split<;>rfl
  rw[hp];exact h0.app
theorem fV(xs:List NAgent)(p q:NPort):(bG xs p q).length=xs.length:=fT _ _ _
theorem jI(xs:List NAgent)(p q:NPort):(aB xs p q).length=xs.length:=by
 unfold aB;cases ((peerN xs p).1==q.1&&(peerN xs p).2==q.2)<;>simp[fT]
theorem jq{xs:List NAgent}{p q a b:NPort}(hp:PortIn xs p)(hq:PortIn xs q)(hn:p≠q):ay (ay xs p a) q b=ay (ay xs q b) p a:=by
 obtain⟨p1,p2,p3,p4⟩:=hp;obtain⟨q1,q2,q3,q4⟩:=hq
 by_cases h:p.1.toNat=q.1.toNat
 ·have e:p.1=q.1:=by omega
  have h2:p.2.toNat≠q.2.toNat:=fun h2=>hn (Prod.ext e (by omega))
  have k1:agAt (ay xs p a) q.1=((agAt xs p.1).1,(agAt xs p.1).2.1,(agAt xs p.1).2.2.1,(agAt xs p.1).2.2.2.1,(agAt xs p.1).2.2.2.2.set p.2.toNat a):=by
   rw[bW,if_pos ⟨h,by omega⟩]
  have k2:agAt (ay xs q b) p.1=((agAt xs q.1).1,(agAt xs q.1).2.1,(agAt xs q.1).2.2.1,(agAt xs q.1).2.2.2.1,(agAt xs q.1).2.2.2.2.set q.2.toNat b):=by
   rw[bW,if_pos ⟨h.symm,by omega⟩]
  rw[show ay (ay xs p a) q b=(ay xs p a).set q.1.toNat ((agAt (ay xs p a) q.1).1,(agAt (ay xs p a) q.1).2.1,(agAt (ay xs p a) q.1).2.2.1,(agAt (ay xs p a) q.1).2.2.2.1,(agAt (ay xs p a) q.1).2.2.2.2.set q.2.toNat b) from rfl,show ay (ay xs q b) p a=(ay xs q b).set p.1.toNat ((agAt (ay xs q b) p.1).1,(agAt (ay xs q b) p.1).2.1,(agAt (ay xs q b) p.1).2.2.1,(agAt (ay xs q b) p.1).2.2.2.1,(agAt (ay xs q b) p.1).2.2.2.2.set p.2.toNat a) from rfl,k1,k2];unfold ay;rw[h,List.set_set,List.set_set,e]
  simp only[];rw[List.set_comm _ _ h2]
 ·have k1:agAt (ay xs p a) q.1=agAt xs q.1:=by rw[bW,if_neg fun hh=>h hh.1]
  have k2:agAt (ay xs q b) p.1=agAt xs p.1:=by rw[bW,if_neg fun hh=>h hh.1.symm]
  rw[show ay (ay xs p a) q b=(ay xs p a).set q.1.toNat ((agAt (ay xs p a) q.1).1,(agAt (ay xs p a) q.1).2.1,(agAt (ay xs p a) q.1).2.2.1,(agAt (ay xs p a) q.1).2.2.2.1,(agAt (ay xs p a) q.1).2.2.2.2.set q.2.toNat b) from rfl,show ay (ay xs q b) p a=(ay xs q b).set p.1.toNat ((agAt (ay xs q b) p.1).1,(agAt (ay xs q b) p.1).2.1,(agAt (ay xs q b) p.1).2.2.1,(agAt (ay xs q b) p.1).2.2.2.1,(agAt (ay xs q b) p.1).2.2.2.2.set p.2.toNat a) from rfl,k1,k2];unfold ay;rw[List.set_comm _ _ h]
theorem qw{xs:List NAgent}{p q:NPort}(hp:PortIn xs p)(hq:PortIn xs q):aR xs p q=aR xs q p:=by
 by_cases h:p=q
 ·rw[h]
 ·unfold aR;exact jq hp hq h
def fP(d:List Int)(i:Int):Int:=elt (dflt (.int .i64)) d i
def aM(xs:List NAgent)(x y:Int):List NAgent:=
 bif (agAt xs y).1==7 then bG (bG (xs++[aJ 8 (agAt xs y).2.1 (agAt xs y).2.2.1 [(agAt xs x).2.2.1] 2]) (y,1) ((xs.length:Nat),0)) (y,2) ((xs.length:Nat),1)
 else bG (xs++[aJ 6 0 (rQ (agAt xs y).2.2.1 (fP (agAt xs y).2.2.2.1 0) (agAt xs x).2.2.1) [] 1]) (y,1) ((xs.length:Nat),0)
def xU:NAgent:=(0,0,0,[],[])
def aK(xs:List NAgent)(a:Int):List NAgent:=xs.set a.toNat xU
def kE(x c d:Int)(xs:List NAgent)(i:Nat):List NAgent:=aR (aR (xs++[aJ 4 (agAt xs x).2.1 0 [] 3]) ((xs.length:Nat),1) (c,(i:Nat))) ((xs.length:Nat),2) (d,(i:Nat))
def bH(x c d:Int)(xs:List NAgent):Nat→List NAgent
 |0=>xs
 |k+1=>kE x c d (bH x c d xs k) (k+1)
def bB(y:Int)(b:Nat)(xs:List NAgent):Nat→List NAgent
 |0=>xs
 |k+1=>bG (bB y b xs k) (y,((k:Nat):Int)+1) (((b+k:Nat):Int),0)
def jN(xs:List NAgent)(y:Int):NAgent:=aJ (agAt xs y).1 (agAt xs y).2.1 (agAt xs y).2.2.1 (agAt xs y).2.2.2.1 (agAt xs y).2.2.2.2.length
def dup2(xs:List NAgent)(y:Int):List NAgent:=xs++[jN xs y]++[jN xs y]
def dup3(xs:List NAgent)(x y:Int):List NAgent:=bH x ((xs.length:Nat)) ((xs.length+1:Nat)) (dup2 xs y) ((agAt xs y).2.2.2.2.length-1)
def iT(xs:List NAgent)(x y:Int):List NAgent:=bG (bG (dup3 xs x y) (x,1) ((xs.length:Nat),0)) (x,2) ((xs.length+1:Nat),0)
def aO(xs:List NAgent)(x y:Int):List NAgent:=bB y (xs.length+2) (iT xs x y) ((agAt xs y).2.2.2.2.length-1)
def fQ(b k:Nat):List Int:=(List.range k).map fun j=>((b+j:Nat):Int)
theorem y7(b k:Nat):fQ b (k+1)=fQ b k++[((b+k:Nat):Int)]:=by simp[fQ,List.range_succ]
theorem jG(b k:Nat):(fQ b k).length=k:=by simp[fQ]
theorem Bz{b k m:Nat}(h:k<m):elt (0:Int) (fQ b m) (k:Nat)=((b+k:Nat):Int):=by
 unfold elt fQ;rw[Int.toNat_natCast,List.getD_eq_getElem?_getD,List.getElem?_map,List.getElem?_range h];rfl
theorem GA(x c d:Int)(xs:List NAgent)(i:Nat):(kE x c d xs i).length=xs.length+1:=by unfold kE;rw[fT,fT,List.length_append];rfl
theorem fE(x c d:Int)(xs:List NAgent):∀k,(bH x c d xs k).length=xs.length+k
 |0=>rfl
 |k+1=>by unfold bH;rw[GA,fE x c d xs k];omega
theorem Br{x c d:Int}{xs:List NAgent}{i:Nat}{p:NPort}(h:PortIn xs p):PortIn (kE x c d xs i) p:=h.app.link.link
theorem aX{x c d:Int}{xs:List NAgent}{p:NPort}(h:PortIn xs p):∀k,PortIn (bH x c d xs k) p
 |0=>h
 |k+1=>Br (aX h k)
theorem Gz{x c d:Int}{xs:List NAgent}{i:Nat}(h:AllIn xs)(h0:PortIn xs (0,0))(hc:PortIn xs (c,(i:Nat)))(hd:PortIn xs (d,(i:Nat))):AllIn (kE x c d xs i):=
 ((h.add h0 4 (agAt xs x).2.1 0 [] 3).link (PortIn.new (by decide) (by decide)) hc.app).link (PortIn.link (PortIn.new (by decide) (by decide))) hd.app.link
theorem jF{x c d:Int}{xs:List NAgent}(h:AllIn xs)(h0:PortIn xs (0,0)):∀k,(∀i:Nat,i≤k→PortIn xs (c,(i:Nat))∧PortIn xs (d,(i:Nat)))→AllIn (bH x c d xs k)
 |0,_=>h
 |k+1,hk=>Gz (jF h h0 k fun i hi=>hk i (by omega)) (aX h0 k) (aX (hk (k+1) (Nat.le_refl _)).1 k) (aX (hk (k+1) (Nat.le_refl _)).2 k)
theorem vC(y:Int)(b:Nat)(xs:List NAgent):∀k,(bB y b xs k).length=xs.length
 |0=>rfl
 |k+1=>by unfold bB;rw[fV,vC y b xs k]
theorem cZ{y:Int}{b:Nat}{xs:List NAgent}{p:NPort}(h:PortIn xs p):∀k,PortIn (bB y b xs k) p
 |0=>h
 |k+1=>(cZ h k).move
theorem iU{y:Int}{b:Nat}{xs:List NAgent}(h:AllIn xs):∀k,(∀i:Nat,i<k→PortIn xs (y,((i:Nat):Int)+1)∧PortIn xs (((b+i:Nat):Int),0))→AllIn (bB y b xs k)
 |0,_=>h
 |k+1,hk=>(iU h k fun i hi=>hk i (by omega)).move (cZ (hk k (by omega)).1 k) (cZ (hk k (by omega)).2 k)
theorem dM(xs:List NAgent)(y:Int):(dup2 xs y).length=xs.length+2:=by unfold dup2;simp
theorem jT{xs:List NAgent}{y:Int}{p:NPort}(h:PortIn xs p):PortIn (dup2 xs y) p:=h.app.app
theorem ng{xs:List NAgent}{y:Int}{i:Int}(h0:0≤i)(h1:i<((agAt xs y).2.2.2.2.length:Nat)):PortIn (dup2 xs y) (((xs.length:Nat):Int),i):=(PortIn.new h0 h1).app
theorem ni{xs:List NAgent}{y:Int}{i:Int}(h0:0≤i)(h1:i<((agAt xs y).2.2.2.2.length:Nat)):PortIn (dup2 xs y) (((xs.length+1:Nat):Int),i):=by
 have:=PortIn.new (xs:=xs++[jN xs y]) (k:=(agAt xs y).1) (l:=(agAt xs y).2.1) (v:=(agAt xs y).2.2.1) (d:=(agAt xs y).2.2.2.1) h0 h1;rw[List.length_append,List.length_singleton]at this;exact this
theorem rC{xs:List NAgent}{y:Int}(h:AllIn xs)(h0:PortIn xs (0,0)):AllIn (dup2 xs y):=(h.add h0 _ _ _ _ _).add h0.app _ _ _ _ _
theorem nk{x:Int}{c d:Int}{xs:List NAgent}:∀{k i:Nat},i<k→PortIn (bH x c d xs k) (((xs.length+i:Nat):Int),0)
 |0,i,h=>by omega
 |k+1,i,h=>by
  by_cases e:i=k
  ·subst e;have h2:=(PortIn.new (xs:=bH x c d xs i) (k:=4) (l:=(agAt (bH x c d xs i) x).2.1) (v:=0) (d:=[]) (n:=3) (s:=0) (by decide) (by decide)).link (p:=(((bH x c d xs i).length:Nat),1)) (q:=(c,((i+1:Nat):Int)));have h3:=h2.link (p:=(((bH x c d xs i).length:Nat),2)) (q:=(d,((i+1:Nat):Int)));rw[fE]at h3;unfold bH kE;rw[fE];exact h3
  ·exact Br (nk (by omega))
def fF(b:Nat):Nat→NPort
 |0=>(((b-1:Nat):Int),0)
 |k+1=>(((b+k:Nat):Int),2)
def mG(lv:Int)(b:Nat)(xs:List NAgent):Nat→List NAgent
 |0=>xs
 |k+1=>aR (mG lv b xs k++[aJ 3 lv 0 [] 3]) (((b+k:Nat):Int),0) (fF b k)
def yQ(x:Int)(b:Nat)(xs:List NAgent):Nat→List NAgent
 |0=>xs
 |k+1=>bG (yQ x b xs k) (x,((k:Nat):Int)+1) (((b+k:Nat):Int),1)
def aL(xs:List NAgent)(y i:Int):List NAgent:=xs++[aJ 12 (agAt xs y).2.1 (fP (agAt xs y).2.2.2.1 i) [] 1]
def iw(xs:List NAgent)(x y:Int):List NAgent:=
 bif (agAt xs x).1==6 then bG (aL xs y (bif (agAt xs x).2.2.1==0 then 1 else 0)) (y,1) ((xs.length:Nat),0)
 else bG (yQ x (xs.length+1) (mG (agAt xs y).2.1 (xs.length+1) (aL xs y (agAt xs x).2.2.1) ((agAt xs x).2.2.2.2.length-1)) ((agAt xs x).2.2.2.2.length-1)) (y,1) (fF (xs.length+1) ((agAt xs x).2.2.2.2.length-1))
theorem su(lv:Int)(b:Nat)(xs:List NAgent):∀k,(mG lv b xs k).length=xs.length+k
 |0=>rfl
 |k+1=>by unfold mG;rw[fT,List.length_append,su lv b xs k];simp;omega
theorem yR{lv:Int}{b:Nat}{xs:List NAgent}{p:NPort}(h:PortIn xs p):∀k,PortIn (mG lv b xs k) p
 |0=>h
 |k+1=>(yR h k).app.link
theorem uY{lv:Int}{xs:List NAgent}{s:Int}(h0:0≤s)(h1:s<3):∀{k i:Nat},i<k→PortIn (mG lv xs.length xs k) (((xs.length+i:Nat):Int),s)
 |0,i,h=>by omega
 |k+1,i,h=>by
  by_cases e:i=k
  ·subst e;have:=(PortIn.new (xs:=mG lv xs.length xs i) (k:=3) (l:=lv) (v:=0) (d:=[]) (n:=3) h0 (by omega)).link (p:=(((xs.length+i:Nat):Int),0)) (q:=fF xs.length i);rw[su]at this;exact this
  ·exact(uY h0 h1 (by omega:i<k)).app.link
theorem Bo{lv:Int}{xs:List NAgent}(hr:PortIn xs (fF xs.length 0)):∀k,PortIn (mG lv xs.length xs k) (fF xs.length k)
 |0=>hr
 |k+1=>uY (by decide) (by decide) (Nat.lt_succ_self k)
theorem CS{lv:Int}{xs:List NAgent}(h:AllIn xs)(h0:PortIn xs (0,0))(hr:PortIn xs (fF xs.length 0)):∀k,AllIn (mG lv xs.length xs k)
 |0=>h
 |k+1=>by
  unfold mG;have:=PortIn.new (xs:=mG lv xs.length xs k) (k:=3) (l:=lv) (v:=0) (d:=[]) (n:=3) (s:=0) (by decide) (by decide);rw[su]at this;exact((CS h h0 hr k).add (yR h0 k) _ _ _ _ _).link this (Bo hr k).app
theorem Iz(x:Int)(b:Nat)(xs:List NAgent):∀k,(yQ x b xs k).length=xs.length
 |0=>rfl
 |k+1=>by unfold yQ;rw[fV,Iz x b xs k]
theorem jQ{x:Int}{b:Nat}{xs:List NAgent}{p:NPort}(h:PortIn xs p):∀k,PortIn (yQ x b xs k) p
 |0=>h
 |k+1=>(jQ h k).move
theorem yD{x:Int}{b:Nat}{xs:List NAgent}(h:AllIn xs):∀k,(∀i:Nat,i<k→PortIn xs (x,((i:Nat):Int)+1)∧PortIn xs (((b+i:Nat):Int),1))→AllIn (yQ x b xs k)
 |0,_=>h
 |k+1,hk=>(yD h k fun i hi=>hk i (by omega)).move (jQ (hk k (by omega)).1 k) (jQ (hk k (by omega)).2 k)
theorem mH(xs:List NAgent)(y i:Int):(aL xs y i).length=xs.length+1:=by simp[aL]
def dz(b:Int)(xs:List NAgent)(i:Nat):List NAgent:=(xs.take i).map (fH b)++xs.drop i
theorem kM(b:Int)(xs:List NAgent)(i:Nat):(dz b xs i).length=xs.length:=by unfold dz;simp;omega
theorem Ae{b:Int}{xs:List NAgent}{i:Nat}(h:i<xs.length):agAt (dz b xs i) (i:Nat)=agAt xs (i:Nat):=by
 unfold agAt elt dz;rw[Int.toNat_natCast,List.getD_eq_getElem?_getD,List.getD_eq_getElem?_getD,List.getElem?_append_right (by simp;omega)];simp;rw[show i-min i xs.length=0 by omega,Nat.add_zero]
theorem lU{xs:List NAgent}{i:Nat}(h:i<xs.length):agAt xs (i:Nat)=xs[i]:=by
 unfold agAt elt;rw[Int.toNat_natCast,List.getD_eq_getElem?_getD,List.getElem?_eq_getElem h];rfl
theorem uK{b:Int}{xs:List NAgent}{i:Nat}(h:i<xs.length):dz b xs (i+1)=(dz b xs i).set i (fH b (agAt xs (i:Nat))):=by
 unfold dz;rw[List.set_append_right _ _ (by simp;omega),List.take_add_one,List.getElem?_eq_getElem h,List.map_append,lU h];have e:i-((xs.take i).map (fH b)).length=0:=by simp;omega
 rw[e,List.drop_eq_getElem_cons h,List.set_cons_zero];simp
theorem Af{b:Int}{xs:List NAgent}{i:Nat}(h:i<xs.length)(hk:aU (agAt xs (i:Nat)).1=false):dz b xs (i+1)=dz b xs i:=by
 rw[uK h]
 have:fH b (agAt xs (i:Nat))=agAt (dz b xs i) (i:Nat):=by
  rw[Ae h];unfold fH;rw[show aU (agAt xs (i:Nat)).kind=false from hk];rfl
 rw[this,lU (by rw[kM];exact h)];exact List.set_getElem_self _
theorem j6{b:Int}{xs:List NAgent}{i:Nat}(h:i<xs.length):dA b (xs.take (i+1))=(dA b (xs.take i)&&(!(aU (agAt xs (i:Nat)).1)||decide ((agAt xs (i:Nat)).2.1+b≤8))):=by
 unfold dA;rw[List.take_add_one,List.getElem?_eq_getElem h,List.all_append,lU h];simp
theorem DZ{b:Int}{xs:List NAgent}(h:dA b xs=true)(i:Nat):dA b (xs.take i)=true:=by
 unfold dA at h ⊢;rw[List.all_eq_true]at h ⊢;exact fun x hx=>h x (List.mem_of_mem_take hx)
abbrev TQ:U:=.pair uNet (.pair (.sl uNet) .any)
def aS(bk:List (List NAgent))(i:Int):List NAgent:=elt ([]:List NAgent) bk i
def checkN(bk:List (List NAgent))(xs:List NAgent)(p:Int×Int):Int×Int×Int×Int:=
 let c:=aH (agAt xs p.1) (agAt xs p.2)
 let x:=bif c.2 then p.2 else p.1
 let y:=bif c.2 then p.1 else p.2
 bif c.1==8 then(0,0,0,11)else
 bif c.1==7 then(bif decide ((bk.length:Int)≤(agAt xs x).2.2.1)then(0,0,0,3)else bif !(dA (agAt xs x).2.1 (aS bk (agAt xs x).2.2.1))then(0,0,0,9)else(c.1,x,y,0))
 else(c.1,x,y,0)
def ou(bk:List (List NAgent))(xs:List NAgent)(c x y:Int):Int:=
 (bI c (bif c==3 then IntKind.i64.wrap (((agAt xs y).2.2.2.2.length:Nat)-1)else bif c==4 then IntKind.i64.wrap (((agAt xs y).2.2.2.2.length:Nat)-1)
  else bif c==6 then(bif (agAt xs x).1==9 then IntKind.i64.wrap (((agAt xs x).2.2.2.2.length:Nat)-1)else 0)else bif c==7 then((aS bk (agAt xs x).2.2.1).length:Nat)else 0)).1
def nZ(y:Int)(xs:List NAgent):Nat→List NAgent
 |0=>xs
 |k+1=>bG (nZ y xs k++[aJ 5 0 0 [] 1]) (y,((k+1:Nat):Int)) (((xs.length+k:Nat):Int),0)
def dZ(xs:List NAgent)(y:Int):List NAgent:=nZ y xs ((agAt xs y).2.2.2.2.length-1)
theorem iy(y:Int)(xs:List NAgent):∀k,(nZ y xs k).length=xs.length+k
 |0=>rfl
 |k+1=>by unfold nZ;rw[fV,List.length_append,iy y xs k];simp;omega
theorem lu{y:Int}{xs:List NAgent}{p:NPort}(h:PortIn xs p):∀k,PortIn (nZ y xs k) p
 |0=>h
 |k+1=>(lu h k).app.move
theorem vD{y:Int}{xs:List NAgent}(k:Nat):PortIn (nZ y xs k++[aJ 5 0 0 [] 1]) (((xs.length+k:Nat):Int),0):=by
 have:=PortIn.new (xs:=nZ y xs k) (k:=5) (l:=0) (v:=0) (d:=[]) (n:=1) (s:=0) (by decide) (by decide)
 rwa[iy]at this
theorem sF{y:Int}{xs:List NAgent}(h:AllIn xs)(h0:PortIn xs (0,0)):∀k,(∀i:Nat,i<k→PortIn xs (y,((i+1:Nat):Int)))→AllIn (nZ y xs k)
 |0,_=>h
 |k+1,hk=>((sF h h0 k fun i hi=>hk i (by omega)).add (lu h0 k) _ _ _ _ _).move (lu (hk k (by omega)) k).app (vD k)
theorem HV(xs:List NAgent)(p q:NPort)(i:Int):(agAt (aR xs p q) i).2.2.2.2.length=(agAt xs i).2.2.2.2.length:=by
 unfold aR;have h1:=kS (ay xs p q) q p i;have h2:=kS xs p q i;exact h1.trans h2
theorem Bw{y:Int}{xs:List NAgent}(hy:y.toNat<xs.length):∀k,(agAt (nZ y xs k) y).2.2.2.2.length=(agAt xs y).2.2.2.2.length
 |0=>rfl
 |k+1=>by
  unfold nZ bG;rw[HV,bD (by rw[iy];omega),Bw hy k]
def Cr(bk:List (List NAgent)):Prop:=∀i:Nat,(∀j:Nat,0≤(agAt (aS bk i) j).2.1∧(agAt (aS bk i) j).2.1≤8)
def bg(b:Int)(a:NAgent):NAgent:=(a.1,a.2.1,a.2.2.1,a.2.2.2.1,a.2.2.2.2.map fun p=>(p.1+b,p.2))
def jM(bk:List (List NAgent))(xs:List NAgent)(x:Int):List NAgent:=aY (agAt xs x).2.1 (aS bk (agAt xs x).2.2.1)
def jV(bk:List (List NAgent))(xs:List NAgent)(x y:Int):List NAgent:=
 aR (xs++((jM bk xs x).drop 1).map (bg ((xs.length:Nat)-1))) (y,0) ((peerN (jM bk xs x) (0,0)).1+((xs.length:Nat)-1),(peerN (jM bk xs x) (0,0)).2)
def dQ(bk:List (List NAgent))(xs:List NAgent)(c x y:Int):List NAgent:=
 bif c==1 then aB (aB xs (x,1) (y,1)) (x,2) (y,2)else bif c==2 then aB (aB xs (x,1) (y,1)) (x,2) (y,2)
 else bif c==3 then aO xs x y else bif c==4 then dZ xs y else bif c==5 then aM xs x y else bif c==6 then iw xs x y else bif c==7 then jV bk xs x y else xs
def dG(c x y:Int):List Int:=bif c==7 then[x]else[x,y]
structure IntPre(xs:List NAgent)(c x y:Int):Prop where
 x0:0≤x∧x<(xs.length:Nat)
 y0:0≤y∧y<(xs.length:Nat)
 c12:c=1∨c=2→PortIn xs (x,1)∧PortIn xs (x,2)∧PortIn xs (y,1)∧PortIn xs (y,2)
 c3:c=3→PortIn xs (x,1)∧PortIn xs (x,2)
 px:0<(agAt xs x).2.2.2.2.length∧(agAt xs x).2.2.2.2.length≤1000
 py:0<(agAt xs y).2.2.2.2.length∧(agAt xs y).2.2.2.2.length≤1000
 dy:(agAt xs y).2.2.2.1.length≤1000000
 c5:c=5→PortIn xs (y,1)∧((agAt xs y).1=7→PortIn xs (y,2))∧((agAt xs y).1≠7→0<(agAt xs y).2.2.2.1.length)
 c6:c=6→PortIn xs (y,1)∧((agAt xs x).1=6→(agAt xs y).2.2.2.1.length=2)∧((agAt xs x).1≠6→0≤(agAt xs x).2.2.1∧(agAt xs x).2.2.1<((agAt xs y).2.2.2.1.length:Nat))
def lF(lv x:Int)(b:Nat)(xs:List NAgent):Nat→List NAgent
 |0=>xs
 |k+1=>bG (aR (lF lv x b xs k++[aJ 3 lv 0 [] 3]) (fF b k) (((b+k:Nat):Int),0)) (x,((k+1:Nat):Int)) (((b+k:Nat):Int),1)
def bE(xs:List NAgent)(x y:Int):List NAgent:=
 bif (agAt xs y).1==11 then bG (aL xs y (bif (agAt xs x).2.2.1==0 then 1 else 0)) (y,1) ((xs.length:Nat),0)
 else bG (lF (agAt xs y).2.1 x (xs.length+1) (aL xs y (agAt xs x).2.2.1) ((agAt xs x).2.2.2.2.length-1)) (y,1) (fF (xs.length+1) ((agAt xs x).2.2.2.2.length-1))
theorem lW(lv x:Int)(b:Nat)(xs:List NAgent):∀k,(lF lv x b xs k).length=xs.length+k
 |0=>rfl
 |k+1=>by unfold lF;rw[fV,fT,List.length_append,lW lv x b xs k];simp;omega
theorem jR{lv x:Int}{b:Nat}{xs:List NAgent}{p:NPort}(h:PortIn xs p):∀k,PortIn (lF lv x b xs k) p
 |0=>h
 |k+1=>(jR h k).app.link.move
theorem II{lv x:Int}{xs:List NAgent}{s:Int}(h0:0≤s)(h1:s<3):∀{k i:Nat},i<k→PortIn (lF lv x xs.length xs k) (((xs.length+i:Nat):Int),s)
 |0,i,h=>by omega
 |k+1,i,h=>by
  by_cases e:i=k
  ·subst e;have:=(PortIn.new (xs:=lF lv x xs.length xs i) (k:=3) (l:=lv) (v:=0) (d:=[]) (n:=3) h0 (by omega));rw[lW]at this;exact this.link.move
  ·exact(II h0 h1 (by omega:i<k)).app.link.move
theorem rz{lv x:Int}{xs:List NAgent}(hr:PortIn xs (fF xs.length 0)):∀k,PortIn (lF lv x xs.length xs k) (fF xs.length k)
 |0=>hr
 |k+1=>II (by decide) (by decide) (Nat.lt_succ_self k)
theorem ql{lv x:Int}{xs:List NAgent}(k:Nat){s:Int}(h0:0≤s)(h1:s<3):PortIn (lF lv x xs.length xs k++[aJ 3 lv 0 [] 3]) (((xs.length+k:Nat):Int),s):=by
 have:=PortIn.new (xs:=lF lv x xs.length xs k) (k:=3) (l:=lv) (v:=0) (d:=[]) (n:=3) h0 (by omega)
 rwa[lW]at this
theorem qm{lv x:Int}{xs:List NAgent}(h:AllIn xs)(h0:PortIn xs (0,0))(hr:PortIn xs (fF xs.length 0)):∀k,(∀i:Nat,i<k→PortIn xs (x,((i+1:Nat):Int)))→AllIn (lF lv x xs.length xs k)
 |0,_=>h
 |k+1,hk=>(((qm h h0 hr k fun i hi=>hk i (by omega)).add (jR h0 k) _ _ _ _ _).link (rz hr k).app (ql k (by decide) (by decide))).move (jR (hk k (by omega)) k).app.link (ql k (by decide) (by decide)).link
def sD(lab c d:Int)(xs:List NAgent)(i:Nat):List NAgent:=aR (aR (xs++[aJ 4 lab 0 [] 3]) ((xs.length:Nat),1) (c,(i:Nat))) ((xs.length:Nat),2) (d,(i:Nat))
def aF(lab c d:Int)(xs:List NAgent):Nat→List NAgent
 |0=>xs
 |k+1=>sD lab c d (aF lab c d xs k) (k+1)
theorem Fu(xs:List NAgent)(p q:NPort)(i:Int):(agAt (aR xs p q) i).2.1=(agAt xs i).2.1:=by
 unfold aR
 have h:∀(xs:List NAgent) (p q:NPort),(agAt (ay xs p q) i).2.1=(agAt xs i).2.1:=fun xs p q=>by
  rw[bW];split
  ·rename_i h;rw[uT h.1.symm]
  ·rfl
 rw[h,h]
theorem iI{x c d:Int}{xs:List NAgent}(hx:x.toNat<xs.length):∀k,aF (agAt xs x).2.1 c d xs k=bH x c d xs k∧(agAt (bH x c d xs k) x).2.1=(agAt xs x).2.1
 |0=>⟨rfl,rfl⟩
 |k+1=>by
  obtain⟨h1,h2⟩:=iI hx k (c:=c) (d:=d);refine⟨?_,?_⟩
  ·unfold aF bH sD kE;rw[h1,h2]
  ·unfold bH kE;rw[Fu,Fu,bD (by rw[fE];omega),h2]
def oN(z:Int):Prop:=0≤z∧z≤1000000
def bM(b:Int)(ps:List NPort)(j:Nat):List NPort:=(ps.take j).map (fun p=>(p.1+b,p.2))++ps.drop j
theorem fD(b:Int)(ps:List NPort)(j:Nat):(bM b ps j).length=ps.length:=by unfold bM;simp;omega
theorem pJ{b:Int}{ps:List NPort}{j:Nat}(h:j<ps.length):elt (dflt uPort) (bM b ps j) (j:Nat)=elt (dflt uPort) ps (j:Nat):=by
 unfold elt bM;rw[Int.toNat_natCast,List.getD_eq_getElem?_getD,List.getD_eq_getElem?_getD,List.getElem?_append_right (by simp;omega)];simp;rw[show j-min j ps.length=0 by omega,Nat.add_zero]
theorem nL{b:Int}{ps:List NPort}{j:Nat}(h:j<ps.length):bM b ps (j+1)=(bM b ps j).set j ((elt (dflt uPort) ps (j:Nat)).1+b,(elt (dflt uPort) ps (j:Nat)).2):=by
 have he:elt (dflt uPort) ps (j:Nat)=ps[j]:=by
  unfold elt;rw[Int.toNat_natCast,List.getD_eq_getElem?_getD,List.getElem?_eq_getElem h];rfl
 unfold bM;rw[List.set_append_right _ _ (by simp;omega),List.take_add_one,List.getElem?_eq_getElem h,List.map_append,he];have e:j-((ps.take j).map fun p:NPort=>(p.1+b,p.2)).length=0:=by simp;omega
 rw[e,List.drop_eq_getElem_cons h,List.set_cons_zero];simp
theorem pI(b:Int)(ps:List NPort):bM b ps ps.length=ps.map fun p=>(p.1+b,p.2):=by unfold bM;simp
def gD(lv b:Int)(t:List NAgent)(k:Nat):List NAgent:=(((aY lv t).drop 1).take k).map (bg b)
theorem sG{lv b:Int}{t:List NAgent}{k:Nat}(h:k+1<t.length):gD lv b t (k+1)=gD lv b t k++[bg b (fH lv (agAt t ((k+1:Nat):Int)))]:=by
 unfold gD aY;rw[List.take_add_one,List.map_append,List.getElem?_drop,List.getElem?_map,lU h,show 1+k=k+1 by omega,List.getElem?_eq_getElem h];rfl
theorem vF{lv b:Int}{t:List NAgent}{k:Nat}(h:k+1≤t.length):(gD lv b t k).length=k:=by unfold gD aY;simp;omega
def bZ(t:List NAgent)(lv:Int)(xs:List NAgent)(y:Int):List NAgent:=
 aR (xs++gD lv ((xs.length:Nat)-1) t (t.length-1)) (((xs.length:Nat)-1)+(peerN t (0,0)).1,(peerN t (0,0)).2) (y,0)
def eD(x y:NAgent):Bool:=bif (bif x.1==9 then y.1==10 else false)then decide ((y.2.2.2.1.length:Int)≤x.2.2.1)else false
def jS(x y:NAgent):Bool:=bif (bif x.1==10 then y.1==9 else false)then decide ((x.2.2.2.1.length:Int)≤y.2.2.1)else false
def aQ(x y:NAgent):Int:=bif eD x y then 8 else bif jS x y then 8 else aC x.1 x.2.1 y.1 y.2.1
def aj(xs:List NAgent)(a b:Int):Int×Int:=bif aG (agAt xs a).1 (agAt xs a).2.1 (agAt xs b).1 (agAt xs b).2.1==2 then(b,a)else(a,b)
def maxI(a b:Int):Int:=bif decide (b<a)then a else b
def jv(t:List NAgent):Nat→Int
 |0=>0
 |k+1=>maxI (jv t k) (agAt t (k:Nat)).2.1
def jW(x:NAgent):Int:=bif x.1==9 then IntKind.i64.wrap ((x.2.2.2.2.length:Nat)-1)else 0
def nR(bk:List (List NAgent))(c:Int)(x y:NAgent):Int:=
 bif c==3 then IntKind.i64.wrap ((y.2.2.2.2.length:Nat)-1)else bif c==4 then IntKind.i64.wrap ((y.2.2.2.2.length:Nat)-1)else bif c==6 then jW x else bif c==7 then((aS bk x.2.2.1).length:Nat)else 0
def dR(bk:List (List NAgent))(x y:NAgent):Int×Int:=
 bif aQ x y==8 then(0,11)else
 bif aQ x y==7 then(bif decide ((bk.length:Int)≤x.2.2.1)then(0,3)else bif decide (8<IntKind.i64.wrap (jv (aS bk x.2.2.1) (aS bk x.2.2.1).length+x.2.1))then(0,9)else((bI 7 (nR bk 7 x y)).1,0))
 else((bI (aQ x y) (nR bk (aQ x y) x y)).1,0)
def aT(xs:List NAgent):Nat→Nat
 |0=>0
 |k+1=>bif (agAt xs (k:Nat)).1 !=0 then aT xs k+1 else aT xs k
theorem pG(xs:List NAgent):∀k,aT xs k≤k
 |0=>Nat.le_refl _
 |k+1=>by
  have:=pG xs k;unfold aT;cases ((agAt xs (k:Nat)).1 !=0)<;>simp<;>omega
def d9(bk:List (List NAgent))(xs:List NAgent)(c x y:Int):List NAgent:=
 bif c==1 then aB (aB xs (x,1) (y,1)) (x,2) (y,2)else bif c==2 then aB (aB xs (x,1) (y,1)) (x,2) (y,2)
 else bif c==3 then aO xs x y else bif c==4 then dZ xs y else bif c==5 then aM xs x y else bif c==6 then bE xs x y else bif c==7 then bZ (aS bk (agAt xs x).2.2.1) (agAt xs x).2.1 xs y else xs
def dF(bk:List (List NAgent))(xs:List NAgent)(c x y:Int):List NAgent:=bif c==7 then aK (d9 bk xs c x y) x else aK (aK (d9 bk xs c x y) x) y
structure Cy(xs:List NAgent)(c x y:Int):Prop extends IntPre xs c x y where
 k5:c=5→(agAt xs y).1=7∨(agAt xs y).1=8
 k6:c=6→((agAt xs y).1=11→(agAt xs y).2.2.2.1.length=2)∧((agAt xs y).1≠11→0≤(agAt xs x).2.2.1∧(agAt xs x).2.2.1<((agAt xs y).2.2.2.1.length:Nat)∧(agAt xs x).1=9)
theorem fu{xs:List NAgent}{a b:Int}{n:Int}(ha:0≤a∧a<n)(hb:0≤b∧b<n):(0≤(aj xs a b).1∧(aj xs a b).1<n)∧(0≤(aj xs a b).2∧(aj xs a b).2<n):=by
 unfold aj;cases aG (agAt xs a).1 (agAt xs a).2.1 (agAt xs b).1 (agAt xs b).2.1==2
 ·exact⟨ha,hb⟩
 ·exact⟨hb,ha⟩
theorem bY(xs:List NAgent)(a:Int):(aK xs a).length=xs.length:=List.length_set
theorem tL(xs:List NAgent)(x y:Int):xs.length≤(aO xs x y).length:=by
 unfold aO iT dup3;rw[vC,fV,fV,fE,dM];omega
theorem xX(xs:List NAgent)(x y:Int):xs.length≤(aM xs x y).length:=by
 unfold aM;cases (agAt xs y).1==7
 ·rw[cond_false,fV];simp
 ·rw[cond_true,fV,fV];simp
theorem yT(xs:List NAgent)(x y:Int):xs.length≤(bE xs x y).length:=by
 unfold bE;cases (agAt xs y).1==11
 ·rw[cond_false,fV,lW];unfold aL;simp;omega
 ·rw[cond_true,fV];unfold aL;simp
def SA(us:List Value):El (hol 5):=(us.getD 0 undef,us.getD 1 undef,us.getD 2 undef,us.getD 3 undef,us.getD 4 undef)
def jm:Nat→List Value→List (El (hol 5))
 |0,_=>[]
 |n+1,us=>SA us::jm n (us.drop 5)
theorem sS:∀(n:Nat) (us:List Value),(jm n us).length=n
 |0,_=>rfl
 |n+1,us=>by unfold jm;rw[List.length_cons,sS n]
theorem xB:∀(n:Nat) (us:List Value),us.length=n*5→(jm n us).flatMap (enc (hol 5))=us.map D.v
 |0,us,h=>by
  have:us=[]:=List.length_eq_zero_iff.1 (by omega);rw[this];rfl
 |n+1,us,h=>by
  match us,h with
  |a::b::c::d::e::us,h=>
   have ih:=xB n us (by simp only[List.length_cons]at h;omega);unfold jm;rw[List.flatMap_cons];show _++(jm n us).flatMap (enc (hol 5))=_;rw[ih];rfl
  |[],h=>simp at h
  |[_],h=>simp at h;omega
  |[_,_],h=>simp at h;omega
  |[_,_,_],h=>simp at h;omega
  |[_,_,_,_],h=>simp at h;omega
theorem TN.Ju{w:World}:∀{vs us:List Value} {bs:List Nat},TN w (vs.map D.v) bs us→us=vs∧bs=[]
 |[],us,bs,h=>by obtain⟨rfl,rfl⟩:=TN.nil.1 h;exact⟨rfl,rfl⟩
 |v::vs,us,bs,h=>by
  rw[List.map_cons]at h;obtain⟨b1,b2,u,us',rfl,rfl,h1,h2⟩:=TN.cons.1 h;obtain⟨rfl,rfl,_⟩:=T1.v.1 h1;obtain⟨rfl,rfl⟩:=TN.Ju h2;exact⟨rfl,rfl⟩
theorem RY{w:World}{x:Value}{ds:List D}{bs:List Nat}{us:List Value}(h:TN w (.v x::ds) bs us):∃us',us=x::us'∧TN w ds bs us':=by
 obtain⟨b1,b2,u,us',e1,e2,h1,h2⟩:=TN.cons.1 h;obtain⟨e3,e4,_⟩:=T1.v.1 h1;exact⟨us',by rw[e1,e3],by rw[e2,e4];exact h2⟩
theorem TM{w:World}{d:D}{ds:List D}{bs:List Nat}{us:List Value}(h:TN w (d::ds) bs us):∃u us' b2,us=u::us'∧TN w ds b2 us':=by
 obtain⟨b1,b2,u,us',e1,e2,h1,h2⟩:=TN.cons.1 h;exact⟨u,us',b2,e1,h2⟩
section
variable {cx:Cx}{β:Nat→Value}{w:World}{R:List dx}
theorem Inv.Rb{g t n:Nat}{xs:List NAgent}{us:List Value}(h:Inv cx.w0 cx.F0 w (Tok.res cx β (.row g t 5 uAgent xs us)::R))(hl:us.length=xs.length*5):
  Inv cx.w0 cx.F0 w (Tok.res cx β (.row g t 5 (hol 5) (jm xs.length us) us)::Tok.res cx β (.nest n uAgent xs us)::R):=by
 refine Inv.part h fun F hp=> ?_
 obtain⟨hs,bs,us',rfl,hg,hpre⟩:=hp;have hul:us'.length=xs.length*5:=hg.row.1;have e:us=us':=hpre.eq_of_length (by omega);subst e;refine⟨xC (β g),bs,fun b hb=>by simp[hb],fun b hb=>by simp[hb],fun b hb=>hg.out b (iN.1 hb),⟨rfl,[],us,by simp,?_,pR _⟩,⟨hg.tn,hg.own⟩⟩;refine⟨?_,?_,Own.nil _ _,by simp⟩
 ·have:=hg.row;show World.ownsRow w 0 t 5 (β g) (jm xs.length us).length us;rw[sS];exact this
 ·show TN w ((jm xs.length us).flatMap (enc (hol 5))) [] us;rw[xB _ _ hl];exact TN.scalars hg.tn.A9
def oh(ys:List NAgent)(us:List Value)(j:Nat):El (hol 5):=(.int .i64 (agAt ys (j:Nat)).1,.int .i64 (agAt ys (j:Nat)).2.1,.int .i64 (agAt ys (j:Nat)).2.2.1,us.getD (j*5+3) undef,us.getD (j*5+4) undef)
theorem wN:∀{ys:List NAgent} {us:List Value} {bs:List Nat},TN w (ys.flatMap (enc uAgent)) bs us→us.length=ys.length*5∧((List.range ys.length).map (oh ys us)).flatMap (enc (hol 5))=us.map D.v
 |[],us,bs,h=>by obtain⟨rfl,rfl⟩:=TN.nil.1 h;exact⟨rfl,rfl⟩
 |y::ys,us,bs,h=>by
  rw[List.flatMap_cons]at h;obtain⟨b1,b2,u1,u2,rfl,rfl,h1,h2⟩:=TN.append.1 h;have h1':TN w [.v (.int .i64 y.1),.v (.int .i64 y.2.1),.v (.int .i64 y.2.2.1),.sl y.2.2.2.1.length (List.flatMap (enc (.int .i64)) y.2.2.2.1),.sl y.2.2.2.2.length (List.flatMap (enc uPort) y.2.2.2.2)] b1 u1:=h1;obtain⟨v1,rfl,k3⟩:=RY h1';obtain⟨v2,rfl,k4⟩:=RY k3;obtain⟨v3,rfl,k5⟩:=RY k4;obtain⟨a4,v4,b4,rfl,k6⟩:=TM k5;obtain⟨a5,v5,b5,rfl,k7⟩:=TM k6;obtain⟨rfl,rfl⟩:=TN.nil.1 k7;obtain⟨k1,k2⟩:=wN h2;refine⟨by simp only[List.length_append,List.length_cons,List.length_nil];omega,?_⟩
  rw[List.length_cons,List.range_succ_eq_map,List.map_cons,List.flatMap_cons,List.map_map]
  have e:(List.range ys.length).map (oh (y::ys) ([.int .i64 y.1,.int .i64 y.2.1,.int .i64 y.2.2.1,a4,a5]++u2)∘Nat.succ)=(List.range ys.length).map (oh ys u2):=List.map_congr_left fun j _=>by
   have e1:agAt (y::ys) ((j.succ:Nat):Int)=agAt ys (j:Nat):=by unfold agAt elt;rw[Int.toNat_natCast,Int.toNat_natCast];rfl
   have e2:∀o:Nat,([.int .i64 y.1,.int .i64 y.2.1,.int .i64 y.2.2.1,a4,a5]++u2:List Value).getD (j.succ*5+o) undef=u2.getD (j*5+o) undef:=fun o=>by
    rw[List.getD_eq_getElem?_getD,List.getElem?_append_right (by simp only[List.length_cons,List.length_nil];omega),List.getD_eq_getElem?_getD];simp only[List.length_cons,List.length_nil];rw[show j.succ*5+o-(0+1+1+1+1+1)=j*5+o by omega]
   simp only[Function.comp,oh];rw[e1,e2,e2]
  have e':(List.range ys.length).map (oh (y::ys) (Value.int .i64 y.1::Value.int .i64 y.2.1::Value.int .i64 y.2.2.1::a4::a5::[]++u2)∘Nat.succ)=(List.range ys.length).map (oh ys u2):=e;rw[e',k2,List.map_append];rfl
theorem Inv.merge{gA gB t t' n:Nat}{xs ys:List NAgent}{usA usB preA:List Value}{hs:List (El (hol 5))}(h:Inv cx.w0 cx.F0 w (Tok.res cx β (.row gA t 5 (hol 5) (jm xs.length usA++hs) preA)::Tok.res cx β (.nest n uAgent xs usA)::Tok.res cx β (.row gB t' 5 uAgent ys usB)::R))
  (hlA:usA.length=xs.length*5) (hlB:usB.length=ys.length*5) (h0:0<ys.length) (hh:hs=(List.range (ys.length-1)).map fun j=>oh ys usB (j+1)):
  Inv cx.w0 cx.F0 w (Tok.res cx β (.row gA t 5 uAgent (xs++ys.drop 1) usA)::R):=by
 have hB:=h.perm ((List.Perm.cons _ (List.Perm.swap _ _ _)).trans (List.Perm.swap _ _ _));obtain⟨F,hp,k,_⟩:=hB.take1;obtain⟨_,bs,us',rfl,hg,hpre⟩:=hp;have hul:us'.length=ys.length*5:=hg.row.1;have e:usB=us':=hpre.eq_of_length (by omega);subst e
 match ys,h0,hg,hh,hlB with
 |y::ys,h0,hg,hh,hlB=>
  have htn:TN w ((y::ys).flatMap (enc uAgent)) bs usB:=hg.tn;obtain⟨q1,q2⟩:=wN htn;rw[List.flatMap_cons]at htn;obtain⟨b1,b2,u1,u2,rfl,rfl,h1,h2⟩:=TN.append.1 htn
  have hu1:u1.length=5:=by
   have:=(wN h2).1;rw[List.length_append]at q1;simp only[List.length_cons]at q1;omega
  have hcell:hs.flatMap (enc (hol 5))=u2.map D.v:=by
   rw[List.length_cons,List.range_succ_eq_map,List.map_cons,List.flatMap_cons,List.map_map,List.map_append]at q2;have l1:(enc (hol 5) (oh (y::ys) (u1++u2) 0)).length=(u1.map D.v).length:=by rw[List.length_map,hu1];rfl
   have:=(List.append_inj q2 l1).2;rw[hh];exact this
  have hN:Inv cx.w0 cx.F0 w (dK u2 (ys.flatMap (enc uAgent))::Tok.res cx β (.row gA t 5 (hol 5) (jm xs.length usA++hs) preA)::Tok.res cx β (.nest n uAgent xs usA)::R):=k _ b2 (fun b hb=>by simp[hb]) ⟨h2,(Own.parts hg.own).2.1⟩
  have hM:Inv cx.w0 cx.F0 w (dK (usA++u2) (xs.flatMap (enc uAgent)++ys.flatMap (enc uAgent))::Tok.res cx β (.row gA t 5 (hol 5) (jm xs.length usA++hs) preA)::R):=by
   have:Inv cx.w0 cx.F0 w (dK usA (xs.flatMap (enc uAgent))::dK u2 (ys.flatMap (enc uAgent))::Tok.res cx β (.row gA t 5 (hol 5) (jm xs.length usA++hs) preA)::R):=hN.perm (by
    refine(List.Perm.cons _ (List.Perm.swap _ _ _)).trans (List.Perm.swap _ _ _))
   exact this.uw
  refine hM.swap.join fun F1 F2 hp1 hp2 hd=> ?_
  obtain⟨_,bA,uA,rfl,gA',_⟩:=hp1;have hAtn:TN w ((jm xs.length usA++hs).flatMap (enc (hol 5))) bA uA:=gA'.tn;rw[List.flatMap_append,xB _ _ hlA,hcell,←List.map_append]at hAtn;obtain⟨rfl,rfl⟩:=TN.Ju hAtn;have hhl:hs.length=ys.length:=by rw[hh,List.length_map,List.length_range];rfl
  refine⟨xC (β gA)++F2,fun b hb=>by
   rcases List.mem_append.1 hb with hb|hb
   ·exact .inl (by simp[hb])
   ·exact .inr hb,⟨rfl,F2,usA++u2,rfl,⟨?_,?_,hp2.2,fun k hk hm=>hd k (by simp[iN.2 hk]) hm⟩,List.prefix_append _ _⟩⟩
  ·have:=gA'.row;show World.ownsRow w 0 t 5 (β gA) (xs++ys).length (usA++u2);rw[show(jm xs.length usA++hs).length=(xs++ys).length by rw[List.length_append,sS,hhl,List.length_append]]at this;exact this
  ·have:=hp2.1;rw[←List.flatMap_append]at this;exact this
end
end Go.Tr
namespace Go.Tr
open Go Go.RowKit
def oM(b:Int)(t:List NAgent):Nat→List NAgent
 |0=>t
 |k+1=>(oM b t k).set (1+k) (bg b (agAt t ((1+k:Nat):Int)))
def KA(b:Int)(a:NAgent)(j:Nat):NAgent:=(a.1,a.2.1,a.2.2.1,a.2.2.2.1,bM b a.2.2.2.2 j)
def zB(b:Int)(t:List NAgent)(k j:Nat):List NAgent:=(oM b t k).set (1+k) (KA b (agAt t ((1+k:Nat):Int)) j)
section
variable {b:Int}{t:List NAgent}
theorem ow:∀k,(oM b t k).length=t.length
 |0=>rfl
 |k+1=>by unfold oM;rw[List.length_set,ow k]
theorem Jo(k j:Nat):(zB b t k j).length=t.length:=by unfold zB;rw[List.length_set,ow k]
theorem vU:∀(k i:Nat),(oM b t k)[i]? =if 1≤i∧i≤k then(t[i]?).map (bg b)else t[i]?
 |0,i=>by rw[if_neg (by omega)];rfl
 |k+1,i=>by
  unfold oM;rw[List.getElem?_set,ow,vU k i]
  by_cases h:1+k=i
  ·subst h;rw[if_pos (rfl:1+k=1+k)]
   by_cases h2:1+k<t.length
   ·rw[if_pos h2,if_pos (by omega:1≤1+k∧1+k≤k+1),List.getElem?_eq_getElem h2];show _=some (bg b _)
    congr 2
    unfold agAt elt;rw[Int.toNat_natCast,List.getD_eq_getElem?_getD,List.getElem?_eq_getElem h2];rfl
   ·rw[if_neg h2,if_pos (by omega:1≤1+k∧1+k≤k+1),List.getElem?_eq_none (by omega)];rfl
  ·rw[if_neg h]
   by_cases h2:1≤i∧i≤k
   ·rw[if_pos h2,if_pos (by omega)]
   ·rw[if_neg h2,if_neg (by omega)]
theorem uS(xs:List NAgent)(i:Nat):agAt xs (i:Nat)=(xs[i]?).getD (dflt uAgent):=by
 unfold agAt elt;rw[Int.toNat_natCast,List.getD_eq_getElem?_getD]
theorem Rl{k i:Nat}(h:k<i):agAt (oM b t k) (i:Nat)=agAt t (i:Nat):=by
 rw[uS,uS,vU,if_neg (by omega)]
theorem MB(k i:Nat):(agAt (oM b t k) (i:Nat)).1=(agAt t (i:Nat)).1∧(agAt (oM b t k) (i:Nat)).2.1=(agAt t (i:Nat)).2.1∧(agAt (oM b t k) (i:Nat)).2.2.1=(agAt t (i:Nat)).2.2.1:=by
 rw[uS,uS,vU];split
 ·cases t[i]? <;>exact⟨rfl,rfl,rfl⟩
 ·exact⟨rfl,rfl,rfl⟩
theorem KC(k:Nat)(us:List Value)(i:Nat):oh (oM b t k) us i=oh t us i:=by
 obtain⟨h1,h2,h3⟩:=MB (b:=b) (t:=t) k i;unfold oh;rw[h1,h2,h3]
theorem Mv{k j:Nat}(h:1+k<t.length):agAt (zB b t k j) ((1+k:Nat):Int)=KA b (agAt t ((1+k:Nat):Int)) j:=by
 unfold zB;rw[ji,if_pos ⟨by rw[Int.toNat_natCast],by rw[ow];exact h⟩]
theorem Mx(k:Nat):zB b t k 0=oM b t k:=by
 unfold zB;apply List.ext_getElem?;intro i;rw[List.getElem?_set,ow]
 by_cases h:1+k=i
 ·subst h;rw[if_pos (rfl:1+k=1+k),vU,if_neg (by omega:¬(1≤1+k∧1+k≤k))]
  by_cases h2:1+k<t.length
  ·rw[if_pos h2,List.getElem?_eq_getElem h2]
   congr 1
   rw[uS,List.getElem?_eq_getElem h2];unfold KA bM;simp
  ·rw[if_neg h2,List.getElem?_eq_none (by omega)]
 ·rw[if_neg h]
theorem OZ(k:Nat):zB b t k (agAt t ((1+k:Nat):Int)).2.2.2.2.length=oM b t (k+1):=by
 show(oM b t k).set (1+k) (KA b (agAt t ((1+k:Nat):Int)) (agAt t ((1+k:Nat):Int)).2.2.2.2.length)=(oM b t k).set (1+k) (bg b (agAt t ((1+k:Nat):Int)))
 congr 1
 unfold KA bg;rw[pI]
theorem Mw{k j:Nat}(h:1+k<t.length)(hj:j<(agAt t ((1+k:Nat):Int)).2.2.2.2.length){z:Int}(hz:z=(elt (dflt uPort) (agAt t ((1+k:Nat):Int)).2.2.2.2 (j:Nat)).1+b):
  (zB b t k j).set (1+k) ((agAt (zB b t k j) ((1+k:Nat):Int)).1,(agAt (zB b t k j) ((1+k:Nat):Int)).2.1,(agAt (zB b t k j) ((1+k:Nat):Int)).2.2.1,(agAt (zB b t k j) ((1+k:Nat):Int)).2.2.2.1,(agAt (zB b t k j) ((1+k:Nat):Int)).2.2.2.2.set j (z,(elt (dflt uPort) (agAt (zB b t k j) ((1+k:Nat):Int)).2.2.2.2 (j:Nat)).2))=zB b t k (j+1):=by
 rw[Mv h];unfold zB;rw[List.set_set]
 congr 1
 unfold KA;rw[nL hj,pJ hj,hz]
theorem Rk{k j:Nat}(h:1+k<t.length)(hj:j<(agAt t ((1+k:Nat):Int)).2.2.2.2.length):elt (dflt uPort) (agAt (zB b t k j) ((1+k:Nat):Int)).2.2.2.2 (j:Nat)=elt (dflt uPort) (agAt t ((1+k:Nat):Int)).2.2.2.2 (j:Nat):=by
 rw[Mv h];exact pJ hj
theorem MC:(oM b t (t.length-1)).drop 1=(t.drop 1).map (bg b):=by
 apply List.ext_getElem?;intro i;rw[List.getElem?_drop,List.getElem?_map,List.getElem?_drop,vU]
 by_cases h:1+i<t.length
 ·rw[if_pos (by omega)]
 ·rw[List.getElem?_eq_none (by omega:t.length≤1+i)];split<;>rfl
def GD(t:List NAgent)(us:List Value)(k:Nat):List (El (hol 5)):=(List.range k).map fun j=>oh t us (j+1)
theorem LM(us:List Value)(k:Nat):GD t us (k+1)=GD t us k++[oh t us (1+k)]:=by
 unfold GD;rw[List.range_succ,List.map_append,Nat.add_comm 1 k];rfl
theorem OH(us:List Value)(k:Nat):(GD t us k).length=k:=by unfold GD;simp
theorem OG{us:List Value}(k:Nat):GD t us k=(List.range k).map fun j=>oh (oM b t k) us (j+1):=by
 unfold GD;exact List.map_congr_left fun j _=>(KC _ _ _).symm
end
end Go.Tr
namespace Go.Tr
open Go Go.RowKit
def Wired(L:NPort→Prop)(xs:List NAgent):Prop:=∀p,L p→PortIn xs p∧L (peerN xs p)∧peerN xs (peerN xs p)=p∧peerN xs p≠p
theorem Wired.congr{L M:NPort→Prop}{xs:List NAgent}(h:Wired L xs)(e:∀p,M p↔L p):Wired M xs:=fun p hp=>by
 obtain⟨h1,h2,h3⟩:=h p ((e p).1 hp);exact⟨h1,(e _).2 h2,h3⟩
theorem Wired.cut{L:NPort→Prop}{xs:List NAgent}(h:Wired L xs){a:NPort}(ha:L a):Wired (fun p=>L p∧p≠a∧p≠peerN xs a) xs:=fun p ⟨hp,h1,h2⟩=>by
 obtain⟨k1,k2,k3,k4⟩:=h p hp;refine⟨k1,⟨k2,fun e=>h2 (by rw[←e,k3]),fun e=>h1 ?_⟩,k3,k4⟩;have:=congrArg (peerN xs) e;rw[k3,(h a ha).2.2.1]at this;exact this
theorem bS{p q:NPort}(h1:p.1=q.1)(h2:p.2=q.2):p=q:=by cases p;cases q;simp_all
theorem Wired.link{L:NPort→Prop}{xs:List NAgent}(h:Wired L xs){p q:NPort}(hp:PortIn xs p)(hq:PortIn xs q)(np:¬L p)(nq:¬L q)(hpq:p≠q):Wired (fun r=>L r∨r=p∨r=q) (aR xs p q):=fun r hr=>by
 have key:∀s,L s→PortIn xs s∧s≠p∧s≠q:=fun s hs=>⟨(h s hs).1,fun e=>np (e▸hs),fun e=>nq (e▸hs)⟩
 rcases hr with hr|rfl|rfl
 ·obtain⟨h1,h2,h3,h5⟩:=h r hr;obtain⟨_,n1,n2⟩:=key r hr;obtain⟨h4,n3,n4⟩:=key _ h2;have e1:peerN (aR xs p q) r=peerN xs r:=by rw[gJ hp hq h1,if_neg n2.symm,if_neg n1.symm]
  refine⟨h1.link,?_,?_,?_⟩
  ·rw[e1];exact .inl h2
  ·rw[e1,gJ hp hq h4,if_neg n4.symm,if_neg n3.symm,h3]
  ·rw[e1];exact h5
 ·have e1:peerN (aR xs r q) r=q:=by rw[gJ hp hq hp,if_neg hpq.symm,if_pos rfl]
  have e2:peerN (aR xs r q) q=r:=by rw[gJ hp hq hq,if_pos rfl]
  exact⟨hp.link,by rw[e1];exact .inr (.inr rfl),by rw[e1,e2],by rw[e1];exact hpq.symm⟩
 ·have e1:peerN (aR xs p r) r=p:=by rw[gJ hp hq hq,if_pos rfl]
  have e2:peerN (aR xs p r) p=r:=by rw[gJ hp hq hp,if_neg hpq.symm,if_pos rfl]
  exact⟨hq.link,by rw[e1];exact .inr (.inl rfl),by rw[e1,e2],by rw[e1];exact hpq⟩
theorem Wired.move{L:NPort→Prop}{xs:List NAgent}(h:Wired L xs){old now:NPort}(ho:L old)(hn:PortIn xs now)(nn:¬L now):Wired (fun r=>(L r∧r≠old)∨r=now) (bG xs old now):=by
 obtain⟨h1,h2,h3,h4⟩:=h old ho;have hne:peerN xs old≠now:=fun e=>nn (e▸h2)
 have:=(h.cut ho).link (p:=peerN xs old) (q:=now) (h _ h2).1 hn (fun e=>e.2.2 rfl) (fun e=>nn e.1) hne;refine this.congr fun r=> ?_
 constructor
 ·rintro(⟨k1,k2⟩|rfl)
  ·by_cases e:r=peerN xs old
   ·exact .inr (.inl e)
   ·exact .inl ⟨k1,k2,e⟩
  ·exact .inr (.inr rfl)
 ·rintro(⟨k1,k2,k3⟩|rfl|rfl)
  ·exact .inl ⟨k1,k2⟩
  ·exact .inl ⟨h2,h4⟩
  ·exact .inr rfl
theorem Wired.join{L:NPort→Prop}{xs:List NAgent}(h:Wired L xs){x y:NPort}(hx:L x)(hy:L y)(hxy:x≠y):Wired (fun r=>L r∧r≠x∧r≠y) (aB xs x y):=by
 obtain⟨h1,h2,h3,h4⟩:=h x hx;obtain⟨k1,k2,k3,k4⟩:=h y hy;unfold aB
 by_cases e:peerN xs x=y
 ·rw[show((peerN xs x).1==y.1&&(peerN xs x).2==y.2)=true by rw[e];simp];refine(h.cut hx).congr fun r=> ?_
  rw[e]
 ·rw[show((peerN xs x).1==y.1&&(peerN xs x).2==y.2)=false by
   cases hb:((peerN xs x).1==y.1&&(peerN xs x).2==y.2)with
   |false=>rfl
   |true=>
    simp only[Bool.and_eq_true,beq_iff_eq]at hb;exact absurd (bS hb.1 hb.2) e]
  rw[cond_false];have hyx:peerN xs y≠x:=fun h=>e (by rw[←h,k3])
  have hpp:peerN xs x≠peerN xs y:=fun h=>hxy (by rw[←h3,h,k3])
  have c1:=h.cut hx;have hy':L y∧y≠x∧y≠peerN xs x:=⟨hy,hxy.symm,fun h=>e h.symm⟩;have c2:=c1.cut (a:=y) hy';have:=c2.link (p:=peerN xs x) (q:=peerN xs y) (h _ h2).1 (h _ k2).1 (fun h=>h.1.2.2 rfl) (fun h=>h.2.2 rfl) hpp;refine this.congr fun r=> ?_
  constructor
  ·rintro⟨q1,q2,q3⟩
   by_cases e1:r=peerN xs x
   ·exact .inr (.inl e1)
   by_cases e2:r=peerN xs y
   ·exact .inr (.inr e2)
   ·exact .inl ⟨⟨q1,q2,e1⟩,q3,e2⟩
  ·rintro(⟨⟨q1,q2,q3⟩,q4,q5⟩|rfl|rfl)
   ·exact⟨q1,q2,q4⟩
   ·exact⟨h2,h4,e⟩
   ·exact⟨k2,hyx,k4⟩
theorem Wired.app{L:NPort→Prop}{xs:List NAgent}(h:Wired L xs)(zs:List NAgent):Wired L (xs++zs):=fun p hp=>by
 obtain⟨h1,h2,h3,h4⟩:=h p hp;have lt:∀{q:NPort},PortIn xs q→q.1.toNat<xs.length:=fun {q} hq=>by have:=hq.1;have:=hq.2.1;omega
 have e1:=kL (ys:=zs) (lt h1);exact⟨h1.app,by rw[e1];exact h2,by rw[e1,kL (lt (h _ h2).1),h3],by rw[e1];exact h4⟩
def Agree(D:Int→Prop)(xs ys:List NAgent):Prop:=xs.length=ys.length∧∀i:Int,0≤i→i<(xs.length:Nat)→¬D i→agAt xs i=agAt ys i
theorem Agree.port{D:Int→Prop}{xs ys:List NAgent}(h:Agree D xs ys){p:NPort}(hp:PortIn xs p)(hd:¬D p.1):PortIn ys p∧peerN ys p=peerN xs p:=by
 obtain⟨p1,p2,p3,p4⟩:=hp;have e:=h.2 p.1 p1 p2 hd;exact⟨⟨p1,by rw[←h.1];exact p2,p3,by rw[←e];exact p4⟩,by unfold peerN;rw[e]⟩
theorem Agree.setPort{D:Int→Prop}{xs ys:List NAgent}(h:Agree D xs ys){p:NPort}(q:NPort)(hp:PortIn xs p)(hd:¬D p.1):Agree D (ay xs p q) (ay ys p q):=by
 refine⟨by rw[bn,bn];exact h.1,fun i h0 h1 hi=> ?_⟩;rw[bn]at h1;rw[bW,bW,h.2 p.1 hp.1 hp.2.1 hd,h.2 i h0 h1 hi,h.1]
theorem Agree.link{D:Int→Prop}{xs ys:List NAgent}(h:Agree D xs ys){p q:NPort}(hp:PortIn xs p)(hq:PortIn xs q)(dp:¬D p.1)(dq:¬D q.1):Agree D (aR xs p q) (aR ys p q):=(h.setPort q hp dp).setPort p hq.set dq
theorem Agree.app{D:Int→Prop}{xs ys:List NAgent}(h:Agree D xs ys)(zs:List NAgent):Agree D (xs++zs) (ys++zs):=by
 refine⟨by rw[List.length_append,List.length_append,h.1],fun i h0 h1 hi=> ?_⟩;rw[List.length_append]at h1
 by_cases hl:i<(xs.length:Nat)
 ·rw[bD (by omega),bD (by rw[←h.1];omega)];exact h.2 i h0 hl hi
 ·have:∀ws:List NAgent,ws.length=xs.length→agAt (ws++zs) i=zs.getD (i.toNat-xs.length) (dflt uAgent):=fun ws hw=>by
   unfold agAt elt;rw[List.getD_eq_getElem?_getD,List.getElem?_append_right (by omega),hw,List.getD_eq_getElem?_getD]
  rw[this xs rfl,this ys h.1.symm]
theorem Agree.mono{D E:Int→Prop}{xs ys:List NAgent}(h:Agree D xs ys)(k:∀i,D i→E i):Agree E xs ys:=⟨h.1,fun i h0 h1 hi=>h.2 i h0 h1 fun hd=>hi (k i hd)⟩
theorem Agree.drop{D:Int→Prop}{xs ys:List NAgent}(h:Agree D xs ys){a:Int}(h0:0≤a)(hd:D a):Agree D xs (aK ys a):=by
 refine⟨by unfold aK;rw[List.length_set];exact h.1,fun i i0 i1 hi=> ?_⟩;unfold aK;rw[ji,if_neg (fun e=>hi (by(have:i=a:=by omega);rw[this];exact hd))];exact h.2 i i0 i1 hi
structure qJ(D:Int→Prop)(L:NPort→Prop)(xs ys:List NAgent):Prop where
 ag:Agree D xs ys
 wi:Wired L xs
 al:∀p,L p→¬D p.1
section
variable {D:Int→Prop}{L:NPort→Prop}{xs ys:List NAgent}
theorem qJ.peer(h:qJ D L xs ys){p:NPort}(hp:L p):peerN ys p=peerN xs p:=(h.ag.port (h.wi p hp).1 (h.al p hp)).2
theorem qJ.move(h:qJ D L xs ys){old now:NPort}(ho:L old)(hn:PortIn xs now)(nn:¬L now)(dn:¬D now.1):qJ D (fun r=>(L r∧r≠old)∨r=now) (bG xs old now) (bG ys old now):=by
 refine⟨?_,h.wi.move ho hn nn,fun p hp=> ?_⟩
 ·unfold bG;rw[h.peer ho];exact h.ag.link (h.wi _ (h.wi _ ho).2.1).1 hn (h.al _ (h.wi _ ho).2.1) dn
 ·rcases hp with hp|rfl
  ·exact h.al p hp.1
  ·exact dn
theorem qJ.join(h:qJ D L xs ys){x y:NPort}(hx:L x)(hy:L y)(hxy:x≠y):qJ D (fun r=>L r∧r≠x∧r≠y) (aB xs x y) (aB ys x y):=by
 refine⟨?_,h.wi.join hx hy hxy,fun p hp=>h.al p hp.1⟩;unfold aB;rw[h.peer hx,h.peer hy];cases ((peerN xs x).1==y.1&&(peerN xs x).2==y.2)with
 |true=>exact h.ag
 |false=>exact h.ag.link (h.wi _ (h.wi _ hx).2.1).1 (h.wi _ (h.wi _ hy).2.1).1 (h.al _ (h.wi _ hx).2.1) (h.al _ (h.wi _ hy).2.1)
theorem qJ.link(h:qJ D L xs ys){p q:NPort}(hp:PortIn xs p)(hq:PortIn xs q)(np:¬L p)(nq:¬L q)(hpq:p≠q)(dp:¬D p.1)(dq:¬D q.1):qJ D (fun r=>L r∨r=p∨r=q) (aR xs p q) (aR ys p q):=by
 refine⟨h.ag.link hp hq dp dq,h.wi.link hp hq np nq hpq,fun r hr=> ?_⟩;rcases hr with hr|rfl|rfl
 ·exact h.al r hr
 ·exact dp
 ·exact dq
theorem qJ.app(h:qJ D L xs ys)(zs:List NAgent):qJ D L (xs++zs) (ys++zs):=⟨h.ag.app zs,h.wi.app zs,h.al⟩
theorem qJ.congr(h:qJ D L xs ys){M:NPort→Prop}(e:∀p,M p↔L p):qJ D M xs ys:=⟨h.ag,h.wi.congr e,fun p hp=>h.al p ((e p).1 hp)⟩
theorem qJ.cut(h:qJ D L xs ys){a:NPort}(ha:L a):qJ D (fun p=>L p∧p≠a∧p≠peerN xs a) xs ys:=⟨h.ag,h.wi.cut ha,fun p hp=>h.al p hp.1⟩
theorem qJ.gone(h:qJ D L xs ys)(a:Int)(h0:0≤a)(ha:∀p,L p→p.1≠a):qJ (fun i=>D i∨i=a) L xs (aK ys a):=
 ⟨(h.ag.mono fun i hi=>.inl hi).drop h0 (.inr rfl),h.wi,fun p hp e=>e.elim (h.al p hp) (ha p hp)⟩
end
end Go.Tr
namespace Go.Tr
open Go Go.RowKit
def Live(D:Int→Prop)(xs:List NAgent):NPort→Prop:=fun p=>PortIn xs p∧¬D p.1
def St(D:Int→Prop)(xs ys:List NAgent):Prop:=qJ D (Live D xs) xs ys
theorem PortIn.fU{xs:List NAgent}{p q r:NPort}:PortIn (aR xs p q) r↔PortIn xs r:=⟨PortIn.unlink,PortIn.link⟩
theorem PortIn.fZ{xs:List NAgent}{p q r:NPort}:PortIn (bG xs p q) r↔PortIn xs r:=PortIn.fU
theorem PortIn.Fg{xs:List NAgent}{p q r:NPort}:PortIn (aB xs p q) r↔PortIn xs r:=by
 unfold aB;cases ((peerN xs p).1==q.1&&(peerN xs p).2==q.2)with
 |true=>exact Iff.rfl
 |false=>exact PortIn.fU
theorem PortIn.bN{xs:List NAgent}{a:NAgent}{r:NPort}:PortIn (xs++[a]) r↔PortIn xs r∨(r.1=(xs.length:Nat)∧0≤r.2∧r.2<(a.ports.length:Nat)):=by
 constructor
 ·rintro⟨h1,h2,h3,h4⟩;rw[List.length_append,List.length_singleton]at h2
  by_cases hl:r.1.toNat<xs.length
  ·rw[bD hl]at h4;exact .inl ⟨h1,by omega,h3,h4⟩
  ·have e:r.1.toNat=xs.length:=by omega
   rw[mF e]at h4;exact .inr ⟨by omega,h3,h4⟩
 ·rintro(h|⟨h1,h2,h3⟩)
  ·exact h.app
  ·refine⟨by omega,by rw[List.length_append,List.length_singleton];omega,h2,?_⟩;rw[mF (by omega)];exact h3
structure jO(D:Int→Prop)(xs:List NAgent)(x y:Int):Prop where
 ne:x≠y
 lx:¬D x
 ly:¬D y
 px:PortIn xs (x,0)
 py:PortIn xs (y,0)
 w:peerN xs (x,0)=(y,0)
section
variable {D:Int→Prop}{xs ys:List NAgent}{x y:Int}
theorem St.open_(h:St D xs ys)(k:jO D xs x y):qJ D (fun p=>(PortIn xs p∧¬D p.1)∧p≠(x,0)∧p≠(y,0)) xs ys:=by
 have:=h.cut (a:=(x,0)) ⟨k.px,k.lx⟩;rw[k.w]at this;exact this
theorem bJ{a b s t:Int}(h:a≠b∨s≠t):((a,s):NPort)≠(b,t):=fun e=>by
 injection e with e1 e2
 rcases h with h|h
 ·exact h e1
 ·exact h e2
theorem St.joins(h:St D xs ys)(k:jO D xs x y)(hx:(agAt xs x).2.2.2.2.length=3)(hy:(agAt xs y).2.2.2.2.length=3):
  St (fun i=>D i∨i=x∨i=y) (aB (aB xs (x,1) (y,1)) (x,2) (y,2)) (aK (aK (aB (aB ys (x,1) (y,1)) (x,2) (y,2)) x) y):=by
 have inx:∀s:Int,0≤s→s<3→PortIn xs (x,s):=fun s h0 h1=>⟨k.px.1,k.px.2.1,h0,by show s<((agAt xs x).2.2.2.2.length:Nat);omega⟩
 have iny:∀s:Int,0≤s→s<3→PortIn xs (y,s):=fun s h0 h1=>⟨k.py.1,k.py.2.1,h0,by show s<((agAt xs y).2.2.2.2.length:Nat);omega⟩
 have s0:=h.open_ k;have s1:=s0.join (x:=(x,1)) (y:=(y,1)) ⟨⟨inx 1 (by decide) (by decide),k.lx⟩,bJ (.inr (by decide)),bJ (.inl k.ne)⟩ ⟨⟨iny 1 (by decide) (by decide),k.ly⟩,bJ (.inl k.ne.symm),bJ (.inr (by decide))⟩ (bJ (.inl k.ne));have s2:=s1.join (x:=(x,2)) (y:=(y,2)) ⟨⟨⟨inx 2 (by decide) (by decide),k.lx⟩,bJ (.inr (by decide)),bJ (.inl k.ne)⟩,bJ (.inr (by decide)),bJ (.inl k.ne)⟩ ⟨⟨⟨iny 2 (by decide) (by decide),k.ly⟩,bJ (.inl k.ne.symm),bJ (.inr (by decide))⟩,bJ (.inl k.ne.symm),bJ (.inr (by decide))⟩ (bJ (.inl k.ne))
 have key:∀p:NPort,Live (fun i=>D i∨i=x∨i=y) (aB (aB xs (x,1) (y,1)) (x,2) (y,2)) p↔((((PortIn xs p∧¬D p.1)∧p≠(x,0)∧p≠(y,0))∧p≠(x,1)∧p≠(y,1))∧p≠(x,2)∧p≠(y,2)):=fun p=>by
  unfold Live;rw[PortIn.Fg,PortIn.Fg];constructor
  ·rintro⟨h1,h2⟩;have h3:p.1≠x:=fun e=>h2 (.inr (.inl e))
   have h4:p.1≠y:=fun e=>h2 (.inr (.inr e))
   have nx:∀s,p≠(x,s):=fun s e=>h3 (by rw[e])
   have ny:∀s,p≠(y,s):=fun s e=>h4 (by rw[e])
   exact⟨⟨⟨⟨h1,fun e=>h2 (.inl e)⟩,nx 0,ny 0⟩,nx 1,ny 1⟩,nx 2,ny 2⟩
  ·rintro⟨⟨⟨⟨h1,h2⟩,x0,y0⟩,x1,y1⟩,x2,y2⟩;refine⟨h1,fun e=> ?_⟩;obtain⟨q1,q2,q3,q4⟩:=h1;rcases e with e|e|e
   ·exact h2 e
   ·rw[e]at q4;have q5:p.2<3:=by(have:p.2<((agAt xs x).2.2.2.2.length:Nat):=q4);omega
    have:p.2=0∨p.2=1∨p.2=2:=by omega
    rcases this with e2|e2|e2
    ·exact x0 (bS e e2)
    ·exact x1 (bS e e2)
    ·exact x2 (bS e e2)
   ·rw[e]at q4;have q5:p.2<3:=by(have:p.2<((agAt xs y).2.2.2.2.length:Nat):=q4);omega
    have:p.2=0∨p.2=1∨p.2=2:=by omega
    rcases this with e2|e2|e2
    ·exact y0 (bS e e2)
    ·exact y1 (bS e e2)
    ·exact y2 (bS e e2)
 have s3:=s2.congr key;have s4:=(s3.gone x k.px.1 fun p hp e=>hp.2 (.inr (.inl e))).gone y k.py.1 fun p hp e=>hp.2 (.inr (.inr e))
 exact⟨s4.ag.mono fun i hi=>by rcases hi with(hi|hi)|hi<;>simp_all,s4.wi,fun p hp=>hp.2⟩
end
end Go.Tr
namespace Go.Tr
open Go Go.RowKit
def SX(D:Int→Prop)(X:NPort→Prop)(xs ys:List NAgent):Prop:=qJ D (fun p=>(PortIn xs p∧¬D p.1)∧¬X p) xs ys
section
variable {D:Int→Prop}{X Y:NPort→Prop}{xs ys:List NAgent}
theorem SX.congr(h:SX D X xs ys)(e:∀p,PortIn xs p→¬D p.1→(Y p↔X p)):SX D Y xs ys:=qJ.congr h fun p=>by
 constructor
 ·rintro⟨⟨h1,h2⟩,h3⟩;exact⟨⟨h1,h2⟩,fun h4=>h3 ((e p h1 h2).2 h4)⟩
 ·rintro⟨⟨h1,h2⟩,h3⟩;exact⟨⟨h1,h2⟩,fun h4=>h3 ((e p h1 h2).1 h4)⟩
theorem SX.add(h:SX D X xs ys)(a:NAgent):SX D (fun p=>X p∨p.1=(xs.length:Nat)) (xs++[a]) (ys++[a]):=qJ.congr (qJ.app h [a]) fun p=>by
 rw[PortIn.bN];constructor
 ·rintro⟨⟨h1,h2⟩,h3⟩;rcases h1 with h1|h1
  ·exact⟨⟨h1,h2⟩,fun h4=>h3 (.inl h4)⟩
  ·exact absurd (.inr h1.1) h3
 ·rintro⟨⟨h1,h2⟩,h3⟩;refine⟨⟨.inl h1,h2⟩,fun h4=> ?_⟩;rcases h4 with h4|h4
  ·exact h3 h4
  ·have:=h1.2.1;omega
theorem SX.move(h:SX D X xs ys){old now:NPort}(ho:PortIn xs old)(od:¬D old.1)(ox:¬X old)(hn:PortIn xs now)(nd:¬D now.1)(nx:X now):SX D (fun p=>(X p∨p=old)∧p≠now) (bG xs old now) (bG ys old now):=by
 refine qJ.congr (qJ.move h (old:=old) (now:=now) ⟨⟨ho,od⟩,ox⟩ hn (fun k=>k.2 nx) nd) fun p=> ?_
 rw[PortIn.fZ];constructor
 ·rintro⟨⟨h1,h2⟩,h3⟩
  by_cases e:p=now
  ·exact .inr e
  ·exact .inl ⟨⟨⟨h1,h2⟩,fun k=>h3 ⟨.inl k,e⟩⟩,fun k=>h3 ⟨.inr k,e⟩⟩
 ·rintro(⟨⟨⟨h1,h2⟩,h3⟩,h4⟩|rfl)
  ·exact⟨⟨h1,h2⟩,fun k=>k.1.elim h3 h4⟩
  ·exact⟨⟨hn,nd⟩,fun k=>k.2 rfl⟩
theorem SX.link(h:SX D X xs ys){p q:NPort}(hp:PortIn xs p)(pd:¬D p.1)(px:X p)(hq:PortIn xs q)(qd:¬D q.1)(qx:X q)(hpq:p≠q):SX D (fun r=>X r∧r≠p∧r≠q) (aR xs p q) (aR ys p q):=by
 refine qJ.congr (qJ.link h hp hq (fun k=>k.2 px) (fun k=>k.2 qx) hpq pd qd) fun r=> ?_
 rw[PortIn.fU];constructor
 ·rintro⟨⟨h1,h2⟩,h3⟩
  by_cases e1:r=p
  ·exact .inr (.inl e1)
  by_cases e2:r=q
  ·exact .inr (.inr e2)
  ·exact .inl ⟨⟨h1,h2⟩,fun k=>h3 ⟨k,e1,e2⟩⟩
 ·rintro(⟨⟨h1,h2⟩,h3⟩|rfl|rfl)
  ·exact⟨⟨h1,h2⟩,fun k=>h3 k.1⟩
  ·exact⟨⟨hp,pd⟩,fun k=>k.2.1 rfl⟩
  ·exact⟨⟨hq,qd⟩,fun k=>k.2.2 rfl⟩
theorem SX.start{x y:Int}(h:St D xs ys)(k:jO D xs x y):SX D (fun p=>p=(x,0)∨p=(y,0)) xs ys:=qJ.congr (h.open_ k) fun p=>by
 constructor
 ·rintro⟨h1,h3⟩;exact⟨h1,fun e=>h3 (.inl e),fun e=>h3 (.inr e)⟩
 ·rintro⟨h1,h2,h3⟩;exact⟨h1,fun e=>e.elim h2 h3⟩
theorem SX.Kh{x y:Int}(h:SX D X xs ys)(x0:0≤x)(y0:0≤y)(e:∀p,PortIn xs p→¬D p.1→(X p↔p.1=x∨p.1=y)):St (fun i=>D i∨i=x∨i=y) xs (aK (aK ys x) y):=by
 have s3:qJ D (Live (fun i=>D i∨i=x∨i=y) xs) xs ys:=qJ.congr h fun p=>by
  unfold Live;constructor
  ·rintro⟨h1,h2⟩;have h3:¬D p.1:=fun k=>h2 (.inl k)
   exact⟨⟨h1,h3⟩,fun k=>h2 (.inr ((e p h1 h3).1 k))⟩
  ·rintro⟨⟨h1,h2⟩,h3⟩;exact⟨h1,fun k=>k.elim h2 fun k=>h3 ((e p h1 h2).2 k)⟩
 have s4:=(s3.gone x x0 fun p hp e=>hp.2 (.inr (.inl e))).gone y y0 fun p hp e=>hp.2 (.inr (.inr e))
 exact⟨s4.ag.mono fun i hi=>by rcases hi with(hi|hi)|hi<;>simp_all,s4.wi,fun p hp=>hp.2⟩
theorem SX.Uo{x:Int}(h:SX D X xs ys)(x0:0≤x)(e:∀p,PortIn xs p→¬D p.1→(X p↔p.1=x)):St (fun i=>D i∨i=x) xs (aK ys x):=by
 have s3:qJ D (Live (fun i=>D i∨i=x) xs) xs ys:=qJ.congr h fun p=>by
  unfold Live;constructor
  ·rintro⟨h1,h2⟩;have h3:¬D p.1:=fun k=>h2 (.inl k)
   exact⟨⟨h1,h3⟩,fun k=>h2 (.inr ((e p h1 h3).1 k))⟩
  ·rintro⟨⟨h1,h2⟩,h3⟩;exact⟨h1,fun k=>k.elim h2 fun k=>h3 ((e p h1 h2).2 k)⟩
 have s4:=s3.gone x x0 fun p hp e=>hp.2 (.inr e)
 exact⟨s4.ag,s4.wi,fun p hp=>hp.2⟩
theorem SX.len(h:SX D X xs ys):xs.length=ys.length:=h.ag.1
theorem SX.at_(h:SX D X xs ys){i:Int}(h0:0≤i)(h1:i<(xs.length:Nat))(hd:¬D i):agAt ys i=agAt xs i:=(h.ag.2 i h0 h1 hd).symm
theorem ES{y:Int}{p:NPort}(hlt:p.1.toNat<xs.length):∀{k:Nat},PortIn (nZ y xs k) p→PortIn xs p
 |0,h=>h
 |k+1,h=>by
  unfold nZ at h;rw[PortIn.fZ,PortIn.bN,iy]at h;rcases h with h|⟨h,_⟩
  ·exact ES hlt h
  ·omega
theorem LK{x y:Int}(h:St D xs ys)(k:jO D xs x y)(hD:∀i,D i→i<(xs.length:Nat)):∀n:Nat,n≤(agAt xs y).2.2.2.2.length-1→SX D (fun p=>p=(x,0)∨(p.1=y∧p.2≤(n:Nat))) (nZ y xs n) (nZ y ys n)
 |0,_=>(SX.start h k).congr fun p hp _=>by
  constructor
  ·rintro(e|⟨e1,e2⟩)
   ·exact .inl e
   ·exact .inr (bS e1 (by have:=hp.2.2.1;show p.2=0;omega))
  ·rintro(e|e)
   ·exact .inl e
   ·exact .inr (by rw[e];exact⟨rfl,Int.le_refl _⟩)
 |n+1,hn=>by
  have ih:=LK h k hD n (by omega);have hl:(nZ y xs n).length=xs.length+n:=iy y xs n;have hyl:=k.py.2.1;have hy0:=k.py.1;have hpy:PortIn xs (y,((n+1:Nat):Int)):=⟨hy0,hyl,by omega,by show((n+1:Nat):Int)<((agAt xs y).2.2.2.2.length:Nat);omega⟩;have hin:=lu (y:=y) hpy n;have s1:=ih.add (aJ 5 0 0 [] 1);have hnew:PortIn (nZ y xs n++[aJ 5 0 0 [] 1]) (((xs.length+n:Nat):Int),0):=PortIn.bN.2 (.inr ⟨by rw[hl],Int.le_refl _,show(0:Int)<1 by decide⟩)
  have s2:=s1.move (old:=(y,((n+1:Nat):Int))) (now:=(((xs.length+n:Nat):Int),0)) hin.app k.ly (by
   rintro((e|⟨_,e⟩)|e)
   ·exact bJ (.inl k.ne.symm) e
   ·have:((n+1:Nat):Int)≤(n:Nat):=e;omega
   ·have:y=((nZ y xs n).length:Nat):=e;rw[hl]at this;omega) hnew (fun e=>by have:=hD _ e;show False;have h2:((xs.length+n:Nat):Int)<(xs.length:Nat):=this;omega) (.inr (by rw[hl]))
  have hyx:(nZ y ys n++[aJ 5 0 0 [] 1])=nZ y ys n++[aJ 5 0 0 [] 1]:=rfl
  have s3:SX D (fun p=>p=(x,0)∨(p.1=y∧p.2≤((n+1:Nat):Int))) (bG (nZ y xs n++[aJ 5 0 0 [] 1]) (y,((n+1:Nat):Int)) (((xs.length+n:Nat):Int),0)) (bG (nZ y ys n++[aJ 5 0 0 [] 1]) (y,((n+1:Nat):Int)) (((xs.length+n:Nat):Int),0)):=s2.congr fun p hp _=>by
   rw[PortIn.fZ,PortIn.bN,hl]at hp;rw[hl];constructor
   ·rintro(rfl|⟨e1,e2⟩)
    ·refine⟨.inl (.inl (.inl rfl)),bJ (.inl ?_)⟩;have:=k.px.2.1;show x≠((xs.length+n:Nat):Int);have h2:x<(xs.length:Nat):=this;omega
    ·refine⟨?_,fun e=> ?_⟩
     ·by_cases e3:p.2=((n+1:Nat):Int)
      ·exact .inr (bS e1 e3)
      ·exact .inl (.inl (.inr ⟨e1,by omega⟩))
     ·rw[e]at e1;have:((xs.length+n:Nat):Int)=y:=e1;have h2:y<(xs.length:Nat):=hyl;omega
   ·rintro⟨((e|⟨e1,e2⟩)|e)|e,e3⟩
    ·exact .inl e
    ·exact .inr ⟨e1,by omega⟩
    ·rcases hp with hp|⟨q1,q2,q3⟩
     ·have h2:=hp.2.1;rw[hl]at h2;have e':p.1=((xs.length+n:Nat):Int):=e;omega
     ·refine absurd (bS (q:=(((xs.length+n:Nat):Int),0)) e ?_) e3;have:p.2<1:=q3;show p.2=0;omega
    ·exact .inr (by rw[e];exact⟨rfl,Int.le_refl _⟩)
  show SX D _ (nZ y xs (n+1)) (nZ y ys (n+1));unfold nZ;rw[←h.ag.1];exact s3
theorem St.erase{x y:Int}(h:St D xs ys)(k:jO D xs x y)(hD:∀i,D i→i<(xs.length:Nat))(hx:(agAt xs x).2.2.2.2.length=1):St (fun i=>D i∨i=x∨i=y) (dZ xs y) (aK (aK (dZ ys y) x) y):=by
 have e:agAt ys y=agAt xs y:=(h.ag.2 y k.py.1 k.py.2.1 k.ly).symm;unfold dZ;rw[e];have s:=LK h k hD ((agAt xs y).2.2.2.2.length-1) (Nat.le_refl _);refine s.Kh k.px.1 k.py.1 fun p hp _=> ?_
 have hport:p.1=x∨p.1=y→PortIn xs p:=fun hc=>by
  have hlt:p.1.toNat<xs.length:=by
   have h1:=k.px.2.1;have h2:=k.py.2.1;have h3:=k.px.1;have h4:=k.py.1
   have g1:x<(xs.length:Nat):=h1;have g2:y<(xs.length:Nat):=h2;have g3:0≤x:=h3;have g4:0≤y:=h4;rcases hc with hc|hc<;>omega
  exact ES hlt hp
 constructor
 ·rintro(rfl|⟨e1,_⟩)
  ·exact .inl rfl
  ·exact .inr e1
 ·intro hc;obtain⟨q1,q2,q3,q4⟩:=hport hc;rcases hc with hc|hc
  ·rw[hc]at q4;have:p.2<((agAt xs x).2.2.2.2.length:Nat):=q4;exact .inl (bS hc (by show p.2=0;omega))
  ·rw[hc]at q4;have:p.2<((agAt xs y).2.2.2.2.length:Nat):=q4;exact .inr ⟨hc,by omega⟩
theorem zu{p:NPort}(h:PortIn xs p):p.1.toNat<xs.length:=by have:=h.1;have:=h.2.1;omega
theorem St.operate{x y:Int}(h:St D xs ys)(k:jO D xs x y)(hD:∀i,D i→i<(xs.length:Nat))(hx:(agAt xs x).2.2.2.2.length=1)(h7:(agAt xs y).1=7→(agAt xs y).2.2.2.2.length=3)(h8:(agAt xs y).1≠7→(agAt xs y).2.2.2.2.length=2):
  St (fun i=>D i∨i=x∨i=y) (aM xs x y) (aK (aK (aM ys x y) x) y):=by
 have ey:agAt ys y=agAt xs y:=(h.ag.2 y k.py.1 k.py.2.1 k.ly).symm;have ex:agAt ys x=agAt xs x:=(h.ag.2 x k.px.1 k.px.2.1 k.lx).symm;have hn:¬D (xs.length:Nat):=fun e=>by have:=hD _ e;omega
 have xl:x<(xs.length:Nat):=k.px.2.1;have yl:y<(xs.length:Nat):=k.py.2.1;have iny:∀s:Int,0≤s→s<((agAt xs y).2.2.2.2.length:Nat)→PortIn xs (y,s):=fun s h0 h1=>⟨k.py.1,k.py.2.1,h0,h1⟩
 have fin:∀(X:NPort→Prop) (a:NAgent) (zs:List NAgent),(∀p,PortIn zs p↔PortIn (xs++[a]) p)→(∀p,PortIn (xs++[a]) p→(X p↔(PortIn xs p∧(p.1=x∨p.1=y))))→∀p,PortIn zs p→¬D p.1→(X p↔p.1=x∨p.1=y):=fun X a zs hz hX p hp _=>by
  rw[hX p ((hz p).1 hp)];constructor
  ·exact fun e=>e.2
  ·intro e;refine⟨?_,e⟩;rcases PortIn.bN.1 ((hz p).1 hp)with q|⟨q,_⟩
   ·exact q
   ·rcases e with e|e<;>omega
 unfold aM;rw[ex,ey,←h.ag.1];cases hk:(agAt xs y).1==7 with
 |true=>
  have h3:=h7 (by simpa using hk);simp only[cond_true];have i1:=iny 1 (by decide) (by omega);have i2:=iny 2 (by decide) (by omega);have s1:=(SX.start h k).add (aJ 8 (agAt xs y).2.1 (agAt xs y).2.2.1 [(agAt xs x).2.2.1] 2);have n0:PortIn (xs++[aJ 8 (agAt xs y).2.1 (agAt xs y).2.2.1 [(agAt xs x).2.2.1] 2]) ((xs.length:Nat),0):=PortIn.bN.2 (.inr ⟨rfl,Int.le_refl _,show(0:Int)<2 by decide⟩);have n1:PortIn (xs++[aJ 8 (agAt xs y).2.1 (agAt xs y).2.2.1 [(agAt xs x).2.2.1] 2]) ((xs.length:Nat),1):=PortIn.bN.2 (.inr ⟨rfl,show(0:Int)≤1 by decide,show(1:Int)<2 by decide⟩)
  have s2:=s1.move (old:=(y,1)) (now:=((xs.length:Nat),0)) i1.app k.ly (by
   rintro((e|e)|e)
   ·exact bJ (.inl k.ne.symm) e
   ·exact bJ (.inr (by decide)) e
   ·have:y=(xs.length:Nat):=e;omega) n0 hn (.inr rfl)
  have s3:=s2.move (old:=(y,2)) (now:=((xs.length:Nat),1)) i2.app.move k.ly (by
   rintro⟨((e|e)|e)|e,_⟩
   ·exact bJ (.inl k.ne.symm) e
   ·exact bJ (.inr (by decide)) e
   ·have:y=(xs.length:Nat):=e;omega
   ·exact bJ (.inr (by decide)) e) n1.move hn ⟨.inl (.inr rfl),bJ (.inr (by decide))⟩
  refine s3.Kh k.px.1 k.py.1 (fin _ _ _ (fun p=>by rw[PortIn.fZ,PortIn.fZ]) fun p hp=> ?_)
  have hA:p.1=(xs.length:Nat)→p=(((xs.length:Nat):Int),0)∨p=(((xs.length:Nat):Int),1):=fun e=>by
   rcases PortIn.bN.1 hp with q|⟨_,q2,q3⟩
   ·have:=q.2.1;omega
   ·have:p.2<2:=q3;have:p.2=0∨p.2=1:=by omega
    rcases this with e2|e2
    ·exact .inl (bS e e2)
    ·exact .inr (bS e e2)
  constructor
  ·rintro⟨(⟨((e|e)|e)|e,e2⟩|e),e3⟩
   ·rw[e];exact⟨k.px,.inl rfl⟩
   ·rw[e];exact⟨k.py,.inr rfl⟩
   ·rcases hA e with e4|e4
    ·exact absurd e4 e2
    ·exact absurd e4 e3
   ·rw[e];exact⟨i1,.inr rfl⟩
   ·rw[e];exact⟨i2,.inr rfl⟩
  ·rintro⟨q,e⟩;have ne:∀s,p≠(((xs.length:Nat):Int),s):=fun s e2=>by have:=q.2.1;rw[e2]at this;have h3:((xs.length:Nat):Int)<(xs.length:Nat):=this;omega
   refine⟨?_,ne 1⟩;obtain⟨q1,q2,q3,q4⟩:=q;rcases e with e|e
   ·rw[e]at q4;have:p.2<((agAt xs x).2.2.2.2.length:Nat):=q4;exact .inl ⟨.inl (.inl (.inl (bS e (by show p.2=0;omega)))),ne 0⟩
   ·rw[e]at q4;have:p.2<((agAt xs y).2.2.2.2.length:Nat):=q4;have:p.2=0∨p.2=1∨p.2=2:=by omega
    rcases this with e2|e2|e2
    ·exact .inl ⟨.inl (.inl (.inr (bS e e2))),ne 0⟩
    ·exact .inl ⟨.inr (bS e e2),ne 0⟩
    ·exact .inr (bS e e2)
 |false=>
  have h3:=h8 (by simpa using hk);simp only[cond_false];have i1:=iny 1 (by decide) (by omega);generalize hv:rQ (agAt xs y).2.2.1 (fP (agAt xs y).2.2.2.1 0) (agAt xs x).2.2.1=v;have s1:=(SX.start h k).add (aJ 6 0 v [] 1);have n0:PortIn (xs++[aJ 6 0 v [] 1]) ((xs.length:Nat),0):=PortIn.bN.2 (.inr ⟨rfl,Int.le_refl _,show(0:Int)<1 by decide⟩)
  have s2:=s1.move (old:=(y,1)) (now:=((xs.length:Nat),0)) i1.app k.ly (by
   rintro((e|e)|e)
   ·exact bJ (.inl k.ne.symm) e
   ·exact bJ (.inr (by decide)) e
   ·have:y=(xs.length:Nat):=e;omega) n0 hn (.inr rfl)
  refine s2.Kh k.px.1 k.py.1 (fin _ _ _ (fun p=>by rw[PortIn.fZ]) fun p hp=> ?_)
  have hA:p.1=(xs.length:Nat)→p=(((xs.length:Nat):Int),0):=fun e=>by
   rcases PortIn.bN.1 hp with q|⟨_,q2,q3⟩
   ·have:=q.2.1;omega
   ·have:p.2<1:=q3;exact bS e (by show p.2=0;omega)
  constructor
  ·rintro⟨((e|e)|e)|e,e2⟩
   ·rw[e];exact⟨k.px,.inl rfl⟩
   ·rw[e];exact⟨k.py,.inr rfl⟩
   ·exact absurd (hA e) e2
   ·rw[e];exact⟨i1,.inr rfl⟩
  ·rintro⟨q,e⟩;have ne:∀s,p≠(((xs.length:Nat):Int),s):=fun s e2=>by have:=q.2.1;rw[e2]at this;have h3:((xs.length:Nat):Int)<(xs.length:Nat):=this;omega
   refine⟨?_,ne 0⟩;obtain⟨q1,q2,q3,q4⟩:=q;rcases e with e|e
   ·rw[e]at q4;have:p.2<((agAt xs x).2.2.2.2.length:Nat):=q4;exact .inl (.inl (.inl (bS e (by show p.2=0;omega))))
   ·rw[e]at q4;have:p.2<((agAt xs y).2.2.2.2.length:Nat):=q4;have:p.2=0∨p.2=1:=by omega
    rcases this with e2|e2
    ·exact .inl (.inl (.inr (bS e e2)))
    ·exact .inr (bS e e2)
end
end Go.Tr
namespace Go.Tr
open Go Go.RowKit
section
variable {D:Int→Prop}{xs ys:List NAgent}{x y:Int}
theorem l9(lab c d:Int)(xs:List NAgent):∀k,(aF lab c d xs k).length=xs.length+k
 |0=>rfl
 |k+1=>by unfold aF sD;rw[fT,fT,List.length_append,l9 lab c d xs k];rfl
theorem jE{lab c d:Int}{xs:List NAgent}{p:NPort}(h:PortIn xs p):∀k,PortIn (aF lab c d xs k) p
 |0=>h
 |k+1=>(jE h k).app.link.link
theorem EW{P Q:List NAgent}{lab:Int}{n m:Nat}(hn:P.length=n+2)(hx:x<(n:Nat))(hy:y<(n:Nat))(hD:∀i,D i→i<(n:Nat))(hm:∀s:Int,0≤s→s<(m:Nat)→PortIn P ((n:Nat),s)∧PortIn P ((n+1:Nat),s))
  (h:SX D (fun p=>p=(x,0)∨p=(y,0)∨p.1=(n:Nat)∨p.1=((n+1:Nat):Int)) P Q):∀k:Nat,k+1≤m→
  SX D (fun p=>p=(x,0)∨p=(y,0)∨((p.1=(n:Nat)∨p.1=((n+1:Nat):Int))∧(p.2=0∨(k:Int)<p.2))∨(((n+2:Nat):Int)≤p.1∧p.2=0)) (aF lab ((n:Nat):Int) ((n+1:Nat):Int) P k) (aF lab ((n:Nat):Int) ((n+1:Nat):Int) Q k)
 |0,_=>h.congr fun p hp _=>by
  obtain⟨q1,q2,q3,_⟩:=hp;obtain⟨a,s⟩:=p;rw[hn]at q2;simp only[Prod.mk.injEq]at*;omega
 |k+1,hk=>by
  have ih:=EW (lab:=lab) hn hx hy hD hm h k (by omega);have hl:(aF lab ((n:Nat):Int) ((n+1:Nat):Int) P k).length=n+2+k:=by rw[l9,hn]
  have hlq:(aF lab ((n:Nat):Int) ((n+1:Nat):Int) Q k).length=n+2+k:=by rw[←ih.len,hl]
  have nd:∀i:Nat,n≤i→¬D (i:Nat):=fun i hi e=>by have:=hD _ e;omega
  obtain⟨hc,hd⟩:=hm ((k+1:Nat):Int) (by omega) (by omega);have hc1:=jE (lab:=lab) (c:=((n:Nat):Int)) (d:=((n+1:Nat):Int)) hc k;have hd1:=jE (lab:=lab) (c:=((n:Nat):Int)) (d:=((n+1:Nat):Int)) hd k;generalize hA:aF lab ((n:Nat):Int) ((n+1:Nat):Int) P k=A at*;generalize hB:aF lab ((n:Nat):Int) ((n+1:Nat):Int) Q k=B at*;have s1:=ih.add (aJ 4 lab 0 [] 3);have f1:PortIn (A++[aJ 4 lab 0 [] 3]) ((A.length:Nat),1):=PortIn.bN.2 (.inr ⟨rfl,show(0:Int)≤1 by decide,show(1:Int)<3 by decide⟩)
  have f2:PortIn (A++[aJ 4 lab 0 [] 3]) ((A.length:Nat),2):=PortIn.bN.2 (.inr ⟨rfl,show(0:Int)≤2 by decide,show(2:Int)<3 by decide⟩);rw[hl]at f1 f2 s1;have s2:=s1.link (p:=((n+2+k:Nat),1)) (q:=((n:Nat),((k+1:Nat):Int))) f1 (nd _ (by omega)) (.inr rfl) hc1.app (nd _ (Nat.le_refl _)) (.inl (.inr (.inr (.inl ⟨.inl rfl,.inr (show(k:Int)<((k+1:Nat):Int) by omega)⟩)))) (bJ (.inl (by omega)))
  have s3:=s2.link (p:=((n+2+k:Nat),2)) (q:=((n+1:Nat),((k+1:Nat):Int))) f2.link (nd _ (by omega)) ⟨.inr rfl,bJ (.inr (by decide)),bJ (.inl (by omega))⟩ hd1.app.link (nd _ (by omega))
   ⟨.inl (.inr (.inr (.inl ⟨.inr rfl,.inr (show(k:Int)<((k+1:Nat):Int) by omega)⟩))),bJ (.inl (by omega)),bJ (.inl (by omega))⟩ (bJ (.inl (by omega)))
  have e1:aF lab ((n:Nat):Int) ((n+1:Nat):Int) P (k+1)=aR (aR (A++[aJ 4 lab 0 [] 3]) ((n+2+k:Nat),1) ((n:Nat),((k+1:Nat):Int))) ((n+2+k:Nat),2) ((n+1:Nat),((k+1:Nat):Int)):=by
   rw[←hl,←hA];rfl
  have e2:aF lab ((n:Nat):Int) ((n+1:Nat):Int) Q (k+1)=aR (aR (B++[aJ 4 lab 0 [] 3]) ((n+2+k:Nat),1) ((n:Nat),((k+1:Nat):Int))) ((n+2+k:Nat),2) ((n+1:Nat),((k+1:Nat):Int)):=by
   rw[←hlq,←hB];rfl
  rw[e1,e2];refine s3.congr fun p hp _=> ?_
  rw[PortIn.fU,PortIn.fU,PortIn.bN,hl]at hp
  have hp':p.1<((n+2+k:Nat):Int)∨(p.1=((n+2+k:Nat):Int)∧0≤p.2∧p.2<3):=by
   rcases hp with hp|hp
   ·have:=hp.2.1;rw[hl]at this;exact .inl this
   ·exact .inr hp
  have h0:0≤p.2:=by
   rcases hp with hp|hp
   ·exact hp.2.2.1
   ·exact hp.2.1
  obtain⟨a,s⟩:=p;simp only[Prod.mk.injEq,ne_eq]at*;omega
theorem BO{P Q:List NAgent}{b m:Nat}{X:NPort→Prop}(hX:∀k:Nat,k<m→¬X (y,((k:Nat):Int)+1)∧X (((b+k:Nat):Int),0))(hy:PortIn P (y,0)∧∀k:Nat,k<m→PortIn P (y,((k:Nat):Int)+1)∧PortIn P (((b+k:Nat):Int),0))(yd:¬D y)(bd:∀k:Nat,¬D ((b+k:Nat):Int))(yb:y<(b:Nat))(h:SX D X P Q):
  ∀k:Nat,k≤m→SX D (fun p=>(X p∨(p.1=y∧1≤p.2∧p.2≤(k:Nat)))∧¬((b:Int)≤p.1∧p.1<((b+k:Nat):Int)∧p.2=0)) (bB y b P k) (bB y b Q k)
 |0,_=>h.congr fun p hp _=>by
  constructor
  ·rintro⟨e|e,_⟩
   ·exact e
   ·omega
  ·intro e;exact⟨.inl e,fun k=>by omega⟩
 |k+1,hk=>by
  have ih:=BO hX hy yd bd yb h k (by omega);obtain⟨x1,x2⟩:=hX k (by omega);obtain⟨y1,y2⟩:=hy.2 k (by omega)
  have s1:=ih.move (old:=(y,((k:Nat):Int)+1)) (now:=(((b+k:Nat):Int),0)) (cZ y1 k) yd (by
   rintro⟨e|⟨_,_,e⟩,_⟩
   ·exact x1 e
   ·have:((k:Nat):Int)+1≤(k:Nat):=e;omega) (cZ y2 k) (bd k) ⟨.inl x2,fun e=>by have:((b+k:Nat):Int)<((b+k:Nat):Int):=e.2.1;omega⟩
  refine s1.congr fun p hp _=> ?_
  have q:(((X p∨(p.1=y∧1≤p.2∧p.2≤((k+1:Nat):Int)))∧¬((b:Int)≤p.1∧p.1<((b+(k+1):Nat):Int)∧p.2=0))↔((((X p∨(p.1=y∧1≤p.2∧p.2≤(k:Nat)))∧¬((b:Int)≤p.1∧p.1<((b+k:Nat):Int)∧p.2=0))∨p=(y,((k:Nat):Int)+1))∧p≠(((b+k:Nat):Int),0))):=by
   obtain⟨a,s⟩:=p;simp only[Prod.mk.injEq,ne_eq]
   by_cases hXp:X (a,s)
   ·simp only[hXp,true_or,true_and];omega
   ·simp only[hXp,false_or];omega
  exact q
theorem tK{lab c d:Int}{xs:List NAgent}{p:NPort}(hlt:p.1.toNat<xs.length):∀{k:Nat},PortIn (aF lab c d xs k) p→PortIn xs p
 |0,h=>h
 |k+1,h=>by
  unfold aF sD at h;rw[PortIn.fU,PortIn.fU,PortIn.bN,l9]at h;rcases h with h|⟨h,_⟩
  ·exact tK hlt h
  ·omega
theorem vB{y:Int}{b:Nat}{xs:List NAgent}{p:NPort}:∀k:Nat,PortIn (bB y b xs k) p↔PortIn xs p
 |0=>Iff.rfl
 |k+1=>by unfold bB;rw[PortIn.fZ,vB k]
theorem Ke{xs:List NAgent}{y:Int}{p:NPort}(hlt:p.1.toNat<xs.length)(h:PortIn (dup2 xs y) p):PortIn xs p:=by
 unfold dup2 at h;rw[PortIn.bN,PortIn.bN,List.length_append]at h;rcases h with(h|⟨h,_⟩)|⟨h,_⟩
 ·exact h
 ·omega
 ·simp only[List.length_singleton]at h;omega
theorem Bt{xs:List NAgent}{y:Int}{lab:Int}{p:NPort}:∀k:Nat,PortIn (aF lab ((xs.length:Nat):Int) ((xs.length+1:Nat):Int) (dup2 xs y) k) p→0≤p.1∧p.1<((xs.length+2+k:Nat):Int)∧0≤p.2∧(p.1=(xs.length:Nat)∨p.1=((xs.length+1:Nat):Int)→p.2<((agAt xs y).2.2.2.2.length:Nat))
 |0,h=>by
  have h5:PortIn (dup2 xs y) p:=h;obtain⟨h1,h2,h3,_⟩:=h;refine⟨h1,by(have:(aF lab ((xs.length:Nat):Int) ((xs.length+1:Nat):Int) (dup2 xs y) 0).length=xs.length+2:=dM xs y);omega,h3,fun e=> ?_⟩;unfold dup2 at h5;have hd:(jN xs y).ports.length=(agAt xs y).2.2.2.2.length:=by show(List.replicate _ _).length=_;rw[List.length_replicate]
  rw[PortIn.bN,PortIn.bN,List.length_append,List.length_singleton]at h5;rcases h5 with(h5|⟨_,_,h5⟩)|⟨_,_,h5⟩
  ·have:=h5.2.1;omega
  ·omega
  ·omega
 |k+1,h=>by
  unfold aF sD at h;rw[PortIn.fU,PortIn.fU,PortIn.bN,l9,dM]at h;rcases h with h|⟨h1,h2,h3⟩
  ·obtain⟨q1,q2,q3,q4⟩:=Bt k h;exact⟨q1,by omega,q3,q4⟩
  ·exact⟨by omega,by omega,h2,fun e=>by omega⟩
theorem St.duplicate(h:St D xs ys)(k:jO D xs x y)(hD:∀i,D i→i<(xs.length:Nat))(hx:(agAt xs x).2.2.2.2.length=3)(hy:1≤(agAt xs y).2.2.2.2.length):
  St (fun i=>D i∨i=x∨i=y) (aO xs x y) (aK (aK (aO ys x y) x) y):=by
 have ey:agAt ys y=agAt xs y:=(h.ag.2 y k.py.1 k.py.2.1 k.ly).symm;have ex:agAt ys x=agAt xs x:=(h.ag.2 x k.px.1 k.px.2.1 k.lx).symm;have hl:xs.length=ys.length:=h.ag.1;have xl:x<(xs.length:Nat):=k.px.2.1;have yl:y<(xs.length:Nat):=k.py.2.1;have x0:0≤x:=k.px.1;have y0:0≤y:=k.py.1;have hne:=k.ne;generalize hm:(agAt xs y).2.2.2.2.length=m at*;generalize hn:xs.length=n at*;have nd:∀i:Nat,n≤i→¬D (i:Nat):=fun i hi e=>by have:=hD _ e;omega
 have s0:=SX.start h k
 have s2:SX D (fun p=>p=(x,0)∨p=(y,0)∨p.1=(n:Nat)∨p.1=((n+1:Nat):Int)) (dup2 xs y) (dup2 ys y):=by
  have e:jN ys y=jN xs y:=by unfold jN;rw[ey]
  unfold dup2;rw[e];refine((s0.add (jN xs y)).add (jN xs y)).congr fun p _ _=> ?_
  rw[List.length_append,hn];simp only[List.length_singleton];constructor
  ·rintro(e|e|e|e)
   ·exact .inl (.inl (.inl e))
   ·exact .inl (.inl (.inr e))
   ·exact .inl (.inr e)
   ·exact .inr e
  ·rintro(((e|e)|e)|e)
   ·exact .inl e
   ·exact .inr (.inl e)
   ·exact .inr (.inr (.inl e))
   ·exact .inr (.inr (.inr e))
 have hP:(dup2 xs y).length=n+2:=by rw[dM,hn]
 have hc:∀s:Int,0≤s→s<(m:Nat)→PortIn (dup2 xs y) ((n:Nat),s)∧PortIn (dup2 xs y) ((n+1:Nat),s):=fun s h0 h1=>by
  have q1:=ng (xs:=xs) (y:=y) h0 (by rw[hm];exact h1);have q2:=ni (xs:=xs) (y:=y) h0 (by rw[hm];exact h1);rw[hn]at q1 q2;exact⟨q1,q2⟩
 have s3:=EW (lab:=(agAt xs x).2.1) hP xl yl hD hc s2 (m-1) (by omega)
 have fx:(agAt (dup2 xs y) x).2.1=(agAt xs x).2.1:=by
  unfold dup2;rw[bD (by rw[List.length_append,hn];omega),bD (by omega)]
 have fy:(agAt (dup2 ys y) x).2.1=(agAt xs x).2.1:=by
  unfold dup2;rw[bD (by rw[List.length_append];omega),bD (by omega),ex]
 have d3x:dup3 xs x y=aF (agAt xs x).2.1 ((n:Nat):Int) ((n+1:Nat):Int) (dup2 xs y) (m-1):=by
  unfold dup3;rw[←(iI (x:=x) (by rw[hP];omega) _).1,fx,hn,hm]
 have d3y:dup3 ys x y=aF (agAt xs x).2.1 ((n:Nat):Int) ((n+1:Nat):Int) (dup2 ys y) (m-1):=by
  unfold dup3;rw[←(iI (x:=x) (by rw[dM];omega) _).1,fy,←hl,ey,hm]
 have hpp:=fun p=>Bt (xs:=xs) (y:=y) (lab:=(agAt xs x).2.1) (p:=p) (m-1)
 have hbk:∀p:NPort,p.1.toNat<n→PortIn (aF (agAt xs x).2.1 ((n:Nat):Int) ((n+1:Nat):Int) (dup2 xs y) (m-1)) p→PortIn xs p:=fun p hlt hp=>Ke (by rw[hn];exact hlt) (tK (by rw[hP];omega) hp)
 have hin:∀p:NPort,PortIn xs p→PortIn (aF (agAt xs x).2.1 ((n:Nat):Int) ((n+1:Nat):Int) (dup2 xs y) (m-1)) p:=fun p hp=>jE (jT hp) _
 have hfan:∀i:Nat,i<m-1→PortIn (aF (agAt xs x).2.1 ((n:Nat):Int) ((n+1:Nat):Int) (dup2 xs y) (m-1)) (((n+2+i:Nat):Int),0):=fun i hi=>by
  have:=nk (x:=x) (c:=((n:Nat):Int)) (d:=((n+1:Nat):Int)) (xs:=dup2 xs y) hi;rw[←(iI (x:=x) (by rw[hP];omega) _).1,fx,hP]at this;exact this
 rw[hn,hm]at hpp;have hcn:=jE (lab:=(agAt xs x).2.1) (c:=((n:Nat):Int)) (d:=((n+1:Nat):Int)) (hc 0 (Int.le_refl _) (by omega)).1 (m-1);have hdn:=jE (lab:=(agAt xs x).2.1) (c:=((n:Nat):Int)) (d:=((n+1:Nat):Int)) (hc 0 (Int.le_refl _) (by omega)).2 (m-1);have inx:∀s:Int,0≤s→s<3→PortIn xs (x,s):=fun s h0 h1=>⟨k.px.1,k.px.2.1,h0,by show s<((agAt xs x).2.2.2.2.length:Nat);omega⟩
 have iny:∀s:Int,0≤s→s<(m:Nat)→PortIn xs (y,s):=fun s h0 h1=>⟨k.py.1,k.py.2.1,h0,by show s<((agAt xs y).2.2.2.2.length:Nat);rw[hm];exact h1⟩
 unfold aO iT;rw[d3x,d3y,←hl,hn,ey,hm];generalize aF (agAt xs x).2.1 ((n:Nat):Int) ((n+1:Nat):Int) (dup2 xs y) (m-1)=A at*;generalize aF (agAt xs x).2.1 ((n:Nat):Int) ((n+1:Nat):Int) (dup2 ys y) (m-1)=B at*;have s4:=s3.move (old:=(x,1)) (now:=((n:Nat),0)) (hin _ (inx 1 (by decide) (by decide))) k.lx (by simp only[Prod.mk.injEq,ne_eq,and_true,true_and,or_true,true_or];omega) hcn (nd _ (Nat.le_refl _)) (.inr (.inr (.inl ⟨.inl rfl,.inl rfl⟩)));have s5:=s4.move (old:=(x,2)) (now:=((n+1:Nat),0)) (hin _ (inx 2 (by decide) (by decide))).move k.lx (by simp only[Prod.mk.injEq,ne_eq,and_true,true_and,or_true,true_or];omega) hdn.move (nd _ (by omega)) (by simp only[Prod.mk.injEq,ne_eq,and_true,true_and,or_true,true_or];omega)
 have s6:=BO (y:=y) (b:=n+2) (m:=m-1) (fun i hi=>by simp only[Prod.mk.injEq,ne_eq,and_true,true_and,or_true,true_or];omega) ⟨(hin _ (iny 0 (Int.le_refl _) (by omega))).move.move,fun i hi=>⟨(hin _ (iny _ (by omega) (by omega))).move.move,(hfan i hi).move.move⟩⟩ k.ly (fun i=>nd _ (by omega)) (by omega) s5 (m-1) (Nat.le_refl _);refine s6.Kh x0 y0 fun p hp _=> ?_
 rw[vB,PortIn.fZ,PortIn.fZ]at hp;obtain⟨q1,q2,q3,q4⟩:=hpp p hp
 have q5:p.1=x→p.2<3:=fun e=>by
  have:=(hbk p (by omega) hp).2.2.2;rw[e]at this;have h2:p.2<((agAt xs x).2.2.2.2.length:Nat):=this;omega
 have q6:p.1=y→p.2<(m:Nat):=fun e=>by
  have:=(hbk p (by omega) hp).2.2.2;rw[e]at this;have h2:p.2<((agAt xs y).2.2.2.2.length:Nat):=this;omega
 clear hpp hbk hin hfan s0 s2 s3 s4 s5 s6 hc inx iny nd;obtain⟨a,s⟩:=p;simp only[Prod.mk.injEq,ne_eq]at*;omega
end
end Go.Tr
namespace Go.Tr
open Go Go.RowKit
section
variable {D:Int→Prop}{xs ys:List NAgent}{x y:Int}
theorem wB{zs:List NAgent}{p:NPort}(q:NPort)(hp:PortIn xs p):ay (xs++zs) p q=ay xs p q++zs:=by
 have hl:=zu hp;unfold ay;rw[bD hl,List.set_append_left _ _ hl]
theorem Ku{zs:List NAgent}{p q:NPort}(hp:PortIn xs p)(hq:PortIn xs q):aR (xs++zs) p q=aR xs p q++zs:=by
 unfold aR;rw[wB q hp,wB p hq.set]
theorem GN{p q r s:NPort}(hp:PortIn xs p)(hq:PortIn xs q)(hr:PortIn xs r)(hs:PortIn xs s)(pr:p≠r)(ps:p≠s)(qr:q≠r)(qs:q≠s):aR (aR xs p q) r s=aR (aR xs r s) p q:=by
 unfold aR;rw[jq hq.set hr.set qr,jq (xs:=xs) hp hr pr];rw[jq (xs:=ay (ay xs r s) p q) hq.set.set hs.set.set qs,jq (xs:=ay xs r s) hp.set hs.set ps]
theorem Ky{W:List NAgent}{a:NAgent}{old now P Q:NPort}(ho:PortIn W old)(hpe:PortIn W (peerN W old))(hn:PortIn W now)(hP:PortIn (W++[a]) P)(hPl:(W.length:Int)≤P.1)(hQ:PortIn W Q)(oq:old≠Q)(pq:peerN W old≠Q)(nq:now≠Q):
  bG (aR (W++[a]) P Q) old now=aR (bG W old now++[a]) P Q:=by
 have far:∀r:NPort,PortIn W r→r≠P:=fun r hr e=>by have:=hr.2.1;rw[e]at this;omega
 have e1:peerN (aR (W++[a]) P Q) old=peerN W old:=by
  rw[gJ hP hQ.app ho.app,if_neg (fun e=>oq e.symm),if_neg (fun e=>far old ho e.symm),kL (zu ho)]
 unfold bG;rw[e1,GN hP hQ.app hpe.app hn.app (fun e=>far _ hpe e.symm) (fun e=>far _ hn e.symm) (fun e=>pq e.symm) (fun e=>nq e.symm),Ku hpe hn]
theorem IJ{P Q:List NAgent}{lv:Int}{n m:Nat}(hn:P.length=n+1)(xl:x<(n:Nat))(yl:y<(n:Nat))(x0:0≤x)(xy:x≠y)(xd:¬D x)(hD:∀i,D i→i<(n:Nat))(hx:∀s:Int,0≤s→s<(m:Nat)→PortIn P (x,s))(hr:PortIn P ((n:Nat),0))
  (h:SX D (fun p=>p=(x,0)∨p=(y,0)∨p.1=(n:Nat)) P Q) (h1:∀p,PortIn P p→p.1=(n:Nat)→p.2=0):∀k:Nat,k+1≤m→
  SX D (fun p=>(p.1=x∧p.2≤(k:Nat))∨p=(y,0)∨p=fF (n+1) k) (lF lv x (n+1) P k) (lF lv x (n+1) Q k)
 |0,_=>h.congr fun p hp _=>by
  have h2:=h1 p hp;obtain⟨q1,q2,q3,_⟩:=hp;unfold fF;obtain⟨a,s⟩:=p;rw[hn]at q2;simp only[Prod.mk.injEq]at*;omega
 |k+1,hk=>by
  have ih:=IJ (lv:=lv) hn xl yl x0 xy xd hD hx hr h h1 k (by omega);have hl:(lF lv x (n+1) P k).length=n+1+k:=by rw[lW,hn]
  have nd:∀i:Nat,n≤i→¬D (i:Nat):=fun i hi e=>by have:=hD _ e;omega
  have hxk:=jR (lv:=lv) (x:=x) (b:=n+1) (hx ((k+1:Nat):Int) (by omega) (by omega)) k
  have hR:PortIn (lF lv x (n+1) P k) (fF (n+1) k):=by
   have:=rz (lv:=lv) (x:=x) (xs:=P) (by rw[hn];exact hr) k;rw[hn]at this;exact this
  have hR1:(n:Int)≤(fF (n+1) k).1∧(fF (n+1) k).1<((n+1+k:Nat):Int):=by
   cases k with
   |zero=>unfold fF;simp only[];omega
   |succ k=>unfold fF;simp only[];omega
  have s1:=ih.add (aJ 3 lv 0 [] 3);rw[hl]at s1;have f0:PortIn (lF lv x (n+1) P k++[aJ 3 lv 0 [] 3]) ((n+1+k:Nat),0):=PortIn.bN.2 (.inr ⟨by rw[hl],Int.le_refl _,show(0:Int)<3 by decide⟩);have f1:PortIn (lF lv x (n+1) P k++[aJ 3 lv 0 [] 3]) ((n+1+k:Nat),1):=PortIn.bN.2 (.inr ⟨by rw[hl],show(0:Int)≤1 by decide,show(1:Int)<3 by decide⟩);have hRd:¬D (fF (n+1) k).1:=fun e=>by have:=hD _ e;omega
  have s2:=s1.link (p:=fF (n+1) k) (q:=((n+1+k:Nat),0)) hR.app hRd (.inl (.inr (.inr rfl))) f0 (nd _ (by omega)) (.inr rfl) (fun e=>by rw[e]at hR1;have:=hR1.2;have h3:((n+1+k:Nat):Int)<((n+1+k:Nat):Int):=this;omega)
  have s3:=s2.move (old:=(x,((k+1:Nat):Int))) (now:=((n+1+k:Nat),1)) hxk.app.link xd (by
   rintro⟨(⟨_,e⟩|e|e)|e,_,_⟩
   ·have:((k+1:Nat):Int)≤(k:Nat):=e;omega
   ·exact bJ (.inl xy) e
   ·rw[←e]at hR1;have:=hR1.1;have h3:(n:Int)≤x:=this;omega
   ·have:x=((n+1+k:Nat):Int):=e;omega) f1.link (nd _ (by omega)) ⟨.inr rfl,fun e=>by rw[←e]at hR1;have:=hR1.2;have h3:((n+1+k:Nat):Int)<((n+1+k:Nat):Int):=this;omega,bJ (.inr (by decide))⟩
  show SX D _ (lF lv x (n+1) P (k+1)) (lF lv x (n+1) Q (k+1));unfold lF;refine s3.congr fun p hp _=> ?_
  rw[PortIn.fZ,PortIn.fU,PortIn.bN,hl]at hp
  have hp':p.1<((n+1+k:Nat):Int)∨(p.1=((n+1+k:Nat):Int)∧0≤p.2∧p.2<3):=by
   rcases hp with hp|hp
   ·have:=hp.2.1;rw[hl]at this;exact .inl this
   ·exact .inr hp
  have e2:fF (n+1) (k+1)=(((n+1+k:Nat):Int),2):=rfl;rw[e2];obtain⟨a,s⟩:=p;generalize hRR:fF (n+1) k=R at*;obtain⟨ra,rs⟩:=R;simp only[Prod.mk.injEq,ne_eq]at*;omega
theorem SX.self{X:NPort→Prop}(h:SX D X xs ys):SX D X xs xs:=⟨⟨rfl,fun _ _ _ _=>rfl⟩,h.wi,h.al⟩
theorem CU{n k:Nat}:(n:Int)≤(fF (n+1) k).1∧(fF (n+1) k).1<((n+1+k:Nat):Int)∧(fF (n+1) k).2≠1:=by
 cases k with
 |zero=>unfold fF;simp only[];omega
 |succ k=>unfold fF;simp only[];omega
theorem IG{P Q:List NAgent}{lv:Int}{n:Nat}(hn:P.length=n+1)(xl:x<(n:Nat))(yl:y<(n:Nat))(hD:∀i,D i→i<(n:Nat))(hr:PortIn P ((n:Nat),0))
  (h:SX D (fun p=>p=(x,0)∨p=(y,0)∨p.1=(n:Nat)) P Q) (h1:∀p,PortIn P p→p.1=(n:Nat)→p.2=0):∀k:Nat,
  SX D (fun p=>p=(x,0)∨p=(y,0)∨(((n+1:Nat):Int)≤p.1∧p.2=1)∨p=fF (n+1) k) (mG lv (n+1) P k) (mG lv (n+1) Q k)
 |0=>h.congr fun p hp _=>by
  have h2:=h1 p hp;obtain⟨q1,q2,q3,_⟩:=hp;unfold fF;obtain⟨a,s⟩:=p;rw[hn]at q2;simp only[Prod.mk.injEq]at*;omega
 |k+1=>by
  have ih:=IG (lv:=lv) hn xl yl hD hr h h1 k;have hl:(mG lv (n+1) P k).length=n+1+k:=by rw[su,hn]
  have nd:∀i:Nat,n≤i→¬D (i:Nat):=fun i hi e=>by have:=hD _ e;omega
  obtain⟨r1,r2,r3⟩:=CU (n:=n) (k:=k)
  have hR:PortIn (mG lv (n+1) P k) (fF (n+1) k):=by
   have:=Bo (lv:=lv) (xs:=P) (by rw[hn];exact hr) k;rw[hn]at this;exact this
  have s1:=ih.add (aJ 3 lv 0 [] 3);rw[hl]at s1;have f0:PortIn (mG lv (n+1) P k++[aJ 3 lv 0 [] 3]) ((n+1+k:Nat),0):=PortIn.bN.2 (.inr ⟨by rw[hl],Int.le_refl _,show(0:Int)<3 by decide⟩);have s2:=s1.link (p:=((n+1+k:Nat),0)) (q:=fF (n+1) k) f0 (nd _ (by omega)) (.inr rfl) hR.app (fun e=>by have:=hD _ e;omega) (.inl (.inr (.inr (.inr rfl)))) (fun e=>by rw[←e]at r2;have h3:((n+1+k:Nat):Int)<((n+1+k:Nat):Int):=r2;omega);unfold mG;refine s2.congr fun p hp _=> ?_
  rw[PortIn.fU,PortIn.bN,hl]at hp
  have hp':p.1<((n+1+k:Nat):Int)∨(p.1=((n+1+k:Nat):Int)∧0≤p.2∧p.2<3):=by
   rcases hp with hp|hp
   ·have:=hp.2.1;rw[hl]at this;exact .inl this
   ·exact .inr hp
  have e2:fF (n+1) (k+1)=(((n+1+k:Nat):Int),2):=rfl;rw[e2];obtain⟨a,s⟩:=p;generalize hRR:fF (n+1) k=R at*;obtain⟨ra,rs⟩:=R;simp only[Prod.mk.injEq,ne_eq]at*;omega
theorem IC{Z:List NAgent}{n m k:Nat}(xl:x<(n:Nat))(x0:0≤x)(xy:x≠y)(xd:¬D x)(hD:∀i,D i→i<(n:Nat))(hx:∀s:Int,0≤s→s<(m:Nat)→PortIn Z (x,s))(hz:∀i:Nat,i<k→PortIn Z (((n+1+i:Nat):Int),1))(hl:Z.length=n+1+k)
  (h:SX D (fun p=>p=(x,0)∨p=(y,0)∨(((n+1:Nat):Int)≤p.1∧p.2=1)∨p=fF (n+1) k) Z Z):∀j:Nat,j≤k→j+1≤m→
  SX D (fun p=>(p.1=x∧p.2≤(j:Nat))∨p=(y,0)∨(((n+1+j:Nat):Int)≤p.1∧p.2=1)∨p=fF (n+1) k) (yQ x (n+1) Z j) (yQ x (n+1) Z j)
 |0,_,_=>h.congr fun p hp _=>by
  obtain⟨q1,q2,q3,_⟩:=hp;obtain⟨a,s⟩:=p;generalize fF (n+1) k=R;obtain⟨ra,rs⟩:=R;simp only[Prod.mk.injEq]at*;omega
 |j+1,hj,hm=>by
  have ih:=IC xl x0 xy xd hD hx hz hl h j (by omega) (by omega);obtain⟨r1,r2,r3⟩:=CU (n:=n) (k:=k);have nd:∀i:Nat,n≤i→¬D (i:Nat):=fun i hi e=>by have:=hD _ e;omega
  have s1:=ih.move (old:=(x,((j:Nat):Int)+1)) (now:=(((n+1+j:Nat):Int),1)) (jQ (hx _ (by omega) (by omega)) j) xd (by
   generalize fF (n+1) k=R at*;obtain⟨ra,rs⟩:=R;simp only[Prod.mk.injEq,ne_eq]at*;omega) (jQ (hz j (by omega)) j) (nd _ (by omega)) (.inr (.inr (.inl ⟨Int.le_refl _,rfl⟩)))
  unfold yQ;refine s1.congr fun p hp _=> ?_
  have q3:=hp.2.2.1;have q2:=hp.2.1;obtain⟨a,s⟩:=p;generalize hRR:fF (n+1) k=R at*;obtain⟨ra,rs⟩:=R;simp only[Prod.mk.injEq,ne_eq]at*;omega
theorem Qd{P:List NAgent}{lv:Int}{n m:Nat}(hn:P.length=n+1)(xl:x<(n:Nat))(yl:y<(n:Nat))(x0:0≤x)(xy:x≠y)(xd:¬D x)(hD:∀i,D i→i<(n:Nat))(hx:∀s:Int,0≤s→s<(m:Nat)→PortIn P (x,s))(hr:PortIn P ((n:Nat),0))
  (h:SX D (fun p=>p=(x,0)∨p=(y,0)∨p.1=(n:Nat)) P P) (h1:∀p,PortIn P p→p.1=(n:Nat)→p.2=0):∀k:Nat,k+1≤m→yQ x (n+1) (mG lv (n+1) P k) k=lF lv x (n+1) P k
 |0,_=>rfl
 |k+1,hk=>by
  have ih:=Qd (lv:=lv) hn xl yl x0 xy xd hD hx hr h h1 k (by omega);have hl:(mG lv (n+1) P k).length=n+1+k:=by rw[su,hn]
  have nd:∀i:Nat,n≤i→¬D (i:Nat):=fun i hi e=>by have:=hD _ e;omega
  obtain⟨r1,r2,r3⟩:=CU (n:=n) (k:=k)
  have hR:PortIn (mG lv (n+1) P k) (fF (n+1) k):=by
   have:=Bo (lv:=lv) (xs:=P) (by rw[hn];exact hr) k;rw[hn]at this;exact this
  have hxN:∀s:Int,0≤s→s<(m:Nat)→PortIn (mG lv (n+1) P k) (x,s):=fun s a b=>yR (hx s a b) k
  have hzN:∀i:Nat,i<k→PortIn (mG lv (n+1) P k) (((n+1+i:Nat):Int),1):=fun i hi=>by
   have:=uY (lv:=lv) (xs:=P) (s:=1) (by decide) (by decide) hi;rw[hn]at this;exact this
  have sN:=IG (lv:=lv) hn xl yl hD hr h h1 k
  have key:∀j:Nat,j≤k→yQ x (n+1) (aR (mG lv (n+1) P k++[aJ 3 lv 0 [] 3]) ((n+1+k:Nat),0) (fF (n+1) k)) j=aR (yQ x (n+1) (mG lv (n+1) P k) j++[aJ 3 lv 0 [] 3]) ((n+1+k:Nat),0) (fF (n+1) k):=by
   intro j
   induction j with
   |zero=>intro _;rfl
   |succ j ihj=>
    intro hj;have e:=ihj (by omega);have sM:=IC (k:=k) xl x0 xy xd hD hxN hzN hl sN j (by omega) (by omega);have hlW:(yQ x (n+1) (mG lv (n+1) P k) j).length=n+1+k:=by rw[Iz,hl]
    show bG (yQ x (n+1) (aR (mG lv (n+1) P k++[aJ 3 lv 0 [] 3]) ((n+1+k:Nat),0) (fF (n+1) k)) j) (x,((j:Nat):Int)+1) (((n+1+j:Nat):Int),1)=aR (bG (yQ x (n+1) (mG lv (n+1) P k) j) (x,((j:Nat):Int)+1) (((n+1+j:Nat):Int),1)++[aJ 3 lv 0 [] 3]) _ _;rw[e];have ho:=jQ (x:=x) (b:=n+1) (hxN (((j:Nat):Int)+1) (by omega) (by omega)) j
    have hw:=sM.wi (x,((j:Nat):Int)+1) ⟨⟨ho,xd⟩,by
     generalize fF (n+1) k=R at*;obtain⟨ra,rs⟩:=R;simp only[Prod.mk.injEq]at*;omega⟩
    refine Ky ho hw.2.1.1.1 (jQ (hzN j (by omega)) j) (PortIn.bN.2 (.inr ⟨by rw[hlW],Int.le_refl _,show(0:Int)<3 by decide⟩)) (by rw[hlW];exact Int.le_refl _) (jQ hR j) ?_ (fun e=>hw.2.1.2 (.inr (.inr (.inr e)))) ?_
    ·intro e;rw[←e]at r1;have:(n:Int)≤x:=r1;omega
    ·intro e;rw[←e]at r3;exact r3 rfl
  show bG (yQ x (n+1) (aR (mG lv (n+1) P k++[aJ 3 lv 0 [] 3]) (((n+1+k:Nat):Int),0) (fF (n+1) k)) k) (x,((k:Nat):Int)+1) (((n+1+k:Nat):Int),1)=bG (aR (lF lv x (n+1) P k++[aJ 3 lv 0 [] 3]) (fF (n+1) k) (((n+1+k:Nat):Int),0)) (x,((k+1:Nat):Int)) (((n+1+k:Nat):Int),1);rw[key k (Nat.le_refl _),ih];have hlS:(lF lv x (n+1) P k).length=n+1+k:=by rw[lW,hn]
  have hRS:PortIn (lF lv x (n+1) P k) (fF (n+1) k):=by
   have:=rz (lv:=lv) (x:=x) (xs:=P) (by rw[hn];exact hr) k;rw[hn]at this;exact this
  rw[qw (PortIn.bN.2 (.inr ⟨by rw[hlS],Int.le_refl _,show(0:Int)<3 by decide⟩)) hRS.app];rfl
theorem yS{lv:Int}{b:Nat}{P:List NAgent}{p:NPort}(hlt:p.1.toNat<P.length):∀{k:Nat},PortIn (lF lv x b P k) p→PortIn P p
 |0,h=>h
 |k+1,h=>by
  unfold lF at h;rw[PortIn.fZ,PortIn.fU,PortIn.bN,lW]at h;rcases h with h|⟨h,_⟩
  ·exact yS hlt h
  ·omega
theorem St.choose(h:St D xs ys)(k:jO D xs x y)(hD:∀i,D i→i<(xs.length:Nat))(h6:(agAt xs x).1=6↔(agAt xs y).1=11)(hx:(agAt xs x).1=6→(agAt xs x).2.2.2.2.length=1)(hx1:1≤(agAt xs x).2.2.2.2.length)(hy:(agAt xs y).2.2.2.2.length=2):
  St (fun i=>D i∨i=x∨i=y) (iw xs x y) (aK (aK (bE ys x y) x) y):=by
 have ey:agAt ys y=agAt xs y:=(h.ag.2 y k.py.1 k.py.2.1 k.ly).symm;have ex:agAt ys x=agAt xs x:=(h.ag.2 x k.px.1 k.px.2.1 k.lx).symm;have hl:xs.length=ys.length:=h.ag.1;have xl:x<(xs.length:Nat):=k.px.2.1;have yl:y<(xs.length:Nat):=k.py.2.1;have x0:0≤x:=k.px.1;have y0:0≤y:=k.py.1;have hne:=k.ne;have nd:∀i:Nat,xs.length≤i→¬D (i:Nat):=fun i hi e=>by have:=hD _ e;omega
 have iny1:PortIn xs (y,1):=⟨k.py.1,k.py.2.1,show(0:Int)≤1 by decide,by show(1:Int)<((agAt xs y).2.2.2.2.length:Nat);omega⟩;have hkb:((agAt xs x).1==6)=((agAt xs y).1==11):=by rw[Bool.eq_iff_iff];simpa using h6
 have s1:∀i:Int,SX D (fun p=>p=(x,0)∨p=(y,0)∨p.1=(xs.length:Nat)) (aL xs y i) (aL ys y i):=fun i=>by
  unfold aL;rw[ey];refine((SX.start h k).add _).congr fun p _ _=> ?_
  constructor
  ·rintro(e|e|e)
   ·exact .inl (.inl e)
   ·exact .inl (.inr e)
   ·exact .inr e
  ·rintro((e|e)|e)
   ·exact .inl e
   ·exact .inr (.inl e)
   ·exact .inr (.inr e)
 have hlen:∀i:Int,(aL xs y i).length=xs.length+1:=fun i=>by unfold aL;rw[List.length_append];rfl
 have hnew:∀i:Int,PortIn (aL xs y i) ((xs.length:Nat),0):=fun i=>PortIn.bN.2 (.inr ⟨rfl,Int.le_refl _,show(0:Int)<1 by decide⟩)
 have h1:∀(i:Int) p,PortIn (aL xs y i) p→p.1=(xs.length:Nat)→p.2=0:=fun i p hp e=>by
  rcases PortIn.bN.1 hp with q|⟨_,q2,q3⟩
  ·have:=q.2.1;omega
  ·have:p.2<1:=q3;omega
 have hback:∀(i:Int) (p:NPort),p.1.toNat<xs.length→PortIn (aL xs y i) p→PortIn xs p:=fun i p hlt hp=>by
  rcases PortIn.bN.1 hp with q|⟨q,_⟩
  ·exact q
  ·omega
 have hin:∀(i:Int) (p:NPort),PortIn xs p→PortIn (aL xs y i) p:=fun i p hp=>hp.app
 unfold iw bE;rw[ex,ey,hkb,←hl];cases hk:(agAt xs y).1==11 with
 |true=>
  simp only[cond_true];have h3:=hx (h6.2 (by simpa using hk));generalize (bif (agAt xs x).2.2.1==0 then(1:Int)else 0)=i;have s2:=(s1 i).move (old:=(y,1)) (now:=((xs.length:Nat),0)) (hin i _ iny1) k.ly (by simp only[Prod.mk.injEq];omega) (hnew i) (nd _ (Nat.le_refl _)) (.inr (.inr rfl));refine s2.Kh x0 y0 fun p hp _=> ?_
  rw[PortIn.fZ]at hp;have q0:=h1 i p hp;have q1:=hp.2.2.1;have q2:=hp.1
  have q4:p.1=x→p.2<1:=fun e=>by
   have:=(hback i p (by omega) hp).2.2.2;rw[e]at this;have h2:p.2<((agAt xs x).2.2.2.2.length:Nat):=this;omega
  have q5:p.1=y→p.2<2:=fun e=>by
   have:=(hback i p (by omega) hp).2.2.2;rw[e]at this;have h2:p.2<((agAt xs y).2.2.2.2.length:Nat):=this;omega
  obtain⟨a,s⟩:=p;simp only[Prod.mk.injEq,ne_eq]at*;omega
 |false=>
  simp only[cond_false];generalize (agAt xs x).2.2.1=i;generalize (agAt xs y).2.1=lv;have hxi:∀s:Int,0≤s→s<((agAt xs x).2.2.2.2.length:Nat)→PortIn (aL xs y i) (x,s):=fun s a b=>hin i _ ⟨x0,xl,a,b⟩
  rw[Qd (lv:=lv) (hlen i) xl yl x0 k.ne k.lx hD hxi (hnew i) (s1 i).self (h1 i) ((agAt xs x).2.2.2.2.length-1) (by omega)];have s2:=IJ (lv:=lv) (hlen i) xl yl x0 k.ne k.lx hD hxi (hnew i) (s1 i) (h1 i) ((agAt xs x).2.2.2.2.length-1) (by omega);generalize hm:(agAt xs x).2.2.2.2.length=m at*;obtain⟨r1,r2,r3⟩:=CU (n:=xs.length) (k:=m-1)
  have hR:PortIn (lF lv x (xs.length+1) (aL xs y i) (m-1)) (fF (xs.length+1) (m-1)):=by
   have:=rz (lv:=lv) (x:=x) (xs:=aL xs y i) (by rw[hlen];exact hnew i) (m-1);rw[hlen]at this;exact this
  have s3:=s2.move (old:=(y,1)) (now:=fF (xs.length+1) (m-1)) (jR (hin i _ iny1) _) k.ly (by
   generalize fF (xs.length+1) (m-1)=R at*;obtain⟨ra,rs⟩:=R;simp only[Prod.mk.injEq]at*;omega) hR (fun e=>by have:=hD _ e;omega) (.inr (.inr rfl))
  refine s3.Kh x0 y0 fun p hp _=> ?_
  rw[PortIn.fZ]at hp;have q1:=hp.2.2.1;have q2:=hp.1
  have q4:p.1=x→p.2<(m:Nat):=fun e=>by
   have:=(hback i p (by omega) (yS (by rw[hlen];omega) hp)).2.2.2;rw[e]at this;have h2:p.2<((agAt xs x).2.2.2.2.length:Nat):=this;omega
  have q5:p.1=y→p.2<2:=fun e=>by
   have:=(hback i p (by omega) (yS (by rw[hlen];omega) hp)).2.2.2;rw[e]at this;have h2:p.2<((agAt xs y).2.2.2.2.length:Nat):=this;omega
  generalize fF (xs.length+1) (m-1)=R at*;obtain⟨ra,rs⟩:=R;obtain⟨a,s⟩:=p;clear h1 hback hin hxi s1 s2 s3 hnew hlen nd;simp only[Prod.mk.injEq,ne_eq]at*;omega
end
end Go.Tr
namespace Go.Tr
open Go Go.RowKit
section
variable {D:Int→Prop}{X:NPort→Prop}{xs ys:List NAgent}{x y:Int}
theorem mU{t:List NAgent}{b i:Int}(hb:b=(xs.length:Int)-1)(h1:(xs.length:Int)≤i)(h2:i-b<(t.length:Nat)):agAt (xs++(t.drop 1).map (bg b)) i=bg b (agAt t (i-b)):=by
 unfold agAt elt;rw[List.getD_eq_getElem?_getD,List.getElem?_append_right (by omega),List.getElem?_map,List.getElem?_drop];have e:1+(i.toNat-xs.length)=(i-b).toNat:=by omega
 rw[e,List.getD_eq_getElem?_getD,List.getElem?_eq_getElem (by omega)];rfl
theorem kJ(t:List NAgent)(b:Int):((t.drop 1).map (bg b)).length=t.length-1:=by rw[List.length_map,List.length_drop]
theorem PortIn.jJ{t:List NAgent}{b:Int}{p:NPort}(hb:b=(xs.length:Int)-1):PortIn (xs++(t.drop 1).map (bg b)) p↔PortIn xs p∨((xs.length:Int)≤p.1∧PortIn t (p.1-b,p.2)):=by
 have hml:=kJ t b;have hpl:∀a:NAgent,(bg b a).ports.length=a.ports.length:=fun a=>by show(List.map _ _).length=_;rw[List.length_map]
 constructor
 ·intro h;have h':=h;obtain⟨h1,h2,h3,h4⟩:=h;rw[List.length_append,hml]at h2
  by_cases hl:p.1.toNat<xs.length
  ·rw[bD hl]at h4;exact .inl ⟨h1,by omega,h3,h4⟩
  ·have hlt:p.1-b<(t.length:Nat):=by omega
   rw[mU hb (by omega) hlt,hpl]at h4;exact .inr ⟨by omega,by show 0≤p.1-b;omega,hlt,h3,h4⟩
 ·rintro(h|⟨h,h1,h2,h3,h4⟩)
  ·exact h.app
  ·have h2':p.1-b<(t.length:Nat):=h2;refine⟨by omega,by rw[List.length_append,hml];omega,h3,?_⟩;rw[mU hb h h2',hpl];exact h4
theorem rT{t:List NAgent}{b:Int}{p:NPort}(hb:b=(xs.length:Int)-1)(h:(xs.length:Int)≤p.1)(hp:PortIn t (p.1-b,p.2)):peerN (xs++(t.drop 1).map (bg b)) p=((peerN t (p.1-b,p.2)).1+b,(peerN t (p.1-b,p.2)).2):=by
 obtain⟨h1,h2,h3,h4⟩:=hp;unfold peerN;rw[mU hb h h2];show elt (dflt uPort) (List.map _ _) p.2=_;unfold elt
 have h4':p.2.toNat<(agAt t (p.1-b)).ports.length:=by
  have h5:p.2<((agAt t (p.1-b)).ports.length:Nat):=h4;have h6:0≤p.2:=h3;omega
 rw[List.getD_eq_getElem?_getD,List.getElem?_map,List.getElem?_eq_getElem h4'];show _=(((agAt t (p.1-b)).ports.getD p.2.toNat (dflt uPort)).1+b,((agAt t (p.1-b)).ports.getD p.2.toNat (dflt uPort)).2);rw[List.getD_eq_getElem?_getD,List.getElem?_eq_getElem h4'];rfl
theorem SX.RV{t:List NAgent}{b:Int}(hb:b=(xs.length:Int)-1)(ht:Wired (fun p=>PortIn t p) t)(h0:PortIn t (0,0))(h00:∀p,PortIn t p→p.1=0→p=(0,0))(hD:∀i,D i→i<(xs.length:Nat))(hX:∀p,X p→p.1<(xs.length:Nat))(h:SX D X xs ys):
  SX D (fun p=>X p∨p=((peerN t (0,0)).1+b,(peerN t (0,0)).2)) (xs++(t.drop 1).map (bg b)) (ys++(t.drop 1).map (bg b)):=by
 obtain⟨r1,r2,r3,r4⟩:=ht (0,0) h0;have rR:PortIn t (peerN t (0,0)):=r2
 have rpos:1≤(peerN t (0,0)).1:=by
  have h1:=rR.1
  by_cases e:(peerN t (0,0)).1=0
  ·exact absurd (h00 _ rR e) r4
  ·omega
 refine⟨h.ag.app _,fun p hp=> ?_,fun p hp=>hp.1.2⟩;obtain⟨⟨p1,p2⟩,p3⟩:=hp;rcases(PortIn.jJ hb).1 p1 with q|⟨q1,q2⟩
 ·obtain⟨w1,w2,w3,w4⟩:=h.wi p ⟨⟨q,p2⟩,fun k=>p3 (.inl k)⟩;have e:=kL (ys:=(t.drop 1).map (bg b)) (zu q);refine⟨p1,?_,by rw[e,kL (zu w2.1.1),w3],by rw[e];exact w4⟩;rw[e];refine⟨⟨w2.1.1.app,w2.1.2⟩,fun k=> ?_⟩;rcases k with k|k
  ·exact w2.2 k
  ·have:=w2.1.1.2.1;rw[k]at this;have h2:(peerN t (0,0)).1+b<(xs.length:Nat):=this;omega
 ·obtain⟨w1,w2,w3,w4⟩:=ht _ q2;have w2':PortIn t (peerN t (p.1-b,p.2)):=w2;have e:=rT hb q1 q2
  have hne:(peerN t (p.1-b,p.2)).1≠0:=fun e0=>by
   have e1:=h00 _ w2' e0;rw[e1]at w3;exact p3 (.inr (bS (by rw[w3];show p.1=p.1-b+b;omega) (by rw[w3])))
  have hge:1≤(peerN t (p.1-b,p.2)).1:=by have:=w2'.1;omega
  have hin:PortIn (xs++(t.drop 1).map (bg b)) ((peerN t (p.1-b,p.2)).1+b,(peerN t (p.1-b,p.2)).2):=(PortIn.jJ hb).2 (.inr ⟨by show(xs.length:Int)≤(peerN t (p.1-b,p.2)).1+b;omega,by
   rw[show(((peerN t (p.1-b,p.2)).1+b,(peerN t (p.1-b,p.2)).2):NPort).1-b=(peerN t (p.1-b,p.2)).1 by show(peerN t (p.1-b,p.2)).1+b-b=_;omega];exact w2'⟩)
  refine⟨p1,?_,?_,?_⟩
  ·rw[e];refine⟨⟨hin,fun k=> ?_⟩,fun k=> ?_⟩
   ·have:=hD _ k;have h2:(peerN t (p.1-b,p.2)).1+b<(xs.length:Nat):=this;omega
   ·rcases k with k|k
    ·have:=hX _ k;have h2:(peerN t (p.1-b,p.2)).1+b<(xs.length:Nat):=this;omega
    ·have e2:peerN t (p.1-b,p.2)=peerN t (0,0):=by
      injection k with k1 k2
      exact bS (by omega) k2
     rw[e2,r3]at w3;injection w3 with w5 w6
     omega
  ·rw[e,rT hb (by show(xs.length:Int)≤(peerN t (p.1-b,p.2)).1+b;omega) (by
    rw[show(((peerN t (p.1-b,p.2)).1+b,(peerN t (p.1-b,p.2)).2):NPort).1-b=(peerN t (p.1-b,p.2)).1 by show(peerN t (p.1-b,p.2)).1+b-b=_;omega];exact w2')]
   have e3:((((peerN t (p.1-b,p.2)).1+b,(peerN t (p.1-b,p.2)).2):NPort).1-b,(((peerN t (p.1-b,p.2)).1+b,(peerN t (p.1-b,p.2)).2):NPort).2)=peerN t (p.1-b,p.2):=bS (by show(peerN t (p.1-b,p.2)).1+b-b=_;omega) rfl;rw[e3,w3];exact bS (by show p.1-b+b=p.1;omega) rfl
  ·rw[e];intro k;refine w4 (bS ?_ ?_)
   ·have:=congrArg Prod.fst k;show(peerN t (p.1-b,p.2)).1=p.1-b;have h2:(peerN t (p.1-b,p.2)).1+b=p.1:=this;omega
   ·have h2:=congrArg Prod.snd k;exact h2
theorem mq(lv:Int)(a:NAgent):(fH lv a).ports=a.ports:=by unfold fH;cases aU a.kind<;>rfl
theorem qh(lv:Int)(t:List NAgent){i:Int}(h0:0≤i)(h1:i<(t.length:Nat)):agAt (aY lv t) i=fH lv (agAt t i):=by
 unfold agAt elt aY;rw[List.getD_eq_getElem?_getD,List.getElem?_map,List.getD_eq_getElem?_getD,List.getElem?_eq_getElem (by omega)];rfl
theorem jy(lv:Int)(t:List NAgent):(aY lv t).length=t.length:=by unfold aY;rw[List.length_map]
theorem PortIn.gu{lv:Int}{t:List NAgent}{p:NPort}:PortIn (aY lv t) p↔PortIn t p:=by
 unfold PortIn;rw[jy];constructor
 ·rintro⟨h1,h2,h3,h4⟩;rw[qh lv t h1 h2,mq]at h4;exact⟨h1,h2,h3,h4⟩
 ·rintro⟨h1,h2,h3,h4⟩;refine⟨h1,h2,h3,?_⟩;rw[qh lv t h1 h2,mq];exact h4
theorem kW{lv:Int}{t:List NAgent}{p:NPort}(hp:PortIn t p):peerN (aY lv t) p=peerN t p:=by
 unfold peerN;rw[qh lv t hp.1 hp.2.1,mq]
theorem Wired.shift{lv:Int}{t:List NAgent}(h:Wired (fun p=>PortIn t p) t):Wired (fun p=>PortIn (aY lv t) p) (aY lv t):=fun p hp=>by
 have hp':=PortIn.gu.1 hp;obtain⟨h1,h2,h3,h4⟩:=h p hp';rw[kW hp'];exact⟨hp,PortIn.gu.2 h2,by rw[kW h2,h3],h4⟩
theorem St.expand{bk:List (List NAgent)}(h:St D xs ys)(k:jO D xs x y)(hD:∀i,D i→i<(xs.length:Nat))(hx:(agAt xs x).2.2.2.2.length=1)
  (ht:Wired (fun p=>PortIn (aS bk (agAt xs x).2.2.1) p) (aS bk (agAt xs x).2.2.1)) (h0:PortIn (aS bk (agAt xs x).2.2.1) (0,0)) (h00:∀p,PortIn (aS bk (agAt xs x).2.2.1) p→p.1=0→p=(0,0)):
  St (fun i=>D i∨i=x) (jV bk xs x y) (aK (bZ (aS bk (agAt ys x).2.2.1) (agAt ys x).2.1 ys y) x):=by
 have ex:agAt ys x=agAt xs x:=(h.ag.2 x k.px.1 k.px.2.1 k.lx).symm;have hl:xs.length=ys.length:=h.ag.1;have xl:x<(xs.length:Nat):=k.px.2.1;have yl:y<(xs.length:Nat):=k.py.2.1;have hne:=k.ne;rw[ex];unfold jV bZ jM;generalize aS bk (agAt xs x).2.2.1=t at*;generalize (agAt xs x).2.1=lv;generalize hb:(xs.length:Int)-1=b;have hb':b=(xs.length:Int)-1:=hb.symm
 have e1:gD lv ((ys.length:Int)-1) t (t.length-1)=((aY lv t).drop 1).map (bg b):=by
  unfold gD;rw[←hl,hb,List.take_of_length_le (by rw[List.length_drop,jy];exact Nat.le_refl _)]
 have s0:=SX.start h k;have s1:=s0.RV (t:=aY lv t) hb' ht.shift (PortIn.gu.2 h0) (fun p hp e=>h00 p (PortIn.gu.1 hp) e) hD (fun p hp=>by rcases hp with e|e<;>rw[e]<;>assumption);rw[e1,kW h0]at*;obtain⟨r1,r2,r3,r4⟩:=ht (0,0) h0;have rR:PortIn t (peerN t (0,0)):=r2
 have rpos:1≤(peerN t (0,0)).1:=by
  have h1:=rR.1
  by_cases e:(peerN t (0,0)).1=0
  ·exact absurd (h00 _ rR e) r4
  ·omega
 generalize peerN t (0,0)=R at*
 have hR:PortIn (xs++((aY lv t).drop 1).map (bg b)) (R.1+b,R.2):=(PortIn.jJ hb').2 (.inr ⟨by show(xs.length:Int)≤R.1+b;omega,PortIn.gu.2 (by
  rw[show((R.1+b,R.2):NPort).1-b=R.1 by show R.1+b-b=R.1;omega];exact rR)⟩)
 have s2:=s1.link (p:=(y,0)) (q:=(R.1+b,R.2)) k.py.app k.ly (.inl (.inr rfl)) hR (fun e=>by have:=hD _ e;have h2:R.1+b<(xs.length:Nat):=this;omega) (.inr rfl) (bJ (.inl (by omega)))
 have e2:aR (ys++((aY lv t).drop 1).map (bg b)) ((ys.length:Int)-1+R.1,R.2) (y,0)=aR (ys++((aY lv t).drop 1).map (bg b)) (y,0) (R.1+b,R.2):=by
  rw[←hl,hb,show b+R.1=R.1+b by omega];refine qw ?_ ?_
  ·have:=(s1.ag.port hR (fun e=>by have:=hD _ e;have h2:R.1+b<(xs.length:Nat):=this;omega)).1;exact this
  ·exact(s1.ag.port (p:=(y,0)) k.py.app k.ly).1
 rw[e2];refine s2.Uo k.px.1 fun p hp _=> ?_
 rw[PortIn.fU]at hp;constructor
 ·rintro⟨(e|e)|e,e3,e4⟩
  ·rw[e]
  ·exact absurd e e3
  ·exact absurd e e4
 ·intro e;rcases(PortIn.jJ hb').1 hp with q|⟨q,_⟩
  ·obtain⟨q1,q2,q3,q4⟩:=q;rw[e]at q4;have h3:p.2<((agAt xs x).2.2.2.2.length:Nat):=q4;refine⟨.inl (.inl (bS e (by show p.2=0;omega))),fun e2=> ?_,fun e2=> ?_⟩
   ·rw[e2]at e;exact hne e.symm
   ·rw[e2]at e;have h4:R.1+b=x:=e;omega
  ·omega
end
end Go.Tr
namespace Go.Tr
open Go Go.RowKit
def gA(a:NAgent):GAgent:=⟨a.1,a.2.1,a.2.2.1,a.2.2.2.1,a.2.2.2.2.map fun p=>⟨p.1,p.2⟩⟩
theorem enc_ints(l:List Int):List.flatMap (enc (.int .i64)) l=l.flatMap intE:=by
 induction l with
 |nil=>rfl
 |cons x l ih=>rw[List.flatMap_cons,List.flatMap_cons,ih];rfl
theorem Kg(l:List NPort):(l.map fun p=>(⟨p.1,p.2⟩:ak)).flatMap ak.enc=List.flatMap (enc uPort) l:=by
 induction l with
 |nil=>rfl
 |cons x l ih=>rw[List.map_cons,List.flatMap_cons,List.flatMap_cons,ih];rfl
theorem LY(a:NAgent):(gA a).enc=enc uAgent a:=by
 show[_,_,_,D.sl _ _,D.sl _ _]=[_]++([_]++([_]++([_]++[_])));simp only[List.cons_append,List.nil_append,gA];rw[Kg,←enc_ints,List.length_map]
abbrev P6:=Int×Int
def resN(xs:List NAgent):Nat→P6→P6×Bool
 |0,w=>(w,false)
 |k+1,w=>bif (w.1 !=2)||(agAt xs w.2).2.2.2.2.length==0 then(w,true)else resN xs k ((agAt xs w.2).2.2.2.2.getD 0 (0,0))
def vK{α:Type}(g:α→Bool):List α→Int→Int
 |[],_=> -1
 |x::l,k=>bif g x then k else vK g l (k+1)
theorem yY{α:Type}(d:α){xs:List α}{i:Nat}(h:i<xs.length):xs.drop i=xs.getD i d::xs.drop (i+1):=by
 rw[List.getD_eq_getElem?_getD,List.getElem?_eq_getElem h];exact List.drop_eq_getElem_cons h
theorem xO(n:Nat)(f:Nat→Bool):bR (n+1) f=(bR n f&&f n):=by simp[bR,List.range_succ]
def Wf(a:NAgent):Prop:=bL (gA a)=true
theorem dB{a:NAgent}(h:Wf a):bf a.1 a.2.1=true∧dL (gA a)=true∧(a.2.2.2.2.length:Int)=bC a.1 (cB a.1 a.2.2.2.2.length)∧0<a.2.2.2.2.length:=by
 unfold Wf bL at h;simp only[Bool.and_eq_true,decide_eq_true_eq,beq_iff_eq]at h;obtain⟨⟨⟨h1,h2⟩,h3⟩,h4⟩:=h;have e:((gA a).ports.length:Int)=(a.2.2.2.2.length:Int):=by simp[gA]
 have e2:fieldsOf (gA a)=cB a.1 a.2.2.2.2.length:=by unfold fieldsOf;rw[e];rfl
 rw[e,e2]at h2;rw[e2]at h1;exact⟨h3,h4,h2,by(have:0<bC a.1 (cB a.1 a.2.2.2.2.length):=h1);omega⟩
theorem Ee{a:NAgent}(h:Wf a):1≤a.1∧a.1≤12:=by
 have:=(dB h).1;unfold bf iM at this;simp only[Bool.and_eq_true]at this;exact inB_t this.1
theorem wf_ports{a:NAgent}(h:Wf a):(a.1=1∨a.1=5∨a.1=6∨a.1=12→a.2.2.2.2.length=1)∧(a.1=8∨a.1=10∨a.1=11→a.2.2.2.2.length=2)∧(a.1=2∨a.1=3∨a.1=4∨a.1=7→a.2.2.2.2.length=3)∧(a.1=9→1≤a.2.2.2.2.length∧a.2.2.2.2.length≤4):=by
 obtain⟨_,_,h3,h4⟩:=dB h;have hf:∀k:Int,k≠9→cB k a.2.2.2.2.length=0:=fun k hk=>by unfold cB;rw[if_neg (by simpa using hk)]
 refine⟨fun e=> ?_,fun e=> ?_,fun e=> ?_,fun e=> ?_⟩
 ·have k9:a.1≠9:=by omega
  rw[hf _ k9]at h3;unfold bC at h3;rw[if_neg k9,if_pos rfl,if_pos e]at h3;omega
 ·have k9:a.1≠9:=by omega
  rw[hf _ k9]at h3;unfold bC at h3;rw[if_neg k9,if_pos rfl,if_neg (by omega),if_pos e]at h3;omega
 ·have k9:a.1≠9:=by omega
  rw[hf _ k9]at h3;unfold bC at h3;rw[if_neg k9,if_pos rfl,if_neg (by omega),if_neg (by omega),if_pos e]at h3;omega
 ·rw[e]at h3;unfold bC cB at h3;simp only[beq_self_eq_true,if_true]at h3
  by_cases hb:inB ((a.2.2.2.2.length:Int)-1) 0 3=true
  ·have:=inB_t hb;omega
  ·rw[if_neg hb]at h3;omega
theorem eH{ka la kb lb c:Int}(h:rule ka la kb lb=c)(h0:c≠0):
  (c=1→ka=2∧kb=3)∧(c=2→ka=4∧kb=4)∧(c=3→ka=4)∧(c=4→ka=5)∧(c=5→ka=6∧(kb=7∨kb=8))∧(c=6→(ka=6∧kb=11)∨(ka=9∧kb=10))∧(c=7→ka=12∧(kb=3∨kb=7∨kb=8∨kb=10∨kb=11)):=by
 unfold rule at h;split at h
 ·subst h;simp_all
 split at h
 ·split at h
  ·rename_i h1;simp only[Bool.and_eq_true,beq_iff_eq]at h1;subst h;simp_all
  ·split at h
   ·subst h;simp_all
   ·omega
 split at h
 ·split at h
  ·rename_i h1;simp only[Bool.and_eq_true,beq_iff_eq]at h1;subst h;simp_all
  ·omega
 split at h
 ·split at h
  ·rename_i h1;simp only[Bool.or_eq_true,beq_iff_eq]at h1;subst h;simp_all
  ·split at h
   ·rename_i h1;simp only[beq_iff_eq]at h1;subst h;simp_all
   ·omega
 split at h
 ·split at h
  ·rename_i h1;simp only[beq_iff_eq]at h1;subst h;simp_all
  ·omega
 split at h
 ·split at h
  ·rename_i h1;unfold lH at h1;simp only[Bool.or_eq_true,beq_iff_eq]at h1;subst h;refine⟨by simp,by simp,by simp,by simp,by simp,by simp,fun _=>⟨by assumption,by omega⟩⟩
  ·omega
 ·omega
theorem zN(ka la kb lb:Int):(aG ka la kb lb=2→rule kb lb ka la=aC ka la kb lb∧aC ka la kb lb≠0)∧(aG ka la kb lb=1→rule ka la kb lb=aC ka la kb lb∧aC ka la kb lb≠0)∧(aG ka la kb lb=0∨aG ka la kb lb=1∨aG ka la kb lb=2):=by
 unfold aG aC;cases jl ka la kb lb with
 |false=>simp
 |true=>
  simp only[if_true]
  by_cases h1:rule ka la kb lb=0<;>by_cases h2:rule kb lb ka la=0<;>simp[h1,h2]
theorem GH{xs:List NAgent}{a b:Int}(hc:1≤aC (agAt xs a).1 (agAt xs a).2.1 (agAt xs b).1 (agAt xs b).2.1∧aC (agAt xs a).1 (agAt xs a).2.1 (agAt xs b).1 (agAt xs b).2.1≤7):
  rule (agAt xs (aj xs a b).1).1 (agAt xs (aj xs a b).1).2.1 (agAt xs (aj xs a b).2).1 (agAt xs (aj xs a b).2).2.1=aC (agAt xs a).1 (agAt xs a).2.1 (agAt xs b).1 (agAt xs b).2.1:=by
 obtain⟨h2,h1,h3⟩:=zN (agAt xs a).1 (agAt xs a).2.1 (agAt xs b).1 (agAt xs b).2.1;unfold aj;rcases h3 with e|e|e
 ·exfalso;unfold aG at e;unfold aC at hc;cases hp:jl (agAt xs a).1 (agAt xs a).2.1 (agAt xs b).1 (agAt xs b).2.1 with
  |false=>rw[hp]at hc;simp at hc
  |true=>
   rw[hp]at e hc;simp only[if_true]at e hc;split at e
   ·rename_i r1;rw[if_pos r1]at hc;split at e
    ·rename_i r2;rw[if_pos r2]at hc;omega
    ·omega
   ·omega
 ·rw[e];exact(h1 e).1
 ·rw[e];exact(h2 e).1
def sig(a:NAgent):Int×Int×Int×List Int×Nat:=(a.1,a.2.1,a.2.2.1,a.2.2.2.1,a.2.2.2.2.length)
theorem Ef{a b:NAgent}(h:sig a=sig b):Wf a↔Wf b:=by
 unfold sig at h;simp only[Prod.mk.injEq]at h;obtain⟨h1,h2,h3,h4,h5⟩:=h
 have e:bL (gA a)=bL (gA b):=by
  unfold bL fieldsOf dL gA;simp only[List.length_map,h1,h2,h3,h4,h5]
 unfold Wf;rw[e]
def cO(xs ys:List NAgent):Prop:=xs.length=ys.length∧∀i:Int,0≤i→i<(xs.length:Nat)→sig (agAt xs i)=sig (agAt ys i)
theorem cO.refl(xs:List NAgent):cO xs xs:=⟨rfl,fun _ _ _=>rfl⟩
theorem cO.setPort{xs ys:List NAgent}(h:cO xs ys)(p q:NPort):cO (ay xs p q) ys:=by
 refine⟨by rw[bn];exact h.1,fun i h0 h1=> ?_⟩;rw[bn]at h1;rw[←h.2 i h0 h1,bW];split
 ·rename_i e;rw[uT (xs:=xs) e.1];unfold sig;simp only[List.length_set,NAgent.ports]
 ·rfl
theorem cO.link{xs ys:List NAgent}(h:cO xs ys)(p q:NPort):cO (aR xs p q) ys:=(h.setPort p q).setPort q p
theorem cO.move{xs ys:List NAgent}(h:cO xs ys)(p q:NPort):cO (bG xs p q) ys:=h.link _ _
theorem cO.join{xs ys:List NAgent}(h:cO xs ys)(p q:NPort):cO (aB xs p q) ys:=by
 unfold aB;cases ((peerN xs p).1==q.1&&(peerN xs p).2==q.2)with
 |true=>exact h
 |false=>exact h.link _ _
theorem cO.app{xs ys:List NAgent}(h:cO xs ys)(zs:List NAgent):cO (xs++zs) (ys++zs):=by
 refine⟨by rw[List.length_append,List.length_append,h.1],fun i h0 h1=> ?_⟩;rw[List.length_append]at h1
 by_cases hl:i<(xs.length:Nat)
 ·rw[bD (by omega),bD (by rw[←h.1];omega)];exact h.2 i h0 hl
 ·have:∀ws:List NAgent,ws.length=xs.length→agAt (ws++zs) i=zs.getD (i.toNat-xs.length) (dflt uAgent):=fun ws hw=>by
   unfold agAt elt;rw[List.getD_eq_getElem?_getD,List.getElem?_append_right (by omega),hw,List.getD_eq_getElem?_getD]
  rw[this xs rfl,this ys h.1.symm]
theorem I5(y:Int)(xs:List NAgent):∀k,cO (nZ y xs k) (xs++List.replicate k (aJ 5 0 0 [] 1))
 |0=>by rw[List.replicate_zero,List.append_nil];exact cO.refl _
 |k+1=>by
  unfold nZ;rw[List.replicate_succ',←List.append_assoc];exact((I5 y xs k).app _).move _ _
theorem EU(lab c d:Int)(P:List NAgent):∀k,cO (aF lab c d P k) (P++List.replicate k (aJ 4 lab 0 [] 3))
 |0=>by rw[List.replicate_zero,List.append_nil];exact cO.refl _
 |k+1=>by
  unfold aF sD;rw[List.replicate_succ',←List.append_assoc];exact(((EU lab c d P k).app _).link _ _).link _ _
theorem BN{y:Int}{b:Nat}{P Q:List NAgent}(h:cO P Q):∀k,cO (bB y b P k) Q
 |0=>h
 |k+1=>(BN h k).move _ _
theorem R6:Wf (aJ 5 0 0 [] 1):=by unfold Wf;decide
theorem J7{k l:Int}(h:bf k l=true):l=0∨(0≤l∧l≤8):=by
 unfold bf at h;simp only[Bool.and_eq_true,Bool.or_eq_true,beq_iff_eq]at h;rcases h.2 with h|h
 ·exact .inl h
 ·exact .inr (inB_t h.2)
theorem uU{k l:Int}(hk:k=3∨k=4∨k=8∨k=12)(h:l=0∨(0≤l∧l≤8)):bf k l=true:=by
 have h1:iM k=true:=rE (by omega) (by omega)
 have h2:aU k=true:=by
  unfold aU;rw[h1];rcases hk with rfl|rfl|rfl|rfl<;>decide
 unfold bf;rw[h1,h2];rcases h with rfl|h
 ·rfl
 ·rw[show tC l=true from rE h.1 h.2];simp
theorem Gi{k lv v:Int}{d:List Int}{n:Nat}(h1:bf k lv=true)(h2:dL (gA (aJ k lv v d n))=true)(h3:(n:Int)=bC k (cB k n))(h4:0<n):Wf (aJ k lv v d n):=by
 unfold Wf bL;have e:((gA (aJ k lv v d n)).ports.length:Int)=(n:Int):=by simp[gA,aJ]
 have e2:fieldsOf (gA (aJ k lv v d n))=cB k n:=by unfold fieldsOf;rw[e];rfl
 rw[e2,e];show(decide (0<bC k (cB k n))&&(n:Int)==bC k (cB k n)&&bf k lv&&dL (gA (aJ k lv v d n)))=true;rw[←h3,h1,h2];simp only[beq_self_eq_true,Bool.and_true,decide_eq_true_eq];omega
theorem R7{lv:Int}(h:lv=0∨(0≤lv∧lv≤8)):Wf (aJ 4 lv 0 [] 3):=Gi (uU (by omega) h) rfl rfl (by decide)
theorem R5{lv:Int}(h:lv=0∨(0≤lv∧lv≤8)):Wf (aJ 3 lv 0 [] 3):=Gi (uU (by omega) h) rfl rfl (by decide)
theorem NV{lv v:Int}(h:lv=0∨(0≤lv∧lv≤8))(hv:iF v=true):Wf (aJ 12 lv v [] 1):=Gi (uU (by omega) h) (by show((((0:Nat):Int)==0)&&iF v)=true;rw[hv];rfl) rfl (by decide)
theorem R8{v:Int}(hv:nJ v=true):Wf (aJ 6 0 v [] 1):=Gi (by decide) (by show((((0:Nat):Int)==0)&&nJ v)=true;rw[hv];rfl) rfl (by decide)
theorem R9{lv v w:Int}(h:lv=0∨(0≤lv∧lv≤8))(hv:iB v=true)(hw:nJ w=true):Wf (aJ 8 lv v [w] 2):=Gi (uU (by omega) h) (by show(((((1:Nat):Int)==1)&&iB v)&&nJ (bO [w] 0))=true;rw[hv,show bO [w] 0=w from rfl,hw];rfl) rfl (by decide)
theorem J3{a:NAgent}(h:Wf a):Wf (aJ a.1 a.2.1 a.2.2.1 a.2.2.2.1 a.2.2.2.2.length):=(Ef (by unfold sig aJ;simp)).2 h
theorem rZ{a:NAgent}(h:Wf a):a.2.1=0∨(0≤a.2.1∧a.2.1≤8):=J7 (dB h).1
theorem NT{a:NAgent}(h:Wf a)(k:a.1=6):nJ a.2.2.1=true:=by
 have:=(dB h).2.1;unfold dL gA at this;simp only[k,beq_self_eq_true,if_true,Bool.and_eq_true]at this;exact this.2
theorem PZ{a:NAgent}(h:Wf a)(k:a.1=7):iB a.2.2.1=true:=by
 have:=(dB h).2.1;unfold dL gA at this;simp only[k]at this;simp at this;exact this.2
theorem NU{a:NAgent}(h:Wf a)(k:a.1=8):a.2.2.2.1.length=1∧iB a.2.2.1=true∧nJ (bO a.2.2.2.1 0)=true:=by
 have:=(dB h).2.1;unfold dL gA at this;simp only[k]at this;simp at this;exact⟨by omega,this.1.2,this.2⟩
theorem IV{l:List Int}(h:jd l=true){i:Int}(h0:0≤i)(h1:i<(l.length:Nat)):iF (fP l i)=true:=by
 unfold jd bR at h;rw[List.all_eq_true]at h;have:=h i.toNat (List.mem_range.2 (by omega));exact this
theorem NS{a:NAgent}(h:Wf a)(k:a.1=10):1≤a.2.2.2.1.length∧a.2.2.2.1.length≤4∧jd a.2.2.2.1=true:=by
 have:=(dB h).2.1;unfold dL gA at this;simp only[k]at this;simp at this;have h2:=inB_t this.1.2;exact⟨by omega,by omega,this.2⟩
theorem Ar{a:NAgent}(h:Wf a)(k:a.1=11):a.2.2.2.1.length=2∧jd a.2.2.2.1=true:=by
 have:=(dB h).2.1;unfold dL gA at this;simp only[k]at this;simp at this;exact⟨by omega,this.2⟩
theorem p9{a:NAgent}(h:Wf a)(k:a.1=12):0≤a.2.2.1∧a.2.2.1≤23:=by
 have:=(dB h).2.1;unfold dL gA at this;simp only[k]at this;simp at this;exact inB_t this.2
theorem Aq{a:NAgent}(h:Wf a)(k:a.1=9):0≤a.2.2.1∧a.2.2.1≤3:=by
 have:=(dB h).2.1;unfold dL gA at this;simp only[k]at this;simp at this;exact inB_t this.2
theorem wf_data{a:NAgent}(h:Wf a):a.2.2.2.1.length≤4:=by
 have:=(dB h).2.1;unfold dL gA at this;dsimp only at this;split at this
 ·simp at this;rw[this.1];decide
 split at this
 ·simp at this;rw[this.1];decide
 split at this
 ·simp at this;omega
 split at this
 ·simp at this;rw[this.1];decide
 split at this
 ·simp at this;rw[this.1];decide
 split at this
 ·simp at this;have:=inB_t this.1.2;omega
 split at this
 ·simp at this;omega
 ·simp at this;rw[this.2];decide
def CB(D:Int→Prop)(xs:List NAgent):Prop:=∀i:Int,0≤i→i<(xs.length:Nat)→¬D i→Wf (agAt xs i)
theorem CB.grow{D E:Int→Prop}{xs xs' zs:List NAgent}(h:CB D xs)(hs:cO xs' (xs++zs))(hz:∀z∈zs,Wf z)(hE:∀i,D i→E i):CB E xs':=fun i h0 h1 hi=>by
 rw[Ef (hs.2 i h0 h1)]
 by_cases hl:i<(xs.length:Nat)
 ·rw[bD (by omega)];exact h i h0 hl fun k=>hi (hE i k)
 ·have hln:=hs.1;rw[List.length_append]at hln;have hlt:i.toNat-xs.length<zs.length:=by omega
  have e:agAt (xs++zs) i=zs[i.toNat-xs.length]:=by
   unfold agAt elt;rw[List.getD_eq_getElem?_getD,List.getElem?_append_right (by omega),List.getElem?_eq_getElem hlt];rfl
  rw[e];exact hz _ (List.getElem_mem hlt)
structure BkW(bk:List (List NAgent)):Prop where
 wi:∀v:Int,0≤v→v<(bk.length:Nat)→Wired (fun p=>PortIn (aS bk v) p) (aS bk v)
 r0:∀v:Int,0≤v→v<(bk.length:Nat)→PortIn (aS bk v) (0,0)
 r1:∀v:Int,0≤v→v<(bk.length:Nat)→∀p,PortIn (aS bk v) p→p.1=0→p=(0,0)
 wf:∀v:Int,0≤v→v<(bk.length:Nat)→∀i:Int,0≤i→i<((aS bk v).length:Nat)→Wf (agAt (aS bk v) i)
def pK(bk:List (List NAgent))(xs:List NAgent)(c x y:Int):List NAgent:=
 bif c==3 then[jN xs y]++[jN xs y]++List.replicate ((agAt xs y).2.2.2.2.length-1) (aJ 4 (agAt xs x).2.1 0 [] 3)
 else bif c==4 then List.replicate ((agAt xs y).2.2.2.2.length-1) (aJ 5 0 0 [] 1)
 else bif c==5 then(bif (agAt xs y).1==7 then[aJ 8 (agAt xs y).2.1 (agAt xs y).2.2.1 [(agAt xs x).2.2.1] 2]else[aJ 6 0 (rQ (agAt xs y).2.2.1 (fP (agAt xs y).2.2.2.1 0) (agAt xs x).2.2.1) [] 1])
 else bif c==6 then(bif (agAt xs x).1==6 then[aJ 12 (agAt xs y).2.1 (fP (agAt xs y).2.2.2.1 (bif (agAt xs x).2.2.1==0 then 1 else 0)) [] 1]
  else[aJ 12 (agAt xs y).2.1 (fP (agAt xs y).2.2.2.1 (agAt xs x).2.2.1) [] 1]++List.replicate ((agAt xs x).2.2.2.2.length-1) (aJ 3 (agAt xs y).2.1 0 [] 3))
 else bif c==7 then((jM bk xs x).drop 1).map (bg ((xs.length:Nat)-1))else[]
section
variable {D:Int→Prop}{xs ys:List NAgent}{x y:Int}{bk:List (List NAgent)}
theorem IB{x:Int}{b:Nat}{P Q:List NAgent}(h:cO P Q):∀k,cO (yQ x b P k) Q
 |0=>h
 |k+1=>(IB h k).move _ _
theorem IE(lv:Int)(b:Nat)(P:List NAgent):∀k,cO (mG lv b P k) (P++List.replicate k (aJ 3 lv 0 [] 3))
 |0=>by rw[List.replicate_zero,List.append_nil];exact cO.refl _
 |k+1=>by
  unfold mG;rw[List.replicate_succ',←List.append_assoc];exact((IE lv b P k).app _).link _ _
theorem BG{c:Int}(hc:1≤c∧c≤7)(hx:x.toNat<xs.length):cO (dQ bk xs c x y) (xs++pK bk xs c x y):=by
 have hcs:c=1∨c=2∨c=3∨c=4∨c=5∨c=6∨c=7:=by omega
 rcases hcs with rfl|rfl|rfl|rfl|rfl|rfl|rfl
 ·show cO (aB (aB xs (x,1) (y,1)) (x,2) (y,2)) (xs++[]);rw[List.append_nil];exact((cO.refl xs).join _ _).join _ _
 ·show cO (aB (aB xs (x,1) (y,1)) (x,2) (y,2)) (xs++[]);rw[List.append_nil];exact((cO.refl xs).join _ _).join _ _
 ·show cO (aO xs x y) (xs++([jN xs y]++[jN xs y]++List.replicate ((agAt xs y).2.2.2.2.length-1) (aJ 4 (agAt xs x).2.1 0 [] 3)));unfold aO iT dup3
  have e:(agAt (dup2 xs y) x).2.1=(agAt xs x).2.1:=by
   unfold dup2;rw[bD (by rw[List.length_append];omega),bD hx]
  rw[←(iI (x:=x) (by rw[dM];omega) _).1,e];refine BN ((cO.move ?_ _ _).move _ _) _;rw[←List.append_assoc,←List.append_assoc];exact EU _ _ _ _ _
 ·exact I5 y xs _
 ·show cO (aM xs x y) (xs++(bif (agAt xs y).1==7 then[aJ 8 (agAt xs y).2.1 (agAt xs y).2.2.1 [(agAt xs x).2.2.1] 2]else[aJ 6 0 (rQ (agAt xs y).2.2.1 (fP (agAt xs y).2.2.2.1 0) (agAt xs x).2.2.1) [] 1]));unfold aM;cases (agAt xs y).1==7 with
  |true=>exact(((cO.refl xs).app _).move _ _).move _ _
  |false=>exact((cO.refl xs).app _).move _ _
 ·show cO (iw xs x y) (xs++(bif (agAt xs x).1==6 then[aJ 12 (agAt xs y).2.1 (fP (agAt xs y).2.2.2.1 (bif (agAt xs x).2.2.1==0 then 1 else 0)) [] 1]
   else[aJ 12 (agAt xs y).2.1 (fP (agAt xs y).2.2.2.1 (agAt xs x).2.2.1) [] 1]++List.replicate ((agAt xs x).2.2.2.2.length-1) (aJ 3 (agAt xs y).2.1 0 [] 3)))
  unfold iw;cases (agAt xs x).1==6 with
  |true=>exact((cO.refl xs).app _).move _ _
  |false=>
   simp only[cond_false];rw[←List.append_assoc];exact(IB (IE _ _ _ _) _).move _ _
 ·exact((cO.refl xs).app _).link _ _
theorem Mj{c:Int}(h:St D xs ys)(k:jO D xs x y)(hD:∀i,D i→i<(xs.length:Nat))(hw:CB D xs)(hr:rule (agAt xs x).1 (agAt xs x).2.1 (agAt xs y).1 (agAt xs y).2.1=c)(hc:1≤c∧c≤7)(hb:BkW bk)(h7:c=7→(agAt xs x).2.2.1<(bk.length:Nat)):
  St (fun i=>D i∨i∈dG c x y) (dQ bk xs c x y) (dF bk ys c x y):=by
 have wx:=hw x k.px.1 k.px.2.1 k.lx;have wy:=hw y k.py.1 k.py.2.1 k.ly;obtain⟨x1,x2,x3,x4⟩:=wf_ports wx;obtain⟨y1,y2,y3,y4⟩:=wf_ports wy;obtain⟨r1,r2,r3,r4,r5,r6,r7⟩:=eH hr (by omega)
 have mono:∀{E:Int→Prop} {A B:List NAgent},(∀i,E i↔D i∨i=x∨i=y)→St (fun i=>D i∨i=x∨i=y) A B→St E A B:=fun {E A B} e s=>by
  have:E=fun i=>D i∨i=x∨i=y:=funext fun i=>propext (e i)
  rw[this];exact s
 have g2:c≠7→∀i,(D i∨i∈dG c x y)↔D i∨i=x∨i=y:=fun hne i=>by
  unfold dG;rw[show(c==7)=false by simpa using hne];simp
 have hcs:c=1∨c=2∨c=3∨c=4∨c=5∨c=6∨c=7:=by omega
 rcases hcs with rfl|rfl|rfl|rfl|rfl|rfl|rfl
 ·obtain⟨a,b⟩:=r1 rfl;exact mono (g2 (by decide)) (h.joins k (x3 (by omega)) (y3 (by omega)))
 ·obtain⟨a,b⟩:=r2 rfl;exact mono (g2 (by decide)) (h.joins k (x3 (by omega)) (y3 (by omega)))
 ·exact mono (g2 (by decide)) (h.duplicate k hD (x3 (by have:=r3 rfl;omega)) (dB wy).2.2.2)
 ·exact mono (g2 (by decide)) (h.erase k hD (x1 (by have:=r4 rfl;omega)))
 ·obtain⟨a,b⟩:=r5 rfl;exact mono (g2 (by decide)) (h.operate k hD (x1 (by omega)) (fun e=>y3 (by omega)) (fun e=>y2 (by omega)))
 ·have q:=r6 rfl;exact mono (g2 (by decide)) (h.choose k hD (by omega) (fun e=>x1 (by omega)) (dB wx).2.2.2 (y2 (by omega)))
 ·obtain⟨a,b⟩:=r7 rfl;have v:=p9 wx a;have e:(fun i=>D i∨i∈dG 7 x y)=fun i=>D i∨i=x:=funext fun i=>propext (by unfold dG;simp)
  rw[e];exact h.expand k hD (x1 (by omega)) (hb.wi _ v.1 (h7 rfl)) (hb.r0 _ v.1 (h7 rfl)) (hb.r1 _ v.1 (h7 rfl))
end
end Go.Tr
namespace Go.Tr
open Go Go.RowKit
theorem wG(x:Int):nJ (kg x)=true:=by
 have h: -2147483648≤IntKind.i32.wrap x∧IntKind.i32.wrap x≤2147483647:=by
  simp only[IntKind.wrap,IntKind.bits,IntKind.signed];simp;omega
 unfold kg;rw[IntWalk.i64_in _ (by omega)];exact rE h.1 h.2
theorem Ph(o a b:Int):nJ (rQ o a b)=true:=by
 unfold rQ;cases o==1 with
 |true=>exact wG _
 |false=>
 cases o==2 with
 |true=>exact wG _
 |false=>
 cases o==3 with
 |true=>exact wG _
 |false=>
 cases o==4 with
 |true=>
  cases kg b==0 with
  |true=>rfl
  |false=>exact wG _
 |false=>
 cases o==5 with
 |true=>cases decide (kg a<kg b)<;>rfl
 |false=>
 cases o==6 with
 |true=>cases kg a==kg b<;>rfl
 |false=>rfl
theorem NW{lv:Int}{a:NAgent}(h:Wf a)(h0:0≤lv)(h8:(!(aU a.kind)||decide (a.level+lv≤8))=true):Wf (fH lv a):=by
 unfold fH;cases hl:aU a.kind with
 |false=>exact h
 |true=>
  have h9:a.2.1+lv≤8:=by
   rw[show NAgent.kind a=a.1 from rfl]at*;rw[hl]at h8;simpa using h8
  have hp:=dB h;have hlev:=rZ h;unfold Wf bL at h ⊢;simp only[Bool.and_eq_true]at h ⊢;obtain⟨⟨⟨q1,q2⟩,q3⟩,q4⟩:=h;refine⟨⟨⟨q1,q2⟩,?_⟩,q4⟩;show bf a.1 (a.2.1+lv)=true;have q5:bf a.1 a.2.1=true:=q3;unfold bf at q5 ⊢;simp only[Bool.and_eq_true,Bool.or_eq_true]at q5 ⊢;exact⟨q5.1,.inr ⟨hl,rE (by omega) h9⟩⟩
theorem Kz(b:Int)(a:NAgent):sig (bg b a)=sig a:=by unfold sig bg;simp
section
variable {D:Int→Prop}{xs:List NAgent}{x y:Int}{bk:List (List NAgent)}
theorem BH{c:Int}(hw:CB D xs)(hx:0≤x∧x<(xs.length:Nat))(hy:0≤y∧y<(xs.length:Nat))(lx:¬D x)(ly:¬D y)(hr:rule (agAt xs x).1 (agAt xs x).2.1 (agAt xs y).1 (agAt xs y).2.1=c)(hc:1≤c∧c≤7)(hb:BkW bk)
  (h6:c=6→(agAt xs x).1=9→(agAt xs x).2.2.1<((agAt xs y).2.2.2.1.length:Nat)) (h7:c=7→(agAt xs x).2.2.1<(bk.length:Nat)∧dA (agAt xs x).2.1 (aS bk (agAt xs x).2.2.1)=true):CB D (dQ bk xs c x y):=by
 have wx:=hw x hx.1 hx.2 lx;have wy:=hw y hy.1 hy.2 ly;have lvx:=rZ wx;have lvy:=rZ wy;obtain⟨r1,r2,r3,r4,r5,r6,r7⟩:=eH hr (by omega);refine hw.grow (BG hc (by omega)) ?_ fun i e=>e
 have hcs:c=1∨c=2∨c=3∨c=4∨c=5∨c=6∨c=7:=by omega
 rcases hcs with rfl|rfl|rfl|rfl|rfl|rfl|rfl
 ·intro z hz;cases hz
 ·intro z hz;cases hz
 ·intro z hz;have hz':z∈[jN xs y]++[jN xs y]++List.replicate ((agAt xs y).2.2.2.2.length-1) (aJ 4 (agAt xs x).2.1 0 [] 3):=hz;rw[List.mem_append,List.mem_append,List.mem_singleton]at hz';rcases hz' with(e|e)|e
  ·rw[e];exact J3 wy
  ·rw[e];exact J3 wy
  ·rw[List.eq_of_mem_replicate e];exact R7 lvx
 ·intro z hz;have hz':z∈List.replicate ((agAt xs y).2.2.2.2.length-1) (aJ 5 0 0 [] 1):=hz;rw[List.eq_of_mem_replicate hz'];exact R6
 ·obtain⟨a,b⟩:=r5 rfl;intro z hz;have hz':z∈(bif (agAt xs y).1==7 then[aJ 8 (agAt xs y).2.1 (agAt xs y).2.2.1 [(agAt xs x).2.2.1] 2]else[aJ 6 0 (rQ (agAt xs y).2.2.1 (fP (agAt xs y).2.2.2.1 0) (agAt xs x).2.2.1) [] 1]):=hz;cases hk:(agAt xs y).1==7 with
  |true=>
   rw[hk,cond_true,List.mem_singleton]at hz';rw[hz'];exact R9 lvy (PZ wy (by simpa using hk)) (NT wx a)
  |false=>
   rw[hk,cond_false,List.mem_singleton]at hz';rw[hz'];exact R8 (Ph _ _ _)
 ·have q:=r6 rfl;intro z hz
  have hz':z∈(bif (agAt xs x).1==6 then[aJ 12 (agAt xs y).2.1 (fP (agAt xs y).2.2.2.1 (bif (agAt xs x).2.2.1==0 then 1 else 0)) [] 1]
   else[aJ 12 (agAt xs y).2.1 (fP (agAt xs y).2.2.2.1 (agAt xs x).2.2.1) [] 1]++List.replicate ((agAt xs x).2.2.2.2.length-1) (aJ 3 (agAt xs y).2.1 0 [] 3)):=hz
  rcases q with⟨a,b⟩|⟨a,b⟩
  ·rw[show((agAt xs x).1==6)=true by simpa using a,cond_true,List.mem_singleton]at hz';obtain⟨l2,d⟩:=Ar wy b;rw[hz'];refine NV lvy (IV d ?_ ?_)
   ·cases (agAt xs x).2.2.1==0<;>decide
   ·rw[l2];cases (agAt xs x).2.2.1==0<;>decide
  ·rw[show((agAt xs x).1==6)=false by simp[a],cond_false,List.mem_append,List.mem_singleton]at hz';obtain⟨_,_,d⟩:=NS wy b;rcases hz' with e|e
   ·rw[e];exact NV lvy (IV d (Aq wx a).1 (h6 rfl a))
   ·rw[List.eq_of_mem_replicate e];exact R5 lvy
 ·obtain⟨a,b⟩:=r7 rfl;obtain⟨v1,v2⟩:=h7 rfl;intro z hz;have hz':z∈((jM bk xs x).drop 1).map (bg ((xs.length:Nat)-1)):=hz;obtain⟨w,hw1,rfl⟩:=List.mem_map.1 hz';rw[Ef (Kz _ w)];have hw2:=List.mem_of_mem_drop hw1;unfold jM aY at hw2;obtain⟨u,hu,rfl⟩:=List.mem_map.1 hw2;obtain⟨i,hi,rfl⟩:=List.mem_iff_getElem.1 hu;have hv:=p9 wx a;have wu:=hb.wf _ hv.1 v1 (i:Nat) (by omega) (by omega)
  have e:agAt (aS bk (agAt xs x).2.2.1) (i:Nat)=(aS bk (agAt xs x).2.2.1)[i]:=by
   generalize aS bk (agAt xs x).2.2.1=t at*;unfold agAt elt;rw[Int.toNat_natCast,List.getD_eq_getElem?_getD,List.getElem?_eq_getElem hi];rfl
  rw[e]at wu;refine NW wu (by omega) ?_;unfold dA at v2;exact List.all_eq_true.1 v2 _ hu
theorem Mk{c:Int}(hw:CB D xs)(hx:0≤x∧x<(xs.length:Nat))(hy:0≤y∧y<(xs.length:Nat))(lx:¬D x)(ly:¬D y)(hr:rule (agAt xs x).1 (agAt xs x).2.1 (agAt xs y).1 (agAt xs y).2.1=c)(hc:1≤c∧c≤7)(hb:BkW bk)
  (h6:c=6→(agAt xs x).1=9→(agAt xs x).2.2.1<((agAt xs y).2.2.2.1.length:Nat)) (h7:c=7→(agAt xs x).2.2.1<(bk.length:Nat)∧dA (agAt xs x).2.1 (aS bk (agAt xs x).2.2.1)=true):CB (fun i=>D i∨i∈dG c x y) (dQ bk xs c x y):=fun i h0 h1 hi=>BH hw hx hy lx ly hr hc hb h6 h7 i h0 h1 fun e=>hi (.inl e)
end
end Go.Tr
namespace Go.Tr
open Go Go.RowKit
section
variable {D:Int→Prop}{xs ys:List NAgent}{x y a b:Int}{bk:List (List NAgent)}
theorem FM{u v:NAgent}(hu:Wf u)(hv:Wf v)(ru:u.1≠1)(rv:v.1≠1):jl u.1 u.2.1 v.1 v.2.1=true:=by
 unfold jl;rw[(dB hu).1,(dB hv).1];simp[ru,rv]
theorem Kc{u v:NAgent}(hu:Wf u)(hv:Wf v)(ru:u.1≠1)(rv:v.1≠1):1≤aC u.1 u.2.1 v.1 v.2.1∧aC u.1 u.2.1 v.1 v.2.1≤8:=by
 have hp:=FM hu hv ru rv;unfold aC;rw[hp,if_pos rfl];have r1:=qE u.1 u.2.1 v.1 v.2.1;have r2:=qE v.1 v.2.1 u.1 u.2.1;split
 ·split
  ·decide
  ·omega
 ·omega
theorem GI{u v:NAgent}(hu:Wf u)(hv:Wf v)(ru:u.1≠1)(rv:v.1≠1)(h8:aC u.1 u.2.1 v.1 v.2.1=8):aG u.1 u.2.1 v.1 v.2.1=0:=by
 have hp:=FM hu hv ru rv;unfold aC at h8;unfold aG;rw[hp,if_pos rfl]at h8;rw[hp,if_pos rfl];have r1:=qE u.1 u.2.1 v.1 v.2.1;have r2:=qE v.1 v.2.1 u.1 u.2.1;split at h8
 ·rename_i e1;rw[if_pos e1];split at h8
  ·rename_i e2;rw[if_pos e2]
  ·omega
 ·omega
theorem Gq{u v:NAgent}{c:Int}(hr:rule u.1 u.2.1 v.1 v.2.1=c)(hc:1≤c∧c≤7):jS u v=false∧lZ c u v=eD u v:=by
 obtain⟨r1,r2,r3,r4,r5,r6,r7⟩:=eH hr (by omega)
 have k2:u.1≠10:=by
  intro e;have:c=1∨c=2∨c=3∨c=4∨c=5∨c=6∨c=7:=by omega
  rcases this with h|h|h|h|h|h|h
  ·have:=r1 h;omega
  ·have:=r2 h;omega
  ·have:=r3 h;omega
  ·have:=r4 h;omega
  ·have:=r5 h;omega
  ·have:=r6 h;omega
  ·have:=r7 h;omega
 constructor
 ·unfold jS;rw[show(u.1==10)=false by simpa using k2];rfl
 ·unfold lZ eD
  have e:(bif c==6 then v.kind==10 else false)=(bif u.1==9 then v.1==10 else false):=by
   show(bif c==6 then v.1==10 else false)=_
   by_cases h9:u.1=9
   ·have hc6:c=6∨v.1≠10:=by
     by_cases hv:v.1=10
     ·left;rw[←hr];unfold rule;rw[h9,hv];rfl
     ·exact .inr hv
    rw[show(u.1==9)=true by simpa using h9,cond_true];rcases hc6 with h|h
    ·rw[h];rfl
    ·rw[show(v.1==10)=false by simpa using h];cases c==6<;>rfl
   ·rw[show(u.1==9)=false by simpa using h9,cond_false]
    by_cases h6:c=6
    ·have:=r6 h6;rw[show(v.1==10)=false by simp;omega];cases c==6<;>rfl
    ·rw[show(c==6)=false by simpa using h6];rfl
  rw[e]
theorem yU(ha:Wf (agAt xs a))(hb:Wf (agAt xs b))(ra:(agAt xs a).1≠1)(rb:(agAt xs b).1≠1):(aH (agAt xs a) (agAt xs b)).1=aQ (agAt xs (aj xs a b).1) (agAt xs (aj xs a b).2)∧
  ((aH (agAt xs a) (agAt xs b)).1≠8→(bif (aH (agAt xs a) (agAt xs b)).2 then b else a)=(aj xs a b).1∧(bif (aH (agAt xs a) (agAt xs b)).2 then a else b)=(aj xs a b).2∧
   rule (agAt xs (aj xs a b).1).1 (agAt xs (aj xs a b).1).2.1 (agAt xs (aj xs a b).2).1 (agAt xs (aj xs a b).2).2.1=(aH (agAt xs a) (agAt xs b)).1∧1≤(aH (agAt xs a) (agAt xs b)).1∧(aH (agAt xs a) (agAt xs b)).1≤7):=by
 have hp:=Kc ha hb ra rb
 by_cases h8:aC (agAt xs a).1 (agAt xs a).2.1 (agAt xs b).1 (agAt xs b).2.1=8
 ·have hf:=GI ha hb ra rb h8
  have e1:aH (agAt xs a) (agAt xs b)=(8,false):=by
   unfold aH lZ;rw[show(aG (agAt xs a).kind (agAt xs a).level (agAt xs b).kind (agAt xs b).level==2)=false by rw[show aG (agAt xs a).kind (agAt xs a).level (agAt xs b).kind (agAt xs b).level=0 from hf];rfl];rw[show aC (agAt xs a).kind (agAt xs a).level (agAt xs b).kind (agAt xs b).level=8 from h8];rfl
  have e2:aj xs a b=(a,b):=by unfold aj;rw[hf];rfl
  rw[e1,e2];refine⟨?_,fun h=>absurd rfl h⟩;unfold aQ;rw[h8];cases eD (agAt xs a) (agAt xs b)<;>cases jS (agAt xs a) (agAt xs b)<;>rfl
 ·have hc:1≤aC (agAt xs a).1 (agAt xs a).2.1 (agAt xs b).1 (agAt xs b).2.1∧aC (agAt xs a).1 (agAt xs a).2.1 (agAt xs b).1 (agAt xs b).2.1≤7:=by omega
  have hr:=GH (xs:=xs) (a:=a) (b:=b) hc;obtain⟨c1,c2⟩:=Gq hr hc
  have hcS:aQ (agAt xs (aj xs a b).1) (agAt xs (aj xs a b).2)=bif eD (agAt xs (aj xs a b).1) (agAt xs (aj xs a b).2)then 8 else aC (agAt xs a).1 (agAt xs a).2.1 (agAt xs b).1 (agAt xs b).2.1:=by
   unfold aQ;rw[c1]
   have:aC (agAt xs (aj xs a b).1).1 (agAt xs (aj xs a b).1).2.1 (agAt xs (aj xs a b).2).1 (agAt xs (aj xs a b).2).2.1=aC (agAt xs a).1 (agAt xs a).2.1 (agAt xs b).1 (agAt xs b).2.1:=by
    unfold aj;cases aG (agAt xs a).1 (agAt xs a).2.1 (agAt xs b).1 (agAt xs b).2.1==2 with
    |true=>exact tV _ _ _ _
    |false=>rfl
   rw[this];cases eD (agAt xs (aj xs a b).1) (agAt xs (aj xs a b).2)<;>rfl
  rw[hcS];generalize hC:aC (agAt xs a).1 (agAt xs a).2.1 (agAt xs b).1 (agAt xs b).2.1=c at*;cases hf:aG (agAt xs a).1 (agAt xs a).2.1 (agAt xs b).1 (agAt xs b).2.1==2 with
  |true=>
   have e2:aj xs a b=(b,a):=by unfold aj;rw[hf];rfl
   rw[e2]at hr c2 ⊢
   have e1:aH (agAt xs a) (agAt xs b)=bif eD (agAt xs b) (agAt xs a)then(8,false)else(c,true):=by
    unfold aH;rw[show(aG (agAt xs a).kind (agAt xs a).level (agAt xs b).kind (agAt xs b).level==2)=true from hf,show aC (agAt xs a).kind (agAt xs a).level (agAt xs b).kind (agAt xs b).level=c from hC];simp only[cond_true];rw[c2]
   rw[e1];cases eD (agAt xs b) (agAt xs a)with
   |true=>exact⟨rfl,fun h=>absurd rfl h⟩
   |false=>exact⟨rfl,fun _=>⟨rfl,rfl,hr,hc⟩⟩
  |false=>
   have e2:aj xs a b=(a,b):=by unfold aj;rw[hf];rfl
   rw[e2]at hr c2 ⊢
   have e1:aH (agAt xs a) (agAt xs b)=bif eD (agAt xs a) (agAt xs b)then(8,false)else(c,false):=by
    unfold aH;rw[show(aG (agAt xs a).kind (agAt xs a).level (agAt xs b).kind (agAt xs b).level==2)=false from hf,show aC (agAt xs a).kind (agAt xs a).level (agAt xs b).kind (agAt xs b).level=c from hC];simp only[cond_false];rw[c2]
   rw[e1];cases eD (agAt xs a) (agAt xs b)with
   |true=>exact⟨rfl,fun h=>absurd rfl h⟩
   |false=>exact⟨rfl,fun _=>⟨rfl,rfl,hr,hc⟩⟩
end
end Go.Tr
namespace Go.Tr
open Go Go.RowKit
section
variable {xs:List NAgent}{a b:Int}{bk:List (List NAgent)}
theorem OX{u v m:Int}:maxI u v≤m↔u≤m∧v≤m:=by
 unfold maxI;cases h:decide (v<u)with
 |true=>simp only[decide_eq_true_eq]at h;simp only[cond_true];omega
 |false=>simp only[decide_eq_false_iff_not]at h;simp only[cond_false];omega
theorem wU{t:List NAgent}{m:Int}(hm:0≤m):∀k:Nat,jv t k≤m↔∀i:Nat,i<k→(agAt t (i:Nat)).2.1≤m
 |0=>⟨fun _ i hi=>by omega,fun _=>hm⟩
 |k+1=>by
  unfold jv;rw[OX,wU hm k];constructor
  ·rintro⟨h1,h2⟩ i hi
   by_cases e:i=k
   ·rw[e];exact h2
   ·exact h1 i (by omega)
  ·intro h;exact⟨fun i hi=>h i (by omega),h k (by omega)⟩
theorem qV{t:List NAgent}{i:Nat}(hi:i<t.length):agAt t (i:Nat)=t[i]:=by
 unfold agAt elt;rw[Int.toNat_natCast,List.getD_eq_getElem?_getD,List.getElem?_eq_getElem hi];rfl
theorem Nv{t:List NAgent}{lv:Int}(ht:∀i:Int,0≤i→i<(t.length:Nat)→Wf (agAt t i))(h0:0≤lv)(h8:lv≤8):decide (8<IntKind.i64.wrap (jv t t.length+lv))= !dA lv t:=by
 have hb:jv t t.length≤8:=(wU (by decide) _).2 fun i hi=>by
  have:=rZ (ht (i:Nat) (by omega) (by omega));omega
 have hz:0≤jv t t.length:=by
  have:∀k:Nat,0≤jv t k:=fun k=>by
   induction k with
   |zero=>exact Int.le_refl 0
   |succ k ih=>unfold jv maxI;cases h:decide ((agAt t (k:Nat)).2.1<jv t k)with
    |true=>exact ih
    |false=>simp only[decide_eq_false_iff_not]at h;simp only[cond_false];omega
  exact this _
 rw[IntWalk.i64_in _ (by omega)]
 have key:dA lv t=decide (jv t t.length≤8-lv):=by
  rw[Bool.eq_iff_iff,decide_eq_true_eq,wU (by omega)];unfold dA;rw[List.all_eq_true];constructor
  ·intro h i hi;have q:=h _ (List.getElem_mem hi);have w:=ht (i:Nat) (by omega) (by omega);rw[←qV hi]at q;cases hl:aU (agAt t (i:Nat)).kind with
   |true=>
    rw[hl]at q;have:(agAt t (i:Nat)).2.1+lv≤8:=by simpa using q
    omega
   |false=>
    have q2:=(dB w).1;unfold bf at q2;rw[show aU (agAt t (i:Nat)).1=false from hl]at q2;simp only[Bool.false_and,Bool.or_false,Bool.and_eq_true,beq_iff_eq]at q2;omega
  ·intro h u hu;obtain⟨i,hi,rfl⟩:=List.mem_iff_getElem.1 hu;have q:=h i hi;rw[qV hi]at q;have:t[i].level+lv≤8:=by show t[i].2.1+lv≤8;omega
   simp[this]
 rw[key,←decide_not];exact decide_eq_decide.2 (by omega)
theorem Ox(ha:Wf (agAt xs a))(hb:Wf (agAt xs b))(ra:(agAt xs a).1≠1)(rb:(agAt xs b).1≠1)(hbk:BkW bk):
  ((dR bk (agAt xs (aj xs a b).1) (agAt xs (aj xs a b).2)).2≠0→(checkN bk xs (a,b)).2.2.2=(dR bk (agAt xs (aj xs a b).1) (agAt xs (aj xs a b).2)).2)∧
  ((dR bk (agAt xs (aj xs a b).1) (agAt xs (aj xs a b).2)).2=0→checkN bk xs (a,b)=(aQ (agAt xs (aj xs a b).1) (agAt xs (aj xs a b).2),(aj xs a b).1,(aj xs a b).2,0)∧
   ou bk xs (aQ (agAt xs (aj xs a b).1) (agAt xs (aj xs a b).2)) (aj xs a b).1 (aj xs a b).2=(dR bk (agAt xs (aj xs a b).1) (agAt xs (aj xs a b).2)).1∧
   (aQ (agAt xs (aj xs a b).1) (agAt xs (aj xs a b).2)=7→(agAt xs (aj xs a b).1).2.2.1<(bk.length:Nat)∧dA (agAt xs (aj xs a b).1).2.1 (aS bk (agAt xs (aj xs a b).1).2.2.1)=true)):=by
 obtain⟨e1,e2⟩:=yU ha hb ra rb
 have hx1:Wf (agAt xs (aj xs a b).1):=by
  unfold aj;cases aG (agAt xs a).1 (agAt xs a).2.1 (agAt xs b).1 (agAt xs b).2.1==2
  ·exact ha
  ·exact hb
 generalize hc:aQ (agAt xs (aj xs a b).1) (agAt xs (aj xs a b).2)=c at*;unfold dR checkN;rw[hc];simp only[e1]
 by_cases h8:c=8
 ·subst h8;refine⟨fun _=>rfl,fun h=> ?_⟩;cases h
 ·obtain⟨k1,k2,k3,k4,k5⟩:=e2 (by rw[e1];exact h8);rw[e1]at k3 k4 k5;have k1':(bif (aH (agAt xs a) (agAt xs b)).2 then((a,b):Int×Int).2 else((a,b):Int×Int).1)=(aj xs a b).1:=k1;have k2':(bif (aH (agAt xs a) (agAt xs b)).2 then((a,b):Int×Int).1 else((a,b):Int×Int).2)=(aj xs a b).2:=k2;rw[show(c==8)=false by simpa using h8];simp only[cond_false];rw[k1',k2'];generalize (aj xs a b).1=x at*;generalize (aj xs a b).2=y at*
  by_cases h7:c=7
  ·subst h7;obtain⟨_,_,_,_,_,_,r7⟩:=eH k3 (by decide);have hv:=p9 hx1 (r7 rfl).1;have hlv:=rZ hx1;rw[show((7:Int)==7)=true from rfl];simp only[cond_true];cases hd:decide ((bk.length:Int)≤(agAt xs x).2.2.1)with
   |true=>
    refine⟨fun _=>rfl,fun h=> ?_⟩;cases h
   |false=>
    simp only[decide_eq_false_iff_not]at hd;have hvl:(agAt xs x).2.2.1<(bk.length:Nat):=by omega
    rw[Nv (hbk.wf _ hv.1 hvl) (by omega) (by omega)];cases hs:dA (agAt xs x).2.1 (aS bk (agAt xs x).2.2.1)with
    |false=>
     refine⟨fun _=>rfl,fun h=> ?_⟩;cases h
    |true=>
     refine⟨fun h=>absurd rfl h,fun _=>⟨by first|rfl|trivial,by first|rfl|trivial,fun _=>⟨hvl,by first|rfl|trivial⟩⟩⟩
  ·rw[show(c==7)=false by simpa using h7];simp only[cond_false];refine⟨fun h=>absurd rfl h,fun _=>⟨by first|rfl|trivial,?_,fun h=>absurd h h7⟩⟩;rfl
end
end Go.Tr
namespace Go.Tr
open Go Go.RowKit
abbrev uEvent:U:=.pair (.int .i64) (.pair (.int .i64) (.pair (.int .i64) (.pair (.int .i64) (.int .i64))))
abbrev NEvent:=Int×Int×Int×Int×Int
def hasB(xs:List NAgent)(k:Int):Bool:=bif decide (0≤k)then decide (k<(xs.length:Nat))else false
def NC(xs:List NAgent)(kv:List (Int×Bool))(k:Int):Bool:=bif hasB xs k then !(kvGet false kv k)else false
def Og(xs:List NAgent)(a b:Int):Bool:=
 bif (bif (bif decide (a<b)then dO [(elt (dflt uPort) (agAt xs a).2.2.2.2 0).1,(elt (dflt uPort) (agAt xs a).2.2.2.2 0).2] [b,0]else false)then(agAt xs a).1 !=1 else false)then(agAt xs b).1 !=1 else false
theorem kvGet_set(kv:List (Int×Bool))(i j:Int):kvGet false (kvSet kv i true) j=if i=j then true else kvGet false kv j:=by
 induction kv with
 |nil=>
  simp only[kvSet,kvGet]
  by_cases h:i=j
  ·rw[if_pos h,show(i==j)=true by simpa using h];rfl
  ·rw[if_neg h,show(i==j)=false by simpa using h];rfl
 |cons e l ih=>
  obtain⟨k,v⟩:=e;simp only[kvSet];cases h:k==i with
  |true=>
   have h1:k=i:=by simpa using h
   subst h1;simp only[cond_true,kvGet]
   by_cases h2:k=j
   ·rw[if_pos h2,show(k==j)=true by simpa using h2];rfl
   ·rw[if_neg h2,show(k==j)=false by simpa using h2];rfl
  |false=>
   have h1:k≠i:=by simpa using h
   simp only[cond_false,kvGet,ih]
   by_cases h2:k=j
   ·subst h2;rw[if_neg (Ne.symm h1),if_neg (Ne.symm h1)]
   ·rw[show(k==j)=false by simpa using h2];rfl
theorem o9{kv:List (Int×Bool)}(hT:∀e∈kv,e.2=true){i:Int}(h:kvGet false kv i=false):(kvSet kv i true).length=kv.length+1:=by
 induction kv with
 |nil=>rfl
 |cons e l ih=>
  obtain⟨k,v⟩:=e;simp only[kvGet]at h;simp only[kvSet];cases hk:k==i with
  |true=>
   rw[hk,cond_true]at h;have:=hT (k,v) (List.mem_cons_self ..);rw[h]at this;cases this
  |false=>
   rw[hk,cond_false]at h;simp only[cond_false,List.length_cons];rw[ih (fun e he=>hT e (List.mem_cons_of_mem _ he)) h]
theorem Dt{kv:List (Int×Bool)}(hT:∀e∈kv,e.2=true)(i:Int):∀e∈kvSet kv i true,e.2=true:=by
 induction kv with
 |nil=>
  intro e he;simp only[kvSet,List.mem_singleton]at he;rw[he]
 |cons e l ih=>
  obtain⟨k,v⟩:=e;simp only[kvSet];cases hk:k==i with
  |true=>
   intro e he;simp only[cond_true,List.mem_cons]at he;rcases he with rfl|he
   ·rfl
   ·exact hT e (List.mem_cons_of_mem _ he)
  |false=>
   intro e he;simp only[cond_false,List.mem_cons]at he;rcases he with rfl|he
   ·exact hT _ (List.mem_cons_self ..)
   ·exact ih (fun e he=>hT e (List.mem_cons_of_mem _ he)) e he
def jC(kv:List (Int×Bool)):Nat→Nat
 |0=>0
 |k+1=>bif kvGet false kv (k:Nat)then jC kv k+1 else jC kv k
theorem wP{kv:List (Int×Bool)}{x:Int}(h0:0≤x)(h:kvGet false kv x=false):∀n:Nat,jC (kvSet kv x true) n=jC kv n+(if x<(n:Nat)then 1 else 0)
 |0=>by rw[if_neg (by omega)];rfl
 |n+1=>by
  unfold jC;rw[kvGet_set,wP h0 h n]
  by_cases e:x=(n:Nat)
  ·subst e;rw[if_pos rfl,cond_true,h,cond_false,if_neg (by omega),if_pos (by omega)]
  ·rw[if_neg e]
   by_cases hl:x<(n:Nat)
   ·rw[if_pos hl,if_pos (by omega)];cases kvGet false kv (n:Nat)<;>simp only[cond_true,cond_false]<;>omega
   ·rw[if_neg hl,if_neg (by omega)];cases kvGet false kv (n:Nat)<;>simp only[cond_true,cond_false]<;>omega
theorem wO{kv:List (Int×Bool)}{n:Nat}(h:∀i:Int,(n:Int)≤i→kvGet false kv i=false):∀m:Nat,jC kv (n+m)=jC kv n
 |0=>rfl
 |m+1=>by
  show jC kv ((n+m)+1)=_;unfold jC;rw[h ((n+m:Nat):Int) (by omega),cond_false];have:=wO h m;rw[this];cases n<;>rfl
theorem Fv{kv:List (Int×Bool)}{ys:List NAgent}:∀n:Nat,(∀i:Nat,i<n→((agAt ys (i:Nat)).1=0↔kvGet false kv (i:Nat)=true))→aT ys n+jC kv n=n
 |0,_=>rfl
 |n+1,h=>by
  have ih:=Fv n fun i hi=>h i (by omega)
  unfold aT jC;have hn:=h n (by omega)
  by_cases e:(agAt ys (n:Nat)).1=0
  ·rw[hn.1 e,show((agAt ys (n:Nat)).1 !=0)=false by simpa using e,cond_true,cond_false];omega
  ·rw[show((agAt ys (n:Nat)).1 !=0)=true by simpa using e,show kvGet false kv (n:Nat)=false by cases hk:kvGet false kv (n:Nat)with
    |false=>rfl
    |true=>exact absurd (hn.2 hk) e,cond_true,cond_false]
   omega
section
variable {P:List NAgent→Prop}(hl:∀xs p q,P xs→P (aR xs p q))(ha:∀xs zs,P xs→P (xs++zs))
include hl
theorem gY{xs:List NAgent}{p q:NPort}(h:P xs):P (bG xs p q):=hl _ _ _ h
theorem sI{xs:List NAgent}{p q:NPort}(h:P xs):P (aB xs p q):=by
 unfold aB;cases ((peerN xs p).1==q.1&&(peerN xs p).2==q.2)with
 |true=>exact h
 |false=>exact hl _ _ _ h
theorem tN{y:Int}{b:Nat}{xs:List NAgent}(h:P xs):∀k,P (bB y b xs k)
 |0=>h
 |k+1=>gY hl (tN h k)
include ha
theorem vO{x c d:Int}{xs:List NAgent}(h:P xs):∀k,P (bH x c d xs k)
 |0=>h
 |k+1=>hl _ _ _ (hl _ _ _ (ha _ _ (vO h k)))
theorem Fj{y:Int}{xs:List NAgent}(h:P xs):∀k,P (nZ y xs k)
 |0=>h
 |k+1=>gY hl (ha _ _ (Fj h k))
theorem Fh{lv x:Int}{b:Nat}{xs:List NAgent}(h:P xs):∀k,P (lF lv x b xs k)
 |0=>h
 |k+1=>gY hl (hl _ _ _ (ha _ _ (Fh h k)))
theorem zl{bk:List (List NAgent)}{xs:List NAgent}{c x y:Int}(h:P xs):P (d9 bk xs c x y):=by
 unfold d9;cases c==1
 ·cases c==2
  ·cases c==3
   ·cases c==4
    ·cases c==5
     ·cases c==6
      ·cases c==7
       ·exact h
       ·exact hl _ _ _ (ha _ _ h)
      ·show P (bE xs x y);unfold bE;cases (agAt xs y).1==11
       ·exact gY hl (Fh hl ha (ha _ _ h) _)
       ·exact gY hl (ha _ _ h)
     ·show P (aM xs x y);unfold aM;cases (agAt xs y).1==7
      ·exact gY hl (ha _ _ h)
      ·exact gY hl (gY hl (ha _ _ h))
    ·exact Fj hl ha h _
   ·exact tN hl (gY hl (gY hl (vO hl ha (ha _ _ (ha _ _ h)) _))) _
  ·exact sI hl (sI hl h)
 ·exact sI hl (sI hl h)
end
def En(i:Int)(ys:List NAgent):Prop:=i.toNat<ys.length∧agAt ys i=xU
theorem En.set{i:Int}{ys:List NAgent}(h:En i ys)(p q:NPort):En i (ay ys p q):=by
 refine⟨by rw[bn];exact h.1,?_⟩;rw[bW];split
 ·rename_i e;rw[uT e.1,h.2];rfl
 ·exact h.2
theorem En.inter{i:Int}{ys:List NAgent}(h:En i ys)(bk:List (List NAgent))(c x y:Int):En i (d9 bk ys c x y):=
 zl (P:=En i) (fun xs p q h=>(h.set p q).set q p) (fun xs zs h=>⟨by rw[List.length_append];have:=h.1;omega,by rw[bD h.1];exact h.2⟩) h
theorem En.drop{i:Int}{ys:List NAgent}(h:En i ys)(a:Int):En i (aK ys a):=by
 refine⟨by rw[bY];exact h.1,?_⟩;unfold aK;rw[ji];split
 ·rfl
 ·exact h.2
theorem En.new{ys:List NAgent}{a:Int}(h0:0≤a)(h1:a<(ys.length:Nat)):En a (aK ys a):=by
 refine⟨by rw[bY];omega,?_⟩;unfold aK;rw[ji,if_pos ⟨rfl,by omega⟩]
theorem BF{xs:List NAgent}(bk:List (List NAgent))(c x y:Int):xs.length≤(d9 bk xs c x y).length:=
 zl (P:=fun ws=>xs.length≤ws.length) (fun ws p q h=>by rw[fT];exact h) (fun ws zs h=>by rw[List.length_append];omega) (Nat.le_refl _)
theorem AllIn.SS{xs:List NAgent}{p q:NPort}(h:∀r,PortIn xs r→r≠p→r≠q→PortIn xs (peerN xs r))(hp:PortIn xs p)(hq:PortIn xs q):AllIn (aR xs p q):=fun r hr=>by
 have hr':=hr.unlink;rw[gJ hp hq hr'];split
 ·exact hp.link
 ·rename_i e1;split
  ·exact hq.link
  ·rename_i e2;exact(h r hr' (Ne.symm e2) (Ne.symm e1)).link
section
variable {xs:List NAgent}{x y c:Int}{bk:List (List NAgent)}
theorem OP(hp:IntPre xs c x y)(hA:AllIn xs)(h0:PortIn xs (0,0))(hc:1≤c∧c≤7)(hb:BkW bk)(h7:c=7→(0≤(agAt xs x).2.2.1∧(agAt xs x).2.2.1<(bk.length:Nat))):AllIn (dQ bk xs c x y):=by
 obtain⟨hx0,hy0,p12,p3,px,py,dy,p5,p6⟩:=hp;have hcs:c=1∨c=2∨c=3∨c=4∨c=5∨c=6∨c=7:=by omega
 rcases hcs with rfl|rfl|rfl|rfl|rfl|rfl|rfl
 ·obtain⟨j1,j2,j3,j4⟩:=p12 (.inl rfl);exact(hA.join j1 j3).join j2.join j4.join
 ·obtain⟨j1,j2,j3,j4⟩:=p12 (.inr rfl);exact(hA.join j1 j3).join j2.join j4.join
 ·obtain⟨hx1,hx2⟩:=p3 rfl;show AllIn (aO xs x y);have h2A:=rC (y:=y) hA h0;have hcd:∀i:Nat,i≤(agAt xs y).2.2.2.2.length-1→PortIn (dup2 xs y) (((xs.length:Nat):Int),(i:Nat))∧PortIn (dup2 xs y) (((xs.length+1:Nat):Int),(i:Nat)):=fun i hi=>⟨ng (by omega) (by omega),ni (by omega) (by omega)⟩
  have h3A:AllIn (dup3 xs x y):=jF h2A (jT h0) _ hcd;have h3:∀{p},PortIn xs p→PortIn (dup3 xs x y) p:=fun h=>aX (jT h) _
  have hc0:PortIn (dup3 xs x y) (((xs.length:Nat):Int),0):=aX (ng (by decide) (by omega)) _;have hd0:PortIn (dup3 xs x y) (((xs.length+1:Nat):Int),0):=aX (ni (by decide) (by omega)) _;have h4A:AllIn (iT xs x y):=(h3A.move (h3 hx1) hc0).move (h3 hx2).move hd0.move;refine iU h4A _ fun i hi=>⟨(h3 ⟨hy0.1,hy0.2,by omega,?_⟩).move.move,?_⟩
  ·show((i:Nat):Int)+1<((agAt xs y).2.2.2.2.length:Nat);omega
  ·have:=(nk (x:=x) (c:=((xs.length:Nat):Int)) (d:=((xs.length+1:Nat):Int)) (xs:=dup2 xs y) hi).move (p:=(x,1)) (q:=(((xs.length:Nat):Int),0));have:=this.move (p:=(x,2)) (q:=(((xs.length+1:Nat):Int),0));rw[dM]at this;exact this
 ·exact sF hA h0 _ fun i hi=>⟨hy0.1,hy0.2,by omega,by show((i+1:Nat):Int)<((agAt xs y).2.2.2.2.length:Nat);omega⟩
 ·obtain⟨j1,j2,j3⟩:=p5 rfl;show AllIn (aM xs x y);unfold aM;cases hk:(agAt xs y).1==7 with
  |true=>
   have k7:=j2 (by simpa using hk);exact((hA.add h0 _ _ _ _ _).move j1.app (PortIn.new (by decide) (by decide))).move k7.app.move (PortIn.new (by decide) (by decide)).move
  |false=>exact(hA.add h0 _ _ _ _ _).move j1.app (PortIn.new (by decide) (by decide))
 ·obtain⟨j1,j2,j3⟩:=p6 rfl;show AllIn (iw xs x y);unfold iw;cases hk:(agAt xs x).1==6 with
  |true=>exact(hA.add h0 _ _ _ _ _).move j1.app (PortIn.new (by decide) (by decide))
  |false=>
   simp only[cond_false];have h1A:AllIn (aL xs y (agAt xs x).2.2.1):=hA.add h0 _ _ _ _ _;have h1l:(aL xs y (agAt xs x).2.2.1).length=xs.length+1:=mH _ _ _;have h1R:PortIn (aL xs y (agAt xs x).2.2.1) (fF (aL xs y (agAt xs x).2.2.1).length 0):=by rw[h1l];exact PortIn.new (by decide) (by decide)
   have h1:∀{p},PortIn xs p→PortIn (aL xs y (agAt xs x).2.2.1) p:=fun h=>h.app
   have h2A:=CS (lv:=(agAt xs y).2.1) h1A (h1 h0) h1R ((agAt xs x).2.2.2.2.length-1);have hR:=Bo (lv:=(agAt xs y).2.1) h1R ((agAt xs x).2.2.2.2.length-1);have h2:∀{p},PortIn xs p→PortIn (mG (agAt xs y).2.1 (aL xs y (agAt xs x).2.2.1).length (aL xs y (agAt xs x).2.2.1) ((agAt xs x).2.2.2.2.length-1)) p:=fun h=>yR (h1 h) _
   have hxi:∀i:Nat,i<((agAt xs x).2.2.2.2.length-1)→PortIn (mG (agAt xs y).2.1 (aL xs y (agAt xs x).2.2.1).length (aL xs y (agAt xs x).2.2.1) ((agAt xs x).2.2.2.2.length-1)) (x,((i:Nat):Int)+1)∧PortIn (mG (agAt xs y).2.1 (aL xs y (agAt xs x).2.2.1).length (aL xs y (agAt xs x).2.2.1) ((agAt xs x).2.2.2.2.length-1)) ((((aL xs y (agAt xs x).2.2.1).length+i:Nat):Int),1):=fun i hi=>
    ⟨h2 ⟨hx0.1,hx0.2,by omega,by show((i:Nat):Int)+1<((agAt xs x).2.2.2.2.length:Nat);omega⟩,uY (by decide) (by decide) hi⟩
   rw[h1l]at h2A h2 hxi hR;exact(yD h2A _ hxi).move (jQ (h2 j1) _) (jQ hR _)
 ·obtain⟨v0,v1⟩:=h7 rfl;show AllIn (jV bk xs x y);unfold jV jM;have hw:=hb.wi _ v0 v1;have r0:=hb.r0 _ v0 v1;have r1:=hb.r1 _ v0 v1;generalize aS bk (agAt xs x).2.2.1=t at*;generalize (agAt xs x).2.1=lv;generalize hbb:(xs.length:Int)-1=b;have hb':b=(xs.length:Int)-1:=hbb.symm;have hws:Wired (fun p=>PortIn (aY lv t) p) (aY lv t):=hw.shift;have r0s:PortIn (aY lv t) (0,0):=PortIn.gu.2 r0;have r1s:∀p,PortIn (aY lv t) p→p.1=0→p=(0,0):=fun p hp e=>r1 p (PortIn.gu.1 hp) e
  generalize aY lv t=T at*;obtain⟨q1,q2,q3,q4⟩:=hws (0,0) r0s
  have rpos:1≤(peerN T (0,0)).1:=by
   have h1:0≤(peerN T (0,0)).1:=q2.1
   by_cases e:(peerN T (0,0)).1=0
   ·exact absurd (r1s _ q2 e) q4
   ·omega
  have hR:PortIn (xs++(T.drop 1).map (bg b)) ((peerN T (0,0)).1+b,(peerN T (0,0)).2):=(PortIn.jJ hb').2 (.inr ⟨by show(xs.length:Int)≤(peerN T (0,0)).1+b;omega,by
   rw[show(((peerN T (0,0)).1+b,(peerN T (0,0)).2):NPort).1-b=(peerN T (0,0)).1 by show(peerN T (0,0)).1+b-b=_;omega];exact q2⟩)
  have hY:PortIn xs (y,0):=⟨hy0.1,hy0.2,Int.le_refl 0,by show(0:Int)<((agAt xs y).2.2.2.2.length:Nat);omega⟩;refine AllIn.SS (fun r hr n1 n2=> ?_) hY.app hR;rcases(PortIn.jJ hb').1 hr with q|⟨q,qt⟩
  ·rw[kL (zu q)];exact(hA r q).app
  ·rw[rT hb' q qt];obtain⟨s1,s2,s3,s4⟩:=hws _ qt
   by_cases e:(peerN T (r.1-b,r.2)).1=0
   ·exfalso;have e2:=r1s _ s2 e;rw[e2]at s3;apply n2;rw[s3];exact bS (by show r.1=r.1-b+b;omega) rfl
   ·have s20:0≤(peerN T (r.1-b,r.2)).1:=s2.1;refine(PortIn.jJ hb').2 (.inr ⟨by show(xs.length:Int)≤(peerN T (r.1-b,r.2)).1+b;omega,?_⟩);rw[show(((peerN T (r.1-b,r.2)).1+b,(peerN T (r.1-b,r.2)).2):NPort).1-b=(peerN T (r.1-b,r.2)).1 by show(peerN T (r.1-b,r.2)).1+b-b=_;omega];exact s2
end
end Go.Tr
namespace Go.Tr
open Go Go.RowKit
abbrev Gone(kv:List (Int×Bool)):Int→Prop:=fun i=>kvGet false kv i=true
theorem L6(kv:List (Int×Bool))(ks:List Int)(i:Int):Gone (jo kv ks) i↔Gone kv i∨i∈ks:=by
 unfold jo Gone
 induction ks generalizing kv with
 |nil=>simp
 |cons k ks ih=>
  rw[List.foldl_cons,ih,kvGet_set,List.mem_cons]
  by_cases h:k=i
  ·rw[if_pos h];simp[h]
  ·rw[if_neg h];constructor
   ·rintro(h1|h1)
    ·exact .inl h1
    ·exact .inr (.inr h1)
   ·rintro(h1|h1|h1)
    ·exact .inl h1
    ·exact absurd h1.symm h
    ·exact .inr h1
theorem TA{kv:List (Int×Bool)}(hT:∀e∈kv,e.2=true)(ks:List Int):∀e∈jo kv ks,e.2=true:=by
 unfold jo
 induction ks generalizing kv with
 |nil=>exact hT
 |cons k ks ih=>rw[List.foldl_cons];exact ih (Dt hT k)
structure BkV(bk:List (List NAgent)):Prop extends BkW bk where
 rt:∀v:Int,0≤v→v<(bk.length:Nat)→∀i:Int,0<i→i<((aS bk v).length:Nat)→(agAt (aS bk v) i).1≠1
structure Twin(kv:List (Int×Bool))(xs ys:List NAgent):Prop where
 st:St (Gone kv) xs ys
 wf:CB (Gone kv) xs
 dl:∀i,Gone kv i→0≤i∧i<(xs.length:Nat)
 hole:∀i,Gone kv i→En i ys
 r1:(agAt xs 0).1=1
 r0:¬Gone kv 0
 rl:0<xs.length
 uq:∀i:Int,0<i→i<(xs.length:Nat)→¬Gone kv i→(agAt xs i).1≠1
 kt:∀e∈kv,e.2=true
 kl:kv.length=jC kv xs.length
 al:AllIn xs
section
variable {kv:List (Int×Bool)}{xs ys:List NAgent}{a b x y c:Int}{bk:List (List NAgent)}
theorem Twin.len(h:Twin kv xs ys):xs.length=ys.length:=h.st.ag.1
theorem Twin.at_(h:Twin kv xs ys){i:Int}(h0:0≤i)(h1:i<(xs.length:Nat))(hd:¬Gone kv i):agAt ys i=agAt xs i:=(h.st.ag.2 i h0 h1 hd).symm
theorem Twin.p0(h:Twin kv xs ys):PortIn xs (0,0):=by
 have w:=h.wf 0 (Int.le_refl 0) (by have:=h.rl;omega) h.r0;have:=(dB w).2.2.2;exact⟨Int.le_refl 0,by have:=h.rl;show(0:Int)<_;omega,Int.le_refl 0,by show(0:Int)<((agAt xs 0).2.2.2.2.length:Nat);omega⟩
theorem Twin.p0y(h:Twin kv xs ys):PortIn ys (0,0):=(h.st.ag.port h.p0 h.r0).1
theorem Twin.ally(h:Twin kv xs ys):AllIn ys:=fun p hp=>by
 by_cases hd:Gone kv p.1
 ·have e:=(h.hole _ hd).2;obtain⟨_,_,h3,h4⟩:=hp;rw[e]at h4;have:p.2<((0:Nat):Int):=h4;omega
 ·have hpx:PortIn xs p:=by
   obtain⟨h1,h2,h3,h4⟩:=hp;rw[←h.len]at h2;rw[h.at_ h1 h2 hd]at h4;exact⟨h1,h2,h3,h4⟩
  obtain⟨_,k2,_,_⟩:=h.st.wi p ⟨hpx,hd⟩;rw[(h.st.ag.port hpx hd).2];exact(h.st.ag.port k2.1 k2.2).1
theorem Twin.live(h:Twin kv xs ys):aT ys ys.length+kv.length=xs.length:=by
 rw[h.kl,h.len];refine Fv _ fun i hi=> ?_
 constructor
 ·intro e;cases hk:kvGet false kv (i:Nat)with
  |true=>rfl
  |false=>
   have hd:¬Gone kv (i:Nat):=fun e=>by
    have e':kvGet false kv (i:Nat)=true:=e;rw[hk]at e';cases e'
   have hl:=h.len;have w:=Ee (h.wf (i:Nat) (by omega) (by omega) hd);rw[h.at_ (by omega) (by omega) hd]at e;omega
 ·intro e;rw[(h.hole _ e).2];rfl
theorem jO.symm{D:Int→Prop}(k:jO D xs a b)(h:St D xs ys):jO D xs b a:=by
 obtain⟨_,_,h3,_⟩:=h.wi (a,0) ⟨k.px,k.lx⟩;rw[k.w]at h3;exact⟨k.ne.symm,k.ly,k.lx,k.py,k.px,h3⟩
theorem jO.first{D:Int→Prop}(k:jO D xs a b)(h:St D xs ys):jO D xs (aj xs a b).1 (aj xs a b).2:=by
 unfold aj;cases aG (agAt xs a).1 (agAt xs a).2.1 (agAt xs b).1 (agAt xs b).2.1==2
 ·exact k
 ·exact k.symm h
theorem wf_small{u:NAgent}(w:Wf u):0<u.2.2.2.2.length∧u.2.2.2.2.length≤4:=by
 have k:=Ee w;obtain⟨x1,x2,x3,x4⟩:=wf_ports w;refine⟨(dB w).2.2.2,?_⟩
 by_cases h9:u.1=9
 ·exact(x4 h9).2
 ·by_cases h1:u.1=1∨u.1=5∨u.1=6∨u.1=12
  ·rw[x1 h1];decide
  ·by_cases h2:u.1=8∨u.1=10∨u.1=11
   ·rw[x2 h2];decide
   ·rw[x3 (by omega)];decide
theorem Jh(wx:Wf (agAt xs x))(wy:Wf (agAt xs y))(hx:0≤x∧x<(xs.length:Nat))(hy:0≤y∧y<(xs.length:Nat))(hr:rule (agAt xs x).1 (agAt xs x).2.1 (agAt xs y).1 (agAt xs y).2.1=c)(hc:1≤c∧c≤7)
  (h6:(agAt xs x).1=9→(agAt xs y).1=10→(agAt xs x).2.2.1<((agAt xs y).2.2.2.1.length:Nat)):Cy xs c x y:=by
 obtain⟨r1,r2,r3,r4,r5,r6,r7⟩:=eH hr (by omega);obtain⟨x1,x2,x3,x4⟩:=wf_ports wx;obtain⟨y1,y2,y3,y4⟩:=wf_ports wy;have sx:=wf_small wx;have sy:=wf_small wy;have inx:∀s:Int,0≤s→s<((agAt xs x).2.2.2.2.length:Nat)→PortIn xs (x,s):=fun s h0 h1=>⟨hx.1,hx.2,h0,h1⟩
 have iny:∀s:Int,0≤s→s<((agAt xs y).2.2.2.2.length:Nat)→PortIn xs (y,s):=fun s h0 h1=>⟨hy.1,hy.2,h0,h1⟩
 refine⟨⟨hx,hy,fun e=> ?_,fun e=> ?_,by omega,by omega,by have:=wf_data wy;omega,fun e=> ?_,fun e=> ?_⟩,fun e=>(r5 e).2,fun e=> ?_⟩
 ·have kx:(agAt xs x).2.2.2.2.length=3:=x3 (by rcases e with e|e;(have:=r1 e;omega);(have:=r2 e;omega));have ky:(agAt xs y).2.2.2.2.length=3:=y3 (by rcases e with e|e;(have:=r1 e;omega);(have:=r2 e;omega));exact⟨inx 1 (by decide) (by omega),inx 2 (by decide) (by omega),iny 1 (by decide) (by omega),iny 2 (by decide) (by omega)⟩
 ·have kx:(agAt xs x).2.2.2.2.length=3:=x3 (by have:=r3 e;omega);exact⟨inx 1 (by decide) (by omega),inx 2 (by decide) (by omega)⟩
 ·obtain⟨a1,a2⟩:=r5 e;refine⟨?_,fun k7=> ?_,fun k7=> ?_⟩
  ·rcases a2 with q|q
   ·exact iny 1 (by decide) (by rw[y3 (by omega)];decide)
   ·exact iny 1 (by decide) (by rw[y2 (by omega)];decide)
  ·exact iny 2 (by decide) (by rw[y3 (by omega)];decide)
  ·have:=(NU wy (by omega)).1;omega
 ·refine⟨?_,fun k6=> ?_,fun k6=> ?_⟩
  ·exact iny 1 (by decide) (by rw[y2 (by have:=r6 e;omega)];decide)
  ·exact(Ar wy (by have:=r6 e;omega)).1
  ·have q:=r6 e;have k9:(agAt xs x).1=9:=by omega
   exact⟨(Aq wx k9).1,h6 k9 (by omega)⟩
 ·have q:=r6 e;refine⟨fun k=>(Ar wy k).1,fun k=> ?_⟩;have k9:(agAt xs x).1=9:=by omega
  exact⟨(Aq wx k9).1,h6 k9 (by omega),k9⟩
theorem qo(h:eD (agAt xs x) (agAt xs y)=false):(agAt xs x).1=9→(agAt xs y).1=10→(agAt xs x).2.2.1<((agAt xs y).2.2.2.1.length:Nat):=fun h9 h10=>by
 unfold eD at h;rw[show((agAt xs x).1==9)=true by simpa using h9,show((agAt xs y).1==10)=true by simpa using h10]at h;simp only[cond_true,decide_eq_false_iff_not]at h;omega
theorem KE(hy:(agAt xs y).1≠1)(hc:1≤c∧c≤7)(hb:BkV bk)(h7:c=7→(0≤(agAt xs x).2.2.1∧(agAt xs x).2.2.1<(bk.length:Nat))):∀z∈pK bk xs c x y,z.1≠1:=by
 have hcs:c=1∨c=2∨c=3∨c=4∨c=5∨c=6∨c=7:=by omega
 intro z hz;rcases hcs with rfl|rfl|rfl|rfl|rfl|rfl|rfl
 ·cases hz
 ·cases hz
 ·have hz':z∈[jN xs y]++[jN xs y]++List.replicate ((agAt xs y).2.2.2.2.length-1) (aJ 4 (agAt xs x).2.1 0 [] 3):=hz;rw[List.mem_append,List.mem_append,List.mem_singleton]at hz';rcases hz' with(e|e)|e
  ·rw[e];exact hy
  ·rw[e];exact hy
  ·rw[List.eq_of_mem_replicate e];intro k;cases k
 ·have hz':z∈List.replicate ((agAt xs y).2.2.2.2.length-1) (aJ 5 0 0 [] 1):=hz;rw[List.eq_of_mem_replicate hz'];intro k;cases k
 ·have hz':z∈(bif (agAt xs y).1==7 then[aJ 8 (agAt xs y).2.1 (agAt xs y).2.2.1 [(agAt xs x).2.2.1] 2]else[aJ 6 0 (rQ (agAt xs y).2.2.1 (fP (agAt xs y).2.2.2.1 0) (agAt xs x).2.2.1) [] 1]):=hz;cases hk:(agAt xs y).1==7 with
  |true=>rw[hk,cond_true,List.mem_singleton]at hz';rw[hz'];intro k;cases k
  |false=>rw[hk,cond_false,List.mem_singleton]at hz';rw[hz'];intro k;cases k
 ·have hz':z∈(bif (agAt xs x).1==6 then[aJ 12 (agAt xs y).2.1 (fP (agAt xs y).2.2.2.1 (bif (agAt xs x).2.2.1==0 then 1 else 0)) [] 1]
   else[aJ 12 (agAt xs y).2.1 (fP (agAt xs y).2.2.2.1 (agAt xs x).2.2.1) [] 1]++List.replicate ((agAt xs x).2.2.2.2.length-1) (aJ 3 (agAt xs y).2.1 0 [] 3)):=hz
  cases hk:(agAt xs x).1==6 with
  |true=>rw[hk,cond_true,List.mem_singleton]at hz';rw[hz'];intro k;cases k
  |false=>
   rw[hk,cond_false,List.mem_append,List.mem_singleton]at hz';rcases hz' with e|e
   ·rw[e];intro k;cases k
   ·rw[List.eq_of_mem_replicate e];intro k;cases k
 ·obtain⟨v0,v1⟩:=h7 rfl;have hz':z∈((jM bk xs x).drop 1).map (bg ((xs.length:Nat)-1)):=hz;obtain⟨w,hw,rfl⟩:=List.mem_map.1 hz';unfold jM aY at hw;rw[←List.map_drop]at hw;obtain⟨u,hu,rfl⟩:=List.mem_map.1 hw;obtain⟨i,hi,rfl⟩:=List.mem_iff_getElem.1 hu;have hrt:=hb.rt _ v0 v1;generalize aS bk (agAt xs x).2.2.1=t at*;rw[List.length_drop]at hi;rw[List.getElem_drop];have:=hrt ((1+i:Nat):Int) (by omega) (by omega);rw[qV (by omega)]at this;show(fH _ t[1+i]).1≠1;unfold fH;cases aU (t[1+i]).kind
  ·exact this
  ·exact this
theorem Twin.next(h:Twin kv xs ys)(k:jO (Gone kv) xs x y)(hb:BkV bk)(rx:(agAt xs x).1≠1)(ry:(agAt xs y).1≠1)(hr:rule (agAt xs x).1 (agAt xs x).2.1 (agAt xs y).1 (agAt xs y).2.1=c)(hc:1≤c∧c≤7)(hcl:eD (agAt xs x) (agAt xs y)=false)
  (h7:c=7→(agAt xs x).2.2.1<(bk.length:Nat)∧dA (agAt xs x).2.1 (aS bk (agAt xs x).2.2.1)=true):Cy xs c x y∧Cy ys c x y∧(c=7→0≤(agAt xs x).2.2.1)∧Twin (jo kv (dG c x y)) (dQ bk xs c x y) (dF bk ys c x y)∧(dQ bk xs c x y).length=xs.length+(pK bk xs c x y).length:=by
 have hx:0≤x∧x<(xs.length:Nat):=⟨k.px.1,k.px.2.1⟩;have hy:0≤y∧y<(xs.length:Nat):=⟨k.py.1,k.py.2.1⟩;have wx:=h.wf x hx.1 hx.2 k.lx;have wy:=h.wf y hy.1 hy.2 k.ly;have sp:=Jh wx wy hx hy hr hc (qo hcl);have ex:=h.at_ hx.1 hx.2 k.lx;have ey:=h.at_ hy.1 hy.2 k.ly;have sy:Cy ys c x y:=Jh (by rw[ex];exact wx) (by rw[ey];exact wy) (by rw[←h.len];exact hx) (by rw[←h.len];exact hy) (by rw[ex,ey];exact hr) hc (qo (by rw[ex,ey];exact hcl));have v0:c=7→0≤(agAt xs x).2.2.1:=fun e=>(p9 wx ((eH hr (by omega)).2.2.2.2.2.2 e).1).1
 have sg:=BG (bk:=bk) (xs:=xs) (x:=x) (y:=y) hc (by omega);have hln:(dQ bk xs c x y).length=xs.length+(pK bk xs c x y).length:=by rw[sg.1,List.length_append]
 have gr:∀i,Gone (jo kv (dG c x y)) i↔Gone kv i∨i∈dG c x y:=fun i=>L6 kv _ i
 have ge:Gone (jo kv (dG c x y))=fun i=>Gone kv i∨i∈dG c x y:=funext fun i=>propext (gr i)
 have gxy:∀i,i∈dG c x y→i=x∨i=y:=fun i hi=>by
  unfold dG at hi;cases hq:c==7 with
  |true=>rw[hq,cond_true,List.mem_singleton]at hi;exact .inl hi
  |false=>rw[hq,cond_false]at hi;simpa using hi
 have nx:x≠0:=fun e=>rx (by rw[e];exact h.r1)
 have ny:y≠0:=fun e=>ry (by rw[e];exact h.r1)
 have ksig:∀i:Int,0≤i→i<(xs.length:Nat)→(agAt (dQ bk xs c x y) i).1=(agAt xs i).1:=fun i i0 i1=>by
  have:=sg.2 i i0 (by rw[hln];omega);rw[bD (by omega)]at this;exact congrArg (fun s:Int×Int×Int×List Int×Nat=>s.1) this
 refine⟨sp,sy,v0,?_,hln⟩;refine⟨?_,?_,?_,?_,?_,?_,by omega,?_,TA h.kt _,?_,OP sp.toIntPre h.al h.p0 hc hb.toBkW fun e=>⟨v0 e,(h7 e).1⟩⟩
 ·rw[ge];exact Mj h.st k (fun i hi=>(h.dl i hi).2) h.wf hr hc hb.toBkW fun e=>(h7 e).1
 ·rw[ge];exact Mk h.wf hx hy k.lx k.ly hr hc hb.toBkW (fun e e9=>by
   have q:=(eH hr (by omega)).2.2.2.2.2.1 e;exact qo hcl e9 (by omega)) h7
 ·intro i hi;rcases(gr i).1 hi with e|e
  ·have:=h.dl i e;omega
  ·rcases gxy i e with e|e<;>omega
 ·intro i hi;unfold dF;have hl:=h.len;have hle:=BF (xs:=ys) bk c x y;have n1:En x (aK (d9 bk ys c x y) x):=En.new hx.1 (by omega);have n2:En y (aK (aK (d9 bk ys c x y) x) y):=En.new hy.1 (by rw[bY];omega);rcases(gr i).1 hi with e|e
  ·have q:=(h.hole i e).inter bk c x y;cases c==7
   ·exact(q.drop x).drop y
   ·exact q.drop x
  ·unfold dG at e;cases hq:c==7 with
   |true=>rw[hq,cond_true,List.mem_singleton]at e;rw[e];exact n1
   |false=>
    rw[hq,cond_false]at e;have e2:i=x∨i=y:=by simpa using e
    rcases e2 with e2|e2
    ·rw[e2];exact n1.drop y
    ·rw[e2];exact n2
 ·rw[ksig 0 (Int.le_refl 0) (by have:=h.rl;omega)];exact h.r1
 ·intro e;rcases(gr 0).1 e with e|e
  ·exact h.r0 e
  ·rcases gxy 0 e with e|e
   ·exact nx e.symm
   ·exact ny e.symm
 ·intro i i0 i1 hi;have hi2:¬Gone kv i:=fun e=>hi ((gr i).2 (.inl e))
  by_cases hl:i<(xs.length:Nat)
  ·rw[ksig i (by omega) hl];exact h.uq i i0 hl hi2
  ·have:=sg.2 i (by omega) i1;have hlt:i.toNat-xs.length<(pK bk xs c x y).length:=by omega
   have e:agAt (xs++pK bk xs c x y) i=(pK bk xs c x y)[i.toNat-xs.length]:=by
    unfold agAt elt;rw[List.getD_eq_getElem?_getD,List.getElem?_append_right (by omega),List.getElem?_eq_getElem hlt];rfl
   rw[e]at this;have k1:(agAt (dQ bk xs c x y) i).1=((pK bk xs c x y)[i.toNat-xs.length]).1:=congrArg (fun s:Int×Int×Int×List Int×Nat=>s.1) this;rw[k1];exact KE ry hc hb (fun e=>⟨v0 e,(h7 e).1⟩) _ (List.getElem_mem hlt)
 ·have gf:∀{kv:List (Int×Bool)} {i:Int},¬Gone kv i→kvGet false kv i=false:=fun {kv i} hi=>by
   cases hq:kvGet false kv i with
   |true=>exact absurd hq hi
   |false=>rfl
  have c1:jC (kvSet kv x true) xs.length=jC kv xs.length+1:=by rw[wP hx.1 (gf k.lx),if_pos hx.2]
  have l1:(kvSet kv x true).length=kv.length+1:=o9 h.kt (gf k.lx);have y1:kvGet false (kvSet kv x true) y=false:=by rw[kvGet_set,if_neg k.ne];exact gf k.ly
  have c2:jC (kvSet (kvSet kv x true) y true) xs.length=jC kv xs.length+2:=by rw[wP hy.1 y1,if_pos hy.2,c1]
  have l2:(kvSet (kvSet kv x true) y true).length=kv.length+2:=by rw[o9 (Dt h.kt x) y1,l1]
  have hn:∀i:Int,(xs.length:Int)≤i→kvGet false (jo kv (dG c x y)) i=false:=fun i hi=>gf fun e=>by
   rcases(gr i).1 e with e|e
   ·have:=h.dl i e;omega
   ·rcases gxy i e with e|e<;>omega
  rw[hln,wO hn];have hk:=h.kl;unfold dG;cases c==7
  ·show(kvSet (kvSet kv x true) y true).length=jC (kvSet (kvSet kv x true) y true) xs.length;omega
  ·show(kvSet kv x true).length=jC (kvSet kv x true) xs.length;omega
end
end Go.Tr
namespace Go.Tr
open Go Go.RowKit
structure BkS(bk:List (List NAgent)):Prop extends BkV bk where
 tl:∀v:Int,0≤v→v<(bk.length:Nat)→(aS bk v).length≤600
 bl:bk.length≤1000
section
variable {bk:List (List NAgent)}
theorem Ez{v:Int}(h:¬(0≤v∧v<(bk.length:Nat)))(h0:0≤v):aS bk v=[]:=by
 unfold aS elt;rw[List.getD_eq_getElem?_getD,List.getElem?_eq_none (by omega)];rfl
theorem agAt_out{xs:List NAgent}{i:Nat}(h:xs.length≤i):agAt xs (i:Nat)=dflt uAgent:=by
 unfold agAt elt;rw[List.getD_eq_getElem?_getD,Int.toNat_natCast,List.getElem?_eq_none h];rfl
theorem BkS.len(h:BkS bk)(v:Nat):(aS bk (v:Nat)).length≤600:=by
 by_cases hv:0≤((v:Nat):Int)∧((v:Nat):Int)<(bk.length:Nat)
 ·exact h.tl _ hv.1 hv.2
 ·rw[Ez hv (by omega)];decide
theorem BkS.ag(h:BkS bk)(v j:Nat):(0≤(agAt (aS bk (v:Nat)) (j:Nat)).2.1∧(agAt (aS bk (v:Nat)) (j:Nat)).2.1≤8)∧(agAt (aS bk (v:Nat)) (j:Nat)).2.2.2.1.length≤4∧(agAt (aS bk (v:Nat)) (j:Nat)).2.2.2.2.length≤4:=by
 by_cases hv:0≤((v:Nat):Int)∧((v:Nat):Int)<(bk.length:Nat)
 ·by_cases hj:j<(aS bk (v:Nat)).length
  ·have w:=h.wf _ hv.1 hv.2 (j:Nat) (by omega) (by omega);have h1:=rZ w;exact⟨by omega,wf_data w,(wf_small w).2⟩
  ·rw[agAt_out (by omega)];decide
 ·rw[Ez hv (by omega),agAt_out (Nat.zero_le _)];decide
theorem BkS.small(h:BkS bk)(v:Nat):NetSmall (aS bk (v:Nat)):=by
 refine⟨by have:=h.len v;omega,fun i=> ?_⟩;have:=(h.ag v i).2;exact⟨by show(agAt (aS bk (v:Nat)) (i:Nat)).2.2.2.1.length≤1048576;omega,by show(agAt (aS bk (v:Nat)) (i:Nat)).2.2.2.2.length≤1048576;omega⟩
theorem BkS.ok(h:BkS bk):Cr bk:=fun v j=>(h.ag v j).1
theorem Nf{t:List NAgent}(hw:Wired (fun p=>PortIn t p) t)(hl:t.length≤600)(i j:Nat):oN (elt (dflt uPort) (agAt t (i:Nat)).2.2.2.2 (j:Nat)).1:=by
 by_cases hi:i<t.length
 ·by_cases hj:j<(agAt t (i:Nat)).2.2.2.2.length
  ·obtain⟨_,h2,_⟩:=hw ((i:Nat),(j:Nat)) ⟨by show(0:Int)≤(i:Nat);omega,by show((i:Nat):Int)<(t.length:Nat);omega,by show(0:Int)≤(j:Nat);omega,by show((j:Nat):Int)<((agAt t (i:Nat)).2.2.2.2.length:Nat);omega⟩;have h3:0≤(elt (dflt uPort) (agAt t (i:Nat)).2.2.2.2 (j:Nat)).1:=h2.1;have h4:(elt (dflt uPort) (agAt t (i:Nat)).2.2.2.2 (j:Nat)).1<(t.length:Nat):=h2.2.1;have h5:((t.length:Nat):Int)≤1000000:=by omega
   exact⟨h3,Int.le_trans (Int.le_of_lt h4) h5⟩
  ·unfold elt;rw[List.getD_eq_getElem?_getD,Int.toNat_natCast,List.getElem?_eq_none (by omega)];exact⟨by decide,by decide⟩
 ·rw[agAt_out (by omega)];have e:elt (dflt uPort) (dflt uAgent).2.2.2.2 ((j:Nat):Int)=(0,0):=rfl;rw[e];exact⟨by decide,by decide⟩
structure Ue(t xs:List NAgent)(lv b:Int):Prop where
 two:2≤t.length
 r0:PortIn t (0,0)
 rs:PortIn (aY lv t) (0,0)
 top:PortIn (xs++((aY lv t).drop 1).map (bg b)) ((peerN (aY lv t) (0,0)).1+b,(peerN (aY lv t) (0,0)).2)
 pe:peerN (aY lv t) (0,0)=peerN t (0,0)
 ex:gD lv b t (t.length-1)=((aY lv t).drop 1).map (bg b)
 bt:∀i j:Nat,oN (elt (dflt uPort) (agAt t (i:Nat)).2.2.2.2 (j:Nat)).1
 bs:∀i j:Nat,oN (elt (dflt uPort) (agAt (aY lv t) (i:Nat)).2.2.2.2 (j:Nat)).1
 ps:∀i:Nat,(agAt (aY lv t) (i:Nat)).2.2.2.2.length≤1048576
theorem BkS.exp(h:BkS bk){v:Int}(v0:0≤v)(v1:v<(bk.length:Nat))(xs:List NAgent)(lv b:Int)(hb:b=(xs.length:Int)-1)(hx:0<xs.length):Ue (aS bk v) xs lv b:=by
 have hw:=h.wi _ v0 v1;have r0:=h.r0 _ v0 v1;have r1:=h.r1 _ v0 v1;have hl:=h.tl _ v0 v1
 have hps:∀i:Nat,(agAt (aS bk v) (i:Nat)).2.2.2.2.length≤4:=fun i=>by
  have:=(h.ag v.toNat i).2.2
  rwa[show((v.toNat:Nat):Int)=v by omega]at this
 generalize aS bk v=t at*;have hws:Wired (fun p=>PortIn (aY lv t) p) (aY lv t):=hw.shift;obtain⟨q1,q2,q3,q4⟩:=hw (0,0) r0
 have rpos:1≤(peerN t (0,0)).1:=by
  have h1:0≤(peerN t (0,0)).1:=q2.1
  by_cases e:(peerN t (0,0)).1=0
  ·exact absurd (r1 _ q2 e) q4
  ·omega
 have ps:peerN (aY lv t) (0,0)=peerN t (0,0):=kW r0;refine⟨?_,r0,PortIn.gu.2 r0,?_,ps,?_,Nf hw hl,Nf hws (by rw[jy];exact hl),fun i=> ?_⟩
 ·have:=q2.2.1;omega
 ·rw[ps]
  exact(PortIn.jJ hb).2 (.inr ⟨by show(xs.length:Int)≤(peerN t (0,0)).1+b;omega,PortIn.gu.2 (by
   rw[show(((peerN t (0,0)).1+b,(peerN t (0,0)).2):NPort).1-b=(peerN t (0,0)).1 by show(peerN t (0,0)).1+b-b=_;omega];exact q2)⟩)
 ·unfold gD;rw[List.take_of_length_le (by rw[List.length_drop,jy];omega)]
 ·by_cases hi:i<t.length
  ·rw[qh lv t (by omega) (by omega),show(fH lv (agAt t (i:Nat))).2.2.2.2=(agAt t (i:Nat)).2.2.2.2 from mq _ _];have:=hps i;show(agAt t (i:Nat)).2.2.2.2.length≤1048576;omega
  ·rw[agAt_out (by rw[jy];omega)];decide
theorem Gx(u v:NAgent):aQ v u=aQ u v:=by
 have h1:eD v u=jS u v:=by
  unfold eD jS;cases u.1==10<;>cases v.1==9<;>rfl
 have h2:jS v u=eD u v:=by
  unfold eD jS;cases u.1==9<;>cases v.1==10<;>rfl
 unfold aQ;rw[h1,h2,tV];cases jS u v<;>cases eD u v<;>rfl
theorem l8(xs:List NAgent)(a b:Int):aQ (agAt xs (aj xs a b).1) (agAt xs (aj xs a b).2)=aQ (agAt xs a) (agAt xs b):=by
 unfold aj;cases aG (agAt xs a).1 (agAt xs a).2.1 (agAt xs b).1 (agAt xs b).2.1==2
 ·rfl
 ·exact Gx _ _
theorem FB{xs:List NAgent}{c x y:Int}(hb:BkS bk)(hy:(agAt xs y).2.2.2.2.length≤4)(hx:(agAt xs x).2.2.2.2.length≤4)(h7:c=7→0≤(agAt xs x).2.2.1∧(agAt xs x).2.2.1<(bk.length:Nat)):(pK bk xs c x y).length≤600:=by
 unfold pK;cases c==3
 case true=>simp only[cond_true,List.length_append,List.length_cons,List.length_nil,List.length_replicate];omega
 cases c==4
 case true=>simp only[cond_true,cond_false,List.length_replicate];omega
 cases c==5
 case true=>cases (agAt xs y).1==7<;>simp
 cases c==6
 case true=>
  cases (agAt xs x).1==6
  ·simp only[cond_true,cond_false,List.length_append,List.length_cons,List.length_nil,List.length_replicate];omega
  ·simp
 cases h:c==7
 ·simp
 ·obtain⟨v0,v1⟩:=h7 (by simpa using h);have:=hb.tl _ v0 v1;simp only[cond_true,cond_false,List.length_map,List.length_drop,jM,jy];omega
end
end Go.Tr
namespace Go.Tr
open Go Go.RowKit
abbrev Sig:=Int×Int×Int×List Int×Nat
def toA(s:Sig):NAgent:=(s.1,s.2.1,s.2.2.1,s.2.2.2.1,List.replicate s.2.2.2.2 (0,0))
theorem cO.maps{xs ys:List NAgent}(h:cO xs ys):xs.map sig=ys.map sig:=by
 apply List.ext_getElem?;intro i;rw[List.getElem?_map,List.getElem?_map]
 by_cases hi:i<xs.length
 ·have:=h.2 (i:Nat) (by omega) (by omega);have hj:i<ys.length:=by rw[←h.1];exact hi
  rw[qV hi,qV hj]at this;rw[List.getElem?_eq_getElem hi,List.getElem?_eq_getElem hj,Option.map_some,Option.map_some,this]
 ·rw[List.getElem?_eq_none (by omega),List.getElem?_eq_none (by rw[←h.1];omega)]
def Qk(bk:List (List NAgent))(c:Int)(u v:NAgent):List NAgent:=pK bk [u,v] c 0 1
section
variable {bk:List (List NAgent)}{xs:List NAgent}{x y c:Int}{u v u' v' a b:NAgent}
def nwA(bk:List (List NAgent))(a b:NAgent):List Sig:=bif aG a.1 a.2.1 b.1 b.2.1==2 then(Qk bk (aQ a b) b a).map sig else(Qk bk (aQ a b) a b).map sig
structure Duo(a b:NAgent):Prop where
 wa:Wf a
 wb:Wf b
 ra:a.1≠1
 rb:b.1≠1
 ok:aQ a b≠8
end
def UF(s:List Sig)(i:Int):Sig:=s.getD i.toNat (0,0,0,[],0)
def sAt(s:List Sig)(i:Int):NAgent:=toA (UF s i)
inductive SRun(bk:List (List NAgent)):List Sig→List NEvent→List Sig→Prop
 |done (s:List Sig):SRun bk s [] s
 |step {s:List Sig} {e:NEvent} {es:List NEvent} {s':List Sig} (h0:0≤e.1) (hlt:e.1<e.2.1) (h1:e.2.1<((s.length:Nat):Int)) (hf:e.2.2.2.1=((s.length:Nat):Int))
  (hn:e.2.2.2.2=(((nwA bk (sAt s e.1) (sAt s e.2.1)).length:Nat):Int)) (hw:Duo (sAt s e.1) (sAt s e.2.1)) (r:SRun bk (s++nwA bk (sAt s e.1) (sAt s e.2.1)) es s'):SRun bk s (e::es) s'
end Go.Tr
namespace Go.Tr
open Go Go.RowKit
def gN(xs:List NAgent):GNet:=⟨xs.map gA⟩
theorem OL(xs:List NAgent):(xs.map gA).flatMap GAgent.enc=List.flatMap (enc uAgent) xs:=by
 induction xs with
 |nil=>rfl
 |cons x l ih=>rw[List.map_cons,List.flatMap_cons,List.flatMap_cons,ih,LY]
theorem gN_enc(xs:List NAgent):(gN xs).enc=enc uNet xs:=by
 show[D.sl (xs.map gA).length ((xs.map gA).flatMap GAgent.enc)]=[D.sl _ _];rw[OL,List.length_map]
theorem LZ(bk:List (List NAgent)):(bk.map gN).flatMap GNet.enc=List.flatMap (enc uNet) bk:=by
 induction bk with
 |nil=>rfl
 |cons x l ih=>rw[List.map_cons,List.flatMap_cons,List.flatMap_cons,ih,gN_enc]
theorem Jd(xs:List NAgent)(i:Nat):dV (xs.map gA) i=gA (agAt xs (i:Nat)):=by
 unfold dV agAt elt;rw[Int.toNat_natCast,List.getD_eq_getElem?_getD,List.getD_eq_getElem?_getD,List.getElem?_map];cases xs[i]? <;>rfl
def gP(p:NPort):ak:=⟨p.1,p.2⟩
theorem Qg(ps:List NPort)(k:Nat):gK (ps.map gP) k=gP (elt (dflt uPort) ps (k:Nat)):=by
 unfold gK elt;rw[Int.toNat_natCast,List.getD_eq_getElem?_getD,List.getD_eq_getElem?_getD,List.getElem?_map];cases ps[k]? <;>rfl
theorem ze(a:NAgent):(gA a).ports=a.2.2.2.2.map gP:=rfl
theorem Q5{p q:NPort}(h:gP p=gP q):p=q:=by
 have h1:=congrArg ak.agent h;have h2:=congrArg ak.slot h;exact Prod.ext h1 h2
theorem Ht{xs:List NAgent}{p:NPort}(h:eG (xs.map gA) (gP p)=true):PortIn xs p:=by
 unfold eG at h;rw[Bool.and_eq_true,Jd,ze]at h;have h1:=inB_t h.1;have h2:=inB_t h.2;rw[List.length_map]at h1 h2;have e1:(gP p).agent=p.1:=rfl;have e2:(gP p).slot=p.2:=rfl;rw[e1]at h1 h2;rw[e2]at h2;have e3:((p.1.toNat:Nat):Int)=p.1:=by omega
 rw[e3]at h2;exact⟨by omega,by omega,by omega,by show p.2<((agAt xs p.1).2.2.2.2.length:Nat);omega⟩
structure NetOk(xs:List NAgent):Prop where
 l1:1≤xs.length
 l2:xs.length≤600
 wf:∀i:Int,0≤i→i<(xs.length:Nat)→Wf (agAt xs i)
 rt:∀i:Int,0≤i→i<(xs.length:Nat)→((agAt xs i).1=1↔i=0)
 wi:Wired (fun p=>PortIn xs p) xs
theorem netB_ok{xs:List NAgent}(h:eT (gN xs)=true):NetOk xs:=by
 unfold eT at h;have hag:(gN xs).agents=xs.map gA:=rfl;rw[Bool.and_eq_true,hag,List.length_map]at h;obtain⟨h1,h2⟩:=h;unfold dw at h1;rw[Bool.and_eq_true,List.length_map]at h1;obtain⟨h3,h4⟩:=h1;have h3:=inB_t h3;have ha:∀i:Nat,i<xs.length→dW (xs.map gA) i=true:=fun i hi=>iH h4 hi
 have hk:∀i:Nat,i<xs.length→Wf (agAt xs (i:Nat))∧((agAt xs (i:Nat)).1=1↔i=0):=fun i hi=>by
  have:=ha i hi;unfold dW at this;rw[Jd,Bool.and_eq_true]at this;refine⟨this.1,?_⟩;have h5:=this.2;have e:(gA (agAt xs (i:Nat))).kind=(agAt xs (i:Nat)).1:=rfl;rw[e,beq_iff_eq,Bool.eq_iff_iff,beq_iff_eq,beq_iff_eq]at h5;omega
 refine⟨by omega,by omega,fun i h0 h1=> ?_,fun i h0 h1=> ?_,?_⟩
 ·have:=(hk i.toNat (by omega)).1
  rwa[show((i.toNat:Nat):Int)=i by omega]at this
 ·have:=(hk i.toNat (by omega)).2;rw[show((i.toNat:Nat):Int)=i by omega]at this;rw[this];omega
 ·rintro⟨a,s⟩ ⟨p1,p2,p3,p4⟩;have q1:0≤a:=p1;have q2:a<(xs.length:Nat):=p2;have q3:0≤s:=p3;have q4:s<((agAt xs a).2.2.2.2.length:Nat):=p4;have ea:((a.toNat:Nat):Int)=a:=by omega
  have es:((s.toNat:Nat):Int)=s:=by omega
  have hw:mE (xs.map gA) a.toNat=true:=iH h2 (by omega);unfold mE at hw;rw[Jd,ea,ze,List.length_map]at hw;have hw2:=iH hw (k:=s.toNat) (by omega);unfold lT at hw2;rw[Qg,es]at hw2;have ge:(⟨((a.toNat:Nat):Int),((s.toNat:Nat):Int)⟩:ak)=gP (a,s):=by rw[ea,es];rfl
  simp only[Bool.and_eq_true,Bool.not_eq_true']at hw2;obtain⟨⟨w1,w2⟩,w3⟩:=hw2;have w1:=CY w1;have w3:=y5 w3;have hin:=Ht w2;have hpe:peerN xs (a,s)=elt (dflt uPort) (agAt xs a).2.2.2.2 s:=rfl;rw[←hpe]at w1 w3 hin;refine⟨⟨p1,p2,p3,p4⟩,hin,?_,fun e=>w1 (by rw[e];rfl)⟩;generalize peerN xs (a,s)=r at*;unfold nM at w3;have er:(gP r).agent=r.1:=rfl;have er2:(gP r).slot=r.2:=rfl;have hr0:=hin.1;have hr2:=hin.2.2.1;rw[er,er2,Jd,ze,Qg,show((r.1.toNat:Nat):Int)=r.1 by omega,show((r.2.toNat:Nat):Int)=r.2 by omega]at w3
  exact Q5 (q:=(a,s)) w3
theorem NetOk.twin{xs:List NAgent}(h:NetOk xs):Twin [] xs xs:=by
 have hg:∀i,¬Gone [] i:=fun i e=>by cases e
 have hl1:=h.l1;refine⟨⟨?_,?_,?_⟩,fun i h0 h1 _=>h.wf i h0 h1,fun i e=>absurd e (hg i),fun i e=>absurd e (hg i),(h.rt 0 (Int.le_refl 0) (by omega)).2 rfl,hg 0,h.l1,fun i h0 h1 _ e=> ?_,fun e he=>(by cases he),?_,fun p hp=>(h.wi p hp).2.1⟩
 ·exact⟨rfl,fun _ _ _ _=>rfl⟩
 ·exact h.wi.congr fun p=>⟨fun k=>k.1,fun k=>⟨k,hg _⟩⟩
 ·exact fun p k=>k.2
 ·have:=(h.rt i (by omega) h1).1 e;omega
 ·have:=wO (kv:=[]) (n:=0) (fun i _=>rfl) xs.length;rw[Nat.zero_add]at this;rw[this];rfl
theorem Li(bk:List (List NAgent))(k:Nat):jK (bk.map gN) k=gN (aS bk (k:Nat)):=by
 unfold jK aS elt;rw[Int.toNat_natCast,List.getD_eq_getElem?_getD,List.getD_eq_getElem?_getD,List.getElem?_map];cases bk[k]? <;>rfl
theorem bookB_ok{bk:List (List NAgent)}(h:jB (bk.map gN)=true):BkS bk∧bk.length≤24:=by
 unfold jB at h;rw[Bool.and_eq_true,List.length_map]at h
 have hl:bk.length≤24:=by
  have:=of_decide_eq_true h.1;omega
 have hn:∀v:Int,0≤v→v<(bk.length:Nat)→NetOk (aS bk v):=fun v h0 h1=>by
  have:=iH h.2 (k:=v.toNat) (by omega);rw[Li,show((v.toNat:Nat):Int)=v by omega]at this;exact netB_ok this
 refine⟨⟨⟨⟨fun v h0 h1=>(hn v h0 h1).wi,fun v h0 h1=> ?_,fun v h0 h1 p hp e=> ?_,fun v h0 h1=>(hn v h0 h1).wf⟩,fun v h0 h1 i i0 i1 e=> ?_⟩,fun v h0 h1=>(hn v h0 h1).l2,by omega⟩,hl⟩
 ·have N:=hn v h0 h1;have hl1:=N.l1;have:=(wf_small (N.wf 0 (Int.le_refl 0) (by omega))).1;exact⟨Int.le_refl 0,by show(0:Int)<((aS bk v).length:Nat);omega,Int.le_refl 0,by show(0:Int)<((agAt (aS bk v) 0).2.2.2.2.length:Nat);omega⟩
 ·have N:=hn v h0 h1;have hl1:=N.l1;have w:=N.wf 0 (Int.le_refl 0) (by omega);have hk:=(N.rt 0 (Int.le_refl 0) (by omega)).2 rfl;have hp1:=(wf_ports w).1 (.inl hk);obtain⟨_,_,p3,p4⟩:=hp;rw[e]at p4;have p4':p.2<((agAt (aS bk v) 0).2.2.2.2.length:Nat):=p4;exact Prod.ext e (by show p.2=0;omega)
 ·have:=((hn v h0 h1).rt i (by omega) i1).1 e;omega
abbrev xR(e:NEvent):Int:=e.2.2.2.1
abbrev evC(e:NEvent):Int:=e.2.2.2.2
def bOf:List NEvent→Int→Int→Int×Int
 |[],_,k=>(-1,k)
 |e::es,i,k=>bif (bif decide (xR e≤k)then decide (k<xR e+evC e)else false)then(i,k-xR e)else bOf es (i+1) k
theorem CO{e:NEvent}{es:List NEvent}{i k:Int}(h1:xR e≤k)(h2:k<xR e+evC e):bOf (e::es) i k=(i,k-xR e):=by
 unfold bOf;rw[show decide (xR e≤k)=true by simpa using h1,show decide (k<xR e+evC e)=true by simpa using h2];rfl
theorem uV{e:NEvent}{es:List NEvent}{i k:Int}(h:¬(xR e≤k∧k<xR e+evC e)):bOf (e::es) i k=bOf es (i+1) k:=by
 conv=>lhs;unfold bOf
 cases h1:decide (xR e≤k)with
 |false=>rfl
 |true=>
  cases h2:decide (k<xR e+evC e)with
  |false=>rfl
  |true=>exact absurd ⟨by simpa using h1,by simpa using h2⟩ h
theorem Lg:∀(es:List NEvent) (i k:Int),(bOf es i k).1= -1∨(bOf es i k).1<i+(es.length:Nat)
 |[],i,k=>.inl rfl
 |e::es,i,k=>by
  by_cases h:xR e≤k∧k<xR e+evC e
  ·rw[CO h.1 h.2];right;show i<i+((es.length+1:Nat):Int);omega
  ·rw[uV h];have:=Lg es (i+1) k;rw[List.length_cons];omega
theorem Eu:∀{es:List NEvent} {i k:Int},(∀e∈es,¬(xR e≤k∧k<xR e+evC e))→bOf es i k=(-1,k)
 |[],_,_,_=>rfl
 |e::es,i,k,h=>by
  rw[uV (h e (by simp))];exact Eu fun e' he=>h e' (by simp[he])
theorem Ew:∀{p q:List NEvent} {i k:Int},(∀e∈p,¬(xR e≤k∧k<xR e+evC e))→bOf (p++q) i k=bOf q (i+(p.length:Nat)) k
 |[],q,i,k,_=>by rw[List.nil_append];congr 1;simp
 |e::p,q,i,k,h=>by
  rw[List.cons_append,uV (h e (by simp)),Ew fun e' he=>h e' (by simp[he])]
  congr 1
  rw[List.length_cons];omega
section
variable {bk:List (List NAgent)}
theorem SRun.pre{s s':List Sig}{es:List NEvent}(h:SRun bk s es s'):s<+:s':=by
 induction h with
 |done s=>exact pR _
 |step _ _ _ _ _ _ _ ih=>exact(List.prefix_append _ _).trans ih
theorem SRun.split{s s':List Sig}:∀{p q:List NEvent},SRun bk s (p++q) s'→∃t,SRun bk s p t∧SRun bk t q s'
 |[],q,h=>⟨s,.done s,h⟩
 |e::p,q,h=>by
  cases h with
  |step h0 hlt h1 hf hn hw r=>
   obtain⟨t,k1,k2⟩:=SRun.split (p:=p) r;exact⟨t,.step h0 hlt h1 hf hn hw k1,k2⟩
theorem SRun.snoc{s t:List Sig}{p:List NEvent}{e:NEvent}(h:SRun bk s p t)(h0:0≤e.1)(hlt:e.1<e.2.1)(h1:e.2.1<((t.length:Nat):Int))(hf:e.2.2.2.1=((t.length:Nat):Int))
  (hn:e.2.2.2.2=(((nwA bk (sAt t e.1) (sAt t e.2.1)).length:Nat):Int)) (hw:Duo (sAt t e.1) (sAt t e.2.1)):SRun bk s (p++[e]) (t++nwA bk (sAt t e.1) (sAt t e.2.1)):=by
 induction h with
 |done s=>exact .step h0 hlt h1 hf hn hw (.done _)
 |step g0 glt g1 gf gn gw _ ih=>exact .step g0 glt g1 gf gn gw (ih h1 hf hn hw)
theorem SRun.rng{s s':List Sig}{es:List NEvent}(h:SRun bk s es s'):∀e∈es,((s.length:Nat):Int)≤xR e∧0≤evC e∧xR e+evC e≤((s'.length:Nat):Int):=by
 induction h with
 |done s=>intro e he;cases he
 |step h0 hlt h1 hf hn hw r ih=>
  intro e' he';have hp:=r.pre.length_le;rw[List.length_append]at hp;rcases List.mem_cons.1 he' with rfl|he'
  ·exact⟨by show _≤e'.2.2.2.1;omega,by show 0≤e'.2.2.2.2;omega,by show e'.2.2.2.1+e'.2.2.2.2≤_;omega⟩
  ·have:=ih e' he';rw[List.length_append]at this;omega
theorem SRun.old{s t s':List Sig}{p q:List NEvent}(h1:SRun bk s p t)(h2:SRun bk t q s'){k:Int}(hk:k<((t.length:Nat):Int)):(bOf (p++q) 0 k).1<((p.length:Nat):Int):=by
 have hq:∀e∈q,¬(xR e≤k∧k<xR e+evC e):=fun e he hh=>by
  have:=h2.rng e he;omega
 have key:∀(p:List NEvent) (i:Int),bOf (p++q) i k=bOf p i k:=by
  intro p
  induction p with
  |nil=>intro i;rw[List.nil_append,Eu hq];rfl
  |cons e p ih=>
   intro i;rw[List.cons_append]
   by_cases h:xR e≤k∧k<xR e+evC e
   ·rw[CO h.1 h.2,CO h.1 h.2]
   ·rw[uV h,uV h,ih]
 rw[key];have:=Lg p 0 k;omega
theorem SRun.new{s t:List Sig}{p q:List NEvent}{e:NEvent}(h1:SRun bk s p t)(hf:xR e=((t.length:Nat):Int)){j:Int}(j0:0≤j)(j1:j<evC e):bOf (p++e::q) 0 (xR e+j)=(((p.length:Nat):Int),j):=by
 rw[Ew fun e' he hh=>by have:=h1.rng e' he;omega,Int.zero_add,CO (by omega) (by omega)]
 congr 1
 omega
end
section
variable {bk:List (List NAgent)}{s0 sa sb:List Sig}{a b:List NEvent}
end
end Go.Tr
namespace Go.Tr
open Go Go.RowKit
def rnP(f:Int→Int)(p:NPort):NPort:=(f p.1,p.2)
def nW(f:Int→Int)(a:NAgent):NAgent:=(a.1,a.2.1,a.2.2.1,a.2.2.2.1,a.2.2.2.2.map (rnP f))
def liveY(ys:List NAgent)(i:Nat):Bool:=(agAt ys (i:Nat)).1 !=0
def dD(ys:List NAgent):Nat→Nat
 |0=>0
 |k+1=>bif liveY ys k then dD ys k+1 else dD ys k
def iW(ys:List NAgent)(x:Int):Int:=((dD ys x.toNat:Nat):Int)
def bV(ys:List NAgent):Nat→List NAgent
 |0=>[]
 |k+1=>bif liveY ys k then bV ys k++[nW (iW ys) (agAt ys (k:Nat))]else bV ys k
def packN(ys:List NAgent):List NAgent:=bV ys ys.length
def bU(kv:List (Int×Bool)):Nat→List Int
 |0=>[]
 |k+1=>bif !(kvGet false kv ((k:Nat):Int))then bU kv k++[((k:Nat):Int)]else bU kv k
def Ik(ord:List Int):Nat→List (Int×Int)
 |0=>[]
 |i+1=>kvSet (Ik ord i) (elt 0 ord ((i:Nat):Int)) ((i:Nat):Int)
def JZ(ord:List Int)(x:Int):Int:=kvGet 0 (Ik ord ord.length) x
def oD(xs:List NAgent)(ord:List Int):Nat→List NAgent
 |0=>[]
 |i+1=>oD xs ord i++[nW (JZ ord) (agAt xs (elt 0 ord ((i:Nat):Int)))]
theorem Kt{α:Type}(d:α)(kv:List (Int×α))(i j:Int)(x:α):kvGet d (kvSet kv i x) j=if i=j then x else kvGet d kv j:=by
 induction kv with
 |nil=>
  unfold kvSet kvGet
  by_cases h:i=j
  ·rw[if_pos h,show(i==j)=true by simpa using h];rfl
  ·rw[if_neg h,show(i==j)=false by simpa using h];rfl
 |cons e kv ih=>
  obtain⟨k,v⟩:=e;unfold kvSet
  by_cases h:k=i
  ·rw[show(k==i)=true by simpa using h,cond_true];unfold kvGet;subst h
   by_cases h2:k=j
   ·rw[if_pos h2,show(k==j)=true by simpa using h2];rfl
   ·rw[if_neg h2,show(k==j)=false by simpa using h2];rfl
  ·rw[show(k==i)=false by simpa using h,cond_false]
   conv=>lhs;unfold kvGet
   conv=>rhs;unfold kvGet
   by_cases h2:k=j
   ·rw[show(k==j)=true by simpa using h2,cond_true,cond_true,if_neg (by omega)]
   ·rw[show(k==j)=false by simpa using h2,cond_false,cond_false,ih]
theorem zS(xs:List NAgent)(ord:List Int):∀i:Nat,i≤ord.length→oD xs ord i=(ord.take i).map fun k=>nW (JZ ord) (agAt xs k)
 |0,_=>by rw[List.take_zero];rfl
 |i+1,h=>by
  unfold oD;rw[zS xs ord i (by omega),List.take_add_one,List.map_append,List.getElem?_eq_getElem (by omega)];unfold elt;rw[Int.toNat_natCast,List.getD_eq_getElem?_getD,List.getElem?_eq_getElem (by omega)];rfl
def fK(f:Int→Int)(ps:List NPort)(j:Nat):List NPort:=(ps.take j).map (rnP f)++ps.drop j
theorem sV(f:Int→Int)(ps:List NPort)(j:Nat):(fK f ps j).length=ps.length:=by unfold fK;simp;omega
theorem zV{f:Int→Int}{ps:List NPort}{j:Nat}(h:j<ps.length):elt (dflt uPort) (fK f ps j) (j:Nat)=elt (dflt uPort) ps (j:Nat):=by
 unfold elt fK;rw[Int.toNat_natCast,List.getD_eq_getElem?_getD,List.getD_eq_getElem?_getD,List.getElem?_append_right (by simp;omega)];simp;rw[show j-min j ps.length=0 by omega,Nat.add_zero]
theorem zW{f:Int→Int}{ps:List NPort}{j:Nat}(h:j<ps.length):fK f ps (j+1)=(fK f ps j).set j (f (elt (dflt uPort) ps (j:Nat)).1,(elt (dflt uPort) ps (j:Nat)).2):=by
 have he:elt (dflt uPort) ps (j:Nat)=ps[j]:=by
  unfold elt;rw[Int.toNat_natCast,List.getD_eq_getElem?_getD,List.getElem?_eq_getElem h];rfl
 unfold fK;rw[List.set_append_right _ _ (by simp;omega),List.take_add_one,List.getElem?_eq_getElem h,List.map_append,he];have e:j-((ps.take j).map (rnP f)).length=0:=by simp;omega
 rw[e,List.drop_eq_getElem_cons h,List.set_cons_zero];simp[rnP]
theorem Cg(f:Int→Int)(ps:List NPort):fK f ps ps.length=ps.map (rnP f):=by unfold fK;simp
section
variable {kv:List (Int×Bool)}{xs ys:List NAgent}
theorem IK(ys:List NAgent):∀k:Nat,dD ys k≤k
 |0=>Nat.le_refl 0
 |k+1=>by unfold dD;have:=IK ys k;cases liveY ys k<;>simp<;>omega
theorem Twin.liveY(h:Twin kv xs ys){k:Nat}(hk:k<xs.length):liveY ys k= !(kvGet false kv ((k:Nat):Int)):=by
 unfold Tr.liveY;cases hg:kvGet false kv ((k:Nat):Int)with
 |true=>
  rw[(h.hole _ hg).2];rfl
 |false=>
  have hd:¬Gone kv ((k:Nat):Int):=fun e=>by
   have e':kvGet false kv ((k:Nat):Int)=true:=e;rw[hg]at e';cases e'
  rw[h.at_ (by omega) (by omega) hd];have:=Ee (h.wf (k:Nat) (by omega) (by omega) hd);simp;omega
theorem Twin.ord(h:Twin kv xs ys):∀n:Nat,n≤xs.length→(bU kv n).length=dD ys n∧(∀j:Nat,j<(bU kv n).length→∃x:Nat,x<n∧(bU kv n)[j]? =some ((x:Nat):Int)∧dD ys x=j∧kvGet false kv ((x:Nat):Int)=false)∧
  (∀x:Nat,x<n→kvGet false kv ((x:Nat):Int)=false→(bU kv n)[dD ys x]? =some ((x:Nat):Int))
 |0,_=>⟨rfl,fun j hj=>absurd hj (Nat.not_lt_zero _),fun x hx=>absurd hx (Nat.not_lt_zero _)⟩
 |n+1,hn=>by
  obtain⟨h1,h2,h3⟩:=h.ord n (by omega);have hl:=h.liveY (k:=n) (by omega);have eo:bU kv (n+1)=bif !(kvGet false kv ((n:Nat):Int))then bU kv n++[((n:Nat):Int)]else bU kv n:=rfl
  have ec:dD ys (n+1)=bif Tr.liveY ys n then dD ys n+1 else dD ys n:=rfl
  rw[eo,ec,hl];cases hg:kvGet false kv ((n:Nat):Int)with
  |true=>
   simp only[Bool.not_true,cond_false];refine⟨h1,fun j hj=> ?_,fun x hx hx2=> ?_⟩
   ·obtain⟨x,k1,k2,k3,k4⟩:=h2 j hj;exact⟨x,by omega,k2,k3,k4⟩
   ·refine h3 x ?_ hx2
    by_cases e:x=n
    ·rw[e,hg]at hx2;cases hx2
    ·omega
  |false=>
   simp only[Bool.not_false,cond_true];refine⟨by rw[List.length_append,h1];rfl,fun j hj=> ?_,fun x hx hx2=> ?_⟩
   ·rw[List.length_append,List.length_singleton]at hj
    by_cases hj2:j<(bU kv n).length
    ·obtain⟨x,k1,k2,k3,k4⟩:=h2 j hj2;exact⟨x,by omega,by rw[List.getElem?_append_left hj2];exact k2,k3,k4⟩
    ·have hj3:j=(bU kv n).length:=by omega
     exact⟨n,by omega,by rw[hj3,List.getElem?_append_right (Nat.le_refl _),Nat.sub_self];rfl,by rw[hj3,h1],hg⟩
   ·by_cases e:x=n
    ·subst e;rw[←h1,List.getElem?_append_right (Nat.le_refl _),Nat.sub_self];rfl
    ·have k:=h3 x (by omega) hx2;have:=(List.getElem?_eq_some_iff.1 k).1;rw[List.getElem?_append_left this];exact k
theorem Twin.Qx(h:Twin kv xs ys):∀i:Nat,i≤(bU kv xs.length).length→∀j:Nat,j<i→kvGet 0 (Ik (bU kv xs.length) i) (elt 0 (bU kv xs.length) ((j:Nat):Int))=((j:Nat):Int)
 |0,_,j,hj=>by omega
 |i+1,hi,j,hj=>by
  obtain⟨h1,h2,h3⟩:=h.ord xs.length (Nat.le_refl _);unfold Ik;rw[Kt]
  by_cases e:j=i
  ·subst e;rw[if_pos rfl]
  ·rw[if_neg fun k=>e ?_]
   ·exact h.Qx i (by omega) j (by omega)
   ·obtain⟨x,k1,k2,k3,_⟩:=h2 i (by omega);obtain⟨y,l1,l2,l3,_⟩:=h2 j (by omega);unfold elt at k;rw[Int.toNat_natCast,Int.toNat_natCast,List.getD_eq_getElem?_getD,List.getD_eq_getElem?_getD,k2,l2]at k;have k':((x:Nat):Int)=((y:Nat):Int):=k;have:x=y:=by omega
    rw[←k3,←l3,this]
theorem Twin.JZ(h:Twin kv xs ys){x:Int}(h0:0≤x)(h1:x<(xs.length:Nat))(hd:¬Gone kv x):JZ (bU kv xs.length) x=iW ys x:=by
 obtain⟨k1,k2,k3⟩:=h.ord xs.length (Nat.le_refl _)
 have hg:kvGet false kv ((x.toNat:Nat):Int)=false:=by
  rw[show((x.toNat:Nat):Int)=x by omega];cases hq:kvGet false kv x with
  |true=>exact absurd hq hd
  |false=>rfl
 have k4:=k3 x.toNat (by omega) hg;have k5:=(List.getElem?_eq_some_iff.1 k4).1;have k6:=h.Qx (bU kv xs.length).length (Nat.le_refl _) (dD ys x.toNat) k5
 have e:elt 0 (bU kv xs.length) ((dD ys x.toNat:Nat):Int)=x:=by
  unfold elt;rw[Int.toNat_natCast,List.getD_eq_getElem?_getD,k4];show((x.toNat:Nat):Int)=x;omega
 rw[e]at k6;exact k6
theorem Twin.bV(h:Twin kv xs ys):∀n:Nat,n≤xs.length→bV ys n=(bU kv n).map fun k=>nW (iW ys) (agAt ys k)
 |0,_=>rfl
 |n+1,hn=>by
  unfold Tr.bV bU;rw[h.liveY (k:=n) (by omega),h.bV n (by omega)];cases kvGet false kv ((n:Nat):Int)
  ·simp
  ·simp
theorem Twin.pack(h:Twin kv xs ys):oD xs (bU kv xs.length) (bU kv xs.length).length=packN ys:=by
 rw[zS _ _ _ (Nat.le_refl _),List.take_length];unfold packN;rw[←h.len,h.bV _ (Nat.le_refl _)];refine List.map_congr_left fun k hk=> ?_
 obtain⟨j,hj,rfl⟩:=List.mem_iff_getElem.1 hk;obtain⟨x,k1,k2,k3,k4⟩:=(h.ord xs.length (Nat.le_refl _)).2.1 j hj;rw[List.getElem?_eq_getElem hj]at k2;injection k2 with k2
 rw[k2]
 have hd:¬Gone kv ((x:Nat):Int):=fun e=>by
  have e':kvGet false kv ((x:Nat):Int)=true:=e;rw[k4]at e';cases e'
 rw[h.at_ (by omega) (by omega) hd];unfold nW
 congr 4
 refine List.map_congr_left fun p hp=> ?_
 obtain⟨i,hi,rfl⟩:=List.mem_iff_getElem.1 hp;have hw:=h.st.wi (((x:Nat):Int),((i:Nat):Int)) ⟨⟨by show(0:Int)≤(x:Nat);omega,by show((x:Nat):Int)<(xs.length:Nat);omega,by show(0:Int)≤(i:Nat);omega,by show((i:Nat):Int)<((agAt xs (x:Nat)).2.2.2.2.length:Nat);omega⟩,hd⟩
 have hpe:peerN xs (((x:Nat):Int),((i:Nat):Int))=(agAt xs (x:Nat)).2.2.2.2[i]:=by
  unfold peerN elt;rw[Int.toNat_natCast,List.getD_eq_getElem?_getD,List.getElem?_eq_getElem hi];rfl
 rw[hpe]at hw;obtain⟨_,⟨q1,q2⟩,_⟩:=hw;unfold rnP;rw[h.JZ q1.1 q1.2.1 q2]
end
end Go.Tr
