
/- Nets as data: agents, ports, wires. No program in it. -/
import Derived.Test.YtbdimbjclhmeoaaGreatShort
import Derived.Test.YtbdimbjclhmeoaaGreatVV
import Derived.Test.YtbdimbjclhmeoaaGreatValid
set_option linter.unusedSimpArgs false
set_option linter.unusedVariables false
set_option linter.unusedSectionVars false
namespace Go.Tr
open Go Go.RowKit
abbrev bf:U:=.pair (.int .i64) (.int .i64)
abbrev aF:U:=.pair (.int .i64) (.pair (.int .i64) (.pair (.int .i64) (.pair (.sl (.int .i64)) (.sl bf))))
abbrev aZ:U:=.sl aF
abbrev aC:=Int×Int
abbrev aj:=Int×Int×Int×List Int×List aC
def ah(xs:List aj)(i:Int):aj:=elt (dflt aF) xs i
abbrev aj.kind(a:aj):Int:=a.1
abbrev aj.level(a:aj):Int:=a.2.1
abbrev aj.value(a:aj):Int:=a.2.2.1
abbrev aj.data(a:aj):List Int:=a.2.2.2.1
abbrev aj.aN(a:aj):List aC:=a.2.2.2.2
def ay(xs:List aj)(p:aC):aC:=elt (dflt bf) (ah xs p.1).aN p.2
def aL(xs:List aj)(p q:aC):List aj:=xs.set p.1.toNat ((ah xs p.1).1,(ah xs p.1).2.1,(ah xs p.1).2.2.1,(ah xs p.1).2.2.2.1,(ah xs p.1).2.2.2.2.set p.2.toNat q)
def bE(xs:List aj)(p q:aC):List aj:=aL (aL xs p q) q p
def ak(xs:List aj)(p:aC):Prop:=0≤p.1∧p.1<(xs.length:Nat)∧0≤p.2∧p.2<((ah xs p.1).aN.length:Nat)
abbrev vP(p:aC):SV:=.agg [.int .i64 p.1,.int .i64 p.2]
theorem bW(xs:List aj)(p q:aC):(aL xs p q).length=xs.length:=by unfold aL;simp
theorem kY{xs:List aj}{k:Nat}{y:aj}{i:Int}:ah (xs.set k y) i=if k=i.toNat∧k<xs.length then y else ah xs i:=by
 unfold ah elt;rw[qC,qC,List.getElem?_set]
 by_cases h:k=i.toNat
 ·subst h
  by_cases h2:i.toNat<xs.length
  ·simp[h2]
  ·simp[h2]
 ·simp[h]
theorem dW(xs:List aj)(p q:aC)(i:Int):ah (aL xs p q) i=if p.1.toNat=i.toNat∧p.1.toNat<xs.length then((ah xs p.1).1,(ah xs p.1).2.1,(ah xs p.1).2.2.1,(ah xs p.1).2.2.2.1,(ah xs p.1).2.2.2.2.set p.2.toNat q)else ah xs i:=kY
theorem yH{xs:List aj}{i j:Int}(h:i.toNat=j.toNat):ah xs i=ah xs j:=by unfold ah elt;rw[h]
theorem nV(xs:List aj)(p q:aC)(i:Int):(ah (aL xs p q) i).aN.length=(ah xs i).aN.length:=by
 rw[dW];split
 ·rename_i h;rw[yH h.1.symm];simp[aj.aN]
 ·rfl
theorem ak.set{xs:List aj}{p q r:aC}(h:ak xs r):ak (aL xs p q) r:=by
 unfold ak at h ⊢;rw[bW,nV];exact h
theorem ak.link{xs:List aj}{p q r:aC}(h:ak xs r):ak (bE xs p q) r:=h.set.set
theorem iU(xs:List aj)(p q:aC):(bE xs p q).length=xs.length:=by unfold bE;rw[bW,bW]
theorem sI{us:List Value}{n:Nat}(hl:us.length=n*5){i:Int}(h0:0≤i)(h1:i<(n:Nat)):i.toNat*5+5≤us.length:=by omega
theorem oL{us:List Value}{n:Nat}(hl:us.length=n*5){i:Int}(h0:0≤i)(h1:i<(n:Nat)){o:Nat}(ho:o<5):us[i.toNat*5+o]? =some (us.getD (i.toNat*5+o) undef):=by
 rw[qC,qB (by omega)];rfl
def bX(xs:List aj)(old now:aC):List aj:=bE xs (ay xs old) now
def aY(xs:List aj)(x y:aC):List aj:=bif (ay xs x).1==y.1&&(ay xs x).2==y.2 then xs else bE xs (ay xs x) (ay xs y)
def aX(kind level value:Int)(data:List Int)(n:Nat):aj:=(kind,level,value,data,List.replicate n (0,0))
def gy(kv:List (Int×Bool))(ks:List Int):List (Int×Bool):=ks.foldl (fun kv k=>fH kv k true) kv
theorem Qu(kv:List (Int×Bool)){ks:List Int}{i:Nat}(h:i<ks.length):fH (gy kv (ks.take i)) (ks.getD i 0) true=gy kv (ks.take (i+1)):=by
 unfold gy;rw[List.take_add_one,List.foldl_append,qC,qB h];rfl
theorem dH{k:Nat}(h:k<1000000000):IntKind.i64.wrap ((k:Int)+1)=((k+1:Nat):Int):=QI (by omega)
def dO(xs:List aj):Prop:=xs.length≤1048576∧∀i:Nat,(ah xs i).data.length≤1048576∧(ah xs i).aN.length≤1048576
def o7(c:Int)(x y:aj):Bool:=bif (bif c==6 then y.kind==10 else false)then decide ((y.data.length:Int)≤x.value)else false
def bC(x y:aj):Int×Bool:=
 bif aQ x.kind x.level y.kind y.level==2 then(bif o7 (aU x.kind x.level y.kind y.level) y x then(8,false)else(aU x.kind x.level y.kind y.level,aQ x.kind x.level y.kind y.level==2))
 else(bif o7 (aU x.kind x.level y.kind y.level) x y then(8,false)else(aU x.kind x.level y.kind y.level,aQ x.kind x.level y.kind y.level==2))
theorem LA{x y:aj}(h1:(aQ x.kind x.level y.kind y.level==2)=true)(h2:o7 (aU x.kind x.level y.kind y.level) y x=true):bC x y=(8,false):=by unfold bC;rw[h1,h2];rfl
theorem Lx{x y:aj}(h1:(aQ x.kind x.level y.kind y.level==2)=true)(h2:o7 (aU x.kind x.level y.kind y.level) y x=false):bC x y=(aU x.kind x.level y.kind y.level,aQ x.kind x.level y.kind y.level==2):=by unfold bC;rw[h1,h2];rfl
theorem Lv{x y:aj}(h1:(aQ x.kind x.level y.kind y.level==2)=false)(h2:o7 (aU x.kind x.level y.kind y.level) x y=true):bC x y=(8,false):=by unfold bC;rw[h1,h2];rfl
theorem Lu{x y:aj}(h1:(aQ x.kind x.level y.kind y.level==2)=false)(h2:o7 (aU x.kind x.level y.kind y.level) x y=false):bC x y=(aU x.kind x.level y.kind y.level,aQ x.kind x.level y.kind y.level==2):=by unfold bC;rw[h1,h2];rfl
def ow(p lo hi d:Int):Int×Int:=bif (bif decide (p<lo)then true else decide (hi<p))then(0,2)else(IntKind.i64.wrap (p+d),0)
def dA(c p:Int):Int×Int:=
 bif c==1 then ow p 0 0 (-2)else bif c==2 then ow p 0 0 (-2)else bif c==3 then ow p 0 3 0 else bif c==4 then ow p 0 3 (-2)
 else bif c==5 then ow p 0 0 (-1)else bif c==6 then ow p 0 3 (-1)else bif c==7 then ow p 2 600 (-2)else(0,2)
def jo(by_:Int)(x:aj):aj:=bif bY x.kind then(x.1,x.2.1+by_,x.2.2)else x
def eT(by_:Int)(xs:List aj):Bool:=xs.all fun x=> !(bY x.kind)||decide (x.level+by_≤8)
def bU(by_:Int)(xs:List aj):List aj:=xs.map (jo by_)
def nu(x:Int):Int:=IntKind.i64.wrap (IntKind.i32.wrap x)
def vJ(o a b:Int):Int:=
 bif o==1 then nu (IntKind.i64.wrap (nu a+nu b))else bif o==2 then nu (IntKind.i64.wrap (nu a-nu b))else bif o==3 then nu (IntKind.i64.wrap (nu a*nu b))
 else bif o==4 then(bif nu b==0 then 0 else nu (IntKind.i64.wrap ((nu a).tdiv (nu b))))else bif o==5 then(bif decide (nu a<nu b)then 1 else 0)else bif o==6 then(bif nu a==nu b then 1 else 0)else 0
theorem QH(x:Int):IntKind.i64.wrap (IntKind.i32.wrap (IntKind.u32.wrap (IntKind.u64.wrap x)))=nu x:=by
 unfold nu;simp only[IntKind.wrap,IntKind.bits,IntKind.signed];simp
def bO(xs:List aj):Prop:=∀p,ak xs p→ak xs (ay xs p)
theorem NK{α:Type}{d:α}{xs:List α}{i j:Int}(h:i.toNat=j.toNat):elt d xs i=elt d xs j:=by unfold elt;rw[h]
theorem Vr{α:Type}{d:α}{xs:List α}{k:Nat}{y:α}{i:Int}:elt d (xs.set k y) i=if k=i.toNat∧k<xs.length then y else elt d xs i:=by
 unfold elt;rw[qC,qC,List.getElem?_set]
 by_cases h:k=i.toNat
 ·subst h
  by_cases h2:i.toNat<xs.length<;>simp[h2]
 ·simp[h]
theorem Vq{α:Type}{d:α}{xs ys:List α}{i:Int}(h:i.toNat<xs.length):elt d (xs++ys) i=elt d xs i:=by
 unfold elt;rw[qC,qC,qM h]
theorem Rt{α:Type}{d y:α}{xs:List α}{i:Int}(h:i.toNat=xs.length):elt d (xs++[y]) i=y:=by
 unfold elt;rw[h,qC];simp
theorem bZ{xs ys:List aj}{i:Int}(h:i.toNat<xs.length):ah (xs++ys) i=ah xs i:=Vq h
theorem pQ{y:aj}{xs:List aj}{i:Int}(h:i.toNat=xs.length):ah (xs++[y]) i=y:=Rt h
theorem ak.app{xs ys:List aj}{p:aC}(h:ak xs p):ak (xs++ys) p:=by
 obtain⟨h1,h2,h3,h4⟩:=h;refine⟨h1,by rw[qA];omega,h3,?_⟩;rw[bZ (by omega)];exact h4
theorem ak.new{k l v:Int}{d:List Int}{n:Nat}{xs:List aj}{s:Int}(h0:0≤s)(h1:s<(n:Nat)):ak (xs++[aX k l v d n]) ((xs.length:Nat),s):=by
 refine⟨by omega,by rw[qA,qJ];show((xs.length:Nat):Int)<_;omega,h0,?_⟩;rw[pQ (by simp)];simpa[aX,aj.aN]using h1
theorem jD{xs ys:List aj}{p:aC}(h:p.1.toNat<xs.length):ay (xs++ys) p=ay xs p:=by unfold ay;rw[bZ h]
theorem Gd{xs:List aj}{p q r:aC}(hp:ak xs p)(hr:ak xs r):ay (aL xs p q) r=if p=r then q else ay xs r:=by
 obtain⟨p1,p2,p3,p4⟩:=hp;obtain⟨r1,r2,r3,r4⟩:=hr;unfold ay;rw[dW]
 by_cases h:p.1.toNat=r.1.toNat
 ·have e:p.1=r.1:=by omega
  rw[if_pos ⟨h,by omega⟩];show elt (dflt bf) ((ah xs p.1).2.2.2.2.set p.2.toNat q) r.2=_;rw[Vr]
  by_cases h2:p.2.toNat=r.2.toNat
  ·have e2:p.2=r.2:=by omega
   rw[if_pos ⟨h2,by simp only[aj.aN]at p4;omega⟩,if_pos (Prod.ext e e2)]
  ·rw[if_neg (fun hh=>h2 hh.1),if_neg (fun hh=>h2 (by rw[hh])),e]
 ·rw[if_neg (fun hh=>h hh.1),if_neg (fun hh=>h (by rw[hh]))]
theorem gu{xs:List aj}{p q r:aC}(hp:ak xs p)(hq:ak xs q)(hr:ak xs r):ay (bE xs p q) r=if q=r then p else if p=r then q else ay xs r:=by
 unfold bE;rw[Gd hq.set hr.set,Gd hp hr]
theorem ak.unset{xs:List aj}{p q r:aC}(h:ak (aL xs p q) r):ak xs r:=by
 unfold ak at h ⊢
 rwa[bW,nV]at h
theorem ak.unlink{xs:List aj}{p q r:aC}(h:ak (bE xs p q) r):ak xs r:=h.unset.unset
theorem bO.link{xs:List aj}{p q:aC}(h:bO xs)(hp:ak xs p)(hq:ak xs q):bO (bE xs p q):=fun r hr=>by
 have hr':=hr.unlink;rw[gu hp hq hr'];split
 ·exact hp.link
 ·split
  ·exact hq.link
  ·exact(h r hr').link
theorem bO.move{xs:List aj}{p q:aC}(h:bO xs)(hp:ak xs p)(hq:ak xs q):bO (bX xs p q):=h.link (h p hp) hq
theorem ak.move{xs:List aj}{p q r:aC}(h:ak xs r):ak (bX xs p q) r:=h.link
theorem ak.join{xs:List aj}{p q r:aC}(h:ak xs r):ak (aY xs p q) r:=by
 unfold aY;cases ((ay xs p).1==q.1&&(ay xs p).2==q.2)with
 |true=>exact h
 |false=>exact h.link
theorem bO.join{xs:List aj}{p q:aC}(h:bO xs)(hp:ak xs p)(hq:ak xs q):bO (aY xs p q):=by
 unfold aY;cases ((ay xs p).1==q.1&&(ay xs p).2==q.2)with
 |true=>exact h
 |false=>exact h.link (h p hp) (h q hq)
theorem bO.add{xs:List aj}(h:bO xs)(h0:ak xs (0,0))(k l v:Int)(d:List Int)(n:Nat):bO (xs++[aX k l v d n]):=fun r hr=>by
 by_cases hlt:r.1.toNat<xs.length
 ·rw[jD hlt];obtain⟨r1,r2,r3,r4⟩:=hr;rw[bZ hlt]at r4;exact(h r ⟨r1,by omega,r3,r4⟩).app
 ·obtain⟨r1,r2,r3,r4⟩:=hr;rw[qA,qJ]at r2;have e:r.1.toNat=xs.length:=by omega
  have hp:ay (xs++[aX k l v d n]) r=(0,0):=by
   unfold ay;rw[pQ e]at r4 ⊢;simp only[aX,aj.aN,List.length_replicate]at r4;unfold elt;rw[qC];simp only[aX,aj.aN];rw[List.getElem?_replicate];split<;>rfl
  rw[hp];exact h0.app
theorem gQ(xs:List aj)(p q:aC):(bX xs p q).length=xs.length:=iU _ _ _
theorem tT(xs:List aj)(p q:aC):(aY xs p q).length=xs.length:=by
 unfold aY;cases ((ay xs p).1==q.1&&(ay xs p).2==q.2)<;>simp[iU]
theorem lH{xs:List aj}{p q a b:aC}(hp:ak xs p)(hq:ak xs q)(hn:p≠q):aL (aL xs p a) q b=aL (aL xs q b) p a:=by
 obtain⟨p1,p2,p3,p4⟩:=hp;obtain⟨q1,q2,q3,q4⟩:=hq
 by_cases h:p.1.toNat=q.1.toNat
 ·have e:p.1=q.1:=by omega
  have h2:p.2.toNat≠q.2.toNat:=fun h2=>hn (Prod.ext e (by omega))
  have k1:ah (aL xs p a) q.1=((ah xs p.1).1,(ah xs p.1).2.1,(ah xs p.1).2.2.1,(ah xs p.1).2.2.2.1,(ah xs p.1).2.2.2.2.set p.2.toNat a):=by
   rw[dW,if_pos ⟨h,by omega⟩]
  have k2:ah (aL xs q b) p.1=((ah xs q.1).1,(ah xs q.1).2.1,(ah xs q.1).2.2.1,(ah xs q.1).2.2.2.1,(ah xs q.1).2.2.2.2.set q.2.toNat b):=by
   rw[dW,if_pos ⟨h.symm,by omega⟩]
  rw[show aL (aL xs p a) q b=(aL xs p a).set q.1.toNat ((ah (aL xs p a) q.1).1,(ah (aL xs p a) q.1).2.1,(ah (aL xs p a) q.1).2.2.1,(ah (aL xs p a) q.1).2.2.2.1,(ah (aL xs p a) q.1).2.2.2.2.set q.2.toNat b) from rfl,show aL (aL xs q b) p a=(aL xs q b).set p.1.toNat ((ah (aL xs q b) p.1).1,(ah (aL xs q b) p.1).2.1,(ah (aL xs q b) p.1).2.2.1,(ah (aL xs q b) p.1).2.2.2.1,(ah (aL xs q b) p.1).2.2.2.2.set p.2.toNat a) from rfl,k1,k2];unfold aL;rw[h,List.set_set,List.set_set,e]
  simp only[];rw[List.set_comm _ _ h2]
 ·have k1:ah (aL xs p a) q.1=ah xs q.1:=by rw[dW,if_neg fun hh=>h hh.1]
  have k2:ah (aL xs q b) p.1=ah xs p.1:=by rw[dW,if_neg fun hh=>h hh.1.symm]
  rw[show aL (aL xs p a) q b=(aL xs p a).set q.1.toNat ((ah (aL xs p a) q.1).1,(ah (aL xs p a) q.1).2.1,(ah (aL xs p a) q.1).2.2.1,(ah (aL xs p a) q.1).2.2.2.1,(ah (aL xs p a) q.1).2.2.2.2.set q.2.toNat b) from rfl,show aL (aL xs q b) p a=(aL xs q b).set p.1.toNat ((ah (aL xs q b) p.1).1,(ah (aL xs q b) p.1).2.1,(ah (aL xs q b) p.1).2.2.1,(ah (aL xs q b) p.1).2.2.2.1,(ah (aL xs q b) p.1).2.2.2.2.set p.2.toNat a) from rfl,k1,k2];unfold aL;rw[List.set_comm _ _ h]
theorem rD{xs:List aj}{p q:aC}(hp:ak xs p)(hq:ak xs q):bE xs p q=bE xs q p:=by
 by_cases h:p=q
 ·rw[h]
 ·unfold bE;exact lH hp hq h
def jN(d:List Int)(i:Int):Int:=elt (dflt (.int .i64)) d i
def bB(xs:List aj)(x y:Int):List aj:=
 bif (ah xs y).1==7 then bX (bX (xs++[aX 8 (ah xs y).2.1 (ah xs y).2.2.1 [(ah xs x).2.2.1] 2]) (y,1) ((xs.length:Nat),0)) (y,2) ((xs.length:Nat),1)
 else bX (xs++[aX 6 0 (vJ (ah xs y).2.2.1 (jN (ah xs y).2.2.2.1 0) (ah xs x).2.2.1) [] 1]) (y,1) ((xs.length:Nat),0)
def JR:aj:=(0,0,0,[],[])
def bn(xs:List aj)(a:Int):List aj:=xs.set a.toNat JR
def mO(x c d:Int)(xs:List aj)(i:Nat):List aj:=bE (bE (xs++[aX 4 (ah xs x).2.1 0 [] 3]) ((xs.length:Nat),1) (c,(i:Nat))) ((xs.length:Nat),2) (d,(i:Nat))
def bV(x c d:Int)(xs:List aj):Nat→List aj
 |0=>xs
 |k+1=>mO x c d (bV x c d xs k) (k+1)
def cB(y:Int)(b:Nat)(xs:List aj):Nat→List aj
 |0=>xs
 |k+1=>bX (cB y b xs k) (y,((k:Nat):Int)+1) (((b+k:Nat):Int),0)
def lg(xs:List aj)(y:Int):aj:=aX (ah xs y).1 (ah xs y).2.1 (ah xs y).2.2.1 (ah xs y).2.2.2.1 (ah xs y).2.2.2.2.length
def dup2(xs:List aj)(y:Int):List aj:=xs++[lg xs y]++[lg xs y]
def dup3(xs:List aj)(x y:Int):List aj:=bV x ((xs.length:Nat)) ((xs.length+1:Nat)) (dup2 xs y) ((ah xs y).2.2.2.2.length-1)
def mH(xs:List aj)(x y:Int):List aj:=bX (bX (dup3 xs x y) (x,1) ((xs.length:Nat),0)) (x,2) ((xs.length+1:Nat),0)
def bM(xs:List aj)(x y:Int):List aj:=cB y (xs.length+2) (mH xs x y) ((ah xs y).2.2.2.2.length-1)
def iT(b k:Nat):List Int:=(List.range k).map fun j=>((b+j:Nat):Int)
theorem CU(b k:Nat):iT b (k+1)=iT b k++[((b+k:Nat):Int)]:=by simp[iT,List.range_succ]
theorem l8(b k:Nat):(iT b k).length=k:=by simp[iT]
theorem FK{b k m:Nat}(h:k<m):elt (0:Int) (iT b m) (k:Nat)=((b+k:Nat):Int):=by
 unfold elt iT;rw[qK,qC,qY,List.getElem?_range h];rfl
theorem LH(x c d:Int)(xs:List aj)(i:Nat):(mO x c d xs i).length=xs.length+1:=by unfold mO;rw[iU,iU,qA];rfl
theorem jh(x c d:Int)(xs:List aj):∀k,(bV x c d xs k).length=xs.length+k
 |0=>rfl
 |k+1=>by unfold bV;rw[LH,jh x c d xs k];omega
theorem Fx{x c d:Int}{xs:List aj}{i:Nat}{p:aC}(h:ak xs p):ak (mO x c d xs i) p:=h.app.link.link
theorem dx{x c d:Int}{xs:List aj}{p:aC}(h:ak xs p):∀k,ak (bV x c d xs k) p
 |0=>h
 |k+1=>Fx (dx h k)
theorem LG{x c d:Int}{xs:List aj}{i:Nat}(h:bO xs)(h0:ak xs (0,0))(hc:ak xs (c,(i:Nat)))(hd:ak xs (d,(i:Nat))):bO (mO x c d xs i):=
 ((h.add h0 4 (ah xs x).2.1 0 [] 3).link (ak.new (by decide) (by decide)) hc.app).link (ak.link (ak.new (by decide) (by decide))) hd.app.link
theorem nZ{x c d:Int}{xs:List aj}(h:bO xs)(h0:ak xs (0,0)):∀k,(∀i:Nat,i≤k→ak xs (c,(i:Nat))∧ak xs (d,(i:Nat)))→bO (bV x c d xs k)
 |0,_=>h
 |k+1,hk=>LG (nZ h h0 k fun i hi=>hk i (by omega)) (dx h0 k) (dx (hk (k+1) (Nat.le_refl _)).1 k) (dx (hk (k+1) (Nat.le_refl _)).2 k)
theorem yV(y:Int)(b:Nat)(xs:List aj):∀k,(cB y b xs k).length=xs.length
 |0=>rfl
 |k+1=>by unfold cB;rw[gQ,yV y b xs k]
theorem fM{y:Int}{b:Nat}{xs:List aj}{p:aC}(h:ak xs p):∀k,ak (cB y b xs k) p
 |0=>h
 |k+1=>(fM h k).move
theorem mQ{y:Int}{b:Nat}{xs:List aj}(h:bO xs):∀k,(∀i:Nat,i<k→ak xs (y,((i:Nat):Int)+1)∧ak xs (((b+i:Nat):Int),0))→bO (cB y b xs k)
 |0,_=>h
 |k+1,hk=>(mQ h k fun i hi=>hk i (by omega)).move (fM (hk k (by omega)).1 k) (fM (hk k (by omega)).2 k)
theorem iF(xs:List aj)(y:Int):(dup2 xs y).length=xs.length+2:=by unfold dup2;simp
theorem o8{xs:List aj}{y:Int}{p:aC}(h:ak xs p):ak (dup2 xs y) p:=h.app.app
theorem uO{xs:List aj}{y:Int}{i:Int}(h0:0≤i)(h1:i<((ah xs y).2.2.2.2.length:Nat)):ak (dup2 xs y) (((xs.length:Nat):Int),i):=(ak.new h0 h1).app
theorem uP{xs:List aj}{y:Int}{i:Int}(h0:0≤i)(h1:i<((ah xs y).2.2.2.2.length:Nat)):ak (dup2 xs y) (((xs.length+1:Nat):Int),i):=by
 have:=ak.new (xs:=xs++[lg xs y]) (k:=(ah xs y).1) (l:=(ah xs y).2.1) (v:=(ah xs y).2.2.1) (d:=(ah xs y).2.2.2.1) h0 h1;rw[qA,qJ]at this;exact this
theorem yT{xs:List aj}{y:Int}(h:bO xs)(h0:ak xs (0,0)):bO (dup2 xs y):=(h.add h0 _ _ _ _ _).add h0.app _ _ _ _ _
theorem tL{x:Int}{c d:Int}{xs:List aj}:∀{k i:Nat},i<k→ak (bV x c d xs k) (((xs.length+i:Nat):Int),0)
 |0,i,h=>by omega
 |k+1,i,h=>by
  by_cases e:i=k
  ·subst e;have h2:=(ak.new (xs:=bV x c d xs i) (k:=4) (l:=(ah (bV x c d xs i) x).2.1) (v:=0) (d:=[]) (n:=3) (s:=0) (by decide) (by decide)).link (p:=(((bV x c d xs i).length:Nat),1)) (q:=(c,((i+1:Nat):Int)));have h3:=h2.link (p:=(((bV x c d xs i).length:Nat),2)) (q:=(d,((i+1:Nat):Int)));rw[jh]at h3;unfold bV mO;rw[jh];exact h3
  ·exact Fx (tL (by omega))
def iN(b:Nat):Nat→aC
 |0=>(((b-1:Nat):Int),0)
 |k+1=>(((b+k:Nat):Int),2)
def oH(lv:Int)(b:Nat)(xs:List aj):Nat→List aj
 |0=>xs
 |k+1=>bE (oH lv b xs k++[aX 3 lv 0 [] 3]) (((b+k:Nat):Int),0) (iN b k)
def A9(x:Int)(b:Nat)(xs:List aj):Nat→List aj
 |0=>xs
 |k+1=>bX (A9 x b xs k) (x,((k:Nat):Int)+1) (((b+k:Nat):Int),1)
def bG(xs:List aj)(y i:Int):List aj:=xs++[aX 12 (ah xs y).2.1 (jN (ah xs y).2.2.2.1 i) [] 1]
def gY(xs:List aj)(x y:Int):List aj:=
 bif (ah xs x).1==6 then bX (bG xs y (bif (ah xs x).2.2.1==0 then 1 else 0)) (y,1) ((xs.length:Nat),0)
 else bX (A9 x (xs.length+1) (oH (ah xs y).2.1 (xs.length+1) (bG xs y (ah xs x).2.2.1) ((ah xs x).2.2.2.2.length-1)) ((ah xs x).2.2.2.2.length-1)) (y,1) (iN (xs.length+1) ((ah xs x).2.2.2.2.length-1))
theorem wT(lv:Int)(b:Nat)(xs:List aj):∀k,(oH lv b xs k).length=xs.length+k
 |0=>rfl
 |k+1=>by unfold oH;rw[iU,qA,wT lv b xs k];simp;omega
theorem Cv{lv:Int}{b:Nat}{xs:List aj}{p:aC}(h:ak xs p):∀k,ak (oH lv b xs k) p
 |0=>h
 |k+1=>(Cv h k).app.link
theorem yM{lv:Int}{xs:List aj}{s:Int}(h0:0≤s)(h1:s<3):∀{k i:Nat},i<k→ak (oH lv xs.length xs k) (((xs.length+i:Nat):Int),s)
 |0,i,h=>by omega
 |k+1,i,h=>by
  by_cases e:i=k
  ·subst e;have:=(ak.new (xs:=oH lv xs.length xs i) (k:=3) (l:=lv) (v:=0) (d:=[]) (n:=3) h0 (by omega)).link (p:=(((xs.length+i:Nat):Int),0)) (q:=iN xs.length i);rw[wT]at this;exact this
  ·exact(yM h0 h1 (by omega:i<k)).app.link
theorem Fq{lv:Int}{xs:List aj}(hr:ak xs (iN xs.length 0)):∀k,ak (oH lv xs.length xs k) (iN xs.length k)
 |0=>hr
 |k+1=>yM (by decide) (by decide) (Nat.lt_succ_self k)
theorem GX{lv:Int}{xs:List aj}(h:bO xs)(h0:ak xs (0,0))(hr:ak xs (iN xs.length 0)):∀k,bO (oH lv xs.length xs k)
 |0=>h
 |k+1=>by
  unfold oH;have:=ak.new (xs:=oH lv xs.length xs k) (k:=3) (l:=lv) (v:=0) (d:=[]) (n:=3) (s:=0) (by decide) (by decide);rw[wT]at this;exact((GX h h0 hr k).add (Cv h0 k) _ _ _ _ _).link this (Fq hr k).app
theorem Ns(x:Int)(b:Nat)(xs:List aj):∀k,(A9 x b xs k).length=xs.length
 |0=>rfl
 |k+1=>by unfold A9;rw[gQ,Ns x b xs k]
theorem mK{x:Int}{b:Nat}{xs:List aj}{p:aC}(h:ak xs p):∀k,ak (A9 x b xs k) p
 |0=>h
 |k+1=>(mK h k).move
theorem BK{x:Int}{b:Nat}{xs:List aj}(h:bO xs):∀k,(∀i:Nat,i<k→ak xs (x,((i:Nat):Int)+1)∧ak xs (((b+i:Nat):Int),1))→bO (A9 x b xs k)
 |0,_=>h
 |k+1,hk=>(BK h k fun i hi=>hk i (by omega)).move (mK (hk k (by omega)).1 k) (mK (hk k (by omega)).2 k)
theorem tK(xs:List aj)(y i:Int):(bG xs y i).length=xs.length+1:=by simp[bG]
def eX(b:Int)(xs:List aj)(i:Nat):List aj:=(xs.take i).map (jo b)++xs.drop i
theorem nO(b:Int)(xs:List aj)(i:Nat):(eX b xs i).length=xs.length:=by unfold eX;simp;omega
theorem Ec{b:Int}{xs:List aj}{i:Nat}(h:i<xs.length):ah (eX b xs i) (i:Nat)=ah xs (i:Nat):=by
 unfold ah elt eX;rw[qK,qC,qC,qL (by simp;omega)];simp;rw[show i-min i xs.length=0 by omega,Nat.add_zero]
theorem oZ{xs:List aj}{i:Nat}(h:i<xs.length):ah xs (i:Nat)=xs[i]:=by
 unfold ah elt;rw[qK,qC,qB h];rfl
theorem yB{b:Int}{xs:List aj}{i:Nat}(h:i<xs.length):eX b xs (i+1)=(eX b xs i).set i (jo b (ah xs (i:Nat))):=by
 unfold eX;rw[List.set_append_right _ _ (by simp;omega),List.take_add_one,qB h,qZ,oZ h];have e:i-((xs.take i).map (jo b)).length=0:=by simp;omega
 rw[e,List.drop_eq_getElem_cons h,List.set_cons_zero];simp
theorem Ed{b:Int}{xs:List aj}{i:Nat}(h:i<xs.length)(hk:bY (ah xs (i:Nat)).1=false):eX b xs (i+1)=eX b xs i:=by
 rw[yB h]
 have:jo b (ah xs (i:Nat))=ah (eX b xs i) (i:Nat):=by
  rw[Ec h];unfold jo;rw[show bY (ah xs (i:Nat)).kind=false from hk];rfl
 rw[this,oZ (by rw[nO];exact h)];exact List.set_getElem_self _
theorem ng{b:Int}{xs:List aj}{i:Nat}(h:i<xs.length):eT b (xs.take (i+1))=(eT b (xs.take i)&&(!(bY (ah xs (i:Nat)).1)||decide ((ah xs (i:Nat)).2.1+b≤8))):=by
 unfold eT;rw[List.take_add_one,qB h,List.all_append,oZ h];simp
theorem II{b:Int}{xs:List aj}(h:eT b xs=true)(i:Nat):eT b (xs.take i)=true:=by
 unfold eT at h ⊢;rw[List.all_eq_true]at h ⊢;exact fun x hx=>h x (List.mem_of_mem_take hx)
abbrev Zax:U:=.pair aZ (.pair (.sl aZ) .any)
def bJ(bk:List (List aj))(i:Int):List aj:=elt ([]:List aj) bk i
def checkN(bk:List (List aj))(xs:List aj)(p:Int×Int):Int×Int×Int×Int:=
 let c:=bC (ah xs p.1) (ah xs p.2)
 let x:=bif c.2 then p.2 else p.1
 let y:=bif c.2 then p.1 else p.2
 bif c.1==8 then(0,0,0,11)else
 bif c.1==7 then(bif decide ((bk.length:Int)≤(ah xs x).2.2.1)then(0,0,0,3)else bif !(eT (ah xs x).2.1 (bJ bk (ah xs x).2.2.1))then(0,0,0,9)else(c.1,x,y,0))
 else(c.1,x,y,0)
def tQ(bk:List (List aj))(xs:List aj)(c x y:Int):Int:=
 (dA c (bif c==3 then IntKind.i64.wrap (((ah xs y).2.2.2.2.length:Nat)-1)else bif c==4 then IntKind.i64.wrap (((ah xs y).2.2.2.2.length:Nat)-1)
  else bif c==6 then(bif (ah xs x).1==9 then IntKind.i64.wrap (((ah xs x).2.2.2.2.length:Nat)-1)else 0)else bif c==7 then((bJ bk (ah xs x).2.2.1).length:Nat)else 0)).1
def r9(y:Int)(xs:List aj):Nat→List aj
 |0=>xs
 |k+1=>bX (r9 y xs k++[aX 5 0 0 [] 1]) (y,((k+1:Nat):Int)) (((xs.length+k:Nat):Int),0)
def iA(xs:List aj)(y:Int):List aj:=r9 y xs ((ah xs y).2.2.2.2.length-1)
theorem mU(y:Int)(xs:List aj):∀k,(r9 y xs k).length=xs.length+k
 |0=>rfl
 |k+1=>by unfold r9;rw[gQ,qA,mU y xs k];simp;omega
theorem sQ{y:Int}{xs:List aj}{p:aC}(h:ak xs p):∀k,ak (r9 y xs k) p
 |0=>h
 |k+1=>(sQ h k).app.move
theorem BP{y:Int}{xs:List aj}(k:Nat):ak (r9 y xs k++[aX 5 0 0 [] 1]) (((xs.length+k:Nat):Int),0):=by
 have:=ak.new (xs:=r9 y xs k) (k:=5) (l:=0) (v:=0) (d:=[]) (n:=1) (s:=0) (by decide) (by decide)
 rwa[mU]at this
theorem yX{y:Int}{xs:List aj}(h:bO xs)(h0:ak xs (0,0)):∀k,(∀i:Nat,i<k→ak xs (y,((i+1:Nat):Int)))→bO (r9 y xs k)
 |0,_=>h
 |k+1,hk=>((yX h h0 k fun i hi=>hk i (by omega)).add (sQ h0 k) _ _ _ _ _).move (sQ (hk k (by omega)) k).app (BP k)
theorem MJ(xs:List aj)(p q:aC)(i:Int):(ah (bE xs p q) i).2.2.2.2.length=(ah xs i).2.2.2.2.length:=by
 unfold bE;have h1:=nV (aL xs p q) q p i;have h2:=nV xs p q i;exact h1.trans h2
theorem FC{y:Int}{xs:List aj}(hy:y.toNat<xs.length):∀k,(ah (r9 y xs k) y).2.2.2.2.length=(ah xs y).2.2.2.2.length
 |0=>rfl
 |k+1=>by
  unfold r9 bX;rw[MJ,bZ (by rw[mU];omega),FC hy k]
def Gz(bk:List (List aj)):Prop:=∀i:Nat,(∀j:Nat,0≤(ah (bJ bk i) j).2.1∧(ah (bJ bk i) j).2.1≤8)
def bQ(b:Int)(a:aj):aj:=(a.1,a.2.1,a.2.2.1,a.2.2.2.1,a.2.2.2.2.map fun p=>(p.1+b,p.2))
def mF(bk:List (List aj))(xs:List aj)(x:Int):List aj:=bU (ah xs x).2.1 (bJ bk (ah xs x).2.2.1)
def jJ(bk:List (List aj))(xs:List aj)(x y:Int):List aj:=
 bE (xs++((mF bk xs x).drop 1).map (bQ ((xs.length:Nat)-1))) (y,0) ((ay (mF bk xs x) (0,0)).1+((xs.length:Nat)-1),(ay (mF bk xs x) (0,0)).2)
def aV(bk:List (List aj))(xs:List aj)(c x y:Int):List aj:=
 bif c==1 then aY (aY xs (x,1) (y,1)) (x,2) (y,2)else bif c==2 then aY (aY xs (x,1) (y,1)) (x,2) (y,2)
 else bif c==3 then bM xs x y else bif c==4 then iA xs y else bif c==5 then bB xs x y else bif c==6 then gY xs x y else bif c==7 then jJ bk xs x y else xs
def bR(c x y:Int):List Int:=bif c==7 then[x]else[x,y]
structure IntPre(xs:List aj)(c x y:Int):Prop where
 x0:0≤x∧x<(xs.length:Nat)
 y0:0≤y∧y<(xs.length:Nat)
 c12:c=1∨c=2→ak xs (x,1)∧ak xs (x,2)∧ak xs (y,1)∧ak xs (y,2)
 c3:c=3→ak xs (x,1)∧ak xs (x,2)
 px:0<(ah xs x).2.2.2.2.length∧(ah xs x).2.2.2.2.length≤1000
 py:0<(ah xs y).2.2.2.2.length∧(ah xs y).2.2.2.2.length≤1000
 dy:(ah xs y).2.2.2.1.length≤1000000
 c5:c=5→ak xs (y,1)∧((ah xs y).1=7→ak xs (y,2))∧((ah xs y).1≠7→0<(ah xs y).2.2.2.1.length)
 c6:c=6→ak xs (y,1)∧((ah xs x).1=6→(ah xs y).2.2.2.1.length=2)∧((ah xs x).1≠6→0≤(ah xs x).2.2.1∧(ah xs x).2.2.1<((ah xs y).2.2.2.1.length:Nat))
def sW(lv x:Int)(b:Nat)(xs:List aj):Nat→List aj
 |0=>xs
 |k+1=>bX (bE (sW lv x b xs k++[aX 3 lv 0 [] 3]) (iN b k) (((b+k:Nat):Int),0)) (x,((k+1:Nat):Int)) (((b+k:Nat):Int),1)
def eY(xs:List aj)(x y:Int):List aj:=
 bif (ah xs y).1==11 then bX (bG xs y (bif (ah xs x).2.2.1==0 then 1 else 0)) (y,1) ((xs.length:Nat),0)
 else bX (sW (ah xs y).2.1 x (xs.length+1) (bG xs y (ah xs x).2.2.1) ((ah xs x).2.2.2.2.length-1)) (y,1) (iN (xs.length+1) ((ah xs x).2.2.2.2.length-1))
theorem rZ(lv x:Int)(b:Nat)(xs:List aj):∀k,(sW lv x b xs k).length=xs.length+k
 |0=>rfl
 |k+1=>by unfold sW;rw[gQ,iU,qA,rZ lv x b xs k];simp;omega
theorem qj{lv x:Int}{b:Nat}{xs:List aj}{p:aC}(h:ak xs p):∀k,ak (sW lv x b xs k) p
 |0=>h
 |k+1=>(qj h k).app.link.move
theorem Ny{lv x:Int}{xs:List aj}{s:Int}(h0:0≤s)(h1:s<3):∀{k i:Nat},i<k→ak (sW lv x xs.length xs k) (((xs.length+i:Nat):Int),s)
 |0,i,h=>by omega
 |k+1,i,h=>by
  by_cases e:i=k
  ·subst e;have:=(ak.new (xs:=sW lv x xs.length xs i) (k:=3) (l:=lv) (v:=0) (d:=[]) (n:=3) h0 (by omega));rw[rZ]at this;exact this.link.move
  ·exact(Ny h0 h1 (by omega:i<k)).app.link.move
theorem yN{lv x:Int}{xs:List aj}(hr:ak xs (iN xs.length 0)):∀k,ak (sW lv x xs.length xs k) (iN xs.length k)
 |0=>hr
 |k+1=>Ny (by decide) (by decide) (Nat.lt_succ_self k)
theorem wU{lv x:Int}{xs:List aj}(k:Nat){s:Int}(h0:0≤s)(h1:s<3):ak (sW lv x xs.length xs k++[aX 3 lv 0 [] 3]) (((xs.length+k:Nat):Int),s):=by
 have:=ak.new (xs:=sW lv x xs.length xs k) (k:=3) (l:=lv) (v:=0) (d:=[]) (n:=3) h0 (by omega)
 rwa[rZ]at this
theorem yO{lv x:Int}{xs:List aj}(h:bO xs)(h0:ak xs (0,0))(hr:ak xs (iN xs.length 0)):∀k,(∀i:Nat,i<k→ak xs (x,((i+1:Nat):Int)))→bO (sW lv x xs.length xs k)
 |0,_=>h
 |k+1,hk=>(((yO h h0 hr k fun i hi=>hk i (by omega)).add (qj h0 k) _ _ _ _ _).link (yN hr k).app (wU k (by decide) (by decide))).move (qj (hk k (by omega)) k).app.link (wU k (by decide) (by decide)).link
def wX(lab c d:Int)(xs:List aj)(i:Nat):List aj:=bE (bE (xs++[aX 4 lab 0 [] 3]) ((xs.length:Nat),1) (c,(i:Nat))) ((xs.length:Nat),2) (d,(i:Nat))
def bH(lab c d:Int)(xs:List aj):Nat→List aj
 |0=>xs
 |k+1=>wX lab c d (bH lab c d xs k) (k+1)
theorem J2(xs:List aj)(p q:aC)(i:Int):(ah (bE xs p q) i).2.1=(ah xs i).2.1:=by
 unfold bE
 have h:∀(xs:List aj) (p q:aC),(ah (aL xs p q) i).2.1=(ah xs i).2.1:=fun xs p q=>by
  rw[dW];split
  ·rename_i h;rw[yH h.1.symm]
  ·rfl
 rw[h,h]
theorem lX{x c d:Int}{xs:List aj}(hx:x.toNat<xs.length):∀k,bH (ah xs x).2.1 c d xs k=bV x c d xs k∧(ah (bV x c d xs k) x).2.1=(ah xs x).2.1
 |0=>⟨rfl,rfl⟩
 |k+1=>by
  obtain⟨h1,h2⟩:=lX hx k (c:=c) (d:=d);refine⟨?_,?_⟩
  ·unfold bH bV wX mO;rw[h1,h2]
  ·unfold bV mO;rw[J2,J2,bZ (by rw[jh];omega),h2]
def zN(z:Int):Prop:=0≤z∧z≤1000000
def gW(b:Int)(ps:List aC)(j:Nat):List aC:=(ps.take j).map (fun p=>(p.1+b,p.2))++ps.drop j
theorem pW(b:Int)(ps:List aC)(j:Nat):(gW b ps j).length=ps.length:=by unfold gW;simp;omega
theorem zl{b:Int}{ps:List aC}{j:Nat}(h:j<ps.length):elt (dflt bf) (gW b ps j) (j:Nat)=elt (dflt bf) ps (j:Nat):=by
 unfold elt gW;rw[qK,qC,qC,qL (by simp;omega)];simp;rw[show j-min j ps.length=0 by omega,Nat.add_zero]
theorem yj{b:Int}{ps:List aC}{j:Nat}(h:j<ps.length):gW b ps (j+1)=(gW b ps j).set j ((elt (dflt bf) ps (j:Nat)).1+b,(elt (dflt bf) ps (j:Nat)).2):=by
 have he:elt (dflt bf) ps (j:Nat)=ps[j]:=by
  unfold elt;rw[qK,qC,qB h];rfl
 unfold gW;rw[List.set_append_right _ _ (by simp;omega),List.take_add_one,qB h,qZ,he];have e:j-((ps.take j).map fun p:aC=>(p.1+b,p.2)).length=0:=by simp;omega
 rw[e,List.drop_eq_getElem_cons h,List.set_cons_zero];simp
theorem Am(b:Int)(ps:List aC):gW b ps ps.length=ps.map fun p=>(p.1+b,p.2):=by unfold gW;simp
def om(lv b:Int)(t:List aj)(k:Nat):List aj:=(((bU lv t).drop 1).take k).map (bQ b)
theorem FJ{lv b:Int}{t:List aj}{k:Nat}(h:k+1<t.length):om lv b t (k+1)=om lv b t k++[bQ b (jo lv (ah t ((k+1:Nat):Int)))]:=by
 unfold om bU;rw[List.take_add_one,qZ,List.getElem?_drop,qY,oZ h,show 1+k=k+1 by omega,qB h];rfl
theorem JK{lv b:Int}{t:List aj}{k:Nat}(h:k+1≤t.length):(om lv b t k).length=k:=by unfold om bU;simp;omega
def iG(t:List aj)(lv:Int)(xs:List aj)(y:Int):List aj:=
 bE (xs++om lv ((xs.length:Nat)-1) t (t.length-1)) (((xs.length:Nat)-1)+(ay t (0,0)).1,(ay t (0,0)).2) (y,0)
def eZ(x y:aj):Bool:=bif (bif x.1==9 then y.1==10 else false)then decide ((y.2.2.2.1.length:Int)≤x.2.2.1)else false
def jH(x y:aj):Bool:=bif (bif x.1==10 then y.1==9 else false)then decide ((x.2.2.2.1.length:Int)≤y.2.2.1)else false
def aS(x y:aj):Int:=bif eZ x y then 8 else bif jH x y then 8 else aU x.1 x.2.1 y.1 y.2.1
def au(xs:List aj)(a b:Int):Int×Int:=bif aQ (ah xs a).1 (ah xs a).2.1 (ah xs b).1 (ah xs b).2.1==2 then(b,a)else(a,b)
def Io(a b:Int):Int:=bif decide (b<a)then a else b
def lN(t:List aj):Nat→Int
 |0=>0
 |k+1=>Io (lN t k) (ah t (k:Nat)).2.1
def nS(x:aj):Int:=bif x.1==9 then IntKind.i64.wrap ((x.2.2.2.2.length:Nat)-1)else 0
def kV(bk:List (List aj))(c:Int)(x y:aj):Int:=
 bif c==3 then IntKind.i64.wrap ((y.2.2.2.2.length:Nat)-1)else bif c==4 then IntKind.i64.wrap ((y.2.2.2.2.length:Nat)-1)else bif c==6 then nS x else bif c==7 then((bJ bk x.2.2.1).length:Nat)else 0
def eG(bk:List (List aj))(x y:aj):Int×Int:=
 bif aS x y==8 then(0,11)else
 bif aS x y==7 then(bif decide ((bk.length:Int)≤x.2.2.1)then(0,3)else bif decide (8<IntKind.i64.wrap (lN (bJ bk x.2.2.1) (bJ bk x.2.2.1).length+x.2.1))then(0,9)else((dA 7 (kV bk 7 x y)).1,0))
 else((dA (aS x y) (kV bk (aS x y) x y)).1,0)
def eU(xs:List aj):Nat→Nat
 |0=>0
 |k+1=>bif (ah xs (k:Nat)).1 !=0 then eU xs k+1 else eU xs k
theorem FX(xs:List aj):∀k,eU xs k≤k
 |0=>Nat.le_refl _
 |k+1=>by
  have:=FX xs k;unfold eU;cases ((ah xs (k:Nat)).1 !=0)<;>simp<;>omega
def jX(bk:List (List aj))(xs:List aj)(c x y:Int):List aj:=
 bif c==1 then aY (aY xs (x,1) (y,1)) (x,2) (y,2)else bif c==2 then aY (aY xs (x,1) (y,1)) (x,2) (y,2)
 else bif c==3 then bM xs x y else bif c==4 then iA xs y else bif c==5 then bB xs x y else bif c==6 then eY xs x y else bif c==7 then iG (bJ bk (ah xs x).2.2.1) (ah xs x).2.1 xs y else xs
def dP(bk:List (List aj))(xs:List aj)(c x y:Int):List aj:=bif c==7 then bn (jX bk xs c x y) x else bn (bn (jX bk xs c x y) x) y
structure Le(xs:List aj)(c x y:Int):Prop extends IntPre xs c x y where
 k5:c=5→(ah xs y).1=7∨(ah xs y).1=8
 k6:c=6→((ah xs y).1=11→(ah xs y).2.2.2.1.length=2)∧((ah xs y).1≠11→0≤(ah xs x).2.2.1∧(ah xs x).2.2.1<((ah xs y).2.2.2.1.length:Nat)∧(ah xs x).1=9)
theorem Aa{xs:List aj}{a b:Int}{n:Int}(ha:0≤a∧a<n)(hb:0≤b∧b<n):(0≤(au xs a b).1∧(au xs a b).1<n)∧(0≤(au xs a b).2∧(au xs a b).2<n):=by
 unfold au;cases aQ (ah xs a).1 (ah xs a).2.1 (ah xs b).1 (ah xs b).2.1==2
 ·exact⟨ha,hb⟩
 ·exact⟨hb,ha⟩
theorem iK(xs:List aj)(a:Int):(bn xs a).length=xs.length:=List.length_set
theorem EL(xs:List aj)(x y:Int):xs.length≤(bM xs x y).length:=by
 unfold bM mH dup3;rw[yV,gQ,gQ,jh,iF];omega
theorem Kr(xs:List aj)(x y:Int):xs.length≤(bB xs x y).length:=by
 unfold bB;cases (ah xs y).1==7
 ·rw[qH,gQ];simp
 ·rw[qG,gQ,gQ];simp
theorem Lm(xs:List aj)(x y:Int):xs.length≤(eY xs x y).length:=by
 unfold eY;cases (ah xs y).1==11
 ·rw[qH,gQ,rZ];unfold bG;simp;omega
 ·rw[qG,gQ];unfold bG;simp
def gK(L:aC→Prop)(xs:List aj):Prop:=∀p,L p→ak xs p∧L (ay xs p)∧ay xs (ay xs p)=p∧ay xs p≠p
theorem gK.congr{L M:aC→Prop}{xs:List aj}(h:gK L xs)(e:∀p,M p↔L p):gK M xs:=fun p hp=>by
 obtain⟨h1,h2,h3⟩:=h p ((e p).1 hp);exact⟨h1,(e _).2 h2,h3⟩
theorem gK.cut{L:aC→Prop}{xs:List aj}(h:gK L xs){a:aC}(ha:L a):gK (fun p=>L p∧p≠a∧p≠ay xs a) xs:=fun p ⟨hp,h1,h2⟩=>by
 obtain⟨k1,k2,k3,k4⟩:=h p hp;refine⟨k1,⟨k2,fun e=>h2 (by rw[←e,k3]),fun e=>h1 ?_⟩,k3,k4⟩;have:=congrArg (ay xs) e;rw[k3,(h a ha).2.2.1]at this;exact this
theorem dS{p q:aC}(h1:p.1=q.1)(h2:p.2=q.2):p=q:=by cases p;cases q;simp_all
theorem gK.link{L:aC→Prop}{xs:List aj}(h:gK L xs){p q:aC}(hp:ak xs p)(hq:ak xs q)(np:¬L p)(nq:¬L q)(hpq:p≠q):gK (fun r=>L r∨r=p∨r=q) (bE xs p q):=fun r hr=>by
 have key:∀s,L s→ak xs s∧s≠p∧s≠q:=fun s hs=>⟨(h s hs).1,fun e=>np (e▸hs),fun e=>nq (e▸hs)⟩
 rcases hr with hr|rfl|rfl
 ·obtain⟨h1,h2,h3,h5⟩:=h r hr;obtain⟨_,n1,n2⟩:=key r hr;obtain⟨h4,n3,n4⟩:=key _ h2;have e1:ay (bE xs p q) r=ay xs r:=by rw[gu hp hq h1,if_neg n2.symm,if_neg n1.symm]
  refine⟨h1.link,?_,?_,?_⟩
  ·rw[e1];exact .inl h2
  ·rw[e1,gu hp hq h4,if_neg n4.symm,if_neg n3.symm,h3]
  ·rw[e1];exact h5
 ·have e1:ay (bE xs r q) r=q:=by rw[gu hp hq hp,if_neg hpq.symm,if_pos rfl]
  have e2:ay (bE xs r q) q=r:=by rw[gu hp hq hq,if_pos rfl]
  exact⟨hp.link,by rw[e1];exact .inr (.inr rfl),by rw[e1,e2],by rw[e1];exact hpq.symm⟩
 ·have e1:ay (bE xs p r) r=p:=by rw[gu hp hq hq,if_pos rfl]
  have e2:ay (bE xs p r) p=r:=by rw[gu hp hq hp,if_neg hpq.symm,if_pos rfl]
  exact⟨hq.link,by rw[e1];exact .inr (.inl rfl),by rw[e1,e2],by rw[e1];exact hpq⟩
theorem gK.move{L:aC→Prop}{xs:List aj}(h:gK L xs){old now:aC}(ho:L old)(hn:ak xs now)(nn:¬L now):gK (fun r=>(L r∧r≠old)∨r=now) (bX xs old now):=by
 obtain⟨h1,h2,h3,h4⟩:=h old ho;have hne:ay xs old≠now:=fun e=>nn (e▸h2)
 have:=(h.cut ho).link (p:=ay xs old) (q:=now) (h _ h2).1 hn (fun e=>e.2.2 rfl) (fun e=>nn e.1) hne;refine this.congr fun r=> ?_
 constructor
 ·rintro(⟨k1,k2⟩|rfl)
  ·by_cases e:r=ay xs old
   ·exact .inr (.inl e)
   ·exact .inl ⟨k1,k2,e⟩
  ·exact .inr (.inr rfl)
 ·rintro(⟨k1,k2,k3⟩|rfl|rfl)
  ·exact .inl ⟨k1,k2⟩
  ·exact .inl ⟨h2,h4⟩
  ·exact .inr rfl
theorem gK.join{L:aC→Prop}{xs:List aj}(h:gK L xs){x y:aC}(hx:L x)(hy:L y)(hxy:x≠y):gK (fun r=>L r∧r≠x∧r≠y) (aY xs x y):=by
 obtain⟨h1,h2,h3,h4⟩:=h x hx;obtain⟨k1,k2,k3,k4⟩:=h y hy;unfold aY
 by_cases e:ay xs x=y
 ·rw[show((ay xs x).1==y.1&&(ay xs x).2==y.2)=true by rw[e];simp];refine(h.cut hx).congr fun r=> ?_
  rw[e]
 ·rw[show((ay xs x).1==y.1&&(ay xs x).2==y.2)=false by
   cases hb:((ay xs x).1==y.1&&(ay xs x).2==y.2)with
   |false=>rfl
   |true=>
    simp only[qD,beq_iff_eq]at hb;exact absurd (dS hb.1 hb.2) e]
  rw[qH];have hyx:ay xs y≠x:=fun h=>e (by rw[←h,k3])
  have hpp:ay xs x≠ay xs y:=fun h=>hxy (by rw[←h3,h,k3])
  have c1:=h.cut hx;have hy':L y∧y≠x∧y≠ay xs x:=⟨hy,hxy.symm,fun h=>e h.symm⟩;have c2:=c1.cut (a:=y) hy';have:=c2.link (p:=ay xs x) (q:=ay xs y) (h _ h2).1 (h _ k2).1 (fun h=>h.1.2.2 rfl) (fun h=>h.2.2 rfl) hpp;refine this.congr fun r=> ?_
  constructor
  ·rintro⟨q1,q2,q3⟩
   by_cases e1:r=ay xs x
   ·exact .inr (.inl e1)
   by_cases e2:r=ay xs y
   ·exact .inr (.inr e2)
   ·exact .inl ⟨⟨q1,q2,e1⟩,q3,e2⟩
  ·rintro(⟨⟨q1,q2,q3⟩,q4,q5⟩|rfl|rfl)
   ·exact⟨q1,q2,q4⟩
   ·exact⟨h2,h4,e⟩
   ·exact⟨k2,hyx,k4⟩
theorem gK.app{L:aC→Prop}{xs:List aj}(h:gK L xs)(zs:List aj):gK L (xs++zs):=fun p hp=>by
 obtain⟨h1,h2,h3,h4⟩:=h p hp;have lt:∀{q:aC},ak xs q→q.1.toNat<xs.length:=fun {q} hq=>by have:=hq.1;have:=hq.2.1;omega
 have e1:=jD (ys:=zs) (lt h1);exact⟨h1.app,by rw[e1];exact h2,by rw[e1,jD (lt (h _ h2).1),h3],by rw[e1];exact h4⟩
def Agree(D:Int→Prop)(xs ys:List aj):Prop:=xs.length=ys.length∧∀i:Int,0≤i→i<(xs.length:Nat)→¬D i→ah xs i=ah ys i
theorem Agree.port{D:Int→Prop}{xs ys:List aj}(h:Agree D xs ys){p:aC}(hp:ak xs p)(hd:¬D p.1):ak ys p∧ay ys p=ay xs p:=by
 obtain⟨p1,p2,p3,p4⟩:=hp;have e:=h.2 p.1 p1 p2 hd;exact⟨⟨p1,by rw[←h.1];exact p2,p3,by rw[←e];exact p4⟩,by unfold ay;rw[e]⟩
theorem Agree.setPort{D:Int→Prop}{xs ys:List aj}(h:Agree D xs ys){p:aC}(q:aC)(hp:ak xs p)(hd:¬D p.1):Agree D (aL xs p q) (aL ys p q):=by
 refine⟨by rw[bW,bW];exact h.1,fun i h0 h1 hi=> ?_⟩;rw[bW]at h1;rw[dW,dW,h.2 p.1 hp.1 hp.2.1 hd,h.2 i h0 h1 hi,h.1]
theorem Agree.link{D:Int→Prop}{xs ys:List aj}(h:Agree D xs ys){p q:aC}(hp:ak xs p)(hq:ak xs q)(dp:¬D p.1)(dq:¬D q.1):Agree D (bE xs p q) (bE ys p q):=(h.setPort q hp dp).setPort p hq.set dq
theorem Agree.app{D:Int→Prop}{xs ys:List aj}(h:Agree D xs ys)(zs:List aj):Agree D (xs++zs) (ys++zs):=by
 refine⟨by rw[qA,qA,h.1],fun i h0 h1 hi=> ?_⟩;rw[qA]at h1
 by_cases hl:i<(xs.length:Nat)
 ·rw[bZ (by omega),bZ (by rw[←h.1];omega)];exact h.2 i h0 hl hi
 ·have:∀ws:List aj,ws.length=xs.length→ah (ws++zs) i=zs.getD (i.toNat-xs.length) (dflt aF):=fun ws hw=>by
   unfold ah elt;rw[qC,qL (by omega),hw,qC]
  rw[this xs rfl,this ys h.1.symm]
theorem Agree.mono{D E:Int→Prop}{xs ys:List aj}(h:Agree D xs ys)(k:∀i,D i→E i):Agree E xs ys:=⟨h.1,fun i h0 h1 hi=>h.2 i h0 h1 fun hd=>hi (k i hd)⟩
theorem Agree.drop{D:Int→Prop}{xs ys:List aj}(h:Agree D xs ys){a:Int}(h0:0≤a)(hd:D a):Agree D xs (bn ys a):=by
 refine⟨by unfold bn;rw[List.length_set];exact h.1,fun i i0 i1 hi=> ?_⟩;unfold bn;rw[kY,if_neg (fun e=>hi (by(have:i=a:=by omega);rw[this];exact hd))];exact h.2 i i0 i1 hi
structure vC(D:Int→Prop)(L:aC→Prop)(xs ys:List aj):Prop where
 ag:Agree D xs ys
 wi:gK L xs
 al:∀p,L p→¬D p.1
section
variable {D:Int→Prop}{L:aC→Prop}{xs ys:List aj}
theorem vC.peer(h:vC D L xs ys){p:aC}(hp:L p):ay ys p=ay xs p:=(h.ag.port (h.wi p hp).1 (h.al p hp)).2
theorem vC.move(h:vC D L xs ys){old now:aC}(ho:L old)(hn:ak xs now)(nn:¬L now)(dn:¬D now.1):vC D (fun r=>(L r∧r≠old)∨r=now) (bX xs old now) (bX ys old now):=by
 refine⟨?_,h.wi.move ho hn nn,fun p hp=> ?_⟩
 ·unfold bX;rw[h.peer ho];exact h.ag.link (h.wi _ (h.wi _ ho).2.1).1 hn (h.al _ (h.wi _ ho).2.1) dn
 ·rcases hp with hp|rfl
  ·exact h.al p hp.1
  ·exact dn
theorem vC.join(h:vC D L xs ys){x y:aC}(hx:L x)(hy:L y)(hxy:x≠y):vC D (fun r=>L r∧r≠x∧r≠y) (aY xs x y) (aY ys x y):=by
 refine⟨?_,h.wi.join hx hy hxy,fun p hp=>h.al p hp.1⟩;unfold aY;rw[h.peer hx,h.peer hy];cases ((ay xs x).1==y.1&&(ay xs x).2==y.2)with
 |true=>exact h.ag
 |false=>exact h.ag.link (h.wi _ (h.wi _ hx).2.1).1 (h.wi _ (h.wi _ hy).2.1).1 (h.al _ (h.wi _ hx).2.1) (h.al _ (h.wi _ hy).2.1)
theorem vC.link(h:vC D L xs ys){p q:aC}(hp:ak xs p)(hq:ak xs q)(np:¬L p)(nq:¬L q)(hpq:p≠q)(dp:¬D p.1)(dq:¬D q.1):vC D (fun r=>L r∨r=p∨r=q) (bE xs p q) (bE ys p q):=by
 refine⟨h.ag.link hp hq dp dq,h.wi.link hp hq np nq hpq,fun r hr=> ?_⟩;rcases hr with hr|rfl|rfl
 ·exact h.al r hr
 ·exact dp
 ·exact dq
theorem vC.app(h:vC D L xs ys)(zs:List aj):vC D L (xs++zs) (ys++zs):=⟨h.ag.app zs,h.wi.app zs,h.al⟩
theorem vC.congr(h:vC D L xs ys){M:aC→Prop}(e:∀p,M p↔L p):vC D M xs ys:=⟨h.ag,h.wi.congr e,fun p hp=>h.al p ((e p).1 hp)⟩
theorem vC.cut(h:vC D L xs ys){a:aC}(ha:L a):vC D (fun p=>L p∧p≠a∧p≠ay xs a) xs ys:=⟨h.ag,h.wi.cut ha,fun p hp=>h.al p hp.1⟩
theorem vC.gone(h:vC D L xs ys)(a:Int)(h0:0≤a)(ha:∀p,L p→p.1≠a):vC (fun i=>D i∨i=a) L xs (bn ys a):=
 ⟨(h.ag.mono fun i hi=>.inl hi).drop h0 (.inr rfl),h.wi,fun p hp e=>e.elim (h.al p hp) (ha p hp)⟩
end
end Go.Tr
namespace Go.Tr
open Go Go.RowKit
def Live(D:Int→Prop)(xs:List aj):aC→Prop:=fun p=>ak xs p∧¬D p.1
def St(D:Int→Prop)(xs ys:List aj):Prop:=vC D (Live D xs) xs ys
theorem ak.iV{xs:List aj}{p q r:aC}:ak (bE xs p q) r↔ak xs r:=⟨ak.unlink,ak.link⟩
theorem ak.iW{xs:List aj}{p q r:aC}:ak (bX xs p q) r↔ak xs r:=ak.iV
theorem ak.JW{xs:List aj}{p q r:aC}:ak (aY xs p q) r↔ak xs r:=by
 unfold aY;cases ((ay xs p).1==q.1&&(ay xs p).2==q.2)with
 |true=>exact Iff.rfl
 |false=>exact ak.iV
theorem ak.dK{xs:List aj}{a:aj}{r:aC}:ak (xs++[a]) r↔ak xs r∨(r.1=(xs.length:Nat)∧0≤r.2∧r.2<(a.aN.length:Nat)):=by
 constructor
 ·rintro⟨h1,h2,h3,h4⟩;rw[qA,qJ]at h2
  by_cases hl:r.1.toNat<xs.length
  ·rw[bZ hl]at h4;exact .inl ⟨h1,by omega,h3,h4⟩
  ·have e:r.1.toNat=xs.length:=by omega
   rw[pQ e]at h4;exact .inr ⟨by omega,h3,h4⟩
 ·rintro(h|⟨h1,h2,h3⟩)
  ·exact h.app
  ·refine⟨by omega,by rw[qA,qJ];omega,h2,?_⟩;rw[pQ (by omega)];exact h3
structure iM(D:Int→Prop)(xs:List aj)(x y:Int):Prop where
 ne:x≠y
 lx:¬D x
 ly:¬D y
 px:ak xs (x,0)
 py:ak xs (y,0)
 w:ay xs (x,0)=(y,0)
section
variable {D:Int→Prop}{xs ys:List aj}{x y:Int}
theorem St.open_(h:St D xs ys)(k:iM D xs x y):vC D (fun p=>(ak xs p∧¬D p.1)∧p≠(x,0)∧p≠(y,0)) xs ys:=by
 have:=h.cut (a:=(x,0)) ⟨k.px,k.lx⟩;rw[k.w]at this;exact this
theorem dB{a b s t:Int}(h:a≠b∨s≠t):((a,s):aC)≠(b,t):=fun e=>by
 injection e with e1 e2
 rcases h with h|h
 ·exact h e1
 ·exact h e2
theorem St.joins(h:St D xs ys)(k:iM D xs x y)(hx:(ah xs x).2.2.2.2.length=3)(hy:(ah xs y).2.2.2.2.length=3):
  St (fun i=>D i∨i=x∨i=y) (aY (aY xs (x,1) (y,1)) (x,2) (y,2)) (bn (bn (aY (aY ys (x,1) (y,1)) (x,2) (y,2)) x) y):=by
 have inx:∀s:Int,0≤s→s<3→ak xs (x,s):=fun s h0 h1=>⟨k.px.1,k.px.2.1,h0,by show s<((ah xs x).2.2.2.2.length:Nat);omega⟩
 have iny:∀s:Int,0≤s→s<3→ak xs (y,s):=fun s h0 h1=>⟨k.py.1,k.py.2.1,h0,by show s<((ah xs y).2.2.2.2.length:Nat);omega⟩
 have s0:=h.open_ k;have s1:=s0.join (x:=(x,1)) (y:=(y,1)) ⟨⟨inx 1 (by decide) (by decide),k.lx⟩,dB (.inr (by decide)),dB (.inl k.ne)⟩ ⟨⟨iny 1 (by decide) (by decide),k.ly⟩,dB (.inl k.ne.symm),dB (.inr (by decide))⟩ (dB (.inl k.ne));have s2:=s1.join (x:=(x,2)) (y:=(y,2)) ⟨⟨⟨inx 2 (by decide) (by decide),k.lx⟩,dB (.inr (by decide)),dB (.inl k.ne)⟩,dB (.inr (by decide)),dB (.inl k.ne)⟩ ⟨⟨⟨iny 2 (by decide) (by decide),k.ly⟩,dB (.inl k.ne.symm),dB (.inr (by decide))⟩,dB (.inl k.ne.symm),dB (.inr (by decide))⟩ (dB (.inl k.ne))
 have key:∀p:aC,Live (fun i=>D i∨i=x∨i=y) (aY (aY xs (x,1) (y,1)) (x,2) (y,2)) p↔((((ak xs p∧¬D p.1)∧p≠(x,0)∧p≠(y,0))∧p≠(x,1)∧p≠(y,1))∧p≠(x,2)∧p≠(y,2)):=fun p=>by
  unfold Live;rw[ak.JW,ak.JW];constructor
  ·rintro⟨h1,h2⟩;have h3:p.1≠x:=fun e=>h2 (.inr (.inl e))
   have h4:p.1≠y:=fun e=>h2 (.inr (.inr e))
   have nx:∀s,p≠(x,s):=fun s e=>h3 (by rw[e])
   have ny:∀s,p≠(y,s):=fun s e=>h4 (by rw[e])
   exact⟨⟨⟨⟨h1,fun e=>h2 (.inl e)⟩,nx 0,ny 0⟩,nx 1,ny 1⟩,nx 2,ny 2⟩
  ·rintro⟨⟨⟨⟨h1,h2⟩,x0,y0⟩,x1,y1⟩,x2,y2⟩;refine⟨h1,fun e=> ?_⟩;obtain⟨q1,q2,q3,q4⟩:=h1;rcases e with e|e|e
   ·exact h2 e
   ·rw[e]at q4;have q5:p.2<3:=by(have:p.2<((ah xs x).2.2.2.2.length:Nat):=q4);omega
    have:p.2=0∨p.2=1∨p.2=2:=by omega
    rcases this with e2|e2|e2
    ·exact x0 (dS e e2)
    ·exact x1 (dS e e2)
    ·exact x2 (dS e e2)
   ·rw[e]at q4;have q5:p.2<3:=by(have:p.2<((ah xs y).2.2.2.2.length:Nat):=q4);omega
    have:p.2=0∨p.2=1∨p.2=2:=by omega
    rcases this with e2|e2|e2
    ·exact y0 (dS e e2)
    ·exact y1 (dS e e2)
    ·exact y2 (dS e e2)
 have s3:=s2.congr key;have s4:=(s3.gone x k.px.1 fun p hp e=>hp.2 (.inr (.inl e))).gone y k.py.1 fun p hp e=>hp.2 (.inr (.inr e))
 exact⟨s4.ag.mono fun i hi=>by rcases hi with(hi|hi)|hi<;>simp_all,s4.wi,fun p hp=>hp.2⟩
end
end Go.Tr
namespace Go.Tr
open Go Go.RowKit
def SX(D:Int→Prop)(X:aC→Prop)(xs ys:List aj):Prop:=vC D (fun p=>(ak xs p∧¬D p.1)∧¬X p) xs ys
section
variable {D:Int→Prop}{X Y:aC→Prop}{xs ys:List aj}
theorem SX.congr(h:SX D X xs ys)(e:∀p,ak xs p→¬D p.1→(Y p↔X p)):SX D Y xs ys:=vC.congr h fun p=>by
 constructor
 ·rintro⟨⟨h1,h2⟩,h3⟩;exact⟨⟨h1,h2⟩,fun h4=>h3 ((e p h1 h2).2 h4)⟩
 ·rintro⟨⟨h1,h2⟩,h3⟩;exact⟨⟨h1,h2⟩,fun h4=>h3 ((e p h1 h2).1 h4)⟩
theorem SX.add(h:SX D X xs ys)(a:aj):SX D (fun p=>X p∨p.1=(xs.length:Nat)) (xs++[a]) (ys++[a]):=vC.congr (vC.app h [a]) fun p=>by
 rw[ak.dK];constructor
 ·rintro⟨⟨h1,h2⟩,h3⟩;rcases h1 with h1|h1
  ·exact⟨⟨h1,h2⟩,fun h4=>h3 (.inl h4)⟩
  ·exact absurd (.inr h1.1) h3
 ·rintro⟨⟨h1,h2⟩,h3⟩;refine⟨⟨.inl h1,h2⟩,fun h4=> ?_⟩;rcases h4 with h4|h4
  ·exact h3 h4
  ·have:=h1.2.1;omega
theorem SX.move(h:SX D X xs ys){old now:aC}(ho:ak xs old)(od:¬D old.1)(ox:¬X old)(hn:ak xs now)(nd:¬D now.1)(nx:X now):SX D (fun p=>(X p∨p=old)∧p≠now) (bX xs old now) (bX ys old now):=by
 refine vC.congr (vC.move h (old:=old) (now:=now) ⟨⟨ho,od⟩,ox⟩ hn (fun k=>k.2 nx) nd) fun p=> ?_
 rw[ak.iW];constructor
 ·rintro⟨⟨h1,h2⟩,h3⟩
  by_cases e:p=now
  ·exact .inr e
  ·exact .inl ⟨⟨⟨h1,h2⟩,fun k=>h3 ⟨.inl k,e⟩⟩,fun k=>h3 ⟨.inr k,e⟩⟩
 ·rintro(⟨⟨⟨h1,h2⟩,h3⟩,h4⟩|rfl)
  ·exact⟨⟨h1,h2⟩,fun k=>k.1.elim h3 h4⟩
  ·exact⟨⟨hn,nd⟩,fun k=>k.2 rfl⟩
theorem SX.link(h:SX D X xs ys){p q:aC}(hp:ak xs p)(pd:¬D p.1)(px:X p)(hq:ak xs q)(qd:¬D q.1)(qx:X q)(hpq:p≠q):SX D (fun r=>X r∧r≠p∧r≠q) (bE xs p q) (bE ys p q):=by
 refine vC.congr (vC.link h hp hq (fun k=>k.2 px) (fun k=>k.2 qx) hpq pd qd) fun r=> ?_
 rw[ak.iV];constructor
 ·rintro⟨⟨h1,h2⟩,h3⟩
  by_cases e1:r=p
  ·exact .inr (.inl e1)
  by_cases e2:r=q
  ·exact .inr (.inr e2)
  ·exact .inl ⟨⟨h1,h2⟩,fun k=>h3 ⟨k,e1,e2⟩⟩
 ·rintro(⟨⟨h1,h2⟩,h3⟩|rfl|rfl)
  ·exact⟨⟨h1,h2⟩,fun k=>h3 k.1⟩
  ·exact⟨⟨hp,pd⟩,fun k=>k.2.1 rfl⟩
  ·exact⟨⟨hq,qd⟩,fun k=>k.2.2 rfl⟩
theorem SX.start{x y:Int}(h:St D xs ys)(k:iM D xs x y):SX D (fun p=>p=(x,0)∨p=(y,0)) xs ys:=vC.congr (h.open_ k) fun p=>by
 constructor
 ·rintro⟨h1,h3⟩;exact⟨h1,fun e=>h3 (.inl e),fun e=>h3 (.inr e)⟩
 ·rintro⟨h1,h2,h3⟩;exact⟨h1,fun e=>e.elim h2 h3⟩
theorem SX.PD{x y:Int}(h:SX D X xs ys)(x0:0≤x)(y0:0≤y)(e:∀p,ak xs p→¬D p.1→(X p↔p.1=x∨p.1=y)):St (fun i=>D i∨i=x∨i=y) xs (bn (bn ys x) y):=by
 have s3:vC D (Live (fun i=>D i∨i=x∨i=y) xs) xs ys:=vC.congr h fun p=>by
  unfold Live;constructor
  ·rintro⟨h1,h2⟩;have h3:¬D p.1:=fun k=>h2 (.inl k)
   exact⟨⟨h1,h3⟩,fun k=>h2 (.inr ((e p h1 h3).1 k))⟩
  ·rintro⟨⟨h1,h2⟩,h3⟩;exact⟨h1,fun k=>k.elim h2 fun k=>h3 ((e p h1 h2).2 k)⟩
 have s4:=(s3.gone x x0 fun p hp e=>hp.2 (.inr (.inl e))).gone y y0 fun p hp e=>hp.2 (.inr (.inr e))
 exact⟨s4.ag.mono fun i hi=>by rcases hi with(hi|hi)|hi<;>simp_all,s4.wi,fun p hp=>hp.2⟩
theorem SX.end1{x:Int}(h:SX D X xs ys)(x0:0≤x)(e:∀p,ak xs p→¬D p.1→(X p↔p.1=x)):St (fun i=>D i∨i=x) xs (bn ys x):=by
 have s3:vC D (Live (fun i=>D i∨i=x) xs) xs ys:=vC.congr h fun p=>by
  unfold Live;constructor
  ·rintro⟨h1,h2⟩;have h3:¬D p.1:=fun k=>h2 (.inl k)
   exact⟨⟨h1,h3⟩,fun k=>h2 (.inr ((e p h1 h3).1 k))⟩
  ·rintro⟨⟨h1,h2⟩,h3⟩;exact⟨h1,fun k=>k.elim h2 fun k=>h3 ((e p h1 h2).2 k)⟩
 have s4:=s3.gone x x0 fun p hp e=>hp.2 (.inr e)
 exact⟨s4.ag,s4.wi,fun p hp=>hp.2⟩
theorem SX.len(h:SX D X xs ys):xs.length=ys.length:=h.ag.1
theorem SX.at_(h:SX D X xs ys){i:Int}(h0:0≤i)(h1:i<(xs.length:Nat))(hd:¬D i):ah ys i=ah xs i:=(h.ag.2 i h0 h1 hd).symm
theorem JH{y:Int}{p:aC}(hlt:p.1.toNat<xs.length):∀{k:Nat},ak (r9 y xs k) p→ak xs p
 |0,h=>h
 |k+1,h=>by
  unfold r9 at h;rw[ak.iW,ak.dK,mU]at h;rcases h with h|⟨h,_⟩
  ·exact JH hlt h
  ·omega
theorem RA{x y:Int}(h:St D xs ys)(k:iM D xs x y)(hD:∀i,D i→i<(xs.length:Nat)):∀n:Nat,n≤(ah xs y).2.2.2.2.length-1→SX D (fun p=>p=(x,0)∨(p.1=y∧p.2≤(n:Nat))) (r9 y xs n) (r9 y ys n)
 |0,_=>(SX.start h k).congr fun p hp _=>by
  constructor
  ·rintro(e|⟨e1,e2⟩)
   ·exact .inl e
   ·exact .inr (dS e1 (by have:=hp.2.2.1;show p.2=0;omega))
  ·rintro(e|e)
   ·exact .inl e
   ·exact .inr (by rw[e];exact⟨rfl,Int.le_refl _⟩)
 |n+1,hn=>by
  have ih:=RA h k hD n (by omega);have hl:(r9 y xs n).length=xs.length+n:=mU y xs n;have hyl:=k.py.2.1;have hy0:=k.py.1;have hpy:ak xs (y,((n+1:Nat):Int)):=⟨hy0,hyl,by omega,by show((n+1:Nat):Int)<((ah xs y).2.2.2.2.length:Nat);omega⟩;have hin:=sQ (y:=y) hpy n;have s1:=ih.add (aX 5 0 0 [] 1);have hnew:ak (r9 y xs n++[aX 5 0 0 [] 1]) (((xs.length+n:Nat):Int),0):=ak.dK.2 (.inr ⟨by rw[hl],Int.le_refl _,show(0:Int)<1 by decide⟩)
  have s2:=s1.move (old:=(y,((n+1:Nat):Int))) (now:=(((xs.length+n:Nat):Int),0)) hin.app k.ly (by
   rintro((e|⟨_,e⟩)|e)
   ·exact dB (.inl k.ne.symm) e
   ·have:((n+1:Nat):Int)≤(n:Nat):=e;omega
   ·have:y=((r9 y xs n).length:Nat):=e;rw[hl]at this;omega) hnew (fun e=>by have:=hD _ e;show False;have h2:((xs.length+n:Nat):Int)<(xs.length:Nat):=this;omega) (.inr (by rw[hl]))
  have hyx:(r9 y ys n++[aX 5 0 0 [] 1])=r9 y ys n++[aX 5 0 0 [] 1]:=rfl
  have s3:SX D (fun p=>p=(x,0)∨(p.1=y∧p.2≤((n+1:Nat):Int))) (bX (r9 y xs n++[aX 5 0 0 [] 1]) (y,((n+1:Nat):Int)) (((xs.length+n:Nat):Int),0)) (bX (r9 y ys n++[aX 5 0 0 [] 1]) (y,((n+1:Nat):Int)) (((xs.length+n:Nat):Int),0)):=s2.congr fun p hp _=>by
   rw[ak.iW,ak.dK,hl]at hp;rw[hl];constructor
   ·rintro(rfl|⟨e1,e2⟩)
    ·refine⟨.inl (.inl (.inl rfl)),dB (.inl ?_)⟩;have:=k.px.2.1;show x≠((xs.length+n:Nat):Int);have h2:x<(xs.length:Nat):=this;omega
    ·refine⟨?_,fun e=> ?_⟩
     ·by_cases e3:p.2=((n+1:Nat):Int)
      ·exact .inr (dS e1 e3)
      ·exact .inl (.inl (.inr ⟨e1,by omega⟩))
     ·rw[e]at e1;have:((xs.length+n:Nat):Int)=y:=e1;have h2:y<(xs.length:Nat):=hyl;omega
   ·rintro⟨((e|⟨e1,e2⟩)|e)|e,e3⟩
    ·exact .inl e
    ·exact .inr ⟨e1,by omega⟩
    ·rcases hp with hp|⟨q1,q2,q3⟩
     ·have h2:=hp.2.1;rw[hl]at h2;have e':p.1=((xs.length+n:Nat):Int):=e;omega
     ·refine absurd (dS (q:=(((xs.length+n:Nat):Int),0)) e ?_) e3;have:p.2<1:=q3;show p.2=0;omega
    ·exact .inr (by rw[e];exact⟨rfl,Int.le_refl _⟩)
  show SX D _ (r9 y xs (n+1)) (r9 y ys (n+1));unfold r9;rw[←h.ag.1];exact s3
theorem St.erase{x y:Int}(h:St D xs ys)(k:iM D xs x y)(hD:∀i,D i→i<(xs.length:Nat))(hx:(ah xs x).2.2.2.2.length=1):St (fun i=>D i∨i=x∨i=y) (iA xs y) (bn (bn (iA ys y) x) y):=by
 have e:ah ys y=ah xs y:=(h.ag.2 y k.py.1 k.py.2.1 k.ly).symm;unfold iA;rw[e];have s:=RA h k hD ((ah xs y).2.2.2.2.length-1) (Nat.le_refl _);refine s.PD k.px.1 k.py.1 fun p hp _=> ?_
 have hport:p.1=x∨p.1=y→ak xs p:=fun hc=>by
  have hlt:p.1.toNat<xs.length:=by
   have h1:=k.px.2.1;have h2:=k.py.2.1;have h3:=k.px.1;have h4:=k.py.1
   have g1:x<(xs.length:Nat):=h1;have g2:y<(xs.length:Nat):=h2;have g3:0≤x:=h3;have g4:0≤y:=h4;rcases hc with hc|hc<;>omega
  exact JH hlt hp
 constructor
 ·rintro(rfl|⟨e1,_⟩)
  ·exact .inl rfl
  ·exact .inr e1
 ·intro hc;obtain⟨q1,q2,q3,q4⟩:=hport hc;rcases hc with hc|hc
  ·rw[hc]at q4;have:p.2<((ah xs x).2.2.2.2.length:Nat):=q4;exact .inl (dS hc (by show p.2=0;omega))
  ·rw[hc]at q4;have:p.2<((ah xs y).2.2.2.2.length:Nat):=q4;exact .inr ⟨hc,by omega⟩
theorem Di{p:aC}(h:ak xs p):p.1.toNat<xs.length:=by have:=h.1;have:=h.2.1;omega
theorem St.operate{x y:Int}(h:St D xs ys)(k:iM D xs x y)(hD:∀i,D i→i<(xs.length:Nat))(hx:(ah xs x).2.2.2.2.length=1)(h7:(ah xs y).1=7→(ah xs y).2.2.2.2.length=3)(h8:(ah xs y).1≠7→(ah xs y).2.2.2.2.length=2):
  St (fun i=>D i∨i=x∨i=y) (bB xs x y) (bn (bn (bB ys x y) x) y):=by
 have ey:ah ys y=ah xs y:=(h.ag.2 y k.py.1 k.py.2.1 k.ly).symm;have ex:ah ys x=ah xs x:=(h.ag.2 x k.px.1 k.px.2.1 k.lx).symm;have hn:¬D (xs.length:Nat):=fun e=>by have:=hD _ e;omega
 have xl:x<(xs.length:Nat):=k.px.2.1;have yl:y<(xs.length:Nat):=k.py.2.1;have iny:∀s:Int,0≤s→s<((ah xs y).2.2.2.2.length:Nat)→ak xs (y,s):=fun s h0 h1=>⟨k.py.1,k.py.2.1,h0,h1⟩
 have fin:∀(X:aC→Prop) (a:aj) (zs:List aj),(∀p,ak zs p↔ak (xs++[a]) p)→(∀p,ak (xs++[a]) p→(X p↔(ak xs p∧(p.1=x∨p.1=y))))→∀p,ak zs p→¬D p.1→(X p↔p.1=x∨p.1=y):=fun X a zs hz hX p hp _=>by
  rw[hX p ((hz p).1 hp)];constructor
  ·exact fun e=>e.2
  ·intro e;refine⟨?_,e⟩;rcases ak.dK.1 ((hz p).1 hp)with q|⟨q,_⟩
   ·exact q
   ·rcases e with e|e<;>omega
 unfold bB;rw[ex,ey,←h.ag.1];cases hk:(ah xs y).1==7 with
 |true=>
  have h3:=h7 (by simpa using hk);simp only[qG];have i1:=iny 1 (by decide) (by omega);have i2:=iny 2 (by decide) (by omega);have s1:=(SX.start h k).add (aX 8 (ah xs y).2.1 (ah xs y).2.2.1 [(ah xs x).2.2.1] 2);have n0:ak (xs++[aX 8 (ah xs y).2.1 (ah xs y).2.2.1 [(ah xs x).2.2.1] 2]) ((xs.length:Nat),0):=ak.dK.2 (.inr ⟨rfl,Int.le_refl _,show(0:Int)<2 by decide⟩);have n1:ak (xs++[aX 8 (ah xs y).2.1 (ah xs y).2.2.1 [(ah xs x).2.2.1] 2]) ((xs.length:Nat),1):=ak.dK.2 (.inr ⟨rfl,show(0:Int)≤1 by decide,show(1:Int)<2 by decide⟩)
  have s2:=s1.move (old:=(y,1)) (now:=((xs.length:Nat),0)) i1.app k.ly (by
   rintro((e|e)|e)
   ·exact dB (.inl k.ne.symm) e
   ·exact dB (.inr (by decide)) e
   ·have:y=(xs.length:Nat):=e;omega) n0 hn (.inr rfl)
  have s3:=s2.move (old:=(y,2)) (now:=((xs.length:Nat),1)) i2.app.move k.ly (by
   rintro⟨((e|e)|e)|e,_⟩
   ·exact dB (.inl k.ne.symm) e
   ·exact dB (.inr (by decide)) e
   ·have:y=(xs.length:Nat):=e;omega
   ·exact dB (.inr (by decide)) e) n1.move hn ⟨.inl (.inr rfl),dB (.inr (by decide))⟩
  refine s3.PD k.px.1 k.py.1 (fin _ _ _ (fun p=>by rw[ak.iW,ak.iW]) fun p hp=> ?_)
  have hA:p.1=(xs.length:Nat)→p=(((xs.length:Nat):Int),0)∨p=(((xs.length:Nat):Int),1):=fun e=>by
   rcases ak.dK.1 hp with q|⟨_,q2,q3⟩
   ·have:=q.2.1;omega
   ·have:p.2<2:=q3;have:p.2=0∨p.2=1:=by omega
    rcases this with e2|e2
    ·exact .inl (dS e e2)
    ·exact .inr (dS e e2)
  constructor
  ·rintro⟨(⟨((e|e)|e)|e,e2⟩|e),e3⟩
   ·rw[e];exact⟨k.px,.inl rfl⟩
   ·rw[e];exact⟨k.py,.inr rfl⟩
   ·rcases hA e with e4|e4
    ·exact absurd e4 e2
    ·exact absurd e4 e3
   ·rw[e];exact⟨i1,.inr rfl⟩
   ·rw[e];exact⟨i2,.inr rfl⟩
  ·rintro⟨q,e⟩;have ne:∀s,p≠(((xs.length:Nat):Int),s):=fun s e2=>by have:=q.2.1;rw[e2]at this;have h3:((xs.length:Nat):Int)<(xs.length:Nat):=this;omega
   refine⟨?_,ne 1⟩;obtain⟨q1,q2,q3,q4⟩:=q;rcases e with e|e
   ·rw[e]at q4;have:p.2<((ah xs x).2.2.2.2.length:Nat):=q4;exact .inl ⟨.inl (.inl (.inl (dS e (by show p.2=0;omega)))),ne 0⟩
   ·rw[e]at q4;have:p.2<((ah xs y).2.2.2.2.length:Nat):=q4;have:p.2=0∨p.2=1∨p.2=2:=by omega
    rcases this with e2|e2|e2
    ·exact .inl ⟨.inl (.inl (.inr (dS e e2))),ne 0⟩
    ·exact .inl ⟨.inr (dS e e2),ne 0⟩
    ·exact .inr (dS e e2)
 |false=>
  have h3:=h8 (by simpa using hk);simp only[qH];have i1:=iny 1 (by decide) (by omega);generalize hv:vJ (ah xs y).2.2.1 (jN (ah xs y).2.2.2.1 0) (ah xs x).2.2.1=v;have s1:=(SX.start h k).add (aX 6 0 v [] 1);have n0:ak (xs++[aX 6 0 v [] 1]) ((xs.length:Nat),0):=ak.dK.2 (.inr ⟨rfl,Int.le_refl _,show(0:Int)<1 by decide⟩)
  have s2:=s1.move (old:=(y,1)) (now:=((xs.length:Nat),0)) i1.app k.ly (by
   rintro((e|e)|e)
   ·exact dB (.inl k.ne.symm) e
   ·exact dB (.inr (by decide)) e
   ·have:y=(xs.length:Nat):=e;omega) n0 hn (.inr rfl)
  refine s2.PD k.px.1 k.py.1 (fin _ _ _ (fun p=>by rw[ak.iW]) fun p hp=> ?_)
  have hA:p.1=(xs.length:Nat)→p=(((xs.length:Nat):Int),0):=fun e=>by
   rcases ak.dK.1 hp with q|⟨_,q2,q3⟩
   ·have:=q.2.1;omega
   ·have:p.2<1:=q3;exact dS e (by show p.2=0;omega)
  constructor
  ·rintro⟨((e|e)|e)|e,e2⟩
   ·rw[e];exact⟨k.px,.inl rfl⟩
   ·rw[e];exact⟨k.py,.inr rfl⟩
   ·exact absurd (hA e) e2
   ·rw[e];exact⟨i1,.inr rfl⟩
  ·rintro⟨q,e⟩;have ne:∀s,p≠(((xs.length:Nat):Int),s):=fun s e2=>by have:=q.2.1;rw[e2]at this;have h3:((xs.length:Nat):Int)<(xs.length:Nat):=this;omega
   refine⟨?_,ne 0⟩;obtain⟨q1,q2,q3,q4⟩:=q;rcases e with e|e
   ·rw[e]at q4;have:p.2<((ah xs x).2.2.2.2.length:Nat):=q4;exact .inl (.inl (.inl (dS e (by show p.2=0;omega))))
   ·rw[e]at q4;have:p.2<((ah xs y).2.2.2.2.length:Nat):=q4;have:p.2=0∨p.2=1:=by omega
    rcases this with e2|e2
    ·exact .inl (.inl (.inr (dS e e2)))
    ·exact .inr (dS e e2)
end
end Go.Tr
namespace Go.Tr
open Go Go.RowKit
section
variable {D:Int→Prop}{xs ys:List aj}{x y:Int}
theorem o9(lab c d:Int)(xs:List aj):∀k,(bH lab c d xs k).length=xs.length+k
 |0=>rfl
 |k+1=>by unfold bH wX;rw[iU,iU,qA,o9 lab c d xs k];rfl
theorem lZ{lab c d:Int}{xs:List aj}{p:aC}(h:ak xs p):∀k,ak (bH lab c d xs k) p
 |0=>h
 |k+1=>(lZ h k).app.link.link
theorem JM{P Q:List aj}{lab:Int}{n m:Nat}(hn:P.length=n+2)(hx:x<(n:Nat))(hy:y<(n:Nat))(hD:∀i,D i→i<(n:Nat))(hm:∀s:Int,0≤s→s<(m:Nat)→ak P ((n:Nat),s)∧ak P ((n+1:Nat),s))
  (h:SX D (fun p=>p=(x,0)∨p=(y,0)∨p.1=(n:Nat)∨p.1=((n+1:Nat):Int)) P Q):∀k:Nat,k+1≤m→
  SX D (fun p=>p=(x,0)∨p=(y,0)∨((p.1=(n:Nat)∨p.1=((n+1:Nat):Int))∧(p.2=0∨(k:Int)<p.2))∨(((n+2:Nat):Int)≤p.1∧p.2=0)) (bH lab ((n:Nat):Int) ((n+1:Nat):Int) P k) (bH lab ((n:Nat):Int) ((n+1:Nat):Int) Q k)
 |0,_=>h.congr fun p hp _=>by
  obtain⟨q1,q2,q3,_⟩:=hp;obtain⟨a,s⟩:=p;rw[hn]at q2;simp only[Prod.mk.injEq]at*;omega
 |k+1,hk=>by
  have ih:=JM (lab:=lab) hn hx hy hD hm h k (by omega);have hl:(bH lab ((n:Nat):Int) ((n+1:Nat):Int) P k).length=n+2+k:=by rw[o9,hn]
  have hlq:(bH lab ((n:Nat):Int) ((n+1:Nat):Int) Q k).length=n+2+k:=by rw[←ih.len,hl]
  have nd:∀i:Nat,n≤i→¬D (i:Nat):=fun i hi e=>by have:=hD _ e;omega
  obtain⟨hc,hd⟩:=hm ((k+1:Nat):Int) (by omega) (by omega);have hc1:=lZ (lab:=lab) (c:=((n:Nat):Int)) (d:=((n+1:Nat):Int)) hc k;have hd1:=lZ (lab:=lab) (c:=((n:Nat):Int)) (d:=((n+1:Nat):Int)) hd k;generalize hA:bH lab ((n:Nat):Int) ((n+1:Nat):Int) P k=A at*;generalize hB:bH lab ((n:Nat):Int) ((n+1:Nat):Int) Q k=B at*;have s1:=ih.add (aX 4 lab 0 [] 3);have f1:ak (A++[aX 4 lab 0 [] 3]) ((A.length:Nat),1):=ak.dK.2 (.inr ⟨rfl,show(0:Int)≤1 by decide,show(1:Int)<3 by decide⟩)
  have f2:ak (A++[aX 4 lab 0 [] 3]) ((A.length:Nat),2):=ak.dK.2 (.inr ⟨rfl,show(0:Int)≤2 by decide,show(2:Int)<3 by decide⟩);rw[hl]at f1 f2 s1;have s2:=s1.link (p:=((n+2+k:Nat),1)) (q:=((n:Nat),((k+1:Nat):Int))) f1 (nd _ (by omega)) (.inr rfl) hc1.app (nd _ (Nat.le_refl _)) (.inl (.inr (.inr (.inl ⟨.inl rfl,.inr (show(k:Int)<((k+1:Nat):Int) by omega)⟩)))) (dB (.inl (by omega)))
  have s3:=s2.link (p:=((n+2+k:Nat),2)) (q:=((n+1:Nat),((k+1:Nat):Int))) f2.link (nd _ (by omega)) ⟨.inr rfl,dB (.inr (by decide)),dB (.inl (by omega))⟩ hd1.app.link (nd _ (by omega))
   ⟨.inl (.inr (.inr (.inl ⟨.inr rfl,.inr (show(k:Int)<((k+1:Nat):Int) by omega)⟩))),dB (.inl (by omega)),dB (.inl (by omega))⟩ (dB (.inl (by omega)))
  have e1:bH lab ((n:Nat):Int) ((n+1:Nat):Int) P (k+1)=bE (bE (A++[aX 4 lab 0 [] 3]) ((n+2+k:Nat),1) ((n:Nat),((k+1:Nat):Int))) ((n+2+k:Nat),2) ((n+1:Nat),((k+1:Nat):Int)):=by
   rw[←hl,←hA];rfl
  have e2:bH lab ((n:Nat):Int) ((n+1:Nat):Int) Q (k+1)=bE (bE (B++[aX 4 lab 0 [] 3]) ((n+2+k:Nat),1) ((n:Nat),((k+1:Nat):Int))) ((n+2+k:Nat),2) ((n+1:Nat),((k+1:Nat):Int)):=by
   rw[←hlq,←hB];rfl
  rw[e1,e2];refine s3.congr fun p hp _=> ?_
  rw[ak.iV,ak.iV,ak.dK,hl]at hp
  have hp':p.1<((n+2+k:Nat):Int)∨(p.1=((n+2+k:Nat):Int)∧0≤p.2∧p.2<3):=by
   rcases hp with hp|hp
   ·have:=hp.2.1;rw[hl]at this;exact .inl this
   ·exact .inr hp
  have h0:0≤p.2:=by
   rcases hp with hp|hp
   ·exact hp.2.2.1
   ·exact hp.2.1
  obtain⟨a,s⟩:=p;simp only[Prod.mk.injEq,ne_eq]at*;omega
theorem F5{P Q:List aj}{b m:Nat}{X:aC→Prop}(hX:∀k:Nat,k<m→¬X (y,((k:Nat):Int)+1)∧X (((b+k:Nat):Int),0))(hy:ak P (y,0)∧∀k:Nat,k<m→ak P (y,((k:Nat):Int)+1)∧ak P (((b+k:Nat):Int),0))(yd:¬D y)(bd:∀k:Nat,¬D ((b+k:Nat):Int))(yb:y<(b:Nat))(h:SX D X P Q):
  ∀k:Nat,k≤m→SX D (fun p=>(X p∨(p.1=y∧1≤p.2∧p.2≤(k:Nat)))∧¬((b:Int)≤p.1∧p.1<((b+k:Nat):Int)∧p.2=0)) (cB y b P k) (cB y b Q k)
 |0,_=>h.congr fun p hp _=>by
  constructor
  ·rintro⟨e|e,_⟩
   ·exact e
   ·omega
  ·intro e;exact⟨.inl e,fun k=>by omega⟩
 |k+1,hk=>by
  have ih:=F5 hX hy yd bd yb h k (by omega);obtain⟨x1,x2⟩:=hX k (by omega);obtain⟨y1,y2⟩:=hy.2 k (by omega)
  have s1:=ih.move (old:=(y,((k:Nat):Int)+1)) (now:=(((b+k:Nat):Int),0)) (fM y1 k) yd (by
   rintro⟨e|⟨_,_,e⟩,_⟩
   ·exact x1 e
   ·have:((k:Nat):Int)+1≤(k:Nat):=e;omega) (fM y2 k) (bd k) ⟨.inl x2,fun e=>by have:((b+k:Nat):Int)<((b+k:Nat):Int):=e.2.1;omega⟩
  refine s1.congr fun p hp _=> ?_
  have q:(((X p∨(p.1=y∧1≤p.2∧p.2≤((k+1:Nat):Int)))∧¬((b:Int)≤p.1∧p.1<((b+(k+1):Nat):Int)∧p.2=0))↔((((X p∨(p.1=y∧1≤p.2∧p.2≤(k:Nat)))∧¬((b:Int)≤p.1∧p.1<((b+k:Nat):Int)∧p.2=0))∨p=(y,((k:Nat):Int)+1))∧p≠(((b+k:Nat):Int),0))):=by
   obtain⟨a,s⟩:=p;simp only[Prod.mk.injEq,ne_eq]
   by_cases hXp:X (a,s)
   ·simp only[hXp,true_or,true_and];omega
   ·simp only[hXp,false_or];omega
  exact q
theorem xO{lab c d:Int}{xs:List aj}{p:aC}(hlt:p.1.toNat<xs.length):∀{k:Nat},ak (bH lab c d xs k) p→ak xs p
 |0,h=>h
 |k+1,h=>by
  unfold bH wX at h;rw[ak.iV,ak.iV,ak.dK,o9]at h;rcases h with h|⟨h,_⟩
  ·exact xO hlt h
  ·omega
theorem yU{y:Int}{b:Nat}{xs:List aj}{p:aC}:∀k:Nat,ak (cB y b xs k) p↔ak xs p
 |0=>Iff.rfl
 |k+1=>by unfold cB;rw[ak.iW,yU k]
theorem Px{xs:List aj}{y:Int}{p:aC}(hlt:p.1.toNat<xs.length)(h:ak (dup2 xs y) p):ak xs p:=by
 unfold dup2 at h;rw[ak.dK,ak.dK,qA]at h;rcases h with(h|⟨h,_⟩)|⟨h,_⟩
 ·exact h
 ·omega
 ·simp only[qJ]at h;omega
theorem Fy{xs:List aj}{y:Int}{lab:Int}{p:aC}:∀k:Nat,ak (bH lab ((xs.length:Nat):Int) ((xs.length+1:Nat):Int) (dup2 xs y) k) p→0≤p.1∧p.1<((xs.length+2+k:Nat):Int)∧0≤p.2∧(p.1=(xs.length:Nat)∨p.1=((xs.length+1:Nat):Int)→p.2<((ah xs y).2.2.2.2.length:Nat))
 |0,h=>by
  have h5:ak (dup2 xs y) p:=h;obtain⟨h1,h2,h3,_⟩:=h;refine⟨h1,by(have:(bH lab ((xs.length:Nat):Int) ((xs.length+1:Nat):Int) (dup2 xs y) 0).length=xs.length+2:=iF xs y);omega,h3,fun e=> ?_⟩;unfold dup2 at h5;have hd:(lg xs y).aN.length=(ah xs y).2.2.2.2.length:=by show(List.replicate _ _).length=_;rw[List.length_replicate]
  rw[ak.dK,ak.dK,qA,qJ]at h5;rcases h5 with(h5|⟨_,_,h5⟩)|⟨_,_,h5⟩
  ·have:=h5.2.1;omega
  ·omega
  ·omega
 |k+1,h=>by
  unfold bH wX at h;rw[ak.iV,ak.iV,ak.dK,o9,iF]at h;rcases h with h|⟨h1,h2,h3⟩
  ·obtain⟨q1,q2,q3,q4⟩:=Fy k h;exact⟨q1,by omega,q3,q4⟩
  ·exact⟨by omega,by omega,h2,fun e=>by omega⟩
theorem St.duplicate(h:St D xs ys)(k:iM D xs x y)(hD:∀i,D i→i<(xs.length:Nat))(hx:(ah xs x).2.2.2.2.length=3)(hy:1≤(ah xs y).2.2.2.2.length):
  St (fun i=>D i∨i=x∨i=y) (bM xs x y) (bn (bn (bM ys x y) x) y):=by
 have ey:ah ys y=ah xs y:=(h.ag.2 y k.py.1 k.py.2.1 k.ly).symm;have ex:ah ys x=ah xs x:=(h.ag.2 x k.px.1 k.px.2.1 k.lx).symm;have hl:xs.length=ys.length:=h.ag.1;have xl:x<(xs.length:Nat):=k.px.2.1;have yl:y<(xs.length:Nat):=k.py.2.1;have x0:0≤x:=k.px.1;have y0:0≤y:=k.py.1;have hne:=k.ne;generalize hm:(ah xs y).2.2.2.2.length=m at*;generalize hn:xs.length=n at*;have nd:∀i:Nat,n≤i→¬D (i:Nat):=fun i hi e=>by have:=hD _ e;omega
 have s0:=SX.start h k
 have s2:SX D (fun p=>p=(x,0)∨p=(y,0)∨p.1=(n:Nat)∨p.1=((n+1:Nat):Int)) (dup2 xs y) (dup2 ys y):=by
  have e:lg ys y=lg xs y:=by unfold lg;rw[ey]
  unfold dup2;rw[e];refine((s0.add (lg xs y)).add (lg xs y)).congr fun p _ _=> ?_
  rw[qA,hn];simp only[qJ];constructor
  ·rintro(e|e|e|e)
   ·exact .inl (.inl (.inl e))
   ·exact .inl (.inl (.inr e))
   ·exact .inl (.inr e)
   ·exact .inr e
  ·rintro(((e|e)|e)|e)
   ·exact .inl e
   ·exact .inr (.inl e)
   ·exact .inr (.inr (.inl e))
   ·exact .inr (.inr (.inr e))
 have hP:(dup2 xs y).length=n+2:=by rw[iF,hn]
 have hc:∀s:Int,0≤s→s<(m:Nat)→ak (dup2 xs y) ((n:Nat),s)∧ak (dup2 xs y) ((n+1:Nat),s):=fun s h0 h1=>by
  have q1:=uO (xs:=xs) (y:=y) h0 (by rw[hm];exact h1);have q2:=uP (xs:=xs) (y:=y) h0 (by rw[hm];exact h1);rw[hn]at q1 q2;exact⟨q1,q2⟩
 have s3:=JM (lab:=(ah xs x).2.1) hP xl yl hD hc s2 (m-1) (by omega)
 have fx:(ah (dup2 xs y) x).2.1=(ah xs x).2.1:=by
  unfold dup2;rw[bZ (by rw[qA,hn];omega),bZ (by omega)]
 have fy:(ah (dup2 ys y) x).2.1=(ah xs x).2.1:=by
  unfold dup2;rw[bZ (by rw[qA];omega),bZ (by omega),ex]
 have d3x:dup3 xs x y=bH (ah xs x).2.1 ((n:Nat):Int) ((n+1:Nat):Int) (dup2 xs y) (m-1):=by
  unfold dup3;rw[←(lX (x:=x) (by rw[hP];omega) _).1,fx,hn,hm]
 have d3y:dup3 ys x y=bH (ah xs x).2.1 ((n:Nat):Int) ((n+1:Nat):Int) (dup2 ys y) (m-1):=by
  unfold dup3;rw[←(lX (x:=x) (by rw[iF];omega) _).1,fy,←hl,ey,hm]
 have hpp:=fun p=>Fy (xs:=xs) (y:=y) (lab:=(ah xs x).2.1) (p:=p) (m-1)
 have hbk:∀p:aC,p.1.toNat<n→ak (bH (ah xs x).2.1 ((n:Nat):Int) ((n+1:Nat):Int) (dup2 xs y) (m-1)) p→ak xs p:=fun p hlt hp=>Px (by rw[hn];exact hlt) (xO (by rw[hP];omega) hp)
 have hin:∀p:aC,ak xs p→ak (bH (ah xs x).2.1 ((n:Nat):Int) ((n+1:Nat):Int) (dup2 xs y) (m-1)) p:=fun p hp=>lZ (o8 hp) _
 have hfan:∀i:Nat,i<m-1→ak (bH (ah xs x).2.1 ((n:Nat):Int) ((n+1:Nat):Int) (dup2 xs y) (m-1)) (((n+2+i:Nat):Int),0):=fun i hi=>by
  have:=tL (x:=x) (c:=((n:Nat):Int)) (d:=((n+1:Nat):Int)) (xs:=dup2 xs y) hi;rw[←(lX (x:=x) (by rw[hP];omega) _).1,fx,hP]at this;exact this
 rw[hn,hm]at hpp;have hcn:=lZ (lab:=(ah xs x).2.1) (c:=((n:Nat):Int)) (d:=((n+1:Nat):Int)) (hc 0 (Int.le_refl _) (by omega)).1 (m-1);have hdn:=lZ (lab:=(ah xs x).2.1) (c:=((n:Nat):Int)) (d:=((n+1:Nat):Int)) (hc 0 (Int.le_refl _) (by omega)).2 (m-1);have inx:∀s:Int,0≤s→s<3→ak xs (x,s):=fun s h0 h1=>⟨k.px.1,k.px.2.1,h0,by show s<((ah xs x).2.2.2.2.length:Nat);omega⟩
 have iny:∀s:Int,0≤s→s<(m:Nat)→ak xs (y,s):=fun s h0 h1=>⟨k.py.1,k.py.2.1,h0,by show s<((ah xs y).2.2.2.2.length:Nat);rw[hm];exact h1⟩
 unfold bM mH;rw[d3x,d3y,←hl,hn,ey,hm];generalize bH (ah xs x).2.1 ((n:Nat):Int) ((n+1:Nat):Int) (dup2 xs y) (m-1)=A at*;generalize bH (ah xs x).2.1 ((n:Nat):Int) ((n+1:Nat):Int) (dup2 ys y) (m-1)=B at*;have s4:=s3.move (old:=(x,1)) (now:=((n:Nat),0)) (hin _ (inx 1 (by decide) (by decide))) k.lx (by simp only[Prod.mk.injEq,ne_eq,and_true,true_and,or_true,true_or];omega) hcn (nd _ (Nat.le_refl _)) (.inr (.inr (.inl ⟨.inl rfl,.inl rfl⟩)));have s5:=s4.move (old:=(x,2)) (now:=((n+1:Nat),0)) (hin _ (inx 2 (by decide) (by decide))).move k.lx (by simp only[Prod.mk.injEq,ne_eq,and_true,true_and,or_true,true_or];omega) hdn.move (nd _ (by omega)) (by simp only[Prod.mk.injEq,ne_eq,and_true,true_and,or_true,true_or];omega)
 have s6:=F5 (y:=y) (b:=n+2) (m:=m-1) (fun i hi=>by simp only[Prod.mk.injEq,ne_eq,and_true,true_and,or_true,true_or];omega) ⟨(hin _ (iny 0 (Int.le_refl _) (by omega))).move.move,fun i hi=>⟨(hin _ (iny _ (by omega) (by omega))).move.move,(hfan i hi).move.move⟩⟩ k.ly (fun i=>nd _ (by omega)) (by omega) s5 (m-1) (Nat.le_refl _);refine s6.PD x0 y0 fun p hp _=> ?_
 rw[yU,ak.iW,ak.iW]at hp;obtain⟨q1,q2,q3,q4⟩:=hpp p hp
 have q5:p.1=x→p.2<3:=fun e=>by
  have:=(hbk p (by omega) hp).2.2.2;rw[e]at this;have h2:p.2<((ah xs x).2.2.2.2.length:Nat):=this;omega
 have q6:p.1=y→p.2<(m:Nat):=fun e=>by
  have:=(hbk p (by omega) hp).2.2.2;rw[e]at this;have h2:p.2<((ah xs y).2.2.2.2.length:Nat):=this;omega
 clear hpp hbk hin hfan s0 s2 s3 s4 s5 s6 hc inx iny nd;obtain⟨a,s⟩:=p;simp only[Prod.mk.injEq,ne_eq]at*;omega
end
end Go.Tr
namespace Go.Tr
open Go Go.RowKit
section
variable {D:Int→Prop}{xs ys:List aj}{x y:Int}
theorem zB{zs:List aj}{p:aC}(q:aC)(hp:ak xs p):aL (xs++zs) p q=aL xs p q++zs:=by
 have hl:=Di hp;unfold aL;rw[bZ hl,List.set_append_left _ _ hl]
theorem P6{zs:List aj}{p q:aC}(hp:ak xs p)(hq:ak xs q):bE (xs++zs) p q=bE xs p q++zs:=by
 unfold bE;rw[zB q hp,zB p hq.set]
theorem Mc{p q r s:aC}(hp:ak xs p)(hq:ak xs q)(hr:ak xs r)(hs:ak xs s)(pr:p≠r)(ps:p≠s)(qr:q≠r)(qs:q≠s):bE (bE xs p q) r s=bE (bE xs r s) p q:=by
 unfold bE;rw[lH hq.set hr.set qr,lH (xs:=xs) hp hr pr];rw[lH (xs:=aL (aL xs r s) p q) hq.set.set hs.set.set qs,lH (xs:=aL xs r s) hp.set hs.set ps]
theorem Qb{W:List aj}{a:aj}{old now P Q:aC}(ho:ak W old)(hpe:ak W (ay W old))(hn:ak W now)(hP:ak (W++[a]) P)(hPl:(W.length:Int)≤P.1)(hQ:ak W Q)(oq:old≠Q)(pq:ay W old≠Q)(nq:now≠Q):
  bX (bE (W++[a]) P Q) old now=bE (bX W old now++[a]) P Q:=by
 have far:∀r:aC,ak W r→r≠P:=fun r hr e=>by have:=hr.2.1;rw[e]at this;omega
 have e1:ay (bE (W++[a]) P Q) old=ay W old:=by
  rw[gu hP hQ.app ho.app,if_neg (fun e=>oq e.symm),if_neg (fun e=>far old ho e.symm),jD (Di ho)]
 unfold bX;rw[e1,Mc hP hQ.app hpe.app hn.app (fun e=>far _ hpe e.symm) (fun e=>far _ hn e.symm) (fun e=>pq e.symm) (fun e=>nq e.symm),P6 hpe hn]
theorem Nz{P Q:List aj}{lv:Int}{n m:Nat}(hn:P.length=n+1)(xl:x<(n:Nat))(yl:y<(n:Nat))(x0:0≤x)(xy:x≠y)(xd:¬D x)(hD:∀i,D i→i<(n:Nat))(hx:∀s:Int,0≤s→s<(m:Nat)→ak P (x,s))(hr:ak P ((n:Nat),0))
  (h:SX D (fun p=>p=(x,0)∨p=(y,0)∨p.1=(n:Nat)) P Q) (h1:∀p,ak P p→p.1=(n:Nat)→p.2=0):∀k:Nat,k+1≤m→
  SX D (fun p=>(p.1=x∧p.2≤(k:Nat))∨p=(y,0)∨p=iN (n+1) k) (sW lv x (n+1) P k) (sW lv x (n+1) Q k)
 |0,_=>h.congr fun p hp _=>by
  have h2:=h1 p hp;obtain⟨q1,q2,q3,_⟩:=hp;unfold iN;obtain⟨a,s⟩:=p;rw[hn]at q2;simp only[Prod.mk.injEq]at*;omega
 |k+1,hk=>by
  have ih:=Nz (lv:=lv) hn xl yl x0 xy xd hD hx hr h h1 k (by omega);have hl:(sW lv x (n+1) P k).length=n+1+k:=by rw[rZ,hn]
  have nd:∀i:Nat,n≤i→¬D (i:Nat):=fun i hi e=>by have:=hD _ e;omega
  have hxk:=qj (lv:=lv) (x:=x) (b:=n+1) (hx ((k+1:Nat):Int) (by omega) (by omega)) k
  have hR:ak (sW lv x (n+1) P k) (iN (n+1) k):=by
   have:=yN (lv:=lv) (x:=x) (xs:=P) (by rw[hn];exact hr) k;rw[hn]at this;exact this
  have hR1:(n:Int)≤(iN (n+1) k).1∧(iN (n+1) k).1<((n+1+k:Nat):Int):=by
   cases k with
   |zero=>unfold iN;simp only[];omega
   |succ k=>unfold iN;simp only[];omega
  have s1:=ih.add (aX 3 lv 0 [] 3);rw[hl]at s1;have f0:ak (sW lv x (n+1) P k++[aX 3 lv 0 [] 3]) ((n+1+k:Nat),0):=ak.dK.2 (.inr ⟨by rw[hl],Int.le_refl _,show(0:Int)<3 by decide⟩);have f1:ak (sW lv x (n+1) P k++[aX 3 lv 0 [] 3]) ((n+1+k:Nat),1):=ak.dK.2 (.inr ⟨by rw[hl],show(0:Int)≤1 by decide,show(1:Int)<3 by decide⟩);have hRd:¬D (iN (n+1) k).1:=fun e=>by have:=hD _ e;omega
  have s2:=s1.link (p:=iN (n+1) k) (q:=((n+1+k:Nat),0)) hR.app hRd (.inl (.inr (.inr rfl))) f0 (nd _ (by omega)) (.inr rfl) (fun e=>by rw[e]at hR1;have:=hR1.2;have h3:((n+1+k:Nat):Int)<((n+1+k:Nat):Int):=this;omega)
  have s3:=s2.move (old:=(x,((k+1:Nat):Int))) (now:=((n+1+k:Nat),1)) hxk.app.link xd (by
   rintro⟨(⟨_,e⟩|e|e)|e,_,_⟩
   ·have:((k+1:Nat):Int)≤(k:Nat):=e;omega
   ·exact dB (.inl xy) e
   ·rw[←e]at hR1;have:=hR1.1;have h3:(n:Int)≤x:=this;omega
   ·have:x=((n+1+k:Nat):Int):=e;omega) f1.link (nd _ (by omega)) ⟨.inr rfl,fun e=>by rw[←e]at hR1;have:=hR1.2;have h3:((n+1+k:Nat):Int)<((n+1+k:Nat):Int):=this;omega,dB (.inr (by decide))⟩
  show SX D _ (sW lv x (n+1) P (k+1)) (sW lv x (n+1) Q (k+1));unfold sW;refine s3.congr fun p hp _=> ?_
  rw[ak.iW,ak.iV,ak.dK,hl]at hp
  have hp':p.1<((n+1+k:Nat):Int)∨(p.1=((n+1+k:Nat):Int)∧0≤p.2∧p.2<3):=by
   rcases hp with hp|hp
   ·have:=hp.2.1;rw[hl]at this;exact .inl this
   ·exact .inr hp
  have e2:iN (n+1) (k+1)=(((n+1+k:Nat):Int),2):=rfl;rw[e2];obtain⟨a,s⟩:=p;generalize hRR:iN (n+1) k=R at*;obtain⟨ra,rs⟩:=R;simp only[Prod.mk.injEq,ne_eq]at*;omega
theorem SX.self{X:aC→Prop}(h:SX D X xs ys):SX D X xs xs:=⟨⟨rfl,fun _ _ _ _=>rfl⟩,h.wi,h.al⟩
theorem GY{n k:Nat}:(n:Int)≤(iN (n+1) k).1∧(iN (n+1) k).1<((n+1+k:Nat):Int)∧(iN (n+1) k).2≠1:=by
 cases k with
 |zero=>unfold iN;simp only[];omega
 |succ k=>unfold iN;simp only[];omega
theorem Nw{P Q:List aj}{lv:Int}{n:Nat}(hn:P.length=n+1)(xl:x<(n:Nat))(yl:y<(n:Nat))(hD:∀i,D i→i<(n:Nat))(hr:ak P ((n:Nat),0))
  (h:SX D (fun p=>p=(x,0)∨p=(y,0)∨p.1=(n:Nat)) P Q) (h1:∀p,ak P p→p.1=(n:Nat)→p.2=0):∀k:Nat,
  SX D (fun p=>p=(x,0)∨p=(y,0)∨(((n+1:Nat):Int)≤p.1∧p.2=1)∨p=iN (n+1) k) (oH lv (n+1) P k) (oH lv (n+1) Q k)
 |0=>h.congr fun p hp _=>by
  have h2:=h1 p hp;obtain⟨q1,q2,q3,_⟩:=hp;unfold iN;obtain⟨a,s⟩:=p;rw[hn]at q2;simp only[Prod.mk.injEq]at*;omega
 |k+1=>by
  have ih:=Nw (lv:=lv) hn xl yl hD hr h h1 k;have hl:(oH lv (n+1) P k).length=n+1+k:=by rw[wT,hn]
  have nd:∀i:Nat,n≤i→¬D (i:Nat):=fun i hi e=>by have:=hD _ e;omega
  obtain⟨r1,r2,r3⟩:=GY (n:=n) (k:=k)
  have hR:ak (oH lv (n+1) P k) (iN (n+1) k):=by
   have:=Fq (lv:=lv) (xs:=P) (by rw[hn];exact hr) k;rw[hn]at this;exact this
  have s1:=ih.add (aX 3 lv 0 [] 3);rw[hl]at s1;have f0:ak (oH lv (n+1) P k++[aX 3 lv 0 [] 3]) ((n+1+k:Nat),0):=ak.dK.2 (.inr ⟨by rw[hl],Int.le_refl _,show(0:Int)<3 by decide⟩);have s2:=s1.link (p:=((n+1+k:Nat),0)) (q:=iN (n+1) k) f0 (nd _ (by omega)) (.inr rfl) hR.app (fun e=>by have:=hD _ e;omega) (.inl (.inr (.inr (.inr rfl)))) (fun e=>by rw[←e]at r2;have h3:((n+1+k:Nat):Int)<((n+1+k:Nat):Int):=r2;omega);unfold oH;refine s2.congr fun p hp _=> ?_
  rw[ak.iV,ak.dK,hl]at hp
  have hp':p.1<((n+1+k:Nat):Int)∨(p.1=((n+1+k:Nat):Int)∧0≤p.2∧p.2<3):=by
   rcases hp with hp|hp
   ·have:=hp.2.1;rw[hl]at this;exact .inl this
   ·exact .inr hp
  have e2:iN (n+1) (k+1)=(((n+1+k:Nat):Int),2):=rfl;rw[e2];obtain⟨a,s⟩:=p;generalize hRR:iN (n+1) k=R at*;obtain⟨ra,rs⟩:=R;simp only[Prod.mk.injEq,ne_eq]at*;omega
theorem Nu{Z:List aj}{n m k:Nat}(xl:x<(n:Nat))(x0:0≤x)(xy:x≠y)(xd:¬D x)(hD:∀i,D i→i<(n:Nat))(hx:∀s:Int,0≤s→s<(m:Nat)→ak Z (x,s))(hz:∀i:Nat,i<k→ak Z (((n+1+i:Nat):Int),1))(hl:Z.length=n+1+k)
  (h:SX D (fun p=>p=(x,0)∨p=(y,0)∨(((n+1:Nat):Int)≤p.1∧p.2=1)∨p=iN (n+1) k) Z Z):∀j:Nat,j≤k→j+1≤m→
  SX D (fun p=>(p.1=x∧p.2≤(j:Nat))∨p=(y,0)∨(((n+1+j:Nat):Int)≤p.1∧p.2=1)∨p=iN (n+1) k) (A9 x (n+1) Z j) (A9 x (n+1) Z j)
 |0,_,_=>h.congr fun p hp _=>by
  obtain⟨q1,q2,q3,_⟩:=hp;obtain⟨a,s⟩:=p;generalize iN (n+1) k=R;obtain⟨ra,rs⟩:=R;simp only[Prod.mk.injEq]at*;omega
 |j+1,hj,hm=>by
  have ih:=Nu xl x0 xy xd hD hx hz hl h j (by omega) (by omega);obtain⟨r1,r2,r3⟩:=GY (n:=n) (k:=k);have nd:∀i:Nat,n≤i→¬D (i:Nat):=fun i hi e=>by have:=hD _ e;omega
  have s1:=ih.move (old:=(x,((j:Nat):Int)+1)) (now:=(((n+1+j:Nat):Int),1)) (mK (hx _ (by omega) (by omega)) j) xd (by
   generalize iN (n+1) k=R at*;obtain⟨ra,rs⟩:=R;simp only[Prod.mk.injEq,ne_eq]at*;omega) (mK (hz j (by omega)) j) (nd _ (by omega)) (.inr (.inr (.inl ⟨Int.le_refl _,rfl⟩)))
  unfold A9;refine s1.congr fun p hp _=> ?_
  have q3:=hp.2.2.1;have q2:=hp.2.1;obtain⟨a,s⟩:=p;generalize hRR:iN (n+1) k=R at*;obtain⟨ra,rs⟩:=R;simp only[Prod.mk.injEq,ne_eq]at*;omega
theorem WX{P:List aj}{lv:Int}{n m:Nat}(hn:P.length=n+1)(xl:x<(n:Nat))(yl:y<(n:Nat))(x0:0≤x)(xy:x≠y)(xd:¬D x)(hD:∀i,D i→i<(n:Nat))(hx:∀s:Int,0≤s→s<(m:Nat)→ak P (x,s))(hr:ak P ((n:Nat),0))
  (h:SX D (fun p=>p=(x,0)∨p=(y,0)∨p.1=(n:Nat)) P P) (h1:∀p,ak P p→p.1=(n:Nat)→p.2=0):∀k:Nat,k+1≤m→A9 x (n+1) (oH lv (n+1) P k) k=sW lv x (n+1) P k
 |0,_=>rfl
 |k+1,hk=>by
  have ih:=WX (lv:=lv) hn xl yl x0 xy xd hD hx hr h h1 k (by omega);have hl:(oH lv (n+1) P k).length=n+1+k:=by rw[wT,hn]
  have nd:∀i:Nat,n≤i→¬D (i:Nat):=fun i hi e=>by have:=hD _ e;omega
  obtain⟨r1,r2,r3⟩:=GY (n:=n) (k:=k)
  have hR:ak (oH lv (n+1) P k) (iN (n+1) k):=by
   have:=Fq (lv:=lv) (xs:=P) (by rw[hn];exact hr) k;rw[hn]at this;exact this
  have hxN:∀s:Int,0≤s→s<(m:Nat)→ak (oH lv (n+1) P k) (x,s):=fun s a b=>Cv (hx s a b) k
  have hzN:∀i:Nat,i<k→ak (oH lv (n+1) P k) (((n+1+i:Nat):Int),1):=fun i hi=>by
   have:=yM (lv:=lv) (xs:=P) (s:=1) (by decide) (by decide) hi;rw[hn]at this;exact this
  have sN:=Nw (lv:=lv) hn xl yl hD hr h h1 k
  have key:∀j:Nat,j≤k→A9 x (n+1) (bE (oH lv (n+1) P k++[aX 3 lv 0 [] 3]) ((n+1+k:Nat),0) (iN (n+1) k)) j=bE (A9 x (n+1) (oH lv (n+1) P k) j++[aX 3 lv 0 [] 3]) ((n+1+k:Nat),0) (iN (n+1) k):=by
   intro j
   induction j with
   |zero=>intro _;rfl
   |succ j ihj=>
    intro hj;have e:=ihj (by omega);have sM:=Nu (k:=k) xl x0 xy xd hD hxN hzN hl sN j (by omega) (by omega);have hlW:(A9 x (n+1) (oH lv (n+1) P k) j).length=n+1+k:=by rw[Ns,hl]
    show bX (A9 x (n+1) (bE (oH lv (n+1) P k++[aX 3 lv 0 [] 3]) ((n+1+k:Nat),0) (iN (n+1) k)) j) (x,((j:Nat):Int)+1) (((n+1+j:Nat):Int),1)=bE (bX (A9 x (n+1) (oH lv (n+1) P k) j) (x,((j:Nat):Int)+1) (((n+1+j:Nat):Int),1)++[aX 3 lv 0 [] 3]) _ _;rw[e];have ho:=mK (x:=x) (b:=n+1) (hxN (((j:Nat):Int)+1) (by omega) (by omega)) j
    have hw:=sM.wi (x,((j:Nat):Int)+1) ⟨⟨ho,xd⟩,by
     generalize iN (n+1) k=R at*;obtain⟨ra,rs⟩:=R;simp only[Prod.mk.injEq]at*;omega⟩
    refine Qb ho hw.2.1.1.1 (mK (hzN j (by omega)) j) (ak.dK.2 (.inr ⟨by rw[hlW],Int.le_refl _,show(0:Int)<3 by decide⟩)) (by rw[hlW];exact Int.le_refl _) (mK hR j) ?_ (fun e=>hw.2.1.2 (.inr (.inr (.inr e)))) ?_
    ·intro e;rw[←e]at r1;have:(n:Int)≤x:=r1;omega
    ·intro e;rw[←e]at r3;exact r3 rfl
  show bX (A9 x (n+1) (bE (oH lv (n+1) P k++[aX 3 lv 0 [] 3]) (((n+1+k:Nat):Int),0) (iN (n+1) k)) k) (x,((k:Nat):Int)+1) (((n+1+k:Nat):Int),1)=bX (bE (sW lv x (n+1) P k++[aX 3 lv 0 [] 3]) (iN (n+1) k) (((n+1+k:Nat):Int),0)) (x,((k+1:Nat):Int)) (((n+1+k:Nat):Int),1);rw[key k (Nat.le_refl _),ih];have hlS:(sW lv x (n+1) P k).length=n+1+k:=by rw[rZ,hn]
  have hRS:ak (sW lv x (n+1) P k) (iN (n+1) k):=by
   have:=yN (lv:=lv) (x:=x) (xs:=P) (by rw[hn];exact hr) k;rw[hn]at this;exact this
  rw[rD (ak.dK.2 (.inr ⟨by rw[hlS],Int.le_refl _,show(0:Int)<3 by decide⟩)) hRS.app];rfl
theorem Cw{lv:Int}{b:Nat}{P:List aj}{p:aC}(hlt:p.1.toNat<P.length):∀{k:Nat},ak (sW lv x b P k) p→ak P p
 |0,h=>h
 |k+1,h=>by
  unfold sW at h;rw[ak.iW,ak.iV,ak.dK,rZ]at h;rcases h with h|⟨h,_⟩
  ·exact Cw hlt h
  ·omega
theorem St.choose(h:St D xs ys)(k:iM D xs x y)(hD:∀i,D i→i<(xs.length:Nat))(h6:(ah xs x).1=6↔(ah xs y).1=11)(hx:(ah xs x).1=6→(ah xs x).2.2.2.2.length=1)(hx1:1≤(ah xs x).2.2.2.2.length)(hy:(ah xs y).2.2.2.2.length=2):
  St (fun i=>D i∨i=x∨i=y) (gY xs x y) (bn (bn (eY ys x y) x) y):=by
 have ey:ah ys y=ah xs y:=(h.ag.2 y k.py.1 k.py.2.1 k.ly).symm;have ex:ah ys x=ah xs x:=(h.ag.2 x k.px.1 k.px.2.1 k.lx).symm;have hl:xs.length=ys.length:=h.ag.1;have xl:x<(xs.length:Nat):=k.px.2.1;have yl:y<(xs.length:Nat):=k.py.2.1;have x0:0≤x:=k.px.1;have y0:0≤y:=k.py.1;have hne:=k.ne;have nd:∀i:Nat,xs.length≤i→¬D (i:Nat):=fun i hi e=>by have:=hD _ e;omega
 have iny1:ak xs (y,1):=⟨k.py.1,k.py.2.1,show(0:Int)≤1 by decide,by show(1:Int)<((ah xs y).2.2.2.2.length:Nat);omega⟩;have hkb:((ah xs x).1==6)=((ah xs y).1==11):=by rw[Bool.eq_iff_iff];simpa using h6
 have s1:∀i:Int,SX D (fun p=>p=(x,0)∨p=(y,0)∨p.1=(xs.length:Nat)) (bG xs y i) (bG ys y i):=fun i=>by
  unfold bG;rw[ey];refine((SX.start h k).add _).congr fun p _ _=> ?_
  constructor
  ·rintro(e|e|e)
   ·exact .inl (.inl e)
   ·exact .inl (.inr e)
   ·exact .inr e
  ·rintro((e|e)|e)
   ·exact .inl e
   ·exact .inr (.inl e)
   ·exact .inr (.inr e)
 have hlen:∀i:Int,(bG xs y i).length=xs.length+1:=fun i=>by unfold bG;rw[qA];rfl
 have hnew:∀i:Int,ak (bG xs y i) ((xs.length:Nat),0):=fun i=>ak.dK.2 (.inr ⟨rfl,Int.le_refl _,show(0:Int)<1 by decide⟩)
 have h1:∀(i:Int) p,ak (bG xs y i) p→p.1=(xs.length:Nat)→p.2=0:=fun i p hp e=>by
  rcases ak.dK.1 hp with q|⟨_,q2,q3⟩
  ·have:=q.2.1;omega
  ·have:p.2<1:=q3;omega
 have hback:∀(i:Int) (p:aC),p.1.toNat<xs.length→ak (bG xs y i) p→ak xs p:=fun i p hlt hp=>by
  rcases ak.dK.1 hp with q|⟨q,_⟩
  ·exact q
  ·omega
 have hin:∀(i:Int) (p:aC),ak xs p→ak (bG xs y i) p:=fun i p hp=>hp.app
 unfold gY eY;rw[ex,ey,hkb,←hl];cases hk:(ah xs y).1==11 with
 |true=>
  simp only[qG];have h3:=hx (h6.2 (by simpa using hk));generalize (bif (ah xs x).2.2.1==0 then(1:Int)else 0)=i;have s2:=(s1 i).move (old:=(y,1)) (now:=((xs.length:Nat),0)) (hin i _ iny1) k.ly (by simp only[Prod.mk.injEq];omega) (hnew i) (nd _ (Nat.le_refl _)) (.inr (.inr rfl));refine s2.PD x0 y0 fun p hp _=> ?_
  rw[ak.iW]at hp;have q0:=h1 i p hp;have q1:=hp.2.2.1;have q2:=hp.1
  have q4:p.1=x→p.2<1:=fun e=>by
   have:=(hback i p (by omega) hp).2.2.2;rw[e]at this;have h2:p.2<((ah xs x).2.2.2.2.length:Nat):=this;omega
  have q5:p.1=y→p.2<2:=fun e=>by
   have:=(hback i p (by omega) hp).2.2.2;rw[e]at this;have h2:p.2<((ah xs y).2.2.2.2.length:Nat):=this;omega
  obtain⟨a,s⟩:=p;simp only[Prod.mk.injEq,ne_eq]at*;omega
 |false=>
  simp only[qH];generalize (ah xs x).2.2.1=i;generalize (ah xs y).2.1=lv;have hxi:∀s:Int,0≤s→s<((ah xs x).2.2.2.2.length:Nat)→ak (bG xs y i) (x,s):=fun s a b=>hin i _ ⟨x0,xl,a,b⟩
  rw[WX (lv:=lv) (hlen i) xl yl x0 k.ne k.lx hD hxi (hnew i) (s1 i).self (h1 i) ((ah xs x).2.2.2.2.length-1) (by omega)];have s2:=Nz (lv:=lv) (hlen i) xl yl x0 k.ne k.lx hD hxi (hnew i) (s1 i) (h1 i) ((ah xs x).2.2.2.2.length-1) (by omega);generalize hm:(ah xs x).2.2.2.2.length=m at*;obtain⟨r1,r2,r3⟩:=GY (n:=xs.length) (k:=m-1)
  have hR:ak (sW lv x (xs.length+1) (bG xs y i) (m-1)) (iN (xs.length+1) (m-1)):=by
   have:=yN (lv:=lv) (x:=x) (xs:=bG xs y i) (by rw[hlen];exact hnew i) (m-1);rw[hlen]at this;exact this
  have s3:=s2.move (old:=(y,1)) (now:=iN (xs.length+1) (m-1)) (qj (hin i _ iny1) _) k.ly (by
   generalize iN (xs.length+1) (m-1)=R at*;obtain⟨ra,rs⟩:=R;simp only[Prod.mk.injEq]at*;omega) hR (fun e=>by have:=hD _ e;omega) (.inr (.inr rfl))
  refine s3.PD x0 y0 fun p hp _=> ?_
  rw[ak.iW]at hp;have q1:=hp.2.2.1;have q2:=hp.1
  have q4:p.1=x→p.2<(m:Nat):=fun e=>by
   have:=(hback i p (by omega) (Cw (by rw[hlen];omega) hp)).2.2.2;rw[e]at this;have h2:p.2<((ah xs x).2.2.2.2.length:Nat):=this;omega
  have q5:p.1=y→p.2<2:=fun e=>by
   have:=(hback i p (by omega) (Cw (by rw[hlen];omega) hp)).2.2.2;rw[e]at this;have h2:p.2<((ah xs y).2.2.2.2.length:Nat):=this;omega
  generalize iN (xs.length+1) (m-1)=R at*;obtain⟨ra,rs⟩:=R;obtain⟨a,s⟩:=p;clear h1 hback hin hxi s1 s2 s3 hnew hlen nd;simp only[Prod.mk.injEq,ne_eq]at*;omega
end
end Go.Tr
namespace Go.Tr
open Go Go.RowKit
section
variable {D:Int→Prop}{X:aC→Prop}{xs ys:List aj}{x y:Int}
theorem qg{t:List aj}{b i:Int}(hb:b=(xs.length:Int)-1)(h1:(xs.length:Int)≤i)(h2:i-b<(t.length:Nat)):ah (xs++(t.drop 1).map (bQ b)) i=bQ b (ah t (i-b)):=by
 unfold ah elt;rw[qC,qL (by omega),qY,List.getElem?_drop];have e:1+(i.toNat-xs.length)=(i-b).toNat:=by omega
 rw[e,qC,qB (by omega)];rfl
theorem mg(t:List aj)(b:Int):((t.drop 1).map (bQ b)).length=t.length-1:=by rw[qV,List.length_drop]
theorem ak.jC{t:List aj}{b:Int}{p:aC}(hb:b=(xs.length:Int)-1):ak (xs++(t.drop 1).map (bQ b)) p↔ak xs p∨((xs.length:Int)≤p.1∧ak t (p.1-b,p.2)):=by
 have hml:=mg t b;have hpl:∀a:aj,(bQ b a).aN.length=a.aN.length:=fun a=>by show(List.map _ _).length=_;rw[qV]
 constructor
 ·intro h;have h':=h;obtain⟨h1,h2,h3,h4⟩:=h;rw[qA,hml]at h2
  by_cases hl:p.1.toNat<xs.length
  ·rw[bZ hl]at h4;exact .inl ⟨h1,by omega,h3,h4⟩
  ·have hlt:p.1-b<(t.length:Nat):=by omega
   rw[qg hb (by omega) hlt,hpl]at h4;exact .inr ⟨by omega,by show 0≤p.1-b;omega,hlt,h3,h4⟩
 ·rintro(h|⟨h,h1,h2,h3,h4⟩)
  ·exact h.app
  ·have h2':p.1-b<(t.length:Nat):=h2;refine⟨by omega,by rw[qA,hml];omega,h3,?_⟩;rw[qg hb h h2',hpl];exact h4
theorem sF{t:List aj}{b:Int}{p:aC}(hb:b=(xs.length:Int)-1)(h:(xs.length:Int)≤p.1)(hp:ak t (p.1-b,p.2)):ay (xs++(t.drop 1).map (bQ b)) p=((ay t (p.1-b,p.2)).1+b,(ay t (p.1-b,p.2)).2):=by
 obtain⟨h1,h2,h3,h4⟩:=hp;unfold ay;rw[qg hb h h2];show elt (dflt bf) (List.map _ _) p.2=_;unfold elt
 have h4':p.2.toNat<(ah t (p.1-b)).aN.length:=by
  have h5:p.2<((ah t (p.1-b)).aN.length:Nat):=h4;have h6:0≤p.2:=h3;omega
 rw[qC,qY,qB h4'];show _=(((ah t (p.1-b)).aN.getD p.2.toNat (dflt bf)).1+b,((ah t (p.1-b)).aN.getD p.2.toNat (dflt bf)).2);rw[qC,qB h4'];rfl
theorem SX.Uu{t:List aj}{b:Int}(hb:b=(xs.length:Int)-1)(ht:gK (fun p=>ak t p) t)(h0:ak t (0,0))(h00:∀p,ak t p→p.1=0→p=(0,0))(hD:∀i,D i→i<(xs.length:Nat))(hX:∀p,X p→p.1<(xs.length:Nat))(h:SX D X xs ys):
  SX D (fun p=>X p∨p=((ay t (0,0)).1+b,(ay t (0,0)).2)) (xs++(t.drop 1).map (bQ b)) (ys++(t.drop 1).map (bQ b)):=by
 obtain⟨r1,r2,r3,r4⟩:=ht (0,0) h0;have rR:ak t (ay t (0,0)):=r2
 have rpos:1≤(ay t (0,0)).1:=by
  have h1:=rR.1
  by_cases e:(ay t (0,0)).1=0
  ·exact absurd (h00 _ rR e) r4
  ·omega
 refine⟨h.ag.app _,fun p hp=> ?_,fun p hp=>hp.1.2⟩;obtain⟨⟨p1,p2⟩,p3⟩:=hp;rcases(ak.jC hb).1 p1 with q|⟨q1,q2⟩
 ·obtain⟨w1,w2,w3,w4⟩:=h.wi p ⟨⟨q,p2⟩,fun k=>p3 (.inl k)⟩;have e:=jD (ys:=(t.drop 1).map (bQ b)) (Di q);refine⟨p1,?_,by rw[e,jD (Di w2.1.1),w3],by rw[e];exact w4⟩;rw[e];refine⟨⟨w2.1.1.app,w2.1.2⟩,fun k=> ?_⟩;rcases k with k|k
  ·exact w2.2 k
  ·have:=w2.1.1.2.1;rw[k]at this;have h2:(ay t (0,0)).1+b<(xs.length:Nat):=this;omega
 ·obtain⟨w1,w2,w3,w4⟩:=ht _ q2;have w2':ak t (ay t (p.1-b,p.2)):=w2;have e:=sF hb q1 q2
  have hne:(ay t (p.1-b,p.2)).1≠0:=fun e0=>by
   have e1:=h00 _ w2' e0;rw[e1]at w3;exact p3 (.inr (dS (by rw[w3];show p.1=p.1-b+b;omega) (by rw[w3])))
  have hge:1≤(ay t (p.1-b,p.2)).1:=by have:=w2'.1;omega
  have hin:ak (xs++(t.drop 1).map (bQ b)) ((ay t (p.1-b,p.2)).1+b,(ay t (p.1-b,p.2)).2):=(ak.jC hb).2 (.inr ⟨by show(xs.length:Int)≤(ay t (p.1-b,p.2)).1+b;omega,by
   rw[show(((ay t (p.1-b,p.2)).1+b,(ay t (p.1-b,p.2)).2):aC).1-b=(ay t (p.1-b,p.2)).1 by show(ay t (p.1-b,p.2)).1+b-b=_;omega];exact w2'⟩)
  refine⟨p1,?_,?_,?_⟩
  ·rw[e];refine⟨⟨hin,fun k=> ?_⟩,fun k=> ?_⟩
   ·have:=hD _ k;have h2:(ay t (p.1-b,p.2)).1+b<(xs.length:Nat):=this;omega
   ·rcases k with k|k
    ·have:=hX _ k;have h2:(ay t (p.1-b,p.2)).1+b<(xs.length:Nat):=this;omega
    ·have e2:ay t (p.1-b,p.2)=ay t (0,0):=by
      injection k with k1 k2
      exact dS (by omega) k2
     rw[e2,r3]at w3;injection w3 with w5 w6
     omega
  ·rw[e,sF hb (by show(xs.length:Int)≤(ay t (p.1-b,p.2)).1+b;omega) (by
    rw[show(((ay t (p.1-b,p.2)).1+b,(ay t (p.1-b,p.2)).2):aC).1-b=(ay t (p.1-b,p.2)).1 by show(ay t (p.1-b,p.2)).1+b-b=_;omega];exact w2')]
   have e3:((((ay t (p.1-b,p.2)).1+b,(ay t (p.1-b,p.2)).2):aC).1-b,(((ay t (p.1-b,p.2)).1+b,(ay t (p.1-b,p.2)).2):aC).2)=ay t (p.1-b,p.2):=dS (by show(ay t (p.1-b,p.2)).1+b-b=_;omega) rfl;rw[e3,w3];exact dS (by show p.1-b+b=p.1;omega) rfl
  ·rw[e];intro k;refine w4 (dS ?_ ?_)
   ·have:=congrArg Prod.fst k;show(ay t (p.1-b,p.2)).1=p.1-b;have h2:(ay t (p.1-b,p.2)).1+b=p.1:=this;omega
   ·have h2:=congrArg Prod.snd k;exact h2
theorem pJ(lv:Int)(a:aj):(jo lv a).aN=a.aN:=by unfold jo;cases bY a.kind<;>rfl
theorem uK(lv:Int)(t:List aj){i:Int}(h0:0≤i)(h1:i<(t.length:Nat)):ah (bU lv t) i=jo lv (ah t i):=by
 unfold ah elt bU;rw[qC,qY,qC,qB (by omega)];rfl
theorem lS(lv:Int)(t:List aj):(bU lv t).length=t.length:=by unfold bU;rw[qV]
theorem ak.gT{lv:Int}{t:List aj}{p:aC}:ak (bU lv t) p↔ak t p:=by
 unfold ak;rw[lS];constructor
 ·rintro⟨h1,h2,h3,h4⟩;rw[uK lv t h1 h2,pJ]at h4;exact⟨h1,h2,h3,h4⟩
 ·rintro⟨h1,h2,h3,h4⟩;refine⟨h1,h2,h3,?_⟩;rw[uK lv t h1 h2,pJ];exact h4
theorem oD{lv:Int}{t:List aj}{p:aC}(hp:ak t p):ay (bU lv t) p=ay t p:=by
 unfold ay;rw[uK lv t hp.1 hp.2.1,pJ]
theorem gK.shift{lv:Int}{t:List aj}(h:gK (fun p=>ak t p) t):gK (fun p=>ak (bU lv t) p) (bU lv t):=fun p hp=>by
 have hp':=ak.gT.1 hp;obtain⟨h1,h2,h3,h4⟩:=h p hp';rw[oD hp'];exact⟨hp,ak.gT.2 h2,by rw[oD h2,h3],h4⟩
theorem St.expand{bk:List (List aj)}(h:St D xs ys)(k:iM D xs x y)(hD:∀i,D i→i<(xs.length:Nat))(hx:(ah xs x).2.2.2.2.length=1)
  (ht:gK (fun p=>ak (bJ bk (ah xs x).2.2.1) p) (bJ bk (ah xs x).2.2.1)) (h0:ak (bJ bk (ah xs x).2.2.1) (0,0)) (h00:∀p,ak (bJ bk (ah xs x).2.2.1) p→p.1=0→p=(0,0)):
  St (fun i=>D i∨i=x) (jJ bk xs x y) (bn (iG (bJ bk (ah ys x).2.2.1) (ah ys x).2.1 ys y) x):=by
 have ex:ah ys x=ah xs x:=(h.ag.2 x k.px.1 k.px.2.1 k.lx).symm;have hl:xs.length=ys.length:=h.ag.1;have xl:x<(xs.length:Nat):=k.px.2.1;have yl:y<(xs.length:Nat):=k.py.2.1;have hne:=k.ne;rw[ex];unfold jJ iG mF;generalize bJ bk (ah xs x).2.2.1=t at*;generalize (ah xs x).2.1=lv;generalize hb:(xs.length:Int)-1=b;have hb':b=(xs.length:Int)-1:=hb.symm
 have e1:om lv ((ys.length:Int)-1) t (t.length-1)=((bU lv t).drop 1).map (bQ b):=by
  unfold om;rw[←hl,hb,qN (by rw[List.length_drop,lS];exact Nat.le_refl _)]
 have s0:=SX.start h k;have s1:=s0.Uu (t:=bU lv t) hb' ht.shift (ak.gT.2 h0) (fun p hp e=>h00 p (ak.gT.1 hp) e) hD (fun p hp=>by rcases hp with e|e<;>rw[e]<;>assumption);rw[e1,oD h0]at*;obtain⟨r1,r2,r3,r4⟩:=ht (0,0) h0;have rR:ak t (ay t (0,0)):=r2
 have rpos:1≤(ay t (0,0)).1:=by
  have h1:=rR.1
  by_cases e:(ay t (0,0)).1=0
  ·exact absurd (h00 _ rR e) r4
  ·omega
 generalize ay t (0,0)=R at*
 have hR:ak (xs++((bU lv t).drop 1).map (bQ b)) (R.1+b,R.2):=(ak.jC hb').2 (.inr ⟨by show(xs.length:Int)≤R.1+b;omega,ak.gT.2 (by
  rw[show((R.1+b,R.2):aC).1-b=R.1 by show R.1+b-b=R.1;omega];exact rR)⟩)
 have s2:=s1.link (p:=(y,0)) (q:=(R.1+b,R.2)) k.py.app k.ly (.inl (.inr rfl)) hR (fun e=>by have:=hD _ e;have h2:R.1+b<(xs.length:Nat):=this;omega) (.inr rfl) (dB (.inl (by omega)))
 have e2:bE (ys++((bU lv t).drop 1).map (bQ b)) ((ys.length:Int)-1+R.1,R.2) (y,0)=bE (ys++((bU lv t).drop 1).map (bQ b)) (y,0) (R.1+b,R.2):=by
  rw[←hl,hb,show b+R.1=R.1+b by omega];refine rD ?_ ?_
  ·have:=(s1.ag.port hR (fun e=>by have:=hD _ e;have h2:R.1+b<(xs.length:Nat):=this;omega)).1;exact this
  ·exact(s1.ag.port (p:=(y,0)) k.py.app k.ly).1
 rw[e2];refine s2.end1 k.px.1 fun p hp _=> ?_
 rw[ak.iV]at hp;constructor
 ·rintro⟨(e|e)|e,e3,e4⟩
  ·rw[e]
  ·exact absurd e e3
  ·exact absurd e e4
 ·intro e;rcases(ak.jC hb').1 hp with q|⟨q,_⟩
  ·obtain⟨q1,q2,q3,q4⟩:=q;rw[e]at q4;have h3:p.2<((ah xs x).2.2.2.2.length:Nat):=q4;refine⟨.inl (.inl (dS e (by show p.2=0;omega))),fun e2=> ?_,fun e2=> ?_⟩
   ·rw[e2]at e;exact hne e.symm
   ·rw[e2]at e;have h4:R.1+b=x:=e;omega
  ·omega
end
end Go.Tr
namespace Go.Tr
open Go Go.RowKit
def gA(a:aj):aD:=⟨a.1,a.2.1,a.2.2.1,a.2.2.2.1,a.2.2.2.2.map fun p=>⟨p.1,p.2⟩⟩
theorem JD(l:List Int):List.flatMap (enc (.int .i64)) l=l.flatMap dI:=by
 induction l with
 |nil=>rfl
 |cons x l ih=>rw[qU,qU,ih];rfl
theorem Pz(l:List aC):(l.map fun p=>(⟨p.1,p.2⟩:aR)).flatMap aR.enc=List.flatMap (enc bf) l:=by
 induction l with
 |nil=>rfl
 |cons x l ih=>rw[List.map_cons,qU,qU,ih];rfl
theorem Yh(a:aj):(gA a).enc=enc aF a:=by
 show[_,_,_,D.sl _ _,D.sl _ _]=[_]++([_]++([_]++([_]++[_])));simp only[List.cons_append,List.nil_append,gA];rw[Pz,←JD,qV]
def rA{α:Type}(g:α→Bool):List α→Int→Int
 |[],_=> -1
 |x::l,k=>bif g x then k else rA g l (k+1)
theorem JU{α:Type}(g:α→Bool):∀(l:List α) (k:Int),0≤k→decide (0≤rA g l k)=l.any g
 |[],k,_=>rfl
 |x::l,k,h=>by
  unfold rA;rw[List.any_cons];cases hg:g x with
  |true=>simpa using h
  |false=>simpa using JU g l (k+1) (by omega)
theorem X6{α:Type}(d:α){xs:List α}{i:Nat}(h:i<xs.length):xs.drop i=xs.getD i d::xs.drop (i+1):=by
 rw[qC,qB h];exact List.drop_eq_getElem_cons h
theorem AZ(n:Nat)(f:Nat→Bool):dZ (n+1) f=(dZ n f&&f n):=by simp[dZ,List.range_succ]
def Wf(a:aj):Prop:=fZ (gA a)=true
theorem eF{a:aj}(h:Wf a):dh a.1 a.2.1=true∧fK (gA a)=true∧(a.2.2.2.2.length:Int)=bS a.1 (dL a.1 a.2.2.2.2.length)∧0<a.2.2.2.2.length:=by
 unfold Wf fZ at h;simp only[qD,qQ,beq_iff_eq]at h;obtain⟨⟨⟨h1,h2⟩,h3⟩,h4⟩:=h;have e:((gA a).aN.length:Int)=(a.2.2.2.2.length:Int):=by simp[gA]
 have e2:fieldsOf (gA a)=dL a.1 a.2.2.2.2.length:=by unfold fieldsOf;rw[e];rfl
 rw[e,e2]at h2;rw[e2]at h1;exact⟨h3,h4,h2,by(have:0<bS a.1 (dL a.1 a.2.2.2.2.length):=h1);omega⟩
theorem zI{a:aj}(h:Wf a):1≤a.1∧a.1≤12:=by
 have:=(eF h).1;unfold dh oC at this;simp only[qD]at this;exact iw this.1
theorem jw{a:aj}(h:Wf a):(a.1=1∨a.1=5∨a.1=6∨a.1=12→a.2.2.2.2.length=1)∧(a.1=8∨a.1=10∨a.1=11→a.2.2.2.2.length=2)∧(a.1=2∨a.1=3∨a.1=4∨a.1=7→a.2.2.2.2.length=3)∧(a.1=9→1≤a.2.2.2.2.length∧a.2.2.2.2.length≤4):=by
 obtain⟨_,_,h3,h4⟩:=eF h;have hf:∀k:Int,k≠9→dL k a.2.2.2.2.length=0:=fun k hk=>by unfold dL;rw[if_neg (by simpa using hk)]
 refine⟨fun e=> ?_,fun e=> ?_,fun e=> ?_,fun e=> ?_⟩
 ·have k9:a.1≠9:=by omega
  rw[hf _ k9]at h3;unfold bS at h3;rw[if_neg k9,if_pos rfl,if_pos e]at h3;omega
 ·have k9:a.1≠9:=by omega
  rw[hf _ k9]at h3;unfold bS at h3;rw[if_neg k9,if_pos rfl,if_neg (by omega),if_pos e]at h3;omega
 ·have k9:a.1≠9:=by omega
  rw[hf _ k9]at h3;unfold bS at h3;rw[if_neg k9,if_pos rfl,if_neg (by omega),if_neg (by omega),if_pos e]at h3;omega
 ·rw[e]at h3;unfold bS dL at h3;simp only[beq_self_eq_true,if_true]at h3
  by_cases hb:fA ((a.2.2.2.2.length:Int)-1) 0 3=true
  ·have:=iw hb;omega
  ·rw[if_neg hb]at h3;omega
theorem fF{ka la kb lb c:Int}(h:rule ka la kb lb=c)(h0:c≠0):
  (c=1→ka=2∧kb=3)∧(c=2→ka=4∧kb=4)∧(c=3→ka=4)∧(c=4→ka=5)∧(c=5→ka=6∧(kb=7∨kb=8))∧(c=6→(ka=6∧kb=11)∨(ka=9∧kb=10))∧(c=7→ka=12∧(kb=3∨kb=7∨kb=8∨kb=10∨kb=11)):=by
 unfold rule at h;split at h
 ·subst h;simp_all
 split at h
 ·split at h
  ·rename_i h1;simp only[qD,beq_iff_eq]at h1;subst h;simp_all
  ·split at h
   ·subst h;simp_all
   ·omega
 split at h
 ·split at h
  ·rename_i h1;simp only[qD,beq_iff_eq]at h1;subst h;simp_all
  ·omega
 split at h
 ·split at h
  ·rename_i h1;simp only[Bool.or_eq_true,beq_iff_eq]at h1;subst h;simp_all
  ·split at h
   ·rename_i h1;simp only[beq_iff_eq]at h1;subst h;simp_all
   ·omega
 split at h
 ·split at h
  ·rename_i h1;simp only[beq_iff_eq]at h1;subst h;simp_all
  ·omega
 split at h
 ·split at h
  ·rename_i h1;unfold oN at h1;simp only[Bool.or_eq_true,beq_iff_eq]at h1;subst h;refine⟨by simp,by simp,by simp,by simp,by simp,by simp,fun _=>⟨by assumption,by omega⟩⟩
  ·omega
 ·omega
theorem Dz(ka la kb lb:Int):(aQ ka la kb lb=2→rule kb lb ka la=aU ka la kb lb∧aU ka la kb lb≠0)∧(aQ ka la kb lb=1→rule ka la kb lb=aU ka la kb lb∧aU ka la kb lb≠0)∧(aQ ka la kb lb=0∨aQ ka la kb lb=1∨aQ ka la kb lb=2):=by
 unfold aQ aU;cases lD ka la kb lb with
 |false=>simp
 |true=>
  simp only[if_true]
  by_cases h1:rule ka la kb lb=0<;>by_cases h2:rule kb lb ka la=0<;>simp[h1,h2]
theorem LU{xs:List aj}{a b:Int}(hc:1≤aU (ah xs a).1 (ah xs a).2.1 (ah xs b).1 (ah xs b).2.1∧aU (ah xs a).1 (ah xs a).2.1 (ah xs b).1 (ah xs b).2.1≤7):
  rule (ah xs (au xs a b).1).1 (ah xs (au xs a b).1).2.1 (ah xs (au xs a b).2).1 (ah xs (au xs a b).2).2.1=aU (ah xs a).1 (ah xs a).2.1 (ah xs b).1 (ah xs b).2.1:=by
 obtain⟨h2,h1,h3⟩:=Dz (ah xs a).1 (ah xs a).2.1 (ah xs b).1 (ah xs b).2.1;unfold au;rcases h3 with e|e|e
 ·exfalso;unfold aQ at e;unfold aU at hc;cases hp:lD (ah xs a).1 (ah xs a).2.1 (ah xs b).1 (ah xs b).2.1 with
  |false=>rw[hp]at hc;simp at hc
  |true=>
   rw[hp]at e hc;simp only[if_true]at e hc;split at e
   ·rename_i r1;rw[if_pos r1]at hc;split at e
    ·rename_i r2;rw[if_pos r2]at hc;omega
    ·omega
   ·omega
 ·rw[e];exact(h1 e).1
 ·rw[e];exact(h2 e).1
def sig(a:aj):Int×Int×Int×List Int×Nat:=(a.1,a.2.1,a.2.2.1,a.2.2.2.1,a.2.2.2.2.length)
theorem Et{a b:aj}(h:sig a=sig b):Wf a↔Wf b:=by
 unfold sig at h;simp only[Prod.mk.injEq]at h;obtain⟨h1,h2,h3,h4,h5⟩:=h
 have e:fZ (gA a)=fZ (gA b):=by
  unfold fZ fieldsOf fK gA;simp only[qV,h1,h2,h3,h4,h5]
 unfold Wf;rw[e]
def dY(xs ys:List aj):Prop:=xs.length=ys.length∧∀i:Int,0≤i→i<(xs.length:Nat)→sig (ah xs i)=sig (ah ys i)
theorem dY.refl(xs:List aj):dY xs xs:=⟨rfl,fun _ _ _=>rfl⟩
theorem dY.setPort{xs ys:List aj}(h:dY xs ys)(p q:aC):dY (aL xs p q) ys:=by
 refine⟨by rw[bW];exact h.1,fun i h0 h1=> ?_⟩;rw[bW]at h1;rw[←h.2 i h0 h1,dW];split
 ·rename_i e;rw[yH (xs:=xs) e.1];unfold sig;simp only[List.length_set,aj.aN]
 ·rfl
theorem dY.link{xs ys:List aj}(h:dY xs ys)(p q:aC):dY (bE xs p q) ys:=(h.setPort p q).setPort q p
theorem dY.move{xs ys:List aj}(h:dY xs ys)(p q:aC):dY (bX xs p q) ys:=h.link _ _
theorem dY.join{xs ys:List aj}(h:dY xs ys)(p q:aC):dY (aY xs p q) ys:=by
 unfold aY;cases ((ay xs p).1==q.1&&(ay xs p).2==q.2)with
 |true=>exact h
 |false=>exact h.link _ _
theorem dY.app{xs ys:List aj}(h:dY xs ys)(zs:List aj):dY (xs++zs) (ys++zs):=by
 refine⟨by rw[qA,qA,h.1],fun i h0 h1=> ?_⟩;rw[qA]at h1
 by_cases hl:i<(xs.length:Nat)
 ·rw[bZ (by omega),bZ (by rw[←h.1];omega)];exact h.2 i h0 hl
 ·have:∀ws:List aj,ws.length=xs.length→ah (ws++zs) i=zs.getD (i.toNat-xs.length) (dflt aF):=fun ws hw=>by
   unfold ah elt;rw[qC,qL (by omega),hw,qC]
  rw[this xs rfl,this ys h.1.symm]
theorem NP(y:Int)(xs:List aj):∀k,dY (r9 y xs k) (xs++List.replicate k (aX 5 0 0 [] 1))
 |0=>by rw[List.replicate_zero,qS];exact dY.refl _
 |k+1=>by
  unfold r9;rw[List.replicate_succ',←qF];exact((NP y xs k).app _).move _ _
theorem JL(lab c d:Int)(P:List aj):∀k,dY (bH lab c d P k) (P++List.replicate k (aX 4 lab 0 [] 3))
 |0=>by rw[List.replicate_zero,qS];exact dY.refl _
 |k+1=>by
  unfold bH wX;rw[List.replicate_succ',←qF];exact(((JL lab c d P k).app _).link _ _).link _ _
theorem F3{y:Int}{b:Nat}{P Q:List aj}(h:dY P Q):∀k,dY (cB y b P k) Q
 |0=>h
 |k+1=>(F3 h k).move _ _
theorem Y4:Wf (aX 5 0 0 [] 1):=by unfold Wf;decide
theorem Pm{k l:Int}(h:dh k l=true):l=0∨(0≤l∧l≤8):=by
 unfold dh at h;simp only[qD,Bool.or_eq_true,beq_iff_eq]at h;rcases h.2 with h|h
 ·exact .inl h
 ·exact .inr (iw h.2)
theorem yI{k l:Int}(hk:k=3∨k=4∨k=8∨k=12)(h:l=0∨(0≤l∧l≤8)):dh k l=true:=by
 have h1:oC k=true:=Ii (by omega) (by omega)
 have h2:bY k=true:=by
  unfold bY;rw[h1];rcases hk with rfl|rfl|rfl|rfl<;>decide
 unfold dh;rw[h1,h2];rcases h with rfl|h
 ·rfl
 ·rw[show yg l=true from Ii h.1 h.2];simp
theorem K6{k lv v:Int}{d:List Int}{n:Nat}(h1:dh k lv=true)(h2:fK (gA (aX k lv v d n))=true)(h3:(n:Int)=bS k (dL k n))(h4:0<n):Wf (aX k lv v d n):=by
 unfold Wf fZ;have e:((gA (aX k lv v d n)).aN.length:Int)=(n:Int):=by simp[gA,aX]
 have e2:fieldsOf (gA (aX k lv v d n))=dL k n:=by unfold fieldsOf;rw[e];rfl
 rw[e2,e];show(decide (0<bS k (dL k n))&&(n:Int)==bS k (dL k n)&&dh k lv&&fK (gA (aX k lv v d n)))=true;rw[←h3,h1,h2];simp only[beq_self_eq_true,Bool.and_true,qQ];omega
theorem Y5{lv:Int}(h:lv=0∨(0≤lv∧lv≤8)):Wf (aX 4 lv 0 [] 3):=K6 (yI (by omega) h) rfl rfl (by decide)
theorem Y3{lv:Int}(h:lv=0∨(0≤lv∧lv≤8)):Wf (aX 3 lv 0 [] 3):=K6 (yI (by omega) h) rfl rfl (by decide)
theorem UJ{lv v:Int}(h:lv=0∨(0≤lv∧lv≤8))(hv:jM v=true):Wf (aX 12 lv v [] 1):=K6 (yI (by omega) h) (by show((((0:Nat):Int)==0)&&jM v)=true;rw[hv];rfl) rfl (by decide)
theorem Y6{v:Int}(hv:rC v=true):Wf (aX 6 0 v [] 1):=K6 (by decide) (by show((((0:Nat):Int)==0)&&rC v)=true;rw[hv];rfl) rfl (by decide)
theorem Y7{lv v w:Int}(h:lv=0∨(0≤lv∧lv≤8))(hv:kr v=true)(hw:rC w=true):Wf (aX 8 lv v [w] 2):=K6 (yI (by omega) h) (by show(((((1:Nat):Int)==1)&&kr v)&&rC (iy [w] 0))=true;rw[hv,show iy [w] 0=w from rfl,hw];rfl) rfl (by decide)
theorem Pb{a:aj}(h:Wf a):Wf (aX a.1 a.2.1 a.2.2.1 a.2.2.2.1 a.2.2.2.2.length):=(Et (by unfold sig aX;simp)).2 h
theorem wQ{a:aj}(h:Wf a):a.2.1=0∨(0≤a.2.1∧a.2.1≤8):=Pm (eF h).1
theorem UG{a:aj}(h:Wf a)(k:a.1=6):rC a.2.2.1=true:=by
 have:=(eF h).2.1;unfold fK gA at this;simp only[k,beq_self_eq_true,if_true,qD]at this;exact this.2
theorem WT{a:aj}(h:Wf a)(k:a.1=7):kr a.2.2.1=true:=by
 have:=(eF h).2.1;unfold fK gA at this;simp only[k]at this;simp at this;exact this.2
theorem UH{a:aj}(h:Wf a)(k:a.1=8):a.2.2.2.1.length=1∧kr a.2.2.1=true∧rC (iy a.2.2.2.1 0)=true:=by
 have:=(eF h).2.1;unfold fK gA at this;simp only[k]at this;simp at this;exact⟨by omega,this.1.2,this.2⟩
theorem ND{l:List Int}(h:kQ l=true){i:Int}(h0:0≤i)(h1:i<(l.length:Nat)):jM (jN l i)=true:=by
 unfold kQ dZ at h;rw[List.all_eq_true]at h;have:=h i.toNat (List.mem_range.2 (by omega));exact this
theorem UF{a:aj}(h:Wf a)(k:a.1=10):1≤a.2.2.2.1.length∧a.2.2.2.1.length≤4∧kQ a.2.2.2.1=true:=by
 have:=(eF h).2.1;unfold fK gA at this;simp only[k]at this;simp at this;have h2:=iw this.1.2;exact⟨by omega,by omega,this.2⟩
theorem Eu{a:aj}(h:Wf a)(k:a.1=11):a.2.2.2.1.length=2∧kQ a.2.2.2.1=true:=by
 have:=(eF h).2.1;unfold fK gA at this;simp only[k]at this;simp at this;exact⟨by omega,this.2⟩
theorem rP{a:aj}(h:Wf a)(k:a.1=12):0≤a.2.2.1∧a.2.2.1≤23:=by
 have:=(eF h).2.1;unfold fK gA at this;simp only[k]at this;simp at this;exact iw this.2
theorem Es{a:aj}(h:Wf a)(k:a.1=9):0≤a.2.2.1∧a.2.2.1≤3:=by
 have:=(eF h).2.1;unfold fK gA at this;simp only[k]at this;simp at this;exact iw this.2
theorem wf_data{a:aj}(h:Wf a):a.2.2.2.1.length≤4:=by
 have:=(eF h).2.1;unfold fK gA at this;dsimp only at this;split at this
 ·simp at this;rw[this.1];decide
 split at this
 ·simp at this;rw[this.1];decide
 split at this
 ·simp at this;omega
 split at this
 ·simp at this;rw[this.1];decide
 split at this
 ·simp at this;rw[this.1];decide
 split at this
 ·simp at this;have:=iw this.1.2;omega
 split at this
 ·simp at this;omega
 ·simp at this;rw[this.2];decide
def QK(D:Int→Prop)(xs:List aj):Prop:=∀i:Int,0≤i→i<(xs.length:Nat)→¬D i→Wf (ah xs i)
theorem QK.grow{D E:Int→Prop}{xs xs' zs:List aj}(h:QK D xs)(hs:dY xs' (xs++zs))(hz:∀z∈zs,Wf z)(hE:∀i,D i→E i):QK E xs':=fun i h0 h1 hi=>by
 rw[Et (hs.2 i h0 h1)]
 by_cases hl:i<(xs.length:Nat)
 ·rw[bZ (by omega)];exact h i h0 hl fun k=>hi (hE i k)
 ·have hln:=hs.1;rw[qA]at hln;have hlt:i.toNat-xs.length<zs.length:=by omega
  have e:ah (xs++zs) i=zs[i.toNat-xs.length]:=by
   unfold ah elt;rw[qC,qL (by omega),qB hlt];rfl
  rw[e];exact hz _ (List.getElem_mem hlt)
structure BkW(bk:List (List aj)):Prop where
 wi:∀v:Int,0≤v→v<(bk.length:Nat)→gK (fun p=>ak (bJ bk v) p) (bJ bk v)
 r0:∀v:Int,0≤v→v<(bk.length:Nat)→ak (bJ bk v) (0,0)
 r1:∀v:Int,0≤v→v<(bk.length:Nat)→∀p,ak (bJ bk v) p→p.1=0→p=(0,0)
 wf:∀v:Int,0≤v→v<(bk.length:Nat)→∀i:Int,0≤i→i<((bJ bk v).length:Nat)→Wf (ah (bJ bk v) i)
def lu(bk:List (List aj))(xs:List aj)(c x y:Int):List aj:=
 bif c==3 then[lg xs y]++[lg xs y]++List.replicate ((ah xs y).2.2.2.2.length-1) (aX 4 (ah xs x).2.1 0 [] 3)
 else bif c==4 then List.replicate ((ah xs y).2.2.2.2.length-1) (aX 5 0 0 [] 1)
 else bif c==5 then(bif (ah xs y).1==7 then[aX 8 (ah xs y).2.1 (ah xs y).2.2.1 [(ah xs x).2.2.1] 2]else[aX 6 0 (vJ (ah xs y).2.2.1 (jN (ah xs y).2.2.2.1 0) (ah xs x).2.2.1) [] 1])
 else bif c==6 then(bif (ah xs x).1==6 then[aX 12 (ah xs y).2.1 (jN (ah xs y).2.2.2.1 (bif (ah xs x).2.2.1==0 then 1 else 0)) [] 1]
  else[aX 12 (ah xs y).2.1 (jN (ah xs y).2.2.2.1 (ah xs x).2.2.1) [] 1]++List.replicate ((ah xs x).2.2.2.2.length-1) (aX 3 (ah xs y).2.1 0 [] 3))
 else bif c==7 then((mF bk xs x).drop 1).map (bQ ((xs.length:Nat)-1))else[]
section
variable {D:Int→Prop}{xs ys:List aj}{x y:Int}{bk:List (List aj)}
theorem Nt{x:Int}{b:Nat}{P Q:List aj}(h:dY P Q):∀k,dY (A9 x b P k) Q
 |0=>h
 |k+1=>(Nt h k).move _ _
theorem Nv(lv:Int)(b:Nat)(P:List aj):∀k,dY (oH lv b P k) (P++List.replicate k (aX 3 lv 0 [] 3))
 |0=>by rw[List.replicate_zero,qS];exact dY.refl _
 |k+1=>by
  unfold oH;rw[List.replicate_succ',←qF];exact((Nv lv b P k).app _).link _ _
theorem nM{c:Int}(hc:1≤c∧c≤7)(hx:x.toNat<xs.length):dY (aV bk xs c x y) (xs++lu bk xs c x y):=by
 have hcs:c=1∨c=2∨c=3∨c=4∨c=5∨c=6∨c=7:=by omega
 rcases hcs with rfl|rfl|rfl|rfl|rfl|rfl|rfl
 ·show dY (aY (aY xs (x,1) (y,1)) (x,2) (y,2)) (xs++[]);rw[qS];exact((dY.refl xs).join _ _).join _ _
 ·show dY (aY (aY xs (x,1) (y,1)) (x,2) (y,2)) (xs++[]);rw[qS];exact((dY.refl xs).join _ _).join _ _
 ·show dY (bM xs x y) (xs++([lg xs y]++[lg xs y]++List.replicate ((ah xs y).2.2.2.2.length-1) (aX 4 (ah xs x).2.1 0 [] 3)));unfold bM mH dup3
  have e:(ah (dup2 xs y) x).2.1=(ah xs x).2.1:=by
   unfold dup2;rw[bZ (by rw[qA];omega),bZ hx]
  rw[←(lX (x:=x) (by rw[iF];omega) _).1,e];refine F3 ((dY.move ?_ _ _).move _ _) _;rw[←qF,←qF];exact JL _ _ _ _ _
 ·exact NP y xs _
 ·show dY (bB xs x y) (xs++(bif (ah xs y).1==7 then[aX 8 (ah xs y).2.1 (ah xs y).2.2.1 [(ah xs x).2.2.1] 2]else[aX 6 0 (vJ (ah xs y).2.2.1 (jN (ah xs y).2.2.2.1 0) (ah xs x).2.2.1) [] 1]));unfold bB;cases (ah xs y).1==7 with
  |true=>exact(((dY.refl xs).app _).move _ _).move _ _
  |false=>exact((dY.refl xs).app _).move _ _
 ·show dY (gY xs x y) (xs++(bif (ah xs x).1==6 then[aX 12 (ah xs y).2.1 (jN (ah xs y).2.2.2.1 (bif (ah xs x).2.2.1==0 then 1 else 0)) [] 1]
   else[aX 12 (ah xs y).2.1 (jN (ah xs y).2.2.2.1 (ah xs x).2.2.1) [] 1]++List.replicate ((ah xs x).2.2.2.2.length-1) (aX 3 (ah xs y).2.1 0 [] 3)))
  unfold gY;cases (ah xs x).1==6 with
  |true=>exact((dY.refl xs).app _).move _ _
  |false=>
   simp only[qH];rw[←qF];exact(Nt (Nv _ _ _ _) _).move _ _
 ·exact((dY.refl xs).app _).link _ _
theorem Sj{c:Int}(h:St D xs ys)(k:iM D xs x y)(hD:∀i,D i→i<(xs.length:Nat))(hw:QK D xs)(hr:rule (ah xs x).1 (ah xs x).2.1 (ah xs y).1 (ah xs y).2.1=c)(hc:1≤c∧c≤7)(hb:BkW bk)(h7:c=7→(ah xs x).2.2.1<(bk.length:Nat)):
  St (fun i=>D i∨i∈bR c x y) (aV bk xs c x y) (dP bk ys c x y):=by
 have wx:=hw x k.px.1 k.px.2.1 k.lx;have wy:=hw y k.py.1 k.py.2.1 k.ly;obtain⟨x1,x2,x3,x4⟩:=jw wx;obtain⟨y1,y2,y3,y4⟩:=jw wy;obtain⟨r1,r2,r3,r4,r5,r6,r7⟩:=fF hr (by omega)
 have mono:∀{E:Int→Prop} {A B:List aj},(∀i,E i↔D i∨i=x∨i=y)→St (fun i=>D i∨i=x∨i=y) A B→St E A B:=fun {E A B} e s=>by
  have:E=fun i=>D i∨i=x∨i=y:=funext fun i=>propext (e i)
  rw[this];exact s
 have g2:c≠7→∀i,(D i∨i∈bR c x y)↔D i∨i=x∨i=y:=fun hne i=>by
  unfold bR;rw[show(c==7)=false by simpa using hne];simp
 have hcs:c=1∨c=2∨c=3∨c=4∨c=5∨c=6∨c=7:=by omega
 rcases hcs with rfl|rfl|rfl|rfl|rfl|rfl|rfl
 ·obtain⟨a,b⟩:=r1 rfl;exact mono (g2 (by decide)) (h.joins k (x3 (by omega)) (y3 (by omega)))
 ·obtain⟨a,b⟩:=r2 rfl;exact mono (g2 (by decide)) (h.joins k (x3 (by omega)) (y3 (by omega)))
 ·exact mono (g2 (by decide)) (h.duplicate k hD (x3 (by have:=r3 rfl;omega)) (eF wy).2.2.2)
 ·exact mono (g2 (by decide)) (h.erase k hD (x1 (by have:=r4 rfl;omega)))
 ·obtain⟨a,b⟩:=r5 rfl;exact mono (g2 (by decide)) (h.operate k hD (x1 (by omega)) (fun e=>y3 (by omega)) (fun e=>y2 (by omega)))
 ·have q:=r6 rfl;exact mono (g2 (by decide)) (h.choose k hD (by omega) (fun e=>x1 (by omega)) (eF wx).2.2.2 (y2 (by omega)))
 ·obtain⟨a,b⟩:=r7 rfl;have v:=rP wx a;have e:(fun i=>D i∨i∈bR 7 x y)=fun i=>D i∨i=x:=funext fun i=>propext (by unfold bR;simp)
  rw[e];exact h.expand k hD (x1 (by omega)) (hb.wi _ v.1 (h7 rfl)) (hb.r0 _ v.1 (h7 rfl)) (hb.r1 _ v.1 (h7 rfl))
end
end Go.Tr
namespace Go.Tr
open Go Go.RowKit
theorem zK(x:Int):rC (nu x)=true:=by
 have h: -2147483648≤IntKind.i32.wrap x∧IntKind.i32.wrap x≤2147483647:=by
  simp only[IntKind.wrap,IntKind.bits,IntKind.signed];simp;omega
 unfold nu;rw[qO _ (by omega)];exact Ii h.1 h.2
theorem V3(o a b:Int):rC (vJ o a b)=true:=by
 unfold vJ;cases o==1 with
 |true=>exact zK _
 |false=>
 cases o==2 with
 |true=>exact zK _
 |false=>
 cases o==3 with
 |true=>exact zK _
 |false=>
 cases o==4 with
 |true=>
  cases nu b==0 with
  |true=>rfl
  |false=>exact zK _
 |false=>
 cases o==5 with
 |true=>cases decide (nu a<nu b)<;>rfl
 |false=>
 cases o==6 with
 |true=>cases nu a==nu b<;>rfl
 |false=>rfl
theorem UK{lv:Int}{a:aj}(h:Wf a)(h0:0≤lv)(h8:(!(bY a.kind)||decide (a.level+lv≤8))=true):Wf (jo lv a):=by
 unfold jo;cases hl:bY a.kind with
 |false=>exact h
 |true=>
  have h9:a.2.1+lv≤8:=by
   rw[show aj.kind a=a.1 from rfl]at*;rw[hl]at h8;simpa using h8
  have hp:=eF h;have hlev:=wQ h;unfold Wf fZ at h ⊢;simp only[qD]at h ⊢;obtain⟨⟨⟨q1,q2⟩,q3⟩,q4⟩:=h;refine⟨⟨⟨q1,q2⟩,?_⟩,q4⟩;show dh a.1 (a.2.1+lv)=true;have q5:dh a.1 a.2.1=true:=q3;unfold dh at q5 ⊢;simp only[qD,Bool.or_eq_true]at q5 ⊢;exact⟨q5.1,.inr ⟨hl,Ii (by omega) h9⟩⟩
theorem Qc(b:Int)(a:aj):sig (bQ b a)=sig a:=by unfold sig bQ;simp
section
variable {D:Int→Prop}{xs:List aj}{x y:Int}{bk:List (List aj)}
theorem FR{c:Int}(hw:QK D xs)(hx:0≤x∧x<(xs.length:Nat))(hy:0≤y∧y<(xs.length:Nat))(lx:¬D x)(ly:¬D y)(hr:rule (ah xs x).1 (ah xs x).2.1 (ah xs y).1 (ah xs y).2.1=c)(hc:1≤c∧c≤7)(hb:BkW bk)
  (h6:c=6→(ah xs x).1=9→(ah xs x).2.2.1<((ah xs y).2.2.2.1.length:Nat)) (h7:c=7→(ah xs x).2.2.1<(bk.length:Nat)∧eT (ah xs x).2.1 (bJ bk (ah xs x).2.2.1)=true):QK D (aV bk xs c x y):=by
 have wx:=hw x hx.1 hx.2 lx;have wy:=hw y hy.1 hy.2 ly;have lvx:=wQ wx;have lvy:=wQ wy;obtain⟨r1,r2,r3,r4,r5,r6,r7⟩:=fF hr (by omega);refine hw.grow (nM hc (by omega)) ?_ fun i e=>e
 have hcs:c=1∨c=2∨c=3∨c=4∨c=5∨c=6∨c=7:=by omega
 rcases hcs with rfl|rfl|rfl|rfl|rfl|rfl|rfl
 ·intro z hz;cases hz
 ·intro z hz;cases hz
 ·intro z hz;have hz':z∈[lg xs y]++[lg xs y]++List.replicate ((ah xs y).2.2.2.2.length-1) (aX 4 (ah xs x).2.1 0 [] 3):=hz;rw[qT,qT,qX]at hz';rcases hz' with(e|e)|e
  ·rw[e];exact Pb wy
  ·rw[e];exact Pb wy
  ·rw[List.eq_of_mem_replicate e];exact Y5 lvx
 ·intro z hz;have hz':z∈List.replicate ((ah xs y).2.2.2.2.length-1) (aX 5 0 0 [] 1):=hz;rw[List.eq_of_mem_replicate hz'];exact Y4
 ·obtain⟨a,b⟩:=r5 rfl;intro z hz;have hz':z∈(bif (ah xs y).1==7 then[aX 8 (ah xs y).2.1 (ah xs y).2.2.1 [(ah xs x).2.2.1] 2]else[aX 6 0 (vJ (ah xs y).2.2.1 (jN (ah xs y).2.2.2.1 0) (ah xs x).2.2.1) [] 1]):=hz;cases hk:(ah xs y).1==7 with
  |true=>
   rw[hk,qG,qX]at hz';rw[hz'];exact Y7 lvy (WT wy (by simpa using hk)) (UG wx a)
  |false=>
   rw[hk,qH,qX]at hz';rw[hz'];exact Y6 (V3 _ _ _)
 ·have q:=r6 rfl;intro z hz
  have hz':z∈(bif (ah xs x).1==6 then[aX 12 (ah xs y).2.1 (jN (ah xs y).2.2.2.1 (bif (ah xs x).2.2.1==0 then 1 else 0)) [] 1]
   else[aX 12 (ah xs y).2.1 (jN (ah xs y).2.2.2.1 (ah xs x).2.2.1) [] 1]++List.replicate ((ah xs x).2.2.2.2.length-1) (aX 3 (ah xs y).2.1 0 [] 3)):=hz
  rcases q with⟨a,b⟩|⟨a,b⟩
  ·rw[show((ah xs x).1==6)=true by simpa using a,qG,qX]at hz';obtain⟨l2,d⟩:=Eu wy b;rw[hz'];refine UJ lvy (ND d ?_ ?_)
   ·cases (ah xs x).2.2.1==0<;>decide
   ·rw[l2];cases (ah xs x).2.2.1==0<;>decide
  ·rw[show((ah xs x).1==6)=false by simp[a],qH,qT,qX]at hz';obtain⟨_,_,d⟩:=UF wy b;rcases hz' with e|e
   ·rw[e];exact UJ lvy (ND d (Es wx a).1 (h6 rfl a))
   ·rw[List.eq_of_mem_replicate e];exact Y3 lvy
 ·obtain⟨a,b⟩:=r7 rfl;obtain⟨v1,v2⟩:=h7 rfl;intro z hz;have hz':z∈((mF bk xs x).drop 1).map (bQ ((xs.length:Nat)-1)):=hz;obtain⟨w,hw1,rfl⟩:=List.mem_map.1 hz';rw[Et (Qc _ w)];have hw2:=List.mem_of_mem_drop hw1;unfold mF bU at hw2;obtain⟨u,hu,rfl⟩:=List.mem_map.1 hw2;obtain⟨i,hi,rfl⟩:=List.mem_iff_getElem.1 hu;have hv:=rP wx a;have wu:=hb.wf _ hv.1 v1 (i:Nat) (by omega) (by omega)
  have e:ah (bJ bk (ah xs x).2.2.1) (i:Nat)=(bJ bk (ah xs x).2.2.1)[i]:=by
   generalize bJ bk (ah xs x).2.2.1=t at*;unfold ah elt;rw[qK,qC,qB hi];rfl
  rw[e]at wu;refine UK wu (by omega) ?_;unfold eT at v2;exact List.all_eq_true.1 v2 _ hu
theorem Sk{c:Int}(hw:QK D xs)(hx:0≤x∧x<(xs.length:Nat))(hy:0≤y∧y<(xs.length:Nat))(lx:¬D x)(ly:¬D y)(hr:rule (ah xs x).1 (ah xs x).2.1 (ah xs y).1 (ah xs y).2.1=c)(hc:1≤c∧c≤7)(hb:BkW bk)
  (h6:c=6→(ah xs x).1=9→(ah xs x).2.2.1<((ah xs y).2.2.2.1.length:Nat)) (h7:c=7→(ah xs x).2.2.1<(bk.length:Nat)∧eT (ah xs x).2.1 (bJ bk (ah xs x).2.2.1)=true):QK (fun i=>D i∨i∈bR c x y) (aV bk xs c x y):=fun i h0 h1 hi=>FR hw hx hy lx ly hr hc hb h6 h7 i h0 h1 fun e=>hi (.inl e)
end
end Go.Tr
namespace Go.Tr
open Go Go.RowKit
section
variable {D:Int→Prop}{xs ys:List aj}{x y a b:Int}{bk:List (List aj)}
theorem zq{u v:aj}(hu:Wf u)(hv:Wf v)(ru:u.1≠1)(rv:v.1≠1):lD u.1 u.2.1 v.1 v.2.1=true:=by
 unfold lD;rw[(eF hu).1,(eF hv).1];simp[ru,rv]
theorem Pw{u v:aj}(hu:Wf u)(hv:Wf v)(ru:u.1≠1)(rv:v.1≠1):1≤aU u.1 u.2.1 v.1 v.2.1∧aU u.1 u.2.1 v.1 v.2.1≤8:=by
 have hp:=zq hu hv ru rv;unfold aU;rw[hp,if_pos rfl];have r1:=rH u.1 u.2.1 v.1 v.2.1;have r2:=rH v.1 v.2.1 u.1 u.2.1;split
 ·split
  ·decide
  ·omega
 ·omega
theorem LV{u v:aj}(hu:Wf u)(hv:Wf v)(ru:u.1≠1)(rv:v.1≠1)(h8:aU u.1 u.2.1 v.1 v.2.1=8):aQ u.1 u.2.1 v.1 v.2.1=0:=by
 have hp:=zq hu hv ru rv;unfold aU at h8;unfold aQ;rw[hp,if_pos rfl]at h8;rw[hp,if_pos rfl];have r1:=rH u.1 u.2.1 v.1 v.2.1;have r2:=rH v.1 v.2.1 u.1 u.2.1;split at h8
 ·rename_i e1;rw[if_pos e1];split at h8
  ·rename_i e2;rw[if_pos e2]
  ·omega
 ·omega
theorem Lr{u v:aj}{c:Int}(hr:rule u.1 u.2.1 v.1 v.2.1=c)(hc:1≤c∧c≤7):jH u v=false∧o7 c u v=eZ u v:=by
 obtain⟨r1,r2,r3,r4,r5,r6,r7⟩:=fF hr (by omega)
 have k2:u.1≠10:=by
  intro e;have:c=1∨c=2∨c=3∨c=4∨c=5∨c=6∨c=7:=by omega
  rcases this with h|h|h|h|h|h|h
  ·have:=r1 h;omega
  ·have:=r2 h;omega
  ·have:=r3 h;omega
  ·have:=r4 h;omega
  ·have:=r5 h;omega
  ·have:=r6 h;omega
  ·have:=r7 h;omega
 constructor
 ·unfold jH;rw[show(u.1==10)=false by simpa using k2];rfl
 ·unfold o7 eZ
  have e:(bif c==6 then v.kind==10 else false)=(bif u.1==9 then v.1==10 else false):=by
   show(bif c==6 then v.1==10 else false)=_
   by_cases h9:u.1=9
   ·have hc6:c=6∨v.1≠10:=by
     by_cases hv:v.1=10
     ·left;rw[←hr];unfold rule;rw[h9,hv];rfl
     ·exact .inr hv
    rw[show(u.1==9)=true by simpa using h9,qG];rcases hc6 with h|h
    ·rw[h];rfl
    ·rw[show(v.1==10)=false by simpa using h];cases c==6<;>rfl
   ·rw[show(u.1==9)=false by simpa using h9,qH]
    by_cases h6:c=6
    ·have:=r6 h6;rw[show(v.1==10)=false by simp;omega];cases c==6<;>rfl
    ·rw[show(c==6)=false by simpa using h6];rfl
  rw[e]
theorem yP(ha:Wf (ah xs a))(hb:Wf (ah xs b))(ra:(ah xs a).1≠1)(rb:(ah xs b).1≠1):(bC (ah xs a) (ah xs b)).1=aS (ah xs (au xs a b).1) (ah xs (au xs a b).2)∧
  ((bC (ah xs a) (ah xs b)).1≠8→(bif (bC (ah xs a) (ah xs b)).2 then b else a)=(au xs a b).1∧(bif (bC (ah xs a) (ah xs b)).2 then a else b)=(au xs a b).2∧
   rule (ah xs (au xs a b).1).1 (ah xs (au xs a b).1).2.1 (ah xs (au xs a b).2).1 (ah xs (au xs a b).2).2.1=(bC (ah xs a) (ah xs b)).1∧1≤(bC (ah xs a) (ah xs b)).1∧(bC (ah xs a) (ah xs b)).1≤7):=by
 have hp:=Pw ha hb ra rb
 by_cases h8:aU (ah xs a).1 (ah xs a).2.1 (ah xs b).1 (ah xs b).2.1=8
 ·have hf:=LV ha hb ra rb h8
  have e1:bC (ah xs a) (ah xs b)=(8,false):=by
   unfold bC o7;rw[show(aQ (ah xs a).kind (ah xs a).level (ah xs b).kind (ah xs b).level==2)=false by rw[show aQ (ah xs a).kind (ah xs a).level (ah xs b).kind (ah xs b).level=0 from hf];rfl];rw[show aU (ah xs a).kind (ah xs a).level (ah xs b).kind (ah xs b).level=8 from h8];rfl
  have e2:au xs a b=(a,b):=by unfold au;rw[hf];rfl
  rw[e1,e2];refine⟨?_,fun h=>absurd rfl h⟩;unfold aS;rw[h8];cases eZ (ah xs a) (ah xs b)<;>cases jH (ah xs a) (ah xs b)<;>rfl
 ·have hc:1≤aU (ah xs a).1 (ah xs a).2.1 (ah xs b).1 (ah xs b).2.1∧aU (ah xs a).1 (ah xs a).2.1 (ah xs b).1 (ah xs b).2.1≤7:=by omega
  have hr:=LU (xs:=xs) (a:=a) (b:=b) hc;obtain⟨c1,c2⟩:=Lr hr hc
  have hcS:aS (ah xs (au xs a b).1) (ah xs (au xs a b).2)=bif eZ (ah xs (au xs a b).1) (ah xs (au xs a b).2)then 8 else aU (ah xs a).1 (ah xs a).2.1 (ah xs b).1 (ah xs b).2.1:=by
   unfold aS;rw[c1]
   have:aU (ah xs (au xs a b).1).1 (ah xs (au xs a b).1).2.1 (ah xs (au xs a b).2).1 (ah xs (au xs a b).2).2.1=aU (ah xs a).1 (ah xs a).2.1 (ah xs b).1 (ah xs b).2.1:=by
    unfold au;cases aQ (ah xs a).1 (ah xs a).2.1 (ah xs b).1 (ah xs b).2.1==2 with
    |true=>exact sV _ _ _ _
    |false=>rfl
   rw[this];cases eZ (ah xs (au xs a b).1) (ah xs (au xs a b).2)<;>rfl
  rw[hcS];generalize hC:aU (ah xs a).1 (ah xs a).2.1 (ah xs b).1 (ah xs b).2.1=c at*;cases hf:aQ (ah xs a).1 (ah xs a).2.1 (ah xs b).1 (ah xs b).2.1==2 with
  |true=>
   have e2:au xs a b=(b,a):=by unfold au;rw[hf];rfl
   rw[e2]at hr c2 ⊢
   have e1:bC (ah xs a) (ah xs b)=bif eZ (ah xs b) (ah xs a)then(8,false)else(c,true):=by
    unfold bC;rw[show(aQ (ah xs a).kind (ah xs a).level (ah xs b).kind (ah xs b).level==2)=true from hf,show aU (ah xs a).kind (ah xs a).level (ah xs b).kind (ah xs b).level=c from hC];simp only[qG];rw[c2]
   rw[e1];cases eZ (ah xs b) (ah xs a)with
   |true=>exact⟨rfl,fun h=>absurd rfl h⟩
   |false=>exact⟨rfl,fun _=>⟨rfl,rfl,hr,hc⟩⟩
  |false=>
   have e2:au xs a b=(a,b):=by unfold au;rw[hf];rfl
   rw[e2]at hr c2 ⊢
   have e1:bC (ah xs a) (ah xs b)=bif eZ (ah xs a) (ah xs b)then(8,false)else(c,false):=by
    unfold bC;rw[show(aQ (ah xs a).kind (ah xs a).level (ah xs b).kind (ah xs b).level==2)=false from hf,show aU (ah xs a).kind (ah xs a).level (ah xs b).kind (ah xs b).level=c from hC];simp only[qH];rw[c2]
   rw[e1];cases eZ (ah xs a) (ah xs b)with
   |true=>exact⟨rfl,fun h=>absurd rfl h⟩
   |false=>exact⟨rfl,fun _=>⟨rfl,rfl,hr,hc⟩⟩
end
end Go.Tr
namespace Go.Tr
open Go Go.RowKit
section
variable {xs:List aj}{a b:Int}{bk:List (List aj)}
theorem VQ{u v m:Int}:Io u v≤m↔u≤m∧v≤m:=by
 unfold Io;cases h:decide (v<u)with
 |true=>simp only[qQ]at h;simp only[qG];omega
 |false=>simp only[qP]at h;simp only[qH];omega
theorem Ag{t:List aj}{m:Int}(hm:0≤m):∀k:Nat,lN t k≤m↔∀i:Nat,i<k→(ah t (i:Nat)).2.1≤m
 |0=>⟨fun _ i hi=>by omega,fun _=>hm⟩
 |k+1=>by
  unfold lN;rw[VQ,Ag hm k];constructor
  ·rintro⟨h1,h2⟩ i hi
   by_cases e:i=k
   ·rw[e];exact h2
   ·exact h1 i (by omega)
  ·intro h;exact⟨fun i hi=>h i (by omega),h k (by omega)⟩
theorem tJ{t:List aj}{i:Nat}(hi:i<t.length):ah t (i:Nat)=t[i]:=by
 unfold ah elt;rw[qK,qC,qB hi];rfl
theorem Um{t:List aj}{lv:Int}(ht:∀i:Int,0≤i→i<(t.length:Nat)→Wf (ah t i))(h0:0≤lv)(h8:lv≤8):decide (8<IntKind.i64.wrap (lN t t.length+lv))= !eT lv t:=by
 have hb:lN t t.length≤8:=(Ag (by decide) _).2 fun i hi=>by
  have:=wQ (ht (i:Nat) (by omega) (by omega));omega
 have hz:0≤lN t t.length:=by
  have:∀k:Nat,0≤lN t k:=fun k=>by
   induction k with
   |zero=>exact Int.le_refl 0
   |succ k ih=>unfold lN Io;cases h:decide ((ah t (k:Nat)).2.1<lN t k)with
    |true=>exact ih
    |false=>simp only[qP]at h;simp only[qH];omega
  exact this _
 rw[qO _ (by omega)]
 have key:eT lv t=decide (lN t t.length≤8-lv):=by
  rw[Bool.eq_iff_iff,qQ,Ag (by omega)];unfold eT;rw[List.all_eq_true];constructor
  ·intro h i hi;have q:=h _ (List.getElem_mem hi);have w:=ht (i:Nat) (by omega) (by omega);rw[←tJ hi]at q;cases hl:bY (ah t (i:Nat)).kind with
   |true=>
    rw[hl]at q;have:(ah t (i:Nat)).2.1+lv≤8:=by simpa using q
    omega
   |false=>
    have q2:=(eF w).1;unfold dh at q2;rw[show bY (ah t (i:Nat)).1=false from hl]at q2;simp only[Bool.false_and,Bool.or_false,qD,beq_iff_eq]at q2;omega
  ·intro h u hu;obtain⟨i,hi,rfl⟩:=List.mem_iff_getElem.1 hu;have q:=h i hi;rw[tJ hi]at q;have:t[i].level+lv≤8:=by show t[i].2.1+lv≤8;omega
   simp[this]
 rw[key,←decide_not];exact decide_eq_decide.2 (by omega)
theorem NA(ha:Wf (ah xs a))(hb:Wf (ah xs b))(ra:(ah xs a).1≠1)(rb:(ah xs b).1≠1)(hbk:BkW bk):
  ((eG bk (ah xs (au xs a b).1) (ah xs (au xs a b).2)).2≠0→(checkN bk xs (a,b)).2.2.2=(eG bk (ah xs (au xs a b).1) (ah xs (au xs a b).2)).2)∧
  ((eG bk (ah xs (au xs a b).1) (ah xs (au xs a b).2)).2=0→checkN bk xs (a,b)=(aS (ah xs (au xs a b).1) (ah xs (au xs a b).2),(au xs a b).1,(au xs a b).2,0)∧
   tQ bk xs (aS (ah xs (au xs a b).1) (ah xs (au xs a b).2)) (au xs a b).1 (au xs a b).2=(eG bk (ah xs (au xs a b).1) (ah xs (au xs a b).2)).1∧
   (aS (ah xs (au xs a b).1) (ah xs (au xs a b).2)=7→(ah xs (au xs a b).1).2.2.1<(bk.length:Nat)∧eT (ah xs (au xs a b).1).2.1 (bJ bk (ah xs (au xs a b).1).2.2.1)=true)):=by
 obtain⟨e1,e2⟩:=yP ha hb ra rb
 have hx1:Wf (ah xs (au xs a b).1):=by
  unfold au;cases aQ (ah xs a).1 (ah xs a).2.1 (ah xs b).1 (ah xs b).2.1==2
  ·exact ha
  ·exact hb
 generalize hc:aS (ah xs (au xs a b).1) (ah xs (au xs a b).2)=c at*;unfold eG checkN;rw[hc];simp only[e1]
 by_cases h8:c=8
 ·subst h8;refine⟨fun _=>rfl,fun h=> ?_⟩;cases h
 ·obtain⟨k1,k2,k3,k4,k5⟩:=e2 (by rw[e1];exact h8);rw[e1]at k3 k4 k5;have k1':(bif (bC (ah xs a) (ah xs b)).2 then((a,b):Int×Int).2 else((a,b):Int×Int).1)=(au xs a b).1:=k1;have k2':(bif (bC (ah xs a) (ah xs b)).2 then((a,b):Int×Int).1 else((a,b):Int×Int).2)=(au xs a b).2:=k2;rw[show(c==8)=false by simpa using h8];simp only[qH];rw[k1',k2'];generalize (au xs a b).1=x at*;generalize (au xs a b).2=y at*
  by_cases h7:c=7
  ·subst h7;obtain⟨_,_,_,_,_,_,r7⟩:=fF k3 (by decide);have hv:=rP hx1 (r7 rfl).1;have hlv:=wQ hx1;rw[show((7:Int)==7)=true from rfl];simp only[qG];cases hd:decide ((bk.length:Int)≤(ah xs x).2.2.1)with
   |true=>
    refine⟨fun _=>rfl,fun h=> ?_⟩;cases h
   |false=>
    simp only[qP]at hd;have hvl:(ah xs x).2.2.1<(bk.length:Nat):=by omega
    rw[Um (hbk.wf _ hv.1 hvl) (by omega) (by omega)];cases hs:eT (ah xs x).2.1 (bJ bk (ah xs x).2.2.1)with
    |false=>
     refine⟨fun _=>rfl,fun h=> ?_⟩;cases h
    |true=>
     refine⟨fun h=>absurd rfl h,fun _=>⟨by first|rfl|trivial,by first|rfl|trivial,fun _=>⟨hvl,by first|rfl|trivial⟩⟩⟩
  ·rw[show(c==7)=false by simpa using h7];simp only[qH];refine⟨fun h=>absurd rfl h,fun _=>⟨by first|rfl|trivial,?_,fun h=>absurd h h7⟩⟩;rfl
end
end Go.Tr
namespace Go.Tr
open Go Go.RowKit
abbrev aP:U:=.pair (.int .i64) (.pair (.int .i64) (.pair (.int .i64) (.pair (.int .i64) (.int .i64))))
abbrev aB:=Int×Int×Int×Int×Int
def hasB(xs:List aj)(k:Int):Bool:=bif decide (0≤k)then decide (k<(xs.length:Nat))else false
def dX(xs:List aj)(kv:List (Int×Bool))(k:Int):Bool:=bif hasB xs k then !(cZ false kv k)else false
def kH(xs:List aj)(a b:Int):Bool:=
 bif (bif (bif decide (a<b)then bT [(elt (dflt bf) (ah xs a).2.2.2.2 0).1,(elt (dflt bf) (ah xs a).2.2.2.2 0).2] [b,0]else false)then(ah xs a).1 !=1 else false)then(ah xs b).1 !=1 else false
theorem R6{xs:List aj}{k:Int}(h:hasB xs k=true):0≤k∧k<(xs.length:Nat):=by
 unfold hasB at h;cases h1:decide (0≤k)with
 |true=>rw[h1,qG]at h;exact⟨by simpa using h1,by simpa using h⟩
 |false=>rw[h1,qH]at h;cases h
theorem xq(kv:List (Int×Bool))(i j:Int):cZ false (fH kv i true) j=if i=j then true else cZ false kv j:=by
 induction kv with
 |nil=>
  simp only[fH,cZ]
  by_cases h:i=j
  ·rw[if_pos h,show(i==j)=true by simpa using h];rfl
  ·rw[if_neg h,show(i==j)=false by simpa using h];rfl
 |cons e l ih=>
  obtain⟨k,v⟩:=e;simp only[fH];cases h:k==i with
  |true=>
   have h1:k=i:=by simpa using h
   subst h1;simp only[qG,cZ]
   by_cases h2:k=j
   ·rw[if_pos h2,show(k==j)=true by simpa using h2];rfl
   ·rw[if_neg h2,show(k==j)=false by simpa using h2];rfl
  |false=>
   have h1:k≠i:=by simpa using h
   simp only[qH,cZ,ih]
   by_cases h2:k=j
   ·subst h2;rw[if_neg (Ne.symm h1),if_neg (Ne.symm h1)]
   ·rw[show(k==j)=false by simpa using h2];rfl
theorem tV{kv:List (Int×Bool)}(hT:∀e∈kv,e.2=true){i:Int}(h:cZ false kv i=false):(fH kv i true).length=kv.length+1:=by
 induction kv with
 |nil=>rfl
 |cons e l ih=>
  obtain⟨k,v⟩:=e;simp only[cZ]at h;simp only[fH];cases hk:k==i with
  |true=>
   rw[hk,qG]at h;have:=hT (k,v) (List.mem_cons_self ..);rw[h]at this;cases this
  |false=>
   rw[hk,qH]at h;simp only[qH,qI];rw[ih (fun e he=>hT e (List.mem_cons_of_mem _ he)) h]
theorem Il{kv:List (Int×Bool)}(hT:∀e∈kv,e.2=true)(i:Int):∀e∈fH kv i true,e.2=true:=by
 induction kv with
 |nil=>
  intro e he;simp only[fH,qX]at he;rw[he]
 |cons e l ih=>
  obtain⟨k,v⟩:=e;simp only[fH];cases hk:k==i with
  |true=>
   intro e he;simp only[qG,List.mem_cons]at he;rcases he with rfl|he
   ·rfl
   ·exact hT e (List.mem_cons_of_mem _ he)
  |false=>
   intro e he;simp only[qH,List.mem_cons]at he;rcases he with rfl|he
   ·exact hT _ (List.mem_cons_self ..)
   ·exact ih (fun e he=>hT e (List.mem_cons_of_mem _ he)) e he
def nD(kv:List (Int×Bool)):Nat→Nat
 |0=>0
 |k+1=>bif cZ false kv (k:Nat)then nD kv k+1 else nD kv k
theorem zV{kv:List (Int×Bool)}{x:Int}(h0:0≤x)(h:cZ false kv x=false):∀n:Nat,nD (fH kv x true) n=nD kv n+(if x<(n:Nat)then 1 else 0)
 |0=>by rw[if_neg (by omega)];rfl
 |n+1=>by
  unfold nD;rw[xq,zV h0 h n]
  by_cases e:x=(n:Nat)
  ·subst e;rw[if_pos rfl,qG,h,qH,if_neg (by omega),if_pos (by omega)]
  ·rw[if_neg e]
   by_cases hl:x<(n:Nat)
   ·rw[if_pos hl,if_pos (by omega)];cases cZ false kv (n:Nat)<;>simp only[qG,qH]<;>omega
   ·rw[if_neg hl,if_neg (by omega)];cases cZ false kv (n:Nat)<;>simp only[qG,qH]<;>omega
theorem zU{kv:List (Int×Bool)}{n:Nat}(h:∀i:Int,(n:Int)≤i→cZ false kv i=false):∀m:Nat,nD kv (n+m)=nD kv n
 |0=>rfl
 |m+1=>by
  show nD kv ((n+m)+1)=_;unfold nD;rw[h ((n+m:Nat):Int) (by omega),qH];have:=zU h m;rw[this];cases n<;>rfl
theorem J3{kv:List (Int×Bool)}{ys:List aj}:∀n:Nat,(∀i:Nat,i<n→((ah ys (i:Nat)).1=0↔cZ false kv (i:Nat)=true))→eU ys n+nD kv n=n
 |0,_=>rfl
 |n+1,h=>by
  have ih:=J3 n fun i hi=>h i (by omega)
  unfold eU nD;have hn:=h n (by omega)
  by_cases e:(ah ys (n:Nat)).1=0
  ·rw[hn.1 e,show((ah ys (n:Nat)).1 !=0)=false by simpa using e,qG,qH];omega
  ·rw[show((ah ys (n:Nat)).1 !=0)=true by simpa using e,show cZ false kv (n:Nat)=false by cases hk:cZ false kv (n:Nat)with
    |false=>rfl
    |true=>exact absurd (hn.2 hk) e,qG,qH]
   omega
section
variable {P:List aj→Prop}(hl:∀xs p q,P xs→P (bE xs p q))(ha:∀xs zs,P xs→P (xs++zs))
include hl
theorem jA{xs:List aj}{p q:aC}(h:P xs):P (bX xs p q):=hl _ _ _ h
theorem xk{xs:List aj}{p q:aC}(h:P xs):P (aY xs p q):=by
 unfold aY;cases ((ay xs p).1==q.1&&(ay xs p).2==q.2)with
 |true=>exact h
 |false=>exact hl _ _ _ h
theorem xQ{y:Int}{b:Nat}{xs:List aj}(h:P xs):∀k,P (cB y b xs k)
 |0=>h
 |k+1=>jA hl (xQ h k)
include ha
theorem zf{x c d:Int}{xs:List aj}(h:P xs):∀k,P (bV x c d xs k)
 |0=>h
 |k+1=>hl _ _ _ (hl _ _ _ (ha _ _ (zf h k)))
theorem JY{y:Int}{xs:List aj}(h:P xs):∀k,P (r9 y xs k)
 |0=>h
 |k+1=>jA hl (ha _ _ (JY h k))
theorem JX{lv x:Int}{b:Nat}{xs:List aj}(h:P xs):∀k,P (sW lv x b xs k)
 |0=>h
 |k+1=>jA hl (hl _ _ _ (ha _ _ (JX h k)))
theorem Df{bk:List (List aj)}{xs:List aj}{c x y:Int}(h:P xs):P (jX bk xs c x y):=by
 unfold jX;cases c==1
 ·cases c==2
  ·cases c==3
   ·cases c==4
    ·cases c==5
     ·cases c==6
      ·cases c==7
       ·exact h
       ·exact hl _ _ _ (ha _ _ h)
      ·show P (eY xs x y);unfold eY;cases (ah xs y).1==11
       ·exact jA hl (JX hl ha (ha _ _ h) _)
       ·exact jA hl (ha _ _ h)
     ·show P (bB xs x y);unfold bB;cases (ah xs y).1==7
      ·exact jA hl (ha _ _ h)
      ·exact jA hl (jA hl (ha _ _ h))
    ·exact JY hl ha h _
   ·exact xQ hl (jA hl (jA hl (zf hl ha (ha _ _ (ha _ _ h)) _))) _
  ·exact xk hl (xk hl h)
 ·exact xk hl (xk hl h)
end
def Jc(i:Int)(ys:List aj):Prop:=i.toNat<ys.length∧ah ys i=JR
theorem Jc.set{i:Int}{ys:List aj}(h:Jc i ys)(p q:aC):Jc i (aL ys p q):=by
 refine⟨by rw[bW];exact h.1,?_⟩;rw[dW];split
 ·rename_i e;rw[yH e.1,h.2];rfl
 ·exact h.2
theorem Jc.inter{i:Int}{ys:List aj}(h:Jc i ys)(bk:List (List aj))(c x y:Int):Jc i (jX bk ys c x y):=
 Df (P:=Jc i) (fun xs p q h=>(h.set p q).set q p) (fun xs zs h=>⟨by rw[qA];have:=h.1;omega,by rw[bZ h.1];exact h.2⟩) h
theorem Jc.drop{i:Int}{ys:List aj}(h:Jc i ys)(a:Int):Jc i (bn ys a):=by
 refine⟨by rw[iK];exact h.1,?_⟩;unfold bn;rw[kY];split
 ·rfl
 ·exact h.2
theorem Jc.new{ys:List aj}{a:Int}(h0:0≤a)(h1:a<(ys.length:Nat)):Jc a (bn ys a):=by
 refine⟨by rw[iK];omega,?_⟩;unfold bn;rw[kY,if_pos ⟨rfl,by omega⟩]
theorem FQ{xs:List aj}(bk:List (List aj))(c x y:Int):xs.length≤(jX bk xs c x y).length:=
 Df (P:=fun ws=>xs.length≤ws.length) (fun ws p q h=>by rw[iU];exact h) (fun ws zs h=>by rw[qA];omega) (Nat.le_refl _)
theorem bO.ZN{xs:List aj}{p q:aC}(h:∀r,ak xs r→r≠p→r≠q→ak xs (ay xs r))(hp:ak xs p)(hq:ak xs q):bO (bE xs p q):=fun r hr=>by
 have hr':=hr.unlink;rw[gu hp hq hr'];split
 ·exact hp.link
 ·rename_i e1;split
  ·exact hq.link
  ·rename_i e2;exact(h r hr' (Ne.symm e2) (Ne.symm e1)).link
section
variable {xs:List aj}{x y c:Int}{bk:List (List aj)}
theorem VK(hp:IntPre xs c x y)(hA:bO xs)(h0:ak xs (0,0))(hc:1≤c∧c≤7)(hb:BkW bk)(h7:c=7→(0≤(ah xs x).2.2.1∧(ah xs x).2.2.1<(bk.length:Nat))):bO (aV bk xs c x y):=by
 obtain⟨hx0,hy0,p12,p3,px,py,dy,p5,p6⟩:=hp;have hcs:c=1∨c=2∨c=3∨c=4∨c=5∨c=6∨c=7:=by omega
 rcases hcs with rfl|rfl|rfl|rfl|rfl|rfl|rfl
 ·obtain⟨j1,j2,j3,j4⟩:=p12 (.inl rfl);exact(hA.join j1 j3).join j2.join j4.join
 ·obtain⟨j1,j2,j3,j4⟩:=p12 (.inr rfl);exact(hA.join j1 j3).join j2.join j4.join
 ·obtain⟨hx1,hx2⟩:=p3 rfl;show bO (bM xs x y);have h2A:=yT (y:=y) hA h0;have hcd:∀i:Nat,i≤(ah xs y).2.2.2.2.length-1→ak (dup2 xs y) (((xs.length:Nat):Int),(i:Nat))∧ak (dup2 xs y) (((xs.length+1:Nat):Int),(i:Nat)):=fun i hi=>⟨uO (by omega) (by omega),uP (by omega) (by omega)⟩
  have h3A:bO (dup3 xs x y):=nZ h2A (o8 h0) _ hcd;have h3:∀{p},ak xs p→ak (dup3 xs x y) p:=fun h=>dx (o8 h) _
  have hc0:ak (dup3 xs x y) (((xs.length:Nat):Int),0):=dx (uO (by decide) (by omega)) _;have hd0:ak (dup3 xs x y) (((xs.length+1:Nat):Int),0):=dx (uP (by decide) (by omega)) _;have h4A:bO (mH xs x y):=(h3A.move (h3 hx1) hc0).move (h3 hx2).move hd0.move;refine mQ h4A _ fun i hi=>⟨(h3 ⟨hy0.1,hy0.2,by omega,?_⟩).move.move,?_⟩
  ·show((i:Nat):Int)+1<((ah xs y).2.2.2.2.length:Nat);omega
  ·have:=(tL (x:=x) (c:=((xs.length:Nat):Int)) (d:=((xs.length+1:Nat):Int)) (xs:=dup2 xs y) hi).move (p:=(x,1)) (q:=(((xs.length:Nat):Int),0));have:=this.move (p:=(x,2)) (q:=(((xs.length+1:Nat):Int),0));rw[iF]at this;exact this
 ·exact yX hA h0 _ fun i hi=>⟨hy0.1,hy0.2,by omega,by show((i+1:Nat):Int)<((ah xs y).2.2.2.2.length:Nat);omega⟩
 ·obtain⟨j1,j2,j3⟩:=p5 rfl;show bO (bB xs x y);unfold bB;cases hk:(ah xs y).1==7 with
  |true=>
   have k7:=j2 (by simpa using hk);exact((hA.add h0 _ _ _ _ _).move j1.app (ak.new (by decide) (by decide))).move k7.app.move (ak.new (by decide) (by decide)).move
  |false=>exact(hA.add h0 _ _ _ _ _).move j1.app (ak.new (by decide) (by decide))
 ·obtain⟨j1,j2,j3⟩:=p6 rfl;show bO (gY xs x y);unfold gY;cases hk:(ah xs x).1==6 with
  |true=>exact(hA.add h0 _ _ _ _ _).move j1.app (ak.new (by decide) (by decide))
  |false=>
   simp only[qH];have h1A:bO (bG xs y (ah xs x).2.2.1):=hA.add h0 _ _ _ _ _;have h1l:(bG xs y (ah xs x).2.2.1).length=xs.length+1:=tK _ _ _;have h1R:ak (bG xs y (ah xs x).2.2.1) (iN (bG xs y (ah xs x).2.2.1).length 0):=by rw[h1l];exact ak.new (by decide) (by decide)
   have h1:∀{p},ak xs p→ak (bG xs y (ah xs x).2.2.1) p:=fun h=>h.app
   have h2A:=GX (lv:=(ah xs y).2.1) h1A (h1 h0) h1R ((ah xs x).2.2.2.2.length-1);have hR:=Fq (lv:=(ah xs y).2.1) h1R ((ah xs x).2.2.2.2.length-1);have h2:∀{p},ak xs p→ak (oH (ah xs y).2.1 (bG xs y (ah xs x).2.2.1).length (bG xs y (ah xs x).2.2.1) ((ah xs x).2.2.2.2.length-1)) p:=fun h=>Cv (h1 h) _
   have hxi:∀i:Nat,i<((ah xs x).2.2.2.2.length-1)→ak (oH (ah xs y).2.1 (bG xs y (ah xs x).2.2.1).length (bG xs y (ah xs x).2.2.1) ((ah xs x).2.2.2.2.length-1)) (x,((i:Nat):Int)+1)∧ak (oH (ah xs y).2.1 (bG xs y (ah xs x).2.2.1).length (bG xs y (ah xs x).2.2.1) ((ah xs x).2.2.2.2.length-1)) ((((bG xs y (ah xs x).2.2.1).length+i:Nat):Int),1):=fun i hi=>
    ⟨h2 ⟨hx0.1,hx0.2,by omega,by show((i:Nat):Int)+1<((ah xs x).2.2.2.2.length:Nat);omega⟩,yM (by decide) (by decide) hi⟩
   rw[h1l]at h2A h2 hxi hR;exact(BK h2A _ hxi).move (mK (h2 j1) _) (mK hR _)
 ·obtain⟨v0,v1⟩:=h7 rfl;show bO (jJ bk xs x y);unfold jJ mF;have hw:=hb.wi _ v0 v1;have r0:=hb.r0 _ v0 v1;have r1:=hb.r1 _ v0 v1;generalize bJ bk (ah xs x).2.2.1=t at*;generalize (ah xs x).2.1=lv;generalize hbb:(xs.length:Int)-1=b;have hb':b=(xs.length:Int)-1:=hbb.symm;have hws:gK (fun p=>ak (bU lv t) p) (bU lv t):=hw.shift;have r0s:ak (bU lv t) (0,0):=ak.gT.2 r0;have r1s:∀p,ak (bU lv t) p→p.1=0→p=(0,0):=fun p hp e=>r1 p (ak.gT.1 hp) e
  generalize bU lv t=T at*;obtain⟨q1,q2,q3,q4⟩:=hws (0,0) r0s
  have rpos:1≤(ay T (0,0)).1:=by
   have h1:0≤(ay T (0,0)).1:=q2.1
   by_cases e:(ay T (0,0)).1=0
   ·exact absurd (r1s _ q2 e) q4
   ·omega
  have hR:ak (xs++(T.drop 1).map (bQ b)) ((ay T (0,0)).1+b,(ay T (0,0)).2):=(ak.jC hb').2 (.inr ⟨by show(xs.length:Int)≤(ay T (0,0)).1+b;omega,by
   rw[show(((ay T (0,0)).1+b,(ay T (0,0)).2):aC).1-b=(ay T (0,0)).1 by show(ay T (0,0)).1+b-b=_;omega];exact q2⟩)
  have hY:ak xs (y,0):=⟨hy0.1,hy0.2,Int.le_refl 0,by show(0:Int)<((ah xs y).2.2.2.2.length:Nat);omega⟩;refine bO.ZN (fun r hr n1 n2=> ?_) hY.app hR;rcases(ak.jC hb').1 hr with q|⟨q,qt⟩
  ·rw[jD (Di q)];exact(hA r q).app
  ·rw[sF hb' q qt];obtain⟨s1,s2,s3,s4⟩:=hws _ qt
   by_cases e:(ay T (r.1-b,r.2)).1=0
   ·exfalso;have e2:=r1s _ s2 e;rw[e2]at s3;apply n2;rw[s3];exact dS (by show r.1=r.1-b+b;omega) rfl
   ·have s20:0≤(ay T (r.1-b,r.2)).1:=s2.1;refine(ak.jC hb').2 (.inr ⟨by show(xs.length:Int)≤(ay T (r.1-b,r.2)).1+b;omega,?_⟩);rw[show(((ay T (r.1-b,r.2)).1+b,(ay T (r.1-b,r.2)).2):aC).1-b=(ay T (r.1-b,r.2)).1 by show(ay T (r.1-b,r.2)).1+b-b=_;omega];exact s2
end
end Go.Tr
namespace Go.Tr
open Go Go.RowKit
abbrev Gone(kv:List (Int×Bool)):Int→Prop:=fun i=>cZ false kv i=true
theorem jW(kv:List (Int×Bool))(ks:List Int)(i:Int):Gone (gy kv ks) i↔Gone kv i∨i∈ks:=by
 unfold gy Gone
 induction ks generalizing kv with
 |nil=>simp
 |cons k ks ih=>
  rw[List.foldl_cons,ih,xq,List.mem_cons]
  by_cases h:k=i
  ·rw[if_pos h];simp[h]
  ·rw[if_neg h];constructor
   ·rintro(h1|h1)
    ·exact .inl h1
    ·exact .inr (.inr h1)
   ·rintro(h1|h1|h1)
    ·exact .inl h1
    ·exact absurd h1.symm h
    ·exact .inr h1
theorem Zag{kv:List (Int×Bool)}(hT:∀e∈kv,e.2=true)(ks:List Int):∀e∈gy kv ks,e.2=true:=by
 unfold gy
 induction ks generalizing kv with
 |nil=>exact hT
 |cons k ks ih=>rw[List.foldl_cons];exact ih (Il hT k)
structure BkV(bk:List (List aj)):Prop extends BkW bk where
 rt:∀v:Int,0≤v→v<(bk.length:Nat)→∀i:Int,0<i→i<((bJ bk v).length:Nat)→(ah (bJ bk v) i).1≠1
structure Twin(kv:List (Int×Bool))(xs ys:List aj):Prop where
 st:St (Gone kv) xs ys
 wf:QK (Gone kv) xs
 dl:∀i,Gone kv i→0≤i∧i<(xs.length:Nat)
 hole:∀i,Gone kv i→Jc i ys
 r1:(ah xs 0).1=1
 r0:¬Gone kv 0
 rl:0<xs.length
 uq:∀i:Int,0<i→i<(xs.length:Nat)→¬Gone kv i→(ah xs i).1≠1
 kt:∀e∈kv,e.2=true
 kl:kv.length=nD kv xs.length
 al:bO xs
section
variable {kv:List (Int×Bool)}{xs ys:List aj}{a b x y c:Int}{bk:List (List aj)}
theorem Twin.len(h:Twin kv xs ys):xs.length=ys.length:=h.st.ag.1
theorem Twin.at_(h:Twin kv xs ys){i:Int}(h0:0≤i)(h1:i<(xs.length:Nat))(hd:¬Gone kv i):ah ys i=ah xs i:=(h.st.ag.2 i h0 h1 hd).symm
theorem Twin.p0(h:Twin kv xs ys):ak xs (0,0):=by
 have w:=h.wf 0 (Int.le_refl 0) (by have:=h.rl;omega) h.r0;have:=(eF w).2.2.2;exact⟨Int.le_refl 0,by have:=h.rl;show(0:Int)<_;omega,Int.le_refl 0,by show(0:Int)<((ah xs 0).2.2.2.2.length:Nat);omega⟩
theorem Twin.p0y(h:Twin kv xs ys):ak ys (0,0):=(h.st.ag.port h.p0 h.r0).1
theorem Twin.Zf(h:Twin kv xs ys):bO ys:=fun p hp=>by
 by_cases hd:Gone kv p.1
 ·have e:=(h.hole _ hd).2;obtain⟨_,_,h3,h4⟩:=hp;rw[e]at h4;have:p.2<((0:Nat):Int):=h4;omega
 ·have hpx:ak xs p:=by
   obtain⟨h1,h2,h3,h4⟩:=hp;rw[←h.len]at h2;rw[h.at_ h1 h2 hd]at h4;exact⟨h1,h2,h3,h4⟩
  obtain⟨_,k2,_,_⟩:=h.st.wi p ⟨hpx,hd⟩;rw[(h.st.ag.port hpx hd).2];exact(h.st.ag.port k2.1 k2.2).1
theorem Twin.live(h:Twin kv xs ys):eU ys ys.length+kv.length=xs.length:=by
 rw[h.kl,h.len];refine J3 _ fun i hi=> ?_
 constructor
 ·intro e;cases hk:cZ false kv (i:Nat)with
  |true=>rfl
  |false=>
   have hd:¬Gone kv (i:Nat):=fun e=>by
    have e':cZ false kv (i:Nat)=true:=e;rw[hk]at e';cases e'
   have hl:=h.len;have w:=zI (h.wf (i:Nat) (by omega) (by omega) hd);rw[h.at_ (by omega) (by omega) hd]at e;omega
 ·intro e;rw[(h.hole _ e).2];rfl
theorem iM.symm{D:Int→Prop}(k:iM D xs a b)(h:St D xs ys):iM D xs b a:=by
 obtain⟨_,_,h3,_⟩:=h.wi (a,0) ⟨k.px,k.lx⟩;rw[k.w]at h3;exact⟨k.ne.symm,k.ly,k.lx,k.py,k.px,h3⟩
theorem iM.first{D:Int→Prop}(k:iM D xs a b)(h:St D xs ys):iM D xs (au xs a b).1 (au xs a b).2:=by
 unfold au;cases aQ (ah xs a).1 (ah xs a).2.1 (ah xs b).1 (ah xs b).2.1==2
 ·exact k
 ·exact k.symm h
theorem jc{u:aj}(w:Wf u):0<u.2.2.2.2.length∧u.2.2.2.2.length≤4:=by
 have k:=zI w;obtain⟨x1,x2,x3,x4⟩:=jw w;refine⟨(eF w).2.2.2,?_⟩
 by_cases h9:u.1=9
 ·exact(x4 h9).2
 ·by_cases h1:u.1=1∨u.1=5∨u.1=6∨u.1=12
  ·rw[x1 h1];decide
  ·by_cases h2:u.1=8∨u.1=10∨u.1=11
   ·rw[x2 h2];decide
   ·rw[x3 (by omega)];decide
theorem N7(wx:Wf (ah xs x))(wy:Wf (ah xs y))(hx:0≤x∧x<(xs.length:Nat))(hy:0≤y∧y<(xs.length:Nat))(hr:rule (ah xs x).1 (ah xs x).2.1 (ah xs y).1 (ah xs y).2.1=c)(hc:1≤c∧c≤7)
  (h6:(ah xs x).1=9→(ah xs y).1=10→(ah xs x).2.2.1<((ah xs y).2.2.2.1.length:Nat)):Le xs c x y:=by
 obtain⟨r1,r2,r3,r4,r5,r6,r7⟩:=fF hr (by omega);obtain⟨x1,x2,x3,x4⟩:=jw wx;obtain⟨y1,y2,y3,y4⟩:=jw wy;have sx:=jc wx;have sy:=jc wy;have inx:∀s:Int,0≤s→s<((ah xs x).2.2.2.2.length:Nat)→ak xs (x,s):=fun s h0 h1=>⟨hx.1,hx.2,h0,h1⟩
 have iny:∀s:Int,0≤s→s<((ah xs y).2.2.2.2.length:Nat)→ak xs (y,s):=fun s h0 h1=>⟨hy.1,hy.2,h0,h1⟩
 refine⟨⟨hx,hy,fun e=> ?_,fun e=> ?_,by omega,by omega,by have:=wf_data wy;omega,fun e=> ?_,fun e=> ?_⟩,fun e=>(r5 e).2,fun e=> ?_⟩
 ·have kx:(ah xs x).2.2.2.2.length=3:=x3 (by rcases e with e|e;(have:=r1 e;omega);(have:=r2 e;omega));have ky:(ah xs y).2.2.2.2.length=3:=y3 (by rcases e with e|e;(have:=r1 e;omega);(have:=r2 e;omega));exact⟨inx 1 (by decide) (by omega),inx 2 (by decide) (by omega),iny 1 (by decide) (by omega),iny 2 (by decide) (by omega)⟩
 ·have kx:(ah xs x).2.2.2.2.length=3:=x3 (by have:=r3 e;omega);exact⟨inx 1 (by decide) (by omega),inx 2 (by decide) (by omega)⟩
 ·obtain⟨a1,a2⟩:=r5 e;refine⟨?_,fun k7=> ?_,fun k7=> ?_⟩
  ·rcases a2 with q|q
   ·exact iny 1 (by decide) (by rw[y3 (by omega)];decide)
   ·exact iny 1 (by decide) (by rw[y2 (by omega)];decide)
  ·exact iny 2 (by decide) (by rw[y3 (by omega)];decide)
  ·have:=(UH wy (by omega)).1;omega
 ·refine⟨?_,fun k6=> ?_,fun k6=> ?_⟩
  ·exact iny 1 (by decide) (by rw[y2 (by have:=r6 e;omega)];decide)
  ·exact(Eu wy (by have:=r6 e;omega)).1
  ·have q:=r6 e;have k9:(ah xs x).1=9:=by omega
   exact⟨(Es wx k9).1,h6 k9 (by omega)⟩
 ·have q:=r6 e;refine⟨fun k=>(Eu wy k).1,fun k=> ?_⟩;have k9:(ah xs x).1=9:=by omega
  exact⟨(Es wx k9).1,h6 k9 (by omega),k9⟩
theorem uN(h:eZ (ah xs x) (ah xs y)=false):(ah xs x).1=9→(ah xs y).1=10→(ah xs x).2.2.1<((ah xs y).2.2.2.1.length:Nat):=fun h9 h10=>by
 unfold eZ at h;rw[show((ah xs x).1==9)=true by simpa using h9,show((ah xs y).1==10)=true by simpa using h10]at h;simp only[qG,qP]at h;omega
theorem Qg(hy:(ah xs y).1≠1)(hc:1≤c∧c≤7)(hb:BkV bk)(h7:c=7→(0≤(ah xs x).2.2.1∧(ah xs x).2.2.1<(bk.length:Nat))):∀z∈lu bk xs c x y,z.1≠1:=by
 have hcs:c=1∨c=2∨c=3∨c=4∨c=5∨c=6∨c=7:=by omega
 intro z hz;rcases hcs with rfl|rfl|rfl|rfl|rfl|rfl|rfl
 ·cases hz
 ·cases hz
 ·have hz':z∈[lg xs y]++[lg xs y]++List.replicate ((ah xs y).2.2.2.2.length-1) (aX 4 (ah xs x).2.1 0 [] 3):=hz;rw[qT,qT,qX]at hz';rcases hz' with(e|e)|e
  ·rw[e];exact hy
  ·rw[e];exact hy
  ·rw[List.eq_of_mem_replicate e];intro k;cases k
 ·have hz':z∈List.replicate ((ah xs y).2.2.2.2.length-1) (aX 5 0 0 [] 1):=hz;rw[List.eq_of_mem_replicate hz'];intro k;cases k
 ·have hz':z∈(bif (ah xs y).1==7 then[aX 8 (ah xs y).2.1 (ah xs y).2.2.1 [(ah xs x).2.2.1] 2]else[aX 6 0 (vJ (ah xs y).2.2.1 (jN (ah xs y).2.2.2.1 0) (ah xs x).2.2.1) [] 1]):=hz;cases hk:(ah xs y).1==7 with
  |true=>rw[hk,qG,qX]at hz';rw[hz'];intro k;cases k
  |false=>rw[hk,qH,qX]at hz';rw[hz'];intro k;cases k
 ·have hz':z∈(bif (ah xs x).1==6 then[aX 12 (ah xs y).2.1 (jN (ah xs y).2.2.2.1 (bif (ah xs x).2.2.1==0 then 1 else 0)) [] 1]
   else[aX 12 (ah xs y).2.1 (jN (ah xs y).2.2.2.1 (ah xs x).2.2.1) [] 1]++List.replicate ((ah xs x).2.2.2.2.length-1) (aX 3 (ah xs y).2.1 0 [] 3)):=hz
  cases hk:(ah xs x).1==6 with
  |true=>rw[hk,qG,qX]at hz';rw[hz'];intro k;cases k
  |false=>
   rw[hk,qH,qT,qX]at hz';rcases hz' with e|e
   ·rw[e];intro k;cases k
   ·rw[List.eq_of_mem_replicate e];intro k;cases k
 ·obtain⟨v0,v1⟩:=h7 rfl;have hz':z∈((mF bk xs x).drop 1).map (bQ ((xs.length:Nat)-1)):=hz;obtain⟨w,hw,rfl⟩:=List.mem_map.1 hz';unfold mF bU at hw;rw[←List.map_drop]at hw;obtain⟨u,hu,rfl⟩:=List.mem_map.1 hw;obtain⟨i,hi,rfl⟩:=List.mem_iff_getElem.1 hu;have hrt:=hb.rt _ v0 v1;generalize bJ bk (ah xs x).2.2.1=t at*;rw[List.length_drop]at hi;rw[List.getElem_drop];have:=hrt ((1+i:Nat):Int) (by omega) (by omega);rw[tJ (by omega)]at this;show(jo _ t[1+i]).1≠1;unfold jo;cases bY (t[1+i]).kind
  ·exact this
  ·exact this
theorem Twin.next(h:Twin kv xs ys)(k:iM (Gone kv) xs x y)(hb:BkV bk)(rx:(ah xs x).1≠1)(ry:(ah xs y).1≠1)(hr:rule (ah xs x).1 (ah xs x).2.1 (ah xs y).1 (ah xs y).2.1=c)(hc:1≤c∧c≤7)(hcl:eZ (ah xs x) (ah xs y)=false)
  (h7:c=7→(ah xs x).2.2.1<(bk.length:Nat)∧eT (ah xs x).2.1 (bJ bk (ah xs x).2.2.1)=true):Le xs c x y∧Le ys c x y∧(c=7→0≤(ah xs x).2.2.1)∧Twin (gy kv (bR c x y)) (aV bk xs c x y) (dP bk ys c x y)∧(aV bk xs c x y).length=xs.length+(lu bk xs c x y).length:=by
 have hx:0≤x∧x<(xs.length:Nat):=⟨k.px.1,k.px.2.1⟩;have hy:0≤y∧y<(xs.length:Nat):=⟨k.py.1,k.py.2.1⟩;have wx:=h.wf x hx.1 hx.2 k.lx;have wy:=h.wf y hy.1 hy.2 k.ly;have sp:=N7 wx wy hx hy hr hc (uN hcl);have ex:=h.at_ hx.1 hx.2 k.lx;have ey:=h.at_ hy.1 hy.2 k.ly;have sy:Le ys c x y:=N7 (by rw[ex];exact wx) (by rw[ey];exact wy) (by rw[←h.len];exact hx) (by rw[←h.len];exact hy) (by rw[ex,ey];exact hr) hc (uN (by rw[ex,ey];exact hcl));have v0:c=7→0≤(ah xs x).2.2.1:=fun e=>(rP wx ((fF hr (by omega)).2.2.2.2.2.2 e).1).1
 have sg:=nM (bk:=bk) (xs:=xs) (x:=x) (y:=y) hc (by omega);have hln:(aV bk xs c x y).length=xs.length+(lu bk xs c x y).length:=by rw[sg.1,qA]
 have gr:∀i,Gone (gy kv (bR c x y)) i↔Gone kv i∨i∈bR c x y:=fun i=>jW kv _ i
 have ge:Gone (gy kv (bR c x y))=fun i=>Gone kv i∨i∈bR c x y:=funext fun i=>propext (gr i)
 have gxy:∀i,i∈bR c x y→i=x∨i=y:=fun i hi=>by
  unfold bR at hi;cases hq:c==7 with
  |true=>rw[hq,qG,qX]at hi;exact .inl hi
  |false=>rw[hq,qH]at hi;simpa using hi
 have nx:x≠0:=fun e=>rx (by rw[e];exact h.r1)
 have ny:y≠0:=fun e=>ry (by rw[e];exact h.r1)
 have ksig:∀i:Int,0≤i→i<(xs.length:Nat)→(ah (aV bk xs c x y) i).1=(ah xs i).1:=fun i i0 i1=>by
  have:=sg.2 i i0 (by rw[hln];omega);rw[bZ (by omega)]at this;exact congrArg (fun s:Int×Int×Int×List Int×Nat=>s.1) this
 refine⟨sp,sy,v0,?_,hln⟩;refine⟨?_,?_,?_,?_,?_,?_,by omega,?_,Zag h.kt _,?_,VK sp.toIntPre h.al h.p0 hc hb.toBkW fun e=>⟨v0 e,(h7 e).1⟩⟩
 ·rw[ge];exact Sj h.st k (fun i hi=>(h.dl i hi).2) h.wf hr hc hb.toBkW fun e=>(h7 e).1
 ·rw[ge];exact Sk h.wf hx hy k.lx k.ly hr hc hb.toBkW (fun e e9=>by
   have q:=(fF hr (by omega)).2.2.2.2.2.1 e;exact uN hcl e9 (by omega)) h7
 ·intro i hi;rcases(gr i).1 hi with e|e
  ·have:=h.dl i e;omega
  ·rcases gxy i e with e|e<;>omega
 ·intro i hi;unfold dP;have hl:=h.len;have hle:=FQ (xs:=ys) bk c x y;have n1:Jc x (bn (jX bk ys c x y) x):=Jc.new hx.1 (by omega);have n2:Jc y (bn (bn (jX bk ys c x y) x) y):=Jc.new hy.1 (by rw[iK];omega);rcases(gr i).1 hi with e|e
  ·have q:=(h.hole i e).inter bk c x y;cases c==7
   ·exact(q.drop x).drop y
   ·exact q.drop x
  ·unfold bR at e;cases hq:c==7 with
   |true=>rw[hq,qG,qX]at e;rw[e];exact n1
   |false=>
    rw[hq,qH]at e;have e2:i=x∨i=y:=by simpa using e
    rcases e2 with e2|e2
    ·rw[e2];exact n1.drop y
    ·rw[e2];exact n2
 ·rw[ksig 0 (Int.le_refl 0) (by have:=h.rl;omega)];exact h.r1
 ·intro e;rcases(gr 0).1 e with e|e
  ·exact h.r0 e
  ·rcases gxy 0 e with e|e
   ·exact nx e.symm
   ·exact ny e.symm
 ·intro i i0 i1 hi;have hi2:¬Gone kv i:=fun e=>hi ((gr i).2 (.inl e))
  by_cases hl:i<(xs.length:Nat)
  ·rw[ksig i (by omega) hl];exact h.uq i i0 hl hi2
  ·have:=sg.2 i (by omega) i1;have hlt:i.toNat-xs.length<(lu bk xs c x y).length:=by omega
   have e:ah (xs++lu bk xs c x y) i=(lu bk xs c x y)[i.toNat-xs.length]:=by
    unfold ah elt;rw[qC,qL (by omega),qB hlt];rfl
   rw[e]at this;have k1:(ah (aV bk xs c x y) i).1=((lu bk xs c x y)[i.toNat-xs.length]).1:=congrArg (fun s:Int×Int×Int×List Int×Nat=>s.1) this;rw[k1];exact Qg ry hc hb (fun e=>⟨v0 e,(h7 e).1⟩) _ (List.getElem_mem hlt)
 ·have gf:∀{kv:List (Int×Bool)} {i:Int},¬Gone kv i→cZ false kv i=false:=fun {kv i} hi=>by
   cases hq:cZ false kv i with
   |true=>exact absurd hq hi
   |false=>rfl
  have c1:nD (fH kv x true) xs.length=nD kv xs.length+1:=by rw[zV hx.1 (gf k.lx),if_pos hx.2]
  have l1:(fH kv x true).length=kv.length+1:=tV h.kt (gf k.lx);have y1:cZ false (fH kv x true) y=false:=by rw[xq,if_neg k.ne];exact gf k.ly
  have c2:nD (fH (fH kv x true) y true) xs.length=nD kv xs.length+2:=by rw[zV hy.1 y1,if_pos hy.2,c1]
  have l2:(fH (fH kv x true) y true).length=kv.length+2:=by rw[tV (Il h.kt x) y1,l1]
  have hn:∀i:Int,(xs.length:Int)≤i→cZ false (gy kv (bR c x y)) i=false:=fun i hi=>gf fun e=>by
   rcases(gr i).1 e with e|e
   ·have:=h.dl i e;omega
   ·rcases gxy i e with e|e<;>omega
  rw[hln,zU hn];have hk:=h.kl;unfold bR;cases c==7
  ·show(fH (fH kv x true) y true).length=nD (fH (fH kv x true) y true) xs.length;omega
  ·show(fH kv x true).length=nD (fH kv x true) xs.length;omega
end
end Go.Tr
namespace Go.Tr
open Go Go.RowKit
def Zt(us:List Value):El (hol 5):=(us.getD 0 undef,us.getD 1 undef,us.getD 2 undef,us.getD 3 undef,us.getD 4 undef)
def lG:Nat→List Value→List (El (hol 5))
 |0,_=>[]
 |n+1,us=>Zt us::lG n (us.drop 5)
theorem xw:∀(n:Nat) (us:List Value),(lG n us).length=n
 |0,_=>rfl
 |n+1,us=>by unfold lG;rw[qI,xw n]
theorem Az:∀(n:Nat) (us:List Value),us.length=n*5→(lG n us).flatMap (enc (hol 5))=us.map D.v
 |0,us,h=>by
  have:us=[]:=List.length_eq_zero_iff.1 (by omega);rw[this];rfl
 |n+1,us,h=>by
  match us,h with
  |a::b::c::d::e::us,h=>
   have ih:=Az n us (by simp only[qI]at h;omega);unfold lG;rw[qU];show _++(lG n us).flatMap (enc (hol 5))=_;rw[ih];rfl
  |[],h=>simp at h
  |[_],h=>simp at h;omega
  |[_,_],h=>simp at h;omega
  |[_,_,_],h=>simp at h;omega
  |[_,_,_,_],h=>simp at h;omega
theorem TN.Oi{w:World}:∀{vs us:List Value} {bs:List Nat},TN w (vs.map D.v) bs us→us=vs∧bs=[]
 |[],us,bs,h=>by obtain⟨rfl,rfl⟩:=TN.nil.1 h;exact⟨rfl,rfl⟩
 |v::vs,us,bs,h=>by
  rw[List.map_cons]at h;obtain⟨b1,b2,u,us',rfl,rfl,h1,h2⟩:=TN.cons.1 h;obtain⟨rfl,rfl,_⟩:=T1.v.1 h1;obtain⟨rfl,rfl⟩:=TN.Oi h2;exact⟨rfl,rfl⟩
theorem YZ{w:World}{x:Value}{ds:List D}{bs:List Nat}{us:List Value}(h:TN w (.v x::ds) bs us):∃us',us=x::us'∧TN w ds bs us':=by
 obtain⟨b1,b2,u,us',e1,e2,h1,h2⟩:=TN.cons.1 h;obtain⟨e3,e4,_⟩:=T1.v.1 h1;exact⟨us',by rw[e1,e3],by rw[e2,e4];exact h2⟩
theorem Zau{w:World}{d:D}{ds:List D}{bs:List Nat}{us:List Value}(h:TN w (d::ds) bs us):∃u us' b2,us=u::us'∧TN w ds b2 us':=by
 obtain⟨b1,b2,u,us',e1,e2,h1,h2⟩:=TN.cons.1 h;exact⟨u,us',b2,e1,h2⟩
section
variable {cx:Cx}{β:Nat→Value}{w:World}{R:List eB}
theorem Inv.Ym{g t n:Nat}{xs:List aj}{us:List Value}(h:Inv cx.w0 cx.F0 w (Tok.res cx β (.row g t 5 aF xs us)::R))(hl:us.length=xs.length*5):
  Inv cx.w0 cx.F0 w (Tok.res cx β (.row g t 5 (hol 5) (lG xs.length us) us)::Tok.res cx β (.nest n aF xs us)::R):=by
 refine Inv.part h fun F hp=> ?_
 obtain⟨hs,bs,us',rfl,hg,hpre⟩:=hp;have hul:us'.length=xs.length*5:=hg.row.1;have e:us=us':=hpre.eq_of_length (by omega);subst e;refine⟨yA (β g),bs,fun b hb=>by simp[hb],fun b hb=>by simp[hb],fun b hb=>hg.out b (jZ.1 hb),⟨rfl,[],us,by simp,?_,pR _⟩,⟨hg.tn,hg.own⟩⟩;refine⟨?_,?_,Own.nil _ _,by simp⟩
 ·have:=hg.row;show World.ownsRow w 0 t 5 (β g) (lG xs.length us).length us;rw[xw];exact this
 ·show TN w ((lG xs.length us).flatMap (enc (hol 5))) [] us;rw[Az _ _ hl];exact TN.scalars hg.tn.Bw
def rY(ys:List aj)(us:List Value)(j:Nat):El (hol 5):=(.int .i64 (ah ys (j:Nat)).1,.int .i64 (ah ys (j:Nat)).2.1,.int .i64 (ah ys (j:Nat)).2.2.1,us.getD (j*5+3) undef,us.getD (j*5+4) undef)
theorem zS:∀{ys:List aj} {us:List Value} {bs:List Nat},TN w (ys.flatMap (enc aF)) bs us→us.length=ys.length*5∧((List.range ys.length).map (rY ys us)).flatMap (enc (hol 5))=us.map D.v
 |[],us,bs,h=>by obtain⟨rfl,rfl⟩:=TN.nil.1 h;exact⟨rfl,rfl⟩
 |y::ys,us,bs,h=>by
  rw[qU]at h;obtain⟨b1,b2,u1,u2,rfl,rfl,h1,h2⟩:=TN.append.1 h;have h1':TN w [.v (.int .i64 y.1),.v (.int .i64 y.2.1),.v (.int .i64 y.2.2.1),.sl y.2.2.2.1.length (List.flatMap (enc (.int .i64)) y.2.2.2.1),.sl y.2.2.2.2.length (List.flatMap (enc bf) y.2.2.2.2)] b1 u1:=h1;obtain⟨v1,rfl,k3⟩:=YZ h1';obtain⟨v2,rfl,k4⟩:=YZ k3;obtain⟨v3,rfl,k5⟩:=YZ k4;obtain⟨a4,v4,b4,rfl,k6⟩:=Zau k5;obtain⟨a5,v5,b5,rfl,k7⟩:=Zau k6;obtain⟨rfl,rfl⟩:=TN.nil.1 k7;obtain⟨k1,k2⟩:=zS h2;refine⟨by simp only[qA,qI,qR];omega,?_⟩
  rw[qI,List.range_succ_eq_map,List.map_cons,qU,List.map_map]
  have e:(List.range ys.length).map (rY (y::ys) ([.int .i64 y.1,.int .i64 y.2.1,.int .i64 y.2.2.1,a4,a5]++u2)∘Nat.succ)=(List.range ys.length).map (rY ys u2):=List.map_congr_left fun j _=>by
   have e1:ah (y::ys) ((j.succ:Nat):Int)=ah ys (j:Nat):=by unfold ah elt;rw[qK,qK];rfl
   have e2:∀o:Nat,([.int .i64 y.1,.int .i64 y.2.1,.int .i64 y.2.2.1,a4,a5]++u2:List Value).getD (j.succ*5+o) undef=u2.getD (j*5+o) undef:=fun o=>by
    rw[qC,qL (by simp only[qI,qR];omega),qC];simp only[qI,qR];rw[show j.succ*5+o-(0+1+1+1+1+1)=j*5+o by omega]
   simp only[Function.comp,rY];rw[e1,e2,e2]
  have e':(List.range ys.length).map (rY (y::ys) (Value.int .i64 y.1::Value.int .i64 y.2.1::Value.int .i64 y.2.2.1::a4::a5::[]++u2)∘Nat.succ)=(List.range ys.length).map (rY ys u2):=e;rw[e',k2,qZ];rfl
theorem Inv.merge{gA gB t t' n:Nat}{xs ys:List aj}{usA usB preA:List Value}{hs:List (El (hol 5))}(h:Inv cx.w0 cx.F0 w (Tok.res cx β (.row gA t 5 (hol 5) (lG xs.length usA++hs) preA)::Tok.res cx β (.nest n aF xs usA)::Tok.res cx β (.row gB t' 5 aF ys usB)::R))
  (hlA:usA.length=xs.length*5) (hlB:usB.length=ys.length*5) (h0:0<ys.length) (hh:hs=(List.range (ys.length-1)).map fun j=>rY ys usB (j+1)):
  Inv cx.w0 cx.F0 w (Tok.res cx β (.row gA t 5 aF (xs++ys.drop 1) usA)::R):=by
 have hB:=h.perm ((List.Perm.cons _ (List.Perm.swap _ _ _)).trans (List.Perm.swap _ _ _));obtain⟨F,hp,k,_⟩:=hB.take1;obtain⟨_,bs,us',rfl,hg,hpre⟩:=hp;have hul:us'.length=ys.length*5:=hg.row.1;have e:usB=us':=hpre.eq_of_length (by omega);subst e
 match ys,h0,hg,hh,hlB with
 |y::ys,h0,hg,hh,hlB=>
  have htn:TN w ((y::ys).flatMap (enc aF)) bs usB:=hg.tn;obtain⟨q1,q2⟩:=zS htn;rw[qU]at htn;obtain⟨b1,b2,u1,u2,rfl,rfl,h1,h2⟩:=TN.append.1 htn
  have hu1:u1.length=5:=by
   have:=(zS h2).1;rw[qA]at q1;simp only[qI]at q1;omega
  have hcell:hs.flatMap (enc (hol 5))=u2.map D.v:=by
   rw[qI,List.range_succ_eq_map,List.map_cons,qU,List.map_map,qZ]at q2;have l1:(enc (hol 5) (rY (y::ys) (u1++u2) 0)).length=(u1.map D.v).length:=by rw[qV,hu1];rfl
   have:=(List.append_inj q2 l1).2;rw[hh];exact this
  have hN:Inv cx.w0 cx.F0 w (dV u2 (ys.flatMap (enc aF))::Tok.res cx β (.row gA t 5 (hol 5) (lG xs.length usA++hs) preA)::Tok.res cx β (.nest n aF xs usA)::R):=k _ b2 (fun b hb=>by simp[hb]) ⟨h2,(Own.parts hg.own).2.1⟩
  have hM:Inv cx.w0 cx.F0 w (dV (usA++u2) (xs.flatMap (enc aF)++ys.flatMap (enc aF))::Tok.res cx β (.row gA t 5 (hol 5) (lG xs.length usA++hs) preA)::R):=by
   have:Inv cx.w0 cx.F0 w (dV usA (xs.flatMap (enc aF))::dV u2 (ys.flatMap (enc aF))::Tok.res cx β (.row gA t 5 (hol 5) (lG xs.length usA++hs) preA)::R):=hN.perm (by
    refine(List.Perm.cons _ (List.Perm.swap _ _ _)).trans (List.Perm.swap _ _ _))
   exact this.oJ
  refine hM.swap.join fun F1 F2 hp1 hp2 hd=> ?_
  obtain⟨_,bA,uA,rfl,gA',_⟩:=hp1;have hAtn:TN w ((lG xs.length usA++hs).flatMap (enc (hol 5))) bA uA:=gA'.tn;rw[List.flatMap_append,Az _ _ hlA,hcell,←qZ]at hAtn;obtain⟨rfl,rfl⟩:=TN.Oi hAtn;have hhl:hs.length=ys.length:=by rw[hh,qV,List.length_range];rfl
  refine⟨yA (β gA)++F2,fun b hb=>by
   rcases qT.1 hb with hb|hb
   ·exact .inl (by simp[hb])
   ·exact .inr hb,⟨rfl,F2,usA++u2,rfl,⟨?_,?_,hp2.2,fun k hk hm=>hd k (by simp[jZ.2 hk]) hm⟩,List.prefix_append _ _⟩⟩
  ·have:=gA'.row;show World.ownsRow w 0 t 5 (β gA) (xs++ys).length (usA++u2);rw[show(lG xs.length usA++hs).length=(xs++ys).length by rw[qA,xw,hhl,qA]]at this;exact this
  ·have:=hp2.1;rw[←List.flatMap_append]at this;exact this
end
end Go.Tr
namespace Go.Tr
open Go Go.RowKit
def sZ(b:Int)(t:List aj):Nat→List aj
 |0=>t
 |k+1=>(sZ b t k).set (1+k) (bQ b (ah t ((1+k:Nat):Int)))
def Qd(b:Int)(a:aj)(j:Nat):aj:=(a.1,a.2.1,a.2.2.1,a.2.2.2.1,gW b a.2.2.2.2 j)
def Dp(b:Int)(t:List aj)(k j:Nat):List aj:=(sZ b t k).set (1+k) (Qd b (ah t ((1+k:Nat):Int)) j)
section
variable {b:Int}{t:List aj}
theorem sw:∀k,(sZ b t k).length=t.length
 |0=>rfl
 |k+1=>by unfold sZ;rw[List.length_set,sw k]
theorem Ob(k j:Nat):(Dp b t k j).length=t.length:=by unfold Dp;rw[List.length_set,sw k]
theorem zm:∀(k i:Nat),(sZ b t k)[i]? =if 1≤i∧i≤k then(t[i]?).map (bQ b)else t[i]?
 |0,i=>by rw[if_neg (by omega)];rfl
 |k+1,i=>by
  unfold sZ;rw[List.getElem?_set,sw,zm k i]
  by_cases h:1+k=i
  ·subst h;rw[if_pos (rfl:1+k=1+k)]
   by_cases h2:1+k<t.length
   ·rw[if_pos h2,if_pos (by omega:1≤1+k∧1+k≤k+1),qB h2];show _=some (bQ b _)
    congr 2
    unfold ah elt;rw[qK,qC,qB h2];rfl
   ·rw[if_neg h2,if_pos (by omega:1≤1+k∧1+k≤k+1),List.getElem?_eq_none (by omega)];rfl
  ·rw[if_neg h]
   by_cases h2:1≤i∧i≤k
   ·rw[if_pos h2,if_pos (by omega)]
   ·rw[if_neg h2,if_neg (by omega)]
theorem yG(xs:List aj)(i:Nat):ah xs (i:Nat)=(xs[i]?).getD (dflt aF):=by
 unfold ah elt;rw[qK,qC]
theorem Yt{k i:Nat}(h:k<i):ah (sZ b t k) (i:Nat)=ah t (i:Nat):=by
 rw[yG,yG,zm,if_neg (by omega)]
theorem SN(k i:Nat):(ah (sZ b t k) (i:Nat)).1=(ah t (i:Nat)).1∧(ah (sZ b t k) (i:Nat)).2.1=(ah t (i:Nat)).2.1∧(ah (sZ b t k) (i:Nat)).2.2.1=(ah t (i:Nat)).2.2.1:=by
 rw[yG,yG,zm];split
 ·cases t[i]? <;>exact⟨rfl,rfl,rfl⟩
 ·exact⟨rfl,rfl,rfl⟩
theorem Qe(k:Nat)(us:List Value)(i:Nat):rY (sZ b t k) us i=rY t us i:=by
 obtain⟨h1,h2,h3⟩:=SN (b:=b) (t:=t) k i;unfold rY;rw[h1,h2,h3]
theorem SH{k j:Nat}(h:1+k<t.length):ah (Dp b t k j) ((1+k:Nat):Int)=Qd b (ah t ((1+k:Nat):Int)) j:=by
 unfold Dp;rw[kY,if_pos ⟨by rw[qK],by rw[sw];exact h⟩]
theorem SK(k:Nat):Dp b t k 0=sZ b t k:=by
 unfold Dp;apply List.ext_getElem?;intro i;rw[List.getElem?_set,sw]
 by_cases h:1+k=i
 ·subst h;rw[if_pos (rfl:1+k=1+k),zm,if_neg (by omega:¬(1≤1+k∧1+k≤k))]
  by_cases h2:1+k<t.length
  ·rw[if_pos h2,qB h2]
   congr 1
   rw[yG,qB h2];unfold Qd gW;simp
  ·rw[if_neg h2,List.getElem?_eq_none (by omega)]
 ·rw[if_neg h]
theorem VU(k:Nat):Dp b t k (ah t ((1+k:Nat):Int)).2.2.2.2.length=sZ b t (k+1):=by
 show(sZ b t k).set (1+k) (Qd b (ah t ((1+k:Nat):Int)) (ah t ((1+k:Nat):Int)).2.2.2.2.length)=(sZ b t k).set (1+k) (bQ b (ah t ((1+k:Nat):Int)))
 congr 1
 unfold Qd bQ;rw[Am]
theorem SI{k j:Nat}(h:1+k<t.length)(hj:j<(ah t ((1+k:Nat):Int)).2.2.2.2.length){z:Int}(hz:z=(elt (dflt bf) (ah t ((1+k:Nat):Int)).2.2.2.2 (j:Nat)).1+b):
  (Dp b t k j).set (1+k) ((ah (Dp b t k j) ((1+k:Nat):Int)).1,(ah (Dp b t k j) ((1+k:Nat):Int)).2.1,(ah (Dp b t k j) ((1+k:Nat):Int)).2.2.1,(ah (Dp b t k j) ((1+k:Nat):Int)).2.2.2.1,(ah (Dp b t k j) ((1+k:Nat):Int)).2.2.2.2.set j (z,(elt (dflt bf) (ah (Dp b t k j) ((1+k:Nat):Int)).2.2.2.2 (j:Nat)).2))=Dp b t k (j+1):=by
 rw[SH h];unfold Dp;rw[List.set_set]
 congr 1
 unfold Qd;rw[yj hj,zl hj,hz]
theorem Yr{k j:Nat}(h:1+k<t.length)(hj:j<(ah t ((1+k:Nat):Int)).2.2.2.2.length):elt (dflt bf) (ah (Dp b t k j) ((1+k:Nat):Int)).2.2.2.2 (j:Nat)=elt (dflt bf) (ah t ((1+k:Nat):Int)).2.2.2.2 (j:Nat):=by
 rw[SH h];exact zl hj
theorem SQ:(sZ b t (t.length-1)).drop 1=(t.drop 1).map (bQ b):=by
 apply List.ext_getElem?;intro i;rw[List.getElem?_drop,qY,List.getElem?_drop,zm]
 by_cases h:1+i<t.length
 ·rw[if_pos (by omega)]
 ·rw[List.getElem?_eq_none (by omega:t.length≤1+i)];split<;>rfl
def LP(t:List aj)(us:List Value)(k:Nat):List (El (hol 5)):=(List.range k).map fun j=>rY t us (j+1)
theorem RD(us:List Value)(k:Nat):LP t us (k+1)=LP t us k++[rY t us (1+k)]:=by
 unfold LP;rw[List.range_succ,qZ,Nat.add_comm 1 k];rfl
theorem Vy(us:List Value)(k:Nat):(LP t us k).length=k:=by unfold LP;simp
theorem Vx{us:List Value}(k:Nat):LP t us k=(List.range k).map fun j=>rY (sZ b t k) us (j+1):=by
 unfold LP;exact List.map_congr_left fun j _=>(Qe _ _ _).symm
end
end Go.Tr
namespace Go.Tr
open Go Go.RowKit
structure BF(bk:List (List aj)):Prop extends BkV bk where
 tl:∀v:Int,0≤v→v<(bk.length:Nat)→(bJ bk v).length≤600
 bl:bk.length≤1000
section
variable {bk:List (List aj)}
theorem Jm{v:Int}(h:¬(0≤v∧v<(bk.length:Nat)))(h0:0≤v):bJ bk v=[]:=by
 unfold bJ elt;rw[qC,List.getElem?_eq_none (by omega)];rfl
theorem vN{xs:List aj}{i:Nat}(h:xs.length≤i):ah xs (i:Nat)=dflt aF:=by
 unfold ah elt;rw[qC,qK,List.getElem?_eq_none h];rfl
theorem BF.len(h:BF bk)(v:Nat):(bJ bk (v:Nat)).length≤600:=by
 by_cases hv:0≤((v:Nat):Int)∧((v:Nat):Int)<(bk.length:Nat)
 ·exact h.tl _ hv.1 hv.2
 ·rw[Jm hv (by omega)];decide
theorem BF.ag(h:BF bk)(v j:Nat):(0≤(ah (bJ bk (v:Nat)) (j:Nat)).2.1∧(ah (bJ bk (v:Nat)) (j:Nat)).2.1≤8)∧(ah (bJ bk (v:Nat)) (j:Nat)).2.2.2.1.length≤4∧(ah (bJ bk (v:Nat)) (j:Nat)).2.2.2.2.length≤4:=by
 by_cases hv:0≤((v:Nat):Int)∧((v:Nat):Int)<(bk.length:Nat)
 ·by_cases hj:j<(bJ bk (v:Nat)).length
  ·have w:=h.wf _ hv.1 hv.2 (j:Nat) (by omega) (by omega);have h1:=wQ w;exact⟨by omega,wf_data w,(jc w).2⟩
  ·rw[vN (by omega)];decide
 ·rw[Jm hv (by omega),vN (Nat.zero_le _)];decide
theorem BF.small(h:BF bk)(v:Nat):dO (bJ bk (v:Nat)):=by
 refine⟨by have:=h.len v;omega,fun i=> ?_⟩;have:=(h.ag v i).2;exact⟨by show(ah (bJ bk (v:Nat)) (i:Nat)).2.2.2.1.length≤1048576;omega,by show(ah (bJ bk (v:Nat)) (i:Nat)).2.2.2.2.length≤1048576;omega⟩
theorem BF.ok(h:BF bk):Gz bk:=fun v j=>(h.ag v j).1
theorem TQ{t:List aj}(hw:gK (fun p=>ak t p) t)(hl:t.length≤600)(i j:Nat):zN (elt (dflt bf) (ah t (i:Nat)).2.2.2.2 (j:Nat)).1:=by
 by_cases hi:i<t.length
 ·by_cases hj:j<(ah t (i:Nat)).2.2.2.2.length
  ·obtain⟨_,h2,_⟩:=hw ((i:Nat),(j:Nat)) ⟨by show(0:Int)≤(i:Nat);omega,by show((i:Nat):Int)<(t.length:Nat);omega,by show(0:Int)≤(j:Nat);omega,by show((j:Nat):Int)<((ah t (i:Nat)).2.2.2.2.length:Nat);omega⟩;have h3:0≤(elt (dflt bf) (ah t (i:Nat)).2.2.2.2 (j:Nat)).1:=h2.1;have h4:(elt (dflt bf) (ah t (i:Nat)).2.2.2.2 (j:Nat)).1<(t.length:Nat):=h2.2.1;have h5:((t.length:Nat):Int)≤1000000:=by omega
   exact⟨h3,Int.le_trans (Int.le_of_lt h4) h5⟩
  ·unfold elt;rw[qC,qK,List.getElem?_eq_none (by omega)];exact⟨by decide,by decide⟩
 ·rw[vN (by omega)];have e:elt (dflt bf) (dflt aF).2.2.2.2 ((j:Nat):Int)=(0,0):=rfl;rw[e];exact⟨by decide,by decide⟩
structure ExpF(t xs:List aj)(lv b:Int):Prop where
 two:2≤t.length
 r0:ak t (0,0)
 rs:ak (bU lv t) (0,0)
 top:ak (xs++((bU lv t).drop 1).map (bQ b)) ((ay (bU lv t) (0,0)).1+b,(ay (bU lv t) (0,0)).2)
 pe:ay (bU lv t) (0,0)=ay t (0,0)
 ex:om lv b t (t.length-1)=((bU lv t).drop 1).map (bQ b)
 bt:∀i j:Nat,zN (elt (dflt bf) (ah t (i:Nat)).2.2.2.2 (j:Nat)).1
 bs:∀i j:Nat,zN (elt (dflt bf) (ah (bU lv t) (i:Nat)).2.2.2.2 (j:Nat)).1
 ps:∀i:Nat,(ah (bU lv t) (i:Nat)).2.2.2.2.length≤1048576
theorem BF.exp(h:BF bk){v:Int}(v0:0≤v)(v1:v<(bk.length:Nat))(xs:List aj)(lv b:Int)(hb:b=(xs.length:Int)-1)(hx:0<xs.length):ExpF (bJ bk v) xs lv b:=by
 have hw:=h.wi _ v0 v1;have r0:=h.r0 _ v0 v1;have r1:=h.r1 _ v0 v1;have hl:=h.tl _ v0 v1
 have hps:∀i:Nat,(ah (bJ bk v) (i:Nat)).2.2.2.2.length≤4:=fun i=>by
  have:=(h.ag v.toNat i).2.2
  rwa[show((v.toNat:Nat):Int)=v by omega]at this
 generalize bJ bk v=t at*;have hws:gK (fun p=>ak (bU lv t) p) (bU lv t):=hw.shift;obtain⟨q1,q2,q3,q4⟩:=hw (0,0) r0
 have rpos:1≤(ay t (0,0)).1:=by
  have h1:0≤(ay t (0,0)).1:=q2.1
  by_cases e:(ay t (0,0)).1=0
  ·exact absurd (r1 _ q2 e) q4
  ·omega
 have ps:ay (bU lv t) (0,0)=ay t (0,0):=oD r0;refine⟨?_,r0,ak.gT.2 r0,?_,ps,?_,TQ hw hl,TQ hws (by rw[lS];exact hl),fun i=> ?_⟩
 ·have:=q2.2.1;omega
 ·rw[ps]
  exact(ak.jC hb).2 (.inr ⟨by show(xs.length:Int)≤(ay t (0,0)).1+b;omega,ak.gT.2 (by
   rw[show(((ay t (0,0)).1+b,(ay t (0,0)).2):aC).1-b=(ay t (0,0)).1 by show(ay t (0,0)).1+b-b=_;omega];exact q2)⟩)
 ·unfold om;rw[qN (by rw[List.length_drop,lS];omega)]
 ·by_cases hi:i<t.length
  ·rw[uK lv t (by omega) (by omega),show(jo lv (ah t (i:Nat))).2.2.2.2=(ah t (i:Nat)).2.2.2.2 from pJ _ _];have:=hps i;show(ah t (i:Nat)).2.2.2.2.length≤1048576;omega
  ·rw[vN (by rw[lS];omega)];decide
theorem qm(u v:aj):aS v u=aS u v:=by
 have h1:eZ v u=jH u v:=by
  unfold eZ jH;cases u.1==10<;>cases v.1==9<;>rfl
 have h2:jH v u=eZ u v:=by
  unfold eZ jH;cases u.1==9<;>cases v.1==10<;>rfl
 unfold aS;rw[h1,h2,sV];cases jH u v<;>cases eZ u v<;>rfl
theorem jl(xs:List aj)(a b:Int):aS (ah xs (au xs a b).1) (ah xs (au xs a b).2)=aS (ah xs a) (ah xs b):=by
 unfold au;cases aQ (ah xs a).1 (ah xs a).2.1 (ah xs b).1 (ah xs b).2.1==2
 ·rfl
 ·exact qm _ _
theorem Tf{xs:List aj}{c x y:Int}(hb:BF bk)(hy:(ah xs y).2.2.2.2.length≤4)(hx:(ah xs x).2.2.2.2.length≤4)(h7:c=7→0≤(ah xs x).2.2.1∧(ah xs x).2.2.1<(bk.length:Nat)):(lu bk xs c x y).length≤600:=by
 unfold lu;cases c==3
 case true=>simp only[qG,qA,qI,qR,List.length_replicate];omega
 cases c==4
 case true=>simp only[qG,qH,List.length_replicate];omega
 cases c==5
 case true=>cases (ah xs y).1==7<;>simp
 cases c==6
 case true=>
  cases (ah xs x).1==6
  ·simp only[qG,qH,qA,qI,qR,List.length_replicate];omega
  ·simp
 cases h:c==7
 ·simp
 ·obtain⟨v0,v1⟩:=h7 (by simpa using h);have:=hb.tl _ v0 v1;simp only[qG,qH,qV,List.length_drop,mF,lS];omega
end
end Go.Tr
namespace Go.Tr
open Go Go.RowKit
abbrev vK:=Int×Int×Int×List Int×Nat
def toA(s:vK):aj:=(s.1,s.2.1,s.2.2.1,s.2.2.2.1,List.replicate s.2.2.2.2 (0,0))
theorem WH(s:vK):sig (toA s)=s:=by
 unfold sig toA;simp only[List.length_replicate]
theorem dY.maps{xs ys:List aj}(h:dY xs ys):xs.map sig=ys.map sig:=by
 apply List.ext_getElem?;intro i;rw[qY,qY]
 by_cases hi:i<xs.length
 ·have:=h.2 (i:Nat) (by omega) (by omega);have hj:i<ys.length:=by rw[←h.1];exact hi
  rw[tJ hi,tJ hj]at this;rw[qB hi,qB hj,Option.map_some,Option.map_some,this]
 ·rw[List.getElem?_eq_none (by omega),List.getElem?_eq_none (by rw[←h.1];omega)]
def mX(bk:List (List aj))(c:Int)(u v:aj):List aj:=lu bk [u,v] c 0 1
section
variable {bk:List (List aj)}{xs:List aj}{x y c:Int}{u v u' v' a b:aj}
theorem Gs(b:Int)(a:aj):sig (bQ b a)=sig a:=by
 unfold sig bQ;simp only[qV]
theorem wD:(lu bk xs c x y).map sig=(mX bk c (ah xs x) (ah xs y)).map sig:=by
 unfold mX lu;have e0:ah [ah xs x,ah xs y] 0=ah xs x:=rfl;have e1:ah [ah xs x,ah xs y] 1=ah xs y:=rfl;unfold lg mF;rw[e0,e1];cases c==3
 case true=>rfl
 cases c==4
 case true=>rfl
 cases c==5
 case true=>rfl
 cases c==6
 case true=>rfl
 cases c==7
 case false=>rfl
 simp only[qG,qH,List.map_map];exact List.map_congr_left fun z _=>by rw[Function.comp,Function.comp,Gs,Gs]
theorem Ao(hu:sig u=sig u')(hv:sig v=sig v'):(mX bk c u v).map sig=(mX bk c u' v').map sig:=by
 unfold sig at hu hv;simp only[Prod.mk.injEq]at hu hv;obtain⟨u1,u2,u3,u4,u5⟩:=hu;obtain⟨v1,v2,v3,v4,v5⟩:=hv;unfold mX lu lg mF;have e0:∀p q:aj,ah [p,q] 0=p:=fun _ _=>rfl
 have e1:∀p q:aj,ah [p,q] 1=q:=fun _ _=>rfl
 rw[e0,e1,e0,e1,u1,u2,u3,u5,v1,v2,v3,v4,v5];rfl
theorem lK(hu:sig u=sig u')(hv:sig v=sig v'):aS u v=aS u' v':=by
 unfold sig at hu hv;simp only[Prod.mk.injEq]at hu hv;obtain⟨u1,u2,u3,u4,u5⟩:=hu;obtain⟨v1,v2,v3,v4,v5⟩:=hv;unfold aS eZ jH;rw[u1,u2,u3,u4,v1,v2,v3,v4]
def Tj(bk:List (List aj))(a b:aj):List vK:=bif aQ a.1 a.2.1 b.1 b.2.1==2 then(mX bk (aS a b) b a).map sig else(mX bk (aS a b) a b).map sig
theorem Tk(hu:sig u=sig u')(hv:sig v=sig v'):Tj bk u v=Tj bk u' v':=by
 unfold Tj;rw[lK hu hv,Ao hu hv,Ao hv hu];unfold sig at hu hv;simp only[Prod.mk.injEq]at hu hv;rw[hu.1,hu.2.1,hv.1,hv.2.1]
structure Duo(a b:aj):Prop where
 wa:Wf a
 wb:Wf b
 ra:a.1≠1
 rb:b.1≠1
 ok:aS a b≠8
theorem Duo.sigs(h:Duo u v)(hu:sig u=sig u')(hv:sig v=sig v'):Duo u' v':=by
 have k1:u'.1=u.1:=by have:=congrArg (fun s:vK=>s.1) hu;exact this.symm
 have k2:v'.1=v.1:=by have:=congrArg (fun s:vK=>s.1) hv;exact this.symm
 exact⟨(Et hu).1 h.wa,(Et hv).1 h.wb,by rw[k1];exact h.ra,by rw[k2];exact h.rb,by rw[←lK hu hv];exact h.ok⟩
theorem LZ(hc:1≤aS (ah xs x) (ah xs y)∧aS (ah xs x) (ah xs y)≤7){z w:Int}(hz:z.toNat<xs.length)(hf:au xs x y=(z,w)):(aV bk xs (aS (ah xs z) (ah xs w)) z w).map sig=xs.map sig++Tj bk (ah xs x) (ah xs y):=by
 have hcl:aS (ah xs z) (ah xs w)=aS (ah xs x) (ah xs y):=by
  have:=jl xs x y;rw[hf]at this;exact this
 rw[hcl,(nM (bk:=bk) (y:=w) hc hz).maps,qZ,wD]
 congr 1
 unfold au at hf;unfold Tj;cases hp:aQ (ah xs x).1 (ah xs x).2.1 (ah xs y).1 (ah xs y).2.1==2 with
 |true=>
  rw[hp]at hf;injection hf with h1 h2
  subst h1 h2;rfl
 |false=>
  rw[hp]at hf;injection hf with h1 h2
  subst h1 h2;rfl
end
def Zar(s:List vK)(i:Int):vK:=s.getD i.toNat (0,0,0,[],0)
def OT(s:List vK)(i:Int):aj:=toA (Zar s i)
inductive nk(bk:List (List aj)):List vK→List aB→List vK→Prop
 |done (s:List vK):nk bk s [] s
 |step {s:List vK} {e:aB} {es:List aB} {s':List vK} (h0:0≤e.1) (hlt:e.1<e.2.1) (h1:e.2.1<((s.length:Nat):Int)) (hf:e.2.2.2.1=((s.length:Nat):Int))
  (hn:e.2.2.2.2=(((Tj bk (OT s e.1) (OT s e.2.1)).length:Nat):Int)) (hw:Duo (OT s e.1) (OT s e.2.1)) (r:nk bk (s++Tj bk (OT s e.1) (OT s e.2.1)) es s'):nk bk s (e::es) s'
end Go.Tr
namespace Go.Tr
open Go Go.RowKit
def tu(f:Int→Int)(p:aC):aC:=(f p.1,p.2)
def Bp(f:Int→Int)(a:aj):aj:=(a.1,a.2.1,a.2.2.1,a.2.2.2.1,a.2.2.2.2.map (tu f))
def Bh(ys:List aj)(i:Nat):Bool:=(ah ys (i:Nat)).1 !=0
def CF(ys:List aj):Nat→Nat
 |0=>0
 |k+1=>bif Bh ys k then CF ys k+1 else CF ys k
def Yx(ys:List aj)(x:Int):Int:=((CF ys x.toNat:Nat):Int)
def wI(ys:List aj):Nat→List aj
 |0=>[]
 |k+1=>bif Bh ys k then wI ys k++[Bp (Yx ys) (ah ys (k:Nat))]else wI ys k
def Xm(ys:List aj):List aj:=wI ys ys.length
def lC(kv:List (Int×Bool)):Nat→List Int
 |0=>[]
 |k+1=>bif !(cZ false kv ((k:Nat):Int))then lC kv k++[((k:Nat):Int)]else lC kv k
def WK(ord:List Int):Nat→List (Int×Int)
 |0=>[]
 |i+1=>fH (WK ord i) (elt 0 ord ((i:Nat):Int)) ((i:Nat):Int)
def toF(ord:List Int)(x:Int):Int:=cZ 0 (WK ord ord.length) x
def OJ(xs:List aj)(ord:List Int):Nat→List aj
 |0=>[]
 |i+1=>OJ xs ord i++[Bp (toF ord) (ah xs (elt 0 ord ((i:Nat):Int)))]
theorem PZ{α:Type}(d:α)(kv:List (Int×α))(i j:Int)(x:α):cZ d (fH kv i x) j=if i=j then x else cZ d kv j:=by
 induction kv with
 |nil=>
  unfold fH cZ
  by_cases h:i=j
  ·rw[if_pos h,show(i==j)=true by simpa using h];rfl
  ·rw[if_neg h,show(i==j)=false by simpa using h];rfl
 |cons e kv ih=>
  obtain⟨k,v⟩:=e;unfold fH
  by_cases h:k=i
  ·rw[show(k==i)=true by simpa using h,qG];unfold cZ;subst h
   by_cases h2:k=j
   ·rw[if_pos h2,show(k==j)=true by simpa using h2];rfl
   ·rw[if_neg h2,show(k==j)=false by simpa using h2];rfl
  ·rw[show(k==i)=false by simpa using h,qH]
   conv=>lhs;unfold cZ
   conv=>rhs;unfold cZ
   by_cases h2:k=j
   ·rw[show(k==j)=true by simpa using h2,qG,qG,if_neg (by omega)]
   ·rw[show(k==j)=false by simpa using h2,qH,qH,ih]
theorem KF(xs:List aj)(ord:List Int):∀i:Nat,i≤ord.length→OJ xs ord i=(ord.take i).map fun k=>Bp (toF ord) (ah xs k)
 |0,_=>by rw[List.take_zero];rfl
 |i+1,h=>by
  unfold OJ;rw[KF xs ord i (by omega),List.take_add_one,qZ,qB (by omega)];unfold elt;rw[qK,qC,qB (by omega)];rfl
section
variable {kv:List (Int×Bool)}{xs ys:List aj}
theorem Twin.Bh(h:Twin kv xs ys){k:Nat}(hk:k<xs.length):Bh ys k= !(cZ false kv ((k:Nat):Int)):=by
 unfold Tr.Bh;cases hg:cZ false kv ((k:Nat):Int)with
 |true=>
  rw[(h.hole _ hg).2];rfl
 |false=>
  have hd:¬Gone kv ((k:Nat):Int):=fun e=>by
   have e':cZ false kv ((k:Nat):Int)=true:=e;rw[hg]at e';cases e'
  rw[h.at_ (by omega) (by omega) hd];have:=zI (h.wf (k:Nat) (by omega) (by omega) hd);simp;omega
theorem Twin.ord(h:Twin kv xs ys):∀n:Nat,n≤xs.length→(lC kv n).length=CF ys n∧(∀j:Nat,j<(lC kv n).length→∃x:Nat,x<n∧(lC kv n)[j]? =some ((x:Nat):Int)∧CF ys x=j∧cZ false kv ((x:Nat):Int)=false)∧
  (∀x:Nat,x<n→cZ false kv ((x:Nat):Int)=false→(lC kv n)[CF ys x]? =some ((x:Nat):Int))
 |0,_=>⟨rfl,fun j hj=>absurd hj (Nat.not_lt_zero _),fun x hx=>absurd hx (Nat.not_lt_zero _)⟩
 |n+1,hn=>by
  obtain⟨h1,h2,h3⟩:=h.ord n (by omega);have hl:=h.Bh (k:=n) (by omega);have eo:lC kv (n+1)=bif !(cZ false kv ((n:Nat):Int))then lC kv n++[((n:Nat):Int)]else lC kv n:=rfl
  have ec:CF ys (n+1)=bif Tr.Bh ys n then CF ys n+1 else CF ys n:=rfl
  rw[eo,ec,hl];cases hg:cZ false kv ((n:Nat):Int)with
  |true=>
   simp only[Bool.not_true,qH];refine⟨h1,fun j hj=> ?_,fun x hx hx2=> ?_⟩
   ·obtain⟨x,k1,k2,k3,k4⟩:=h2 j hj;exact⟨x,by omega,k2,k3,k4⟩
   ·refine h3 x ?_ hx2
    by_cases e:x=n
    ·rw[e,hg]at hx2;cases hx2
    ·omega
  |false=>
   simp only[Bool.not_false,qG];refine⟨by rw[qA,h1];rfl,fun j hj=> ?_,fun x hx hx2=> ?_⟩
   ·rw[qA,qJ]at hj
    by_cases hj2:j<(lC kv n).length
    ·obtain⟨x,k1,k2,k3,k4⟩:=h2 j hj2;exact⟨x,by omega,by rw[qM hj2];exact k2,k3,k4⟩
    ·have hj3:j=(lC kv n).length:=by omega
     exact⟨n,by omega,by rw[hj3,qL (Nat.le_refl _),Nat.sub_self];rfl,by rw[hj3,h1],hg⟩
   ·by_cases e:x=n
    ·subst e;rw[←h1,qL (Nat.le_refl _),Nat.sub_self];rfl
    ·have k:=h3 x (by omega) hx2;have:=(qE.1 k).1;rw[qM this];exact k
theorem Twin.Xv(h:Twin kv xs ys):∀i:Nat,i≤(lC kv xs.length).length→∀j:Nat,j<i→cZ 0 (WK (lC kv xs.length) i) (elt 0 (lC kv xs.length) ((j:Nat):Int))=((j:Nat):Int)
 |0,_,j,hj=>by omega
 |i+1,hi,j,hj=>by
  obtain⟨h1,h2,h3⟩:=h.ord xs.length (Nat.le_refl _);unfold WK;rw[PZ]
  by_cases e:j=i
  ·subst e;rw[if_pos rfl]
  ·rw[if_neg fun k=>e ?_]
   ·exact h.Xv i (by omega) j (by omega)
   ·obtain⟨x,k1,k2,k3,_⟩:=h2 i (by omega);obtain⟨y,l1,l2,l3,_⟩:=h2 j (by omega);unfold elt at k;rw[qK,qK,qC,qC,k2,l2]at k;have k':((x:Nat):Int)=((y:Nat):Int):=k;have:x=y:=by omega
    rw[←k3,←l3,this]
theorem Twin.toF(h:Twin kv xs ys){x:Int}(h0:0≤x)(h1:x<(xs.length:Nat))(hd:¬Gone kv x):toF (lC kv xs.length) x=Yx ys x:=by
 obtain⟨k1,k2,k3⟩:=h.ord xs.length (Nat.le_refl _)
 have hg:cZ false kv ((x.toNat:Nat):Int)=false:=by
  rw[show((x.toNat:Nat):Int)=x by omega];cases hq:cZ false kv x with
  |true=>exact absurd hq hd
  |false=>rfl
 have k4:=k3 x.toNat (by omega) hg;have k5:=(qE.1 k4).1;have k6:=h.Xv (lC kv xs.length).length (Nat.le_refl _) (CF ys x.toNat) k5
 have e:elt 0 (lC kv xs.length) ((CF ys x.toNat:Nat):Int)=x:=by
  unfold elt;rw[qK,qC,k4];show((x.toNat:Nat):Int)=x;omega
 rw[e]at k6;exact k6
theorem Twin.wI(h:Twin kv xs ys):∀n:Nat,n≤xs.length→wI ys n=(lC kv n).map fun k=>Bp (Yx ys) (ah ys k)
 |0,_=>rfl
 |n+1,hn=>by
  unfold Tr.wI lC;rw[h.Bh (k:=n) (by omega),h.wI n (by omega)];cases cZ false kv ((n:Nat):Int)
  ·simp
  ·simp
theorem Twin.pack(h:Twin kv xs ys):OJ xs (lC kv xs.length) (lC kv xs.length).length=Xm ys:=by
 rw[KF _ _ _ (Nat.le_refl _),List.take_length];unfold Xm;rw[←h.len,h.wI _ (Nat.le_refl _)];refine List.map_congr_left fun k hk=> ?_
 obtain⟨j,hj,rfl⟩:=List.mem_iff_getElem.1 hk;obtain⟨x,k1,k2,k3,k4⟩:=(h.ord xs.length (Nat.le_refl _)).2.1 j hj;rw[qB hj]at k2;injection k2 with k2
 rw[k2]
 have hd:¬Gone kv ((x:Nat):Int):=fun e=>by
  have e':cZ false kv ((x:Nat):Int)=true:=e;rw[k4]at e';cases e'
 rw[h.at_ (by omega) (by omega) hd];unfold Bp
 congr 4
 refine List.map_congr_left fun p hp=> ?_
 obtain⟨i,hi,rfl⟩:=List.mem_iff_getElem.1 hp;have hw:=h.st.wi (((x:Nat):Int),((i:Nat):Int)) ⟨⟨by show(0:Int)≤(x:Nat);omega,by show((x:Nat):Int)<(xs.length:Nat);omega,by show(0:Int)≤(i:Nat);omega,by show((i:Nat):Int)<((ah xs (x:Nat)).2.2.2.2.length:Nat);omega⟩,hd⟩
 have hpe:ay xs (((x:Nat):Int),((i:Nat):Int))=(ah xs (x:Nat)).2.2.2.2[i]:=by
  unfold ay elt;rw[qK,qC,qB hi];rfl
 rw[hpe]at hw;obtain⟨_,⟨q1,q2⟩,_⟩:=hw;unfold tu;rw[h.toF q1.1 q1.2.1 q2]
end
end Go.Tr
namespace Go.Tr
open Go Go.RowKit
def gN(xs:List aj):aW:=⟨xs.map gA⟩
theorem VH(xs:List aj):(xs.map gA).flatMap aD.enc=List.flatMap (enc aF) xs:=by
 induction xs with
 |nil=>rfl
 |cons x l ih=>rw[List.map_cons,qU,qU,ih,Yh]
theorem Yi(xs:List aj):(gN xs).enc=enc aZ xs:=by
 show[D.sl (xs.map gA).length ((xs.map gA).flatMap aD.enc)]=[D.sl _ _];rw[VH,qV]
theorem vY(xs:List aj)(i:Nat):jG (xs.map gA) i=gA (ah xs (i:Nat)):=by
 unfold jG ah elt;rw[qK,qC,qC,qY];cases xs[i]? <;>rfl
def gP(p:aC):aR:=⟨p.1,p.2⟩
theorem RU(ps:List aC)(k:Nat):Ay (ps.map gP) k=gP (elt (dflt bf) ps (k:Nat)):=by
 unfold Ay elt;rw[qK,qC,qC,qY];cases ps[k]? <;>rfl
theorem mV(a:aj):(gA a).aN=a.2.2.2.2.map gP:=rfl
theorem RV{p q:aC}(h:gP p=gP q):p=q:=by
 have h1:=congrArg aR.agent h;have h2:=congrArg aR.slot h;exact Prod.ext h1 h2
theorem uW{xs:List aj}{p:aC}(h:iX (xs.map gA) (gP p)=true):ak xs p:=by
 unfold iX at h;rw[qD,vY,mV]at h;have h1:=iw h.1;have h2:=iw h.2;rw[qV]at h1 h2;have e1:(gP p).agent=p.1:=rfl;have e2:(gP p).slot=p.2:=rfl;rw[e1]at h1 h2;rw[e2]at h2;have e3:((p.1.toNat:Nat):Int)=p.1:=by omega
 rw[e3]at h2;exact⟨by omega,by omega,by omega,by show p.2<((ah xs p.1).2.2.2.2.length:Nat);omega⟩
structure Cj(xs:List aj):Prop where
 l1:1≤xs.length
 l2:xs.length≤600
 wf:∀i:Int,0≤i→i<(xs.length:Nat)→Wf (ah xs i)
 rt:∀i:Int,0≤i→i<(xs.length:Nat)→((ah xs i).1=1↔i=0)
 wi:gK (fun p=>ak xs p) xs
theorem Ir{xs:List aj}(h:gZ (gN xs)=true):Cj xs:=by
 unfold gZ at h;have hag:(gN xs).agents=xs.map gA:=rfl;rw[qD,hag,qV]at h;obtain⟨h1,h2⟩:=h;unfold fU at h1;rw[qD,qV]at h1;obtain⟨h3,h4⟩:=h1;have h3:=iw h3;have ha:∀i:Nat,i<xs.length→mJ (xs.map gA) i=true:=fun i hi=>qh h4 hi
 have hk:∀i:Nat,i<xs.length→Wf (ah xs (i:Nat))∧((ah xs (i:Nat)).1=1↔i=0):=fun i hi=>by
  have:=ha i hi;unfold mJ at this;rw[vY,qD]at this;refine⟨this.1,?_⟩;have h5:=this.2;have e:(gA (ah xs (i:Nat))).kind=(ah xs (i:Nat)).1:=rfl;rw[e,beq_iff_eq,Bool.eq_iff_iff,beq_iff_eq,beq_iff_eq]at h5;omega
 refine⟨by omega,by omega,fun i h0 h1=> ?_,fun i h0 h1=> ?_,?_⟩
 ·have:=(hk i.toNat (by omega)).1
  rwa[show((i.toNat:Nat):Int)=i by omega]at this
 ·have:=(hk i.toNat (by omega)).2;rw[show((i.toNat:Nat):Int)=i by omega]at this;rw[this];omega
 ·rintro⟨a,s⟩ ⟨p1,p2,p3,p4⟩;have q1:0≤a:=p1;have q2:a<(xs.length:Nat):=p2;have q3:0≤s:=p3;have q4:s<((ah xs a).2.2.2.2.length:Nat):=p4;have ea:((a.toNat:Nat):Int)=a:=by omega
  have es:((s.toNat:Nat):Int)=s:=by omega
  have hw:pO (xs.map gA) a.toNat=true:=qh h2 (by omega);unfold pO at hw;rw[vY,ea,mV,qV]at hw;have hw2:=qh hw (k:=s.toNat) (by omega);unfold Pf at hw2;rw[RU,es]at hw2;have ge:(⟨((a.toNat:Nat):Int),((s.toNat:Nat):Int)⟩:aR)=gP (a,s):=by rw[ea,es];rfl
  simp only[qD,Bool.not_eq_true']at hw2;obtain⟨⟨w1,w2⟩,w3⟩:=hw2;have w1:=CP w1;have w3:=Bd w3;have hin:=uW w2;have hpe:ay xs (a,s)=elt (dflt bf) (ah xs a).2.2.2.2 s:=rfl;rw[←hpe]at w1 w3 hin;refine⟨⟨p1,p2,p3,p4⟩,hin,?_,fun e=>w1 (by rw[e];rfl)⟩;generalize ay xs (a,s)=r at*;unfold Mv at w3;have er:(gP r).agent=r.1:=rfl;have er2:(gP r).slot=r.2:=rfl;have hr0:=hin.1;have hr2:=hin.2.2.1;rw[er,er2,vY,mV,RU,show((r.1.toNat:Nat):Int)=r.1 by omega,show((r.2.toNat:Nat):Int)=r.2 by omega]at w3
  exact RV (q:=(a,s)) w3
theorem Cj.twin{xs:List aj}(h:Cj xs):Twin [] xs xs:=by
 have hg:∀i,¬Gone [] i:=fun i e=>by cases e
 have hl1:=h.l1;refine⟨⟨?_,?_,?_⟩,fun i h0 h1 _=>h.wf i h0 h1,fun i e=>absurd e (hg i),fun i e=>absurd e (hg i),(h.rt 0 (Int.le_refl 0) (by omega)).2 rfl,hg 0,h.l1,fun i h0 h1 _ e=> ?_,fun e he=>(by cases he),?_,fun p hp=>(h.wi p hp).2.1⟩
 ·exact⟨rfl,fun _ _ _ _=>rfl⟩
 ·exact h.wi.congr fun p=>⟨fun k=>k.1,fun k=>⟨k,hg _⟩⟩
 ·exact fun p k=>k.2
 ·have:=(h.rt i (by omega) h1).1 e;omega
 ·have:=zU (kv:=[]) (n:=0) (fun i _=>rfl) xs.length;rw[Nat.zero_add]at this;rw[this];rfl
theorem Cr(bk:List (List aj))(k:Nat):Tc (bk.map gN) k=gN (bJ bk (k:Nat)):=by
 unfold Tc bJ elt;rw[qK,qC,qC,qY];cases bk[k]? <;>rfl
theorem Jo{bk:List (List aj)}(h:jq (bk.map gN)=true):BF bk∧bk.length≤24:=by
 unfold jq at h;rw[qD,qV]at h
 have hl:bk.length≤24:=by
  have:=of_decide_eq_true h.1;omega
 have hn:∀v:Int,0≤v→v<(bk.length:Nat)→Cj (bJ bk v):=fun v h0 h1=>by
  have:=qh h.2 (k:=v.toNat) (by omega);rw[Cr,show((v.toNat:Nat):Int)=v by omega]at this;exact Ir this
 refine⟨⟨⟨⟨fun v h0 h1=>(hn v h0 h1).wi,fun v h0 h1=> ?_,fun v h0 h1 p hp e=> ?_,fun v h0 h1=>(hn v h0 h1).wf⟩,fun v h0 h1 i i0 i1 e=> ?_⟩,fun v h0 h1=>(hn v h0 h1).l2,by omega⟩,hl⟩
 ·have N:=hn v h0 h1;have hl1:=N.l1;have:=(jc (N.wf 0 (Int.le_refl 0) (by omega))).1;exact⟨Int.le_refl 0,by show(0:Int)<((bJ bk v).length:Nat);omega,Int.le_refl 0,by show(0:Int)<((ah (bJ bk v) 0).2.2.2.2.length:Nat);omega⟩
 ·have N:=hn v h0 h1;have hl1:=N.l1;have w:=N.wf 0 (Int.le_refl 0) (by omega);have hk:=(N.rt 0 (Int.le_refl 0) (by omega)).2 rfl;have hp1:=(jw w).1 (.inl hk);obtain⟨_,_,p3,p4⟩:=hp;rw[e]at p4;have p4':p.2<((ah (bJ bk v) 0).2.2.2.2.length:Nat):=p4;exact Prod.ext e (by show p.2=0;omega)
 ·have:=((hn v h0 h1).rt i (by omega) i1).1 e;omega
abbrev evA(e:aB):Int:=e.1
abbrev evB(e:aB):Int:=e.2.1
abbrev zM(e:aB):Int:=e.2.2.2.1
abbrev LM(e:aB):Int:=e.2.2.2.2
def Lg:List aB→Int→Int→Int×Int
 |[],_,k=>(-1,k)
 |e::es,i,k=>bif (bif decide (zM e≤k)then decide (k<zM e+LM e)else false)then(i,k-zM e)else Lg es (i+1) k
theorem GQ{e:aB}{es:List aB}{i k:Int}(h1:zM e≤k)(h2:k<zM e+LM e):Lg (e::es) i k=(i,k-zM e):=by
 unfold Lg;rw[show decide (zM e≤k)=true by simpa using h1,show decide (k<zM e+LM e)=true by simpa using h2];rfl
theorem yJ{e:aB}{es:List aB}{i k:Int}(h:¬(zM e≤k∧k<zM e+LM e)):Lg (e::es) i k=Lg es (i+1) k:=by
 conv=>lhs;unfold Lg
 cases h1:decide (zM e≤k)with
 |false=>rfl
 |true=>
  cases h2:decide (k<zM e+LM e)with
  |false=>rfl
  |true=>exact absurd ⟨by simpa using h1,by simpa using h2⟩ h
theorem QZ:∀(es:List aB) (i k:Int),(Lg es i k).1= -1∨(Lg es i k).1<i+(es.length:Nat)
 |[],i,k=>.inl rfl
 |e::es,i,k=>by
  by_cases h:zM e≤k∧k<zM e+LM e
  ·rw[GQ h.1 h.2];right;show i<i+((es.length+1:Nat):Int);omega
  ·rw[yJ h];have:=QZ es (i+1) k;rw[qI];omega
theorem Jk:∀{es:List aB} {i k:Int},(∀e∈es,¬(zM e≤k∧k<zM e+LM e))→Lg es i k=(-1,k)
 |[],_,_,_=>rfl
 |e::es,i,k,h=>by
  rw[yJ (h e (by simp))];exact Jk fun e' he=>h e' (by simp[he])
theorem Jl:∀{p q:List aB} {i k:Int},(∀e∈p,¬(zM e≤k∧k<zM e+LM e))→Lg (p++q) i k=Lg q (i+(p.length:Nat)) k
 |[],q,i,k,_=>by rw[List.nil_append];congr 1;simp
 |e::p,q,i,k,h=>by
  rw[List.cons_append,yJ (h e (by simp)),Jl fun e' he=>h e' (by simp[he])]
  congr 1
  rw[qI];omega
section
variable {bk:List (List aj)}
theorem nk.pre{s s':List vK}{es:List aB}(h:nk bk s es s'):s<+:s':=by
 induction h with
 |done s=>exact pR _
 |step _ _ _ _ _ _ _ ih=>exact(List.prefix_append _ _).trans ih
theorem nk.split{s s':List vK}:∀{p q:List aB},nk bk s (p++q) s'→∃t,nk bk s p t∧nk bk t q s'
 |[],q,h=>⟨s,.done s,h⟩
 |e::p,q,h=>by
  cases h with
  |step h0 hlt h1 hf hn hw r=>
   obtain⟨t,k1,k2⟩:=nk.split (p:=p) r;exact⟨t,.step h0 hlt h1 hf hn hw k1,k2⟩
theorem nk.snoc{s t:List vK}{p:List aB}{e:aB}(h:nk bk s p t)(h0:0≤e.1)(hlt:e.1<e.2.1)(h1:e.2.1<((t.length:Nat):Int))(hf:e.2.2.2.1=((t.length:Nat):Int))
  (hn:e.2.2.2.2=(((Tj bk (OT t e.1) (OT t e.2.1)).length:Nat):Int)) (hw:Duo (OT t e.1) (OT t e.2.1)):nk bk s (p++[e]) (t++Tj bk (OT t e.1) (OT t e.2.1)):=by
 induction h with
 |done s=>exact .step h0 hlt h1 hf hn hw (.done _)
 |step g0 glt g1 gf gn gw _ ih=>exact .step g0 glt g1 gf gn gw (ih h1 hf hn hw)
theorem nk.rng{s s':List vK}{es:List aB}(h:nk bk s es s'):∀e∈es,((s.length:Nat):Int)≤zM e∧0≤LM e∧zM e+LM e≤((s'.length:Nat):Int):=by
 induction h with
 |done s=>intro e he;cases he
 |step h0 hlt h1 hf hn hw r ih=>
  intro e' he';have hp:=r.pre.length_le;rw[qA]at hp;rcases List.mem_cons.1 he' with rfl|he'
  ·exact⟨by show _≤e'.2.2.2.1;omega,by show 0≤e'.2.2.2.2;omega,by show e'.2.2.2.1+e'.2.2.2.2≤_;omega⟩
  ·have:=ih e' he';rw[qA]at this;omega
theorem nk.ab{s s':List vK}{es:List aB}(h:nk bk s es s'):∀e∈es,0≤evA e∧evA e<evB e∧evB e<((s'.length:Nat):Int):=by
 induction h with
 |done s=>intro e he;cases he
 |step h0 hlt h1 hf hn hw r ih=>
  intro e' he';have hp:=r.pre.length_le;rw[qA]at hp;rcases List.mem_cons.1 he' with rfl|he'
  ·exact⟨h0,hlt,by show e'.2.1<_;omega⟩
  ·exact ih e' he'
theorem nk.old{s t s':List vK}{p q:List aB}(h1:nk bk s p t)(h2:nk bk t q s'){k:Int}(hk:k<((t.length:Nat):Int)):(Lg (p++q) 0 k).1<((p.length:Nat):Int):=by
 have hq:∀e∈q,¬(zM e≤k∧k<zM e+LM e):=fun e he hh=>by
  have:=h2.rng e he;omega
 have key:∀(p:List aB) (i:Int),Lg (p++q) i k=Lg p i k:=by
  intro p
  induction p with
  |nil=>intro i;rw[List.nil_append,Jk hq];rfl
  |cons e p ih=>
   intro i;rw[List.cons_append]
   by_cases h:zM e≤k∧k<zM e+LM e
   ·rw[GQ h.1 h.2,GQ h.1 h.2]
   ·rw[yJ h,yJ h,ih]
 rw[key];have:=QZ p 0 k;omega
theorem nk.new{s t:List vK}{p q:List aB}{e:aB}(h1:nk bk s p t)(hf:zM e=((t.length:Nat):Int)){j:Int}(j0:0≤j)(j1:j<LM e):Lg (p++e::q) 0 (zM e+j)=(((p.length:Nat):Int),j):=by
 rw[Jl fun e' he hh=>by have:=h1.rng e' he;omega,Int.zero_add,GQ (by omega) (by omega)]
 congr 1
 omega
end
def Hf(p q:Int×Int):Bool:=bT [p.1,p.2] [q.1,q.2]
theorem Vt{p q:Int×Int}:Hf p q=true↔p=q:=by
 unfold Hf;simp only[bT,Bool.and_true,qD,beq_iff_eq];exact⟨fun h=>Prod.ext h.1 h.2,fun h=>by rw[h];exact⟨rfl,rfl⟩⟩
section
variable {bk:List (List aj)}{s0 sa sb:List vK}{a b:List aB}
end
end Go.Tr
