
/- Nets as data: agents, ports, wires. No program in it. -/
import Derived.Test.YtjijpkphkicoeaaGreatShort
import Derived.Test.YtjijpkphkicoeaaGreatVV
import Derived.Test.YtjijpkphkicoeaaGreatValid
set_option linter.unusedSimpArgs false
set_option linter.unusedVariables false
set_option linter.unusedSectionVars false
namespace Go.Tr
open Go Go.RowKit
abbrev aM:U:=.pair (.int .i64) (.int .i64)
abbrev aD:U:=.pair (.int .i64) (.pair (.int .i64) (.pair (.int .i64) (.pair (.sl (.int .i64)) (.sl aM))))
abbrev aR:U:=.sl aD
abbrev aF:=Int×Int
abbrev aj:=Int×Int×Int×List Int×List aF
def ah(xs:List aj)(i:Int):aj:=elt (dflt aD) xs i
abbrev aj.kind(a:aj):Int:=a.1
abbrev aj.level(a:aj):Int:=a.2.1
abbrev aj.value(a:aj):Int:=a.2.2.1
abbrev aj.data(a:aj):List Int:=a.2.2.2.1
abbrev aj.aJ(a:aj):List aF:=a.2.2.2.2
def au(xs:List aj)(p:aF):aF:=elt (dflt aM) (ah xs p.1).aJ p.2
def aL(xs:List aj)(p q:aF):List aj:=xs.set p.1.toNat ((ah xs p.1).1,(ah xs p.1).2.1,(ah xs p.1).2.2.1,(ah xs p.1).2.2.2.1,(ah xs p.1).2.2.2.2.set p.2.toNat q)
def bL(xs:List aj)(p q:aF):List aj:=aL (aL xs p q) q p
def ak(xs:List aj)(p:aF):Prop:=0≤p.1∧p.1<(xs.length:Nat)∧0≤p.2∧p.2<((ah xs p.1).aJ.length:Nat)
abbrev vP(p:aF):SV:=.agg [.int .i64 p.1,.int .i64 p.2]
theorem dh(xs:List aj)(p q:aF):(aL xs p q).length=xs.length:=by unfold aL;simp
theorem kR{xs:List aj}{k:Nat}{y:aj}{i:Int}:ah (xs.set k y) i=if k=i.toNat∧k<xs.length then y else ah xs i:=by
 unfold ah elt;rw[qC,qC,List.getElem?_set]
 by_cases h:k=i.toNat
 ·subst h
  by_cases h2:i.toNat<xs.length
  ·simp[h2]
  ·simp[h2]
 ·simp[h]
theorem eG(xs:List aj)(p q:aF)(i:Int):ah (aL xs p q) i=if p.1.toNat=i.toNat∧p.1.toNat<xs.length then((ah xs p.1).1,(ah xs p.1).2.1,(ah xs p.1).2.2.1,(ah xs p.1).2.2.2.1,(ah xs p.1).2.2.2.2.set p.2.toNat q)else ah xs i:=kR
theorem yS{xs:List aj}{i j:Int}(h:i.toNat=j.toNat):ah xs i=ah xs j:=by unfold ah elt;rw[h]
theorem nM(xs:List aj)(p q:aF)(i:Int):(ah (aL xs p q) i).aJ.length=(ah xs i).aJ.length:=by
 rw[eG];split
 ·rename_i h;rw[yS h.1.symm];simp[aj.aJ]
 ·rfl
theorem ak.set{xs:List aj}{p q r:aF}(h:ak xs r):ak (aL xs p q) r:=by
 unfold ak at h ⊢;rw[dh,nM];exact h
theorem ak.link{xs:List aj}{p q r:aF}(h:ak xs r):ak (bL xs p q) r:=h.set.set
theorem jf(xs:List aj)(p q:aF):(bL xs p q).length=xs.length:=by unfold bL;rw[dh,dh]
theorem sJ{us:List Value}{n:Nat}(hl:us.length=n*5){i:Int}(h0:0≤i)(h1:i<(n:Nat)):i.toNat*5+5≤us.length:=by omega
theorem rM{us:List Value}{n:Nat}(hl:us.length=n*5){i:Int}(h0:0≤i)(h1:i<(n:Nat)){o:Nat}(ho:o<5):us[i.toNat*5+o]? =some (us.getD (i.toNat*5+o) undef):=by
 rw[qC,qB (by omega)];rfl
def dG(xs:List aj)(old now:aF):List aj:=bL xs (au xs old) now
def aU(xs:List aj)(x y:aF):List aj:=bif (au xs x).1==y.1&&(au xs x).2==y.2 then xs else bL xs (au xs x) (au xs y)
def bB(kind level value:Int)(data:List Int)(n:Nat):aj:=(kind,level,value,data,List.replicate n (0,0))
def kW(kv:List (Int×Bool))(ks:List Int):List (Int×Bool):=ks.foldl (fun kv k=>fH kv k true) kv
theorem PG(kv:List (Int×Bool)){ks:List Int}{i:Nat}(h:i<ks.length):fH (kW kv (ks.take i)) (ks.getD i 0) true=kW kv (ks.take (i+1)):=by
 unfold kW;rw[List.take_add_one,List.foldl_append,qC,qB h];rfl
theorem dB{k:Nat}(h:k<1000000000):IntKind.i64.wrap ((k:Int)+1)=((k+1:Nat):Int):=PZ (by omega)
def bE(xs:List aj):Prop:=xs.length≤1048576∧∀i:Nat,(ah xs i).data.length≤1048576∧(ah xs i).aJ.length≤1048576
def oV(c:Int)(x y:aj):Bool:=bif (bif c==6 then y.kind==10 else false)then decide ((y.data.length:Int)≤x.value)else false
def bg(x y:aj):Int×Bool:=
 bif aZ x.kind x.level y.kind y.level==2 then(bif oV (aV x.kind x.level y.kind y.level) y x then(8,false)else(aV x.kind x.level y.kind y.level,aZ x.kind x.level y.kind y.level==2))
 else(bif oV (aV x.kind x.level y.kind y.level) x y then(8,false)else(aV x.kind x.level y.kind y.level,aZ x.kind x.level y.kind y.level==2))
theorem Lh{x y:aj}(h1:(aZ x.kind x.level y.kind y.level==2)=true)(h2:oV (aV x.kind x.level y.kind y.level) y x=true):bg x y=(8,false):=by unfold bg;rw[h1,h2];rfl
theorem Lg{x y:aj}(h1:(aZ x.kind x.level y.kind y.level==2)=true)(h2:oV (aV x.kind x.level y.kind y.level) y x=false):bg x y=(aV x.kind x.level y.kind y.level,aZ x.kind x.level y.kind y.level==2):=by unfold bg;rw[h1,h2];rfl
theorem Lf{x y:aj}(h1:(aZ x.kind x.level y.kind y.level==2)=false)(h2:oV (aV x.kind x.level y.kind y.level) x y=true):bg x y=(8,false):=by unfold bg;rw[h1,h2];rfl
theorem Le{x y:aj}(h1:(aZ x.kind x.level y.kind y.level==2)=false)(h2:oV (aV x.kind x.level y.kind y.level) x y=false):bg x y=(aV x.kind x.level y.kind y.level,aZ x.kind x.level y.kind y.level==2):=by unfold bg;rw[h1,h2];rfl
def jP(p lo hi d:Int):Int×Int:=bif (bif decide (p<lo)then true else decide (hi<p))then(0,2)else(IntKind.i64.wrap (p+d),0)
def dK(c p:Int):Int×Int:=
 bif c==1 then jP p 0 0 (-2)else bif c==2 then jP p 0 0 (-2)else bif c==3 then jP p 0 3 0 else bif c==4 then jP p 0 3 (-2)
 else bif c==5 then jP p 0 0 (-1)else bif c==6 then jP p 0 3 (-1)else bif c==7 then jP p 2 600 (-2)else(0,2)
def iR(by_:Int)(x:aj):aj:=bif bR x.kind then(x.1,x.2.1+by_,x.2.2)else x
def fJ(by_:Int)(xs:List aj):Bool:=xs.all fun x=> !(bR x.kind)||decide (x.level+by_≤8)
def cB(by_:Int)(xs:List aj):List aj:=xs.map (iR by_)
def mO(x:Int):Int:=IntKind.i64.wrap (IntKind.i32.wrap x)
def wE(o a b:Int):Int:=
 bif o==1 then mO (IntKind.i64.wrap (mO a+mO b))else bif o==2 then mO (IntKind.i64.wrap (mO a-mO b))else bif o==3 then mO (IntKind.i64.wrap (mO a*mO b))
 else bif o==4 then(bif mO b==0 then 0 else mO (IntKind.i64.wrap ((mO a).tdiv (mO b))))else bif o==5 then(bif decide (mO a<mO b)then 1 else 0)else bif o==6 then(bif mO a==mO b then 1 else 0)else 0
theorem PY(x:Int):IntKind.i64.wrap (IntKind.i32.wrap (IntKind.u32.wrap (IntKind.u64.wrap x)))=mO x:=by
 unfold mO;simp only[IntKind.wrap,IntKind.bits,IntKind.signed];simp
def aW(xs:List aj):Prop:=∀p,ak xs p→ak xs (au xs p)
theorem Nb{α:Type}{d:α}{xs:List α}{i j:Int}(h:i.toNat=j.toNat):elt d xs i=elt d xs j:=by unfold elt;rw[h]
theorem Un{α:Type}{d:α}{xs:List α}{k:Nat}{y:α}{i:Int}:elt d (xs.set k y) i=if k=i.toNat∧k<xs.length then y else elt d xs i:=by
 unfold elt;rw[qC,qC,List.getElem?_set]
 by_cases h:k=i.toNat
 ·subst h
  by_cases h2:i.toNat<xs.length<;>simp[h2]
 ·simp[h]
theorem Um{α:Type}{d:α}{xs ys:List α}{i:Int}(h:i.toNat<xs.length):elt d (xs++ys) i=elt d xs i:=by
 unfold elt;rw[qC,qC,qM h]
theorem QG{α:Type}{d y:α}{xs:List α}{i:Int}(h:i.toNat=xs.length):elt d (xs++[y]) i=y:=by
 unfold elt;rw[h,qC];simp
theorem dA{xs ys:List aj}{i:Int}(h:i.toNat<xs.length):ah (xs++ys) i=ah xs i:=Um h
theorem pJ{y:aj}{xs:List aj}{i:Int}(h:i.toNat=xs.length):ah (xs++[y]) i=y:=QG h
theorem ak.app{xs ys:List aj}{p:aF}(h:ak xs p):ak (xs++ys) p:=by
 obtain⟨h1,h2,h3,h4⟩:=h;refine⟨h1,by rw[qA];omega,h3,?_⟩;rw[dA (by omega)];exact h4
theorem ak.new{k l v:Int}{d:List Int}{n:Nat}{xs:List aj}{s:Int}(h0:0≤s)(h1:s<(n:Nat)):ak (xs++[bB k l v d n]) ((xs.length:Nat),s):=by
 refine⟨by omega,by rw[qA,qJ];show((xs.length:Nat):Int)<_;omega,h0,?_⟩;rw[pJ (by simp)];simpa[bB,aj.aJ]using h1
theorem nE{xs ys:List aj}{p:aF}(h:p.1.toNat<xs.length):au (xs++ys) p=au xs p:=by unfold au;rw[dA h]
theorem Gf{xs:List aj}{p q r:aF}(hp:ak xs p)(hr:ak xs r):au (aL xs p q) r=if p=r then q else au xs r:=by
 obtain⟨p1,p2,p3,p4⟩:=hp;obtain⟨r1,r2,r3,r4⟩:=hr;unfold au;rw[eG]
 by_cases h:p.1.toNat=r.1.toNat
 ·have e:p.1=r.1:=by omega
  rw[if_pos ⟨h,by omega⟩];show elt (dflt aM) ((ah xs p.1).2.2.2.2.set p.2.toNat q) r.2=_;rw[Un]
  by_cases h2:p.2.toNat=r.2.toNat
  ·have e2:p.2=r.2:=by omega
   rw[if_pos ⟨h2,by simp only[aj.aJ]at p4;omega⟩,if_pos (Prod.ext e e2)]
  ·rw[if_neg (fun hh=>h2 hh.1),if_neg (fun hh=>h2 (by rw[hh])),e]
 ·rw[if_neg (fun hh=>h hh.1),if_neg (fun hh=>h (by rw[hh]))]
theorem jC{xs:List aj}{p q r:aF}(hp:ak xs p)(hq:ak xs q)(hr:ak xs r):au (bL xs p q) r=if q=r then p else if p=r then q else au xs r:=by
 unfold bL;rw[Gf hq.set hr.set,Gf hp hr]
theorem ak.unset{xs:List aj}{p q r:aF}(h:ak (aL xs p q) r):ak xs r:=by
 unfold ak at h ⊢
 rwa[dh,nM]at h
theorem ak.unlink{xs:List aj}{p q r:aF}(h:ak (bL xs p q) r):ak xs r:=h.unset.unset
theorem aW.link{xs:List aj}{p q:aF}(h:aW xs)(hp:ak xs p)(hq:ak xs q):aW (bL xs p q):=fun r hr=>by
 have hr':=hr.unlink;rw[jC hp hq hr'];split
 ·exact hp.link
 ·split
  ·exact hq.link
  ·exact(h r hr').link
theorem aW.move{xs:List aj}{p q:aF}(h:aW xs)(hp:ak xs p)(hq:ak xs q):aW (dG xs p q):=h.link (h p hp) hq
theorem ak.move{xs:List aj}{p q r:aF}(h:ak xs r):ak (dG xs p q) r:=h.link
theorem ak.join{xs:List aj}{p q r:aF}(h:ak xs r):ak (aU xs p q) r:=by
 unfold aU;cases ((au xs p).1==q.1&&(au xs p).2==q.2)with
 |true=>exact h
 |false=>exact h.link
theorem aW.join{xs:List aj}{p q:aF}(h:aW xs)(hp:ak xs p)(hq:ak xs q):aW (aU xs p q):=by
 unfold aU;cases ((au xs p).1==q.1&&(au xs p).2==q.2)with
 |true=>exact h
 |false=>exact h.link (h p hp) (h q hq)
theorem aW.add{xs:List aj}(h:aW xs)(h0:ak xs (0,0))(k l v:Int)(d:List Int)(n:Nat):aW (xs++[bB k l v d n]):=fun r hr=>by
 by_cases hlt:r.1.toNat<xs.length
 ·rw[nE hlt];obtain⟨r1,r2,r3,r4⟩:=hr;rw[dA hlt]at r4;exact(h r ⟨r1,by omega,r3,r4⟩).app
 ·obtain⟨r1,r2,r3,r4⟩:=hr;rw[qA,qJ]at r2;have e:r.1.toNat=xs.length:=by omega
  have hp:au (xs++[bB k l v d n]) r=(0,0):=by
   unfold au;rw[pJ e]at r4 ⊢;simp only[bB,aj.aJ,List.length_replicate]at r4;unfold elt;rw[qC];simp only[bB,aj.aJ];rw[List.getElem?_replicate];split<;>rfl
  rw[hp];exact h0.app
theorem jk(xs:List aj)(p q:aF):(dG xs p q).length=xs.length:=jf _ _ _
theorem lS(xs:List aj)(p q:aF):(aU xs p q).length=xs.length:=by
 unfold aU;cases ((au xs p).1==q.1&&(au xs p).2==q.2)<;>simp[jf]
theorem kX{xs:List aj}{p q a b:aF}(hp:ak xs p)(hq:ak xs q)(hn:p≠q):aL (aL xs p a) q b=aL (aL xs q b) p a:=by
 obtain⟨p1,p2,p3,p4⟩:=hp;obtain⟨q1,q2,q3,q4⟩:=hq
 by_cases h:p.1.toNat=q.1.toNat
 ·have e:p.1=q.1:=by omega
  have h2:p.2.toNat≠q.2.toNat:=fun h2=>hn (Prod.ext e (by omega))
  have k1:ah (aL xs p a) q.1=((ah xs p.1).1,(ah xs p.1).2.1,(ah xs p.1).2.2.1,(ah xs p.1).2.2.2.1,(ah xs p.1).2.2.2.2.set p.2.toNat a):=by
   rw[eG,if_pos ⟨h,by omega⟩]
  have k2:ah (aL xs q b) p.1=((ah xs q.1).1,(ah xs q.1).2.1,(ah xs q.1).2.2.1,(ah xs q.1).2.2.2.1,(ah xs q.1).2.2.2.2.set q.2.toNat b):=by
   rw[eG,if_pos ⟨h.symm,by omega⟩]
  rw[show aL (aL xs p a) q b=(aL xs p a).set q.1.toNat ((ah (aL xs p a) q.1).1,(ah (aL xs p a) q.1).2.1,(ah (aL xs p a) q.1).2.2.1,(ah (aL xs p a) q.1).2.2.2.1,(ah (aL xs p a) q.1).2.2.2.2.set q.2.toNat b) from rfl,show aL (aL xs q b) p a=(aL xs q b).set p.1.toNat ((ah (aL xs q b) p.1).1,(ah (aL xs q b) p.1).2.1,(ah (aL xs q b) p.1).2.2.1,(ah (aL xs q b) p.1).2.2.2.1,(ah (aL xs q b) p.1).2.2.2.2.set p.2.toNat a) from rfl,k1,k2];unfold aL;rw[h,List.set_set,List.set_set,e]
  simp only[];rw[List.set_comm _ _ h2]
 ·have k1:ah (aL xs p a) q.1=ah xs q.1:=by rw[eG,if_neg fun hh=>h hh.1]
  have k2:ah (aL xs q b) p.1=ah xs p.1:=by rw[eG,if_neg fun hh=>h hh.1.symm]
  rw[show aL (aL xs p a) q b=(aL xs p a).set q.1.toNat ((ah (aL xs p a) q.1).1,(ah (aL xs p a) q.1).2.1,(ah (aL xs p a) q.1).2.2.1,(ah (aL xs p a) q.1).2.2.2.1,(ah (aL xs p a) q.1).2.2.2.2.set q.2.toNat b) from rfl,show aL (aL xs q b) p a=(aL xs q b).set p.1.toNat ((ah (aL xs q b) p.1).1,(ah (aL xs q b) p.1).2.1,(ah (aL xs q b) p.1).2.2.1,(ah (aL xs q b) p.1).2.2.2.1,(ah (aL xs q b) p.1).2.2.2.2.set p.2.toNat a) from rfl,k1,k2];unfold aL;rw[List.set_comm _ _ h]
theorem uN{xs:List aj}{p q:aF}(hp:ak xs p)(hq:ak xs q):bL xs p q=bL xs q p:=by
 by_cases h:p=q
 ·rw[h]
 ·unfold bL;exact kX hp hq h
def iZ(d:List Int)(i:Int):Int:=elt (dflt (.int .i64)) d i
def bG(xs:List aj)(x y:Int):List aj:=
 bif (ah xs y).1==7 then dG (dG (xs++[bB 8 (ah xs y).2.1 (ah xs y).2.2.1 [(ah xs x).2.2.1] 2]) (y,1) ((xs.length:Nat),0)) (y,2) ((xs.length:Nat),1)
 else dG (xs++[bB 6 0 (wE (ah xs y).2.2.1 (iZ (ah xs y).2.2.2.1 0) (ah xs x).2.2.1) [] 1]) (y,1) ((xs.length:Nat),0)
def Bg:aj:=(0,0,0,[],[])
def bC(xs:List aj)(a:Int):List aj:=xs.set a.toNat Bg
def mX(x c d:Int)(xs:List aj)(i:Nat):List aj:=bL (bL (xs++[bB 4 (ah xs x).2.1 0 [] 3]) ((xs.length:Nat),1) (c,(i:Nat))) ((xs.length:Nat),2) (d,(i:Nat))
def dJ(x c d:Int)(xs:List aj):Nat→List aj
 |0=>xs
 |k+1=>mX x c d (dJ x c d xs k) (k+1)
def dw(y:Int)(b:Nat)(xs:List aj):Nat→List aj
 |0=>xs
 |k+1=>dG (dw y b xs k) (y,((k:Nat):Int)+1) (((b+k:Nat):Int),0)
def lZ(xs:List aj)(y:Int):aj:=bB (ah xs y).1 (ah xs y).2.1 (ah xs y).2.2.1 (ah xs y).2.2.2.1 (ah xs y).2.2.2.2.length
def dup2(xs:List aj)(y:Int):List aj:=xs++[lZ xs y]++[lZ xs y]
def dup3(xs:List aj)(x y:Int):List aj:=dJ x ((xs.length:Nat)) ((xs.length+1:Nat)) (dup2 xs y) ((ah xs y).2.2.2.2.length-1)
def kE(xs:List aj)(x y:Int):List aj:=dG (dG (dup3 xs x y) (x,1) ((xs.length:Nat),0)) (x,2) ((xs.length+1:Nat),0)
def bI(xs:List aj)(x y:Int):List aj:=dw y (xs.length+2) (kE xs x y) ((ah xs y).2.2.2.2.length-1)
def jc(b k:Nat):List Int:=(List.range k).map fun j=>((b+j:Nat):Int)
theorem CF(b k:Nat):jc b (k+1)=jc b k++[((b+k:Nat):Int)]:=by simp[jc,List.range_succ]
theorem lM(b k:Nat):(jc b k).length=k:=by simp[jc]
theorem FK{b k m:Nat}(h:k<m):elt (0:Int) (jc b m) (k:Nat)=((b+k:Nat):Int):=by
 unfold elt jc;rw[qK,qC,List.getElem?_map,List.getElem?_range h];rfl
theorem Lm(x c d:Int)(xs:List aj)(i:Nat):(mX x c d xs i).length=xs.length+1:=by unfold mX;rw[jf,jf,qA];rfl
theorem iM(x c d:Int)(xs:List aj):∀k,(dJ x c d xs k).length=xs.length+k
 |0=>rfl
 |k+1=>by unfold dJ;rw[Lm,iM x c d xs k];omega
theorem FC{x c d:Int}{xs:List aj}{i:Nat}{p:aF}(h:ak xs p):ak (mX x c d xs i) p:=h.app.link.link
theorem bW{x c d:Int}{xs:List aj}{p:aF}(h:ak xs p):∀k,ak (dJ x c d xs k) p
 |0=>h
 |k+1=>FC (bW h k)
theorem Ll{x c d:Int}{xs:List aj}{i:Nat}(h:aW xs)(h0:ak xs (0,0))(hc:ak xs (c,(i:Nat)))(hd:ak xs (d,(i:Nat))):aW (mX x c d xs i):=
 ((h.add h0 4 (ah xs x).2.1 0 [] 3).link (ak.new (by decide) (by decide)) hc.app).link (ak.link (ak.new (by decide) (by decide))) hd.app.link
theorem lK{x c d:Int}{xs:List aj}(h:aW xs)(h0:ak xs (0,0)):∀k,(∀i:Nat,i≤k→ak xs (c,(i:Nat))∧ak xs (d,(i:Nat)))→aW (dJ x c d xs k)
 |0,_=>h
 |k+1,hk=>Ll (lK h h0 k fun i hi=>hk i (by omega)) (bW h0 k) (bW (hk (k+1) (Nat.le_refl _)).1 k) (bW (hk (k+1) (Nat.le_refl _)).2 k)
theorem zf(y:Int)(b:Nat)(xs:List aj):∀k,(dw y b xs k).length=xs.length
 |0=>rfl
 |k+1=>by unfold dw;rw[jk,zf y b xs k]
theorem eZ{y:Int}{b:Nat}{xs:List aj}{p:aF}(h:ak xs p):∀k,ak (dw y b xs k) p
 |0=>h
 |k+1=>(eZ h k).move
theorem kF{y:Int}{b:Nat}{xs:List aj}(h:aW xs):∀k,(∀i:Nat,i<k→ak xs (y,((i:Nat):Int)+1)∧ak xs (((b+i:Nat):Int),0))→aW (dw y b xs k)
 |0,_=>h
 |k+1,hk=>(kF h k fun i hi=>hk i (by omega)).move (eZ (hk k (by omega)).1 k) (eZ (hk k (by omega)).2 k)
theorem gF(xs:List aj)(y:Int):(dup2 xs y).length=xs.length+2:=by unfold dup2;simp
theorem mE{xs:List aj}{y:Int}{p:aF}(h:ak xs p):ak (dup2 xs y) p:=h.app.app
theorem qh{xs:List aj}{y:Int}{i:Int}(h0:0≤i)(h1:i<((ah xs y).2.2.2.2.length:Nat)):ak (dup2 xs y) (((xs.length:Nat):Int),i):=(ak.new h0 h1).app
theorem qj{xs:List aj}{y:Int}{i:Int}(h0:0≤i)(h1:i<((ah xs y).2.2.2.2.length:Nat)):ak (dup2 xs y) (((xs.length+1:Nat):Int),i):=by
 have:=ak.new (xs:=xs++[lZ xs y]) (k:=(ah xs y).1) (l:=(ah xs y).2.1) (v:=(ah xs y).2.2.1) (d:=(ah xs y).2.2.2.1) h0 h1;rw[qA,qJ]at this;exact this
theorem vU{xs:List aj}{y:Int}(h:aW xs)(h0:ak xs (0,0)):aW (dup2 xs y):=(h.add h0 _ _ _ _ _).add h0.app _ _ _ _ _
theorem ql{x:Int}{c d:Int}{xs:List aj}:∀{k i:Nat},i<k→ak (dJ x c d xs k) (((xs.length+i:Nat):Int),0)
 |0,i,h=>by omega
 |k+1,i,h=>by
  by_cases e:i=k
  ·subst e;have h2:=(ak.new (xs:=dJ x c d xs i) (k:=4) (l:=(ah (dJ x c d xs i) x).2.1) (v:=0) (d:=[]) (n:=3) (s:=0) (by decide) (by decide)).link (p:=(((dJ x c d xs i).length:Nat),1)) (q:=(c,((i+1:Nat):Int)));have h3:=h2.link (p:=(((dJ x c d xs i).length:Nat),2)) (q:=(d,((i+1:Nat):Int)));rw[iM]at h3;unfold dJ mX;rw[iM];exact h3
  ·exact FC (ql (by omega))
def iN(b:Nat):Nat→aF
 |0=>(((b-1:Nat):Int),0)
 |k+1=>(((b+k:Nat):Int),2)
def pK(lv:Int)(b:Nat)(xs:List aj):Nat→List aj
 |0=>xs
 |k+1=>bL (pK lv b xs k++[bB 3 lv 0 [] 3]) (((b+k:Nat):Int),0) (iN b k)
def Cn(x:Int)(b:Nat)(xs:List aj):Nat→List aj
 |0=>xs
 |k+1=>dG (Cn x b xs k) (x,((k:Nat):Int)+1) (((b+k:Nat):Int),1)
def bD(xs:List aj)(y i:Int):List aj:=xs++[bB 12 (ah xs y).2.1 (iZ (ah xs y).2.2.2.1 i) [] 1]
def jN(xs:List aj)(x y:Int):List aj:=
 bif (ah xs x).1==6 then dG (bD xs y (bif (ah xs x).2.2.1==0 then 1 else 0)) (y,1) ((xs.length:Nat),0)
 else dG (Cn x (xs.length+1) (pK (ah xs y).2.1 (xs.length+1) (bD xs y (ah xs x).2.2.1) ((ah xs x).2.2.2.2.length-1)) ((ah xs x).2.2.2.2.length-1)) (y,1) (iN (xs.length+1) ((ah xs x).2.2.2.2.length-1))
theorem wO(lv:Int)(b:Nat)(xs:List aj):∀k,(pK lv b xs k).length=xs.length+k
 |0=>rfl
 |k+1=>by unfold pK;rw[jf,qA,wO lv b xs k];simp;omega
theorem Co{lv:Int}{b:Nat}{xs:List aj}{p:aF}(h:ak xs p):∀k,ak (pK lv b xs k) p
 |0=>h
 |k+1=>(Co h k).app.link
theorem yY{lv:Int}{xs:List aj}{s:Int}(h0:0≤s)(h1:s<3):∀{k i:Nat},i<k→ak (pK lv xs.length xs k) (((xs.length+i:Nat):Int),s)
 |0,i,h=>by omega
 |k+1,i,h=>by
  by_cases e:i=k
  ·subst e;have:=(ak.new (xs:=pK lv xs.length xs i) (k:=3) (l:=lv) (v:=0) (d:=[]) (n:=3) h0 (by omega)).link (p:=(((xs.length+i:Nat):Int),0)) (q:=iN xs.length i);rw[wO]at this;exact this
  ·exact(yY h0 h1 (by omega:i<k)).app.link
theorem Fv{lv:Int}{xs:List aj}(hr:ak xs (iN xs.length 0)):∀k,ak (pK lv xs.length xs k) (iN xs.length k)
 |0=>hr
 |k+1=>yY (by decide) (by decide) (Nat.lt_succ_self k)
theorem GX{lv:Int}{xs:List aj}(h:aW xs)(h0:ak xs (0,0))(hr:ak xs (iN xs.length 0)):∀k,aW (pK lv xs.length xs k)
 |0=>h
 |k+1=>by
  unfold pK;have:=ak.new (xs:=pK lv xs.length xs k) (k:=3) (l:=lv) (v:=0) (d:=[]) (n:=3) (s:=0) (by decide) (by decide);rw[wO]at this;exact((GX h h0 hr k).add (Co h0 k) _ _ _ _ _).link this (Fv hr k).app
theorem MP(x:Int)(b:Nat)(xs:List aj):∀k,(Cn x b xs k).length=xs.length
 |0=>rfl
 |k+1=>by unfold Cn;rw[jk,MP x b xs k]
theorem mh{x:Int}{b:Nat}{xs:List aj}{p:aF}(h:ak xs p):∀k,ak (Cn x b xs k) p
 |0=>h
 |k+1=>(mh h k).move
theorem BN{x:Int}{b:Nat}{xs:List aj}(h:aW xs):∀k,(∀i:Nat,i<k→ak xs (x,((i:Nat):Int)+1)∧ak xs (((b+i:Nat):Int),1))→aW (Cn x b xs k)
 |0,_=>h
 |k+1,hk=>(BN h k fun i hi=>hk i (by omega)).move (mh (hk k (by omega)).1 k) (mh (hk k (by omega)).2 k)
theorem pO(xs:List aj)(y i:Int):(bD xs y i).length=xs.length+1:=by simp[bD]
def fG(b:Int)(xs:List aj)(i:Nat):List aj:=(xs.take i).map (iR b)++xs.drop i
theorem nG(b:Int)(xs:List aj)(i:Nat):(fG b xs i).length=xs.length:=by unfold fG;simp;omega
theorem Ec{b:Int}{xs:List aj}{i:Nat}(h:i<xs.length):ah (fG b xs i) (i:Nat)=ah xs (i:Nat):=by
 unfold ah elt fG;rw[qK,qC,qC,qL (by simp;omega)];simp;rw[show i-min i xs.length=0 by omega,Nat.add_zero]
theorem oN{xs:List aj}{i:Nat}(h:i<xs.length):ah xs (i:Nat)=xs[i]:=by
 unfold ah elt;rw[qK,qC,qB h];rfl
theorem yI{b:Int}{xs:List aj}{i:Nat}(h:i<xs.length):fG b xs (i+1)=(fG b xs i).set i (iR b (ah xs (i:Nat))):=by
 unfold fG;rw[List.set_append_right _ _ (by simp;omega),List.take_add_one,qB h,qZ,oN h];have e:i-((xs.take i).map (iR b)).length=0:=by simp;omega
 rw[e,List.drop_eq_getElem_cons h,List.set_cons_zero];simp
theorem Ed{b:Int}{xs:List aj}{i:Nat}(h:i<xs.length)(hk:bR (ah xs (i:Nat)).1=false):fG b xs (i+1)=fG b xs i:=by
 rw[yI h]
 have:iR b (ah xs (i:Nat))=ah (fG b xs i) (i:Nat):=by
  rw[Ec h];unfold iR;rw[show bR (ah xs (i:Nat)).kind=false from hk];rfl
 rw[this,oN (by rw[nG];exact h)];exact List.set_getElem_self _
theorem mM{b:Int}{xs:List aj}{i:Nat}(h:i<xs.length):fJ b (xs.take (i+1))=(fJ b (xs.take i)&&(!(bR (ah xs (i:Nat)).1)||decide ((ah xs (i:Nat)).2.1+b≤8))):=by
 unfold fJ;rw[List.take_add_one,qB h,List.all_append,oN h];simp
theorem IQ{b:Int}{xs:List aj}(h:fJ b xs=true)(i:Nat):fJ b (xs.take i)=true:=by
 unfold fJ at h ⊢;rw[List.all_eq_true]at h ⊢;exact fun x hx=>h x (List.mem_of_mem_take hx)
abbrev Zz:U:=.pair aR (.pair (.sl aR) .any)
def bO(bk:List (List aj))(i:Int):List aj:=elt ([]:List aj) bk i
def checkN(bk:List (List aj))(xs:List aj)(p:Int×Int):Int×Int×Int×Int:=
 let c:=bg (ah xs p.1) (ah xs p.2)
 let x:=bif c.2 then p.2 else p.1
 let y:=bif c.2 then p.1 else p.2
 bif c.1==8 then(0,0,0,11)else
 bif c.1==7 then(bif decide ((bk.length:Int)≤(ah xs x).2.2.1)then(0,0,0,3)else bif !(fJ (ah xs x).2.1 (bO bk (ah xs x).2.2.1))then(0,0,0,9)else(c.1,x,y,0))
 else(c.1,x,y,0)
def r9(bk:List (List aj))(xs:List aj)(c x y:Int):Int:=
 (dK c (bif c==3 then IntKind.i64.wrap (((ah xs y).2.2.2.2.length:Nat)-1)else bif c==4 then IntKind.i64.wrap (((ah xs y).2.2.2.2.length:Nat)-1)
  else bif c==6 then(bif (ah xs x).1==9 then IntKind.i64.wrap (((ah xs x).2.2.2.2.length:Nat)-1)else 0)else bif c==7 then((bO bk (ah xs x).2.2.1).length:Nat)else 0)).1
def rU(y:Int)(xs:List aj):Nat→List aj
 |0=>xs
 |k+1=>dG (rU y xs k++[bB 5 0 0 [] 1]) (y,((k+1:Nat):Int)) (((xs.length+k:Nat):Int),0)
def gY(xs:List aj)(y:Int):List aj:=rU y xs ((ah xs y).2.2.2.2.length-1)
theorem jO(y:Int)(xs:List aj):∀k,(rU y xs k).length=xs.length+k
 |0=>rfl
 |k+1=>by unfold rU;rw[jk,qA,jO y xs k];simp;omega
theorem nZ{y:Int}{xs:List aj}{p:aF}(h:ak xs p):∀k,ak (rU y xs k) p
 |0=>h
 |k+1=>(nZ h k).app.move
theorem zh{y:Int}{xs:List aj}(k:Nat):ak (rU y xs k++[bB 5 0 0 [] 1]) (((xs.length+k:Nat):Int),0):=by
 have:=ak.new (xs:=rU y xs k) (k:=5) (l:=0) (v:=0) (d:=[]) (n:=1) (s:=0) (by decide) (by decide)
 rwa[jO]at this
theorem wT{y:Int}{xs:List aj}(h:aW xs)(h0:ak xs (0,0)):∀k,(∀i:Nat,i<k→ak xs (y,((i+1:Nat):Int)))→aW (rU y xs k)
 |0,_=>h
 |k+1,hk=>((wT h h0 k fun i hi=>hk i (by omega)).add (nZ h0 k) _ _ _ _ _).move (nZ (hk k (by omega)) k).app (zh k)
theorem Me(xs:List aj)(p q:aF)(i:Int):(ah (bL xs p q) i).2.2.2.2.length=(ah xs i).2.2.2.2.length:=by
 unfold bL;have h1:=nM (aL xs p q) q p i;have h2:=nM xs p q i;exact h1.trans h2
theorem FJ{y:Int}{xs:List aj}(hy:y.toNat<xs.length):∀k,(ah (rU y xs k) y).2.2.2.2.length=(ah xs y).2.2.2.2.length
 |0=>rfl
 |k+1=>by
  unfold rU dG;rw[Me,dA (by rw[jO];omega),FJ hy k]
def Gu(bk:List (List aj)):Prop:=∀i:Nat,(∀j:Nat,0≤(ah (bO bk i) j).2.1∧(ah (bO bk i) j).2.1≤8)
def cZ(b:Int)(a:aj):aj:=(a.1,a.2.1,a.2.2.1,a.2.2.2.1,a.2.2.2.2.map fun p=>(p.1+b,p.2))
def lW(bk:List (List aj))(xs:List aj)(x:Int):List aj:=cB (ah xs x).2.1 (bO bk (ah xs x).2.2.1)
def mG(bk:List (List aj))(xs:List aj)(x y:Int):List aj:=
 bL (xs++((lW bk xs x).drop 1).map (cZ ((xs.length:Nat)-1))) (y,0) ((au (lW bk xs x) (0,0)).1+((xs.length:Nat)-1),(au (lW bk xs x) (0,0)).2)
def gH(bk:List (List aj))(xs:List aj)(c x y:Int):List aj:=
 bif c==1 then aU (aU xs (x,1) (y,1)) (x,2) (y,2)else bif c==2 then aU (aU xs (x,1) (y,1)) (x,2) (y,2)
 else bif c==3 then bI xs x y else bif c==4 then gY xs y else bif c==5 then bG xs x y else bif c==6 then jN xs x y else bif c==7 then mG bk xs x y else xs
def fP(c x y:Int):List Int:=bif c==7 then[x]else[x,y]
structure IntPre(xs:List aj)(c x y:Int):Prop where
 x0:0≤x∧x<(xs.length:Nat)
 y0:0≤y∧y<(xs.length:Nat)
 c12:c=1∨c=2→ak xs (x,1)∧ak xs (x,2)∧ak xs (y,1)∧ak xs (y,2)
 c3:c=3→ak xs (x,1)∧ak xs (x,2)
 px:0<(ah xs x).2.2.2.2.length∧(ah xs x).2.2.2.2.length≤1000
 py:0<(ah xs y).2.2.2.2.length∧(ah xs y).2.2.2.2.length≤1000
 dy:(ah xs y).2.2.2.1.length≤1000000
 c5:c=5→ak xs (y,1)∧((ah xs y).1=7→ak xs (y,2))∧((ah xs y).1≠7→0<(ah xs y).2.2.2.1.length)
 c6:c=6→ak xs (y,1)∧((ah xs x).1=6→(ah xs y).2.2.2.1.length=2)∧((ah xs x).1≠6→0≤(ah xs x).2.2.1∧(ah xs x).2.2.1<((ah xs y).2.2.2.1.length:Nat))
def ow(lv x:Int)(b:Nat)(xs:List aj):Nat→List aj
 |0=>xs
 |k+1=>dG (bL (ow lv x b xs k++[bB 3 lv 0 [] 3]) (iN b k) (((b+k:Nat):Int),0)) (x,((k+1:Nat):Int)) (((b+k:Nat):Int),1)
def dD(xs:List aj)(x y:Int):List aj:=
 bif (ah xs y).1==11 then dG (bD xs y (bif (ah xs x).2.2.1==0 then 1 else 0)) (y,1) ((xs.length:Nat),0)
 else dG (ow (ah xs y).2.1 x (xs.length+1) (bD xs y (ah xs x).2.2.1) ((ah xs x).2.2.2.2.length-1)) (y,1) (iN (xs.length+1) ((ah xs x).2.2.2.2.length-1))
theorem oU(lv x:Int)(b:Nat)(xs:List aj):∀k,(ow lv x b xs k).length=xs.length+k
 |0=>rfl
 |k+1=>by unfold ow;rw[jk,jf,qA,oU lv x b xs k];simp;omega
theorem mq{lv x:Int}{b:Nat}{xs:List aj}{p:aF}(h:ak xs p):∀k,ak (ow lv x b xs k) p
 |0=>h
 |k+1=>(mq h k).app.link.move
theorem MV{lv x:Int}{xs:List aj}{s:Int}(h0:0≤s)(h1:s<3):∀{k i:Nat},i<k→ak (ow lv x xs.length xs k) (((xs.length+i:Nat):Int),s)
 |0,i,h=>by omega
 |k+1,i,h=>by
  by_cases e:i=k
  ·subst e;have:=(ak.new (xs:=ow lv x xs.length xs i) (k:=3) (l:=lv) (v:=0) (d:=[]) (n:=3) h0 (by omega));rw[oU]at this;exact this.link.move
  ·exact(MV h0 h1 (by omega:i<k)).app.link.move
theorem vR{lv x:Int}{xs:List aj}(hr:ak xs (iN xs.length 0)):∀k,ak (ow lv x xs.length xs k) (iN xs.length k)
 |0=>hr
 |k+1=>MV (by decide) (by decide) (Nat.lt_succ_self k)
theorem uJ{lv x:Int}{xs:List aj}(k:Nat){s:Int}(h0:0≤s)(h1:s<3):ak (ow lv x xs.length xs k++[bB 3 lv 0 [] 3]) (((xs.length+k:Nat):Int),s):=by
 have:=ak.new (xs:=ow lv x xs.length xs k) (k:=3) (l:=lv) (v:=0) (d:=[]) (n:=3) h0 (by omega)
 rwa[oU]at this
theorem uK{lv x:Int}{xs:List aj}(h:aW xs)(h0:ak xs (0,0))(hr:ak xs (iN xs.length 0)):∀k,(∀i:Nat,i<k→ak xs (x,((i+1:Nat):Int)))→aW (ow lv x xs.length xs k)
 |0,_=>h
 |k+1,hk=>(((uK h h0 hr k fun i hi=>hk i (by omega)).add (mq h0 k) _ _ _ _ _).link (vR hr k).app (uJ k (by decide) (by decide))).move (mq (hk k (by omega)) k).app.link (uJ k (by decide) (by decide)).link
def wR(lab c d:Int)(xs:List aj)(i:Nat):List aj:=bL (bL (xs++[bB 4 lab 0 [] 3]) ((xs.length:Nat),1) (c,(i:Nat))) ((xs.length:Nat),2) (d,(i:Nat))
def aY(lab c d:Int)(xs:List aj):Nat→List aj
 |0=>xs
 |k+1=>wR lab c d (aY lab c d xs k) (k+1)
theorem J4(xs:List aj)(p q:aF)(i:Int):(ah (bL xs p q) i).2.1=(ah xs i).2.1:=by
 unfold bL
 have h:∀(xs:List aj) (p q:aF),(ah (aL xs p q) i).2.1=(ah xs i).2.1:=fun xs p q=>by
  rw[eG];split
  ·rename_i h;rw[yS h.1.symm]
  ·rfl
 rw[h,h]
theorem jY{x c d:Int}{xs:List aj}(hx:x.toNat<xs.length):∀k,aY (ah xs x).2.1 c d xs k=dJ x c d xs k∧(ah (dJ x c d xs k) x).2.1=(ah xs x).2.1
 |0=>⟨rfl,rfl⟩
 |k+1=>by
  obtain⟨h1,h2⟩:=jY hx k (c:=c) (d:=d);refine⟨?_,?_⟩
  ·unfold aY dJ wR mX;rw[h1,h2]
  ·unfold dJ mX;rw[J4,J4,dA (by rw[iM];omega),h2]
def sV(z:Int):Prop:=0≤z∧z≤1000000
def dV(b:Int)(ps:List aF)(j:Nat):List aF:=(ps.take j).map (fun p=>(p.1+b,p.2))++ps.drop j
theorem iK(b:Int)(ps:List aF)(j:Nat):(dV b ps j).length=ps.length:=by unfold dV;simp;omega
theorem tY{b:Int}{ps:List aF}{j:Nat}(h:j<ps.length):elt (dflt aM) (dV b ps j) (j:Nat)=elt (dflt aM) ps (j:Nat):=by
 unfold elt dV;rw[qK,qC,qC,qL (by simp;omega)];simp;rw[show j-min j ps.length=0 by omega,Nat.add_zero]
theorem rA{b:Int}{ps:List aF}{j:Nat}(h:j<ps.length):dV b ps (j+1)=(dV b ps j).set j ((elt (dflt aM) ps (j:Nat)).1+b,(elt (dflt aM) ps (j:Nat)).2):=by
 have he:elt (dflt aM) ps (j:Nat)=ps[j]:=by
  unfold elt;rw[qK,qC,qB h];rfl
 unfold dV;rw[List.set_append_right _ _ (by simp;omega),List.take_add_one,qB h,qZ,he];have e:j-((ps.take j).map fun p:aF=>(p.1+b,p.2)).length=0:=by simp;omega
 rw[e,List.drop_eq_getElem_cons h,List.set_cons_zero];simp
theorem tX(b:Int)(ps:List aF):dV b ps ps.length=ps.map fun p=>(p.1+b,p.2):=by unfold dV;simp
def jq(lv b:Int)(t:List aj)(k:Nat):List aj:=(((cB lv t).drop 1).take k).map (cZ b)
theorem wU{lv b:Int}{t:List aj}{k:Nat}(h:k+1<t.length):jq lv b t (k+1)=jq lv b t k++[cZ b (iR lv (ah t ((k+1:Nat):Int)))]:=by
 unfold jq cB;rw[List.take_add_one,qZ,List.getElem?_drop,List.getElem?_map,oN h,show 1+k=k+1 by omega,qB h];rfl
theorem zk{lv b:Int}{t:List aj}{k:Nat}(h:k+1≤t.length):(jq lv b t k).length=k:=by unfold jq cB;simp;omega
def eO(t:List aj)(lv:Int)(xs:List aj)(y:Int):List aj:=
 bL (xs++jq lv ((xs.length:Nat)-1) t (t.length-1)) (((xs.length:Nat)-1)+(au t (0,0)).1,(au t (0,0)).2) (y,0)
def iw(x y:aj):Bool:=bif (bif x.1==9 then y.1==10 else false)then decide ((y.2.2.2.1.length:Int)≤x.2.2.1)else false
def mD(x y:aj):Bool:=bif (bif x.1==10 then y.1==9 else false)then decide ((x.2.2.2.1.length:Int)≤y.2.2.1)else false
def bK(x y:aj):Int:=bif iw x y then 8 else bif mD x y then 8 else aV x.1 x.2.1 y.1 y.2.1
def aC(xs:List aj)(a b:Int):Int×Int:=bif aZ (ah xs a).1 (ah xs a).2.1 (ah xs b).1 (ah xs b).2.1==2 then(b,a)else(a,b)
def yx(a b:Int):Int:=bif decide (b<a)then a else b
def lu(t:List aj):Nat→Int
 |0=>0
 |k+1=>yx (lu t k) (ah t (k:Nat)).2.1
def mH(x:aj):Int:=bif x.1==9 then IntKind.i64.wrap ((x.2.2.2.2.length:Nat)-1)else 0
def rF(bk:List (List aj))(c:Int)(x y:aj):Int:=
 bif c==3 then IntKind.i64.wrap ((y.2.2.2.2.length:Nat)-1)else bif c==4 then IntKind.i64.wrap ((y.2.2.2.2.length:Nat)-1)else bif c==6 then mH x else bif c==7 then((bO bk x.2.2.1).length:Nat)else 0
def gK(bk:List (List aj))(x y:aj):Int×Int:=
 bif bK x y==8 then(0,11)else
 bif bK x y==7 then(bif decide ((bk.length:Int)≤x.2.2.1)then(0,3)else bif decide (8<IntKind.i64.wrap (lu (bO bk x.2.2.1) (bO bk x.2.2.1).length+x.2.1))then(0,9)else((dK 7 (rF bk 7 x y)).1,0))
 else((dK (bK x y) (rF bk (bK x y) x y)).1,0)
def bP(xs:List aj):Nat→Nat
 |0=>0
 |k+1=>bif (ah xs (k:Nat)).1 !=0 then bP xs k+1 else bP xs k
theorem tV(xs:List aj):∀k,bP xs k≤k
 |0=>Nat.le_refl _
 |k+1=>by
  have:=tV xs k;unfold bP;cases ((ah xs (k:Nat)).1 !=0)<;>simp<;>omega
def gZ(bk:List (List aj))(xs:List aj)(c x y:Int):List aj:=
 bif c==1 then aU (aU xs (x,1) (y,1)) (x,2) (y,2)else bif c==2 then aU (aU xs (x,1) (y,1)) (x,2) (y,2)
 else bif c==3 then bI xs x y else bif c==4 then gY xs y else bif c==5 then bG xs x y else bif c==6 then dD xs x y else bif c==7 then eO (bO bk (ah xs x).2.2.1) (ah xs x).2.1 xs y else xs
def fO(bk:List (List aj))(xs:List aj)(c x y:Int):List aj:=bif c==7 then bC (gZ bk xs c x y) x else bC (bC (gZ bk xs c x y) x) y
structure GD(xs:List aj)(c x y:Int):Prop extends IntPre xs c x y where
 k5:c=5→(ah xs y).1=7∨(ah xs y).1=8
 k6:c=6→((ah xs y).1=11→(ah xs y).2.2.2.1.length=2)∧((ah xs y).1≠11→0≤(ah xs x).2.2.1∧(ah xs x).2.2.1<((ah xs y).2.2.2.1.length:Nat)∧(ah xs x).1=9)
theorem wV{xs:List aj}{a b:Int}{n:Int}(ha:0≤a∧a<n)(hb:0≤b∧b<n):(0≤(aC xs a b).1∧(aC xs a b).1<n)∧(0≤(aC xs a b).2∧(aC xs a b).2<n):=by
 unfold aC;cases aZ (ah xs a).1 (ah xs a).2.1 (ah xs b).1 (ah xs b).2.1==2
 ·exact⟨ha,hb⟩
 ·exact⟨hb,ha⟩
theorem eH(xs:List aj)(a:Int):(bC xs a).length=xs.length:=List.length_set
theorem xO(xs:List aj)(x y:Int):xs.length≤(bI xs x y).length:=by
 unfold bI kE dup3;rw[zf,jk,jk,iM,gF];omega
theorem Bn(xs:List aj)(x y:Int):xs.length≤(bG xs x y).length:=by
 unfold bG;cases (ah xs y).1==7
 ·rw[qH,jk];simp
 ·rw[qG,jk,jk];simp
theorem Cr(xs:List aj)(x y:Int):xs.length≤(dD xs x y).length:=by
 unfold dD;cases (ah xs y).1==11
 ·rw[qH,jk,oU];unfold bD;simp;omega
 ·rw[qG,jk];unfold bD;simp
def Yy(us:List Value):El (hol 5):=(us.getD 0 undef,us.getD 1 undef,us.getD 2 undef,us.getD 3 undef,us.getD 4 undef)
def kV:Nat→List Value→List (El (hol 5))
 |0,_=>[]
 |n+1,us=>Yy us::kV n (us.drop 5)
theorem xq:∀(n:Nat) (us:List Value),(kV n us).length=n
 |0,_=>rfl
 |n+1,us=>by unfold kV;rw[qI,xq n]
theorem AB:∀(n:Nat) (us:List Value),us.length=n*5→(kV n us).flatMap (enc (hol 5))=us.map D.v
 |0,us,h=>by
  have:us=[]:=List.length_eq_zero_iff.1 (by omega);rw[this];rfl
 |n+1,us,h=>by
  match us,h with
  |a::b::c::d::e::us,h=>
   have ih:=AB n us (by simp only[qI]at h;omega);unfold kV;rw[qU];show _++(kV n us).flatMap (enc (hol 5))=_;rw[ih];rfl
  |[],h=>simp at h
  |[_],h=>simp at h;omega
  |[_,_],h=>simp at h;omega
  |[_,_,_],h=>simp at h;omega
  |[_,_,_,_],h=>simp at h;omega
theorem TN.NP{w:World}:∀{vs us:List Value} {bs:List Nat},TN w (vs.map D.v) bs us→us=vs∧bs=[]
 |[],us,bs,h=>by obtain⟨rfl,rfl⟩:=TN.nil.1 h;exact⟨rfl,rfl⟩
 |v::vs,us,bs,h=>by
  rw[List.map_cons]at h;obtain⟨b1,b2,u,us',rfl,rfl,h1,h2⟩:=TN.cons.1 h;obtain⟨rfl,rfl,_⟩:=T1.v.1 h1;obtain⟨rfl,rfl⟩:=TN.NP h2;exact⟨rfl,rfl⟩
theorem XY{w:World}{x:Value}{ds:List D}{bs:List Nat}{us:List Value}(h:TN w (.v x::ds) bs us):∃us',us=x::us'∧TN w ds bs us':=by
 obtain⟨b1,b2,u,us',e1,e2,h1,h2⟩:=TN.cons.1 h;obtain⟨e3,e4,_⟩:=T1.v.1 h1;exact⟨us',by rw[e1,e3],by rw[e2,e4];exact h2⟩
theorem Zy{w:World}{d:D}{ds:List D}{bs:List Nat}{us:List Value}(h:TN w (d::ds) bs us):∃u us' b2,us=u::us'∧TN w ds b2 us':=by
 obtain⟨b1,b2,u,us',e1,e2,h1,h2⟩:=TN.cons.1 h;exact⟨u,us',b2,e1,h2⟩
section
variable {cx:Cx}{β:Nat→Value}{w:World}{R:List fE}
theorem Inv.Xd{g t n:Nat}{xs:List aj}{us:List Value}(h:Inv cx.w0 cx.F0 w (Tok.res cx β (.row g t 5 aD xs us)::R))(hl:us.length=xs.length*5):
  Inv cx.w0 cx.F0 w (Tok.res cx β (.row g t 5 (hol 5) (kV xs.length us) us)::Tok.res cx β (.nest n aD xs us)::R):=by
 refine Inv.part h fun F hp=> ?_
 obtain⟨hs,bs,us',rfl,hg,hpre⟩:=hp;have hul:us'.length=xs.length*5:=hg.row.1;have e:us=us':=hpre.eq_of_length (by omega);subst e;refine⟨AJ (β g),bs,fun b hb=>by simp[hb],fun b hb=>by simp[hb],fun b hb=>hg.out b (ko.1 hb),⟨rfl,[],us,by simp,?_,pR _⟩,⟨hg.tn,hg.own⟩⟩;refine⟨?_,?_,Own.nil _ _,by simp⟩
 ·have:=hg.row;show World.ownsRow w 0 t 5 (β g) (kV xs.length us).length us;rw[xq];exact this
 ·show TN w ((kV xs.length us).flatMap (enc (hol 5))) [] us;rw[AB _ _ hl];exact TN.scalars hg.tn.E8
def rW(ys:List aj)(us:List Value)(j:Nat):El (hol 5):=(.int .i64 (ah ys (j:Nat)).1,.int .i64 (ah ys (j:Nat)).2.1,.int .i64 (ah ys (j:Nat)).2.2.1,us.getD (j*5+3) undef,us.getD (j*5+4) undef)
theorem zZ:∀{ys:List aj} {us:List Value} {bs:List Nat},TN w (ys.flatMap (enc aD)) bs us→us.length=ys.length*5∧((List.range ys.length).map (rW ys us)).flatMap (enc (hol 5))=us.map D.v
 |[],us,bs,h=>by obtain⟨rfl,rfl⟩:=TN.nil.1 h;exact⟨rfl,rfl⟩
 |y::ys,us,bs,h=>by
  rw[qU]at h;obtain⟨b1,b2,u1,u2,rfl,rfl,h1,h2⟩:=TN.append.1 h;have h1':TN w [.v (.int .i64 y.1),.v (.int .i64 y.2.1),.v (.int .i64 y.2.2.1),.sl y.2.2.2.1.length (List.flatMap (enc (.int .i64)) y.2.2.2.1),.sl y.2.2.2.2.length (List.flatMap (enc aM) y.2.2.2.2)] b1 u1:=h1;obtain⟨v1,rfl,k3⟩:=XY h1';obtain⟨v2,rfl,k4⟩:=XY k3;obtain⟨v3,rfl,k5⟩:=XY k4;obtain⟨a4,v4,b4,rfl,k6⟩:=Zy k5;obtain⟨a5,v5,b5,rfl,k7⟩:=Zy k6;obtain⟨rfl,rfl⟩:=TN.nil.1 k7;obtain⟨k1,k2⟩:=zZ h2;refine⟨by simp only[qA,qI,qR];omega,?_⟩
  rw[qI,List.range_succ_eq_map,List.map_cons,qU,List.map_map]
  have e:(List.range ys.length).map (rW (y::ys) ([.int .i64 y.1,.int .i64 y.2.1,.int .i64 y.2.2.1,a4,a5]++u2)∘Nat.succ)=(List.range ys.length).map (rW ys u2):=List.map_congr_left fun j _=>by
   have e1:ah (y::ys) ((j.succ:Nat):Int)=ah ys (j:Nat):=by unfold ah elt;rw[qK,qK];rfl
   have e2:∀o:Nat,([.int .i64 y.1,.int .i64 y.2.1,.int .i64 y.2.2.1,a4,a5]++u2:List Value).getD (j.succ*5+o) undef=u2.getD (j*5+o) undef:=fun o=>by
    rw[qC,qL (by simp only[qI,qR];omega),qC];simp only[qI,qR];rw[show j.succ*5+o-(0+1+1+1+1+1)=j*5+o by omega]
   simp only[Function.comp,rW];rw[e1,e2,e2]
  have e':(List.range ys.length).map (rW (y::ys) (Value.int .i64 y.1::Value.int .i64 y.2.1::Value.int .i64 y.2.2.1::a4::a5::[]++u2)∘Nat.succ)=(List.range ys.length).map (rW ys u2):=e;rw[e',k2,qZ];rfl
theorem Inv.merge{gA gB t t' n:Nat}{xs ys:List aj}{usA usB preA:List Value}{hs:List (El (hol 5))}(h:Inv cx.w0 cx.F0 w (Tok.res cx β (.row gA t 5 (hol 5) (kV xs.length usA++hs) preA)::Tok.res cx β (.nest n aD xs usA)::Tok.res cx β (.row gB t' 5 aD ys usB)::R))
  (hlA:usA.length=xs.length*5) (hlB:usB.length=ys.length*5) (h0:0<ys.length) (hh:hs=(List.range (ys.length-1)).map fun j=>rW ys usB (j+1)):
  Inv cx.w0 cx.F0 w (Tok.res cx β (.row gA t 5 aD (xs++ys.drop 1) usA)::R):=by
 have hB:=h.perm ((List.Perm.cons _ (List.Perm.swap _ _ _)).trans (List.Perm.swap _ _ _));obtain⟨F,hp,k,_⟩:=hB.take1;obtain⟨_,bs,us',rfl,hg,hpre⟩:=hp;have hul:us'.length=ys.length*5:=hg.row.1;have e:usB=us':=hpre.eq_of_length (by omega);subst e
 match ys,h0,hg,hh,hlB with
 |y::ys,h0,hg,hh,hlB=>
  have htn:TN w ((y::ys).flatMap (enc aD)) bs usB:=hg.tn;obtain⟨q1,q2⟩:=zZ htn;rw[qU]at htn;obtain⟨b1,b2,u1,u2,rfl,rfl,h1,h2⟩:=TN.append.1 htn
  have hu1:u1.length=5:=by
   have:=(zZ h2).1;rw[qA]at q1;simp only[qI]at q1;omega
  have hcell:hs.flatMap (enc (hol 5))=u2.map D.v:=by
   rw[qI,List.range_succ_eq_map,List.map_cons,qU,List.map_map,qZ]at q2;have l1:(enc (hol 5) (rW (y::ys) (u1++u2) 0)).length=(u1.map D.v).length:=by rw[qV,hu1];rfl
   have:=(List.append_inj q2 l1).2;rw[hh];exact this
  have hN:Inv cx.w0 cx.F0 w (gu u2 (ys.flatMap (enc aD))::Tok.res cx β (.row gA t 5 (hol 5) (kV xs.length usA++hs) preA)::Tok.res cx β (.nest n aD xs usA)::R):=k _ b2 (fun b hb=>by simp[hb]) ⟨h2,(Own.parts hg.own).2.1⟩
  have hM:Inv cx.w0 cx.F0 w (gu (usA++u2) (xs.flatMap (enc aD)++ys.flatMap (enc aD))::Tok.res cx β (.row gA t 5 (hol 5) (kV xs.length usA++hs) preA)::R):=by
   have:Inv cx.w0 cx.F0 w (gu usA (xs.flatMap (enc aD))::gu u2 (ys.flatMap (enc aD))::Tok.res cx β (.row gA t 5 (hol 5) (kV xs.length usA++hs) preA)::R):=hN.perm (by
    refine(List.Perm.cons _ (List.Perm.swap _ _ _)).trans (List.Perm.swap _ _ _))
   exact this.yj
  refine hM.swap.join fun F1 F2 hp1 hp2 hd=> ?_
  obtain⟨_,bA,uA,rfl,gA',_⟩:=hp1;have hAtn:TN w ((kV xs.length usA++hs).flatMap (enc (hol 5))) bA uA:=gA'.tn;rw[List.flatMap_append,AB _ _ hlA,hcell,←qZ]at hAtn;obtain⟨rfl,rfl⟩:=TN.NP hAtn;have hhl:hs.length=ys.length:=by rw[hh,qV,List.length_range];rfl
  refine⟨AJ (β gA)++F2,fun b hb=>by
   rcases qT.1 hb with hb|hb
   ·exact .inl (by simp[hb])
   ·exact .inr hb,⟨rfl,F2,usA++u2,rfl,⟨?_,?_,hp2.2,fun k hk hm=>hd k (by simp[ko.2 hk]) hm⟩,List.prefix_append _ _⟩⟩
  ·have:=gA'.row;show World.ownsRow w 0 t 5 (β gA) (xs++ys).length (usA++u2);rw[show(kV xs.length usA++hs).length=(xs++ys).length by rw[qA,xq,hhl,qA]]at this;exact this
  ·have:=hp2.1;rw[←List.flatMap_append]at this;exact this
end
end Go.Tr
namespace Go.Tr
open Go Go.RowKit
def sU(b:Int)(t:List aj):Nat→List aj
 |0=>t
 |k+1=>(sU b t k).set (1+k) (cZ b (ah t ((1+k:Nat):Int)))
def Pj(b:Int)(a:aj)(j:Nat):aj:=(a.1,a.2.1,a.2.2.1,a.2.2.2.1,dV b a.2.2.2.2 j)
def Di(b:Int)(t:List aj)(k j:Nat):List aj:=(sU b t k).set (1+k) (Pj b (ah t ((1+k:Nat):Int)) j)
section
variable {b:Int}{t:List aj}
theorem sD:∀k,(sU b t k).length=t.length
 |0=>rfl
 |k+1=>by unfold sU;rw[List.length_set,sD k]
theorem ND(k j:Nat):(Di b t k j).length=t.length:=by unfold Di;rw[List.length_set,sD k]
theorem zD:∀(k i:Nat),(sU b t k)[i]? =if 1≤i∧i≤k then(t[i]?).map (cZ b)else t[i]?
 |0,i=>by rw[if_neg (by omega)];rfl
 |k+1,i=>by
  unfold sU;rw[List.getElem?_set,sD,zD k i]
  by_cases h:1+k=i
  ·subst h;rw[if_pos (rfl:1+k=1+k)]
   by_cases h2:1+k<t.length
   ·rw[if_pos h2,if_pos (by omega:1≤1+k∧1+k≤k+1),qB h2];show _=some (cZ b _)
    congr 2
    unfold ah elt;rw[qK,qC,qB h2];rfl
   ·rw[if_neg h2,if_pos (by omega:1≤1+k∧1+k≤k+1),List.getElem?_eq_none (by omega)];rfl
  ·rw[if_neg h]
   by_cases h2:1≤i∧i≤k
   ·rw[if_pos h2,if_pos (by omega)]
   ·rw[if_neg h2,if_neg (by omega)]
theorem yR(xs:List aj)(i:Nat):ah xs (i:Nat)=(xs[i]?).getD (dflt aD):=by
 unfold ah elt;rw[qK,qC]
theorem Xq{k i:Nat}(h:k<i):ah (sU b t k) (i:Nat)=ah t (i:Nat):=by
 rw[yR,yR,zD,if_neg (by omega)]
theorem Ry(k i:Nat):(ah (sU b t k) (i:Nat)).1=(ah t (i:Nat)).1∧(ah (sU b t k) (i:Nat)).2.1=(ah t (i:Nat)).2.1∧(ah (sU b t k) (i:Nat)).2.2.1=(ah t (i:Nat)).2.2.1:=by
 rw[yR,yR,zD];split
 ·cases t[i]? <;>exact⟨rfl,rfl,rfl⟩
 ·exact⟨rfl,rfl,rfl⟩
theorem Pk(k:Nat)(us:List Value)(i:Nat):rW (sU b t k) us i=rW t us i:=by
 obtain⟨h1,h2,h3⟩:=Ry (b:=b) (t:=t) k i;unfold rW;rw[h1,h2,h3]
theorem Rv{k j:Nat}(h:1+k<t.length):ah (Di b t k j) ((1+k:Nat):Int)=Pj b (ah t ((1+k:Nat):Int)) j:=by
 unfold Di;rw[kR,if_pos ⟨by rw[qK],by rw[sD];exact h⟩]
theorem Rx(k:Nat):Di b t k 0=sU b t k:=by
 unfold Di;apply List.ext_getElem?;intro i;rw[List.getElem?_set,sD]
 by_cases h:1+k=i
 ·subst h;rw[if_pos (rfl:1+k=1+k),zD,if_neg (by omega:¬(1≤1+k∧1+k≤k))]
  by_cases h2:1+k<t.length
  ·rw[if_pos h2,qB h2]
   congr 1
   rw[yR,qB h2];unfold Pj dV;simp
  ·rw[if_neg h2,List.getElem?_eq_none (by omega)]
 ·rw[if_neg h]
theorem UM(k:Nat):Di b t k (ah t ((1+k:Nat):Int)).2.2.2.2.length=sU b t (k+1):=by
 show(sU b t k).set (1+k) (Pj b (ah t ((1+k:Nat):Int)) (ah t ((1+k:Nat):Int)).2.2.2.2.length)=(sU b t k).set (1+k) (cZ b (ah t ((1+k:Nat):Int)))
 congr 1
 unfold Pj cZ;rw[tX]
theorem Rw{k j:Nat}(h:1+k<t.length)(hj:j<(ah t ((1+k:Nat):Int)).2.2.2.2.length){z:Int}(hz:z=(elt (dflt aM) (ah t ((1+k:Nat):Int)).2.2.2.2 (j:Nat)).1+b):
  (Di b t k j).set (1+k) ((ah (Di b t k j) ((1+k:Nat):Int)).1,(ah (Di b t k j) ((1+k:Nat):Int)).2.1,(ah (Di b t k j) ((1+k:Nat):Int)).2.2.1,(ah (Di b t k j) ((1+k:Nat):Int)).2.2.2.1,(ah (Di b t k j) ((1+k:Nat):Int)).2.2.2.2.set j (z,(elt (dflt aM) (ah (Di b t k j) ((1+k:Nat):Int)).2.2.2.2 (j:Nat)).2))=Di b t k (j+1):=by
 rw[Rv h];unfold Di;rw[List.set_set]
 congr 1
 unfold Pj;rw[rA hj,tY hj,hz]
theorem Xp{k j:Nat}(h:1+k<t.length)(hj:j<(ah t ((1+k:Nat):Int)).2.2.2.2.length):elt (dflt aM) (ah (Di b t k j) ((1+k:Nat):Int)).2.2.2.2 (j:Nat)=elt (dflt aM) (ah t ((1+k:Nat):Int)).2.2.2.2 (j:Nat):=by
 rw[Rv h];exact tY hj
theorem Rz:(sU b t (t.length-1)).drop 1=(t.drop 1).map (cZ b):=by
 apply List.ext_getElem?;intro i;rw[List.getElem?_drop,List.getElem?_map,List.getElem?_drop,zD]
 by_cases h:1+i<t.length
 ·rw[if_pos (by omega)]
 ·rw[List.getElem?_eq_none (by omega:t.length≤1+i)];split<;>rfl
def Ls(t:List aj)(us:List Value)(k:Nat):List (El (hol 5)):=(List.range k).map fun j=>rW t us (j+1)
theorem QM(us:List Value)(k:Nat):Ls t us (k+1)=Ls t us k++[rW t us (1+k)]:=by
 unfold Ls;rw[List.range_succ,qZ,Nat.add_comm 1 k];rfl
theorem Us(us:List Value)(k:Nat):(Ls t us k).length=k:=by unfold Ls;simp
theorem Ur{us:List Value}(k:Nat):Ls t us k=(List.range k).map fun j=>rW (sU b t k) us (j+1):=by
 unfold Ls;exact List.map_congr_left fun j _=>(Pk _ _ _).symm
end
end Go.Tr
namespace Go.Tr
open Go Go.RowKit
def ig(L:aF→Prop)(xs:List aj):Prop:=∀p,L p→ak xs p∧L (au xs p)∧au xs (au xs p)=p∧au xs p≠p
theorem ig.congr{L M:aF→Prop}{xs:List aj}(h:ig L xs)(e:∀p,M p↔L p):ig M xs:=fun p hp=>by
 obtain⟨h1,h2,h3⟩:=h p ((e p).1 hp);exact⟨h1,(e _).2 h2,h3⟩
theorem ig.cut{L:aF→Prop}{xs:List aj}(h:ig L xs){a:aF}(ha:L a):ig (fun p=>L p∧p≠a∧p≠au xs a) xs:=fun p ⟨hp,h1,h2⟩=>by
 obtain⟨k1,k2,k3,k4⟩:=h p hp;refine⟨k1,⟨k2,fun e=>h2 (by rw[←e,k3]),fun e=>h1 ?_⟩,k3,k4⟩;have:=congrArg (au xs) e;rw[k3,(h a ha).2.2.1]at this;exact this
theorem eB{p q:aF}(h1:p.1=q.1)(h2:p.2=q.2):p=q:=by cases p;cases q;simp_all
theorem ig.link{L:aF→Prop}{xs:List aj}(h:ig L xs){p q:aF}(hp:ak xs p)(hq:ak xs q)(np:¬L p)(nq:¬L q)(hpq:p≠q):ig (fun r=>L r∨r=p∨r=q) (bL xs p q):=fun r hr=>by
 have key:∀s,L s→ak xs s∧s≠p∧s≠q:=fun s hs=>⟨(h s hs).1,fun e=>np (e▸hs),fun e=>nq (e▸hs)⟩
 rcases hr with hr|rfl|rfl
 ·obtain⟨h1,h2,h3,h5⟩:=h r hr;obtain⟨_,n1,n2⟩:=key r hr;obtain⟨h4,n3,n4⟩:=key _ h2;have e1:au (bL xs p q) r=au xs r:=by rw[jC hp hq h1,if_neg n2.symm,if_neg n1.symm]
  refine⟨h1.link,?_,?_,?_⟩
  ·rw[e1];exact .inl h2
  ·rw[e1,jC hp hq h4,if_neg n4.symm,if_neg n3.symm,h3]
  ·rw[e1];exact h5
 ·have e1:au (bL xs r q) r=q:=by rw[jC hp hq hp,if_neg hpq.symm,if_pos rfl]
  have e2:au (bL xs r q) q=r:=by rw[jC hp hq hq,if_pos rfl]
  exact⟨hp.link,by rw[e1];exact .inr (.inr rfl),by rw[e1,e2],by rw[e1];exact hpq.symm⟩
 ·have e1:au (bL xs p r) r=p:=by rw[jC hp hq hq,if_pos rfl]
  have e2:au (bL xs p r) p=r:=by rw[jC hp hq hp,if_neg hpq.symm,if_pos rfl]
  exact⟨hq.link,by rw[e1];exact .inr (.inl rfl),by rw[e1,e2],by rw[e1];exact hpq⟩
theorem ig.move{L:aF→Prop}{xs:List aj}(h:ig L xs){old now:aF}(ho:L old)(hn:ak xs now)(nn:¬L now):ig (fun r=>(L r∧r≠old)∨r=now) (dG xs old now):=by
 obtain⟨h1,h2,h3,h4⟩:=h old ho;have hne:au xs old≠now:=fun e=>nn (e▸h2)
 have:=(h.cut ho).link (p:=au xs old) (q:=now) (h _ h2).1 hn (fun e=>e.2.2 rfl) (fun e=>nn e.1) hne;refine this.congr fun r=> ?_
 constructor
 ·rintro(⟨k1,k2⟩|rfl)
  ·by_cases e:r=au xs old
   ·exact .inr (.inl e)
   ·exact .inl ⟨k1,k2,e⟩
  ·exact .inr (.inr rfl)
 ·rintro(⟨k1,k2,k3⟩|rfl|rfl)
  ·exact .inl ⟨k1,k2⟩
  ·exact .inl ⟨h2,h4⟩
  ·exact .inr rfl
theorem ig.join{L:aF→Prop}{xs:List aj}(h:ig L xs){x y:aF}(hx:L x)(hy:L y)(hxy:x≠y):ig (fun r=>L r∧r≠x∧r≠y) (aU xs x y):=by
 obtain⟨h1,h2,h3,h4⟩:=h x hx;obtain⟨k1,k2,k3,k4⟩:=h y hy;unfold aU
 by_cases e:au xs x=y
 ·rw[show((au xs x).1==y.1&&(au xs x).2==y.2)=true by rw[e];simp];refine(h.cut hx).congr fun r=> ?_
  rw[e]
 ·rw[show((au xs x).1==y.1&&(au xs x).2==y.2)=false by
   cases hb:((au xs x).1==y.1&&(au xs x).2==y.2)with
   |false=>rfl
   |true=>
    simp only[qD,beq_iff_eq]at hb;exact absurd (eB hb.1 hb.2) e]
  rw[qH];have hyx:au xs y≠x:=fun h=>e (by rw[←h,k3])
  have hpp:au xs x≠au xs y:=fun h=>hxy (by rw[←h3,h,k3])
  have c1:=h.cut hx;have hy':L y∧y≠x∧y≠au xs x:=⟨hy,hxy.symm,fun h=>e h.symm⟩;have c2:=c1.cut (a:=y) hy';have:=c2.link (p:=au xs x) (q:=au xs y) (h _ h2).1 (h _ k2).1 (fun h=>h.1.2.2 rfl) (fun h=>h.2.2 rfl) hpp;refine this.congr fun r=> ?_
  constructor
  ·rintro⟨q1,q2,q3⟩
   by_cases e1:r=au xs x
   ·exact .inr (.inl e1)
   by_cases e2:r=au xs y
   ·exact .inr (.inr e2)
   ·exact .inl ⟨⟨q1,q2,e1⟩,q3,e2⟩
  ·rintro(⟨⟨q1,q2,q3⟩,q4,q5⟩|rfl|rfl)
   ·exact⟨q1,q2,q4⟩
   ·exact⟨h2,h4,e⟩
   ·exact⟨k2,hyx,k4⟩
theorem ig.app{L:aF→Prop}{xs:List aj}(h:ig L xs)(zs:List aj):ig L (xs++zs):=fun p hp=>by
 obtain⟨h1,h2,h3,h4⟩:=h p hp;have lt:∀{q:aF},ak xs q→q.1.toNat<xs.length:=fun {q} hq=>by have:=hq.1;have:=hq.2.1;omega
 have e1:=nE (ys:=zs) (lt h1);exact⟨h1.app,by rw[e1];exact h2,by rw[e1,nE (lt (h _ h2).1),h3],by rw[e1];exact h4⟩
def Agree(D:Int→Prop)(xs ys:List aj):Prop:=xs.length=ys.length∧∀i:Int,0≤i→i<(xs.length:Nat)→¬D i→ah xs i=ah ys i
theorem Agree.port{D:Int→Prop}{xs ys:List aj}(h:Agree D xs ys){p:aF}(hp:ak xs p)(hd:¬D p.1):ak ys p∧au ys p=au xs p:=by
 obtain⟨p1,p2,p3,p4⟩:=hp;have e:=h.2 p.1 p1 p2 hd;exact⟨⟨p1,by rw[←h.1];exact p2,p3,by rw[←e];exact p4⟩,by unfold au;rw[e]⟩
theorem Agree.setPort{D:Int→Prop}{xs ys:List aj}(h:Agree D xs ys){p:aF}(q:aF)(hp:ak xs p)(hd:¬D p.1):Agree D (aL xs p q) (aL ys p q):=by
 refine⟨by rw[dh,dh];exact h.1,fun i h0 h1 hi=> ?_⟩;rw[dh]at h1;rw[eG,eG,h.2 p.1 hp.1 hp.2.1 hd,h.2 i h0 h1 hi,h.1]
theorem Agree.link{D:Int→Prop}{xs ys:List aj}(h:Agree D xs ys){p q:aF}(hp:ak xs p)(hq:ak xs q)(dp:¬D p.1)(dq:¬D q.1):Agree D (bL xs p q) (bL ys p q):=(h.setPort q hp dp).setPort p hq.set dq
theorem Agree.app{D:Int→Prop}{xs ys:List aj}(h:Agree D xs ys)(zs:List aj):Agree D (xs++zs) (ys++zs):=by
 refine⟨by rw[qA,qA,h.1],fun i h0 h1 hi=> ?_⟩;rw[qA]at h1
 by_cases hl:i<(xs.length:Nat)
 ·rw[dA (by omega),dA (by rw[←h.1];omega)];exact h.2 i h0 hl hi
 ·have:∀ws:List aj,ws.length=xs.length→ah (ws++zs) i=zs.getD (i.toNat-xs.length) (dflt aD):=fun ws hw=>by
   unfold ah elt;rw[qC,qL (by omega),hw,qC]
  rw[this xs rfl,this ys h.1.symm]
theorem Agree.mono{D E:Int→Prop}{xs ys:List aj}(h:Agree D xs ys)(k:∀i,D i→E i):Agree E xs ys:=⟨h.1,fun i h0 h1 hi=>h.2 i h0 h1 fun hd=>hi (k i hd)⟩
theorem Agree.drop{D:Int→Prop}{xs ys:List aj}(h:Agree D xs ys){a:Int}(h0:0≤a)(hd:D a):Agree D xs (bC ys a):=by
 refine⟨by unfold bC;rw[List.length_set];exact h.1,fun i i0 i1 hi=> ?_⟩;unfold bC;rw[kR,if_neg (fun e=>hi (by(have:i=a:=by omega);rw[this];exact hd))];exact h.2 i i0 i1 hi
structure vk(D:Int→Prop)(L:aF→Prop)(xs ys:List aj):Prop where
 ag:Agree D xs ys
 wi:ig L xs
 al:∀p,L p→¬D p.1
section
variable {D:Int→Prop}{L:aF→Prop}{xs ys:List aj}
theorem vk.peer(h:vk D L xs ys){p:aF}(hp:L p):au ys p=au xs p:=(h.ag.port (h.wi p hp).1 (h.al p hp)).2
theorem vk.move(h:vk D L xs ys){old now:aF}(ho:L old)(hn:ak xs now)(nn:¬L now)(dn:¬D now.1):vk D (fun r=>(L r∧r≠old)∨r=now) (dG xs old now) (dG ys old now):=by
 refine⟨?_,h.wi.move ho hn nn,fun p hp=> ?_⟩
 ·unfold dG;rw[h.peer ho];exact h.ag.link (h.wi _ (h.wi _ ho).2.1).1 hn (h.al _ (h.wi _ ho).2.1) dn
 ·rcases hp with hp|rfl
  ·exact h.al p hp.1
  ·exact dn
theorem vk.join(h:vk D L xs ys){x y:aF}(hx:L x)(hy:L y)(hxy:x≠y):vk D (fun r=>L r∧r≠x∧r≠y) (aU xs x y) (aU ys x y):=by
 refine⟨?_,h.wi.join hx hy hxy,fun p hp=>h.al p hp.1⟩;unfold aU;rw[h.peer hx,h.peer hy];cases ((au xs x).1==y.1&&(au xs x).2==y.2)with
 |true=>exact h.ag
 |false=>exact h.ag.link (h.wi _ (h.wi _ hx).2.1).1 (h.wi _ (h.wi _ hy).2.1).1 (h.al _ (h.wi _ hx).2.1) (h.al _ (h.wi _ hy).2.1)
theorem vk.link(h:vk D L xs ys){p q:aF}(hp:ak xs p)(hq:ak xs q)(np:¬L p)(nq:¬L q)(hpq:p≠q)(dp:¬D p.1)(dq:¬D q.1):vk D (fun r=>L r∨r=p∨r=q) (bL xs p q) (bL ys p q):=by
 refine⟨h.ag.link hp hq dp dq,h.wi.link hp hq np nq hpq,fun r hr=> ?_⟩;rcases hr with hr|rfl|rfl
 ·exact h.al r hr
 ·exact dp
 ·exact dq
theorem vk.app(h:vk D L xs ys)(zs:List aj):vk D L (xs++zs) (ys++zs):=⟨h.ag.app zs,h.wi.app zs,h.al⟩
theorem vk.congr(h:vk D L xs ys){M:aF→Prop}(e:∀p,M p↔L p):vk D M xs ys:=⟨h.ag,h.wi.congr e,fun p hp=>h.al p ((e p).1 hp)⟩
theorem vk.cut(h:vk D L xs ys){a:aF}(ha:L a):vk D (fun p=>L p∧p≠a∧p≠au xs a) xs ys:=⟨h.ag,h.wi.cut ha,fun p hp=>h.al p hp.1⟩
theorem vk.gone(h:vk D L xs ys)(a:Int)(h0:0≤a)(ha:∀p,L p→p.1≠a):vk (fun i=>D i∨i=a) L xs (bC ys a):=
 ⟨(h.ag.mono fun i hi=>.inl hi).drop h0 (.inr rfl),h.wi,fun p hp e=>e.elim (h.al p hp) (ha p hp)⟩
end
end Go.Tr
namespace Go.Tr
open Go Go.RowKit
def Live(D:Int→Prop)(xs:List aj):aF→Prop:=fun p=>ak xs p∧¬D p.1
def St(D:Int→Prop)(xs ys:List aj):Prop:=vk D (Live D xs) xs ys
theorem ak.jh{xs:List aj}{p q r:aF}:ak (bL xs p q) r↔ak xs r:=⟨ak.unlink,ak.link⟩
theorem ak.jl{xs:List aj}{p q r:aF}:ak (dG xs p q) r↔ak xs r:=ak.jh
theorem ak.JX{xs:List aj}{p q r:aF}:ak (aU xs p q) r↔ak xs r:=by
 unfold aU;cases ((au xs p).1==q.1&&(au xs p).2==q.2)with
 |true=>exact Iff.rfl
 |false=>exact ak.jh
theorem ak.dW{xs:List aj}{a:aj}{r:aF}:ak (xs++[a]) r↔ak xs r∨(r.1=(xs.length:Nat)∧0≤r.2∧r.2<(a.aJ.length:Nat)):=by
 constructor
 ·rintro⟨h1,h2,h3,h4⟩;rw[qA,qJ]at h2
  by_cases hl:r.1.toNat<xs.length
  ·rw[dA hl]at h4;exact .inl ⟨h1,by omega,h3,h4⟩
  ·have e:r.1.toNat=xs.length:=by omega
   rw[pJ e]at h4;exact .inr ⟨by omega,h3,h4⟩
 ·rintro(h|⟨h1,h2,h3⟩)
  ·exact h.app
  ·refine⟨by omega,by rw[qA,qJ];omega,h2,?_⟩;rw[pJ (by omega)];exact h3
structure l8(D:Int→Prop)(xs:List aj)(x y:Int):Prop where
 ne:x≠y
 lx:¬D x
 ly:¬D y
 px:ak xs (x,0)
 py:ak xs (y,0)
 w:au xs (x,0)=(y,0)
section
variable {D:Int→Prop}{xs ys:List aj}{x y:Int}
theorem St.open_(h:St D xs ys)(k:l8 D xs x y):vk D (fun p=>(ak xs p∧¬D p.1)∧p≠(x,0)∧p≠(y,0)) xs ys:=by
 have:=h.cut (a:=(x,0)) ⟨k.px,k.lx⟩;rw[k.w]at this;exact this
theorem dL{a b s t:Int}(h:a≠b∨s≠t):((a,s):aF)≠(b,t):=fun e=>by
 injection e with e1 e2
 rcases h with h|h
 ·exact h e1
 ·exact h e2
theorem St.joins(h:St D xs ys)(k:l8 D xs x y)(hx:(ah xs x).2.2.2.2.length=3)(hy:(ah xs y).2.2.2.2.length=3):
  St (fun i=>D i∨i=x∨i=y) (aU (aU xs (x,1) (y,1)) (x,2) (y,2)) (bC (bC (aU (aU ys (x,1) (y,1)) (x,2) (y,2)) x) y):=by
 have inx:∀s:Int,0≤s→s<3→ak xs (x,s):=fun s h0 h1=>⟨k.px.1,k.px.2.1,h0,by show s<((ah xs x).2.2.2.2.length:Nat);omega⟩
 have iny:∀s:Int,0≤s→s<3→ak xs (y,s):=fun s h0 h1=>⟨k.py.1,k.py.2.1,h0,by show s<((ah xs y).2.2.2.2.length:Nat);omega⟩
 have s0:=h.open_ k;have s1:=s0.join (x:=(x,1)) (y:=(y,1)) ⟨⟨inx 1 (by decide) (by decide),k.lx⟩,dL (.inr (by decide)),dL (.inl k.ne)⟩ ⟨⟨iny 1 (by decide) (by decide),k.ly⟩,dL (.inl k.ne.symm),dL (.inr (by decide))⟩ (dL (.inl k.ne));have s2:=s1.join (x:=(x,2)) (y:=(y,2)) ⟨⟨⟨inx 2 (by decide) (by decide),k.lx⟩,dL (.inr (by decide)),dL (.inl k.ne)⟩,dL (.inr (by decide)),dL (.inl k.ne)⟩ ⟨⟨⟨iny 2 (by decide) (by decide),k.ly⟩,dL (.inl k.ne.symm),dL (.inr (by decide))⟩,dL (.inl k.ne.symm),dL (.inr (by decide))⟩ (dL (.inl k.ne))
 have key:∀p:aF,Live (fun i=>D i∨i=x∨i=y) (aU (aU xs (x,1) (y,1)) (x,2) (y,2)) p↔((((ak xs p∧¬D p.1)∧p≠(x,0)∧p≠(y,0))∧p≠(x,1)∧p≠(y,1))∧p≠(x,2)∧p≠(y,2)):=fun p=>by
  unfold Live;rw[ak.JX,ak.JX];constructor
  ·rintro⟨h1,h2⟩;have h3:p.1≠x:=fun e=>h2 (.inr (.inl e))
   have h4:p.1≠y:=fun e=>h2 (.inr (.inr e))
   have nx:∀s,p≠(x,s):=fun s e=>h3 (by rw[e])
   have ny:∀s,p≠(y,s):=fun s e=>h4 (by rw[e])
   exact⟨⟨⟨⟨h1,fun e=>h2 (.inl e)⟩,nx 0,ny 0⟩,nx 1,ny 1⟩,nx 2,ny 2⟩
  ·rintro⟨⟨⟨⟨h1,h2⟩,x0,y0⟩,x1,y1⟩,x2,y2⟩;refine⟨h1,fun e=> ?_⟩;obtain⟨q1,q2,q3,q4⟩:=h1;rcases e with e|e|e
   ·exact h2 e
   ·rw[e]at q4;have q5:p.2<3:=by(have:p.2<((ah xs x).2.2.2.2.length:Nat):=q4);omega
    have:p.2=0∨p.2=1∨p.2=2:=by omega
    rcases this with e2|e2|e2
    ·exact x0 (eB e e2)
    ·exact x1 (eB e e2)
    ·exact x2 (eB e e2)
   ·rw[e]at q4;have q5:p.2<3:=by(have:p.2<((ah xs y).2.2.2.2.length:Nat):=q4);omega
    have:p.2=0∨p.2=1∨p.2=2:=by omega
    rcases this with e2|e2|e2
    ·exact y0 (eB e e2)
    ·exact y1 (eB e e2)
    ·exact y2 (eB e e2)
 have s3:=s2.congr key;have s4:=(s3.gone x k.px.1 fun p hp e=>hp.2 (.inr (.inl e))).gone y k.py.1 fun p hp e=>hp.2 (.inr (.inr e))
 exact⟨s4.ag.mono fun i hi=>by rcases hi with(hi|hi)|hi<;>simp_all,s4.wi,fun p hp=>hp.2⟩
end
end Go.Tr
namespace Go.Tr
open Go Go.RowKit
def SX(D:Int→Prop)(X:aF→Prop)(xs ys:List aj):Prop:=vk D (fun p=>(ak xs p∧¬D p.1)∧¬X p) xs ys
section
variable {D:Int→Prop}{X Y:aF→Prop}{xs ys:List aj}
theorem SX.congr(h:SX D X xs ys)(e:∀p,ak xs p→¬D p.1→(Y p↔X p)):SX D Y xs ys:=vk.congr h fun p=>by
 constructor
 ·rintro⟨⟨h1,h2⟩,h3⟩;exact⟨⟨h1,h2⟩,fun h4=>h3 ((e p h1 h2).2 h4)⟩
 ·rintro⟨⟨h1,h2⟩,h3⟩;exact⟨⟨h1,h2⟩,fun h4=>h3 ((e p h1 h2).1 h4)⟩
theorem SX.add(h:SX D X xs ys)(a:aj):SX D (fun p=>X p∨p.1=(xs.length:Nat)) (xs++[a]) (ys++[a]):=vk.congr (vk.app h [a]) fun p=>by
 rw[ak.dW];constructor
 ·rintro⟨⟨h1,h2⟩,h3⟩;rcases h1 with h1|h1
  ·exact⟨⟨h1,h2⟩,fun h4=>h3 (.inl h4)⟩
  ·exact absurd (.inr h1.1) h3
 ·rintro⟨⟨h1,h2⟩,h3⟩;refine⟨⟨.inl h1,h2⟩,fun h4=> ?_⟩;rcases h4 with h4|h4
  ·exact h3 h4
  ·have:=h1.2.1;omega
theorem SX.move(h:SX D X xs ys){old now:aF}(ho:ak xs old)(od:¬D old.1)(ox:¬X old)(hn:ak xs now)(nd:¬D now.1)(nx:X now):SX D (fun p=>(X p∨p=old)∧p≠now) (dG xs old now) (dG ys old now):=by
 refine vk.congr (vk.move h (old:=old) (now:=now) ⟨⟨ho,od⟩,ox⟩ hn (fun k=>k.2 nx) nd) fun p=> ?_
 rw[ak.jl];constructor
 ·rintro⟨⟨h1,h2⟩,h3⟩
  by_cases e:p=now
  ·exact .inr e
  ·exact .inl ⟨⟨⟨h1,h2⟩,fun k=>h3 ⟨.inl k,e⟩⟩,fun k=>h3 ⟨.inr k,e⟩⟩
 ·rintro(⟨⟨⟨h1,h2⟩,h3⟩,h4⟩|rfl)
  ·exact⟨⟨h1,h2⟩,fun k=>k.1.elim h3 h4⟩
  ·exact⟨⟨hn,nd⟩,fun k=>k.2 rfl⟩
theorem SX.link(h:SX D X xs ys){p q:aF}(hp:ak xs p)(pd:¬D p.1)(px:X p)(hq:ak xs q)(qd:¬D q.1)(qx:X q)(hpq:p≠q):SX D (fun r=>X r∧r≠p∧r≠q) (bL xs p q) (bL ys p q):=by
 refine vk.congr (vk.link h hp hq (fun k=>k.2 px) (fun k=>k.2 qx) hpq pd qd) fun r=> ?_
 rw[ak.jh];constructor
 ·rintro⟨⟨h1,h2⟩,h3⟩
  by_cases e1:r=p
  ·exact .inr (.inl e1)
  by_cases e2:r=q
  ·exact .inr (.inr e2)
  ·exact .inl ⟨⟨h1,h2⟩,fun k=>h3 ⟨k,e1,e2⟩⟩
 ·rintro(⟨⟨h1,h2⟩,h3⟩|rfl|rfl)
  ·exact⟨⟨h1,h2⟩,fun k=>h3 k.1⟩
  ·exact⟨⟨hp,pd⟩,fun k=>k.2.1 rfl⟩
  ·exact⟨⟨hq,qd⟩,fun k=>k.2.2 rfl⟩
theorem SX.start{x y:Int}(h:St D xs ys)(k:l8 D xs x y):SX D (fun p=>p=(x,0)∨p=(y,0)) xs ys:=vk.congr (h.open_ k) fun p=>by
 constructor
 ·rintro⟨h1,h3⟩;exact⟨h1,fun e=>h3 (.inl e),fun e=>h3 (.inr e)⟩
 ·rintro⟨h1,h2,h3⟩;exact⟨h1,fun e=>e.elim h2 h3⟩
theorem SX.OL{x y:Int}(h:SX D X xs ys)(x0:0≤x)(y0:0≤y)(e:∀p,ak xs p→¬D p.1→(X p↔p.1=x∨p.1=y)):St (fun i=>D i∨i=x∨i=y) xs (bC (bC ys x) y):=by
 have s3:vk D (Live (fun i=>D i∨i=x∨i=y) xs) xs ys:=vk.congr h fun p=>by
  unfold Live;constructor
  ·rintro⟨h1,h2⟩;have h3:¬D p.1:=fun k=>h2 (.inl k)
   exact⟨⟨h1,h3⟩,fun k=>h2 (.inr ((e p h1 h3).1 k))⟩
  ·rintro⟨⟨h1,h2⟩,h3⟩;exact⟨h1,fun k=>k.elim h2 fun k=>h3 ((e p h1 h2).2 k)⟩
 have s4:=(s3.gone x x0 fun p hp e=>hp.2 (.inr (.inl e))).gone y y0 fun p hp e=>hp.2 (.inr (.inr e))
 exact⟨s4.ag.mono fun i hi=>by rcases hi with(hi|hi)|hi<;>simp_all,s4.wi,fun p hp=>hp.2⟩
theorem SX.end1{x:Int}(h:SX D X xs ys)(x0:0≤x)(e:∀p,ak xs p→¬D p.1→(X p↔p.1=x)):St (fun i=>D i∨i=x) xs (bC ys x):=by
 have s3:vk D (Live (fun i=>D i∨i=x) xs) xs ys:=vk.congr h fun p=>by
  unfold Live;constructor
  ·rintro⟨h1,h2⟩;have h3:¬D p.1:=fun k=>h2 (.inl k)
   exact⟨⟨h1,h3⟩,fun k=>h2 (.inr ((e p h1 h3).1 k))⟩
  ·rintro⟨⟨h1,h2⟩,h3⟩;exact⟨h1,fun k=>k.elim h2 fun k=>h3 ((e p h1 h2).2 k)⟩
 have s4:=s3.gone x x0 fun p hp e=>hp.2 (.inr e)
 exact⟨s4.ag,s4.wi,fun p hp=>hp.2⟩
theorem SX.len(h:SX D X xs ys):xs.length=ys.length:=h.ag.1
theorem SX.at_(h:SX D X xs ys){i:Int}(h0:0≤i)(h1:i<(xs.length:Nat))(hd:¬D i):ah ys i=ah xs i:=(h.ag.2 i h0 h1 hd).symm
theorem JG{y:Int}{p:aF}(hlt:p.1.toNat<xs.length):∀{k:Nat},ak (rU y xs k) p→ak xs p
 |0,h=>h
 |k+1,h=>by
  unfold rU at h;rw[ak.jl,ak.dW,jO]at h;rcases h with h|⟨h,_⟩
  ·exact JG hlt h
  ·omega
theorem QL{x y:Int}(h:St D xs ys)(k:l8 D xs x y)(hD:∀i,D i→i<(xs.length:Nat)):∀n:Nat,n≤(ah xs y).2.2.2.2.length-1→SX D (fun p=>p=(x,0)∨(p.1=y∧p.2≤(n:Nat))) (rU y xs n) (rU y ys n)
 |0,_=>(SX.start h k).congr fun p hp _=>by
  constructor
  ·rintro(e|⟨e1,e2⟩)
   ·exact .inl e
   ·exact .inr (eB e1 (by have:=hp.2.2.1;show p.2=0;omega))
  ·rintro(e|e)
   ·exact .inl e
   ·exact .inr (by rw[e];exact⟨rfl,Int.le_refl _⟩)
 |n+1,hn=>by
  have ih:=QL h k hD n (by omega);have hl:(rU y xs n).length=xs.length+n:=jO y xs n;have hyl:=k.py.2.1;have hy0:=k.py.1;have hpy:ak xs (y,((n+1:Nat):Int)):=⟨hy0,hyl,by omega,by show((n+1:Nat):Int)<((ah xs y).2.2.2.2.length:Nat);omega⟩;have hin:=nZ (y:=y) hpy n;have s1:=ih.add (bB 5 0 0 [] 1);have hnew:ak (rU y xs n++[bB 5 0 0 [] 1]) (((xs.length+n:Nat):Int),0):=ak.dW.2 (.inr ⟨by rw[hl],Int.le_refl _,show(0:Int)<1 by decide⟩)
  have s2:=s1.move (old:=(y,((n+1:Nat):Int))) (now:=(((xs.length+n:Nat):Int),0)) hin.app k.ly (by
   rintro((e|⟨_,e⟩)|e)
   ·exact dL (.inl k.ne.symm) e
   ·have:((n+1:Nat):Int)≤(n:Nat):=e;omega
   ·have:y=((rU y xs n).length:Nat):=e;rw[hl]at this;omega) hnew (fun e=>by have:=hD _ e;show False;have h2:((xs.length+n:Nat):Int)<(xs.length:Nat):=this;omega) (.inr (by rw[hl]))
  have hyx:(rU y ys n++[bB 5 0 0 [] 1])=rU y ys n++[bB 5 0 0 [] 1]:=rfl
  have s3:SX D (fun p=>p=(x,0)∨(p.1=y∧p.2≤((n+1:Nat):Int))) (dG (rU y xs n++[bB 5 0 0 [] 1]) (y,((n+1:Nat):Int)) (((xs.length+n:Nat):Int),0)) (dG (rU y ys n++[bB 5 0 0 [] 1]) (y,((n+1:Nat):Int)) (((xs.length+n:Nat):Int),0)):=s2.congr fun p hp _=>by
   rw[ak.jl,ak.dW,hl]at hp;rw[hl];constructor
   ·rintro(rfl|⟨e1,e2⟩)
    ·refine⟨.inl (.inl (.inl rfl)),dL (.inl ?_)⟩;have:=k.px.2.1;show x≠((xs.length+n:Nat):Int);have h2:x<(xs.length:Nat):=this;omega
    ·refine⟨?_,fun e=> ?_⟩
     ·by_cases e3:p.2=((n+1:Nat):Int)
      ·exact .inr (eB e1 e3)
      ·exact .inl (.inl (.inr ⟨e1,by omega⟩))
     ·rw[e]at e1;have:((xs.length+n:Nat):Int)=y:=e1;have h2:y<(xs.length:Nat):=hyl;omega
   ·rintro⟨((e|⟨e1,e2⟩)|e)|e,e3⟩
    ·exact .inl e
    ·exact .inr ⟨e1,by omega⟩
    ·rcases hp with hp|⟨q1,q2,q3⟩
     ·have h2:=hp.2.1;rw[hl]at h2;have e':p.1=((xs.length+n:Nat):Int):=e;omega
     ·refine absurd (eB (q:=(((xs.length+n:Nat):Int),0)) e ?_) e3;have:p.2<1:=q3;show p.2=0;omega
    ·exact .inr (by rw[e];exact⟨rfl,Int.le_refl _⟩)
  show SX D _ (rU y xs (n+1)) (rU y ys (n+1));unfold rU;rw[←h.ag.1];exact s3
theorem St.erase{x y:Int}(h:St D xs ys)(k:l8 D xs x y)(hD:∀i,D i→i<(xs.length:Nat))(hx:(ah xs x).2.2.2.2.length=1):St (fun i=>D i∨i=x∨i=y) (gY xs y) (bC (bC (gY ys y) x) y):=by
 have e:ah ys y=ah xs y:=(h.ag.2 y k.py.1 k.py.2.1 k.ly).symm;unfold gY;rw[e];have s:=QL h k hD ((ah xs y).2.2.2.2.length-1) (Nat.le_refl _);refine s.OL k.px.1 k.py.1 fun p hp _=> ?_
 have hport:p.1=x∨p.1=y→ak xs p:=fun hc=>by
  have hlt:p.1.toNat<xs.length:=by
   have h1:=k.px.2.1;have h2:=k.py.2.1;have h3:=k.px.1;have h4:=k.py.1
   have g1:x<(xs.length:Nat):=h1;have g2:y<(xs.length:Nat):=h2;have g3:0≤x:=h3;have g4:0≤y:=h4;rcases hc with hc|hc<;>omega
  exact JG hlt hp
 constructor
 ·rintro(rfl|⟨e1,_⟩)
  ·exact .inl rfl
  ·exact .inr e1
 ·intro hc;obtain⟨q1,q2,q3,q4⟩:=hport hc;rcases hc with hc|hc
  ·rw[hc]at q4;have:p.2<((ah xs x).2.2.2.2.length:Nat):=q4;exact .inl (eB hc (by show p.2=0;omega))
  ·rw[hc]at q4;have:p.2<((ah xs y).2.2.2.2.length:Nat):=q4;exact .inr ⟨hc,by omega⟩
theorem Da{p:aF}(h:ak xs p):p.1.toNat<xs.length:=by have:=h.1;have:=h.2.1;omega
theorem St.operate{x y:Int}(h:St D xs ys)(k:l8 D xs x y)(hD:∀i,D i→i<(xs.length:Nat))(hx:(ah xs x).2.2.2.2.length=1)(h7:(ah xs y).1=7→(ah xs y).2.2.2.2.length=3)(h8:(ah xs y).1≠7→(ah xs y).2.2.2.2.length=2):
  St (fun i=>D i∨i=x∨i=y) (bG xs x y) (bC (bC (bG ys x y) x) y):=by
 have ey:ah ys y=ah xs y:=(h.ag.2 y k.py.1 k.py.2.1 k.ly).symm;have ex:ah ys x=ah xs x:=(h.ag.2 x k.px.1 k.px.2.1 k.lx).symm;have hn:¬D (xs.length:Nat):=fun e=>by have:=hD _ e;omega
 have xl:x<(xs.length:Nat):=k.px.2.1;have yl:y<(xs.length:Nat):=k.py.2.1;have iny:∀s:Int,0≤s→s<((ah xs y).2.2.2.2.length:Nat)→ak xs (y,s):=fun s h0 h1=>⟨k.py.1,k.py.2.1,h0,h1⟩
 have fin:∀(X:aF→Prop) (a:aj) (zs:List aj),(∀p,ak zs p↔ak (xs++[a]) p)→(∀p,ak (xs++[a]) p→(X p↔(ak xs p∧(p.1=x∨p.1=y))))→∀p,ak zs p→¬D p.1→(X p↔p.1=x∨p.1=y):=fun X a zs hz hX p hp _=>by
  rw[hX p ((hz p).1 hp)];constructor
  ·exact fun e=>e.2
  ·intro e;refine⟨?_,e⟩;rcases ak.dW.1 ((hz p).1 hp)with q|⟨q,_⟩
   ·exact q
   ·rcases e with e|e<;>omega
 unfold bG;rw[ex,ey,←h.ag.1];cases hk:(ah xs y).1==7 with
 |true=>
  have h3:=h7 (by simpa using hk);simp only[qG];have i1:=iny 1 (by decide) (by omega);have i2:=iny 2 (by decide) (by omega);have s1:=(SX.start h k).add (bB 8 (ah xs y).2.1 (ah xs y).2.2.1 [(ah xs x).2.2.1] 2);have n0:ak (xs++[bB 8 (ah xs y).2.1 (ah xs y).2.2.1 [(ah xs x).2.2.1] 2]) ((xs.length:Nat),0):=ak.dW.2 (.inr ⟨rfl,Int.le_refl _,show(0:Int)<2 by decide⟩);have n1:ak (xs++[bB 8 (ah xs y).2.1 (ah xs y).2.2.1 [(ah xs x).2.2.1] 2]) ((xs.length:Nat),1):=ak.dW.2 (.inr ⟨rfl,show(0:Int)≤1 by decide,show(1:Int)<2 by decide⟩)
  have s2:=s1.move (old:=(y,1)) (now:=((xs.length:Nat),0)) i1.app k.ly (by
   rintro((e|e)|e)
   ·exact dL (.inl k.ne.symm) e
   ·exact dL (.inr (by decide)) e
   ·have:y=(xs.length:Nat):=e;omega) n0 hn (.inr rfl)
  have s3:=s2.move (old:=(y,2)) (now:=((xs.length:Nat),1)) i2.app.move k.ly (by
   rintro⟨((e|e)|e)|e,_⟩
   ·exact dL (.inl k.ne.symm) e
   ·exact dL (.inr (by decide)) e
   ·have:y=(xs.length:Nat):=e;omega
   ·exact dL (.inr (by decide)) e) n1.move hn ⟨.inl (.inr rfl),dL (.inr (by decide))⟩
  refine s3.OL k.px.1 k.py.1 (fin _ _ _ (fun p=>by rw[ak.jl,ak.jl]) fun p hp=> ?_)
  have hA:p.1=(xs.length:Nat)→p=(((xs.length:Nat):Int),0)∨p=(((xs.length:Nat):Int),1):=fun e=>by
   rcases ak.dW.1 hp with q|⟨_,q2,q3⟩
   ·have:=q.2.1;omega
   ·have:p.2<2:=q3;have:p.2=0∨p.2=1:=by omega
    rcases this with e2|e2
    ·exact .inl (eB e e2)
    ·exact .inr (eB e e2)
  constructor
  ·rintro⟨(⟨((e|e)|e)|e,e2⟩|e),e3⟩
   ·rw[e];exact⟨k.px,.inl rfl⟩
   ·rw[e];exact⟨k.py,.inr rfl⟩
   ·rcases hA e with e4|e4
    ·exact absurd e4 e2
    ·exact absurd e4 e3
   ·rw[e];exact⟨i1,.inr rfl⟩
   ·rw[e];exact⟨i2,.inr rfl⟩
  ·rintro⟨q,e⟩;have ne:∀s,p≠(((xs.length:Nat):Int),s):=fun s e2=>by have:=q.2.1;rw[e2]at this;have h3:((xs.length:Nat):Int)<(xs.length:Nat):=this;omega
   refine⟨?_,ne 1⟩;obtain⟨q1,q2,q3,q4⟩:=q;rcases e with e|e
   ·rw[e]at q4;have:p.2<((ah xs x).2.2.2.2.length:Nat):=q4;exact .inl ⟨.inl (.inl (.inl (eB e (by show p.2=0;omega)))),ne 0⟩
   ·rw[e]at q4;have:p.2<((ah xs y).2.2.2.2.length:Nat):=q4;have:p.2=0∨p.2=1∨p.2=2:=by omega
    rcases this with e2|e2|e2
    ·exact .inl ⟨.inl (.inl (.inr (eB e e2))),ne 0⟩
    ·exact .inl ⟨.inr (eB e e2),ne 0⟩
    ·exact .inr (eB e e2)
 |false=>
  have h3:=h8 (by simpa using hk);simp only[qH];have i1:=iny 1 (by decide) (by omega);generalize hv:wE (ah xs y).2.2.1 (iZ (ah xs y).2.2.2.1 0) (ah xs x).2.2.1=v;have s1:=(SX.start h k).add (bB 6 0 v [] 1);have n0:ak (xs++[bB 6 0 v [] 1]) ((xs.length:Nat),0):=ak.dW.2 (.inr ⟨rfl,Int.le_refl _,show(0:Int)<1 by decide⟩)
  have s2:=s1.move (old:=(y,1)) (now:=((xs.length:Nat),0)) i1.app k.ly (by
   rintro((e|e)|e)
   ·exact dL (.inl k.ne.symm) e
   ·exact dL (.inr (by decide)) e
   ·have:y=(xs.length:Nat):=e;omega) n0 hn (.inr rfl)
  refine s2.OL k.px.1 k.py.1 (fin _ _ _ (fun p=>by rw[ak.jl]) fun p hp=> ?_)
  have hA:p.1=(xs.length:Nat)→p=(((xs.length:Nat):Int),0):=fun e=>by
   rcases ak.dW.1 hp with q|⟨_,q2,q3⟩
   ·have:=q.2.1;omega
   ·have:p.2<1:=q3;exact eB e (by show p.2=0;omega)
  constructor
  ·rintro⟨((e|e)|e)|e,e2⟩
   ·rw[e];exact⟨k.px,.inl rfl⟩
   ·rw[e];exact⟨k.py,.inr rfl⟩
   ·exact absurd (hA e) e2
   ·rw[e];exact⟨i1,.inr rfl⟩
  ·rintro⟨q,e⟩;have ne:∀s,p≠(((xs.length:Nat):Int),s):=fun s e2=>by have:=q.2.1;rw[e2]at this;have h3:((xs.length:Nat):Int)<(xs.length:Nat):=this;omega
   refine⟨?_,ne 0⟩;obtain⟨q1,q2,q3,q4⟩:=q;rcases e with e|e
   ·rw[e]at q4;have:p.2<((ah xs x).2.2.2.2.length:Nat):=q4;exact .inl (.inl (.inl (eB e (by show p.2=0;omega))))
   ·rw[e]at q4;have:p.2<((ah xs y).2.2.2.2.length:Nat):=q4;have:p.2=0∨p.2=1:=by omega
    rcases this with e2|e2
    ·exact .inl (.inl (.inr (eB e e2)))
    ·exact .inr (eB e e2)
end
end Go.Tr
namespace Go.Tr
open Go Go.RowKit
section
variable {D:Int→Prop}{xs ys:List aj}{x y:Int}
theorem oZ(lab c d:Int)(xs:List aj):∀k,(aY lab c d xs k).length=xs.length+k
 |0=>rfl
 |k+1=>by unfold aY wR;rw[jf,jf,qA,oZ lab c d xs k];rfl
theorem lJ{lab c d:Int}{xs:List aj}{p:aF}(h:ak xs p):∀k,ak (aY lab c d xs k) p
 |0=>h
 |k+1=>(lJ h k).app.link.link
theorem JK{P Q:List aj}{lab:Int}{n m:Nat}(hn:P.length=n+2)(hx:x<(n:Nat))(hy:y<(n:Nat))(hD:∀i,D i→i<(n:Nat))(hm:∀s:Int,0≤s→s<(m:Nat)→ak P ((n:Nat),s)∧ak P ((n+1:Nat),s))
  (h:SX D (fun p=>p=(x,0)∨p=(y,0)∨p.1=(n:Nat)∨p.1=((n+1:Nat):Int)) P Q):∀k:Nat,k+1≤m→
  SX D (fun p=>p=(x,0)∨p=(y,0)∨((p.1=(n:Nat)∨p.1=((n+1:Nat):Int))∧(p.2=0∨(k:Int)<p.2))∨(((n+2:Nat):Int)≤p.1∧p.2=0)) (aY lab ((n:Nat):Int) ((n+1:Nat):Int) P k) (aY lab ((n:Nat):Int) ((n+1:Nat):Int) Q k)
 |0,_=>h.congr fun p hp _=>by
  obtain⟨q1,q2,q3,_⟩:=hp;obtain⟨a,s⟩:=p;rw[hn]at q2;simp only[Prod.mk.injEq]at*;omega
 |k+1,hk=>by
  have ih:=JK (lab:=lab) hn hx hy hD hm h k (by omega);have hl:(aY lab ((n:Nat):Int) ((n+1:Nat):Int) P k).length=n+2+k:=by rw[oZ,hn]
  have hlq:(aY lab ((n:Nat):Int) ((n+1:Nat):Int) Q k).length=n+2+k:=by rw[←ih.len,hl]
  have nd:∀i:Nat,n≤i→¬D (i:Nat):=fun i hi e=>by have:=hD _ e;omega
  obtain⟨hc,hd⟩:=hm ((k+1:Nat):Int) (by omega) (by omega);have hc1:=lJ (lab:=lab) (c:=((n:Nat):Int)) (d:=((n+1:Nat):Int)) hc k;have hd1:=lJ (lab:=lab) (c:=((n:Nat):Int)) (d:=((n+1:Nat):Int)) hd k;generalize hA:aY lab ((n:Nat):Int) ((n+1:Nat):Int) P k=A at*;generalize hB:aY lab ((n:Nat):Int) ((n+1:Nat):Int) Q k=B at*;have s1:=ih.add (bB 4 lab 0 [] 3);have f1:ak (A++[bB 4 lab 0 [] 3]) ((A.length:Nat),1):=ak.dW.2 (.inr ⟨rfl,show(0:Int)≤1 by decide,show(1:Int)<3 by decide⟩)
  have f2:ak (A++[bB 4 lab 0 [] 3]) ((A.length:Nat),2):=ak.dW.2 (.inr ⟨rfl,show(0:Int)≤2 by decide,show(2:Int)<3 by decide⟩);rw[hl]at f1 f2 s1;have s2:=s1.link (p:=((n+2+k:Nat),1)) (q:=((n:Nat),((k+1:Nat):Int))) f1 (nd _ (by omega)) (.inr rfl) hc1.app (nd _ (Nat.le_refl _)) (.inl (.inr (.inr (.inl ⟨.inl rfl,.inr (show(k:Int)<((k+1:Nat):Int) by omega)⟩)))) (dL (.inl (by omega)))
  have s3:=s2.link (p:=((n+2+k:Nat),2)) (q:=((n+1:Nat),((k+1:Nat):Int))) f2.link (nd _ (by omega)) ⟨.inr rfl,dL (.inr (by decide)),dL (.inl (by omega))⟩ hd1.app.link (nd _ (by omega))
   ⟨.inl (.inr (.inr (.inl ⟨.inr rfl,.inr (show(k:Int)<((k+1:Nat):Int) by omega)⟩))),dL (.inl (by omega)),dL (.inl (by omega))⟩ (dL (.inl (by omega)))
  have e1:aY lab ((n:Nat):Int) ((n+1:Nat):Int) P (k+1)=bL (bL (A++[bB 4 lab 0 [] 3]) ((n+2+k:Nat),1) ((n:Nat),((k+1:Nat):Int))) ((n+2+k:Nat),2) ((n+1:Nat),((k+1:Nat):Int)):=by
   rw[←hl,←hA];rfl
  have e2:aY lab ((n:Nat):Int) ((n+1:Nat):Int) Q (k+1)=bL (bL (B++[bB 4 lab 0 [] 3]) ((n+2+k:Nat),1) ((n:Nat),((k+1:Nat):Int))) ((n+2+k:Nat),2) ((n+1:Nat),((k+1:Nat):Int)):=by
   rw[←hlq,←hB];rfl
  rw[e1,e2];refine s3.congr fun p hp _=> ?_
  rw[ak.jh,ak.jh,ak.dW,hl]at hp
  have hp':p.1<((n+2+k:Nat):Int)∨(p.1=((n+2+k:Nat):Int)∧0≤p.2∧p.2<3):=by
   rcases hp with hp|hp
   ·have:=hp.2.1;rw[hl]at this;exact .inl this
   ·exact .inr hp
  have h0:0≤p.2:=by
   rcases hp with hp|hp
   ·exact hp.2.2.1
   ·exact hp.2.1
  obtain⟨a,s⟩:=p;simp only[Prod.mk.injEq,ne_eq]at*;omega
theorem F3{P Q:List aj}{b m:Nat}{X:aF→Prop}(hX:∀k:Nat,k<m→¬X (y,((k:Nat):Int)+1)∧X (((b+k:Nat):Int),0))(hy:ak P (y,0)∧∀k:Nat,k<m→ak P (y,((k:Nat):Int)+1)∧ak P (((b+k:Nat):Int),0))(yd:¬D y)(bd:∀k:Nat,¬D ((b+k:Nat):Int))(yb:y<(b:Nat))(h:SX D X P Q):
  ∀k:Nat,k≤m→SX D (fun p=>(X p∨(p.1=y∧1≤p.2∧p.2≤(k:Nat)))∧¬((b:Int)≤p.1∧p.1<((b+k:Nat):Int)∧p.2=0)) (dw y b P k) (dw y b Q k)
 |0,_=>h.congr fun p hp _=>by
  constructor
  ·rintro⟨e|e,_⟩
   ·exact e
   ·omega
  ·intro e;exact⟨.inl e,fun k=>by omega⟩
 |k+1,hk=>by
  have ih:=F3 hX hy yd bd yb h k (by omega);obtain⟨x1,x2⟩:=hX k (by omega);obtain⟨y1,y2⟩:=hy.2 k (by omega)
  have s1:=ih.move (old:=(y,((k:Nat):Int)+1)) (now:=(((b+k:Nat):Int),0)) (eZ y1 k) yd (by
   rintro⟨e|⟨_,_,e⟩,_⟩
   ·exact x1 e
   ·have:((k:Nat):Int)+1≤(k:Nat):=e;omega) (eZ y2 k) (bd k) ⟨.inl x2,fun e=>by have:((b+k:Nat):Int)<((b+k:Nat):Int):=e.2.1;omega⟩
  refine s1.congr fun p hp _=> ?_
  have q:(((X p∨(p.1=y∧1≤p.2∧p.2≤((k+1:Nat):Int)))∧¬((b:Int)≤p.1∧p.1<((b+(k+1):Nat):Int)∧p.2=0))↔((((X p∨(p.1=y∧1≤p.2∧p.2≤(k:Nat)))∧¬((b:Int)≤p.1∧p.1<((b+k:Nat):Int)∧p.2=0))∨p=(y,((k:Nat):Int)+1))∧p≠(((b+k:Nat):Int),0))):=by
   obtain⟨a,s⟩:=p;simp only[Prod.mk.injEq,ne_eq]
   by_cases hXp:X (a,s)
   ·simp only[hXp,true_or,true_and];omega
   ·simp only[hXp,false_or];omega
  exact q
theorem xM{lab c d:Int}{xs:List aj}{p:aF}(hlt:p.1.toNat<xs.length):∀{k:Nat},ak (aY lab c d xs k) p→ak xs p
 |0,h=>h
 |k+1,h=>by
  unfold aY wR at h;rw[ak.jh,ak.jh,ak.dW,oZ]at h;rcases h with h|⟨h,_⟩
  ·exact xM hlt h
  ·omega
theorem ze{y:Int}{b:Nat}{xs:List aj}{p:aF}:∀k:Nat,ak (dw y b xs k) p↔ak xs p
 |0=>Iff.rfl
 |k+1=>by unfold dw;rw[ak.jl,ze k]
theorem OI{xs:List aj}{y:Int}{p:aF}(hlt:p.1.toNat<xs.length)(h:ak (dup2 xs y) p):ak xs p:=by
 unfold dup2 at h;rw[ak.dW,ak.dW,qA]at h;rcases h with(h|⟨h,_⟩)|⟨h,_⟩
 ·exact h
 ·omega
 ·simp only[qJ]at h;omega
theorem FD{xs:List aj}{y:Int}{lab:Int}{p:aF}:∀k:Nat,ak (aY lab ((xs.length:Nat):Int) ((xs.length+1:Nat):Int) (dup2 xs y) k) p→0≤p.1∧p.1<((xs.length+2+k:Nat):Int)∧0≤p.2∧(p.1=(xs.length:Nat)∨p.1=((xs.length+1:Nat):Int)→p.2<((ah xs y).2.2.2.2.length:Nat))
 |0,h=>by
  have h5:ak (dup2 xs y) p:=h;obtain⟨h1,h2,h3,_⟩:=h;refine⟨h1,by(have:(aY lab ((xs.length:Nat):Int) ((xs.length+1:Nat):Int) (dup2 xs y) 0).length=xs.length+2:=gF xs y);omega,h3,fun e=> ?_⟩;unfold dup2 at h5;have hd:(lZ xs y).aJ.length=(ah xs y).2.2.2.2.length:=by show(List.replicate _ _).length=_;rw[List.length_replicate]
  rw[ak.dW,ak.dW,qA,qJ]at h5;rcases h5 with(h5|⟨_,_,h5⟩)|⟨_,_,h5⟩
  ·have:=h5.2.1;omega
  ·omega
  ·omega
 |k+1,h=>by
  unfold aY wR at h;rw[ak.jh,ak.jh,ak.dW,oZ,gF]at h;rcases h with h|⟨h1,h2,h3⟩
  ·obtain⟨q1,q2,q3,q4⟩:=FD k h;exact⟨q1,by omega,q3,q4⟩
  ·exact⟨by omega,by omega,h2,fun e=>by omega⟩
theorem St.duplicate(h:St D xs ys)(k:l8 D xs x y)(hD:∀i,D i→i<(xs.length:Nat))(hx:(ah xs x).2.2.2.2.length=3)(hy:1≤(ah xs y).2.2.2.2.length):
  St (fun i=>D i∨i=x∨i=y) (bI xs x y) (bC (bC (bI ys x y) x) y):=by
 have ey:ah ys y=ah xs y:=(h.ag.2 y k.py.1 k.py.2.1 k.ly).symm;have ex:ah ys x=ah xs x:=(h.ag.2 x k.px.1 k.px.2.1 k.lx).symm;have hl:xs.length=ys.length:=h.ag.1;have xl:x<(xs.length:Nat):=k.px.2.1;have yl:y<(xs.length:Nat):=k.py.2.1;have x0:0≤x:=k.px.1;have y0:0≤y:=k.py.1;have hne:=k.ne;generalize hm:(ah xs y).2.2.2.2.length=m at*;generalize hn:xs.length=n at*;have nd:∀i:Nat,n≤i→¬D (i:Nat):=fun i hi e=>by have:=hD _ e;omega
 have s0:=SX.start h k
 have s2:SX D (fun p=>p=(x,0)∨p=(y,0)∨p.1=(n:Nat)∨p.1=((n+1:Nat):Int)) (dup2 xs y) (dup2 ys y):=by
  have e:lZ ys y=lZ xs y:=by unfold lZ;rw[ey]
  unfold dup2;rw[e];refine((s0.add (lZ xs y)).add (lZ xs y)).congr fun p _ _=> ?_
  rw[qA,hn];simp only[qJ];constructor
  ·rintro(e|e|e|e)
   ·exact .inl (.inl (.inl e))
   ·exact .inl (.inl (.inr e))
   ·exact .inl (.inr e)
   ·exact .inr e
  ·rintro(((e|e)|e)|e)
   ·exact .inl e
   ·exact .inr (.inl e)
   ·exact .inr (.inr (.inl e))
   ·exact .inr (.inr (.inr e))
 have hP:(dup2 xs y).length=n+2:=by rw[gF,hn]
 have hc:∀s:Int,0≤s→s<(m:Nat)→ak (dup2 xs y) ((n:Nat),s)∧ak (dup2 xs y) ((n+1:Nat),s):=fun s h0 h1=>by
  have q1:=qh (xs:=xs) (y:=y) h0 (by rw[hm];exact h1);have q2:=qj (xs:=xs) (y:=y) h0 (by rw[hm];exact h1);rw[hn]at q1 q2;exact⟨q1,q2⟩
 have s3:=JK (lab:=(ah xs x).2.1) hP xl yl hD hc s2 (m-1) (by omega)
 have fx:(ah (dup2 xs y) x).2.1=(ah xs x).2.1:=by
  unfold dup2;rw[dA (by rw[qA,hn];omega),dA (by omega)]
 have fy:(ah (dup2 ys y) x).2.1=(ah xs x).2.1:=by
  unfold dup2;rw[dA (by rw[qA];omega),dA (by omega),ex]
 have d3x:dup3 xs x y=aY (ah xs x).2.1 ((n:Nat):Int) ((n+1:Nat):Int) (dup2 xs y) (m-1):=by
  unfold dup3;rw[←(jY (x:=x) (by rw[hP];omega) _).1,fx,hn,hm]
 have d3y:dup3 ys x y=aY (ah xs x).2.1 ((n:Nat):Int) ((n+1:Nat):Int) (dup2 ys y) (m-1):=by
  unfold dup3;rw[←(jY (x:=x) (by rw[gF];omega) _).1,fy,←hl,ey,hm]
 have hpp:=fun p=>FD (xs:=xs) (y:=y) (lab:=(ah xs x).2.1) (p:=p) (m-1)
 have hbk:∀p:aF,p.1.toNat<n→ak (aY (ah xs x).2.1 ((n:Nat):Int) ((n+1:Nat):Int) (dup2 xs y) (m-1)) p→ak xs p:=fun p hlt hp=>OI (by rw[hn];exact hlt) (xM (by rw[hP];omega) hp)
 have hin:∀p:aF,ak xs p→ak (aY (ah xs x).2.1 ((n:Nat):Int) ((n+1:Nat):Int) (dup2 xs y) (m-1)) p:=fun p hp=>lJ (mE hp) _
 have hfan:∀i:Nat,i<m-1→ak (aY (ah xs x).2.1 ((n:Nat):Int) ((n+1:Nat):Int) (dup2 xs y) (m-1)) (((n+2+i:Nat):Int),0):=fun i hi=>by
  have:=ql (x:=x) (c:=((n:Nat):Int)) (d:=((n+1:Nat):Int)) (xs:=dup2 xs y) hi;rw[←(jY (x:=x) (by rw[hP];omega) _).1,fx,hP]at this;exact this
 rw[hn,hm]at hpp;have hcn:=lJ (lab:=(ah xs x).2.1) (c:=((n:Nat):Int)) (d:=((n+1:Nat):Int)) (hc 0 (Int.le_refl _) (by omega)).1 (m-1);have hdn:=lJ (lab:=(ah xs x).2.1) (c:=((n:Nat):Int)) (d:=((n+1:Nat):Int)) (hc 0 (Int.le_refl _) (by omega)).2 (m-1);have inx:∀s:Int,0≤s→s<3→ak xs (x,s):=fun s h0 h1=>⟨k.px.1,k.px.2.1,h0,by show s<((ah xs x).2.2.2.2.length:Nat);omega⟩
 have iny:∀s:Int,0≤s→s<(m:Nat)→ak xs (y,s):=fun s h0 h1=>⟨k.py.1,k.py.2.1,h0,by show s<((ah xs y).2.2.2.2.length:Nat);rw[hm];exact h1⟩
 unfold bI kE;rw[d3x,d3y,←hl,hn,ey,hm];generalize aY (ah xs x).2.1 ((n:Nat):Int) ((n+1:Nat):Int) (dup2 xs y) (m-1)=A at*;generalize aY (ah xs x).2.1 ((n:Nat):Int) ((n+1:Nat):Int) (dup2 ys y) (m-1)=B at*;have s4:=s3.move (old:=(x,1)) (now:=((n:Nat),0)) (hin _ (inx 1 (by decide) (by decide))) k.lx (by simp only[Prod.mk.injEq,ne_eq,and_true,true_and,or_true,true_or];omega) hcn (nd _ (Nat.le_refl _)) (.inr (.inr (.inl ⟨.inl rfl,.inl rfl⟩)));have s5:=s4.move (old:=(x,2)) (now:=((n+1:Nat),0)) (hin _ (inx 2 (by decide) (by decide))).move k.lx (by simp only[Prod.mk.injEq,ne_eq,and_true,true_and,or_true,true_or];omega) hdn.move (nd _ (by omega)) (by simp only[Prod.mk.injEq,ne_eq,and_true,true_and,or_true,true_or];omega)
 have s6:=F3 (y:=y) (b:=n+2) (m:=m-1) (fun i hi=>by simp only[Prod.mk.injEq,ne_eq,and_true,true_and,or_true,true_or];omega) ⟨(hin _ (iny 0 (Int.le_refl _) (by omega))).move.move,fun i hi=>⟨(hin _ (iny _ (by omega) (by omega))).move.move,(hfan i hi).move.move⟩⟩ k.ly (fun i=>nd _ (by omega)) (by omega) s5 (m-1) (Nat.le_refl _);refine s6.OL x0 y0 fun p hp _=> ?_
 rw[ze,ak.jl,ak.jl]at hp;obtain⟨q1,q2,q3,q4⟩:=hpp p hp
 have q5:p.1=x→p.2<3:=fun e=>by
  have:=(hbk p (by omega) hp).2.2.2;rw[e]at this;have h2:p.2<((ah xs x).2.2.2.2.length:Nat):=this;omega
 have q6:p.1=y→p.2<(m:Nat):=fun e=>by
  have:=(hbk p (by omega) hp).2.2.2;rw[e]at this;have h2:p.2<((ah xs y).2.2.2.2.length:Nat):=this;omega
 clear hpp hbk hin hfan s0 s2 s3 s4 s5 s6 hc inx iny nd;obtain⟨a,s⟩:=p;simp only[Prod.mk.injEq,ne_eq]at*;omega
end
end Go.Tr
namespace Go.Tr
open Go Go.RowKit
section
variable {D:Int→Prop}{xs ys:List aj}{x y:Int}
theorem zM{zs:List aj}{p:aF}(q:aF)(hp:ak xs p):aL (xs++zs) p q=aL xs p q++zs:=by
 have hl:=Da hp;unfold aL;rw[dA hl,List.set_append_left _ _ hl]
theorem OZ{zs:List aj}{p q:aF}(hp:ak xs p)(hq:ak xs q):bL (xs++zs) p q=bL xs p q++zs:=by
 unfold bL;rw[zM q hp,zM p hq.set]
theorem LD{p q r s:aF}(hp:ak xs p)(hq:ak xs q)(hr:ak xs r)(hs:ak xs s)(pr:p≠r)(ps:p≠s)(qr:q≠r)(qs:q≠s):bL (bL xs p q) r s=bL (bL xs r s) p q:=by
 unfold bL;rw[kX hq.set hr.set qr,kX (xs:=xs) hp hr pr];rw[kX (xs:=aL (aL xs r s) p q) hq.set.set hs.set.set qs,kX (xs:=aL xs r s) hp.set hs.set ps]
theorem Pg{W:List aj}{a:aj}{old now P Q:aF}(ho:ak W old)(hpe:ak W (au W old))(hn:ak W now)(hP:ak (W++[a]) P)(hPl:(W.length:Int)≤P.1)(hQ:ak W Q)(oq:old≠Q)(pq:au W old≠Q)(nq:now≠Q):
  dG (bL (W++[a]) P Q) old now=bL (dG W old now++[a]) P Q:=by
 have far:∀r:aF,ak W r→r≠P:=fun r hr e=>by have:=hr.2.1;rw[e]at this;omega
 have e1:au (bL (W++[a]) P Q) old=au W old:=by
  rw[jC hP hQ.app ho.app,if_neg (fun e=>oq e.symm),if_neg (fun e=>far old ho e.symm),nE (Da ho)]
 unfold dG;rw[e1,LD hP hQ.app hpe.app hn.app (fun e=>far _ hpe e.symm) (fun e=>far _ hn e.symm) (fun e=>pq e.symm) (fun e=>nq e.symm),OZ hpe hn]
theorem MW{P Q:List aj}{lv:Int}{n m:Nat}(hn:P.length=n+1)(xl:x<(n:Nat))(yl:y<(n:Nat))(x0:0≤x)(xy:x≠y)(xd:¬D x)(hD:∀i,D i→i<(n:Nat))(hx:∀s:Int,0≤s→s<(m:Nat)→ak P (x,s))(hr:ak P ((n:Nat),0))
  (h:SX D (fun p=>p=(x,0)∨p=(y,0)∨p.1=(n:Nat)) P Q) (h1:∀p,ak P p→p.1=(n:Nat)→p.2=0):∀k:Nat,k+1≤m→
  SX D (fun p=>(p.1=x∧p.2≤(k:Nat))∨p=(y,0)∨p=iN (n+1) k) (ow lv x (n+1) P k) (ow lv x (n+1) Q k)
 |0,_=>h.congr fun p hp _=>by
  have h2:=h1 p hp;obtain⟨q1,q2,q3,_⟩:=hp;unfold iN;obtain⟨a,s⟩:=p;rw[hn]at q2;simp only[Prod.mk.injEq]at*;omega
 |k+1,hk=>by
  have ih:=MW (lv:=lv) hn xl yl x0 xy xd hD hx hr h h1 k (by omega);have hl:(ow lv x (n+1) P k).length=n+1+k:=by rw[oU,hn]
  have nd:∀i:Nat,n≤i→¬D (i:Nat):=fun i hi e=>by have:=hD _ e;omega
  have hxk:=mq (lv:=lv) (x:=x) (b:=n+1) (hx ((k+1:Nat):Int) (by omega) (by omega)) k
  have hR:ak (ow lv x (n+1) P k) (iN (n+1) k):=by
   have:=vR (lv:=lv) (x:=x) (xs:=P) (by rw[hn];exact hr) k;rw[hn]at this;exact this
  have hR1:(n:Int)≤(iN (n+1) k).1∧(iN (n+1) k).1<((n+1+k:Nat):Int):=by
   cases k with
   |zero=>unfold iN;simp only[];omega
   |succ k=>unfold iN;simp only[];omega
  have s1:=ih.add (bB 3 lv 0 [] 3);rw[hl]at s1;have f0:ak (ow lv x (n+1) P k++[bB 3 lv 0 [] 3]) ((n+1+k:Nat),0):=ak.dW.2 (.inr ⟨by rw[hl],Int.le_refl _,show(0:Int)<3 by decide⟩);have f1:ak (ow lv x (n+1) P k++[bB 3 lv 0 [] 3]) ((n+1+k:Nat),1):=ak.dW.2 (.inr ⟨by rw[hl],show(0:Int)≤1 by decide,show(1:Int)<3 by decide⟩);have hRd:¬D (iN (n+1) k).1:=fun e=>by have:=hD _ e;omega
  have s2:=s1.link (p:=iN (n+1) k) (q:=((n+1+k:Nat),0)) hR.app hRd (.inl (.inr (.inr rfl))) f0 (nd _ (by omega)) (.inr rfl) (fun e=>by rw[e]at hR1;have:=hR1.2;have h3:((n+1+k:Nat):Int)<((n+1+k:Nat):Int):=this;omega)
  have s3:=s2.move (old:=(x,((k+1:Nat):Int))) (now:=((n+1+k:Nat),1)) hxk.app.link xd (by
   rintro⟨(⟨_,e⟩|e|e)|e,_,_⟩
   ·have:((k+1:Nat):Int)≤(k:Nat):=e;omega
   ·exact dL (.inl xy) e
   ·rw[←e]at hR1;have:=hR1.1;have h3:(n:Int)≤x:=this;omega
   ·have:x=((n+1+k:Nat):Int):=e;omega) f1.link (nd _ (by omega)) ⟨.inr rfl,fun e=>by rw[←e]at hR1;have:=hR1.2;have h3:((n+1+k:Nat):Int)<((n+1+k:Nat):Int):=this;omega,dL (.inr (by decide))⟩
  show SX D _ (ow lv x (n+1) P (k+1)) (ow lv x (n+1) Q (k+1));unfold ow;refine s3.congr fun p hp _=> ?_
  rw[ak.jl,ak.jh,ak.dW,hl]at hp
  have hp':p.1<((n+1+k:Nat):Int)∨(p.1=((n+1+k:Nat):Int)∧0≤p.2∧p.2<3):=by
   rcases hp with hp|hp
   ·have:=hp.2.1;rw[hl]at this;exact .inl this
   ·exact .inr hp
  have e2:iN (n+1) (k+1)=(((n+1+k:Nat):Int),2):=rfl;rw[e2];obtain⟨a,s⟩:=p;generalize hRR:iN (n+1) k=R at*;obtain⟨ra,rs⟩:=R;simp only[Prod.mk.injEq,ne_eq]at*;omega
theorem SX.self{X:aF→Prop}(h:SX D X xs ys):SX D X xs xs:=⟨⟨rfl,fun _ _ _ _=>rfl⟩,h.wi,h.al⟩
theorem GY{n k:Nat}:(n:Int)≤(iN (n+1) k).1∧(iN (n+1) k).1<((n+1+k:Nat):Int)∧(iN (n+1) k).2≠1:=by
 cases k with
 |zero=>unfold iN;simp only[];omega
 |succ k=>unfold iN;simp only[];omega
theorem MU{P Q:List aj}{lv:Int}{n:Nat}(hn:P.length=n+1)(xl:x<(n:Nat))(yl:y<(n:Nat))(hD:∀i,D i→i<(n:Nat))(hr:ak P ((n:Nat),0))
  (h:SX D (fun p=>p=(x,0)∨p=(y,0)∨p.1=(n:Nat)) P Q) (h1:∀p,ak P p→p.1=(n:Nat)→p.2=0):∀k:Nat,
  SX D (fun p=>p=(x,0)∨p=(y,0)∨(((n+1:Nat):Int)≤p.1∧p.2=1)∨p=iN (n+1) k) (pK lv (n+1) P k) (pK lv (n+1) Q k)
 |0=>h.congr fun p hp _=>by
  have h2:=h1 p hp;obtain⟨q1,q2,q3,_⟩:=hp;unfold iN;obtain⟨a,s⟩:=p;rw[hn]at q2;simp only[Prod.mk.injEq]at*;omega
 |k+1=>by
  have ih:=MU (lv:=lv) hn xl yl hD hr h h1 k;have hl:(pK lv (n+1) P k).length=n+1+k:=by rw[wO,hn]
  have nd:∀i:Nat,n≤i→¬D (i:Nat):=fun i hi e=>by have:=hD _ e;omega
  obtain⟨r1,r2,r3⟩:=GY (n:=n) (k:=k)
  have hR:ak (pK lv (n+1) P k) (iN (n+1) k):=by
   have:=Fv (lv:=lv) (xs:=P) (by rw[hn];exact hr) k;rw[hn]at this;exact this
  have s1:=ih.add (bB 3 lv 0 [] 3);rw[hl]at s1;have f0:ak (pK lv (n+1) P k++[bB 3 lv 0 [] 3]) ((n+1+k:Nat),0):=ak.dW.2 (.inr ⟨by rw[hl],Int.le_refl _,show(0:Int)<3 by decide⟩);have s2:=s1.link (p:=((n+1+k:Nat),0)) (q:=iN (n+1) k) f0 (nd _ (by omega)) (.inr rfl) hR.app (fun e=>by have:=hD _ e;omega) (.inl (.inr (.inr (.inr rfl)))) (fun e=>by rw[←e]at r2;have h3:((n+1+k:Nat):Int)<((n+1+k:Nat):Int):=r2;omega);unfold pK;refine s2.congr fun p hp _=> ?_
  rw[ak.jh,ak.dW,hl]at hp
  have hp':p.1<((n+1+k:Nat):Int)∨(p.1=((n+1+k:Nat):Int)∧0≤p.2∧p.2<3):=by
   rcases hp with hp|hp
   ·have:=hp.2.1;rw[hl]at this;exact .inl this
   ·exact .inr hp
  have e2:iN (n+1) (k+1)=(((n+1+k:Nat):Int),2):=rfl;rw[e2];obtain⟨a,s⟩:=p;generalize hRR:iN (n+1) k=R at*;obtain⟨ra,rs⟩:=R;simp only[Prod.mk.injEq,ne_eq]at*;omega
theorem MR{Z:List aj}{n m k:Nat}(xl:x<(n:Nat))(x0:0≤x)(xy:x≠y)(xd:¬D x)(hD:∀i,D i→i<(n:Nat))(hx:∀s:Int,0≤s→s<(m:Nat)→ak Z (x,s))(hz:∀i:Nat,i<k→ak Z (((n+1+i:Nat):Int),1))(hl:Z.length=n+1+k)
  (h:SX D (fun p=>p=(x,0)∨p=(y,0)∨(((n+1:Nat):Int)≤p.1∧p.2=1)∨p=iN (n+1) k) Z Z):∀j:Nat,j≤k→j+1≤m→
  SX D (fun p=>(p.1=x∧p.2≤(j:Nat))∨p=(y,0)∨(((n+1+j:Nat):Int)≤p.1∧p.2=1)∨p=iN (n+1) k) (Cn x (n+1) Z j) (Cn x (n+1) Z j)
 |0,_,_=>h.congr fun p hp _=>by
  obtain⟨q1,q2,q3,_⟩:=hp;obtain⟨a,s⟩:=p;generalize iN (n+1) k=R;obtain⟨ra,rs⟩:=R;simp only[Prod.mk.injEq]at*;omega
 |j+1,hj,hm=>by
  have ih:=MR xl x0 xy xd hD hx hz hl h j (by omega) (by omega);obtain⟨r1,r2,r3⟩:=GY (n:=n) (k:=k);have nd:∀i:Nat,n≤i→¬D (i:Nat):=fun i hi e=>by have:=hD _ e;omega
  have s1:=ih.move (old:=(x,((j:Nat):Int)+1)) (now:=(((n+1+j:Nat):Int),1)) (mh (hx _ (by omega) (by omega)) j) xd (by
   generalize iN (n+1) k=R at*;obtain⟨ra,rs⟩:=R;simp only[Prod.mk.injEq,ne_eq]at*;omega) (mh (hz j (by omega)) j) (nd _ (by omega)) (.inr (.inr (.inl ⟨Int.le_refl _,rfl⟩)))
  unfold Cn;refine s1.congr fun p hp _=> ?_
  have q3:=hp.2.2.1;have q2:=hp.2.1;obtain⟨a,s⟩:=p;generalize hRR:iN (n+1) k=R at*;obtain⟨ra,rs⟩:=R;simp only[Prod.mk.injEq,ne_eq]at*;omega
theorem VE{P:List aj}{lv:Int}{n m:Nat}(hn:P.length=n+1)(xl:x<(n:Nat))(yl:y<(n:Nat))(x0:0≤x)(xy:x≠y)(xd:¬D x)(hD:∀i,D i→i<(n:Nat))(hx:∀s:Int,0≤s→s<(m:Nat)→ak P (x,s))(hr:ak P ((n:Nat),0))
  (h:SX D (fun p=>p=(x,0)∨p=(y,0)∨p.1=(n:Nat)) P P) (h1:∀p,ak P p→p.1=(n:Nat)→p.2=0):∀k:Nat,k+1≤m→Cn x (n+1) (pK lv (n+1) P k) k=ow lv x (n+1) P k
 |0,_=>rfl
 |k+1,hk=>by
  have ih:=VE (lv:=lv) hn xl yl x0 xy xd hD hx hr h h1 k (by omega);have hl:(pK lv (n+1) P k).length=n+1+k:=by rw[wO,hn]
  have nd:∀i:Nat,n≤i→¬D (i:Nat):=fun i hi e=>by have:=hD _ e;omega
  obtain⟨r1,r2,r3⟩:=GY (n:=n) (k:=k)
  have hR:ak (pK lv (n+1) P k) (iN (n+1) k):=by
   have:=Fv (lv:=lv) (xs:=P) (by rw[hn];exact hr) k;rw[hn]at this;exact this
  have hxN:∀s:Int,0≤s→s<(m:Nat)→ak (pK lv (n+1) P k) (x,s):=fun s a b=>Co (hx s a b) k
  have hzN:∀i:Nat,i<k→ak (pK lv (n+1) P k) (((n+1+i:Nat):Int),1):=fun i hi=>by
   have:=yY (lv:=lv) (xs:=P) (s:=1) (by decide) (by decide) hi;rw[hn]at this;exact this
  have sN:=MU (lv:=lv) hn xl yl hD hr h h1 k
  have key:∀j:Nat,j≤k→Cn x (n+1) (bL (pK lv (n+1) P k++[bB 3 lv 0 [] 3]) ((n+1+k:Nat),0) (iN (n+1) k)) j=bL (Cn x (n+1) (pK lv (n+1) P k) j++[bB 3 lv 0 [] 3]) ((n+1+k:Nat),0) (iN (n+1) k):=by
   intro j
   induction j with
   |zero=>intro _;rfl
   |succ j ihj=>
    intro hj;have e:=ihj (by omega);have sM:=MR (k:=k) xl x0 xy xd hD hxN hzN hl sN j (by omega) (by omega);have hlW:(Cn x (n+1) (pK lv (n+1) P k) j).length=n+1+k:=by rw[MP,hl]
    show dG (Cn x (n+1) (bL (pK lv (n+1) P k++[bB 3 lv 0 [] 3]) ((n+1+k:Nat),0) (iN (n+1) k)) j) (x,((j:Nat):Int)+1) (((n+1+j:Nat):Int),1)=bL (dG (Cn x (n+1) (pK lv (n+1) P k) j) (x,((j:Nat):Int)+1) (((n+1+j:Nat):Int),1)++[bB 3 lv 0 [] 3]) _ _;rw[e];have ho:=mh (x:=x) (b:=n+1) (hxN (((j:Nat):Int)+1) (by omega) (by omega)) j
    have hw:=sM.wi (x,((j:Nat):Int)+1) ⟨⟨ho,xd⟩,by
     generalize iN (n+1) k=R at*;obtain⟨ra,rs⟩:=R;simp only[Prod.mk.injEq]at*;omega⟩
    refine Pg ho hw.2.1.1.1 (mh (hzN j (by omega)) j) (ak.dW.2 (.inr ⟨by rw[hlW],Int.le_refl _,show(0:Int)<3 by decide⟩)) (by rw[hlW];exact Int.le_refl _) (mh hR j) ?_ (fun e=>hw.2.1.2 (.inr (.inr (.inr e)))) ?_
    ·intro e;rw[←e]at r1;have:(n:Int)≤x:=r1;omega
    ·intro e;rw[←e]at r3;exact r3 rfl
  show dG (Cn x (n+1) (bL (pK lv (n+1) P k++[bB 3 lv 0 [] 3]) (((n+1+k:Nat):Int),0) (iN (n+1) k)) k) (x,((k:Nat):Int)+1) (((n+1+k:Nat):Int),1)=dG (bL (ow lv x (n+1) P k++[bB 3 lv 0 [] 3]) (iN (n+1) k) (((n+1+k:Nat):Int),0)) (x,((k+1:Nat):Int)) (((n+1+k:Nat):Int),1);rw[key k (Nat.le_refl _),ih];have hlS:(ow lv x (n+1) P k).length=n+1+k:=by rw[oU,hn]
  have hRS:ak (ow lv x (n+1) P k) (iN (n+1) k):=by
   have:=vR (lv:=lv) (x:=x) (xs:=P) (by rw[hn];exact hr) k;rw[hn]at this;exact this
  rw[uN (ak.dW.2 (.inr ⟨by rw[hlS],Int.le_refl _,show(0:Int)<3 by decide⟩)) hRS.app];rfl
theorem Cq{lv:Int}{b:Nat}{P:List aj}{p:aF}(hlt:p.1.toNat<P.length):∀{k:Nat},ak (ow lv x b P k) p→ak P p
 |0,h=>h
 |k+1,h=>by
  unfold ow at h;rw[ak.jl,ak.jh,ak.dW,oU]at h;rcases h with h|⟨h,_⟩
  ·exact Cq hlt h
  ·omega
theorem St.choose(h:St D xs ys)(k:l8 D xs x y)(hD:∀i,D i→i<(xs.length:Nat))(h6:(ah xs x).1=6↔(ah xs y).1=11)(hx:(ah xs x).1=6→(ah xs x).2.2.2.2.length=1)(hx1:1≤(ah xs x).2.2.2.2.length)(hy:(ah xs y).2.2.2.2.length=2):
  St (fun i=>D i∨i=x∨i=y) (jN xs x y) (bC (bC (dD ys x y) x) y):=by
 have ey:ah ys y=ah xs y:=(h.ag.2 y k.py.1 k.py.2.1 k.ly).symm;have ex:ah ys x=ah xs x:=(h.ag.2 x k.px.1 k.px.2.1 k.lx).symm;have hl:xs.length=ys.length:=h.ag.1;have xl:x<(xs.length:Nat):=k.px.2.1;have yl:y<(xs.length:Nat):=k.py.2.1;have x0:0≤x:=k.px.1;have y0:0≤y:=k.py.1;have hne:=k.ne;have nd:∀i:Nat,xs.length≤i→¬D (i:Nat):=fun i hi e=>by have:=hD _ e;omega
 have iny1:ak xs (y,1):=⟨k.py.1,k.py.2.1,show(0:Int)≤1 by decide,by show(1:Int)<((ah xs y).2.2.2.2.length:Nat);omega⟩;have hkb:((ah xs x).1==6)=((ah xs y).1==11):=by rw[Bool.eq_iff_iff];simpa using h6
 have s1:∀i:Int,SX D (fun p=>p=(x,0)∨p=(y,0)∨p.1=(xs.length:Nat)) (bD xs y i) (bD ys y i):=fun i=>by
  unfold bD;rw[ey];refine((SX.start h k).add _).congr fun p _ _=> ?_
  constructor
  ·rintro(e|e|e)
   ·exact .inl (.inl e)
   ·exact .inl (.inr e)
   ·exact .inr e
  ·rintro((e|e)|e)
   ·exact .inl e
   ·exact .inr (.inl e)
   ·exact .inr (.inr e)
 have hlen:∀i:Int,(bD xs y i).length=xs.length+1:=fun i=>by unfold bD;rw[qA];rfl
 have hnew:∀i:Int,ak (bD xs y i) ((xs.length:Nat),0):=fun i=>ak.dW.2 (.inr ⟨rfl,Int.le_refl _,show(0:Int)<1 by decide⟩)
 have h1:∀(i:Int) p,ak (bD xs y i) p→p.1=(xs.length:Nat)→p.2=0:=fun i p hp e=>by
  rcases ak.dW.1 hp with q|⟨_,q2,q3⟩
  ·have:=q.2.1;omega
  ·have:p.2<1:=q3;omega
 have hback:∀(i:Int) (p:aF),p.1.toNat<xs.length→ak (bD xs y i) p→ak xs p:=fun i p hlt hp=>by
  rcases ak.dW.1 hp with q|⟨q,_⟩
  ·exact q
  ·omega
 have hin:∀(i:Int) (p:aF),ak xs p→ak (bD xs y i) p:=fun i p hp=>hp.app
 unfold jN dD;rw[ex,ey,hkb,←hl];cases hk:(ah xs y).1==11 with
 |true=>
  simp only[qG];have h3:=hx (h6.2 (by simpa using hk));generalize (bif (ah xs x).2.2.1==0 then(1:Int)else 0)=i;have s2:=(s1 i).move (old:=(y,1)) (now:=((xs.length:Nat),0)) (hin i _ iny1) k.ly (by simp only[Prod.mk.injEq];omega) (hnew i) (nd _ (Nat.le_refl _)) (.inr (.inr rfl));refine s2.OL x0 y0 fun p hp _=> ?_
  rw[ak.jl]at hp;have q0:=h1 i p hp;have q1:=hp.2.2.1;have q2:=hp.1
  have q4:p.1=x→p.2<1:=fun e=>by
   have:=(hback i p (by omega) hp).2.2.2;rw[e]at this;have h2:p.2<((ah xs x).2.2.2.2.length:Nat):=this;omega
  have q5:p.1=y→p.2<2:=fun e=>by
   have:=(hback i p (by omega) hp).2.2.2;rw[e]at this;have h2:p.2<((ah xs y).2.2.2.2.length:Nat):=this;omega
  obtain⟨a,s⟩:=p;simp only[Prod.mk.injEq,ne_eq]at*;omega
 |false=>
  simp only[qH];generalize (ah xs x).2.2.1=i;generalize (ah xs y).2.1=lv;have hxi:∀s:Int,0≤s→s<((ah xs x).2.2.2.2.length:Nat)→ak (bD xs y i) (x,s):=fun s a b=>hin i _ ⟨x0,xl,a,b⟩
  rw[VE (lv:=lv) (hlen i) xl yl x0 k.ne k.lx hD hxi (hnew i) (s1 i).self (h1 i) ((ah xs x).2.2.2.2.length-1) (by omega)];have s2:=MW (lv:=lv) (hlen i) xl yl x0 k.ne k.lx hD hxi (hnew i) (s1 i) (h1 i) ((ah xs x).2.2.2.2.length-1) (by omega);generalize hm:(ah xs x).2.2.2.2.length=m at*;obtain⟨r1,r2,r3⟩:=GY (n:=xs.length) (k:=m-1)
  have hR:ak (ow lv x (xs.length+1) (bD xs y i) (m-1)) (iN (xs.length+1) (m-1)):=by
   have:=vR (lv:=lv) (x:=x) (xs:=bD xs y i) (by rw[hlen];exact hnew i) (m-1);rw[hlen]at this;exact this
  have s3:=s2.move (old:=(y,1)) (now:=iN (xs.length+1) (m-1)) (mq (hin i _ iny1) _) k.ly (by
   generalize iN (xs.length+1) (m-1)=R at*;obtain⟨ra,rs⟩:=R;simp only[Prod.mk.injEq]at*;omega) hR (fun e=>by have:=hD _ e;omega) (.inr (.inr rfl))
  refine s3.OL x0 y0 fun p hp _=> ?_
  rw[ak.jl]at hp;have q1:=hp.2.2.1;have q2:=hp.1
  have q4:p.1=x→p.2<(m:Nat):=fun e=>by
   have:=(hback i p (by omega) (Cq (by rw[hlen];omega) hp)).2.2.2;rw[e]at this;have h2:p.2<((ah xs x).2.2.2.2.length:Nat):=this;omega
  have q5:p.1=y→p.2<2:=fun e=>by
   have:=(hback i p (by omega) (Cq (by rw[hlen];omega) hp)).2.2.2;rw[e]at this;have h2:p.2<((ah xs y).2.2.2.2.length:Nat):=this;omega
  generalize iN (xs.length+1) (m-1)=R at*;obtain⟨ra,rs⟩:=R;obtain⟨a,s⟩:=p;clear h1 hback hin hxi s1 s2 s3 hnew hlen nd;simp only[Prod.mk.injEq,ne_eq]at*;omega
end
end Go.Tr
namespace Go.Tr
open Go Go.RowKit
section
variable {D:Int→Prop}{X:aF→Prop}{xs ys:List aj}{x y:Int}
theorem p9{t:List aj}{b i:Int}(hb:b=(xs.length:Int)-1)(h1:(xs.length:Int)≤i)(h2:i-b<(t.length:Nat)):ah (xs++(t.drop 1).map (cZ b)) i=cZ b (ah t (i-b)):=by
 unfold ah elt;rw[qC,qL (by omega),List.getElem?_map,List.getElem?_drop];have e:1+(i.toNat-xs.length)=(i-b).toNat:=by omega
 rw[e,qC,qB (by omega)];rfl
theorem nC(t:List aj)(b:Int):((t.drop 1).map (cZ b)).length=t.length-1:=by rw[qV,List.length_drop]
theorem ak.lT{t:List aj}{b:Int}{p:aF}(hb:b=(xs.length:Int)-1):ak (xs++(t.drop 1).map (cZ b)) p↔ak xs p∨((xs.length:Int)≤p.1∧ak t (p.1-b,p.2)):=by
 have hml:=nC t b;have hpl:∀a:aj,(cZ b a).aJ.length=a.aJ.length:=fun a=>by show(List.map _ _).length=_;rw[qV]
 constructor
 ·intro h;have h':=h;obtain⟨h1,h2,h3,h4⟩:=h;rw[qA,hml]at h2
  by_cases hl:p.1.toNat<xs.length
  ·rw[dA hl]at h4;exact .inl ⟨h1,by omega,h3,h4⟩
  ·have hlt:p.1-b<(t.length:Nat):=by omega
   rw[p9 hb (by omega) hlt,hpl]at h4;exact .inr ⟨by omega,by show 0≤p.1-b;omega,hlt,h3,h4⟩
 ·rintro(h|⟨h,h1,h2,h3,h4⟩)
  ·exact h.app
  ·have h2':p.1-b<(t.length:Nat):=h2;refine⟨by omega,by rw[qA,hml];omega,h3,?_⟩;rw[p9 hb h h2',hpl];exact h4
theorem wF{t:List aj}{b:Int}{p:aF}(hb:b=(xs.length:Int)-1)(h:(xs.length:Int)≤p.1)(hp:ak t (p.1-b,p.2)):au (xs++(t.drop 1).map (cZ b)) p=((au t (p.1-b,p.2)).1+b,(au t (p.1-b,p.2)).2):=by
 obtain⟨h1,h2,h3,h4⟩:=hp;unfold au;rw[p9 hb h h2];show elt (dflt aM) (List.map _ _) p.2=_;unfold elt
 have h4':p.2.toNat<(ah t (p.1-b)).aJ.length:=by
  have h5:p.2<((ah t (p.1-b)).aJ.length:Nat):=h4;have h6:0≤p.2:=h3;omega
 rw[qC,List.getElem?_map,qB h4'];show _=(((ah t (p.1-b)).aJ.getD p.2.toNat (dflt aM)).1+b,((ah t (p.1-b)).aJ.getD p.2.toNat (dflt aM)).2);rw[qC,qB h4'];rfl
theorem SX.XV{t:List aj}{b:Int}(hb:b=(xs.length:Int)-1)(ht:ig (fun p=>ak t p) t)(h0:ak t (0,0))(h00:∀p,ak t p→p.1=0→p=(0,0))(hD:∀i,D i→i<(xs.length:Nat))(hX:∀p,X p→p.1<(xs.length:Nat))(h:SX D X xs ys):
  SX D (fun p=>X p∨p=((au t (0,0)).1+b,(au t (0,0)).2)) (xs++(t.drop 1).map (cZ b)) (ys++(t.drop 1).map (cZ b)):=by
 obtain⟨r1,r2,r3,r4⟩:=ht (0,0) h0;have rR:ak t (au t (0,0)):=r2
 have rpos:1≤(au t (0,0)).1:=by
  have h1:=rR.1
  by_cases e:(au t (0,0)).1=0
  ·exact absurd (h00 _ rR e) r4
  ·omega
 refine⟨h.ag.app _,fun p hp=> ?_,fun p hp=>hp.1.2⟩;obtain⟨⟨p1,p2⟩,p3⟩:=hp;rcases(ak.lT hb).1 p1 with q|⟨q1,q2⟩
 ·obtain⟨w1,w2,w3,w4⟩:=h.wi p ⟨⟨q,p2⟩,fun k=>p3 (.inl k)⟩;have e:=nE (ys:=(t.drop 1).map (cZ b)) (Da q);refine⟨p1,?_,by rw[e,nE (Da w2.1.1),w3],by rw[e];exact w4⟩;rw[e];refine⟨⟨w2.1.1.app,w2.1.2⟩,fun k=> ?_⟩;rcases k with k|k
  ·exact w2.2 k
  ·have:=w2.1.1.2.1;rw[k]at this;have h2:(au t (0,0)).1+b<(xs.length:Nat):=this;omega
 ·obtain⟨w1,w2,w3,w4⟩:=ht _ q2;have w2':ak t (au t (p.1-b,p.2)):=w2;have e:=wF hb q1 q2
  have hne:(au t (p.1-b,p.2)).1≠0:=fun e0=>by
   have e1:=h00 _ w2' e0;rw[e1]at w3;exact p3 (.inr (eB (by rw[w3];show p.1=p.1-b+b;omega) (by rw[w3])))
  have hge:1≤(au t (p.1-b,p.2)).1:=by have:=w2'.1;omega
  have hin:ak (xs++(t.drop 1).map (cZ b)) ((au t (p.1-b,p.2)).1+b,(au t (p.1-b,p.2)).2):=(ak.lT hb).2 (.inr ⟨by show(xs.length:Int)≤(au t (p.1-b,p.2)).1+b;omega,by
   rw[show(((au t (p.1-b,p.2)).1+b,(au t (p.1-b,p.2)).2):aF).1-b=(au t (p.1-b,p.2)).1 by show(au t (p.1-b,p.2)).1+b-b=_;omega];exact w2'⟩)
  refine⟨p1,?_,?_,?_⟩
  ·rw[e];refine⟨⟨hin,fun k=> ?_⟩,fun k=> ?_⟩
   ·have:=hD _ k;have h2:(au t (p.1-b,p.2)).1+b<(xs.length:Nat):=this;omega
   ·rcases k with k|k
    ·have:=hX _ k;have h2:(au t (p.1-b,p.2)).1+b<(xs.length:Nat):=this;omega
    ·have e2:au t (p.1-b,p.2)=au t (0,0):=by
      injection k with k1 k2
      exact eB (by omega) k2
     rw[e2,r3]at w3;injection w3 with w5 w6
     omega
  ·rw[e,wF hb (by show(xs.length:Int)≤(au t (p.1-b,p.2)).1+b;omega) (by
    rw[show(((au t (p.1-b,p.2)).1+b,(au t (p.1-b,p.2)).2):aF).1-b=(au t (p.1-b,p.2)).1 by show(au t (p.1-b,p.2)).1+b-b=_;omega];exact w2')]
   have e3:((((au t (p.1-b,p.2)).1+b,(au t (p.1-b,p.2)).2):aF).1-b,(((au t (p.1-b,p.2)).1+b,(au t (p.1-b,p.2)).2):aF).2)=au t (p.1-b,p.2):=eB (by show(au t (p.1-b,p.2)).1+b-b=_;omega) rfl;rw[e3,w3];exact eB (by show p.1-b+b=p.1;omega) rfl
  ·rw[e];intro k;refine w4 (eB ?_ ?_)
   ·have:=congrArg Prod.fst k;show(au t (p.1-b,p.2)).1=p.1-b;have h2:(au t (p.1-b,p.2)).1+b=p.1:=this;omega
   ·have h2:=congrArg Prod.snd k;exact h2
theorem pE(lv:Int)(a:aj):(iR lv a).aJ=a.aJ:=by unfold iR;cases bR a.kind<;>rfl
theorem uH(lv:Int)(t:List aj){i:Int}(h0:0≤i)(h1:i<(t.length:Nat)):ah (cB lv t) i=iR lv (ah t i):=by
 unfold ah elt cB;rw[qC,List.getElem?_map,qC,qB (by omega)];rfl
theorem lD(lv:Int)(t:List aj):(cB lv t).length=t.length:=by unfold cB;rw[qV]
theorem ak.jm{lv:Int}{t:List aj}{p:aF}:ak (cB lv t) p↔ak t p:=by
 unfold ak;rw[lD];constructor
 ·rintro⟨h1,h2,h3,h4⟩;rw[uH lv t h1 h2,pE]at h4;exact⟨h1,h2,h3,h4⟩
 ·rintro⟨h1,h2,h3,h4⟩;refine⟨h1,h2,h3,?_⟩;rw[uH lv t h1 h2,pE];exact h4
theorem nT{lv:Int}{t:List aj}{p:aF}(hp:ak t p):au (cB lv t) p=au t p:=by
 unfold au;rw[uH lv t hp.1 hp.2.1,pE]
theorem ig.shift{lv:Int}{t:List aj}(h:ig (fun p=>ak t p) t):ig (fun p=>ak (cB lv t) p) (cB lv t):=fun p hp=>by
 have hp':=ak.jm.1 hp;obtain⟨h1,h2,h3,h4⟩:=h p hp';rw[nT hp'];exact⟨hp,ak.jm.2 h2,by rw[nT h2,h3],h4⟩
theorem St.expand{bk:List (List aj)}(h:St D xs ys)(k:l8 D xs x y)(hD:∀i,D i→i<(xs.length:Nat))(hx:(ah xs x).2.2.2.2.length=1)
  (ht:ig (fun p=>ak (bO bk (ah xs x).2.2.1) p) (bO bk (ah xs x).2.2.1)) (h0:ak (bO bk (ah xs x).2.2.1) (0,0)) (h00:∀p,ak (bO bk (ah xs x).2.2.1) p→p.1=0→p=(0,0)):
  St (fun i=>D i∨i=x) (mG bk xs x y) (bC (eO (bO bk (ah ys x).2.2.1) (ah ys x).2.1 ys y) x):=by
 have ex:ah ys x=ah xs x:=(h.ag.2 x k.px.1 k.px.2.1 k.lx).symm;have hl:xs.length=ys.length:=h.ag.1;have xl:x<(xs.length:Nat):=k.px.2.1;have yl:y<(xs.length:Nat):=k.py.2.1;have hne:=k.ne;rw[ex];unfold mG eO lW;generalize bO bk (ah xs x).2.2.1=t at*;generalize (ah xs x).2.1=lv;generalize hb:(xs.length:Int)-1=b;have hb':b=(xs.length:Int)-1:=hb.symm
 have e1:jq lv ((ys.length:Int)-1) t (t.length-1)=((cB lv t).drop 1).map (cZ b):=by
  unfold jq;rw[←hl,hb,qN (by rw[List.length_drop,lD];exact Nat.le_refl _)]
 have s0:=SX.start h k;have s1:=s0.XV (t:=cB lv t) hb' ht.shift (ak.jm.2 h0) (fun p hp e=>h00 p (ak.jm.1 hp) e) hD (fun p hp=>by rcases hp with e|e<;>rw[e]<;>assumption);rw[e1,nT h0]at*;obtain⟨r1,r2,r3,r4⟩:=ht (0,0) h0;have rR:ak t (au t (0,0)):=r2
 have rpos:1≤(au t (0,0)).1:=by
  have h1:=rR.1
  by_cases e:(au t (0,0)).1=0
  ·exact absurd (h00 _ rR e) r4
  ·omega
 generalize au t (0,0)=R at*
 have hR:ak (xs++((cB lv t).drop 1).map (cZ b)) (R.1+b,R.2):=(ak.lT hb').2 (.inr ⟨by show(xs.length:Int)≤R.1+b;omega,ak.jm.2 (by
  rw[show((R.1+b,R.2):aF).1-b=R.1 by show R.1+b-b=R.1;omega];exact rR)⟩)
 have s2:=s1.link (p:=(y,0)) (q:=(R.1+b,R.2)) k.py.app k.ly (.inl (.inr rfl)) hR (fun e=>by have:=hD _ e;have h2:R.1+b<(xs.length:Nat):=this;omega) (.inr rfl) (dL (.inl (by omega)))
 have e2:bL (ys++((cB lv t).drop 1).map (cZ b)) ((ys.length:Int)-1+R.1,R.2) (y,0)=bL (ys++((cB lv t).drop 1).map (cZ b)) (y,0) (R.1+b,R.2):=by
  rw[←hl,hb,show b+R.1=R.1+b by omega];refine uN ?_ ?_
  ·have:=(s1.ag.port hR (fun e=>by have:=hD _ e;have h2:R.1+b<(xs.length:Nat):=this;omega)).1;exact this
  ·exact(s1.ag.port (p:=(y,0)) k.py.app k.ly).1
 rw[e2];refine s2.end1 k.px.1 fun p hp _=> ?_
 rw[ak.jh]at hp;constructor
 ·rintro⟨(e|e)|e,e3,e4⟩
  ·rw[e]
  ·exact absurd e e3
  ·exact absurd e e4
 ·intro e;rcases(ak.lT hb').1 hp with q|⟨q,_⟩
  ·obtain⟨q1,q2,q3,q4⟩:=q;rw[e]at q4;have h3:p.2<((ah xs x).2.2.2.2.length:Nat):=q4;refine⟨.inl (.inl (eB e (by show p.2=0;omega))),fun e2=> ?_,fun e2=> ?_⟩
   ·rw[e2]at e;exact hne e.symm
   ·rw[e2]at e;have h4:R.1+b=x:=e;omega
  ·omega
end
end Go.Tr
namespace Go.Tr
open Go Go.RowKit
def gA(a:aj):aB:=⟨a.1,a.2.1,a.2.2.1,a.2.2.2.1,a.2.2.2.2.map fun p=>⟨p.1,p.2⟩⟩
theorem vV(l:List Int):List.flatMap (enc (.int .i64)) l=l.flatMap bM:=by
 induction l with
 |nil=>rfl
 |cons x l ih=>rw[qU,qU,ih];rfl
theorem OJ(l:List aF):(l.map fun p=>(⟨p.1,p.2⟩:aG)).flatMap aG.enc=List.flatMap (enc aM) l:=by
 induction l with
 |nil=>rfl
 |cons x l ih=>rw[List.map_cons,qU,qU,ih];rfl
theorem QW(a:aj):(gA a).enc=enc aD a:=by
 show[_,_,_,D.sl _ _,D.sl _ _]=[_]++([_]++([_]++([_]++[_])));simp only[List.cons_append,List.nil_append,gA];rw[OJ,←vV,qV]
abbrev Vw:=Int×Int
def BG(xs:List aj):Nat→Vw→Vw×Bool
 |0,w=>(w,false)
 |k+1,w=>bif (w.1 !=2)||(ah xs w.2).2.2.2.2.length==0 then(w,true)else BG xs k ((ah xs w.2).2.2.2.2.getD 0 (0,0))
def zu{α:Type}(g:α→Bool):List α→Int→Int
 |[],_=> -1
 |x::l,k=>bif g x then k else zu g l (k+1)
theorem Cy{α:Type}(d:α){xs:List α}{i:Nat}(h:i<xs.length):xs.drop i=xs.getD i d::xs.drop (i+1):=by
 rw[qC,qB h];exact List.drop_eq_getElem_cons h
theorem Ba(n:Nat)(f:Nat→Bool):eu (n+1) f=(eu n f&&f n):=by simp[eu,List.range_succ]
def Wf(a:aj):Prop:=dQ (gA a)=true
theorem fK{a:aj}(h:Wf a):cO a.1 a.2.1=true∧gy (gA a)=true∧(a.2.2.2.2.length:Int)=dz a.1 (eP a.1 a.2.2.2.2.length)∧0<a.2.2.2.2.length:=by
 unfold Wf dQ at h;simp only[qD,qQ,beq_iff_eq]at h;obtain⟨⟨⟨h1,h2⟩,h3⟩,h4⟩:=h;have e:((gA a).aJ.length:Int)=(a.2.2.2.2.length:Int):=by simp[gA]
 have e2:fieldsOf (gA a)=eP a.1 a.2.2.2.2.length:=by unfold fieldsOf;rw[e];rfl
 rw[e,e2]at h2;rw[e2]at h1;exact⟨h3,h4,h2,by(have:0<dz a.1 (eP a.1 a.2.2.2.2.length):=h1);omega⟩
theorem I5{a:aj}(h:Wf a):1≤a.1∧a.1≤12:=by
 have:=(fK h).1;unfold cO kg at this;simp only[qD]at this;exact iU this.1
theorem rQ{a:aj}(h:Wf a):(a.1=1∨a.1=5∨a.1=6∨a.1=12→a.2.2.2.2.length=1)∧(a.1=8∨a.1=10∨a.1=11→a.2.2.2.2.length=2)∧(a.1=2∨a.1=3∨a.1=4∨a.1=7→a.2.2.2.2.length=3)∧(a.1=9→1≤a.2.2.2.2.length∧a.2.2.2.2.length≤4):=by
 obtain⟨_,_,h3,h4⟩:=fK h;have hf:∀k:Int,k≠9→eP k a.2.2.2.2.length=0:=fun k hk=>by unfold eP;rw[if_neg (by simpa using hk)]
 refine⟨fun e=> ?_,fun e=> ?_,fun e=> ?_,fun e=> ?_⟩
 ·have k9:a.1≠9:=by omega
  rw[hf _ k9]at h3;unfold dz at h3;rw[if_neg k9,if_pos rfl,if_pos e]at h3;omega
 ·have k9:a.1≠9:=by omega
  rw[hf _ k9]at h3;unfold dz at h3;rw[if_neg k9,if_pos rfl,if_neg (by omega),if_pos e]at h3;omega
 ·have k9:a.1≠9:=by omega
  rw[hf _ k9]at h3;unfold dz at h3;rw[if_neg k9,if_pos rfl,if_neg (by omega),if_neg (by omega),if_pos e]at h3;omega
 ·rw[e]at h3;unfold dz eP at h3;simp only[beq_self_eq_true,if_true]at h3
  by_cases hb:dX ((a.2.2.2.2.length:Int)-1) 0 3=true
  ·have:=iU hb;omega
  ·rw[if_neg hb]at h3;omega
theorem iC{ka la kb lb c:Int}(h:rule ka la kb lb=c)(h0:c≠0):
  (c=1→ka=2∧kb=3)∧(c=2→ka=4∧kb=4)∧(c=3→ka=4)∧(c=4→ka=5)∧(c=5→ka=6∧(kb=7∨kb=8))∧(c=6→(ka=6∧kb=11)∨(ka=9∧kb=10))∧(c=7→ka=12∧(kb=3∨kb=7∨kb=8∨kb=10∨kb=11)):=by
 unfold rule at h;split at h
 ·subst h;simp_all
 split at h
 ·split at h
  ·rename_i h1;simp only[qD,beq_iff_eq]at h1;subst h;simp_all
  ·split at h
   ·subst h;simp_all
   ·omega
 split at h
 ·split at h
  ·rename_i h1;simp only[qD,beq_iff_eq]at h1;subst h;simp_all
  ·omega
 split at h
 ·split at h
  ·rename_i h1;simp only[Bool.or_eq_true,beq_iff_eq]at h1;subst h;simp_all
  ·split at h
   ·rename_i h1;simp only[beq_iff_eq]at h1;subst h;simp_all
   ·omega
 split at h
 ·split at h
  ·rename_i h1;simp only[beq_iff_eq]at h1;subst h;simp_all
  ·omega
 split at h
 ·split at h
  ·rename_i h1;unfold oD at h1;simp only[Bool.or_eq_true,beq_iff_eq]at h1;subst h;refine⟨by simp,by simp,by simp,by simp,by simp,by simp,fun _=>⟨by assumption,by omega⟩⟩
  ·omega
 ·omega
theorem Dz(ka la kb lb:Int):(aZ ka la kb lb=2→rule kb lb ka la=aV ka la kb lb∧aV ka la kb lb≠0)∧(aZ ka la kb lb=1→rule ka la kb lb=aV ka la kb lb∧aV ka la kb lb≠0)∧(aZ ka la kb lb=0∨aZ ka la kb lb=1∨aZ ka la kb lb=2):=by
 unfold aZ aV;cases kU ka la kb lb with
 |false=>simp
 |true=>
  simp only[if_true]
  by_cases h1:rule ka la kb lb=0<;>by_cases h2:rule kb lb ka la=0<;>simp[h1,h2]
theorem Lv{xs:List aj}{a b:Int}(hc:1≤aV (ah xs a).1 (ah xs a).2.1 (ah xs b).1 (ah xs b).2.1∧aV (ah xs a).1 (ah xs a).2.1 (ah xs b).1 (ah xs b).2.1≤7):
  rule (ah xs (aC xs a b).1).1 (ah xs (aC xs a b).1).2.1 (ah xs (aC xs a b).2).1 (ah xs (aC xs a b).2).2.1=aV (ah xs a).1 (ah xs a).2.1 (ah xs b).1 (ah xs b).2.1:=by
 obtain⟨h2,h1,h3⟩:=Dz (ah xs a).1 (ah xs a).2.1 (ah xs b).1 (ah xs b).2.1;unfold aC;rcases h3 with e|e|e
 ·exfalso;unfold aZ at e;unfold aV at hc;cases hp:kU (ah xs a).1 (ah xs a).2.1 (ah xs b).1 (ah xs b).2.1 with
  |false=>rw[hp]at hc;simp at hc
  |true=>
   rw[hp]at e hc;simp only[if_true]at e hc;split at e
   ·rename_i r1;rw[if_pos r1]at hc;split at e
    ·rename_i r2;rw[if_pos r2]at hc;omega
    ·omega
   ·omega
 ·rw[e];exact(h1 e).1
 ·rw[e];exact(h2 e).1
def sig(a:aj):Int×Int×Int×List Int×Nat:=(a.1,a.2.1,a.2.2.1,a.2.2.2.1,a.2.2.2.2.length)
theorem I6{a b:aj}(h:sig a=sig b):Wf a↔Wf b:=by
 unfold sig at h;simp only[Prod.mk.injEq]at h;obtain⟨h1,h2,h3,h4,h5⟩:=h
 have e:dQ (gA a)=dQ (gA b):=by
  unfold dQ fieldsOf gy gA;simp only[qV,h1,h2,h3,h4,h5]
 unfold Wf;rw[e]
def eT(xs ys:List aj):Prop:=xs.length=ys.length∧∀i:Int,0≤i→i<(xs.length:Nat)→sig (ah xs i)=sig (ah ys i)
theorem eT.refl(xs:List aj):eT xs xs:=⟨rfl,fun _ _ _=>rfl⟩
theorem eT.setPort{xs ys:List aj}(h:eT xs ys)(p q:aF):eT (aL xs p q) ys:=by
 refine⟨by rw[dh];exact h.1,fun i h0 h1=> ?_⟩;rw[dh]at h1;rw[←h.2 i h0 h1,eG];split
 ·rename_i e;rw[yS (xs:=xs) e.1];unfold sig;simp only[List.length_set,aj.aJ]
 ·rfl
theorem eT.link{xs ys:List aj}(h:eT xs ys)(p q:aF):eT (bL xs p q) ys:=(h.setPort p q).setPort q p
theorem eT.move{xs ys:List aj}(h:eT xs ys)(p q:aF):eT (dG xs p q) ys:=h.link _ _
theorem eT.join{xs ys:List aj}(h:eT xs ys)(p q:aF):eT (aU xs p q) ys:=by
 unfold aU;cases ((au xs p).1==q.1&&(au xs p).2==q.2)with
 |true=>exact h
 |false=>exact h.link _ _
theorem eT.app{xs ys:List aj}(h:eT xs ys)(zs:List aj):eT (xs++zs) (ys++zs):=by
 refine⟨by rw[qA,qA,h.1],fun i h0 h1=> ?_⟩;rw[qA]at h1
 by_cases hl:i<(xs.length:Nat)
 ·rw[dA (by omega),dA (by rw[←h.1];omega)];exact h.2 i h0 hl
 ·have:∀ws:List aj,ws.length=xs.length→ah (ws++zs) i=zs.getD (i.toNat-xs.length) (dflt aD):=fun ws hw=>by
   unfold ah elt;rw[qC,qL (by omega),hw,qC]
  rw[this xs rfl,this ys h.1.symm]
theorem Ng(y:Int)(xs:List aj):∀k,eT (rU y xs k) (xs++List.replicate k (bB 5 0 0 [] 1))
 |0=>by rw[List.replicate_zero,qS];exact eT.refl _
 |k+1=>by
  unfold rU;rw[List.replicate_succ',←qF];exact((Ng y xs k).app _).move _ _
theorem JJ(lab c d:Int)(P:List aj):∀k,eT (aY lab c d P k) (P++List.replicate k (bB 4 lab 0 [] 3))
 |0=>by rw[List.replicate_zero,qS];exact eT.refl _
 |k+1=>by
  unfold aY wR;rw[List.replicate_succ',←qF];exact(((JJ lab c d P k).app _).link _ _).link _ _
theorem FZ{y:Int}{b:Nat}{P Q:List aj}(h:eT P Q):∀k,eT (dw y b P k) Q
 |0=>h
 |k+1=>(FZ h k).move _ _
theorem X7:Wf (bB 5 0 0 [] 1):=by unfold Wf;decide
theorem OB{k l:Int}(h:cO k l=true):l=0∨(0≤l∧l≤8):=by
 unfold cO at h;simp only[qD,Bool.or_eq_true,beq_iff_eq]at h;rcases h.2 with h|h
 ·exact .inl h
 ·exact .inr (iU h.2)
theorem yT{k l:Int}(hk:k=3∨k=4∨k=8∨k=12)(h:l=0∨(0≤l∧l≤8)):cO k l=true:=by
 have h1:kg k=true:=vY (by omega) (by omega)
 have h2:bR k=true:=by
  unfold bR;rw[h1];rcases hk with rfl|rfl|rfl|rfl<;>decide
 unfold cO;rw[h1,h2];rcases h with rfl|h
 ·rfl
 ·rw[show xH l=true from vY h.1 h.2];simp
theorem K4{k lv v:Int}{d:List Int}{n:Nat}(h1:cO k lv=true)(h2:gy (gA (bB k lv v d n))=true)(h3:(n:Int)=dz k (eP k n))(h4:0<n):Wf (bB k lv v d n):=by
 unfold Wf dQ;have e:((gA (bB k lv v d n)).aJ.length:Int)=(n:Int):=by simp[gA,bB]
 have e2:fieldsOf (gA (bB k lv v d n))=eP k n:=by unfold fieldsOf;rw[e];rfl
 rw[e2,e];show(decide (0<dz k (eP k n))&&(n:Int)==dz k (eP k n)&&cO k lv&&gy (gA (bB k lv v d n)))=true;rw[←h3,h1,h2];simp only[beq_self_eq_true,Bool.and_true,qQ];omega
theorem X8{lv:Int}(h:lv=0∨(0≤lv∧lv≤8)):Wf (bB 4 lv 0 [] 3):=K4 (yT (by omega) h) rfl rfl (by decide)
theorem X6{lv:Int}(h:lv=0∨(0≤lv∧lv≤8)):Wf (bB 3 lv 0 [] 3):=K4 (yT (by omega) h) rfl rfl (by decide)
theorem TA{lv v:Int}(h:lv=0∨(0≤lv∧lv≤8))(hv:jV v=true):Wf (bB 12 lv v [] 1):=K4 (yT (by omega) h) (by show((((0:Nat):Int)==0)&&jV v)=true;rw[hv];rfl) rfl (by decide)
theorem X9{v:Int}(hv:qz v=true):Wf (bB 6 0 v [] 1):=K4 (by decide) (by show((((0:Nat):Int)==0)&&qz v)=true;rw[hv];rfl) rfl (by decide)
theorem Ya{lv v w:Int}(h:lv=0∨(0≤lv∧lv≤8))(hv:jQ v=true)(hw:qz w=true):Wf (bB 8 lv v [w] 2):=K4 (yT (by omega) h) (by show(((((1:Nat):Int)==1)&&jQ v)&&qz (dZ [w] 0))=true;rw[hv,show dZ [w] 0=w from rfl,hw];rfl) rfl (by decide)
theorem Ox{a:aj}(h:Wf a):Wf (bB a.1 a.2.1 a.2.2.1 a.2.2.2.1 a.2.2.2.2.length):=(I6 (by unfold sig bB;simp)).2 h
theorem wL{a:aj}(h:Wf a):a.2.1=0∨(0≤a.2.1∧a.2.1≤8):=OB (fK h).1
theorem Tx{a:aj}(h:Wf a)(k:a.1=6):qz a.2.2.1=true:=by
 have:=(fK h).2.1;unfold gy gA at this;simp only[k,beq_self_eq_true,if_true,qD]at this;exact this.2
theorem Vu{a:aj}(h:Wf a)(k:a.1=7):jQ a.2.2.1=true:=by
 have:=(fK h).2.1;unfold gy gA at this;simp only[k]at this;simp at this;exact this.2
theorem Tz{a:aj}(h:Wf a)(k:a.1=8):a.2.2.2.1.length=1∧jQ a.2.2.1=true∧qz (dZ a.2.2.2.1 0)=true:=by
 have:=(fK h).2.1;unfold gy gA at this;simp only[k]at this;simp at this;exact⟨by omega,this.1.2,this.2⟩
theorem M5{l:List Int}(h:kN l=true){i:Int}(h0:0≤i)(h1:i<(l.length:Nat)):jV (iZ l i)=true:=by
 unfold kN eu at h;rw[List.all_eq_true]at h;have:=h i.toNat (List.mem_range.2 (by omega));exact this
theorem Tw{a:aj}(h:Wf a)(k:a.1=10):1≤a.2.2.2.1.length∧a.2.2.2.1.length≤4∧kN a.2.2.2.1=true:=by
 have:=(fK h).2.1;unfold gy gA at this;simp only[k]at this;simp at this;have h2:=iU this.1.2;exact⟨by omega,by omega,this.2⟩
theorem Ew{a:aj}(h:Wf a)(k:a.1=11):a.2.2.2.1.length=2∧kN a.2.2.2.1=true:=by
 have:=(fK h).2.1;unfold gy gA at this;simp only[k]at this;simp at this;exact⟨by omega,this.2⟩
theorem uE{a:aj}(h:Wf a)(k:a.1=12):0≤a.2.2.1∧a.2.2.1≤23:=by
 have:=(fK h).2.1;unfold gy gA at this;simp only[k]at this;simp at this;exact iU this.2
theorem Eu{a:aj}(h:Wf a)(k:a.1=9):0≤a.2.2.1∧a.2.2.1≤3:=by
 have:=(fK h).2.1;unfold gy gA at this;simp only[k]at this;simp at this;exact iU this.2
theorem wf_data{a:aj}(h:Wf a):a.2.2.2.1.length≤4:=by
 have:=(fK h).2.1;unfold gy gA at this;dsimp only at this;split at this
 ·simp at this;rw[this.1];decide
 split at this
 ·simp at this;rw[this.1];decide
 split at this
 ·simp at this;omega
 split at this
 ·simp at this;rw[this.1];decide
 split at this
 ·simp at this;rw[this.1];decide
 split at this
 ·simp at this;have:=iU this.1.2;omega
 split at this
 ·simp at this;omega
 ·simp at this;rw[this.2];decide
def GI(D:Int→Prop)(xs:List aj):Prop:=∀i:Int,0≤i→i<(xs.length:Nat)→¬D i→Wf (ah xs i)
theorem GI.grow{D E:Int→Prop}{xs xs' zs:List aj}(h:GI D xs)(hs:eT xs' (xs++zs))(hz:∀z∈zs,Wf z)(hE:∀i,D i→E i):GI E xs':=fun i h0 h1 hi=>by
 rw[I6 (hs.2 i h0 h1)]
 by_cases hl:i<(xs.length:Nat)
 ·rw[dA (by omega)];exact h i h0 hl fun k=>hi (hE i k)
 ·have hln:=hs.1;rw[qA]at hln;have hlt:i.toNat-xs.length<zs.length:=by omega
  have e:ah (xs++zs) i=zs[i.toNat-xs.length]:=by
   unfold ah elt;rw[qC,qL (by omega),qB hlt];rfl
  rw[e];exact hz _ (List.getElem_mem hlt)
structure BkW(bk:List (List aj)):Prop where
 wi:∀v:Int,0≤v→v<(bk.length:Nat)→ig (fun p=>ak (bO bk v) p) (bO bk v)
 r0:∀v:Int,0≤v→v<(bk.length:Nat)→ak (bO bk v) (0,0)
 r1:∀v:Int,0≤v→v<(bk.length:Nat)→∀p,ak (bO bk v) p→p.1=0→p=(0,0)
 wf:∀v:Int,0≤v→v<(bk.length:Nat)→∀i:Int,0≤i→i<((bO bk v).length:Nat)→Wf (ah (bO bk v) i)
def tZ(bk:List (List aj))(xs:List aj)(c x y:Int):List aj:=
 bif c==3 then[lZ xs y]++[lZ xs y]++List.replicate ((ah xs y).2.2.2.2.length-1) (bB 4 (ah xs x).2.1 0 [] 3)
 else bif c==4 then List.replicate ((ah xs y).2.2.2.2.length-1) (bB 5 0 0 [] 1)
 else bif c==5 then(bif (ah xs y).1==7 then[bB 8 (ah xs y).2.1 (ah xs y).2.2.1 [(ah xs x).2.2.1] 2]else[bB 6 0 (wE (ah xs y).2.2.1 (iZ (ah xs y).2.2.2.1 0) (ah xs x).2.2.1) [] 1])
 else bif c==6 then(bif (ah xs x).1==6 then[bB 12 (ah xs y).2.1 (iZ (ah xs y).2.2.2.1 (bif (ah xs x).2.2.1==0 then 1 else 0)) [] 1]
  else[bB 12 (ah xs y).2.1 (iZ (ah xs y).2.2.2.1 (ah xs x).2.2.1) [] 1]++List.replicate ((ah xs x).2.2.2.2.length-1) (bB 3 (ah xs y).2.1 0 [] 3))
 else bif c==7 then((lW bk xs x).drop 1).map (cZ ((xs.length:Nat)-1))else[]
section
variable {D:Int→Prop}{xs ys:List aj}{x y:Int}{bk:List (List aj)}
theorem MQ{x:Int}{b:Nat}{P Q:List aj}(h:eT P Q):∀k,eT (Cn x b P k) Q
 |0=>h
 |k+1=>(MQ h k).move _ _
theorem MS(lv:Int)(b:Nat)(P:List aj):∀k,eT (pK lv b P k) (P++List.replicate k (bB 3 lv 0 [] 3))
 |0=>by rw[List.replicate_zero,qS];exact eT.refl _
 |k+1=>by
  unfold pK;rw[List.replicate_succ',←qF];exact((MS lv b P k).app _).link _ _
theorem FQ{c:Int}(hc:1≤c∧c≤7)(hx:x.toNat<xs.length):eT (gH bk xs c x y) (xs++tZ bk xs c x y):=by
 have hcs:c=1∨c=2∨c=3∨c=4∨c=5∨c=6∨c=7:=by omega
 rcases hcs with rfl|rfl|rfl|rfl|rfl|rfl|rfl
 ·show eT (aU (aU xs (x,1) (y,1)) (x,2) (y,2)) (xs++[]);rw[qS];exact((eT.refl xs).join _ _).join _ _
 ·show eT (aU (aU xs (x,1) (y,1)) (x,2) (y,2)) (xs++[]);rw[qS];exact((eT.refl xs).join _ _).join _ _
 ·show eT (bI xs x y) (xs++([lZ xs y]++[lZ xs y]++List.replicate ((ah xs y).2.2.2.2.length-1) (bB 4 (ah xs x).2.1 0 [] 3)));unfold bI kE dup3
  have e:(ah (dup2 xs y) x).2.1=(ah xs x).2.1:=by
   unfold dup2;rw[dA (by rw[qA];omega),dA hx]
  rw[←(jY (x:=x) (by rw[gF];omega) _).1,e];refine FZ ((eT.move ?_ _ _).move _ _) _;rw[←qF,←qF];exact JJ _ _ _ _ _
 ·exact Ng y xs _
 ·show eT (bG xs x y) (xs++(bif (ah xs y).1==7 then[bB 8 (ah xs y).2.1 (ah xs y).2.2.1 [(ah xs x).2.2.1] 2]else[bB 6 0 (wE (ah xs y).2.2.1 (iZ (ah xs y).2.2.2.1 0) (ah xs x).2.2.1) [] 1]));unfold bG;cases (ah xs y).1==7 with
  |true=>exact(((eT.refl xs).app _).move _ _).move _ _
  |false=>exact((eT.refl xs).app _).move _ _
 ·show eT (jN xs x y) (xs++(bif (ah xs x).1==6 then[bB 12 (ah xs y).2.1 (iZ (ah xs y).2.2.2.1 (bif (ah xs x).2.2.1==0 then 1 else 0)) [] 1]
   else[bB 12 (ah xs y).2.1 (iZ (ah xs y).2.2.2.1 (ah xs x).2.2.1) [] 1]++List.replicate ((ah xs x).2.2.2.2.length-1) (bB 3 (ah xs y).2.1 0 [] 3)))
  unfold jN;cases (ah xs x).1==6 with
  |true=>exact((eT.refl xs).app _).move _ _
  |false=>
   simp only[qH];rw[←qF];exact(MQ (MS _ _ _ _) _).move _ _
 ·exact((eT.refl xs).app _).link _ _
theorem Rk{c:Int}(h:St D xs ys)(k:l8 D xs x y)(hD:∀i,D i→i<(xs.length:Nat))(hw:GI D xs)(hr:rule (ah xs x).1 (ah xs x).2.1 (ah xs y).1 (ah xs y).2.1=c)(hc:1≤c∧c≤7)(hb:BkW bk)(h7:c=7→(ah xs x).2.2.1<(bk.length:Nat)):
  St (fun i=>D i∨i∈fP c x y) (gH bk xs c x y) (fO bk ys c x y):=by
 have wx:=hw x k.px.1 k.px.2.1 k.lx;have wy:=hw y k.py.1 k.py.2.1 k.ly;obtain⟨x1,x2,x3,x4⟩:=rQ wx;obtain⟨y1,y2,y3,y4⟩:=rQ wy;obtain⟨r1,r2,r3,r4,r5,r6,r7⟩:=iC hr (by omega)
 have mono:∀{E:Int→Prop} {A B:List aj},(∀i,E i↔D i∨i=x∨i=y)→St (fun i=>D i∨i=x∨i=y) A B→St E A B:=fun {E A B} e s=>by
  have:E=fun i=>D i∨i=x∨i=y:=funext fun i=>propext (e i)
  rw[this];exact s
 have g2:c≠7→∀i,(D i∨i∈fP c x y)↔D i∨i=x∨i=y:=fun hne i=>by
  unfold fP;rw[show(c==7)=false by simpa using hne];simp
 have hcs:c=1∨c=2∨c=3∨c=4∨c=5∨c=6∨c=7:=by omega
 rcases hcs with rfl|rfl|rfl|rfl|rfl|rfl|rfl
 ·obtain⟨a,b⟩:=r1 rfl;exact mono (g2 (by decide)) (h.joins k (x3 (by omega)) (y3 (by omega)))
 ·obtain⟨a,b⟩:=r2 rfl;exact mono (g2 (by decide)) (h.joins k (x3 (by omega)) (y3 (by omega)))
 ·exact mono (g2 (by decide)) (h.duplicate k hD (x3 (by have:=r3 rfl;omega)) (fK wy).2.2.2)
 ·exact mono (g2 (by decide)) (h.erase k hD (x1 (by have:=r4 rfl;omega)))
 ·obtain⟨a,b⟩:=r5 rfl;exact mono (g2 (by decide)) (h.operate k hD (x1 (by omega)) (fun e=>y3 (by omega)) (fun e=>y2 (by omega)))
 ·have q:=r6 rfl;exact mono (g2 (by decide)) (h.choose k hD (by omega) (fun e=>x1 (by omega)) (fK wx).2.2.2 (y2 (by omega)))
 ·obtain⟨a,b⟩:=r7 rfl;have v:=uE wx a;have e:(fun i=>D i∨i∈fP 7 x y)=fun i=>D i∨i=x:=funext fun i=>propext (by unfold fP;simp)
  rw[e];exact h.expand k hD (x1 (by omega)) (hb.wi _ v.1 (h7 rfl)) (hb.r0 _ v.1 (h7 rfl)) (hb.r1 _ v.1 (h7 rfl))
end
end Go.Tr
namespace Go.Tr
open Go Go.RowKit
theorem zS(x:Int):qz (mO x)=true:=by
 have h: -2147483648≤IntKind.i32.wrap x∧IntKind.i32.wrap x≤2147483647:=by
  simp only[IntKind.wrap,IntKind.bits,IntKind.signed];simp;omega
 unfold mO;rw[qO _ (by omega)];exact vY h.1 h.2
theorem UW(o a b:Int):qz (wE o a b)=true:=by
 unfold wE;cases o==1 with
 |true=>exact zS _
 |false=>
 cases o==2 with
 |true=>exact zS _
 |false=>
 cases o==3 with
 |true=>exact zS _
 |false=>
 cases o==4 with
 |true=>
  cases mO b==0 with
  |true=>rfl
  |false=>exact zS _
 |false=>
 cases o==5 with
 |true=>cases decide (mO a<mO b)<;>rfl
 |false=>
 cases o==6 with
 |true=>cases mO a==mO b<;>rfl
 |false=>rfl
theorem TB{lv:Int}{a:aj}(h:Wf a)(h0:0≤lv)(h8:(!(bR a.kind)||decide (a.level+lv≤8))=true):Wf (iR lv a):=by
 unfold iR;cases hl:bR a.kind with
 |false=>exact h
 |true=>
  have h9:a.2.1+lv≤8:=by
   rw[show aj.kind a=a.1 from rfl]at*;rw[hl]at h8;simpa using h8
  have hp:=fK h;have hlev:=wL h;unfold Wf dQ at h ⊢;simp only[qD]at h ⊢;obtain⟨⟨⟨q1,q2⟩,q3⟩,q4⟩:=h;refine⟨⟨⟨q1,q2⟩,?_⟩,q4⟩;show cO a.1 (a.2.1+lv)=true;have q5:cO a.1 a.2.1=true:=q3;unfold cO at q5 ⊢;simp only[qD,Bool.or_eq_true]at q5 ⊢;exact⟨q5.1,.inr ⟨hl,vY (by omega) h9⟩⟩
theorem Ph(b:Int)(a:aj):sig (cZ b a)=sig a:=by unfold sig cZ;simp
section
variable {D:Int→Prop}{xs:List aj}{x y:Int}{bk:List (List aj)}
theorem FR{c:Int}(hw:GI D xs)(hx:0≤x∧x<(xs.length:Nat))(hy:0≤y∧y<(xs.length:Nat))(lx:¬D x)(ly:¬D y)(hr:rule (ah xs x).1 (ah xs x).2.1 (ah xs y).1 (ah xs y).2.1=c)(hc:1≤c∧c≤7)(hb:BkW bk)
  (h6:c=6→(ah xs x).1=9→(ah xs x).2.2.1<((ah xs y).2.2.2.1.length:Nat)) (h7:c=7→(ah xs x).2.2.1<(bk.length:Nat)∧fJ (ah xs x).2.1 (bO bk (ah xs x).2.2.1)=true):GI D (gH bk xs c x y):=by
 have wx:=hw x hx.1 hx.2 lx;have wy:=hw y hy.1 hy.2 ly;have lvx:=wL wx;have lvy:=wL wy;obtain⟨r1,r2,r3,r4,r5,r6,r7⟩:=iC hr (by omega);refine hw.grow (FQ hc (by omega)) ?_ fun i e=>e
 have hcs:c=1∨c=2∨c=3∨c=4∨c=5∨c=6∨c=7:=by omega
 rcases hcs with rfl|rfl|rfl|rfl|rfl|rfl|rfl
 ·intro z hz;cases hz
 ·intro z hz;cases hz
 ·intro z hz;have hz':z∈[lZ xs y]++[lZ xs y]++List.replicate ((ah xs y).2.2.2.2.length-1) (bB 4 (ah xs x).2.1 0 [] 3):=hz;rw[qT,qT,qX]at hz';rcases hz' with(e|e)|e
  ·rw[e];exact Ox wy
  ·rw[e];exact Ox wy
  ·rw[List.eq_of_mem_replicate e];exact X8 lvx
 ·intro z hz;have hz':z∈List.replicate ((ah xs y).2.2.2.2.length-1) (bB 5 0 0 [] 1):=hz;rw[List.eq_of_mem_replicate hz'];exact X7
 ·obtain⟨a,b⟩:=r5 rfl;intro z hz;have hz':z∈(bif (ah xs y).1==7 then[bB 8 (ah xs y).2.1 (ah xs y).2.2.1 [(ah xs x).2.2.1] 2]else[bB 6 0 (wE (ah xs y).2.2.1 (iZ (ah xs y).2.2.2.1 0) (ah xs x).2.2.1) [] 1]):=hz;cases hk:(ah xs y).1==7 with
  |true=>
   rw[hk,qG,qX]at hz';rw[hz'];exact Ya lvy (Vu wy (by simpa using hk)) (Tx wx a)
  |false=>
   rw[hk,qH,qX]at hz';rw[hz'];exact X9 (UW _ _ _)
 ·have q:=r6 rfl;intro z hz
  have hz':z∈(bif (ah xs x).1==6 then[bB 12 (ah xs y).2.1 (iZ (ah xs y).2.2.2.1 (bif (ah xs x).2.2.1==0 then 1 else 0)) [] 1]
   else[bB 12 (ah xs y).2.1 (iZ (ah xs y).2.2.2.1 (ah xs x).2.2.1) [] 1]++List.replicate ((ah xs x).2.2.2.2.length-1) (bB 3 (ah xs y).2.1 0 [] 3)):=hz
  rcases q with⟨a,b⟩|⟨a,b⟩
  ·rw[show((ah xs x).1==6)=true by simpa using a,qG,qX]at hz';obtain⟨l2,d⟩:=Ew wy b;rw[hz'];refine TA lvy (M5 d ?_ ?_)
   ·cases (ah xs x).2.2.1==0<;>decide
   ·rw[l2];cases (ah xs x).2.2.1==0<;>decide
  ·rw[show((ah xs x).1==6)=false by simp[a],qH,qT,qX]at hz';obtain⟨_,_,d⟩:=Tw wy b;rcases hz' with e|e
   ·rw[e];exact TA lvy (M5 d (Eu wx a).1 (h6 rfl a))
   ·rw[List.eq_of_mem_replicate e];exact X6 lvy
 ·obtain⟨a,b⟩:=r7 rfl;obtain⟨v1,v2⟩:=h7 rfl;intro z hz;have hz':z∈((lW bk xs x).drop 1).map (cZ ((xs.length:Nat)-1)):=hz;obtain⟨w,hw1,rfl⟩:=List.mem_map.1 hz';rw[I6 (Ph _ w)];have hw2:=List.mem_of_mem_drop hw1;unfold lW cB at hw2;obtain⟨u,hu,rfl⟩:=List.mem_map.1 hw2;obtain⟨i,hi,rfl⟩:=List.mem_iff_getElem.1 hu;have hv:=uE wx a;have wu:=hb.wf _ hv.1 v1 (i:Nat) (by omega) (by omega)
  have e:ah (bO bk (ah xs x).2.2.1) (i:Nat)=(bO bk (ah xs x).2.2.1)[i]:=by
   generalize bO bk (ah xs x).2.2.1=t at*;unfold ah elt;rw[qK,qC,qB hi];rfl
  rw[e]at wu;refine TB wu (by omega) ?_;unfold fJ at v2;exact List.all_eq_true.1 v2 _ hu
theorem Rl{c:Int}(hw:GI D xs)(hx:0≤x∧x<(xs.length:Nat))(hy:0≤y∧y<(xs.length:Nat))(lx:¬D x)(ly:¬D y)(hr:rule (ah xs x).1 (ah xs x).2.1 (ah xs y).1 (ah xs y).2.1=c)(hc:1≤c∧c≤7)(hb:BkW bk)
  (h6:c=6→(ah xs x).1=9→(ah xs x).2.2.1<((ah xs y).2.2.2.1.length:Nat)) (h7:c=7→(ah xs x).2.2.1<(bk.length:Nat)∧fJ (ah xs x).2.1 (bO bk (ah xs x).2.2.1)=true):GI (fun i=>D i∨i∈fP c x y) (gH bk xs c x y):=fun i h0 h1 hi=>FR hw hx hy lx ly hr hc hb h6 h7 i h0 h1 fun e=>hi (.inl e)
end
end Go.Tr
namespace Go.Tr
open Go Go.RowKit
section
variable {D:Int→Prop}{xs ys:List aj}{x y a b:Int}{bk:List (List aj)}
theorem Kr{u v:aj}(hu:Wf u)(hv:Wf v)(ru:u.1≠1)(rv:v.1≠1):kU u.1 u.2.1 v.1 v.2.1=true:=by
 unfold kU;rw[(fK hu).1,(fK hv).1];simp[ru,rv]
theorem OH{u v:aj}(hu:Wf u)(hv:Wf v)(ru:u.1≠1)(rv:v.1≠1):1≤aV u.1 u.2.1 v.1 v.2.1∧aV u.1 u.2.1 v.1 v.2.1≤8:=by
 have hp:=Kr hu hv ru rv;unfold aV;rw[hp,if_pos rfl];have r1:=uV u.1 u.2.1 v.1 v.2.1;have r2:=uV v.1 v.2.1 u.1 u.2.1;split
 ·split
  ·decide
  ·omega
 ·omega
theorem Lx{u v:aj}(hu:Wf u)(hv:Wf v)(ru:u.1≠1)(rv:v.1≠1)(h8:aV u.1 u.2.1 v.1 v.2.1=8):aZ u.1 u.2.1 v.1 v.2.1=0:=by
 have hp:=Kr hu hv ru rv;unfold aV at h8;unfold aZ;rw[hp,if_pos rfl]at h8;rw[hp,if_pos rfl];have r1:=uV u.1 u.2.1 v.1 v.2.1;have r2:=uV v.1 v.2.1 u.1 u.2.1;split at h8
 ·rename_i e1;rw[if_pos e1];split at h8
  ·rename_i e2;rw[if_pos e2]
  ·omega
 ·omega
theorem Ld{u v:aj}{c:Int}(hr:rule u.1 u.2.1 v.1 v.2.1=c)(hc:1≤c∧c≤7):mD u v=false∧oV c u v=iw u v:=by
 obtain⟨r1,r2,r3,r4,r5,r6,r7⟩:=iC hr (by omega)
 have k2:u.1≠10:=by
  intro e;have:c=1∨c=2∨c=3∨c=4∨c=5∨c=6∨c=7:=by omega
  rcases this with h|h|h|h|h|h|h
  ·have:=r1 h;omega
  ·have:=r2 h;omega
  ·have:=r3 h;omega
  ·have:=r4 h;omega
  ·have:=r5 h;omega
  ·have:=r6 h;omega
  ·have:=r7 h;omega
 constructor
 ·unfold mD;rw[show(u.1==10)=false by simpa using k2];rfl
 ·unfold oV iw
  have e:(bif c==6 then v.kind==10 else false)=(bif u.1==9 then v.1==10 else false):=by
   show(bif c==6 then v.1==10 else false)=_
   by_cases h9:u.1=9
   ·have hc6:c=6∨v.1≠10:=by
     by_cases hv:v.1=10
     ·left;rw[←hr];unfold rule;rw[h9,hv];rfl
     ·exact .inr hv
    rw[show(u.1==9)=true by simpa using h9,qG];rcases hc6 with h|h
    ·rw[h];rfl
    ·rw[show(v.1==10)=false by simpa using h];cases c==6<;>rfl
   ·rw[show(u.1==9)=false by simpa using h9,qH]
    by_cases h6:c=6
    ·have:=r6 h6;rw[show(v.1==10)=false by simp;omega];cases c==6<;>rfl
    ·rw[show(c==6)=false by simpa using h6];rfl
  rw[e]
theorem Ct(ha:Wf (ah xs a))(hb:Wf (ah xs b))(ra:(ah xs a).1≠1)(rb:(ah xs b).1≠1):(bg (ah xs a) (ah xs b)).1=bK (ah xs (aC xs a b).1) (ah xs (aC xs a b).2)∧
  ((bg (ah xs a) (ah xs b)).1≠8→(bif (bg (ah xs a) (ah xs b)).2 then b else a)=(aC xs a b).1∧(bif (bg (ah xs a) (ah xs b)).2 then a else b)=(aC xs a b).2∧
   rule (ah xs (aC xs a b).1).1 (ah xs (aC xs a b).1).2.1 (ah xs (aC xs a b).2).1 (ah xs (aC xs a b).2).2.1=(bg (ah xs a) (ah xs b)).1∧1≤(bg (ah xs a) (ah xs b)).1∧(bg (ah xs a) (ah xs b)).1≤7):=by
 have hp:=OH ha hb ra rb
 by_cases h8:aV (ah xs a).1 (ah xs a).2.1 (ah xs b).1 (ah xs b).2.1=8
 ·have hf:=Lx ha hb ra rb h8
  have e1:bg (ah xs a) (ah xs b)=(8,false):=by
   unfold bg oV;rw[show(aZ (ah xs a).kind (ah xs a).level (ah xs b).kind (ah xs b).level==2)=false by rw[show aZ (ah xs a).kind (ah xs a).level (ah xs b).kind (ah xs b).level=0 from hf];rfl];rw[show aV (ah xs a).kind (ah xs a).level (ah xs b).kind (ah xs b).level=8 from h8];rfl
  have e2:aC xs a b=(a,b):=by unfold aC;rw[hf];rfl
  rw[e1,e2];refine⟨?_,fun h=>absurd rfl h⟩;unfold bK;rw[h8];cases iw (ah xs a) (ah xs b)<;>cases mD (ah xs a) (ah xs b)<;>rfl
 ·have hc:1≤aV (ah xs a).1 (ah xs a).2.1 (ah xs b).1 (ah xs b).2.1∧aV (ah xs a).1 (ah xs a).2.1 (ah xs b).1 (ah xs b).2.1≤7:=by omega
  have hr:=Lv (xs:=xs) (a:=a) (b:=b) hc;obtain⟨c1,c2⟩:=Ld hr hc
  have hcS:bK (ah xs (aC xs a b).1) (ah xs (aC xs a b).2)=bif iw (ah xs (aC xs a b).1) (ah xs (aC xs a b).2)then 8 else aV (ah xs a).1 (ah xs a).2.1 (ah xs b).1 (ah xs b).2.1:=by
   unfold bK;rw[c1]
   have:aV (ah xs (aC xs a b).1).1 (ah xs (aC xs a b).1).2.1 (ah xs (aC xs a b).2).1 (ah xs (aC xs a b).2).2.1=aV (ah xs a).1 (ah xs a).2.1 (ah xs b).1 (ah xs b).2.1:=by
    unfold aC;cases aZ (ah xs a).1 (ah xs a).2.1 (ah xs b).1 (ah xs b).2.1==2 with
    |true=>exact xU _ _ _ _
    |false=>rfl
   rw[this];cases iw (ah xs (aC xs a b).1) (ah xs (aC xs a b).2)<;>rfl
  rw[hcS];generalize hC:aV (ah xs a).1 (ah xs a).2.1 (ah xs b).1 (ah xs b).2.1=c at*;cases hf:aZ (ah xs a).1 (ah xs a).2.1 (ah xs b).1 (ah xs b).2.1==2 with
  |true=>
   have e2:aC xs a b=(b,a):=by unfold aC;rw[hf];rfl
   rw[e2]at hr c2 ⊢
   have e1:bg (ah xs a) (ah xs b)=bif iw (ah xs b) (ah xs a)then(8,false)else(c,true):=by
    unfold bg;rw[show(aZ (ah xs a).kind (ah xs a).level (ah xs b).kind (ah xs b).level==2)=true from hf,show aV (ah xs a).kind (ah xs a).level (ah xs b).kind (ah xs b).level=c from hC];simp only[qG];rw[c2]
   rw[e1];cases iw (ah xs b) (ah xs a)with
   |true=>exact⟨rfl,fun h=>absurd rfl h⟩
   |false=>exact⟨rfl,fun _=>⟨rfl,rfl,hr,hc⟩⟩
  |false=>
   have e2:aC xs a b=(a,b):=by unfold aC;rw[hf];rfl
   rw[e2]at hr c2 ⊢
   have e1:bg (ah xs a) (ah xs b)=bif iw (ah xs a) (ah xs b)then(8,false)else(c,false):=by
    unfold bg;rw[show(aZ (ah xs a).kind (ah xs a).level (ah xs b).kind (ah xs b).level==2)=false from hf,show aV (ah xs a).kind (ah xs a).level (ah xs b).kind (ah xs b).level=c from hC];simp only[qH];rw[c2]
   rw[e1];cases iw (ah xs a) (ah xs b)with
   |true=>exact⟨rfl,fun h=>absurd rfl h⟩
   |false=>exact⟨rfl,fun _=>⟨rfl,rfl,hr,hc⟩⟩
end
end Go.Tr
namespace Go.Tr
open Go Go.RowKit
section
variable {xs:List aj}{a b:Int}{bk:List (List aj)}
theorem UL{u v m:Int}:yx u v≤m↔u≤m∧v≤m:=by
 unfold yx;cases h:decide (v<u)with
 |true=>simp only[qQ]at h;simp only[qG];omega
 |false=>simp only[decide_eq_false_iff_not]at h;simp only[qH];omega
theorem Ai{t:List aj}{m:Int}(hm:0≤m):∀k:Nat,lu t k≤m↔∀i:Nat,i<k→(ah t (i:Nat)).2.1≤m
 |0=>⟨fun _ i hi=>by omega,fun _=>hm⟩
 |k+1=>by
  unfold lu;rw[UL,Ai hm k];constructor
  ·rintro⟨h1,h2⟩ i hi
   by_cases e:i=k
   ·rw[e];exact h2
   ·exact h1 i (by omega)
  ·intro h;exact⟨fun i hi=>h i (by omega),h k (by omega)⟩
theorem vL{t:List aj}{i:Nat}(hi:i<t.length):ah t (i:Nat)=t[i]:=by
 unfold ah elt;rw[qK,qC,qB hi];rfl
theorem SL{t:List aj}{lv:Int}(ht:∀i:Int,0≤i→i<(t.length:Nat)→Wf (ah t i))(h0:0≤lv)(h8:lv≤8):decide (8<IntKind.i64.wrap (lu t t.length+lv))= !fJ lv t:=by
 have hb:lu t t.length≤8:=(Ai (by decide) _).2 fun i hi=>by
  have:=wL (ht (i:Nat) (by omega) (by omega));omega
 have hz:0≤lu t t.length:=by
  have:∀k:Nat,0≤lu t k:=fun k=>by
   induction k with
   |zero=>exact Int.le_refl 0
   |succ k ih=>unfold lu yx;cases h:decide ((ah t (k:Nat)).2.1<lu t k)with
    |true=>exact ih
    |false=>simp only[decide_eq_false_iff_not]at h;simp only[qH];omega
  exact this _
 rw[qO _ (by omega)]
 have key:fJ lv t=decide (lu t t.length≤8-lv):=by
  rw[Bool.eq_iff_iff,qQ,Ai (by omega)];unfold fJ;rw[List.all_eq_true];constructor
  ·intro h i hi;have q:=h _ (List.getElem_mem hi);have w:=ht (i:Nat) (by omega) (by omega);rw[←vL hi]at q;cases hl:bR (ah t (i:Nat)).kind with
   |true=>
    rw[hl]at q;have:(ah t (i:Nat)).2.1+lv≤8:=by simpa using q
    omega
   |false=>
    have q2:=(fK w).1;unfold cO at q2;rw[show bR (ah t (i:Nat)).1=false from hl]at q2;simp only[Bool.false_and,Bool.or_false,qD,beq_iff_eq]at q2;omega
  ·intro h u hu;obtain⟨i,hi,rfl⟩:=List.mem_iff_getElem.1 hu;have q:=h i hi;rw[vL hi]at q;have:t[i].level+lv≤8:=by show t[i].2.1+lv≤8;omega
   simp[this]
 rw[key,←decide_not];exact decide_eq_decide.2 (by omega)
theorem Ui(ha:Wf (ah xs a))(hb:Wf (ah xs b))(ra:(ah xs a).1≠1)(rb:(ah xs b).1≠1)(hbk:BkW bk):
  ((gK bk (ah xs (aC xs a b).1) (ah xs (aC xs a b).2)).2≠0→(checkN bk xs (a,b)).2.2.2=(gK bk (ah xs (aC xs a b).1) (ah xs (aC xs a b).2)).2)∧
  ((gK bk (ah xs (aC xs a b).1) (ah xs (aC xs a b).2)).2=0→checkN bk xs (a,b)=(bK (ah xs (aC xs a b).1) (ah xs (aC xs a b).2),(aC xs a b).1,(aC xs a b).2,0)∧
   r9 bk xs (bK (ah xs (aC xs a b).1) (ah xs (aC xs a b).2)) (aC xs a b).1 (aC xs a b).2=(gK bk (ah xs (aC xs a b).1) (ah xs (aC xs a b).2)).1∧
   (bK (ah xs (aC xs a b).1) (ah xs (aC xs a b).2)=7→(ah xs (aC xs a b).1).2.2.1<(bk.length:Nat)∧fJ (ah xs (aC xs a b).1).2.1 (bO bk (ah xs (aC xs a b).1).2.2.1)=true)):=by
 obtain⟨e1,e2⟩:=Ct ha hb ra rb
 have hx1:Wf (ah xs (aC xs a b).1):=by
  unfold aC;cases aZ (ah xs a).1 (ah xs a).2.1 (ah xs b).1 (ah xs b).2.1==2
  ·exact ha
  ·exact hb
 generalize hc:bK (ah xs (aC xs a b).1) (ah xs (aC xs a b).2)=c at*;unfold gK checkN;rw[hc];simp only[e1]
 by_cases h8:c=8
 ·subst h8;refine⟨fun _=>rfl,fun h=> ?_⟩;cases h
 ·obtain⟨k1,k2,k3,k4,k5⟩:=e2 (by rw[e1];exact h8);rw[e1]at k3 k4 k5;have k1':(bif (bg (ah xs a) (ah xs b)).2 then((a,b):Int×Int).2 else((a,b):Int×Int).1)=(aC xs a b).1:=k1;have k2':(bif (bg (ah xs a) (ah xs b)).2 then((a,b):Int×Int).1 else((a,b):Int×Int).2)=(aC xs a b).2:=k2;rw[show(c==8)=false by simpa using h8];simp only[qH];rw[k1',k2'];generalize (aC xs a b).1=x at*;generalize (aC xs a b).2=y at*
  by_cases h7:c=7
  ·subst h7;obtain⟨_,_,_,_,_,_,r7⟩:=iC k3 (by decide);have hv:=uE hx1 (r7 rfl).1;have hlv:=wL hx1;rw[show((7:Int)==7)=true from rfl];simp only[qG];cases hd:decide ((bk.length:Int)≤(ah xs x).2.2.1)with
   |true=>
    refine⟨fun _=>rfl,fun h=> ?_⟩;cases h
   |false=>
    simp only[decide_eq_false_iff_not]at hd;have hvl:(ah xs x).2.2.1<(bk.length:Nat):=by omega
    rw[SL (hbk.wf _ hv.1 hvl) (by omega) (by omega)];cases hs:fJ (ah xs x).2.1 (bO bk (ah xs x).2.2.1)with
    |false=>
     refine⟨fun _=>rfl,fun h=> ?_⟩;cases h
    |true=>
     refine⟨fun h=>absurd rfl h,fun _=>⟨by first|rfl|trivial,by first|rfl|trivial,fun _=>⟨hvl,by first|rfl|trivial⟩⟩⟩
  ·rw[show(c==7)=false by simpa using h7];simp only[qH];refine⟨fun h=>absurd rfl h,fun _=>⟨by first|rfl|trivial,?_,fun h=>absurd h h7⟩⟩;rfl
end
end Go.Tr
namespace Go.Tr
open Go Go.RowKit
abbrev Ti:U:=.pair (.int .i64) (.pair (.int .i64) (.pair (.int .i64) (.pair (.int .i64) (.int .i64))))
abbrev bZ:=Int×Int×Int×Int×Int
def hasB(xs:List aj)(k:Int):Bool:=bif decide (0≤k)then decide (k<(xs.length:Nat))else false
def Tc(xs:List aj)(kv:List (Int×Bool))(k:Int):Bool:=bif hasB xs k then !(bn false kv k)else false
def TS(xs:List aj)(a b:Int):Bool:=
 bif (bif (bif decide (a<b)then gG [(elt (dflt aM) (ah xs a).2.2.2.2 0).1,(elt (dflt aM) (ah xs a).2.2.2.2 0).2] [b,0]else false)then(ah xs a).1 !=1 else false)then(ah xs b).1 !=1 else false
theorem tN(kv:List (Int×Bool))(i j:Int):bn false (fH kv i true) j=if i=j then true else bn false kv j:=by
 induction kv with
 |nil=>
  simp only[fH,bn]
  by_cases h:i=j
  ·rw[if_pos h,show(i==j)=true by simpa using h];rfl
  ·rw[if_neg h,show(i==j)=false by simpa using h];rfl
 |cons e l ih=>
  obtain⟨k,v⟩:=e;simp only[fH];cases h:k==i with
  |true=>
   have h1:k=i:=by simpa using h
   subst h1;simp only[qG,bn]
   by_cases h2:k=j
   ·rw[if_pos h2,show(k==j)=true by simpa using h2];rfl
   ·rw[if_neg h2,show(k==j)=false by simpa using h2];rfl
  |false=>
   have h1:k≠i:=by simpa using h
   simp only[qH,bn,ih]
   by_cases h2:k=j
   ·subst h2;rw[if_neg (Ne.symm h1),if_neg (Ne.symm h1)]
   ·rw[show(k==j)=false by simpa using h2];rfl
theorem tO{kv:List (Int×Bool)}(hT:∀e∈kv,e.2=true){i:Int}(h:bn false kv i=false):(fH kv i true).length=kv.length+1:=by
 induction kv with
 |nil=>rfl
 |cons e l ih=>
  obtain⟨k,v⟩:=e;simp only[bn]at h;simp only[fH];cases hk:k==i with
  |true=>
   rw[hk,qG]at h;have:=hT (k,v) (List.mem_cons_self ..);rw[h]at this;cases this
  |false=>
   rw[hk,qH]at h;simp only[qH,qI];rw[ih (fun e he=>hT e (List.mem_cons_of_mem _ he)) h]
theorem Ic{kv:List (Int×Bool)}(hT:∀e∈kv,e.2=true)(i:Int):∀e∈fH kv i true,e.2=true:=by
 induction kv with
 |nil=>
  intro e he;simp only[fH,qX]at he;rw[he]
 |cons e l ih=>
  obtain⟨k,v⟩:=e;simp only[fH];cases hk:k==i with
  |true=>
   intro e he;simp only[qG,List.mem_cons]at he;rcases he with rfl|he
   ·rfl
   ·exact hT e (List.mem_cons_of_mem _ he)
  |false=>
   intro e he;simp only[qH,List.mem_cons]at he;rcases he with rfl|he
   ·exact hT _ (List.mem_cons_self ..)
   ·exact ih (fun e he=>hT e (List.mem_cons_of_mem _ he)) e he
def lH(kv:List (Int×Bool)):Nat→Nat
 |0=>0
 |k+1=>bif bn false kv (k:Nat)then lH kv k+1 else lH kv k
theorem Ab{kv:List (Int×Bool)}{x:Int}(h0:0≤x)(h:bn false kv x=false):∀n:Nat,lH (fH kv x true) n=lH kv n+(if x<(n:Nat)then 1 else 0)
 |0=>by rw[if_neg (by omega)];rfl
 |n+1=>by
  unfold lH;rw[tN,Ab h0 h n]
  by_cases e:x=(n:Nat)
  ·subst e;rw[if_pos rfl,qG,h,qH,if_neg (by omega),if_pos (by omega)]
  ·rw[if_neg e]
   by_cases hl:x<(n:Nat)
   ·rw[if_pos hl,if_pos (by omega)];cases bn false kv (n:Nat)<;>simp only[qG,qH]<;>omega
   ·rw[if_neg hl,if_neg (by omega)];cases bn false kv (n:Nat)<;>simp only[qG,qH]<;>omega
theorem Aa{kv:List (Int×Bool)}{n:Nat}(h:∀i:Int,(n:Int)≤i→bn false kv i=false):∀m:Nat,lH kv (n+m)=lH kv n
 |0=>rfl
 |m+1=>by
  show lH kv ((n+m)+1)=_;unfold lH;rw[h ((n+m:Nat):Int) (by omega),qH];have:=Aa h m;rw[this];cases n<;>rfl
theorem J6{kv:List (Int×Bool)}{ys:List aj}:∀n:Nat,(∀i:Nat,i<n→((ah ys (i:Nat)).1=0↔bn false kv (i:Nat)=true))→bP ys n+lH kv n=n
 |0,_=>rfl
 |n+1,h=>by
  have ih:=J6 n fun i hi=>h i (by omega)
  unfold bP lH;have hn:=h n (by omega)
  by_cases e:(ah ys (n:Nat)).1=0
  ·rw[hn.1 e,show((ah ys (n:Nat)).1 !=0)=false by simpa using e,qG,qH];omega
  ·rw[show((ah ys (n:Nat)).1 !=0)=true by simpa using e,show bn false kv (n:Nat)=false by cases hk:bn false kv (n:Nat)with
    |false=>rfl
    |true=>exact absurd (hn.2 hk) e,qG,qH]
   omega
section
variable {P:List aj→Prop}(hl:∀xs p q,P xs→P (bL xs p q))(ha:∀xs zs,P xs→P (xs++zs))
include hl
theorem jK{xs:List aj}{p q:aF}(h:P xs):P (dG xs p q):=hl _ _ _ h
theorem wX{xs:List aj}{p q:aF}(h:P xs):P (aU xs p q):=by
 unfold aU;cases ((au xs p).1==q.1&&(au xs p).2==q.2)with
 |true=>exact h
 |false=>exact hl _ _ _ h
theorem xQ{y:Int}{b:Nat}{xs:List aj}(h:P xs):∀k,P (dw y b xs k)
 |0=>h
 |k+1=>jK hl (xQ h k)
include ha
theorem zA{x c d:Int}{xs:List aj}(h:P xs):∀k,P (dJ x c d xs k)
 |0=>h
 |k+1=>hl _ _ _ (hl _ _ _ (ha _ _ (zA h k)))
theorem JZ{y:Int}{xs:List aj}(h:P xs):∀k,P (rU y xs k)
 |0=>h
 |k+1=>jK hl (ha _ _ (JZ h k))
theorem JY{lv x:Int}{b:Nat}{xs:List aj}(h:P xs):∀k,P (ow lv x b xs k)
 |0=>h
 |k+1=>jK hl (hl _ _ _ (ha _ _ (JY h k)))
theorem CX{bk:List (List aj)}{xs:List aj}{c x y:Int}(h:P xs):P (gZ bk xs c x y):=by
 unfold gZ;cases c==1
 ·cases c==2
  ·cases c==3
   ·cases c==4
    ·cases c==5
     ·cases c==6
      ·cases c==7
       ·exact h
       ·exact hl _ _ _ (ha _ _ h)
      ·show P (dD xs x y);unfold dD;cases (ah xs y).1==11
       ·exact jK hl (JY hl ha (ha _ _ h) _)
       ·exact jK hl (ha _ _ h)
     ·show P (bG xs x y);unfold bG;cases (ah xs y).1==7
      ·exact jK hl (ha _ _ h)
      ·exact jK hl (jK hl (ha _ _ h))
    ·exact JZ hl ha h _
   ·exact xQ hl (jK hl (jK hl (zA hl ha (ha _ _ (ha _ _ h)) _))) _
  ·exact wX hl (wX hl h)
 ·exact wX hl (wX hl h)
end
def Jd(i:Int)(ys:List aj):Prop:=i.toNat<ys.length∧ah ys i=Bg
theorem Jd.set{i:Int}{ys:List aj}(h:Jd i ys)(p q:aF):Jd i (aL ys p q):=by
 refine⟨by rw[dh];exact h.1,?_⟩;rw[eG];split
 ·rename_i e;rw[yS e.1,h.2];rfl
 ·exact h.2
theorem Jd.inter{i:Int}{ys:List aj}(h:Jd i ys)(bk:List (List aj))(c x y:Int):Jd i (gZ bk ys c x y):=
 CX (P:=Jd i) (fun xs p q h=>(h.set p q).set q p) (fun xs zs h=>⟨by rw[qA];have:=h.1;omega,by rw[dA h.1];exact h.2⟩) h
theorem Jd.drop{i:Int}{ys:List aj}(h:Jd i ys)(a:Int):Jd i (bC ys a):=by
 refine⟨by rw[eH];exact h.1,?_⟩;unfold bC;rw[kR];split
 ·rfl
 ·exact h.2
theorem Jd.new{ys:List aj}{a:Int}(h0:0≤a)(h1:a<(ys.length:Nat)):Jd a (bC ys a):=by
 refine⟨by rw[eH];omega,?_⟩;unfold bC;rw[kR,if_pos ⟨rfl,by omega⟩]
theorem FP{xs:List aj}(bk:List (List aj))(c x y:Int):xs.length≤(gZ bk xs c x y).length:=
 CX (P:=fun ws=>xs.length≤ws.length) (fun ws p q h=>by rw[jf];exact h) (fun ws zs h=>by rw[qA];omega) (Nat.le_refl _)
theorem aW.YM{xs:List aj}{p q:aF}(h:∀r,ak xs r→r≠p→r≠q→ak xs (au xs r))(hp:ak xs p)(hq:ak xs q):aW (bL xs p q):=fun r hr=>by
 have hr':=hr.unlink;rw[jC hp hq hr'];split
 ·exact hp.link
 ·rename_i e1;split
  ·exact hq.link
  ·rename_i e2;exact(h r hr' (Ne.symm e2) (Ne.symm e1)).link
section
variable {xs:List aj}{x y c:Int}{bk:List (List aj)}
theorem Uz(hp:IntPre xs c x y)(hA:aW xs)(h0:ak xs (0,0))(hc:1≤c∧c≤7)(hb:BkW bk)(h7:c=7→(0≤(ah xs x).2.2.1∧(ah xs x).2.2.1<(bk.length:Nat))):aW (gH bk xs c x y):=by
 obtain⟨hx0,hy0,p12,p3,px,py,dy,p5,p6⟩:=hp;have hcs:c=1∨c=2∨c=3∨c=4∨c=5∨c=6∨c=7:=by omega
 rcases hcs with rfl|rfl|rfl|rfl|rfl|rfl|rfl
 ·obtain⟨j1,j2,j3,j4⟩:=p12 (.inl rfl);exact(hA.join j1 j3).join j2.join j4.join
 ·obtain⟨j1,j2,j3,j4⟩:=p12 (.inr rfl);exact(hA.join j1 j3).join j2.join j4.join
 ·obtain⟨hx1,hx2⟩:=p3 rfl;show aW (bI xs x y);have h2A:=vU (y:=y) hA h0;have hcd:∀i:Nat,i≤(ah xs y).2.2.2.2.length-1→ak (dup2 xs y) (((xs.length:Nat):Int),(i:Nat))∧ak (dup2 xs y) (((xs.length+1:Nat):Int),(i:Nat)):=fun i hi=>⟨qh (by omega) (by omega),qj (by omega) (by omega)⟩
  have h3A:aW (dup3 xs x y):=lK h2A (mE h0) _ hcd;have h3:∀{p},ak xs p→ak (dup3 xs x y) p:=fun h=>bW (mE h) _
  have hc0:ak (dup3 xs x y) (((xs.length:Nat):Int),0):=bW (qh (by decide) (by omega)) _;have hd0:ak (dup3 xs x y) (((xs.length+1:Nat):Int),0):=bW (qj (by decide) (by omega)) _;have h4A:aW (kE xs x y):=(h3A.move (h3 hx1) hc0).move (h3 hx2).move hd0.move;refine kF h4A _ fun i hi=>⟨(h3 ⟨hy0.1,hy0.2,by omega,?_⟩).move.move,?_⟩
  ·show((i:Nat):Int)+1<((ah xs y).2.2.2.2.length:Nat);omega
  ·have:=(ql (x:=x) (c:=((xs.length:Nat):Int)) (d:=((xs.length+1:Nat):Int)) (xs:=dup2 xs y) hi).move (p:=(x,1)) (q:=(((xs.length:Nat):Int),0));have:=this.move (p:=(x,2)) (q:=(((xs.length+1:Nat):Int),0));rw[gF]at this;exact this
 ·exact wT hA h0 _ fun i hi=>⟨hy0.1,hy0.2,by omega,by show((i+1:Nat):Int)<((ah xs y).2.2.2.2.length:Nat);omega⟩
 ·obtain⟨j1,j2,j3⟩:=p5 rfl;show aW (bG xs x y);unfold bG;cases hk:(ah xs y).1==7 with
  |true=>
   have k7:=j2 (by simpa using hk);exact((hA.add h0 _ _ _ _ _).move j1.app (ak.new (by decide) (by decide))).move k7.app.move (ak.new (by decide) (by decide)).move
  |false=>exact(hA.add h0 _ _ _ _ _).move j1.app (ak.new (by decide) (by decide))
 ·obtain⟨j1,j2,j3⟩:=p6 rfl;show aW (jN xs x y);unfold jN;cases hk:(ah xs x).1==6 with
  |true=>exact(hA.add h0 _ _ _ _ _).move j1.app (ak.new (by decide) (by decide))
  |false=>
   simp only[qH];have h1A:aW (bD xs y (ah xs x).2.2.1):=hA.add h0 _ _ _ _ _;have h1l:(bD xs y (ah xs x).2.2.1).length=xs.length+1:=pO _ _ _;have h1R:ak (bD xs y (ah xs x).2.2.1) (iN (bD xs y (ah xs x).2.2.1).length 0):=by rw[h1l];exact ak.new (by decide) (by decide)
   have h1:∀{p},ak xs p→ak (bD xs y (ah xs x).2.2.1) p:=fun h=>h.app
   have h2A:=GX (lv:=(ah xs y).2.1) h1A (h1 h0) h1R ((ah xs x).2.2.2.2.length-1);have hR:=Fv (lv:=(ah xs y).2.1) h1R ((ah xs x).2.2.2.2.length-1);have h2:∀{p},ak xs p→ak (pK (ah xs y).2.1 (bD xs y (ah xs x).2.2.1).length (bD xs y (ah xs x).2.2.1) ((ah xs x).2.2.2.2.length-1)) p:=fun h=>Co (h1 h) _
   have hxi:∀i:Nat,i<((ah xs x).2.2.2.2.length-1)→ak (pK (ah xs y).2.1 (bD xs y (ah xs x).2.2.1).length (bD xs y (ah xs x).2.2.1) ((ah xs x).2.2.2.2.length-1)) (x,((i:Nat):Int)+1)∧ak (pK (ah xs y).2.1 (bD xs y (ah xs x).2.2.1).length (bD xs y (ah xs x).2.2.1) ((ah xs x).2.2.2.2.length-1)) ((((bD xs y (ah xs x).2.2.1).length+i:Nat):Int),1):=fun i hi=>
    ⟨h2 ⟨hx0.1,hx0.2,by omega,by show((i:Nat):Int)+1<((ah xs x).2.2.2.2.length:Nat);omega⟩,yY (by decide) (by decide) hi⟩
   rw[h1l]at h2A h2 hxi hR;exact(BN h2A _ hxi).move (mh (h2 j1) _) (mh hR _)
 ·obtain⟨v0,v1⟩:=h7 rfl;show aW (mG bk xs x y);unfold mG lW;have hw:=hb.wi _ v0 v1;have r0:=hb.r0 _ v0 v1;have r1:=hb.r1 _ v0 v1;generalize bO bk (ah xs x).2.2.1=t at*;generalize (ah xs x).2.1=lv;generalize hbb:(xs.length:Int)-1=b;have hb':b=(xs.length:Int)-1:=hbb.symm;have hws:ig (fun p=>ak (cB lv t) p) (cB lv t):=hw.shift;have r0s:ak (cB lv t) (0,0):=ak.jm.2 r0;have r1s:∀p,ak (cB lv t) p→p.1=0→p=(0,0):=fun p hp e=>r1 p (ak.jm.1 hp) e
  generalize cB lv t=T at*;obtain⟨q1,q2,q3,q4⟩:=hws (0,0) r0s
  have rpos:1≤(au T (0,0)).1:=by
   have h1:0≤(au T (0,0)).1:=q2.1
   by_cases e:(au T (0,0)).1=0
   ·exact absurd (r1s _ q2 e) q4
   ·omega
  have hR:ak (xs++(T.drop 1).map (cZ b)) ((au T (0,0)).1+b,(au T (0,0)).2):=(ak.lT hb').2 (.inr ⟨by show(xs.length:Int)≤(au T (0,0)).1+b;omega,by
   rw[show(((au T (0,0)).1+b,(au T (0,0)).2):aF).1-b=(au T (0,0)).1 by show(au T (0,0)).1+b-b=_;omega];exact q2⟩)
  have hY:ak xs (y,0):=⟨hy0.1,hy0.2,Int.le_refl 0,by show(0:Int)<((ah xs y).2.2.2.2.length:Nat);omega⟩;refine aW.YM (fun r hr n1 n2=> ?_) hY.app hR;rcases(ak.lT hb').1 hr with q|⟨q,qt⟩
  ·rw[nE (Da q)];exact(hA r q).app
  ·rw[wF hb' q qt];obtain⟨s1,s2,s3,s4⟩:=hws _ qt
   by_cases e:(au T (r.1-b,r.2)).1=0
   ·exfalso;have e2:=r1s _ s2 e;rw[e2]at s3;apply n2;rw[s3];exact eB (by show r.1=r.1-b+b;omega) rfl
   ·have s20:0≤(au T (r.1-b,r.2)).1:=s2.1;refine(ak.lT hb').2 (.inr ⟨by show(xs.length:Int)≤(au T (r.1-b,r.2)).1+b;omega,?_⟩);rw[show(((au T (r.1-b,r.2)).1+b,(au T (r.1-b,r.2)).2):aF).1-b=(au T (r.1-b,r.2)).1 by show(au T (r.1-b,r.2)).1+b-b=_;omega];exact s2
end
end Go.Tr
namespace Go.Tr
open Go Go.RowKit
abbrev Gone(kv:List (Int×Bool)):Int→Prop:=fun i=>bn false kv i=true
theorem QZ(kv:List (Int×Bool))(ks:List Int)(i:Int):Gone (kW kv ks) i↔Gone kv i∨i∈ks:=by
 unfold kW Gone
 induction ks generalizing kv with
 |nil=>simp
 |cons k ks ih=>
  rw[List.foldl_cons,ih,tN,List.mem_cons]
  by_cases h:k=i
  ·rw[if_pos h];simp[h]
  ·rw[if_neg h];constructor
   ·rintro(h1|h1)
    ·exact .inl h1
    ·exact .inr (.inr h1)
   ·rintro(h1|h1|h1)
    ·exact .inl h1
    ·exact absurd h1.symm h
    ·exact .inr h1
theorem Ze{kv:List (Int×Bool)}(hT:∀e∈kv,e.2=true)(ks:List Int):∀e∈kW kv ks,e.2=true:=by
 unfold kW
 induction ks generalizing kv with
 |nil=>exact hT
 |cons k ks ih=>rw[List.foldl_cons];exact ih (Ic hT k)
structure BkV(bk:List (List aj)):Prop extends BkW bk where
 rt:∀v:Int,0≤v→v<(bk.length:Nat)→∀i:Int,0<i→i<((bO bk v).length:Nat)→(ah (bO bk v) i).1≠1
structure Twin(kv:List (Int×Bool))(xs ys:List aj):Prop where
 st:St (Gone kv) xs ys
 wf:GI (Gone kv) xs
 dl:∀i,Gone kv i→0≤i∧i<(xs.length:Nat)
 hole:∀i,Gone kv i→Jd i ys
 r1:(ah xs 0).1=1
 r0:¬Gone kv 0
 rl:0<xs.length
 uq:∀i:Int,0<i→i<(xs.length:Nat)→¬Gone kv i→(ah xs i).1≠1
 kt:∀e∈kv,e.2=true
 kl:kv.length=lH kv xs.length
 al:aW xs
section
variable {kv:List (Int×Bool)}{xs ys:List aj}{a b x y c:Int}{bk:List (List aj)}
theorem Twin.len(h:Twin kv xs ys):xs.length=ys.length:=h.st.ag.1
theorem Twin.at_(h:Twin kv xs ys){i:Int}(h0:0≤i)(h1:i<(xs.length:Nat))(hd:¬Gone kv i):ah ys i=ah xs i:=(h.st.ag.2 i h0 h1 hd).symm
theorem Twin.p0(h:Twin kv xs ys):ak xs (0,0):=by
 have w:=h.wf 0 (Int.le_refl 0) (by have:=h.rl;omega) h.r0;have:=(fK w).2.2.2;exact⟨Int.le_refl 0,by have:=h.rl;show(0:Int)<_;omega,Int.le_refl 0,by show(0:Int)<((ah xs 0).2.2.2.2.length:Nat);omega⟩
theorem Twin.Yg(h:Twin kv xs ys):ak ys (0,0):=(h.st.ag.port h.p0 h.r0).1
theorem Twin.Bw(h:Twin kv xs ys):aW ys:=fun p hp=>by
 by_cases hd:Gone kv p.1
 ·have e:=(h.hole _ hd).2;obtain⟨_,_,h3,h4⟩:=hp;rw[e]at h4;have:p.2<((0:Nat):Int):=h4;omega
 ·have hpx:ak xs p:=by
   obtain⟨h1,h2,h3,h4⟩:=hp;rw[←h.len]at h2;rw[h.at_ h1 h2 hd]at h4;exact⟨h1,h2,h3,h4⟩
  obtain⟨_,k2,_,_⟩:=h.st.wi p ⟨hpx,hd⟩;rw[(h.st.ag.port hpx hd).2];exact(h.st.ag.port k2.1 k2.2).1
theorem Twin.live(h:Twin kv xs ys):bP ys ys.length+kv.length=xs.length:=by
 rw[h.kl,h.len];refine J6 _ fun i hi=> ?_
 constructor
 ·intro e;cases hk:bn false kv (i:Nat)with
  |true=>rfl
  |false=>
   have hd:¬Gone kv (i:Nat):=fun e=>by
    have e':bn false kv (i:Nat)=true:=e;rw[hk]at e';cases e'
   have hl:=h.len;have w:=I5 (h.wf (i:Nat) (by omega) (by omega) hd);rw[h.at_ (by omega) (by omega) hd]at e;omega
 ·intro e;rw[(h.hole _ e).2];rfl
theorem l8.symm{D:Int→Prop}(k:l8 D xs a b)(h:St D xs ys):l8 D xs b a:=by
 obtain⟨_,_,h3,_⟩:=h.wi (a,0) ⟨k.px,k.lx⟩;rw[k.w]at h3;exact⟨k.ne.symm,k.ly,k.lx,k.py,k.px,h3⟩
theorem l8.first{D:Int→Prop}(k:l8 D xs a b)(h:St D xs ys):l8 D xs (aC xs a b).1 (aC xs a b).2:=by
 unfold aC;cases aZ (ah xs a).1 (ah xs a).2.1 (ah xs b).1 (ah xs b).2.1==2
 ·exact k
 ·exact k.symm h
theorem fu{u:aj}(w:Wf u):0<u.2.2.2.2.length∧u.2.2.2.2.length≤4:=by
 have k:=I5 w;obtain⟨x1,x2,x3,x4⟩:=rQ w;refine⟨(fK w).2.2.2,?_⟩
 by_cases h9:u.1=9
 ·exact(x4 h9).2
 ·by_cases h1:u.1=1∨u.1=5∨u.1=6∨u.1=12
  ·rw[x1 h1];decide
  ·by_cases h2:u.1=8∨u.1=10∨u.1=11
   ·rw[x2 h2];decide
   ·rw[x3 (by omega)];decide
theorem Nv(wx:Wf (ah xs x))(wy:Wf (ah xs y))(hx:0≤x∧x<(xs.length:Nat))(hy:0≤y∧y<(xs.length:Nat))(hr:rule (ah xs x).1 (ah xs x).2.1 (ah xs y).1 (ah xs y).2.1=c)(hc:1≤c∧c≤7)
  (h6:(ah xs x).1=9→(ah xs y).1=10→(ah xs x).2.2.1<((ah xs y).2.2.2.1.length:Nat)):GD xs c x y:=by
 obtain⟨r1,r2,r3,r4,r5,r6,r7⟩:=iC hr (by omega);obtain⟨x1,x2,x3,x4⟩:=rQ wx;obtain⟨y1,y2,y3,y4⟩:=rQ wy;have sx:=fu wx;have sy:=fu wy;have inx:∀s:Int,0≤s→s<((ah xs x).2.2.2.2.length:Nat)→ak xs (x,s):=fun s h0 h1=>⟨hx.1,hx.2,h0,h1⟩
 have iny:∀s:Int,0≤s→s<((ah xs y).2.2.2.2.length:Nat)→ak xs (y,s):=fun s h0 h1=>⟨hy.1,hy.2,h0,h1⟩
 refine⟨⟨hx,hy,fun e=> ?_,fun e=> ?_,by omega,by omega,by have:=wf_data wy;omega,fun e=> ?_,fun e=> ?_⟩,fun e=>(r5 e).2,fun e=> ?_⟩
 ·have kx:(ah xs x).2.2.2.2.length=3:=x3 (by rcases e with e|e;(have:=r1 e;omega);(have:=r2 e;omega));have ky:(ah xs y).2.2.2.2.length=3:=y3 (by rcases e with e|e;(have:=r1 e;omega);(have:=r2 e;omega));exact⟨inx 1 (by decide) (by omega),inx 2 (by decide) (by omega),iny 1 (by decide) (by omega),iny 2 (by decide) (by omega)⟩
 ·have kx:(ah xs x).2.2.2.2.length=3:=x3 (by have:=r3 e;omega);exact⟨inx 1 (by decide) (by omega),inx 2 (by decide) (by omega)⟩
 ·obtain⟨a1,a2⟩:=r5 e;refine⟨?_,fun k7=> ?_,fun k7=> ?_⟩
  ·rcases a2 with q|q
   ·exact iny 1 (by decide) (by rw[y3 (by omega)];decide)
   ·exact iny 1 (by decide) (by rw[y2 (by omega)];decide)
  ·exact iny 2 (by decide) (by rw[y3 (by omega)];decide)
  ·have:=(Tz wy (by omega)).1;omega
 ·refine⟨?_,fun k6=> ?_,fun k6=> ?_⟩
  ·exact iny 1 (by decide) (by rw[y2 (by have:=r6 e;omega)];decide)
  ·exact(Ew wy (by have:=r6 e;omega)).1
  ·have q:=r6 e;have k9:(ah xs x).1=9:=by omega
   exact⟨(Eu wx k9).1,h6 k9 (by omega)⟩
 ·have q:=r6 e;refine⟨fun k=>(Ew wy k).1,fun k=> ?_⟩;have k9:(ah xs x).1=9:=by omega
  exact⟨(Eu wx k9).1,h6 k9 (by omega),k9⟩
theorem uL(h:iw (ah xs x) (ah xs y)=false):(ah xs x).1=9→(ah xs y).1=10→(ah xs x).2.2.1<((ah xs y).2.2.2.1.length:Nat):=fun h9 h10=>by
 unfold iw at h;rw[show((ah xs x).1==9)=true by simpa using h9,show((ah xs y).1==10)=true by simpa using h10]at h;simp only[qG,decide_eq_false_iff_not]at h;omega
theorem Po(hy:(ah xs y).1≠1)(hc:1≤c∧c≤7)(hb:BkV bk)(h7:c=7→(0≤(ah xs x).2.2.1∧(ah xs x).2.2.1<(bk.length:Nat))):∀z∈tZ bk xs c x y,z.1≠1:=by
 have hcs:c=1∨c=2∨c=3∨c=4∨c=5∨c=6∨c=7:=by omega
 intro z hz;rcases hcs with rfl|rfl|rfl|rfl|rfl|rfl|rfl
 ·cases hz
 ·cases hz
 ·have hz':z∈[lZ xs y]++[lZ xs y]++List.replicate ((ah xs y).2.2.2.2.length-1) (bB 4 (ah xs x).2.1 0 [] 3):=hz;rw[qT,qT,qX]at hz';rcases hz' with(e|e)|e
  ·rw[e];exact hy
  ·rw[e];exact hy
  ·rw[List.eq_of_mem_replicate e];intro k;cases k
 ·have hz':z∈List.replicate ((ah xs y).2.2.2.2.length-1) (bB 5 0 0 [] 1):=hz;rw[List.eq_of_mem_replicate hz'];intro k;cases k
 ·have hz':z∈(bif (ah xs y).1==7 then[bB 8 (ah xs y).2.1 (ah xs y).2.2.1 [(ah xs x).2.2.1] 2]else[bB 6 0 (wE (ah xs y).2.2.1 (iZ (ah xs y).2.2.2.1 0) (ah xs x).2.2.1) [] 1]):=hz;cases hk:(ah xs y).1==7 with
  |true=>rw[hk,qG,qX]at hz';rw[hz'];intro k;cases k
  |false=>rw[hk,qH,qX]at hz';rw[hz'];intro k;cases k
 ·have hz':z∈(bif (ah xs x).1==6 then[bB 12 (ah xs y).2.1 (iZ (ah xs y).2.2.2.1 (bif (ah xs x).2.2.1==0 then 1 else 0)) [] 1]
   else[bB 12 (ah xs y).2.1 (iZ (ah xs y).2.2.2.1 (ah xs x).2.2.1) [] 1]++List.replicate ((ah xs x).2.2.2.2.length-1) (bB 3 (ah xs y).2.1 0 [] 3)):=hz
  cases hk:(ah xs x).1==6 with
  |true=>rw[hk,qG,qX]at hz';rw[hz'];intro k;cases k
  |false=>
   rw[hk,qH,qT,qX]at hz';rcases hz' with e|e
   ·rw[e];intro k;cases k
   ·rw[List.eq_of_mem_replicate e];intro k;cases k
 ·obtain⟨v0,v1⟩:=h7 rfl;have hz':z∈((lW bk xs x).drop 1).map (cZ ((xs.length:Nat)-1)):=hz;obtain⟨w,hw,rfl⟩:=List.mem_map.1 hz';unfold lW cB at hw;rw[←List.map_drop]at hw;obtain⟨u,hu,rfl⟩:=List.mem_map.1 hw;obtain⟨i,hi,rfl⟩:=List.mem_iff_getElem.1 hu;have hrt:=hb.rt _ v0 v1;generalize bO bk (ah xs x).2.2.1=t at*;rw[List.length_drop]at hi;rw[List.getElem_drop];have:=hrt ((1+i:Nat):Int) (by omega) (by omega);rw[vL (by omega)]at this;show(iR _ t[1+i]).1≠1;unfold iR;cases bR (t[1+i]).kind
  ·exact this
  ·exact this
theorem Twin.next(h:Twin kv xs ys)(k:l8 (Gone kv) xs x y)(hb:BkV bk)(rx:(ah xs x).1≠1)(ry:(ah xs y).1≠1)(hr:rule (ah xs x).1 (ah xs x).2.1 (ah xs y).1 (ah xs y).2.1=c)(hc:1≤c∧c≤7)(hcl:iw (ah xs x) (ah xs y)=false)
  (h7:c=7→(ah xs x).2.2.1<(bk.length:Nat)∧fJ (ah xs x).2.1 (bO bk (ah xs x).2.2.1)=true):GD xs c x y∧GD ys c x y∧(c=7→0≤(ah xs x).2.2.1)∧Twin (kW kv (fP c x y)) (gH bk xs c x y) (fO bk ys c x y)∧(gH bk xs c x y).length=xs.length+(tZ bk xs c x y).length:=by
 have hx:0≤x∧x<(xs.length:Nat):=⟨k.px.1,k.px.2.1⟩;have hy:0≤y∧y<(xs.length:Nat):=⟨k.py.1,k.py.2.1⟩;have wx:=h.wf x hx.1 hx.2 k.lx;have wy:=h.wf y hy.1 hy.2 k.ly;have sp:=Nv wx wy hx hy hr hc (uL hcl);have ex:=h.at_ hx.1 hx.2 k.lx;have ey:=h.at_ hy.1 hy.2 k.ly;have sy:GD ys c x y:=Nv (by rw[ex];exact wx) (by rw[ey];exact wy) (by rw[←h.len];exact hx) (by rw[←h.len];exact hy) (by rw[ex,ey];exact hr) hc (uL (by rw[ex,ey];exact hcl));have v0:c=7→0≤(ah xs x).2.2.1:=fun e=>(uE wx ((iC hr (by omega)).2.2.2.2.2.2 e).1).1
 have sg:=FQ (bk:=bk) (xs:=xs) (x:=x) (y:=y) hc (by omega);have hln:(gH bk xs c x y).length=xs.length+(tZ bk xs c x y).length:=by rw[sg.1,qA]
 have gr:∀i,Gone (kW kv (fP c x y)) i↔Gone kv i∨i∈fP c x y:=fun i=>QZ kv _ i
 have ge:Gone (kW kv (fP c x y))=fun i=>Gone kv i∨i∈fP c x y:=funext fun i=>propext (gr i)
 have gxy:∀i,i∈fP c x y→i=x∨i=y:=fun i hi=>by
  unfold fP at hi;cases hq:c==7 with
  |true=>rw[hq,qG,qX]at hi;exact .inl hi
  |false=>rw[hq,qH]at hi;simpa using hi
 have nx:x≠0:=fun e=>rx (by rw[e];exact h.r1)
 have ny:y≠0:=fun e=>ry (by rw[e];exact h.r1)
 have ksig:∀i:Int,0≤i→i<(xs.length:Nat)→(ah (gH bk xs c x y) i).1=(ah xs i).1:=fun i i0 i1=>by
  have:=sg.2 i i0 (by rw[hln];omega);rw[dA (by omega)]at this;exact congrArg (fun s:Int×Int×Int×List Int×Nat=>s.1) this
 refine⟨sp,sy,v0,?_,hln⟩;refine⟨?_,?_,?_,?_,?_,?_,by omega,?_,Ze h.kt _,?_,Uz sp.toIntPre h.al h.p0 hc hb.toBkW fun e=>⟨v0 e,(h7 e).1⟩⟩
 ·rw[ge];exact Rk h.st k (fun i hi=>(h.dl i hi).2) h.wf hr hc hb.toBkW fun e=>(h7 e).1
 ·rw[ge];exact Rl h.wf hx hy k.lx k.ly hr hc hb.toBkW (fun e e9=>by
   have q:=(iC hr (by omega)).2.2.2.2.2.1 e;exact uL hcl e9 (by omega)) h7
 ·intro i hi;rcases(gr i).1 hi with e|e
  ·have:=h.dl i e;omega
  ·rcases gxy i e with e|e<;>omega
 ·intro i hi;unfold fO;have hl:=h.len;have hle:=FP (xs:=ys) bk c x y;have n1:Jd x (bC (gZ bk ys c x y) x):=Jd.new hx.1 (by omega);have n2:Jd y (bC (bC (gZ bk ys c x y) x) y):=Jd.new hy.1 (by rw[eH];omega);rcases(gr i).1 hi with e|e
  ·have q:=(h.hole i e).inter bk c x y;cases c==7
   ·exact(q.drop x).drop y
   ·exact q.drop x
  ·unfold fP at e;cases hq:c==7 with
   |true=>rw[hq,qG,qX]at e;rw[e];exact n1
   |false=>
    rw[hq,qH]at e;have e2:i=x∨i=y:=by simpa using e
    rcases e2 with e2|e2
    ·rw[e2];exact n1.drop y
    ·rw[e2];exact n2
 ·rw[ksig 0 (Int.le_refl 0) (by have:=h.rl;omega)];exact h.r1
 ·intro e;rcases(gr 0).1 e with e|e
  ·exact h.r0 e
  ·rcases gxy 0 e with e|e
   ·exact nx e.symm
   ·exact ny e.symm
 ·intro i i0 i1 hi;have hi2:¬Gone kv i:=fun e=>hi ((gr i).2 (.inl e))
  by_cases hl:i<(xs.length:Nat)
  ·rw[ksig i (by omega) hl];exact h.uq i i0 hl hi2
  ·have:=sg.2 i (by omega) i1;have hlt:i.toNat-xs.length<(tZ bk xs c x y).length:=by omega
   have e:ah (xs++tZ bk xs c x y) i=(tZ bk xs c x y)[i.toNat-xs.length]:=by
    unfold ah elt;rw[qC,qL (by omega),qB hlt];rfl
   rw[e]at this;have k1:(ah (gH bk xs c x y) i).1=((tZ bk xs c x y)[i.toNat-xs.length]).1:=congrArg (fun s:Int×Int×Int×List Int×Nat=>s.1) this;rw[k1];exact Po ry hc hb (fun e=>⟨v0 e,(h7 e).1⟩) _ (List.getElem_mem hlt)
 ·have gf:∀{kv:List (Int×Bool)} {i:Int},¬Gone kv i→bn false kv i=false:=fun {kv i} hi=>by
   cases hq:bn false kv i with
   |true=>exact absurd hq hi
   |false=>rfl
  have c1:lH (fH kv x true) xs.length=lH kv xs.length+1:=by rw[Ab hx.1 (gf k.lx),if_pos hx.2]
  have l1:(fH kv x true).length=kv.length+1:=tO h.kt (gf k.lx);have y1:bn false (fH kv x true) y=false:=by rw[tN,if_neg k.ne];exact gf k.ly
  have c2:lH (fH (fH kv x true) y true) xs.length=lH kv xs.length+2:=by rw[Ab hy.1 y1,if_pos hy.2,c1]
  have l2:(fH (fH kv x true) y true).length=kv.length+2:=by rw[tO (Ic h.kt x) y1,l1]
  have hn:∀i:Int,(xs.length:Int)≤i→bn false (kW kv (fP c x y)) i=false:=fun i hi=>gf fun e=>by
   rcases(gr i).1 e with e|e
   ·have:=h.dl i e;omega
   ·rcases gxy i e with e|e<;>omega
  rw[hln,Aa hn];have hk:=h.kl;unfold fP;cases c==7
  ·show(fH (fH kv x true) y true).length=lH (fH (fH kv x true) y true) xs.length;omega
  ·show(fH kv x true).length=lH (fH kv x true) xs.length;omega
end
end Go.Tr
namespace Go.Tr
open Go Go.RowKit
structure Ja(bk:List (List aj)):Prop extends BkV bk where
 tl:∀v:Int,0≤v→v<(bk.length:Nat)→(bO bk v).length≤600
 bl:bk.length≤1000
section
variable {bk:List (List aj)}
theorem Jq{v:Int}(h:¬(0≤v∧v<(bk.length:Nat)))(h0:0≤v):bO bk v=[]:=by
 unfold bO elt;rw[qC,List.getElem?_eq_none (by omega)];rfl
theorem nO{xs:List aj}{i:Nat}(h:xs.length≤i):ah xs (i:Nat)=dflt aD:=by
 unfold ah elt;rw[qC,qK,List.getElem?_eq_none h];rfl
theorem Ja.len(h:Ja bk)(v:Nat):(bO bk (v:Nat)).length≤600:=by
 by_cases hv:0≤((v:Nat):Int)∧((v:Nat):Int)<(bk.length:Nat)
 ·exact h.tl _ hv.1 hv.2
 ·rw[Jq hv (by omega)];decide
theorem Ja.ag(h:Ja bk)(v j:Nat):(0≤(ah (bO bk (v:Nat)) (j:Nat)).2.1∧(ah (bO bk (v:Nat)) (j:Nat)).2.1≤8)∧(ah (bO bk (v:Nat)) (j:Nat)).2.2.2.1.length≤4∧(ah (bO bk (v:Nat)) (j:Nat)).2.2.2.2.length≤4:=by
 by_cases hv:0≤((v:Nat):Int)∧((v:Nat):Int)<(bk.length:Nat)
 ·by_cases hj:j<(bO bk (v:Nat)).length
  ·have w:=h.wf _ hv.1 hv.2 (j:Nat) (by omega) (by omega);have h1:=wL w;exact⟨by omega,wf_data w,(fu w).2⟩
  ·rw[nO (by omega)];decide
 ·rw[Jq hv (by omega),nO (Nat.zero_le _)];decide
theorem Ja.small(h:Ja bk)(v:Nat):bE (bO bk (v:Nat)):=by
 refine⟨by have:=h.len v;omega,fun i=> ?_⟩;have:=(h.ag v i).2;exact⟨by show(ah (bO bk (v:Nat)) (i:Nat)).2.2.2.1.length≤1048576;omega,by show(ah (bO bk (v:Nat)) (i:Nat)).2.2.2.2.length≤1048576;omega⟩
theorem Ja.ok(h:Ja bk):Gu bk:=fun v j=>(h.ag v j).1
theorem Sn{t:List aj}(hw:ig (fun p=>ak t p) t)(hl:t.length≤600)(i j:Nat):sV (elt (dflt aM) (ah t (i:Nat)).2.2.2.2 (j:Nat)).1:=by
 by_cases hi:i<t.length
 ·by_cases hj:j<(ah t (i:Nat)).2.2.2.2.length
  ·obtain⟨_,h2,_⟩:=hw ((i:Nat),(j:Nat)) ⟨by show(0:Int)≤(i:Nat);omega,by show((i:Nat):Int)<(t.length:Nat);omega,by show(0:Int)≤(j:Nat);omega,by show((j:Nat):Int)<((ah t (i:Nat)).2.2.2.2.length:Nat);omega⟩;have h3:0≤(elt (dflt aM) (ah t (i:Nat)).2.2.2.2 (j:Nat)).1:=h2.1;have h4:(elt (dflt aM) (ah t (i:Nat)).2.2.2.2 (j:Nat)).1<(t.length:Nat):=h2.2.1;have h5:((t.length:Nat):Int)≤1000000:=by omega
   exact⟨h3,Int.le_trans (Int.le_of_lt h4) h5⟩
  ·unfold elt;rw[qC,qK,List.getElem?_eq_none (by omega)];exact⟨by decide,by decide⟩
 ·rw[nO (by omega)];have e:elt (dflt aM) (dflt aD).2.2.2.2 ((j:Nat):Int)=(0,0):=rfl;rw[e];exact⟨by decide,by decide⟩
structure ZT(t xs:List aj)(lv b:Int):Prop where
 two:2≤t.length
 r0:ak t (0,0)
 rs:ak (cB lv t) (0,0)
 top:ak (xs++((cB lv t).drop 1).map (cZ b)) ((au (cB lv t) (0,0)).1+b,(au (cB lv t) (0,0)).2)
 pe:au (cB lv t) (0,0)=au t (0,0)
 ex:jq lv b t (t.length-1)=((cB lv t).drop 1).map (cZ b)
 bt:∀i j:Nat,sV (elt (dflt aM) (ah t (i:Nat)).2.2.2.2 (j:Nat)).1
 bs:∀i j:Nat,sV (elt (dflt aM) (ah (cB lv t) (i:Nat)).2.2.2.2 (j:Nat)).1
 ps:∀i:Nat,(ah (cB lv t) (i:Nat)).2.2.2.2.length≤1048576
theorem Ja.exp(h:Ja bk){v:Int}(v0:0≤v)(v1:v<(bk.length:Nat))(xs:List aj)(lv b:Int)(hb:b=(xs.length:Int)-1)(hx:0<xs.length):ZT (bO bk v) xs lv b:=by
 have hw:=h.wi _ v0 v1;have r0:=h.r0 _ v0 v1;have r1:=h.r1 _ v0 v1;have hl:=h.tl _ v0 v1
 have hps:∀i:Nat,(ah (bO bk v) (i:Nat)).2.2.2.2.length≤4:=fun i=>by
  have:=(h.ag v.toNat i).2.2
  rwa[show((v.toNat:Nat):Int)=v by omega]at this
 generalize bO bk v=t at*;have hws:ig (fun p=>ak (cB lv t) p) (cB lv t):=hw.shift;obtain⟨q1,q2,q3,q4⟩:=hw (0,0) r0
 have rpos:1≤(au t (0,0)).1:=by
  have h1:0≤(au t (0,0)).1:=q2.1
  by_cases e:(au t (0,0)).1=0
  ·exact absurd (r1 _ q2 e) q4
  ·omega
 have ps:au (cB lv t) (0,0)=au t (0,0):=nT r0;refine⟨?_,r0,ak.jm.2 r0,?_,ps,?_,Sn hw hl,Sn hws (by rw[lD];exact hl),fun i=> ?_⟩
 ·have:=q2.2.1;omega
 ·rw[ps]
  exact(ak.lT hb).2 (.inr ⟨by show(xs.length:Int)≤(au t (0,0)).1+b;omega,ak.jm.2 (by
   rw[show(((au t (0,0)).1+b,(au t (0,0)).2):aF).1-b=(au t (0,0)).1 by show(au t (0,0)).1+b-b=_;omega];exact q2)⟩)
 ·unfold jq;rw[qN (by rw[List.length_drop,lD];omega)]
 ·by_cases hi:i<t.length
  ·rw[uH lv t (by omega) (by omega),show(iR lv (ah t (i:Nat))).2.2.2.2=(ah t (i:Nat)).2.2.2.2 from pE _ _];have:=hps i;show(ah t (i:Nat)).2.2.2.2.length≤1048576;omega
  ·rw[nO (by rw[lD];omega)];decide
theorem Li(u v:aj):bK v u=bK u v:=by
 have h1:iw v u=mD u v:=by
  unfold iw mD;cases u.1==10<;>cases v.1==9<;>rfl
 have h2:mD v u=iw u v:=by
  unfold iw mD;cases u.1==9<;>cases v.1==10<;>rfl
 unfold bK;rw[h1,h2,xU];cases mD u v<;>cases iw u v<;>rfl
theorem oW(xs:List aj)(a b:Int):bK (ah xs (aC xs a b).1) (ah xs (aC xs a b).2)=bK (ah xs a) (ah xs b):=by
 unfold aC;cases aZ (ah xs a).1 (ah xs a).2.1 (ah xs b).1 (ah xs b).2.1==2
 ·rfl
 ·exact Li _ _
theorem Kc{xs:List aj}{c x y:Int}(hb:Ja bk)(hy:(ah xs y).2.2.2.2.length≤4)(hx:(ah xs x).2.2.2.2.length≤4)(h7:c=7→0≤(ah xs x).2.2.1∧(ah xs x).2.2.1<(bk.length:Nat)):(tZ bk xs c x y).length≤600:=by
 unfold tZ;cases c==3
 case true=>simp only[qG,qA,qI,qR,List.length_replicate];omega
 cases c==4
 case true=>simp only[qG,qH,List.length_replicate];omega
 cases c==5
 case true=>cases (ah xs y).1==7<;>simp
 cases c==6
 case true=>
  cases (ah xs x).1==6
  ·simp only[qG,qH,qA,qI,qR,List.length_replicate];omega
  ·simp
 cases h:c==7
 ·simp
 ·obtain⟨v0,v1⟩:=h7 (by simpa using h);have:=hb.tl _ v0 v1;simp only[qG,qH,qV,List.length_drop,lW,lD];omega
end
end Go.Tr
namespace Go.Tr
open Go Go.RowKit
abbrev Jf:=Int×Int×Int×List Int×Nat
def toA(s:Jf):aj:=(s.1,s.2.1,s.2.2.1,s.2.2.2.1,List.replicate s.2.2.2.2 (0,0))
theorem eT.maps{xs ys:List aj}(h:eT xs ys):xs.map sig=ys.map sig:=by
 apply List.ext_getElem?;intro i;rw[List.getElem?_map,List.getElem?_map]
 by_cases hi:i<xs.length
 ·have:=h.2 (i:Nat) (by omega) (by omega);have hj:i<ys.length:=by rw[←h.1];exact hi
  rw[vL hi,vL hj]at this;rw[qB hi,qB hj,Option.map_some,Option.map_some,this]
 ·rw[List.getElem?_eq_none (by omega),List.getElem?_eq_none (by rw[←h.1];omega)]
def VQ(bk:List (List aj))(c:Int)(u v:aj):List aj:=tZ bk [u,v] c 0 1
section
variable {bk:List (List aj)}{xs:List aj}{x y c:Int}{u v u' v' a b:aj}
def ZM(bk:List (List aj))(a b:aj):List Jf:=bif aZ a.1 a.2.1 b.1 b.2.1==2 then(VQ bk (bK a b) b a).map sig else(VQ bk (bK a b) a b).map sig
structure Duo(a b:aj):Prop where
 wa:Wf a
 wb:Wf b
 ra:a.1≠1
 rb:b.1≠1
 ok:bK a b≠8
end
def sgAt(s:List Jf)(i:Int):Jf:=s.getD i.toNat (0,0,0,[],0)
def P9(s:List Jf)(i:Int):aj:=toA (sgAt s i)
inductive sW(bk:List (List aj)):List Jf→List bZ→List Jf→Prop
 |done (s:List Jf):sW bk s [] s
 |step {s:List Jf} {e:bZ} {es:List bZ} {s':List Jf} (h0:0≤e.1) (hlt:e.1<e.2.1) (h1:e.2.1<((s.length:Nat):Int)) (hf:e.2.2.2.1=((s.length:Nat):Int))
  (hn:e.2.2.2.2=(((ZM bk (P9 s e.1) (P9 s e.2.1)).length:Nat):Int)) (hw:Duo (P9 s e.1) (P9 s e.2.1)) (r:sW bk (s++ZM bk (P9 s e.1) (P9 s e.2.1)) es s'):sW bk s (e::es) s'
end Go.Tr
namespace Go.Tr
open Go Go.RowKit
def gN(xs:List aj):aQ:=⟨xs.map gA⟩
theorem Uw(xs:List aj):(xs.map gA).flatMap aB.enc=List.flatMap (enc aD) xs:=by
 induction xs with
 |nil=>rfl
 |cons x l ih=>rw[List.map_cons,qU,qU,ih,QW]
theorem Hz(xs:List aj):(gN xs).enc=enc aR xs:=by
 show[D.sl (xs.map gA).length ((xs.map gA).flatMap aB.enc)]=[D.sl _ _];rw[Uw,qV]
theorem QX(bk:List (List aj)):(bk.map gN).flatMap aQ.enc=List.flatMap (enc aR) bk:=by
 induction bk with
 |nil=>rfl
 |cons x l ih=>rw[List.map_cons,qU,qU,ih,Hz]
theorem Nq(xs:List aj)(i:Nat):gV (xs.map gA) i=gA (ah xs (i:Nat)):=by
 unfold gV ah elt;rw[qK,qC,qC,List.getElem?_map];cases xs[i]? <;>rfl
def gP(p:aF):aG:=⟨p.1,p.2⟩
theorem VJ(ps:List aF)(k:Nat):jD (ps.map gP) k=gP (elt (dflt aM) ps (k:Nat)):=by
 unfold jD elt;rw[qK,qC,qC,List.getElem?_map];cases ps[k]? <;>rfl
theorem CO(a:aj):(gA a).aJ=a.2.2.2.2.map gP:=rfl
theorem WZ{p q:aF}(h:gP p=gP q):p=q:=by
 have h1:=congrArg aG.agent h;have h2:=congrArg aG.slot h;exact Prod.ext h1 h2
theorem L9{xs:List aj}{p:aF}(h:iB (xs.map gA) (gP p)=true):ak xs p:=by
 unfold iB at h;rw[qD,Nq,CO]at h;have h1:=iU h.1;have h2:=iU h.2;rw[qV]at h1 h2;have e1:(gP p).agent=p.1:=rfl;have e2:(gP p).slot=p.2:=rfl;rw[e1]at h1 h2;rw[e2]at h2;have e3:((p.1.toNat:Nat):Int)=p.1:=by omega
 rw[e3]at h2;exact⟨by omega,by omega,by omega,by show p.2<((ah xs p.1).2.2.2.2.length:Nat);omega⟩
structure Je(xs:List aj):Prop where
 l1:1≤xs.length
 l2:xs.length≤600
 wf:∀i:Int,0≤i→i<(xs.length:Nat)→Wf (ah xs i)
 rt:∀i:Int,0≤i→i<(xs.length:Nat)→((ah xs i).1=1↔i=0)
 wi:ig (fun p=>ak xs p) xs
theorem BS{xs:List aj}(h:iE (gN xs)=true):Je xs:=by
 unfold iE at h;have hag:(gN xs).agents=xs.map gA:=rfl;rw[qD,hag,qV]at h;obtain⟨h1,h2⟩:=h;unfold fD at h1;rw[qD,qV]at h1;obtain⟨h3,h4⟩:=h1;have h3:=iU h3;have ha:∀i:Nat,i<xs.length→gW (xs.map gA) i=true:=fun i hi=>jX h4 hi
 have hk:∀i:Nat,i<xs.length→Wf (ah xs (i:Nat))∧((ah xs (i:Nat)).1=1↔i=0):=fun i hi=>by
  have:=ha i hi;unfold gW at this;rw[Nq,qD]at this;refine⟨this.1,?_⟩;have h5:=this.2;have e:(gA (ah xs (i:Nat))).kind=(ah xs (i:Nat)).1:=rfl;rw[e,beq_iff_eq,Bool.eq_iff_iff,beq_iff_eq,beq_iff_eq]at h5;omega
 refine⟨by omega,by omega,fun i h0 h1=> ?_,fun i h0 h1=> ?_,?_⟩
 ·have:=(hk i.toNat (by omega)).1
  rwa[show((i.toNat:Nat):Int)=i by omega]at this
 ·have:=(hk i.toNat (by omega)).2;rw[show((i.toNat:Nat):Int)=i by omega]at this;rw[this];omega
 ·rintro⟨a,s⟩ ⟨p1,p2,p3,p4⟩;have q1:0≤a:=p1;have q2:a<(xs.length:Nat):=p2;have q3:0≤s:=p3;have q4:s<((ah xs a).2.2.2.2.length:Nat):=p4;have ea:((a.toNat:Nat):Int)=a:=by omega
  have es:((s.toNat:Nat):Int)=s:=by omega
  have hw:pI (xs.map gA) a.toNat=true:=jX h2 (by omega);unfold pI at hw;rw[Nq,ea,CO,qV]at hw;have hw2:=jX hw (k:=s.toNat) (by omega);unfold oL at hw2;rw[VJ,es]at hw2;have ge:(⟨((a.toNat:Nat):Int),((s.toNat:Nat):Int)⟩:aG)=gP (a,s):=by rw[ea,es];rfl
  simp only[qD,Bool.not_eq_true']at hw2;obtain⟨⟨w1,w2⟩,w3⟩:=hw2;have w1:=G9 w1;have w3:=CB w3;have hin:=L9 w2;have hpe:au xs (a,s)=elt (dflt aM) (ah xs a).2.2.2.2 s:=rfl;rw[←hpe]at w1 w3 hin;refine⟨⟨p1,p2,p3,p4⟩,hin,?_,fun e=>w1 (by rw[e];rfl)⟩;generalize au xs (a,s)=r at*;unfold rD at w3;have er:(gP r).agent=r.1:=rfl;have er2:(gP r).slot=r.2:=rfl;have hr0:=hin.1;have hr2:=hin.2.2.1;rw[er,er2,Nq,CO,VJ,show((r.1.toNat:Nat):Int)=r.1 by omega,show((r.2.toNat:Nat):Int)=r.2 by omega]at w3
  exact WZ (q:=(a,s)) w3
theorem Je.twin{xs:List aj}(h:Je xs):Twin [] xs xs:=by
 have hg:∀i,¬Gone [] i:=fun i e=>by cases e
 have hl1:=h.l1;refine⟨⟨?_,?_,?_⟩,fun i h0 h1 _=>h.wf i h0 h1,fun i e=>absurd e (hg i),fun i e=>absurd e (hg i),(h.rt 0 (Int.le_refl 0) (by omega)).2 rfl,hg 0,h.l1,fun i h0 h1 _ e=> ?_,fun e he=>(by cases he),?_,fun p hp=>(h.wi p hp).2.1⟩
 ·exact⟨rfl,fun _ _ _ _=>rfl⟩
 ·exact h.wi.congr fun p=>⟨fun k=>k.1,fun k=>⟨k,hg _⟩⟩
 ·exact fun p k=>k.2
 ·have:=(h.rt i (by omega) h1).1 e;omega
 ·have:=Aa (kv:=[]) (n:=0) (fun i _=>rfl) xs.length;rw[Nat.zero_add]at this;rw[this];rfl
theorem Qo(bk:List (List aj))(k:Nat):lU (bk.map gN) k=gN (bO bk (k:Nat)):=by
 unfold lU bO elt;rw[qK,qC,qC,List.getElem?_map];cases bk[k]? <;>rfl
theorem Jr{bk:List (List aj)}(h:lG (bk.map gN)=true):Ja bk∧bk.length≤24:=by
 unfold lG at h;rw[qD,qV]at h
 have hl:bk.length≤24:=by
  have:=of_decide_eq_true h.1;omega
 have hn:∀v:Int,0≤v→v<(bk.length:Nat)→Je (bO bk v):=fun v h0 h1=>by
  have:=jX h.2 (k:=v.toNat) (by omega);rw[Qo,show((v.toNat:Nat):Int)=v by omega]at this;exact BS this
 refine⟨⟨⟨⟨fun v h0 h1=>(hn v h0 h1).wi,fun v h0 h1=> ?_,fun v h0 h1 p hp e=> ?_,fun v h0 h1=>(hn v h0 h1).wf⟩,fun v h0 h1 i i0 i1 e=> ?_⟩,fun v h0 h1=>(hn v h0 h1).l2,by omega⟩,hl⟩
 ·have N:=hn v h0 h1;have hl1:=N.l1;have:=(fu (N.wf 0 (Int.le_refl 0) (by omega))).1;exact⟨Int.le_refl 0,by show(0:Int)<((bO bk v).length:Nat);omega,Int.le_refl 0,by show(0:Int)<((ah (bO bk v) 0).2.2.2.2.length:Nat);omega⟩
 ·have N:=hn v h0 h1;have hl1:=N.l1;have w:=N.wf 0 (Int.le_refl 0) (by omega);have hk:=(N.rt 0 (Int.le_refl 0) (by omega)).2 rfl;have hp1:=(rQ w).1 (.inl hk);obtain⟨_,_,p3,p4⟩:=hp;rw[e]at p4;have p4':p.2<((ah (bO bk v) 0).2.2.2.2.length:Nat):=p4;exact Prod.ext e (by show p.2=0;omega)
 ·have:=((hn v h0 h1).rt i (by omega) i1).1 e;omega
abbrev Bd(e:bZ):Int:=e.2.2.2.1
abbrev OO(e:bZ):Int:=e.2.2.2.2
def Lb:List bZ→Int→Int→Int×Int
 |[],_,k=>(-1,k)
 |e::es,i,k=>bif (bif decide (Bd e≤k)then decide (k<Bd e+OO e)else false)then(i,k-Bd e)else Lb es (i+1) k
theorem GQ{e:bZ}{es:List bZ}{i k:Int}(h1:Bd e≤k)(h2:k<Bd e+OO e):Lb (e::es) i k=(i,k-Bd e):=by
 unfold Lb;rw[show decide (Bd e≤k)=true by simpa using h1,show decide (k<Bd e+OO e)=true by simpa using h2];rfl
theorem yU{e:bZ}{es:List bZ}{i k:Int}(h:¬(Bd e≤k∧k<Bd e+OO e)):Lb (e::es) i k=Lb es (i+1) k:=by
 conv=>lhs;unfold Lb
 cases h1:decide (Bd e≤k)with
 |false=>rfl
 |true=>
  cases h2:decide (k<Bd e+OO e)with
  |false=>rfl
  |true=>exact absurd ⟨by simpa using h1,by simpa using h2⟩ h
theorem Qm:∀(es:List bZ) (i k:Int),(Lb es i k).1= -1∨(Lb es i k).1<i+(es.length:Nat)
 |[],i,k=>.inl rfl
 |e::es,i,k=>by
  by_cases h:Bd e≤k∧k<Bd e+OO e
  ·rw[GQ h.1 h.2];right;show i<i+((es.length+1:Nat):Int);omega
  ·rw[yU h];have:=Qm es (i+1) k;rw[qI];omega
theorem Jm:∀{es:List bZ} {i k:Int},(∀e∈es,¬(Bd e≤k∧k<Bd e+OO e))→Lb es i k=(-1,k)
 |[],_,_,_=>rfl
 |e::es,i,k,h=>by
  rw[yU (h e (by simp))];exact Jm fun e' he=>h e' (by simp[he])
theorem Jo:∀{p q:List bZ} {i k:Int},(∀e∈p,¬(Bd e≤k∧k<Bd e+OO e))→Lb (p++q) i k=Lb q (i+(p.length:Nat)) k
 |[],q,i,k,_=>by rw[List.nil_append];congr 1;simp
 |e::p,q,i,k,h=>by
  rw[List.cons_append,yU (h e (by simp)),Jo fun e' he=>h e' (by simp[he])]
  congr 1
  rw[qI];omega
section
variable {bk:List (List aj)}
theorem sW.pre{s s':List Jf}{es:List bZ}(h:sW bk s es s'):s<+:s':=by
 induction h with
 |done s=>exact pR _
 |step _ _ _ _ _ _ _ ih=>exact(List.prefix_append _ _).trans ih
theorem sW.split{s s':List Jf}:∀{p q:List bZ},sW bk s (p++q) s'→∃t,sW bk s p t∧sW bk t q s'
 |[],q,h=>⟨s,.done s,h⟩
 |e::p,q,h=>by
  cases h with
  |step h0 hlt h1 hf hn hw r=>
   obtain⟨t,k1,k2⟩:=sW.split (p:=p) r;exact⟨t,.step h0 hlt h1 hf hn hw k1,k2⟩
theorem sW.snoc{s t:List Jf}{p:List bZ}{e:bZ}(h:sW bk s p t)(h0:0≤e.1)(hlt:e.1<e.2.1)(h1:e.2.1<((t.length:Nat):Int))(hf:e.2.2.2.1=((t.length:Nat):Int))
  (hn:e.2.2.2.2=(((ZM bk (P9 t e.1) (P9 t e.2.1)).length:Nat):Int)) (hw:Duo (P9 t e.1) (P9 t e.2.1)):sW bk s (p++[e]) (t++ZM bk (P9 t e.1) (P9 t e.2.1)):=by
 induction h with
 |done s=>exact .step h0 hlt h1 hf hn hw (.done _)
 |step g0 glt g1 gf gn gw _ ih=>exact .step g0 glt g1 gf gn gw (ih h1 hf hn hw)
theorem sW.rng{s s':List Jf}{es:List bZ}(h:sW bk s es s'):∀e∈es,((s.length:Nat):Int)≤Bd e∧0≤OO e∧Bd e+OO e≤((s'.length:Nat):Int):=by
 induction h with
 |done s=>intro e he;cases he
 |step h0 hlt h1 hf hn hw r ih=>
  intro e' he';have hp:=r.pre.length_le;rw[qA]at hp;rcases List.mem_cons.1 he' with rfl|he'
  ·exact⟨by show _≤e'.2.2.2.1;omega,by show 0≤e'.2.2.2.2;omega,by show e'.2.2.2.1+e'.2.2.2.2≤_;omega⟩
  ·have:=ih e' he';rw[qA]at this;omega
theorem sW.old{s t s':List Jf}{p q:List bZ}(h1:sW bk s p t)(h2:sW bk t q s'){k:Int}(hk:k<((t.length:Nat):Int)):(Lb (p++q) 0 k).1<((p.length:Nat):Int):=by
 have hq:∀e∈q,¬(Bd e≤k∧k<Bd e+OO e):=fun e he hh=>by
  have:=h2.rng e he;omega
 have key:∀(p:List bZ) (i:Int),Lb (p++q) i k=Lb p i k:=by
  intro p
  induction p with
  |nil=>intro i;rw[List.nil_append,Jm hq];rfl
  |cons e p ih=>
   intro i;rw[List.cons_append]
   by_cases h:Bd e≤k∧k<Bd e+OO e
   ·rw[GQ h.1 h.2,GQ h.1 h.2]
   ·rw[yU h,yU h,ih]
 rw[key];have:=Qm p 0 k;omega
theorem sW.new{s t:List Jf}{p q:List bZ}{e:bZ}(h1:sW bk s p t)(hf:Bd e=((t.length:Nat):Int)){j:Int}(j0:0≤j)(j1:j<OO e):Lb (p++e::q) 0 (Bd e+j)=(((p.length:Nat):Int),j):=by
 rw[Jo fun e' he hh=>by have:=h1.rng e' he;omega,Int.zero_add,GQ (by omega) (by omega)]
 congr 1
 omega
end
section
variable {bk:List (List aj)}{s0 sa sb:List Jf}{a b:List bZ}
end
end Go.Tr
namespace Go.Tr
open Go Go.RowKit
def jv(f:Int→Int)(p:aF):aF:=(f p.1,p.2)
def rH(f:Int→Int)(a:aj):aj:=(a.1,a.2.1,a.2.2.1,a.2.2.2.1,a.2.2.2.2.map (jv f))
def bS(ys:List aj)(i:Nat):Bool:=(ah ys (i:Nat)).1 !=0
def fM(ys:List aj):Nat→Nat
 |0=>0
 |k+1=>bif bS ys k then fM ys k+1 else fM ys k
def kr(ys:List aj)(x:Int):Int:=((fM ys x.toNat:Nat):Int)
def dS(ys:List aj):Nat→List aj
 |0=>[]
 |k+1=>bif bS ys k then dS ys k++[rH (kr ys) (ah ys (k:Nat))]else dS ys k
def dx(ys:List aj):List aj:=dS ys ys.length
def eF(kv:List (Int×Bool)):Nat→List Int
 |0=>[]
 |k+1=>bif !(bn false kv ((k:Nat):Int))then eF kv k++[((k:Nat):Int)]else eF kv k
def MB(ord:List Int):Nat→List (Int×Int)
 |0=>[]
 |i+1=>fH (MB ord i) (elt 0 ord ((i:Nat):Int)) ((i:Nat):Int)
def Ov(ord:List Int)(x:Int):Int:=bn 0 (MB ord ord.length) x
def sG(xs:List aj)(ord:List Int):Nat→List aj
 |0=>[]
 |i+1=>sG xs ord i++[rH (Ov ord) (ah xs (elt 0 ord ((i:Nat):Int)))]
theorem OY{α:Type}(d:α)(kv:List (Int×α))(i j:Int)(x:α):bn d (fH kv i x) j=if i=j then x else bn d kv j:=by
 induction kv with
 |nil=>
  unfold fH bn
  by_cases h:i=j
  ·rw[if_pos h,show(i==j)=true by simpa using h];rfl
  ·rw[if_neg h,show(i==j)=false by simpa using h];rfl
 |cons e kv ih=>
  obtain⟨k,v⟩:=e;unfold fH
  by_cases h:k=i
  ·rw[show(k==i)=true by simpa using h,qG];unfold bn;subst h
   by_cases h2:k=j
   ·rw[if_pos h2,show(k==j)=true by simpa using h2];rfl
   ·rw[if_neg h2,show(k==j)=false by simpa using h2];rfl
  ·rw[show(k==i)=false by simpa using h,qH]
   conv=>lhs;unfold bn
   conv=>rhs;unfold bn
   by_cases h2:k=j
   ·rw[show(k==j)=true by simpa using h2,qG,qG,if_neg (by omega)]
   ·rw[show(k==j)=false by simpa using h2,qH,qH,ih]
theorem DN(xs:List aj)(ord:List Int):∀i:Nat,i≤ord.length→sG xs ord i=(ord.take i).map fun k=>rH (Ov ord) (ah xs k)
 |0,_=>by rw[List.take_zero];rfl
 |i+1,h=>by
  unfold sG;rw[DN xs ord i (by omega),List.take_add_one,qZ,qB (by omega)];unfold elt;rw[qK,qC,qB (by omega)];rfl
def iV(f:Int→Int)(ps:List aF)(j:Nat):List aF:=(ps.take j).map (jv f)++ps.drop j
theorem xw(f:Int→Int)(ps:List aF)(j:Nat):(iV f ps j).length=ps.length:=by unfold iV;simp;omega
theorem DU{f:Int→Int}{ps:List aF}{j:Nat}(h:j<ps.length):elt (dflt aM) (iV f ps j) (j:Nat)=elt (dflt aM) ps (j:Nat):=by
 unfold elt iV;rw[qK,qC,qC,qL (by simp;omega)];simp;rw[show j-min j ps.length=0 by omega,Nat.add_zero]
theorem DV{f:Int→Int}{ps:List aF}{j:Nat}(h:j<ps.length):iV f ps (j+1)=(iV f ps j).set j (f (elt (dflt aM) ps (j:Nat)).1,(elt (dflt aM) ps (j:Nat)).2):=by
 have he:elt (dflt aM) ps (j:Nat)=ps[j]:=by
  unfold elt;rw[qK,qC,qB h];rfl
 unfold iV;rw[List.set_append_right _ _ (by simp;omega),List.take_add_one,qB h,qZ,he];have e:j-((ps.take j).map (jv f)).length=0:=by simp;omega
 rw[e,List.drop_eq_getElem_cons h,List.set_cons_zero];simp[jv]
theorem Gh(f:Int→Int)(ps:List aF):iV f ps ps.length=ps.map (jv f):=by unfold iV;simp
section
variable {kv:List (Int×Bool)}{xs ys:List aj}
theorem MX(ys:List aj):∀k:Nat,fM ys k≤k
 |0=>Nat.le_refl 0
 |k+1=>by unfold fM;have:=MX ys k;cases bS ys k<;>simp<;>omega
theorem Twin.bS(h:Twin kv xs ys){k:Nat}(hk:k<xs.length):bS ys k= !(bn false kv ((k:Nat):Int)):=by
 unfold Tr.bS;cases hg:bn false kv ((k:Nat):Int)with
 |true=>
  rw[(h.hole _ hg).2];rfl
 |false=>
  have hd:¬Gone kv ((k:Nat):Int):=fun e=>by
   have e':bn false kv ((k:Nat):Int)=true:=e;rw[hg]at e';cases e'
  rw[h.at_ (by omega) (by omega) hd];have:=I5 (h.wf (k:Nat) (by omega) (by omega) hd);simp;omega
theorem Twin.ord(h:Twin kv xs ys):∀n:Nat,n≤xs.length→(eF kv n).length=fM ys n∧(∀j:Nat,j<(eF kv n).length→∃x:Nat,x<n∧(eF kv n)[j]? =some ((x:Nat):Int)∧fM ys x=j∧bn false kv ((x:Nat):Int)=false)∧
  (∀x:Nat,x<n→bn false kv ((x:Nat):Int)=false→(eF kv n)[fM ys x]? =some ((x:Nat):Int))
 |0,_=>⟨rfl,fun j hj=>absurd hj (Nat.not_lt_zero _),fun x hx=>absurd hx (Nat.not_lt_zero _)⟩
 |n+1,hn=>by
  obtain⟨h1,h2,h3⟩:=h.ord n (by omega);have hl:=h.bS (k:=n) (by omega);have eo:eF kv (n+1)=bif !(bn false kv ((n:Nat):Int))then eF kv n++[((n:Nat):Int)]else eF kv n:=rfl
  have ec:fM ys (n+1)=bif Tr.bS ys n then fM ys n+1 else fM ys n:=rfl
  rw[eo,ec,hl];cases hg:bn false kv ((n:Nat):Int)with
  |true=>
   simp only[Bool.not_true,qH];refine⟨h1,fun j hj=> ?_,fun x hx hx2=> ?_⟩
   ·obtain⟨x,k1,k2,k3,k4⟩:=h2 j hj;exact⟨x,by omega,k2,k3,k4⟩
   ·refine h3 x ?_ hx2
    by_cases e:x=n
    ·rw[e,hg]at hx2;cases hx2
    ·omega
  |false=>
   simp only[Bool.not_false,qG];refine⟨by rw[qA,h1];rfl,fun j hj=> ?_,fun x hx hx2=> ?_⟩
   ·rw[qA,qJ]at hj
    by_cases hj2:j<(eF kv n).length
    ·obtain⟨x,k1,k2,k3,k4⟩:=h2 j hj2;exact⟨x,by omega,by rw[qM hj2];exact k2,k3,k4⟩
    ·have hj3:j=(eF kv n).length:=by omega
     exact⟨n,by omega,by rw[hj3,qL (Nat.le_refl _),Nat.sub_self];rfl,by rw[hj3,h1],hg⟩
   ·by_cases e:x=n
    ·subst e;rw[←h1,qL (Nat.le_refl _),Nat.sub_self];rfl
    ·have k:=h3 x (by omega) hx2;have:=(qE.1 k).1;rw[qM this];exact k
theorem Twin.Wp(h:Twin kv xs ys):∀i:Nat,i≤(eF kv xs.length).length→∀j:Nat,j<i→bn 0 (MB (eF kv xs.length) i) (elt 0 (eF kv xs.length) ((j:Nat):Int))=((j:Nat):Int)
 |0,_,j,hj=>by omega
 |i+1,hi,j,hj=>by
  obtain⟨h1,h2,h3⟩:=h.ord xs.length (Nat.le_refl _);unfold MB;rw[OY]
  by_cases e:j=i
  ·subst e;rw[if_pos rfl]
  ·rw[if_neg fun k=>e ?_]
   ·exact h.Wp i (by omega) j (by omega)
   ·obtain⟨x,k1,k2,k3,_⟩:=h2 i (by omega);obtain⟨y,l1,l2,l3,_⟩:=h2 j (by omega);unfold elt at k;rw[qK,qK,qC,qC,k2,l2]at k;have k':((x:Nat):Int)=((y:Nat):Int):=k;have:x=y:=by omega
    rw[←k3,←l3,this]
theorem Twin.Ov(h:Twin kv xs ys){x:Int}(h0:0≤x)(h1:x<(xs.length:Nat))(hd:¬Gone kv x):Ov (eF kv xs.length) x=kr ys x:=by
 obtain⟨k1,k2,k3⟩:=h.ord xs.length (Nat.le_refl _)
 have hg:bn false kv ((x.toNat:Nat):Int)=false:=by
  rw[show((x.toNat:Nat):Int)=x by omega];cases hq:bn false kv x with
  |true=>exact absurd hq hd
  |false=>rfl
 have k4:=k3 x.toNat (by omega) hg;have k5:=(qE.1 k4).1;have k6:=h.Wp (eF kv xs.length).length (Nat.le_refl _) (fM ys x.toNat) k5
 have e:elt 0 (eF kv xs.length) ((fM ys x.toNat:Nat):Int)=x:=by
  unfold elt;rw[qK,qC,k4];show((x.toNat:Nat):Int)=x;omega
 rw[e]at k6;exact k6
theorem Twin.dS(h:Twin kv xs ys):∀n:Nat,n≤xs.length→dS ys n=(eF kv n).map fun k=>rH (kr ys) (ah ys k)
 |0,_=>rfl
 |n+1,hn=>by
  unfold Tr.dS eF;rw[h.bS (k:=n) (by omega),h.dS n (by omega)];cases bn false kv ((n:Nat):Int)
  ·simp
  ·simp
theorem Twin.pack(h:Twin kv xs ys):sG xs (eF kv xs.length) (eF kv xs.length).length=dx ys:=by
 rw[DN _ _ _ (Nat.le_refl _),List.take_length];unfold dx;rw[←h.len,h.dS _ (Nat.le_refl _)];refine List.map_congr_left fun k hk=> ?_
 obtain⟨j,hj,rfl⟩:=List.mem_iff_getElem.1 hk;obtain⟨x,k1,k2,k3,k4⟩:=(h.ord xs.length (Nat.le_refl _)).2.1 j hj;rw[qB hj]at k2;injection k2 with k2
 rw[k2]
 have hd:¬Gone kv ((x:Nat):Int):=fun e=>by
  have e':bn false kv ((x:Nat):Int)=true:=e;rw[k4]at e';cases e'
 rw[h.at_ (by omega) (by omega) hd];unfold rH
 congr 4
 refine List.map_congr_left fun p hp=> ?_
 obtain⟨i,hi,rfl⟩:=List.mem_iff_getElem.1 hp;have hw:=h.st.wi (((x:Nat):Int),((i:Nat):Int)) ⟨⟨by show(0:Int)≤(x:Nat);omega,by show((x:Nat):Int)<(xs.length:Nat);omega,by show(0:Int)≤(i:Nat);omega,by show((i:Nat):Int)<((ah xs (x:Nat)).2.2.2.2.length:Nat);omega⟩,hd⟩
 have hpe:au xs (((x:Nat):Int),((i:Nat):Int))=(ah xs (x:Nat)).2.2.2.2[i]:=by
  unfold au elt;rw[qK,qC,qB hi];rfl
 rw[hpe]at hw;obtain⟨_,⟨q1,q2⟩,_⟩:=hw;unfold jv;rw[h.Ov q1.1 q1.2.1 q2]
end
end Go.Tr
