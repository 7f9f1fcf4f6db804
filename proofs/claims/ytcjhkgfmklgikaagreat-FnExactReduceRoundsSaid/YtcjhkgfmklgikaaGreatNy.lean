
/- Nets as data: agents, ports, wires. No program in it. -/
import Derived.Test.YtcjhkgfmklgikaaGreatShort
import Derived.Test.YtcjhkgfmklgikaaGreatVV
import Derived.Test.YtcjhkgfmklgikaaGreatValid
set_option linter.unusedSimpArgs false
set_option linter.unusedVariables false
set_option linter.unusedSectionVars false
namespace Go.Tr
open Go Go.RowKit
abbrev aR:U:=.pair (.int .i64) (.int .i64)
abbrev aG:U:=.pair (.int .i64) (.pair (.int .i64) (.pair (.int .i64) (.pair (.sl (.int .i64)) (.sl aR))))
abbrev bO:U:=.sl aG
abbrev aD:=Int×Int
abbrev aj:=Int×Int×Int×List Int×List aD
def ah(xs:List aj)(i:Int):aj:=elt (dflt aG) xs i
abbrev aj.kind(a:aj):Int:=a.1
abbrev aj.level(a:aj):Int:=a.2.1
abbrev aj.value(a:aj):Int:=a.2.2.1
abbrev aj.data(a:aj):List Int:=a.2.2.2.1
abbrev aj.aH(a:aj):List aD:=a.2.2.2.2
def au(xs:List aj)(p:aD):aD:=elt (dflt aR) (ah xs p.1).aH p.2
def aL(xs:List aj)(p q:aD):List aj:=xs.set p.1.toNat ((ah xs p.1).1,(ah xs p.1).2.1,(ah xs p.1).2.2.1,(ah xs p.1).2.2.2.1,(ah xs p.1).2.2.2.2.set p.2.toNat q)
def bL(xs:List aj)(p q:aD):List aj:=aL (aL xs p q) q p
def ak(xs:List aj)(p:aD):Prop:=0≤p.1∧p.1<(xs.length:Nat)∧0≤p.2∧p.2<((ah xs p.1).aH.length:Nat)
abbrev vP(p:aD):SV:=.agg [.int .i64 p.1,.int .i64 p.2]
theorem cK(xs:List aj)(p q:aD):(aL xs p q).length=xs.length:=by unfold aL;simp
theorem kQ{xs:List aj}{k:Nat}{y:aj}{i:Int}:ah (xs.set k y) i=if k=i.toNat∧k<xs.length then y else ah xs i:=by
 unfold ah elt;rw[qC,qC,List.getElem?_set]
 by_cases h:k=i.toNat
 ·subst h
  by_cases h2:i.toNat<xs.length
  ·simp[h2]
  ·simp[h2]
 ·simp[h]
theorem eF(xs:List aj)(p q:aD)(i:Int):ah (aL xs p q) i=if p.1.toNat=i.toNat∧p.1.toNat<xs.length then((ah xs p.1).1,(ah xs p.1).2.1,(ah xs p.1).2.2.1,(ah xs p.1).2.2.2.1,(ah xs p.1).2.2.2.2.set p.2.toNat q)else ah xs i:=kQ
theorem yL{xs:List aj}{i j:Int}(h:i.toNat=j.toNat):ah xs i=ah xs j:=by unfold ah elt;rw[h]
theorem nS(xs:List aj)(p q:aD)(i:Int):(ah (aL xs p q) i).aH.length=(ah xs i).aH.length:=by
 rw[eF];split
 ·rename_i h;rw[yL h.1.symm];simp[aj.aH]
 ·rfl
theorem ak.set{xs:List aj}{p q r:aD}(h:ak xs r):ak (aL xs p q) r:=by
 unfold ak at h ⊢;rw[cK,nS];exact h
theorem ak.link{xs:List aj}{p q r:aD}(h:ak xs r):ak (bL xs p q) r:=h.set.set
theorem jf(xs:List aj)(p q:aD):(bL xs p q).length=xs.length:=by unfold bL;rw[cK,cK]
theorem sJ{us:List Value}{n:Nat}(hl:us.length=n*5){i:Int}(h0:0≤i)(h1:i<(n:Nat)):i.toNat*5+5≤us.length:=by omega
theorem rJ{us:List Value}{n:Nat}(hl:us.length=n*5){i:Int}(h0:0≤i)(h1:i<(n:Nat)){o:Nat}(ho:o<5):us[i.toNat*5+o]? =some (us.getD (i.toNat*5+o) undef):=by
 rw[qC,qB (by omega)];rfl
def dA(xs:List aj)(old now:aD):List aj:=bL xs (au xs old) now
def aV(xs:List aj)(x y:aD):List aj:=bif (au xs x).1==y.1&&(au xs x).2==y.2 then xs else bL xs (au xs x) (au xs y)
def bg(kind level value:Int)(data:List Int)(n:Nat):aj:=(kind,level,value,data,List.replicate n (0,0))
def kW(kv:List (Int×Bool))(ks:List Int):List (Int×Bool):=ks.foldl (fun kv k=>fM kv k true) kv
theorem OG(kv:List (Int×Bool)){ks:List Int}{i:Nat}(h:i<ks.length):fM (kW kv (ks.take i)) (ks.getD i 0) true=kW kv (ks.take (i+1)):=by
 unfold kW;rw[List.take_add_one,List.foldl_append,qC,qB h];rfl
theorem eB{k:Nat}(h:k<1000000000):IntKind.i64.wrap ((k:Int)+1)=((k+1:Nat):Int):=OU (by omega)
def dH(xs:List aj):Prop:=xs.length≤1048576∧∀i:Nat,(ah xs i).data.length≤1048576∧(ah xs i).aH.length≤1048576
def oU(c:Int)(x y:aj):Bool:=bif (bif c==6 then y.kind==10 else false)then decide ((y.data.length:Int)≤x.value)else false
def bJ(x y:aj):Int×Bool:=
 bif aX x.kind x.level y.kind y.level==2 then(bif oU (aW x.kind x.level y.kind y.level) y x then(8,false)else(aW x.kind x.level y.kind y.level,aX x.kind x.level y.kind y.level==2))
 else(bif oU (aW x.kind x.level y.kind y.level) x y then(8,false)else(aW x.kind x.level y.kind y.level,aX x.kind x.level y.kind y.level==2))
theorem Kv{x y:aj}(h1:(aX x.kind x.level y.kind y.level==2)=true)(h2:oU (aW x.kind x.level y.kind y.level) y x=true):bJ x y=(8,false):=by unfold bJ;rw[h1,h2];rfl
theorem Ku{x y:aj}(h1:(aX x.kind x.level y.kind y.level==2)=true)(h2:oU (aW x.kind x.level y.kind y.level) y x=false):bJ x y=(aW x.kind x.level y.kind y.level,aX x.kind x.level y.kind y.level==2):=by unfold bJ;rw[h1,h2];rfl
theorem Kt{x y:aj}(h1:(aX x.kind x.level y.kind y.level==2)=false)(h2:oU (aW x.kind x.level y.kind y.level) x y=true):bJ x y=(8,false):=by unfold bJ;rw[h1,h2];rfl
theorem Kr{x y:aj}(h1:(aX x.kind x.level y.kind y.level==2)=false)(h2:oU (aW x.kind x.level y.kind y.level) x y=false):bJ x y=(aW x.kind x.level y.kind y.level,aX x.kind x.level y.kind y.level==2):=by unfold bJ;rw[h1,h2];rfl
def jR(p lo hi d:Int):Int×Int:=bif (bif decide (p<lo)then true else decide (hi<p))then(0,2)else(IntKind.i64.wrap (p+d),0)
def dG(c p:Int):Int×Int:=
 bif c==1 then jR p 0 0 (-2)else bif c==2 then jR p 0 0 (-2)else bif c==3 then jR p 0 3 0 else bif c==4 then jR p 0 3 (-2)
 else bif c==5 then jR p 0 0 (-1)else bif c==6 then jR p 0 3 (-1)else bif c==7 then jR p 2 600 (-2)else(0,2)
def iU(by_:Int)(x:aj):aj:=bif bR x.kind then(x.1,x.2.1+by_,x.2.2)else x
def fP(by_:Int)(xs:List aj):Bool:=xs.all fun x=> !(bR x.kind)||decide (x.level+by_≤8)
def bY(by_:Int)(xs:List aj):List aj:=xs.map (iU by_)
def mU(x:Int):Int:=IntKind.i64.wrap (IntKind.i32.wrap x)
def wK(o a b:Int):Int:=
 bif o==1 then mU (IntKind.i64.wrap (mU a+mU b))else bif o==2 then mU (IntKind.i64.wrap (mU a-mU b))else bif o==3 then mU (IntKind.i64.wrap (mU a*mU b))
 else bif o==4 then(bif mU b==0 then 0 else mU (IntKind.i64.wrap ((mU a).tdiv (mU b))))else bif o==5 then(bif decide (mU a<mU b)then 1 else 0)else bif o==6 then(bif mU a==mU b then 1 else 0)else 0
theorem OT(x:Int):IntKind.i64.wrap (IntKind.i32.wrap (IntKind.u32.wrap (IntKind.u64.wrap x)))=mU x:=by
 unfold mU;simp only[IntKind.wrap,IntKind.bits,IntKind.signed];simp
def bf(xs:List aj):Prop:=∀p,ak xs p→ak xs (au xs p)
theorem Mk{α:Type}{d:α}{xs:List α}{i j:Int}(h:i.toNat=j.toNat):elt d xs i=elt d xs j:=by unfold elt;rw[h]
theorem Tf{α:Type}{d:α}{xs:List α}{k:Nat}{y:α}{i:Int}:elt d (xs.set k y) i=if k=i.toNat∧k<xs.length then y else elt d xs i:=by
 unfold elt;rw[qC,qC,List.getElem?_set]
 by_cases h:k=i.toNat
 ·subst h
  by_cases h2:i.toNat<xs.length<;>simp[h2]
 ·simp[h]
theorem Te{α:Type}{d:α}{xs ys:List α}{i:Int}(h:i.toNat<xs.length):elt d (xs++ys) i=elt d xs i:=by
 unfold elt;rw[qC,qC,qM h]
theorem PN{α:Type}{d y:α}{xs:List α}{i:Int}(h:i.toNat=xs.length):elt d (xs++[y]) i=y:=by
 unfold elt;rw[h,qC];simp
theorem dw{xs ys:List aj}{i:Int}(h:i.toNat<xs.length):ah (xs++ys) i=ah xs i:=Te h
theorem pJ{y:aj}{xs:List aj}{i:Int}(h:i.toNat=xs.length):ah (xs++[y]) i=y:=PN h
theorem ak.app{xs ys:List aj}{p:aD}(h:ak xs p):ak (xs++ys) p:=by
 obtain⟨h1,h2,h3,h4⟩:=h;refine⟨h1,by rw[qA];omega,h3,?_⟩;rw[dw (by omega)];exact h4
theorem ak.new{k l v:Int}{d:List Int}{n:Nat}{xs:List aj}{s:Int}(h0:0≤s)(h1:s<(n:Nat)):ak (xs++[bg k l v d n]) ((xs.length:Nat),s):=by
 refine⟨by omega,by rw[qA,qJ];show((xs.length:Nat):Int)<_;omega,h0,?_⟩;rw[pJ (by simp)];simpa[bg,aj.aH]using h1
theorem nI{xs ys:List aj}{p:aD}(h:p.1.toNat<xs.length):au (xs++ys) p=au xs p:=by unfold au;rw[dw h]
theorem FK{xs:List aj}{p q r:aD}(hp:ak xs p)(hr:ak xs r):au (aL xs p q) r=if p=r then q else au xs r:=by
 obtain⟨p1,p2,p3,p4⟩:=hp;obtain⟨r1,r2,r3,r4⟩:=hr;unfold au;rw[eF]
 by_cases h:p.1.toNat=r.1.toNat
 ·have e:p.1=r.1:=by omega
  rw[if_pos ⟨h,by omega⟩];show elt (dflt aR) ((ah xs p.1).2.2.2.2.set p.2.toNat q) r.2=_;rw[Tf]
  by_cases h2:p.2.toNat=r.2.toNat
  ·have e2:p.2=r.2:=by omega
   rw[if_pos ⟨h2,by simp only[aj.aH]at p4;omega⟩,if_pos (Prod.ext e e2)]
  ·rw[if_neg (fun hh=>h2 hh.1),if_neg (fun hh=>h2 (by rw[hh])),e]
 ·rw[if_neg (fun hh=>h hh.1),if_neg (fun hh=>h (by rw[hh]))]
theorem jC{xs:List aj}{p q r:aD}(hp:ak xs p)(hq:ak xs q)(hr:ak xs r):au (bL xs p q) r=if q=r then p else if p=r then q else au xs r:=by
 unfold bL;rw[FK hq.set hr.set,FK hp hr]
theorem ak.unset{xs:List aj}{p q r:aD}(h:ak (aL xs p q) r):ak xs r:=by
 unfold ak at h ⊢
 rwa[cK,nS]at h
theorem ak.unlink{xs:List aj}{p q r:aD}(h:ak (bL xs p q) r):ak xs r:=h.unset.unset
theorem bf.link{xs:List aj}{p q:aD}(h:bf xs)(hp:ak xs p)(hq:ak xs q):bf (bL xs p q):=fun r hr=>by
 have hr':=hr.unlink;rw[jC hp hq hr'];split
 ·exact hp.link
 ·split
  ·exact hq.link
  ·exact(h r hr').link
theorem bf.move{xs:List aj}{p q:aD}(h:bf xs)(hp:ak xs p)(hq:ak xs q):bf (dA xs p q):=h.link (h p hp) hq
theorem ak.move{xs:List aj}{p q r:aD}(h:ak xs r):ak (dA xs p q) r:=h.link
theorem ak.join{xs:List aj}{p q r:aD}(h:ak xs r):ak (aV xs p q) r:=by
 unfold aV;cases ((au xs p).1==q.1&&(au xs p).2==q.2)with
 |true=>exact h
 |false=>exact h.link
theorem bf.join{xs:List aj}{p q:aD}(h:bf xs)(hp:ak xs p)(hq:ak xs q):bf (aV xs p q):=by
 unfold aV;cases ((au xs p).1==q.1&&(au xs p).2==q.2)with
 |true=>exact h
 |false=>exact h.link (h p hp) (h q hq)
theorem bf.add{xs:List aj}(h:bf xs)(h0:ak xs (0,0))(k l v:Int)(d:List Int)(n:Nat):bf (xs++[bg k l v d n]):=fun r hr=>by
 by_cases hlt:r.1.toNat<xs.length
 ·rw[nI hlt];obtain⟨r1,r2,r3,r4⟩:=hr;rw[dw hlt]at r4;exact(h r ⟨r1,by omega,r3,r4⟩).app
 ·obtain⟨r1,r2,r3,r4⟩:=hr;rw[qA,qJ]at r2;have e:r.1.toNat=xs.length:=by omega
  have hp:au (xs++[bg k l v d n]) r=(0,0):=by
   unfold au;rw[pJ e]at r4 ⊢;simp only[bg,aj.aH,List.length_replicate]at r4;unfold elt;rw[qC];simp only[bg,aj.aH];rw[List.getElem?_replicate];split<;>rfl
  rw[hp];exact h0.app
theorem jk(xs:List aj)(p q:aD):(dA xs p q).length=xs.length:=jf _ _ _
theorem lU(xs:List aj)(p q:aD):(aV xs p q).length=xs.length:=by
 unfold aV;cases ((au xs p).1==q.1&&(au xs p).2==q.2)<;>simp[jf]
theorem kX{xs:List aj}{p q a b:aD}(hp:ak xs p)(hq:ak xs q)(hn:p≠q):aL (aL xs p a) q b=aL (aL xs q b) p a:=by
 obtain⟨p1,p2,p3,p4⟩:=hp;obtain⟨q1,q2,q3,q4⟩:=hq
 by_cases h:p.1.toNat=q.1.toNat
 ·have e:p.1=q.1:=by omega
  have h2:p.2.toNat≠q.2.toNat:=fun h2=>hn (Prod.ext e (by omega))
  have k1:ah (aL xs p a) q.1=((ah xs p.1).1,(ah xs p.1).2.1,(ah xs p.1).2.2.1,(ah xs p.1).2.2.2.1,(ah xs p.1).2.2.2.2.set p.2.toNat a):=by
   rw[eF,if_pos ⟨h,by omega⟩]
  have k2:ah (aL xs q b) p.1=((ah xs q.1).1,(ah xs q.1).2.1,(ah xs q.1).2.2.1,(ah xs q.1).2.2.2.1,(ah xs q.1).2.2.2.2.set q.2.toNat b):=by
   rw[eF,if_pos ⟨h.symm,by omega⟩]
  rw[show aL (aL xs p a) q b=(aL xs p a).set q.1.toNat ((ah (aL xs p a) q.1).1,(ah (aL xs p a) q.1).2.1,(ah (aL xs p a) q.1).2.2.1,(ah (aL xs p a) q.1).2.2.2.1,(ah (aL xs p a) q.1).2.2.2.2.set q.2.toNat b) from rfl,show aL (aL xs q b) p a=(aL xs q b).set p.1.toNat ((ah (aL xs q b) p.1).1,(ah (aL xs q b) p.1).2.1,(ah (aL xs q b) p.1).2.2.1,(ah (aL xs q b) p.1).2.2.2.1,(ah (aL xs q b) p.1).2.2.2.2.set p.2.toNat a) from rfl,k1,k2];unfold aL;rw[h,List.set_set,List.set_set,e]
  simp only[];rw[List.set_comm _ _ h2]
 ·have k1:ah (aL xs p a) q.1=ah xs q.1:=by rw[eF,if_neg fun hh=>h hh.1]
  have k2:ah (aL xs q b) p.1=ah xs p.1:=by rw[eF,if_neg fun hh=>h hh.1.symm]
  rw[show aL (aL xs p a) q b=(aL xs p a).set q.1.toNat ((ah (aL xs p a) q.1).1,(ah (aL xs p a) q.1).2.1,(ah (aL xs p a) q.1).2.2.1,(ah (aL xs p a) q.1).2.2.2.1,(ah (aL xs p a) q.1).2.2.2.2.set q.2.toNat b) from rfl,show aL (aL xs q b) p a=(aL xs q b).set p.1.toNat ((ah (aL xs q b) p.1).1,(ah (aL xs q b) p.1).2.1,(ah (aL xs q b) p.1).2.2.1,(ah (aL xs q b) p.1).2.2.2.1,(ah (aL xs q b) p.1).2.2.2.2.set p.2.toNat a) from rfl,k1,k2];unfold aL;rw[List.set_comm _ _ h]
theorem uP{xs:List aj}{p q:aD}(hp:ak xs p)(hq:ak xs q):bL xs p q=bL xs q p:=by
 by_cases h:p=q
 ·rw[h]
 ·unfold bL;exact kX hp hq h
def jd(d:List Int)(i:Int):Int:=elt (dflt (.int .i64)) d i
def bG(xs:List aj)(x y:Int):List aj:=
 bif (ah xs y).1==7 then dA (dA (xs++[bg 8 (ah xs y).2.1 (ah xs y).2.2.1 [(ah xs x).2.2.1] 2]) (y,1) ((xs.length:Nat),0)) (y,2) ((xs.length:Nat),1)
 else dA (xs++[bg 6 0 (wK (ah xs y).2.2.1 (jd (ah xs y).2.2.2.1 0) (ah xs x).2.2.1) [] 1]) (y,1) ((xs.length:Nat),0)
def Ba:aj:=(0,0,0,[],[])
def bC(xs:List aj)(a:Int):List aj:=xs.set a.toNat Ba
def ni(x c d:Int)(xs:List aj)(i:Nat):List aj:=bL (bL (xs++[bg 4 (ah xs x).2.1 0 [] 3]) ((xs.length:Nat),1) (c,(i:Nat))) ((xs.length:Nat),2) (d,(i:Nat))
def dF(x c d:Int)(xs:List aj):Nat→List aj
 |0=>xs
 |k+1=>ni x c d (dF x c d xs k) (k+1)
def cO(y:Int)(b:Nat)(xs:List aj):Nat→List aj
 |0=>xs
 |k+1=>dA (cO y b xs k) (y,((k:Nat):Int)+1) (((b+k:Nat):Int),0)
def lq(xs:List aj)(y:Int):aj:=bg (ah xs y).1 (ah xs y).2.1 (ah xs y).2.2.1 (ah xs y).2.2.2.1 (ah xs y).2.2.2.2.length
def dup2(xs:List aj)(y:Int):List aj:=xs++[lq xs y]++[lq xs y]
def dup3(xs:List aj)(x y:Int):List aj:=dF x ((xs.length:Nat)) ((xs.length+1:Nat)) (dup2 xs y) ((ah xs y).2.2.2.2.length-1)
def kE(xs:List aj)(x y:Int):List aj:=dA (dA (dup3 xs x y) (x,1) ((xs.length:Nat),0)) (x,2) ((xs.length+1:Nat),0)
def bH(xs:List aj)(x y:Int):List aj:=cO y (xs.length+2) (kE xs x y) ((ah xs y).2.2.2.2.length-1)
def je(b k:Nat):List Int:=(List.range k).map fun j=>((b+j:Nat):Int)
theorem Co(b k:Nat):je b (k+1)=je b k++[((b+k:Nat):Int)]:=by simp[je,List.range_succ]
theorem lQ(b k:Nat):(je b k).length=k:=by simp[je]
theorem E9{b k m:Nat}(h:k<m):elt (0:Int) (je b m) (k:Nat)=((b+k:Nat):Int):=by
 unfold elt je;rw[qK,qC,qY,List.getElem?_range h];rfl
theorem KC(x c d:Int)(xs:List aj)(i:Nat):(ni x c d xs i).length=xs.length+1:=by unfold ni;rw[jf,jf,qA];rfl
theorem iM(x c d:Int)(xs:List aj):∀k,(dF x c d xs k).length=xs.length+k
 |0=>rfl
 |k+1=>by unfold dF;rw[KC,iM x c d xs k];omega
theorem EW{x c d:Int}{xs:List aj}{i:Nat}{p:aD}(h:ak xs p):ak (ni x c d xs i) p:=h.app.link.link
theorem bV{x c d:Int}{xs:List aj}{p:aD}(h:ak xs p):∀k,ak (dF x c d xs k) p
 |0=>h
 |k+1=>EW (bV h k)
theorem KA{x c d:Int}{xs:List aj}{i:Nat}(h:bf xs)(h0:ak xs (0,0))(hc:ak xs (c,(i:Nat)))(hd:ak xs (d,(i:Nat))):bf (ni x c d xs i):=
 ((h.add h0 4 (ah xs x).2.1 0 [] 3).link (ak.new (by decide) (by decide)) hc.app).link (ak.link (ak.new (by decide) (by decide))) hd.app.link
theorem lM{x c d:Int}{xs:List aj}(h:bf xs)(h0:ak xs (0,0)):∀k,(∀i:Nat,i≤k→ak xs (c,(i:Nat))∧ak xs (d,(i:Nat)))→bf (dF x c d xs k)
 |0,_=>h
 |k+1,hk=>KA (lM h h0 k fun i hi=>hk i (by omega)) (bV h0 k) (bV (hk (k+1) (Nat.le_refl _)).1 k) (bV (hk (k+1) (Nat.le_refl _)).2 k)
theorem yX(y:Int)(b:Nat)(xs:List aj):∀k,(cO y b xs k).length=xs.length
 |0=>rfl
 |k+1=>by unfold cO;rw[jk,yX y b xs k]
theorem fF{y:Int}{b:Nat}{xs:List aj}{p:aD}(h:ak xs p):∀k,ak (cO y b xs k) p
 |0=>h
 |k+1=>(fF h k).move
theorem kF{y:Int}{b:Nat}{xs:List aj}(h:bf xs):∀k,(∀i:Nat,i<k→ak xs (y,((i:Nat):Int)+1)∧ak xs (((b+i:Nat):Int),0))→bf (cO y b xs k)
 |0,_=>h
 |k+1,hk=>(kF h k fun i hi=>hk i (by omega)).move (fF (hk k (by omega)).1 k) (fF (hk k (by omega)).2 k)
theorem gK(xs:List aj)(y:Int):(dup2 xs y).length=xs.length+2:=by unfold dup2;simp
theorem mD{xs:List aj}{y:Int}{p:aD}(h:ak xs p):ak (dup2 xs y) p:=h.app.app
theorem qb{xs:List aj}{y:Int}{i:Int}(h0:0≤i)(h1:i<((ah xs y).2.2.2.2.length:Nat)):ak (dup2 xs y) (((xs.length:Nat):Int),i):=(ak.new h0 h1).app
theorem qg{xs:List aj}{y:Int}{i:Int}(h0:0≤i)(h1:i<((ah xs y).2.2.2.2.length:Nat)):ak (dup2 xs y) (((xs.length+1:Nat):Int),i):=by
 have:=ak.new (xs:=xs++[lq xs y]) (k:=(ah xs y).1) (l:=(ah xs y).2.1) (v:=(ah xs y).2.2.1) (d:=(ah xs y).2.2.2.1) h0 h1;rw[qA,qJ]at this;exact this
theorem vZ{xs:List aj}{y:Int}(h:bf xs)(h0:ak xs (0,0)):bf (dup2 xs y):=(h.add h0 _ _ _ _ _).add h0.app _ _ _ _ _
theorem qh{x:Int}{c d:Int}{xs:List aj}:∀{k i:Nat},i<k→ak (dF x c d xs k) (((xs.length+i:Nat):Int),0)
 |0,i,h=>by omega
 |k+1,i,h=>by
  by_cases e:i=k
  ·subst e;have h2:=(ak.new (xs:=dF x c d xs i) (k:=4) (l:=(ah (dF x c d xs i) x).2.1) (v:=0) (d:=[]) (n:=3) (s:=0) (by decide) (by decide)).link (p:=(((dF x c d xs i).length:Nat),1)) (q:=(c,((i+1:Nat):Int)));have h3:=h2.link (p:=(((dF x c d xs i).length:Nat),2)) (q:=(d,((i+1:Nat):Int)));rw[iM]at h3;unfold dF ni;rw[iM];exact h3
  ·exact EW (qh (by omega))
def iO(b:Nat):Nat→aD
 |0=>(((b-1:Nat):Int),0)
 |k+1=>(((b+k:Nat):Int),2)
def pK(lv:Int)(b:Nat)(xs:List aj):Nat→List aj
 |0=>xs
 |k+1=>bL (pK lv b xs k++[bg 3 lv 0 [] 3]) (((b+k:Nat):Int),0) (iO b k)
def BX(x:Int)(b:Nat)(xs:List aj):Nat→List aj
 |0=>xs
 |k+1=>dA (BX x b xs k) (x,((k:Nat):Int)+1) (((b+k:Nat):Int),1)
def bD(xs:List aj)(y i:Int):List aj:=xs++[bg 12 (ah xs y).2.1 (jd (ah xs y).2.2.2.1 i) [] 1]
def jP(xs:List aj)(x y:Int):List aj:=
 bif (ah xs x).1==6 then dA (bD xs y (bif (ah xs x).2.2.1==0 then 1 else 0)) (y,1) ((xs.length:Nat),0)
 else dA (BX x (xs.length+1) (pK (ah xs y).2.1 (xs.length+1) (bD xs y (ah xs x).2.2.1) ((ah xs x).2.2.2.2.length-1)) ((ah xs x).2.2.2.2.length-1)) (y,1) (iO (xs.length+1) ((ah xs x).2.2.2.2.length-1))
theorem wV(lv:Int)(b:Nat)(xs:List aj):∀k,(pK lv b xs k).length=xs.length+k
 |0=>rfl
 |k+1=>by unfold pK;rw[jf,qA,wV lv b xs k];simp;omega
theorem BZ{lv:Int}{b:Nat}{xs:List aj}{p:aD}(h:ak xs p):∀k,ak (pK lv b xs k) p
 |0=>h
 |k+1=>(BZ h k).app.link
theorem yQ{lv:Int}{xs:List aj}{s:Int}(h0:0≤s)(h1:s<3):∀{k i:Nat},i<k→ak (pK lv xs.length xs k) (((xs.length+i:Nat):Int),s)
 |0,i,h=>by omega
 |k+1,i,h=>by
  by_cases e:i=k
  ·subst e;have:=(ak.new (xs:=pK lv xs.length xs i) (k:=3) (l:=lv) (v:=0) (d:=[]) (n:=3) h0 (by omega)).link (p:=(((xs.length+i:Nat):Int),0)) (q:=iO xs.length i);rw[wV]at this;exact this
  ·exact(yQ h0 h1 (by omega:i<k)).app.link
theorem EO{lv:Int}{xs:List aj}(hr:ak xs (iO xs.length 0)):∀k,ak (pK lv xs.length xs k) (iO xs.length k)
 |0=>hr
 |k+1=>yQ (by decide) (by decide) (Nat.lt_succ_self k)
theorem Gj{lv:Int}{xs:List aj}(h:bf xs)(h0:ak xs (0,0))(hr:ak xs (iO xs.length 0)):∀k,bf (pK lv xs.length xs k)
 |0=>h
 |k+1=>by
  unfold pK;have:=ak.new (xs:=pK lv xs.length xs k) (k:=3) (l:=lv) (v:=0) (d:=[]) (n:=3) (s:=0) (by decide) (by decide);rw[wV]at this;exact((Gj h h0 hr k).add (BZ h0 k) _ _ _ _ _).link this (EO hr k).app
theorem LW(x:Int)(b:Nat)(xs:List aj):∀k,(BX x b xs k).length=xs.length
 |0=>rfl
 |k+1=>by unfold BX;rw[jk,LW x b xs k]
theorem mg{x:Int}{b:Nat}{xs:List aj}{p:aD}(h:ak xs p):∀k,ak (BX x b xs k) p
 |0=>h
 |k+1=>(mg h k).move
theorem BH{x:Int}{b:Nat}{xs:List aj}(h:bf xs):∀k,(∀i:Nat,i<k→ak xs (x,((i:Nat):Int)+1)∧ak xs (((b+i:Nat):Int),1))→bf (BX x b xs k)
 |0,_=>h
 |k+1,hk=>(BH h k fun i hi=>hk i (by omega)).move (mg (hk k (by omega)).1 k) (mg (hk k (by omega)).2 k)
theorem pO(xs:List aj)(y i:Int):(bD xs y i).length=xs.length+1:=by simp[bD]
def fK(b:Int)(xs:List aj)(i:Nat):List aj:=(xs.take i).map (iU b)++xs.drop i
theorem nJ(b:Int)(xs:List aj)(i:Nat):(fK b xs i).length=xs.length:=by unfold fK;simp;omega
theorem DJ{b:Int}{xs:List aj}{i:Nat}(h:i<xs.length):ah (fK b xs i) (i:Nat)=ah xs (i:Nat):=by
 unfold ah elt fK;rw[qK,qC,qC,qL (by simp;omega)];simp;rw[show i-min i xs.length=0 by omega,Nat.add_zero]
theorem oN{xs:List aj}{i:Nat}(h:i<xs.length):ah xs (i:Nat)=xs[i]:=by
 unfold ah elt;rw[qK,qC,qB h];rfl
theorem yx{b:Int}{xs:List aj}{i:Nat}(h:i<xs.length):fK b xs (i+1)=(fK b xs i).set i (iU b (ah xs (i:Nat))):=by
 unfold fK;rw[List.set_append_right _ _ (by simp;omega),List.take_add_one,qB h,qZ,oN h];have e:i-((xs.take i).map (iU b)).length=0:=by simp;omega
 rw[e,List.drop_eq_getElem_cons h,List.set_cons_zero];simp
theorem DK{b:Int}{xs:List aj}{i:Nat}(h:i<xs.length)(hk:bR (ah xs (i:Nat)).1=false):fK b xs (i+1)=fK b xs i:=by
 rw[yx h]
 have:iU b (ah xs (i:Nat))=ah (fK b xs i) (i:Nat):=by
  rw[DJ h];unfold iU;rw[show bR (ah xs (i:Nat)).kind=false from hk];rfl
 rw[this,oN (by rw[nJ];exact h)];exact List.set_getElem_self _
theorem mM{b:Int}{xs:List aj}{i:Nat}(h:i<xs.length):fP b (xs.take (i+1))=(fP b (xs.take i)&&(!(bR (ah xs (i:Nat)).1)||decide ((ah xs (i:Nat)).2.1+b≤8))):=by
 unfold fP;rw[List.take_add_one,qB h,List.all_append,oN h];simp
theorem HZ{b:Int}{xs:List aj}(h:fP b xs=true)(i:Nat):fP b (xs.take i)=true:=by
 unfold fP at h ⊢;rw[List.all_eq_true]at h ⊢;exact fun x hx=>h x (List.mem_of_mem_take hx)
abbrev Yf:U:=.pair bO (.pair (.sl bO) .any)
def bP(bk:List (List aj))(i:Int):List aj:=elt ([]:List aj) bk i
def checkN(bk:List (List aj))(xs:List aj)(p:Int×Int):Int×Int×Int×Int:=
 let c:=bJ (ah xs p.1) (ah xs p.2)
 let x:=bif c.2 then p.2 else p.1
 let y:=bif c.2 then p.1 else p.2
 bif c.1==8 then(0,0,0,11)else
 bif c.1==7 then(bif decide ((bk.length:Int)≤(ah xs x).2.2.1)then(0,0,0,3)else bif !(fP (ah xs x).2.1 (bP bk (ah xs x).2.2.1))then(0,0,0,9)else(c.1,x,y,0))
 else(c.1,x,y,0)
def r9(bk:List (List aj))(xs:List aj)(c x y:Int):Int:=
 (dG c (bif c==3 then IntKind.i64.wrap (((ah xs y).2.2.2.2.length:Nat)-1)else bif c==4 then IntKind.i64.wrap (((ah xs y).2.2.2.2.length:Nat)-1)
  else bif c==6 then(bif (ah xs x).1==9 then IntKind.i64.wrap (((ah xs x).2.2.2.2.length:Nat)-1)else 0)else bif c==7 then((bP bk (ah xs x).2.2.1).length:Nat)else 0)).1
def rV(y:Int)(xs:List aj):Nat→List aj
 |0=>xs
 |k+1=>dA (rV y xs k++[bg 5 0 0 [] 1]) (y,((k+1:Nat):Int)) (((xs.length+k:Nat):Int),0)
def ig(xs:List aj)(y:Int):List aj:=rV y xs ((ah xs y).2.2.2.2.length-1)
theorem jQ(y:Int)(xs:List aj):∀k,(rV y xs k).length=xs.length+k
 |0=>rfl
 |k+1=>by unfold rV;rw[jk,qA,jQ y xs k];simp;omega
theorem oh{y:Int}{xs:List aj}{p:aD}(h:ak xs p):∀k,ak (rV y xs k) p
 |0=>h
 |k+1=>(oh h k).app.move
theorem yZ{y:Int}{xs:List aj}(k:Nat):ak (rV y xs k++[bg 5 0 0 [] 1]) (((xs.length+k:Nat):Int),0):=by
 have:=ak.new (xs:=rV y xs k) (k:=5) (l:=0) (v:=0) (d:=[]) (n:=1) (s:=0) (by decide) (by decide)
 rwa[jQ]at this
theorem wZ{y:Int}{xs:List aj}(h:bf xs)(h0:ak xs (0,0)):∀k,(∀i:Nat,i<k→ak xs (y,((i+1:Nat):Int)))→bf (rV y xs k)
 |0,_=>h
 |k+1,hk=>((wZ h h0 k fun i hi=>hk i (by omega)).add (oh h0 k) _ _ _ _ _).move (oh (hk k (by omega)) k).app (yZ k)
theorem Lc(xs:List aj)(p q:aD)(i:Int):(ah (bL xs p q) i).2.2.2.2.length=(ah xs i).2.2.2.2.length:=by
 unfold bL;have h1:=nS (aL xs p q) q p i;have h2:=nS xs p q i;exact h1.trans h2
theorem E8{y:Int}{xs:List aj}(hy:y.toNat<xs.length):∀k,(ah (rV y xs k) y).2.2.2.2.length=(ah xs y).2.2.2.2.length
 |0=>rfl
 |k+1=>by
  unfold rV dA;rw[Lc,dw (by rw[jQ];omega),E8 hy k]
def FY(bk:List (List aj)):Prop:=∀i:Nat,(∀j:Nat,0≤(ah (bP bk i) j).2.1∧(ah (bP bk i) j).2.1≤8)
def bW(b:Int)(a:aj):aj:=(a.1,a.2.1,a.2.2.1,a.2.2.2.1,a.2.2.2.2.map fun p=>(p.1+b,p.2))
def kY(bk:List (List aj))(xs:List aj)(x:Int):List aj:=bY (ah xs x).2.1 (bP bk (ah xs x).2.2.1)
def mF(bk:List (List aj))(xs:List aj)(x y:Int):List aj:=
 bL (xs++((kY bk xs x).drop 1).map (bW ((xs.length:Nat)-1))) (y,0) ((au (kY bk xs x) (0,0)).1+((xs.length:Nat)-1),(au (kY bk xs x) (0,0)).2)
def gy(bk:List (List aj))(xs:List aj)(c x y:Int):List aj:=
 bif c==1 then aV (aV xs (x,1) (y,1)) (x,2) (y,2)else bif c==2 then aV (aV xs (x,1) (y,1)) (x,2) (y,2)
 else bif c==3 then bH xs x y else bif c==4 then ig xs y else bif c==5 then bG xs x y else bif c==6 then jP xs x y else bif c==7 then mF bk xs x y else xs
def gD(c x y:Int):List Int:=bif c==7 then[x]else[x,y]
structure IntPre(xs:List aj)(c x y:Int):Prop where
 x0:0≤x∧x<(xs.length:Nat)
 y0:0≤y∧y<(xs.length:Nat)
 c12:c=1∨c=2→ak xs (x,1)∧ak xs (x,2)∧ak xs (y,1)∧ak xs (y,2)
 c3:c=3→ak xs (x,1)∧ak xs (x,2)
 px:0<(ah xs x).2.2.2.2.length∧(ah xs x).2.2.2.2.length≤1000
 py:0<(ah xs y).2.2.2.2.length∧(ah xs y).2.2.2.2.length≤1000
 dy:(ah xs y).2.2.2.1.length≤1000000
 c5:c=5→ak xs (y,1)∧((ah xs y).1=7→ak xs (y,2))∧((ah xs y).1≠7→0<(ah xs y).2.2.2.1.length)
 c6:c=6→ak xs (y,1)∧((ah xs x).1=6→(ah xs y).2.2.2.1.length=2)∧((ah xs x).1≠6→0≤(ah xs x).2.2.1∧(ah xs x).2.2.1<((ah xs y).2.2.2.1.length:Nat))
def oC(lv x:Int)(b:Nat)(xs:List aj):Nat→List aj
 |0=>xs
 |k+1=>dA (bL (oC lv x b xs k++[bg 3 lv 0 [] 3]) (iO b k) (((b+k:Nat):Int),0)) (x,((k+1:Nat):Int)) (((b+k:Nat):Int),1)
def dx(xs:List aj)(x y:Int):List aj:=
 bif (ah xs y).1==11 then dA (bD xs y (bif (ah xs x).2.2.1==0 then 1 else 0)) (y,1) ((xs.length:Nat),0)
 else dA (oC (ah xs y).2.1 x (xs.length+1) (bD xs y (ah xs x).2.2.1) ((ah xs x).2.2.2.2.length-1)) (y,1) (iO (xs.length+1) ((ah xs x).2.2.2.2.length-1))
theorem oQ(lv x:Int)(b:Nat)(xs:List aj):∀k,(oC lv x b xs k).length=xs.length+k
 |0=>rfl
 |k+1=>by unfold oC;rw[jk,jf,qA,oQ lv x b xs k];simp;omega
theorem mh{lv x:Int}{b:Nat}{xs:List aj}{p:aD}(h:ak xs p):∀k,ak (oC lv x b xs k) p
 |0=>h
 |k+1=>(mh h k).app.link.move
theorem L8{lv x:Int}{xs:List aj}{s:Int}(h0:0≤s)(h1:s<3):∀{k i:Nat},i<k→ak (oC lv x xs.length xs k) (((xs.length+i:Nat):Int),s)
 |0,i,h=>by omega
 |k+1,i,h=>by
  by_cases e:i=k
  ·subst e;have:=(ak.new (xs:=oC lv x xs.length xs i) (k:=3) (l:=lv) (v:=0) (d:=[]) (n:=3) h0 (by omega));rw[oQ]at this;exact this.link.move
  ·exact(L8 h0 h1 (by omega:i<k)).app.link.move
theorem vV{lv x:Int}{xs:List aj}(hr:ak xs (iO xs.length 0)):∀k,ak (oC lv x xs.length xs k) (iO xs.length k)
 |0=>hr
 |k+1=>L8 (by decide) (by decide) (Nat.lt_succ_self k)
theorem uJ{lv x:Int}{xs:List aj}(k:Nat){s:Int}(h0:0≤s)(h1:s<3):ak (oC lv x xs.length xs k++[bg 3 lv 0 [] 3]) (((xs.length+k:Nat):Int),s):=by
 have:=ak.new (xs:=oC lv x xs.length xs k) (k:=3) (l:=lv) (v:=0) (d:=[]) (n:=3) h0 (by omega)
 rwa[oQ]at this
theorem uK{lv x:Int}{xs:List aj}(h:bf xs)(h0:ak xs (0,0))(hr:ak xs (iO xs.length 0)):∀k,(∀i:Nat,i<k→ak xs (x,((i+1:Nat):Int)))→bf (oC lv x xs.length xs k)
 |0,_=>h
 |k+1,hk=>(((uK h h0 hr k fun i hi=>hk i (by omega)).add (mh h0 k) _ _ _ _ _).link (vV hr k).app (uJ k (by decide) (by decide))).move (mh (hk k (by omega)) k).app.link (uJ k (by decide) (by decide)).link
def wY(lab c d:Int)(xs:List aj)(i:Nat):List aj:=bL (bL (xs++[bg 4 lab 0 [] 3]) ((xs.length:Nat),1) (c,(i:Nat))) ((xs.length:Nat),2) (d,(i:Nat))
def aZ(lab c d:Int)(xs:List aj):Nat→List aj
 |0=>xs
 |k+1=>wY lab c d (aZ lab c d xs k) (k+1)
theorem Jl(xs:List aj)(p q:aD)(i:Int):(ah (bL xs p q) i).2.1=(ah xs i).2.1:=by
 unfold bL
 have h:∀(xs:List aj) (p q:aD),(ah (aL xs p q) i).2.1=(ah xs i).2.1:=fun xs p q=>by
  rw[eF];split
  ·rename_i h;rw[yL h.1.symm]
  ·rfl
 rw[h,h]
theorem j5{x c d:Int}{xs:List aj}(hx:x.toNat<xs.length):∀k,aZ (ah xs x).2.1 c d xs k=dF x c d xs k∧(ah (dF x c d xs k) x).2.1=(ah xs x).2.1
 |0=>⟨rfl,rfl⟩
 |k+1=>by
  obtain⟨h1,h2⟩:=j5 hx k (c:=c) (d:=d);refine⟨?_,?_⟩
  ·unfold aZ dF wY ni;rw[h1,h2]
  ·unfold dF ni;rw[Jl,Jl,dw (by rw[iM];omega),h2]
def sV(z:Int):Prop:=0≤z∧z≤1000000
def dQ(b:Int)(ps:List aD)(j:Nat):List aD:=(ps.take j).map (fun p=>(p.1+b,p.2))++ps.drop j
theorem iK(b:Int)(ps:List aD)(j:Nat):(dQ b ps j).length=ps.length:=by unfold dQ;simp;omega
theorem tT{b:Int}{ps:List aD}{j:Nat}(h:j<ps.length):elt (dflt aR) (dQ b ps j) (j:Nat)=elt (dflt aR) ps (j:Nat):=by
 unfold elt dQ;rw[qK,qC,qC,qL (by simp;omega)];simp;rw[show j-min j ps.length=0 by omega,Nat.add_zero]
theorem qz{b:Int}{ps:List aD}{j:Nat}(h:j<ps.length):dQ b ps (j+1)=(dQ b ps j).set j ((elt (dflt aR) ps (j:Nat)).1+b,(elt (dflt aR) ps (j:Nat)).2):=by
 have he:elt (dflt aR) ps (j:Nat)=ps[j]:=by
  unfold elt;rw[qK,qC,qB h];rfl
 unfold dQ;rw[List.set_append_right _ _ (by simp;omega),List.take_add_one,qB h,qZ,he];have e:j-((ps.take j).map fun p:aD=>(p.1+b,p.2)).length=0:=by simp;omega
 rw[e,List.drop_eq_getElem_cons h,List.set_cons_zero];simp
theorem tQ(b:Int)(ps:List aD):dQ b ps ps.length=ps.map fun p=>(p.1+b,p.2):=by unfold dQ;simp
def jq(lv b:Int)(t:List aj)(k:Nat):List aj:=(((bY lv t).drop 1).take k).map (bW b)
theorem w9{lv b:Int}{t:List aj}{k:Nat}(h:k+1<t.length):jq lv b t (k+1)=jq lv b t k++[bW b (iU lv (ah t ((k+1:Nat):Int)))]:=by
 unfold jq bY;rw[List.take_add_one,qZ,List.getElem?_drop,qY,oN h,show 1+k=k+1 by omega,qB h];rfl
theorem y8{lv b:Int}{t:List aj}{k:Nat}(h:k+1≤t.length):(jq lv b t k).length=k:=by unfold jq bY;simp;omega
def eU(t:List aj)(lv:Int)(xs:List aj)(y:Int):List aj:=
 bL (xs++jq lv ((xs.length:Nat)-1) t (t.length-1)) (((xs.length:Nat)-1)+(au t (0,0)).1,(au t (0,0)).2) (y,0)
def iB(x y:aj):Bool:=bif (bif x.1==9 then y.1==10 else false)then decide ((y.2.2.2.1.length:Int)≤x.2.2.1)else false
def mq(x y:aj):Bool:=bif (bif x.1==10 then y.1==9 else false)then decide ((x.2.2.2.1.length:Int)≤y.2.2.1)else false
def bF(x y:aj):Int:=bif iB x y then 8 else bif mq x y then 8 else aW x.1 x.2.1 y.1 y.2.1
def aC(xs:List aj)(a b:Int):Int×Int:=bif aX (ah xs a).1 (ah xs a).2.1 (ah xs b).1 (ah xs b).2.1==2 then(b,a)else(a,b)
def G5(a b:Int):Int:=bif decide (b<a)then a else b
def lu(t:List aj):Nat→Int
 |0=>0
 |k+1=>G5 (lu t k) (ah t (k:Nat)).2.1
def mG(x:aj):Int:=bif x.1==9 then IntKind.i64.wrap ((x.2.2.2.2.length:Nat)-1)else 0
def rE(bk:List (List aj))(c:Int)(x y:aj):Int:=
 bif c==3 then IntKind.i64.wrap ((y.2.2.2.2.length:Nat)-1)else bif c==4 then IntKind.i64.wrap ((y.2.2.2.2.length:Nat)-1)else bif c==6 then mG x else bif c==7 then((bP bk x.2.2.1).length:Nat)else 0
def gM(bk:List (List aj))(x y:aj):Int×Int:=
 bif bF x y==8 then(0,11)else
 bif bF x y==7 then(bif decide ((bk.length:Int)≤x.2.2.1)then(0,3)else bif decide (8<IntKind.i64.wrap (lu (bP bk x.2.2.1) (bP bk x.2.2.1).length+x.2.1))then(0,9)else((dG 7 (rE bk 7 x y)).1,0))
 else((dG (bF x y) (rE bk (bF x y) x y)).1,0)
def dh(xs:List aj):Nat→Nat
 |0=>0
 |k+1=>bif (ah xs (k:Nat)).1 !=0 then dh xs k+1 else dh xs k
theorem Fw(xs:List aj):∀k,dh xs k≤k
 |0=>Nat.le_refl _
 |k+1=>by
  have:=Fw xs k;unfold dh;cases ((ah xs (k:Nat)).1 !=0)<;>simp<;>omega
def iq(bk:List (List aj))(xs:List aj)(c x y:Int):List aj:=
 bif c==1 then aV (aV xs (x,1) (y,1)) (x,2) (y,2)else bif c==2 then aV (aV xs (x,1) (y,1)) (x,2) (y,2)
 else bif c==3 then bH xs x y else bif c==4 then ig xs y else bif c==5 then bG xs x y else bif c==6 then dx xs x y else bif c==7 then eU (bP bk (ah xs x).2.2.1) (ah xs x).2.1 xs y else xs
def fT(bk:List (List aj))(xs:List aj)(c x y:Int):List aj:=bif c==7 then bC (iq bk xs c x y) x else bC (bC (iq bk xs c x y) x) y
structure F9(xs:List aj)(c x y:Int):Prop extends IntPre xs c x y where
 k5:c=5→(ah xs y).1=7∨(ah xs y).1=8
 k6:c=6→((ah xs y).1=11→(ah xs y).2.2.2.1.length=2)∧((ah xs y).1≠11→0≤(ah xs x).2.2.1∧(ah xs x).2.2.1<((ah xs y).2.2.2.1.length:Nat)∧(ah xs x).1=9)
theorem Aa{xs:List aj}{a b:Int}{n:Int}(ha:0≤a∧a<n)(hb:0≤b∧b<n):(0≤(aC xs a b).1∧(aC xs a b).1<n)∧(0≤(aC xs a b).2∧(aC xs a b).2<n):=by
 unfold aC;cases aX (ah xs a).1 (ah xs a).2.1 (ah xs b).1 (ah xs b).2.1==2
 ·exact⟨ha,hb⟩
 ·exact⟨hb,ha⟩
theorem eO(xs:List aj)(a:Int):(bC xs a).length=xs.length:=List.length_set
theorem xK(xs:List aj)(x y:Int):xs.length≤(bH xs x y).length:=by
 unfold bH kE dup3;rw[yX,jk,jk,iM,gK];omega
theorem Bd(xs:List aj)(x y:Int):xs.length≤(bG xs x y).length:=by
 unfold bG;cases (ah xs y).1==7
 ·rw[qH,jk];simp
 ·rw[qG,jk,jk];simp
theorem Cb(xs:List aj)(x y:Int):xs.length≤(dx xs x y).length:=by
 unfold dx;cases (ah xs y).1==11
 ·rw[qH,jk,oQ];unfold bD;simp;omega
 ·rw[qG,jk];unfold bD;simp
def iy(L:aD→Prop)(xs:List aj):Prop:=∀p,L p→ak xs p∧L (au xs p)∧au xs (au xs p)=p∧au xs p≠p
theorem iy.congr{L M:aD→Prop}{xs:List aj}(h:iy L xs)(e:∀p,M p↔L p):iy M xs:=fun p hp=>by
 obtain⟨h1,h2,h3⟩:=h p ((e p).1 hp);exact⟨h1,(e _).2 h2,h3⟩
theorem iy.cut{L:aD→Prop}{xs:List aj}(h:iy L xs){a:aD}(ha:L a):iy (fun p=>L p∧p≠a∧p≠au xs a) xs:=fun p ⟨hp,h1,h2⟩=>by
 obtain⟨k1,k2,k3,k4⟩:=h p hp;refine⟨k1,⟨k2,fun e=>h2 (by rw[←e,k3]),fun e=>h1 ?_⟩,k3,k4⟩;have:=congrArg (au xs) e;rw[k3,(h a ha).2.2.1]at this;exact this
theorem dW{p q:aD}(h1:p.1=q.1)(h2:p.2=q.2):p=q:=by cases p;cases q;simp_all
theorem iy.link{L:aD→Prop}{xs:List aj}(h:iy L xs){p q:aD}(hp:ak xs p)(hq:ak xs q)(np:¬L p)(nq:¬L q)(hpq:p≠q):iy (fun r=>L r∨r=p∨r=q) (bL xs p q):=fun r hr=>by
 have key:∀s,L s→ak xs s∧s≠p∧s≠q:=fun s hs=>⟨(h s hs).1,fun e=>np (e▸hs),fun e=>nq (e▸hs)⟩
 rcases hr with hr|rfl|rfl
 ·obtain⟨h1,h2,h3,h5⟩:=h r hr;obtain⟨_,n1,n2⟩:=key r hr;obtain⟨h4,n3,n4⟩:=key _ h2;have e1:au (bL xs p q) r=au xs r:=by rw[jC hp hq h1,if_neg n2.symm,if_neg n1.symm]
  refine⟨h1.link,?_,?_,?_⟩
  ·rw[e1];exact .inl h2
  ·rw[e1,jC hp hq h4,if_neg n4.symm,if_neg n3.symm,h3]
  ·rw[e1];exact h5
 ·have e1:au (bL xs r q) r=q:=by rw[jC hp hq hp,if_neg hpq.symm,if_pos rfl]
  have e2:au (bL xs r q) q=r:=by rw[jC hp hq hq,if_pos rfl]
  exact⟨hp.link,by rw[e1];exact .inr (.inr rfl),by rw[e1,e2],by rw[e1];exact hpq.symm⟩
 ·have e1:au (bL xs p r) r=p:=by rw[jC hp hq hq,if_pos rfl]
  have e2:au (bL xs p r) p=r:=by rw[jC hp hq hp,if_neg hpq.symm,if_pos rfl]
  exact⟨hq.link,by rw[e1];exact .inr (.inl rfl),by rw[e1,e2],by rw[e1];exact hpq⟩
theorem iy.move{L:aD→Prop}{xs:List aj}(h:iy L xs){old now:aD}(ho:L old)(hn:ak xs now)(nn:¬L now):iy (fun r=>(L r∧r≠old)∨r=now) (dA xs old now):=by
 obtain⟨h1,h2,h3,h4⟩:=h old ho;have hne:au xs old≠now:=fun e=>nn (e▸h2)
 have:=(h.cut ho).link (p:=au xs old) (q:=now) (h _ h2).1 hn (fun e=>e.2.2 rfl) (fun e=>nn e.1) hne;refine this.congr fun r=> ?_
 constructor
 ·rintro(⟨k1,k2⟩|rfl)
  ·by_cases e:r=au xs old
   ·exact .inr (.inl e)
   ·exact .inl ⟨k1,k2,e⟩
  ·exact .inr (.inr rfl)
 ·rintro(⟨k1,k2,k3⟩|rfl|rfl)
  ·exact .inl ⟨k1,k2⟩
  ·exact .inl ⟨h2,h4⟩
  ·exact .inr rfl
theorem iy.join{L:aD→Prop}{xs:List aj}(h:iy L xs){x y:aD}(hx:L x)(hy:L y)(hxy:x≠y):iy (fun r=>L r∧r≠x∧r≠y) (aV xs x y):=by
 obtain⟨h1,h2,h3,h4⟩:=h x hx;obtain⟨k1,k2,k3,k4⟩:=h y hy;unfold aV
 by_cases e:au xs x=y
 ·rw[show((au xs x).1==y.1&&(au xs x).2==y.2)=true by rw[e];simp];refine(h.cut hx).congr fun r=> ?_
  rw[e]
 ·rw[show((au xs x).1==y.1&&(au xs x).2==y.2)=false by
   cases hb:((au xs x).1==y.1&&(au xs x).2==y.2)with
   |false=>rfl
   |true=>
    simp only[qD,beq_iff_eq]at hb;exact absurd (dW hb.1 hb.2) e]
  rw[qH];have hyx:au xs y≠x:=fun h=>e (by rw[←h,k3])
  have hpp:au xs x≠au xs y:=fun h=>hxy (by rw[←h3,h,k3])
  have c1:=h.cut hx;have hy':L y∧y≠x∧y≠au xs x:=⟨hy,hxy.symm,fun h=>e h.symm⟩;have c2:=c1.cut (a:=y) hy';have:=c2.link (p:=au xs x) (q:=au xs y) (h _ h2).1 (h _ k2).1 (fun h=>h.1.2.2 rfl) (fun h=>h.2.2 rfl) hpp;refine this.congr fun r=> ?_
  constructor
  ·rintro⟨q1,q2,q3⟩
   by_cases e1:r=au xs x
   ·exact .inr (.inl e1)
   by_cases e2:r=au xs y
   ·exact .inr (.inr e2)
   ·exact .inl ⟨⟨q1,q2,e1⟩,q3,e2⟩
  ·rintro(⟨⟨q1,q2,q3⟩,q4,q5⟩|rfl|rfl)
   ·exact⟨q1,q2,q4⟩
   ·exact⟨h2,h4,e⟩
   ·exact⟨k2,hyx,k4⟩
theorem iy.app{L:aD→Prop}{xs:List aj}(h:iy L xs)(zs:List aj):iy L (xs++zs):=fun p hp=>by
 obtain⟨h1,h2,h3,h4⟩:=h p hp;have lt:∀{q:aD},ak xs q→q.1.toNat<xs.length:=fun {q} hq=>by have:=hq.1;have:=hq.2.1;omega
 have e1:=nI (ys:=zs) (lt h1);exact⟨h1.app,by rw[e1];exact h2,by rw[e1,nI (lt (h _ h2).1),h3],by rw[e1];exact h4⟩
def Agree(D:Int→Prop)(xs ys:List aj):Prop:=xs.length=ys.length∧∀i:Int,0≤i→i<(xs.length:Nat)→¬D i→ah xs i=ah ys i
theorem Agree.port{D:Int→Prop}{xs ys:List aj}(h:Agree D xs ys){p:aD}(hp:ak xs p)(hd:¬D p.1):ak ys p∧au ys p=au xs p:=by
 obtain⟨p1,p2,p3,p4⟩:=hp;have e:=h.2 p.1 p1 p2 hd;exact⟨⟨p1,by rw[←h.1];exact p2,p3,by rw[←e];exact p4⟩,by unfold au;rw[e]⟩
theorem Agree.setPort{D:Int→Prop}{xs ys:List aj}(h:Agree D xs ys){p:aD}(q:aD)(hp:ak xs p)(hd:¬D p.1):Agree D (aL xs p q) (aL ys p q):=by
 refine⟨by rw[cK,cK];exact h.1,fun i h0 h1 hi=> ?_⟩;rw[cK]at h1;rw[eF,eF,h.2 p.1 hp.1 hp.2.1 hd,h.2 i h0 h1 hi,h.1]
theorem Agree.link{D:Int→Prop}{xs ys:List aj}(h:Agree D xs ys){p q:aD}(hp:ak xs p)(hq:ak xs q)(dp:¬D p.1)(dq:¬D q.1):Agree D (bL xs p q) (bL ys p q):=(h.setPort q hp dp).setPort p hq.set dq
theorem Agree.app{D:Int→Prop}{xs ys:List aj}(h:Agree D xs ys)(zs:List aj):Agree D (xs++zs) (ys++zs):=by
 refine⟨by rw[qA,qA,h.1],fun i h0 h1 hi=> ?_⟩;rw[qA]at h1
 by_cases hl:i<(xs.length:Nat)
 ·rw[dw (by omega),dw (by rw[←h.1];omega)];exact h.2 i h0 hl hi
 ·have:∀ws:List aj,ws.length=xs.length→ah (ws++zs) i=zs.getD (i.toNat-xs.length) (dflt aG):=fun ws hw=>by
   unfold ah elt;rw[qC,qL (by omega),hw,qC]
  rw[this xs rfl,this ys h.1.symm]
theorem Agree.mono{D E:Int→Prop}{xs ys:List aj}(h:Agree D xs ys)(k:∀i,D i→E i):Agree E xs ys:=⟨h.1,fun i h0 h1 hi=>h.2 i h0 h1 fun hd=>hi (k i hd)⟩
theorem Agree.drop{D:Int→Prop}{xs ys:List aj}(h:Agree D xs ys){a:Int}(h0:0≤a)(hd:D a):Agree D xs (bC ys a):=by
 refine⟨by unfold bC;rw[List.length_set];exact h.1,fun i i0 i1 hi=> ?_⟩;unfold bC;rw[kQ,if_neg (fun e=>hi (by(have:i=a:=by omega);rw[this];exact hd))];exact h.2 i i0 i1 hi
structure vE(D:Int→Prop)(L:aD→Prop)(xs ys:List aj):Prop where
 ag:Agree D xs ys
 wi:iy L xs
 al:∀p,L p→¬D p.1
section
variable {D:Int→Prop}{L:aD→Prop}{xs ys:List aj}
theorem vE.peer(h:vE D L xs ys){p:aD}(hp:L p):au ys p=au xs p:=(h.ag.port (h.wi p hp).1 (h.al p hp)).2
theorem vE.move(h:vE D L xs ys){old now:aD}(ho:L old)(hn:ak xs now)(nn:¬L now)(dn:¬D now.1):vE D (fun r=>(L r∧r≠old)∨r=now) (dA xs old now) (dA ys old now):=by
 refine⟨?_,h.wi.move ho hn nn,fun p hp=> ?_⟩
 ·unfold dA;rw[h.peer ho];exact h.ag.link (h.wi _ (h.wi _ ho).2.1).1 hn (h.al _ (h.wi _ ho).2.1) dn
 ·rcases hp with hp|rfl
  ·exact h.al p hp.1
  ·exact dn
theorem vE.join(h:vE D L xs ys){x y:aD}(hx:L x)(hy:L y)(hxy:x≠y):vE D (fun r=>L r∧r≠x∧r≠y) (aV xs x y) (aV ys x y):=by
 refine⟨?_,h.wi.join hx hy hxy,fun p hp=>h.al p hp.1⟩;unfold aV;rw[h.peer hx,h.peer hy];cases ((au xs x).1==y.1&&(au xs x).2==y.2)with
 |true=>exact h.ag
 |false=>exact h.ag.link (h.wi _ (h.wi _ hx).2.1).1 (h.wi _ (h.wi _ hy).2.1).1 (h.al _ (h.wi _ hx).2.1) (h.al _ (h.wi _ hy).2.1)
theorem vE.link(h:vE D L xs ys){p q:aD}(hp:ak xs p)(hq:ak xs q)(np:¬L p)(nq:¬L q)(hpq:p≠q)(dp:¬D p.1)(dq:¬D q.1):vE D (fun r=>L r∨r=p∨r=q) (bL xs p q) (bL ys p q):=by
 refine⟨h.ag.link hp hq dp dq,h.wi.link hp hq np nq hpq,fun r hr=> ?_⟩;rcases hr with hr|rfl|rfl
 ·exact h.al r hr
 ·exact dp
 ·exact dq
theorem vE.app(h:vE D L xs ys)(zs:List aj):vE D L (xs++zs) (ys++zs):=⟨h.ag.app zs,h.wi.app zs,h.al⟩
theorem vE.congr(h:vE D L xs ys){M:aD→Prop}(e:∀p,M p↔L p):vE D M xs ys:=⟨h.ag,h.wi.congr e,fun p hp=>h.al p ((e p).1 hp)⟩
theorem vE.cut(h:vE D L xs ys){a:aD}(ha:L a):vE D (fun p=>L p∧p≠a∧p≠au xs a) xs ys:=⟨h.ag,h.wi.cut ha,fun p hp=>h.al p hp.1⟩
theorem vE.gone(h:vE D L xs ys)(a:Int)(h0:0≤a)(ha:∀p,L p→p.1≠a):vE (fun i=>D i∨i=a) L xs (bC ys a):=
 ⟨(h.ag.mono fun i hi=>.inl hi).drop h0 (.inr rfl),h.wi,fun p hp e=>e.elim (h.al p hp) (ha p hp)⟩
end
end Go.Tr
namespace Go.Tr
open Go Go.RowKit
def Live(D:Int→Prop)(xs:List aj):aD→Prop:=fun p=>ak xs p∧¬D p.1
def St(D:Int→Prop)(xs ys:List aj):Prop:=vE D (Live D xs) xs ys
theorem ak.jh{xs:List aj}{p q r:aD}:ak (bL xs p q) r↔ak xs r:=⟨ak.unlink,ak.link⟩
theorem ak.jl{xs:List aj}{p q r:aD}:ak (dA xs p q) r↔ak xs r:=ak.jh
theorem ak.Jg{xs:List aj}{p q r:aD}:ak (aV xs p q) r↔ak xs r:=by
 unfold aV;cases ((au xs p).1==q.1&&(au xs p).2==q.2)with
 |true=>exact Iff.rfl
 |false=>exact ak.jh
theorem ak.dR{xs:List aj}{a:aj}{r:aD}:ak (xs++[a]) r↔ak xs r∨(r.1=(xs.length:Nat)∧0≤r.2∧r.2<(a.aH.length:Nat)):=by
 constructor
 ·rintro⟨h1,h2,h3,h4⟩;rw[qA,qJ]at h2
  by_cases hl:r.1.toNat<xs.length
  ·rw[dw hl]at h4;exact .inl ⟨h1,by omega,h3,h4⟩
  ·have e:r.1.toNat=xs.length:=by omega
   rw[pJ e]at h4;exact .inr ⟨by omega,h3,h4⟩
 ·rintro(h|⟨h1,h2,h3⟩)
  ·exact h.app
  ·refine⟨by omega,by rw[qA,qJ];omega,h2,?_⟩;rw[pJ (by omega)];exact h3
structure lG(D:Int→Prop)(xs:List aj)(x y:Int):Prop where
 ne:x≠y
 lx:¬D x
 ly:¬D y
 px:ak xs (x,0)
 py:ak xs (y,0)
 w:au xs (x,0)=(y,0)
section
variable {D:Int→Prop}{xs ys:List aj}{x y:Int}
theorem St.open_(h:St D xs ys)(k:lG D xs x y):vE D (fun p=>(ak xs p∧¬D p.1)∧p≠(x,0)∧p≠(y,0)) xs ys:=by
 have:=h.cut (a:=(x,0)) ⟨k.px,k.lx⟩;rw[k.w]at this;exact this
theorem dI{a b s t:Int}(h:a≠b∨s≠t):((a,s):aD)≠(b,t):=fun e=>by
 injection e with e1 e2
 rcases h with h|h
 ·exact h e1
 ·exact h e2
theorem St.joins(h:St D xs ys)(k:lG D xs x y)(hx:(ah xs x).2.2.2.2.length=3)(hy:(ah xs y).2.2.2.2.length=3):
  St (fun i=>D i∨i=x∨i=y) (aV (aV xs (x,1) (y,1)) (x,2) (y,2)) (bC (bC (aV (aV ys (x,1) (y,1)) (x,2) (y,2)) x) y):=by
 have inx:∀s:Int,0≤s→s<3→ak xs (x,s):=fun s h0 h1=>⟨k.px.1,k.px.2.1,h0,by show s<((ah xs x).2.2.2.2.length:Nat);omega⟩
 have iny:∀s:Int,0≤s→s<3→ak xs (y,s):=fun s h0 h1=>⟨k.py.1,k.py.2.1,h0,by show s<((ah xs y).2.2.2.2.length:Nat);omega⟩
 have s0:=h.open_ k;have s1:=s0.join (x:=(x,1)) (y:=(y,1)) ⟨⟨inx 1 (by decide) (by decide),k.lx⟩,dI (.inr (by decide)),dI (.inl k.ne)⟩ ⟨⟨iny 1 (by decide) (by decide),k.ly⟩,dI (.inl k.ne.symm),dI (.inr (by decide))⟩ (dI (.inl k.ne));have s2:=s1.join (x:=(x,2)) (y:=(y,2)) ⟨⟨⟨inx 2 (by decide) (by decide),k.lx⟩,dI (.inr (by decide)),dI (.inl k.ne)⟩,dI (.inr (by decide)),dI (.inl k.ne)⟩ ⟨⟨⟨iny 2 (by decide) (by decide),k.ly⟩,dI (.inl k.ne.symm),dI (.inr (by decide))⟩,dI (.inl k.ne.symm),dI (.inr (by decide))⟩ (dI (.inl k.ne))
 have key:∀p:aD,Live (fun i=>D i∨i=x∨i=y) (aV (aV xs (x,1) (y,1)) (x,2) (y,2)) p↔((((ak xs p∧¬D p.1)∧p≠(x,0)∧p≠(y,0))∧p≠(x,1)∧p≠(y,1))∧p≠(x,2)∧p≠(y,2)):=fun p=>by
  unfold Live;rw[ak.Jg,ak.Jg];constructor
  ·rintro⟨h1,h2⟩;have h3:p.1≠x:=fun e=>h2 (.inr (.inl e))
   have h4:p.1≠y:=fun e=>h2 (.inr (.inr e))
   have nx:∀s,p≠(x,s):=fun s e=>h3 (by rw[e])
   have ny:∀s,p≠(y,s):=fun s e=>h4 (by rw[e])
   exact⟨⟨⟨⟨h1,fun e=>h2 (.inl e)⟩,nx 0,ny 0⟩,nx 1,ny 1⟩,nx 2,ny 2⟩
  ·rintro⟨⟨⟨⟨h1,h2⟩,x0,y0⟩,x1,y1⟩,x2,y2⟩;refine⟨h1,fun e=> ?_⟩;obtain⟨q1,q2,q3,q4⟩:=h1;rcases e with e|e|e
   ·exact h2 e
   ·rw[e]at q4;have q5:p.2<3:=by(have:p.2<((ah xs x).2.2.2.2.length:Nat):=q4);omega
    have:p.2=0∨p.2=1∨p.2=2:=by omega
    rcases this with e2|e2|e2
    ·exact x0 (dW e e2)
    ·exact x1 (dW e e2)
    ·exact x2 (dW e e2)
   ·rw[e]at q4;have q5:p.2<3:=by(have:p.2<((ah xs y).2.2.2.2.length:Nat):=q4);omega
    have:p.2=0∨p.2=1∨p.2=2:=by omega
    rcases this with e2|e2|e2
    ·exact y0 (dW e e2)
    ·exact y1 (dW e e2)
    ·exact y2 (dW e e2)
 have s3:=s2.congr key;have s4:=(s3.gone x k.px.1 fun p hp e=>hp.2 (.inr (.inl e))).gone y k.py.1 fun p hp e=>hp.2 (.inr (.inr e))
 exact⟨s4.ag.mono fun i hi=>by rcases hi with(hi|hi)|hi<;>simp_all,s4.wi,fun p hp=>hp.2⟩
end
end Go.Tr
namespace Go.Tr
open Go Go.RowKit
def SX(D:Int→Prop)(X:aD→Prop)(xs ys:List aj):Prop:=vE D (fun p=>(ak xs p∧¬D p.1)∧¬X p) xs ys
section
variable {D:Int→Prop}{X Y:aD→Prop}{xs ys:List aj}
theorem SX.congr(h:SX D X xs ys)(e:∀p,ak xs p→¬D p.1→(Y p↔X p)):SX D Y xs ys:=vE.congr h fun p=>by
 constructor
 ·rintro⟨⟨h1,h2⟩,h3⟩;exact⟨⟨h1,h2⟩,fun h4=>h3 ((e p h1 h2).2 h4)⟩
 ·rintro⟨⟨h1,h2⟩,h3⟩;exact⟨⟨h1,h2⟩,fun h4=>h3 ((e p h1 h2).1 h4)⟩
theorem SX.add(h:SX D X xs ys)(a:aj):SX D (fun p=>X p∨p.1=(xs.length:Nat)) (xs++[a]) (ys++[a]):=vE.congr (vE.app h [a]) fun p=>by
 rw[ak.dR];constructor
 ·rintro⟨⟨h1,h2⟩,h3⟩;rcases h1 with h1|h1
  ·exact⟨⟨h1,h2⟩,fun h4=>h3 (.inl h4)⟩
  ·exact absurd (.inr h1.1) h3
 ·rintro⟨⟨h1,h2⟩,h3⟩;refine⟨⟨.inl h1,h2⟩,fun h4=> ?_⟩;rcases h4 with h4|h4
  ·exact h3 h4
  ·have:=h1.2.1;omega
theorem SX.move(h:SX D X xs ys){old now:aD}(ho:ak xs old)(od:¬D old.1)(ox:¬X old)(hn:ak xs now)(nd:¬D now.1)(nx:X now):SX D (fun p=>(X p∨p=old)∧p≠now) (dA xs old now) (dA ys old now):=by
 refine vE.congr (vE.move h (old:=old) (now:=now) ⟨⟨ho,od⟩,ox⟩ hn (fun k=>k.2 nx) nd) fun p=> ?_
 rw[ak.jl];constructor
 ·rintro⟨⟨h1,h2⟩,h3⟩
  by_cases e:p=now
  ·exact .inr e
  ·exact .inl ⟨⟨⟨h1,h2⟩,fun k=>h3 ⟨.inl k,e⟩⟩,fun k=>h3 ⟨.inr k,e⟩⟩
 ·rintro(⟨⟨⟨h1,h2⟩,h3⟩,h4⟩|rfl)
  ·exact⟨⟨h1,h2⟩,fun k=>k.1.elim h3 h4⟩
  ·exact⟨⟨hn,nd⟩,fun k=>k.2 rfl⟩
theorem SX.link(h:SX D X xs ys){p q:aD}(hp:ak xs p)(pd:¬D p.1)(px:X p)(hq:ak xs q)(qd:¬D q.1)(qx:X q)(hpq:p≠q):SX D (fun r=>X r∧r≠p∧r≠q) (bL xs p q) (bL ys p q):=by
 refine vE.congr (vE.link h hp hq (fun k=>k.2 px) (fun k=>k.2 qx) hpq pd qd) fun r=> ?_
 rw[ak.jh];constructor
 ·rintro⟨⟨h1,h2⟩,h3⟩
  by_cases e1:r=p
  ·exact .inr (.inl e1)
  by_cases e2:r=q
  ·exact .inr (.inr e2)
  ·exact .inl ⟨⟨h1,h2⟩,fun k=>h3 ⟨k,e1,e2⟩⟩
 ·rintro(⟨⟨h1,h2⟩,h3⟩|rfl|rfl)
  ·exact⟨⟨h1,h2⟩,fun k=>h3 k.1⟩
  ·exact⟨⟨hp,pd⟩,fun k=>k.2.1 rfl⟩
  ·exact⟨⟨hq,qd⟩,fun k=>k.2.2 rfl⟩
theorem SX.start{x y:Int}(h:St D xs ys)(k:lG D xs x y):SX D (fun p=>p=(x,0)∨p=(y,0)) xs ys:=vE.congr (h.open_ k) fun p=>by
 constructor
 ·rintro⟨h1,h3⟩;exact⟨h1,fun e=>h3 (.inl e),fun e=>h3 (.inr e)⟩
 ·rintro⟨h1,h2,h3⟩;exact⟨h1,fun e=>e.elim h2 h3⟩
theorem SX.NT{x y:Int}(h:SX D X xs ys)(x0:0≤x)(y0:0≤y)(e:∀p,ak xs p→¬D p.1→(X p↔p.1=x∨p.1=y)):St (fun i=>D i∨i=x∨i=y) xs (bC (bC ys x) y):=by
 have s3:vE D (Live (fun i=>D i∨i=x∨i=y) xs) xs ys:=vE.congr h fun p=>by
  unfold Live;constructor
  ·rintro⟨h1,h2⟩;have h3:¬D p.1:=fun k=>h2 (.inl k)
   exact⟨⟨h1,h3⟩,fun k=>h2 (.inr ((e p h1 h3).1 k))⟩
  ·rintro⟨⟨h1,h2⟩,h3⟩;exact⟨h1,fun k=>k.elim h2 fun k=>h3 ((e p h1 h2).2 k)⟩
 have s4:=(s3.gone x x0 fun p hp e=>hp.2 (.inr (.inl e))).gone y y0 fun p hp e=>hp.2 (.inr (.inr e))
 exact⟨s4.ag.mono fun i hi=>by rcases hi with(hi|hi)|hi<;>simp_all,s4.wi,fun p hp=>hp.2⟩
theorem SX.Zj{x:Int}(h:SX D X xs ys)(x0:0≤x)(e:∀p,ak xs p→¬D p.1→(X p↔p.1=x)):St (fun i=>D i∨i=x) xs (bC ys x):=by
 have s3:vE D (Live (fun i=>D i∨i=x) xs) xs ys:=vE.congr h fun p=>by
  unfold Live;constructor
  ·rintro⟨h1,h2⟩;have h3:¬D p.1:=fun k=>h2 (.inl k)
   exact⟨⟨h1,h3⟩,fun k=>h2 (.inr ((e p h1 h3).1 k))⟩
  ·rintro⟨⟨h1,h2⟩,h3⟩;exact⟨h1,fun k=>k.elim h2 fun k=>h3 ((e p h1 h2).2 k)⟩
 have s4:=s3.gone x x0 fun p hp e=>hp.2 (.inr e)
 exact⟨s4.ag,s4.wi,fun p hp=>hp.2⟩
theorem SX.len(h:SX D X xs ys):xs.length=ys.length:=h.ag.1
theorem SX.at_(h:SX D X xs ys){i:Int}(h0:0≤i)(h1:i<(xs.length:Nat))(hd:¬D i):ah ys i=ah xs i:=(h.ag.2 i h0 h1 hd).symm
theorem I5{y:Int}{p:aD}(hlt:p.1.toNat<xs.length):∀{k:Nat},ak (rV y xs k) p→ak xs p
 |0,h=>h
 |k+1,h=>by
  unfold rV at h;rw[ak.jl,ak.dR,jQ]at h;rcases h with h|⟨h,_⟩
  ·exact I5 hlt h
  ·omega
theorem PV{x y:Int}(h:St D xs ys)(k:lG D xs x y)(hD:∀i,D i→i<(xs.length:Nat)):∀n:Nat,n≤(ah xs y).2.2.2.2.length-1→SX D (fun p=>p=(x,0)∨(p.1=y∧p.2≤(n:Nat))) (rV y xs n) (rV y ys n)
 |0,_=>(SX.start h k).congr fun p hp _=>by
  constructor
  ·rintro(e|⟨e1,e2⟩)
   ·exact .inl e
   ·exact .inr (dW e1 (by have:=hp.2.2.1;show p.2=0;omega))
  ·rintro(e|e)
   ·exact .inl e
   ·exact .inr (by rw[e];exact⟨rfl,Int.le_refl _⟩)
 |n+1,hn=>by
  have ih:=PV h k hD n (by omega);have hl:(rV y xs n).length=xs.length+n:=jQ y xs n;have hyl:=k.py.2.1;have hy0:=k.py.1;have hpy:ak xs (y,((n+1:Nat):Int)):=⟨hy0,hyl,by omega,by show((n+1:Nat):Int)<((ah xs y).2.2.2.2.length:Nat);omega⟩;have hin:=oh (y:=y) hpy n;have s1:=ih.add (bg 5 0 0 [] 1);have hnew:ak (rV y xs n++[bg 5 0 0 [] 1]) (((xs.length+n:Nat):Int),0):=ak.dR.2 (.inr ⟨by rw[hl],Int.le_refl _,show(0:Int)<1 by decide⟩)
  have s2:=s1.move (old:=(y,((n+1:Nat):Int))) (now:=(((xs.length+n:Nat):Int),0)) hin.app k.ly (by
   rintro((e|⟨_,e⟩)|e)
   ·exact dI (.inl k.ne.symm) e
   ·have:((n+1:Nat):Int)≤(n:Nat):=e;omega
   ·have:y=((rV y xs n).length:Nat):=e;rw[hl]at this;omega) hnew (fun e=>by have:=hD _ e;show False;have h2:((xs.length+n:Nat):Int)<(xs.length:Nat):=this;omega) (.inr (by rw[hl]))
  have hyx:(rV y ys n++[bg 5 0 0 [] 1])=rV y ys n++[bg 5 0 0 [] 1]:=rfl
  have s3:SX D (fun p=>p=(x,0)∨(p.1=y∧p.2≤((n+1:Nat):Int))) (dA (rV y xs n++[bg 5 0 0 [] 1]) (y,((n+1:Nat):Int)) (((xs.length+n:Nat):Int),0)) (dA (rV y ys n++[bg 5 0 0 [] 1]) (y,((n+1:Nat):Int)) (((xs.length+n:Nat):Int),0)):=s2.congr fun p hp _=>by
   rw[ak.jl,ak.dR,hl]at hp;rw[hl];constructor
   ·rintro(rfl|⟨e1,e2⟩)
    ·refine⟨.inl (.inl (.inl rfl)),dI (.inl ?_)⟩;have:=k.px.2.1;show x≠((xs.length+n:Nat):Int);have h2:x<(xs.length:Nat):=this;omega
    ·refine⟨?_,fun e=> ?_⟩
     ·by_cases e3:p.2=((n+1:Nat):Int)
      ·exact .inr (dW e1 e3)
      ·exact .inl (.inl (.inr ⟨e1,by omega⟩))
     ·rw[e]at e1;have:((xs.length+n:Nat):Int)=y:=e1;have h2:y<(xs.length:Nat):=hyl;omega
   ·rintro⟨((e|⟨e1,e2⟩)|e)|e,e3⟩
    ·exact .inl e
    ·exact .inr ⟨e1,by omega⟩
    ·rcases hp with hp|⟨q1,q2,q3⟩
     ·have h2:=hp.2.1;rw[hl]at h2;have e':p.1=((xs.length+n:Nat):Int):=e;omega
     ·refine absurd (dW (q:=(((xs.length+n:Nat):Int),0)) e ?_) e3;have:p.2<1:=q3;show p.2=0;omega
    ·exact .inr (by rw[e];exact⟨rfl,Int.le_refl _⟩)
  show SX D _ (rV y xs (n+1)) (rV y ys (n+1));unfold rV;rw[←h.ag.1];exact s3
theorem St.erase{x y:Int}(h:St D xs ys)(k:lG D xs x y)(hD:∀i,D i→i<(xs.length:Nat))(hx:(ah xs x).2.2.2.2.length=1):St (fun i=>D i∨i=x∨i=y) (ig xs y) (bC (bC (ig ys y) x) y):=by
 have e:ah ys y=ah xs y:=(h.ag.2 y k.py.1 k.py.2.1 k.ly).symm;unfold ig;rw[e];have s:=PV h k hD ((ah xs y).2.2.2.2.length-1) (Nat.le_refl _);refine s.NT k.px.1 k.py.1 fun p hp _=> ?_
 have hport:p.1=x∨p.1=y→ak xs p:=fun hc=>by
  have hlt:p.1.toNat<xs.length:=by
   have h1:=k.px.2.1;have h2:=k.py.2.1;have h3:=k.px.1;have h4:=k.py.1
   have g1:x<(xs.length:Nat):=h1;have g2:y<(xs.length:Nat):=h2;have g3:0≤x:=h3;have g4:0≤y:=h4;rcases hc with hc|hc<;>omega
  exact I5 hlt hp
 constructor
 ·rintro(rfl|⟨e1,_⟩)
  ·exact .inl rfl
  ·exact .inr e1
 ·intro hc;obtain⟨q1,q2,q3,q4⟩:=hport hc;rcases hc with hc|hc
  ·rw[hc]at q4;have:p.2<((ah xs x).2.2.2.2.length:Nat):=q4;exact .inl (dW hc (by show p.2=0;omega))
  ·rw[hc]at q4;have:p.2<((ah xs y).2.2.2.2.length:Nat):=q4;exact .inr ⟨hc,by omega⟩
theorem CP{p:aD}(h:ak xs p):p.1.toNat<xs.length:=by have:=h.1;have:=h.2.1;omega
theorem St.operate{x y:Int}(h:St D xs ys)(k:lG D xs x y)(hD:∀i,D i→i<(xs.length:Nat))(hx:(ah xs x).2.2.2.2.length=1)(h7:(ah xs y).1=7→(ah xs y).2.2.2.2.length=3)(h8:(ah xs y).1≠7→(ah xs y).2.2.2.2.length=2):
  St (fun i=>D i∨i=x∨i=y) (bG xs x y) (bC (bC (bG ys x y) x) y):=by
 have ey:ah ys y=ah xs y:=(h.ag.2 y k.py.1 k.py.2.1 k.ly).symm;have ex:ah ys x=ah xs x:=(h.ag.2 x k.px.1 k.px.2.1 k.lx).symm;have hn:¬D (xs.length:Nat):=fun e=>by have:=hD _ e;omega
 have xl:x<(xs.length:Nat):=k.px.2.1;have yl:y<(xs.length:Nat):=k.py.2.1;have iny:∀s:Int,0≤s→s<((ah xs y).2.2.2.2.length:Nat)→ak xs (y,s):=fun s h0 h1=>⟨k.py.1,k.py.2.1,h0,h1⟩
 have fin:∀(X:aD→Prop) (a:aj) (zs:List aj),(∀p,ak zs p↔ak (xs++[a]) p)→(∀p,ak (xs++[a]) p→(X p↔(ak xs p∧(p.1=x∨p.1=y))))→∀p,ak zs p→¬D p.1→(X p↔p.1=x∨p.1=y):=fun X a zs hz hX p hp _=>by
  rw[hX p ((hz p).1 hp)];constructor
  ·exact fun e=>e.2
  ·intro e;refine⟨?_,e⟩;rcases ak.dR.1 ((hz p).1 hp)with q|⟨q,_⟩
   ·exact q
   ·rcases e with e|e<;>omega
 unfold bG;rw[ex,ey,←h.ag.1];cases hk:(ah xs y).1==7 with
 |true=>
  have h3:=h7 (by simpa using hk);simp only[qG];have i1:=iny 1 (by decide) (by omega);have i2:=iny 2 (by decide) (by omega);have s1:=(SX.start h k).add (bg 8 (ah xs y).2.1 (ah xs y).2.2.1 [(ah xs x).2.2.1] 2);have n0:ak (xs++[bg 8 (ah xs y).2.1 (ah xs y).2.2.1 [(ah xs x).2.2.1] 2]) ((xs.length:Nat),0):=ak.dR.2 (.inr ⟨rfl,Int.le_refl _,show(0:Int)<2 by decide⟩);have n1:ak (xs++[bg 8 (ah xs y).2.1 (ah xs y).2.2.1 [(ah xs x).2.2.1] 2]) ((xs.length:Nat),1):=ak.dR.2 (.inr ⟨rfl,show(0:Int)≤1 by decide,show(1:Int)<2 by decide⟩)
  have s2:=s1.move (old:=(y,1)) (now:=((xs.length:Nat),0)) i1.app k.ly (by
   rintro((e|e)|e)
   ·exact dI (.inl k.ne.symm) e
   ·exact dI (.inr (by decide)) e
   ·have:y=(xs.length:Nat):=e;omega) n0 hn (.inr rfl)
  have s3:=s2.move (old:=(y,2)) (now:=((xs.length:Nat),1)) i2.app.move k.ly (by
   rintro⟨((e|e)|e)|e,_⟩
   ·exact dI (.inl k.ne.symm) e
   ·exact dI (.inr (by decide)) e
   ·have:y=(xs.length:Nat):=e;omega
   ·exact dI (.inr (by decide)) e) n1.move hn ⟨.inl (.inr rfl),dI (.inr (by decide))⟩
  refine s3.NT k.px.1 k.py.1 (fin _ _ _ (fun p=>by rw[ak.jl,ak.jl]) fun p hp=> ?_)
  have hA:p.1=(xs.length:Nat)→p=(((xs.length:Nat):Int),0)∨p=(((xs.length:Nat):Int),1):=fun e=>by
   rcases ak.dR.1 hp with q|⟨_,q2,q3⟩
   ·have:=q.2.1;omega
   ·have:p.2<2:=q3;have:p.2=0∨p.2=1:=by omega
    rcases this with e2|e2
    ·exact .inl (dW e e2)
    ·exact .inr (dW e e2)
  constructor
  ·rintro⟨(⟨((e|e)|e)|e,e2⟩|e),e3⟩
   ·rw[e];exact⟨k.px,.inl rfl⟩
   ·rw[e];exact⟨k.py,.inr rfl⟩
   ·rcases hA e with e4|e4
    ·exact absurd e4 e2
    ·exact absurd e4 e3
   ·rw[e];exact⟨i1,.inr rfl⟩
   ·rw[e];exact⟨i2,.inr rfl⟩
  ·rintro⟨q,e⟩;have ne:∀s,p≠(((xs.length:Nat):Int),s):=fun s e2=>by have:=q.2.1;rw[e2]at this;have h3:((xs.length:Nat):Int)<(xs.length:Nat):=this;omega
   refine⟨?_,ne 1⟩;obtain⟨q1,q2,q3,q4⟩:=q;rcases e with e|e
   ·rw[e]at q4;have:p.2<((ah xs x).2.2.2.2.length:Nat):=q4;exact .inl ⟨.inl (.inl (.inl (dW e (by show p.2=0;omega)))),ne 0⟩
   ·rw[e]at q4;have:p.2<((ah xs y).2.2.2.2.length:Nat):=q4;have:p.2=0∨p.2=1∨p.2=2:=by omega
    rcases this with e2|e2|e2
    ·exact .inl ⟨.inl (.inl (.inr (dW e e2))),ne 0⟩
    ·exact .inl ⟨.inr (dW e e2),ne 0⟩
    ·exact .inr (dW e e2)
 |false=>
  have h3:=h8 (by simpa using hk);simp only[qH];have i1:=iny 1 (by decide) (by omega);generalize hv:wK (ah xs y).2.2.1 (jd (ah xs y).2.2.2.1 0) (ah xs x).2.2.1=v;have s1:=(SX.start h k).add (bg 6 0 v [] 1);have n0:ak (xs++[bg 6 0 v [] 1]) ((xs.length:Nat),0):=ak.dR.2 (.inr ⟨rfl,Int.le_refl _,show(0:Int)<1 by decide⟩)
  have s2:=s1.move (old:=(y,1)) (now:=((xs.length:Nat),0)) i1.app k.ly (by
   rintro((e|e)|e)
   ·exact dI (.inl k.ne.symm) e
   ·exact dI (.inr (by decide)) e
   ·have:y=(xs.length:Nat):=e;omega) n0 hn (.inr rfl)
  refine s2.NT k.px.1 k.py.1 (fin _ _ _ (fun p=>by rw[ak.jl]) fun p hp=> ?_)
  have hA:p.1=(xs.length:Nat)→p=(((xs.length:Nat):Int),0):=fun e=>by
   rcases ak.dR.1 hp with q|⟨_,q2,q3⟩
   ·have:=q.2.1;omega
   ·have:p.2<1:=q3;exact dW e (by show p.2=0;omega)
  constructor
  ·rintro⟨((e|e)|e)|e,e2⟩
   ·rw[e];exact⟨k.px,.inl rfl⟩
   ·rw[e];exact⟨k.py,.inr rfl⟩
   ·exact absurd (hA e) e2
   ·rw[e];exact⟨i1,.inr rfl⟩
  ·rintro⟨q,e⟩;have ne:∀s,p≠(((xs.length:Nat):Int),s):=fun s e2=>by have:=q.2.1;rw[e2]at this;have h3:((xs.length:Nat):Int)<(xs.length:Nat):=this;omega
   refine⟨?_,ne 0⟩;obtain⟨q1,q2,q3,q4⟩:=q;rcases e with e|e
   ·rw[e]at q4;have:p.2<((ah xs x).2.2.2.2.length:Nat):=q4;exact .inl (.inl (.inl (dW e (by show p.2=0;omega))))
   ·rw[e]at q4;have:p.2<((ah xs y).2.2.2.2.length:Nat):=q4;have:p.2=0∨p.2=1:=by omega
    rcases this with e2|e2
    ·exact .inl (.inl (.inr (dW e e2)))
    ·exact .inr (dW e e2)
end
end Go.Tr
namespace Go.Tr
open Go Go.RowKit
section
variable {D:Int→Prop}{xs ys:List aj}{x y:Int}
theorem oW(lab c d:Int)(xs:List aj):∀k,(aZ lab c d xs k).length=xs.length+k
 |0=>rfl
 |k+1=>by unfold aZ wY;rw[jf,jf,qA,oW lab c d xs k];rfl
theorem lK{lab c d:Int}{xs:List aj}{p:aD}(h:ak xs p):∀k,ak (aZ lab c d xs k) p
 |0=>h
 |k+1=>(lK h k).app.link.link
theorem I9{P Q:List aj}{lab:Int}{n m:Nat}(hn:P.length=n+2)(hx:x<(n:Nat))(hy:y<(n:Nat))(hD:∀i,D i→i<(n:Nat))(hm:∀s:Int,0≤s→s<(m:Nat)→ak P ((n:Nat),s)∧ak P ((n+1:Nat),s))
  (h:SX D (fun p=>p=(x,0)∨p=(y,0)∨p.1=(n:Nat)∨p.1=((n+1:Nat):Int)) P Q):∀k:Nat,k+1≤m→
  SX D (fun p=>p=(x,0)∨p=(y,0)∨((p.1=(n:Nat)∨p.1=((n+1:Nat):Int))∧(p.2=0∨(k:Int)<p.2))∨(((n+2:Nat):Int)≤p.1∧p.2=0)) (aZ lab ((n:Nat):Int) ((n+1:Nat):Int) P k) (aZ lab ((n:Nat):Int) ((n+1:Nat):Int) Q k)
 |0,_=>h.congr fun p hp _=>by
  obtain⟨q1,q2,q3,_⟩:=hp;obtain⟨a,s⟩:=p;rw[hn]at q2;simp only[Prod.mk.injEq]at*;omega
 |k+1,hk=>by
  have ih:=I9 (lab:=lab) hn hx hy hD hm h k (by omega);have hl:(aZ lab ((n:Nat):Int) ((n+1:Nat):Int) P k).length=n+2+k:=by rw[oW,hn]
  have hlq:(aZ lab ((n:Nat):Int) ((n+1:Nat):Int) Q k).length=n+2+k:=by rw[←ih.len,hl]
  have nd:∀i:Nat,n≤i→¬D (i:Nat):=fun i hi e=>by have:=hD _ e;omega
  obtain⟨hc,hd⟩:=hm ((k+1:Nat):Int) (by omega) (by omega);have hc1:=lK (lab:=lab) (c:=((n:Nat):Int)) (d:=((n+1:Nat):Int)) hc k;have hd1:=lK (lab:=lab) (c:=((n:Nat):Int)) (d:=((n+1:Nat):Int)) hd k;generalize hA:aZ lab ((n:Nat):Int) ((n+1:Nat):Int) P k=A at*;generalize hB:aZ lab ((n:Nat):Int) ((n+1:Nat):Int) Q k=B at*;have s1:=ih.add (bg 4 lab 0 [] 3);have f1:ak (A++[bg 4 lab 0 [] 3]) ((A.length:Nat),1):=ak.dR.2 (.inr ⟨rfl,show(0:Int)≤1 by decide,show(1:Int)<3 by decide⟩)
  have f2:ak (A++[bg 4 lab 0 [] 3]) ((A.length:Nat),2):=ak.dR.2 (.inr ⟨rfl,show(0:Int)≤2 by decide,show(2:Int)<3 by decide⟩);rw[hl]at f1 f2 s1;have s2:=s1.link (p:=((n+2+k:Nat),1)) (q:=((n:Nat),((k+1:Nat):Int))) f1 (nd _ (by omega)) (.inr rfl) hc1.app (nd _ (Nat.le_refl _)) (.inl (.inr (.inr (.inl ⟨.inl rfl,.inr (show(k:Int)<((k+1:Nat):Int) by omega)⟩)))) (dI (.inl (by omega)))
  have s3:=s2.link (p:=((n+2+k:Nat),2)) (q:=((n+1:Nat),((k+1:Nat):Int))) f2.link (nd _ (by omega)) ⟨.inr rfl,dI (.inr (by decide)),dI (.inl (by omega))⟩ hd1.app.link (nd _ (by omega))
   ⟨.inl (.inr (.inr (.inl ⟨.inr rfl,.inr (show(k:Int)<((k+1:Nat):Int) by omega)⟩))),dI (.inl (by omega)),dI (.inl (by omega))⟩ (dI (.inl (by omega)))
  have e1:aZ lab ((n:Nat):Int) ((n+1:Nat):Int) P (k+1)=bL (bL (A++[bg 4 lab 0 [] 3]) ((n+2+k:Nat),1) ((n:Nat),((k+1:Nat):Int))) ((n+2+k:Nat),2) ((n+1:Nat),((k+1:Nat):Int)):=by
   rw[←hl,←hA];rfl
  have e2:aZ lab ((n:Nat):Int) ((n+1:Nat):Int) Q (k+1)=bL (bL (B++[bg 4 lab 0 [] 3]) ((n+2+k:Nat),1) ((n:Nat),((k+1:Nat):Int))) ((n+2+k:Nat),2) ((n+1:Nat),((k+1:Nat):Int)):=by
   rw[←hlq,←hB];rfl
  rw[e1,e2];refine s3.congr fun p hp _=> ?_
  rw[ak.jh,ak.jh,ak.dR,hl]at hp
  have hp':p.1<((n+2+k:Nat):Int)∨(p.1=((n+2+k:Nat):Int)∧0≤p.2∧p.2<3):=by
   rcases hp with hp|hp
   ·have:=hp.2.1;rw[hl]at this;exact .inl this
   ·exact .inr hp
  have h0:0≤p.2:=by
   rcases hp with hp|hp
   ·exact hp.2.2.1
   ·exact hp.2.1
  obtain⟨a,s⟩:=p;simp only[Prod.mk.injEq,ne_eq]at*;omega
theorem Fz{P Q:List aj}{b m:Nat}{X:aD→Prop}(hX:∀k:Nat,k<m→¬X (y,((k:Nat):Int)+1)∧X (((b+k:Nat):Int),0))(hy:ak P (y,0)∧∀k:Nat,k<m→ak P (y,((k:Nat):Int)+1)∧ak P (((b+k:Nat):Int),0))(yd:¬D y)(bd:∀k:Nat,¬D ((b+k:Nat):Int))(yb:y<(b:Nat))(h:SX D X P Q):
  ∀k:Nat,k≤m→SX D (fun p=>(X p∨(p.1=y∧1≤p.2∧p.2≤(k:Nat)))∧¬((b:Int)≤p.1∧p.1<((b+k:Nat):Int)∧p.2=0)) (cO y b P k) (cO y b Q k)
 |0,_=>h.congr fun p hp _=>by
  constructor
  ·rintro⟨e|e,_⟩
   ·exact e
   ·omega
  ·intro e;exact⟨.inl e,fun k=>by omega⟩
 |k+1,hk=>by
  have ih:=Fz hX hy yd bd yb h k (by omega);obtain⟨x1,x2⟩:=hX k (by omega);obtain⟨y1,y2⟩:=hy.2 k (by omega)
  have s1:=ih.move (old:=(y,((k:Nat):Int)+1)) (now:=(((b+k:Nat):Int),0)) (fF y1 k) yd (by
   rintro⟨e|⟨_,_,e⟩,_⟩
   ·exact x1 e
   ·have:((k:Nat):Int)+1≤(k:Nat):=e;omega) (fF y2 k) (bd k) ⟨.inl x2,fun e=>by have:((b+k:Nat):Int)<((b+k:Nat):Int):=e.2.1;omega⟩
  refine s1.congr fun p hp _=> ?_
  have q:(((X p∨(p.1=y∧1≤p.2∧p.2≤((k+1:Nat):Int)))∧¬((b:Int)≤p.1∧p.1<((b+(k+1):Nat):Int)∧p.2=0))↔((((X p∨(p.1=y∧1≤p.2∧p.2≤(k:Nat)))∧¬((b:Int)≤p.1∧p.1<((b+k:Nat):Int)∧p.2=0))∨p=(y,((k:Nat):Int)+1))∧p≠(((b+k:Nat):Int),0))):=by
   obtain⟨a,s⟩:=p;simp only[Prod.mk.injEq,ne_eq]
   by_cases hXp:X (a,s)
   ·simp only[hXp,true_or,true_and];omega
   ·simp only[hXp,false_or];omega
  exact q
theorem xJ{lab c d:Int}{xs:List aj}{p:aD}(hlt:p.1.toNat<xs.length):∀{k:Nat},ak (aZ lab c d xs k) p→ak xs p
 |0,h=>h
 |k+1,h=>by
  unfold aZ wY at h;rw[ak.jh,ak.jh,ak.dR,oW]at h;rcases h with h|⟨h,_⟩
  ·exact xJ hlt h
  ·omega
theorem yV{y:Int}{b:Nat}{xs:List aj}{p:aD}:∀k:Nat,ak (cO y b xs k) p↔ak xs p
 |0=>Iff.rfl
 |k+1=>by unfold cO;rw[ak.jl,yV k]
theorem NR{xs:List aj}{y:Int}{p:aD}(hlt:p.1.toNat<xs.length)(h:ak (dup2 xs y) p):ak xs p:=by
 unfold dup2 at h;rw[ak.dR,ak.dR,qA]at h;rcases h with(h|⟨h,_⟩)|⟨h,_⟩
 ·exact h
 ·omega
 ·simp only[qJ]at h;omega
theorem EX{xs:List aj}{y:Int}{lab:Int}{p:aD}:∀k:Nat,ak (aZ lab ((xs.length:Nat):Int) ((xs.length+1:Nat):Int) (dup2 xs y) k) p→0≤p.1∧p.1<((xs.length+2+k:Nat):Int)∧0≤p.2∧(p.1=(xs.length:Nat)∨p.1=((xs.length+1:Nat):Int)→p.2<((ah xs y).2.2.2.2.length:Nat))
 |0,h=>by
  have h5:ak (dup2 xs y) p:=h;obtain⟨h1,h2,h3,_⟩:=h;refine⟨h1,by(have:(aZ lab ((xs.length:Nat):Int) ((xs.length+1:Nat):Int) (dup2 xs y) 0).length=xs.length+2:=gK xs y);omega,h3,fun e=> ?_⟩;unfold dup2 at h5;have hd:(lq xs y).aH.length=(ah xs y).2.2.2.2.length:=by show(List.replicate _ _).length=_;rw[List.length_replicate]
  rw[ak.dR,ak.dR,qA,qJ]at h5;rcases h5 with(h5|⟨_,_,h5⟩)|⟨_,_,h5⟩
  ·have:=h5.2.1;omega
  ·omega
  ·omega
 |k+1,h=>by
  unfold aZ wY at h;rw[ak.jh,ak.jh,ak.dR,oW,gK]at h;rcases h with h|⟨h1,h2,h3⟩
  ·obtain⟨q1,q2,q3,q4⟩:=EX k h;exact⟨q1,by omega,q3,q4⟩
  ·exact⟨by omega,by omega,h2,fun e=>by omega⟩
theorem St.duplicate(h:St D xs ys)(k:lG D xs x y)(hD:∀i,D i→i<(xs.length:Nat))(hx:(ah xs x).2.2.2.2.length=3)(hy:1≤(ah xs y).2.2.2.2.length):
  St (fun i=>D i∨i=x∨i=y) (bH xs x y) (bC (bC (bH ys x y) x) y):=by
 have ey:ah ys y=ah xs y:=(h.ag.2 y k.py.1 k.py.2.1 k.ly).symm;have ex:ah ys x=ah xs x:=(h.ag.2 x k.px.1 k.px.2.1 k.lx).symm;have hl:xs.length=ys.length:=h.ag.1;have xl:x<(xs.length:Nat):=k.px.2.1;have yl:y<(xs.length:Nat):=k.py.2.1;have x0:0≤x:=k.px.1;have y0:0≤y:=k.py.1;have hne:=k.ne;generalize hm:(ah xs y).2.2.2.2.length=m at*;generalize hn:xs.length=n at*;have nd:∀i:Nat,n≤i→¬D (i:Nat):=fun i hi e=>by have:=hD _ e;omega
 have s0:=SX.start h k
 have s2:SX D (fun p=>p=(x,0)∨p=(y,0)∨p.1=(n:Nat)∨p.1=((n+1:Nat):Int)) (dup2 xs y) (dup2 ys y):=by
  have e:lq ys y=lq xs y:=by unfold lq;rw[ey]
  unfold dup2;rw[e];refine((s0.add (lq xs y)).add (lq xs y)).congr fun p _ _=> ?_
  rw[qA,hn];simp only[qJ];constructor
  ·rintro(e|e|e|e)
   ·exact .inl (.inl (.inl e))
   ·exact .inl (.inl (.inr e))
   ·exact .inl (.inr e)
   ·exact .inr e
  ·rintro(((e|e)|e)|e)
   ·exact .inl e
   ·exact .inr (.inl e)
   ·exact .inr (.inr (.inl e))
   ·exact .inr (.inr (.inr e))
 have hP:(dup2 xs y).length=n+2:=by rw[gK,hn]
 have hc:∀s:Int,0≤s→s<(m:Nat)→ak (dup2 xs y) ((n:Nat),s)∧ak (dup2 xs y) ((n+1:Nat),s):=fun s h0 h1=>by
  have q1:=qb (xs:=xs) (y:=y) h0 (by rw[hm];exact h1);have q2:=qg (xs:=xs) (y:=y) h0 (by rw[hm];exact h1);rw[hn]at q1 q2;exact⟨q1,q2⟩
 have s3:=I9 (lab:=(ah xs x).2.1) hP xl yl hD hc s2 (m-1) (by omega)
 have fx:(ah (dup2 xs y) x).2.1=(ah xs x).2.1:=by
  unfold dup2;rw[dw (by rw[qA,hn];omega),dw (by omega)]
 have fy:(ah (dup2 ys y) x).2.1=(ah xs x).2.1:=by
  unfold dup2;rw[dw (by rw[qA];omega),dw (by omega),ex]
 have d3x:dup3 xs x y=aZ (ah xs x).2.1 ((n:Nat):Int) ((n+1:Nat):Int) (dup2 xs y) (m-1):=by
  unfold dup3;rw[←(j5 (x:=x) (by rw[hP];omega) _).1,fx,hn,hm]
 have d3y:dup3 ys x y=aZ (ah xs x).2.1 ((n:Nat):Int) ((n+1:Nat):Int) (dup2 ys y) (m-1):=by
  unfold dup3;rw[←(j5 (x:=x) (by rw[gK];omega) _).1,fy,←hl,ey,hm]
 have hpp:=fun p=>EX (xs:=xs) (y:=y) (lab:=(ah xs x).2.1) (p:=p) (m-1)
 have hbk:∀p:aD,p.1.toNat<n→ak (aZ (ah xs x).2.1 ((n:Nat):Int) ((n+1:Nat):Int) (dup2 xs y) (m-1)) p→ak xs p:=fun p hlt hp=>NR (by rw[hn];exact hlt) (xJ (by rw[hP];omega) hp)
 have hin:∀p:aD,ak xs p→ak (aZ (ah xs x).2.1 ((n:Nat):Int) ((n+1:Nat):Int) (dup2 xs y) (m-1)) p:=fun p hp=>lK (mD hp) _
 have hfan:∀i:Nat,i<m-1→ak (aZ (ah xs x).2.1 ((n:Nat):Int) ((n+1:Nat):Int) (dup2 xs y) (m-1)) (((n+2+i:Nat):Int),0):=fun i hi=>by
  have:=qh (x:=x) (c:=((n:Nat):Int)) (d:=((n+1:Nat):Int)) (xs:=dup2 xs y) hi;rw[←(j5 (x:=x) (by rw[hP];omega) _).1,fx,hP]at this;exact this
 rw[hn,hm]at hpp;have hcn:=lK (lab:=(ah xs x).2.1) (c:=((n:Nat):Int)) (d:=((n+1:Nat):Int)) (hc 0 (Int.le_refl _) (by omega)).1 (m-1);have hdn:=lK (lab:=(ah xs x).2.1) (c:=((n:Nat):Int)) (d:=((n+1:Nat):Int)) (hc 0 (Int.le_refl _) (by omega)).2 (m-1);have inx:∀s:Int,0≤s→s<3→ak xs (x,s):=fun s h0 h1=>⟨k.px.1,k.px.2.1,h0,by show s<((ah xs x).2.2.2.2.length:Nat);omega⟩
 have iny:∀s:Int,0≤s→s<(m:Nat)→ak xs (y,s):=fun s h0 h1=>⟨k.py.1,k.py.2.1,h0,by show s<((ah xs y).2.2.2.2.length:Nat);rw[hm];exact h1⟩
 unfold bH kE;rw[d3x,d3y,←hl,hn,ey,hm];generalize aZ (ah xs x).2.1 ((n:Nat):Int) ((n+1:Nat):Int) (dup2 xs y) (m-1)=A at*;generalize aZ (ah xs x).2.1 ((n:Nat):Int) ((n+1:Nat):Int) (dup2 ys y) (m-1)=B at*;have s4:=s3.move (old:=(x,1)) (now:=((n:Nat),0)) (hin _ (inx 1 (by decide) (by decide))) k.lx (by simp only[Prod.mk.injEq,ne_eq,and_true,true_and,or_true,true_or];omega) hcn (nd _ (Nat.le_refl _)) (.inr (.inr (.inl ⟨.inl rfl,.inl rfl⟩)));have s5:=s4.move (old:=(x,2)) (now:=((n+1:Nat),0)) (hin _ (inx 2 (by decide) (by decide))).move k.lx (by simp only[Prod.mk.injEq,ne_eq,and_true,true_and,or_true,true_or];omega) hdn.move (nd _ (by omega)) (by simp only[Prod.mk.injEq,ne_eq,and_true,true_and,or_true,true_or];omega)
 have s6:=Fz (y:=y) (b:=n+2) (m:=m-1) (fun i hi=>by simp only[Prod.mk.injEq,ne_eq,and_true,true_and,or_true,true_or];omega) ⟨(hin _ (iny 0 (Int.le_refl _) (by omega))).move.move,fun i hi=>⟨(hin _ (iny _ (by omega) (by omega))).move.move,(hfan i hi).move.move⟩⟩ k.ly (fun i=>nd _ (by omega)) (by omega) s5 (m-1) (Nat.le_refl _);refine s6.NT x0 y0 fun p hp _=> ?_
 rw[yV,ak.jl,ak.jl]at hp;obtain⟨q1,q2,q3,q4⟩:=hpp p hp
 have q5:p.1=x→p.2<3:=fun e=>by
  have:=(hbk p (by omega) hp).2.2.2;rw[e]at this;have h2:p.2<((ah xs x).2.2.2.2.length:Nat):=this;omega
 have q6:p.1=y→p.2<(m:Nat):=fun e=>by
  have:=(hbk p (by omega) hp).2.2.2;rw[e]at this;have h2:p.2<((ah xs y).2.2.2.2.length:Nat):=this;omega
 clear hpp hbk hin hfan s0 s2 s3 s4 s5 s6 hc inx iny nd;obtain⟨a,s⟩:=p;simp only[Prod.mk.injEq,ne_eq]at*;omega
end
end Go.Tr
namespace Go.Tr
open Go Go.RowKit
section
variable {D:Int→Prop}{xs ys:List aj}{x y:Int}
theorem zH{zs:List aj}{p:aD}(q:aD)(hp:ak xs p):aL (xs++zs) p q=aL xs p q++zs:=by
 have hl:=CP hp;unfold aL;rw[dw hl,List.set_append_left _ _ hl]
theorem Od{zs:List aj}{p q:aD}(hp:ak xs p)(hq:ak xs q):bL (xs++zs) p q=bL xs p q++zs:=by
 unfold bL;rw[zH q hp,zH p hq.set]
theorem KO{p q r s:aD}(hp:ak xs p)(hq:ak xs q)(hr:ak xs r)(hs:ak xs s)(pr:p≠r)(ps:p≠s)(qr:q≠r)(qs:q≠s):bL (bL xs p q) r s=bL (bL xs r s) p q:=by
 unfold bL;rw[kX hq.set hr.set qr,kX (xs:=xs) hp hr pr];rw[kX (xs:=aL (aL xs r s) p q) hq.set.set hs.set.set qs,kX (xs:=aL xs r s) hp.set hs.set ps]
theorem Oi{W:List aj}{a:aj}{old now P Q:aD}(ho:ak W old)(hpe:ak W (au W old))(hn:ak W now)(hP:ak (W++[a]) P)(hPl:(W.length:Int)≤P.1)(hQ:ak W Q)(oq:old≠Q)(pq:au W old≠Q)(nq:now≠Q):
  dA (bL (W++[a]) P Q) old now=bL (dA W old now++[a]) P Q:=by
 have far:∀r:aD,ak W r→r≠P:=fun r hr e=>by have:=hr.2.1;rw[e]at this;omega
 have e1:au (bL (W++[a]) P Q) old=au W old:=by
  rw[jC hP hQ.app ho.app,if_neg (fun e=>oq e.symm),if_neg (fun e=>far old ho e.symm),nI (CP ho)]
 unfold dA;rw[e1,KO hP hQ.app hpe.app hn.app (fun e=>far _ hpe e.symm) (fun e=>far _ hn e.symm) (fun e=>pq e.symm) (fun e=>nq e.symm),Od hpe hn]
theorem L9{P Q:List aj}{lv:Int}{n m:Nat}(hn:P.length=n+1)(xl:x<(n:Nat))(yl:y<(n:Nat))(x0:0≤x)(xy:x≠y)(xd:¬D x)(hD:∀i,D i→i<(n:Nat))(hx:∀s:Int,0≤s→s<(m:Nat)→ak P (x,s))(hr:ak P ((n:Nat),0))
  (h:SX D (fun p=>p=(x,0)∨p=(y,0)∨p.1=(n:Nat)) P Q) (h1:∀p,ak P p→p.1=(n:Nat)→p.2=0):∀k:Nat,k+1≤m→
  SX D (fun p=>(p.1=x∧p.2≤(k:Nat))∨p=(y,0)∨p=iO (n+1) k) (oC lv x (n+1) P k) (oC lv x (n+1) Q k)
 |0,_=>h.congr fun p hp _=>by
  have h2:=h1 p hp;obtain⟨q1,q2,q3,_⟩:=hp;unfold iO;obtain⟨a,s⟩:=p;rw[hn]at q2;simp only[Prod.mk.injEq]at*;omega
 |k+1,hk=>by
  have ih:=L9 (lv:=lv) hn xl yl x0 xy xd hD hx hr h h1 k (by omega);have hl:(oC lv x (n+1) P k).length=n+1+k:=by rw[oQ,hn]
  have nd:∀i:Nat,n≤i→¬D (i:Nat):=fun i hi e=>by have:=hD _ e;omega
  have hxk:=mh (lv:=lv) (x:=x) (b:=n+1) (hx ((k+1:Nat):Int) (by omega) (by omega)) k
  have hR:ak (oC lv x (n+1) P k) (iO (n+1) k):=by
   have:=vV (lv:=lv) (x:=x) (xs:=P) (by rw[hn];exact hr) k;rw[hn]at this;exact this
  have hR1:(n:Int)≤(iO (n+1) k).1∧(iO (n+1) k).1<((n+1+k:Nat):Int):=by
   cases k with
   |zero=>unfold iO;simp only[];omega
   |succ k=>unfold iO;simp only[];omega
  have s1:=ih.add (bg 3 lv 0 [] 3);rw[hl]at s1;have f0:ak (oC lv x (n+1) P k++[bg 3 lv 0 [] 3]) ((n+1+k:Nat),0):=ak.dR.2 (.inr ⟨by rw[hl],Int.le_refl _,show(0:Int)<3 by decide⟩);have f1:ak (oC lv x (n+1) P k++[bg 3 lv 0 [] 3]) ((n+1+k:Nat),1):=ak.dR.2 (.inr ⟨by rw[hl],show(0:Int)≤1 by decide,show(1:Int)<3 by decide⟩);have hRd:¬D (iO (n+1) k).1:=fun e=>by have:=hD _ e;omega
  have s2:=s1.link (p:=iO (n+1) k) (q:=((n+1+k:Nat),0)) hR.app hRd (.inl (.inr (.inr rfl))) f0 (nd _ (by omega)) (.inr rfl) (fun e=>by rw[e]at hR1;have:=hR1.2;have h3:((n+1+k:Nat):Int)<((n+1+k:Nat):Int):=this;omega)
  have s3:=s2.move (old:=(x,((k+1:Nat):Int))) (now:=((n+1+k:Nat),1)) hxk.app.link xd (by
   rintro⟨(⟨_,e⟩|e|e)|e,_,_⟩
   ·have:((k+1:Nat):Int)≤(k:Nat):=e;omega
   ·exact dI (.inl xy) e
   ·rw[←e]at hR1;have:=hR1.1;have h3:(n:Int)≤x:=this;omega
   ·have:x=((n+1+k:Nat):Int):=e;omega) f1.link (nd _ (by omega)) ⟨.inr rfl,fun e=>by rw[←e]at hR1;have:=hR1.2;have h3:((n+1+k:Nat):Int)<((n+1+k:Nat):Int):=this;omega,dI (.inr (by decide))⟩
  show SX D _ (oC lv x (n+1) P (k+1)) (oC lv x (n+1) Q (k+1));unfold oC;refine s3.congr fun p hp _=> ?_
  rw[ak.jl,ak.jh,ak.dR,hl]at hp
  have hp':p.1<((n+1+k:Nat):Int)∨(p.1=((n+1+k:Nat):Int)∧0≤p.2∧p.2<3):=by
   rcases hp with hp|hp
   ·have:=hp.2.1;rw[hl]at this;exact .inl this
   ·exact .inr hp
  have e2:iO (n+1) (k+1)=(((n+1+k:Nat):Int),2):=rfl;rw[e2];obtain⟨a,s⟩:=p;generalize hRR:iO (n+1) k=R at*;obtain⟨ra,rs⟩:=R;simp only[Prod.mk.injEq,ne_eq]at*;omega
theorem SX.self{X:aD→Prop}(h:SX D X xs ys):SX D X xs xs:=⟨⟨rfl,fun _ _ _ _=>rfl⟩,h.wi,h.al⟩
theorem Gl{n k:Nat}:(n:Int)≤(iO (n+1) k).1∧(iO (n+1) k).1<((n+1+k:Nat):Int)∧(iO (n+1) k).2≠1:=by
 cases k with
 |zero=>unfold iO;simp only[];omega
 |succ k=>unfold iO;simp only[];omega
theorem L6{P Q:List aj}{lv:Int}{n:Nat}(hn:P.length=n+1)(xl:x<(n:Nat))(yl:y<(n:Nat))(hD:∀i,D i→i<(n:Nat))(hr:ak P ((n:Nat),0))
  (h:SX D (fun p=>p=(x,0)∨p=(y,0)∨p.1=(n:Nat)) P Q) (h1:∀p,ak P p→p.1=(n:Nat)→p.2=0):∀k:Nat,
  SX D (fun p=>p=(x,0)∨p=(y,0)∨(((n+1:Nat):Int)≤p.1∧p.2=1)∨p=iO (n+1) k) (pK lv (n+1) P k) (pK lv (n+1) Q k)
 |0=>h.congr fun p hp _=>by
  have h2:=h1 p hp;obtain⟨q1,q2,q3,_⟩:=hp;unfold iO;obtain⟨a,s⟩:=p;rw[hn]at q2;simp only[Prod.mk.injEq]at*;omega
 |k+1=>by
  have ih:=L6 (lv:=lv) hn xl yl hD hr h h1 k;have hl:(pK lv (n+1) P k).length=n+1+k:=by rw[wV,hn]
  have nd:∀i:Nat,n≤i→¬D (i:Nat):=fun i hi e=>by have:=hD _ e;omega
  obtain⟨r1,r2,r3⟩:=Gl (n:=n) (k:=k)
  have hR:ak (pK lv (n+1) P k) (iO (n+1) k):=by
   have:=EO (lv:=lv) (xs:=P) (by rw[hn];exact hr) k;rw[hn]at this;exact this
  have s1:=ih.add (bg 3 lv 0 [] 3);rw[hl]at s1;have f0:ak (pK lv (n+1) P k++[bg 3 lv 0 [] 3]) ((n+1+k:Nat),0):=ak.dR.2 (.inr ⟨by rw[hl],Int.le_refl _,show(0:Int)<3 by decide⟩);have s2:=s1.link (p:=((n+1+k:Nat),0)) (q:=iO (n+1) k) f0 (nd _ (by omega)) (.inr rfl) hR.app (fun e=>by have:=hD _ e;omega) (.inl (.inr (.inr (.inr rfl)))) (fun e=>by rw[←e]at r2;have h3:((n+1+k:Nat):Int)<((n+1+k:Nat):Int):=r2;omega);unfold pK;refine s2.congr fun p hp _=> ?_
  rw[ak.jh,ak.dR,hl]at hp
  have hp':p.1<((n+1+k:Nat):Int)∨(p.1=((n+1+k:Nat):Int)∧0≤p.2∧p.2<3):=by
   rcases hp with hp|hp
   ·have:=hp.2.1;rw[hl]at this;exact .inl this
   ·exact .inr hp
  have e2:iO (n+1) (k+1)=(((n+1+k:Nat):Int),2):=rfl;rw[e2];obtain⟨a,s⟩:=p;generalize hRR:iO (n+1) k=R at*;obtain⟨ra,rs⟩:=R;simp only[Prod.mk.injEq,ne_eq]at*;omega
theorem LY{Z:List aj}{n m k:Nat}(xl:x<(n:Nat))(x0:0≤x)(xy:x≠y)(xd:¬D x)(hD:∀i,D i→i<(n:Nat))(hx:∀s:Int,0≤s→s<(m:Nat)→ak Z (x,s))(hz:∀i:Nat,i<k→ak Z (((n+1+i:Nat):Int),1))(hl:Z.length=n+1+k)
  (h:SX D (fun p=>p=(x,0)∨p=(y,0)∨(((n+1:Nat):Int)≤p.1∧p.2=1)∨p=iO (n+1) k) Z Z):∀j:Nat,j≤k→j+1≤m→
  SX D (fun p=>(p.1=x∧p.2≤(j:Nat))∨p=(y,0)∨(((n+1+j:Nat):Int)≤p.1∧p.2=1)∨p=iO (n+1) k) (BX x (n+1) Z j) (BX x (n+1) Z j)
 |0,_,_=>h.congr fun p hp _=>by
  obtain⟨q1,q2,q3,_⟩:=hp;obtain⟨a,s⟩:=p;generalize iO (n+1) k=R;obtain⟨ra,rs⟩:=R;simp only[Prod.mk.injEq]at*;omega
 |j+1,hj,hm=>by
  have ih:=LY xl x0 xy xd hD hx hz hl h j (by omega) (by omega);obtain⟨r1,r2,r3⟩:=Gl (n:=n) (k:=k);have nd:∀i:Nat,n≤i→¬D (i:Nat):=fun i hi e=>by have:=hD _ e;omega
  have s1:=ih.move (old:=(x,((j:Nat):Int)+1)) (now:=(((n+1+j:Nat):Int),1)) (mg (hx _ (by omega) (by omega)) j) xd (by
   generalize iO (n+1) k=R at*;obtain⟨ra,rs⟩:=R;simp only[Prod.mk.injEq,ne_eq]at*;omega) (mg (hz j (by omega)) j) (nd _ (by omega)) (.inr (.inr (.inl ⟨Int.le_refl _,rfl⟩)))
  unfold BX;refine s1.congr fun p hp _=> ?_
  have q3:=hp.2.2.1;have q2:=hp.2.1;obtain⟨a,s⟩:=p;generalize hRR:iO (n+1) k=R at*;obtain⟨ra,rs⟩:=R;simp only[Prod.mk.injEq,ne_eq]at*;omega
theorem UF{P:List aj}{lv:Int}{n m:Nat}(hn:P.length=n+1)(xl:x<(n:Nat))(yl:y<(n:Nat))(x0:0≤x)(xy:x≠y)(xd:¬D x)(hD:∀i,D i→i<(n:Nat))(hx:∀s:Int,0≤s→s<(m:Nat)→ak P (x,s))(hr:ak P ((n:Nat),0))
  (h:SX D (fun p=>p=(x,0)∨p=(y,0)∨p.1=(n:Nat)) P P) (h1:∀p,ak P p→p.1=(n:Nat)→p.2=0):∀k:Nat,k+1≤m→BX x (n+1) (pK lv (n+1) P k) k=oC lv x (n+1) P k
 |0,_=>rfl
 |k+1,hk=>by
  have ih:=UF (lv:=lv) hn xl yl x0 xy xd hD hx hr h h1 k (by omega);have hl:(pK lv (n+1) P k).length=n+1+k:=by rw[wV,hn]
  have nd:∀i:Nat,n≤i→¬D (i:Nat):=fun i hi e=>by have:=hD _ e;omega
  obtain⟨r1,r2,r3⟩:=Gl (n:=n) (k:=k)
  have hR:ak (pK lv (n+1) P k) (iO (n+1) k):=by
   have:=EO (lv:=lv) (xs:=P) (by rw[hn];exact hr) k;rw[hn]at this;exact this
  have hxN:∀s:Int,0≤s→s<(m:Nat)→ak (pK lv (n+1) P k) (x,s):=fun s a b=>BZ (hx s a b) k
  have hzN:∀i:Nat,i<k→ak (pK lv (n+1) P k) (((n+1+i:Nat):Int),1):=fun i hi=>by
   have:=yQ (lv:=lv) (xs:=P) (s:=1) (by decide) (by decide) hi;rw[hn]at this;exact this
  have sN:=L6 (lv:=lv) hn xl yl hD hr h h1 k
  have key:∀j:Nat,j≤k→BX x (n+1) (bL (pK lv (n+1) P k++[bg 3 lv 0 [] 3]) ((n+1+k:Nat),0) (iO (n+1) k)) j=bL (BX x (n+1) (pK lv (n+1) P k) j++[bg 3 lv 0 [] 3]) ((n+1+k:Nat),0) (iO (n+1) k):=by
   intro j
   induction j with
   |zero=>intro _;rfl
   |succ j ihj=>
    intro hj;have e:=ihj (by omega);have sM:=LY (k:=k) xl x0 xy xd hD hxN hzN hl sN j (by omega) (by omega);have hlW:(BX x (n+1) (pK lv (n+1) P k) j).length=n+1+k:=by rw[LW,hl]
    show dA (BX x (n+1) (bL (pK lv (n+1) P k++[bg 3 lv 0 [] 3]) ((n+1+k:Nat),0) (iO (n+1) k)) j) (x,((j:Nat):Int)+1) (((n+1+j:Nat):Int),1)=bL (dA (BX x (n+1) (pK lv (n+1) P k) j) (x,((j:Nat):Int)+1) (((n+1+j:Nat):Int),1)++[bg 3 lv 0 [] 3]) _ _;rw[e];have ho:=mg (x:=x) (b:=n+1) (hxN (((j:Nat):Int)+1) (by omega) (by omega)) j
    have hw:=sM.wi (x,((j:Nat):Int)+1) ⟨⟨ho,xd⟩,by
     generalize iO (n+1) k=R at*;obtain⟨ra,rs⟩:=R;simp only[Prod.mk.injEq]at*;omega⟩
    refine Oi ho hw.2.1.1.1 (mg (hzN j (by omega)) j) (ak.dR.2 (.inr ⟨by rw[hlW],Int.le_refl _,show(0:Int)<3 by decide⟩)) (by rw[hlW];exact Int.le_refl _) (mg hR j) ?_ (fun e=>hw.2.1.2 (.inr (.inr (.inr e)))) ?_
    ·intro e;rw[←e]at r1;have:(n:Int)≤x:=r1;omega
    ·intro e;rw[←e]at r3;exact r3 rfl
  show dA (BX x (n+1) (bL (pK lv (n+1) P k++[bg 3 lv 0 [] 3]) (((n+1+k:Nat):Int),0) (iO (n+1) k)) k) (x,((k:Nat):Int)+1) (((n+1+k:Nat):Int),1)=dA (bL (oC lv x (n+1) P k++[bg 3 lv 0 [] 3]) (iO (n+1) k) (((n+1+k:Nat):Int),0)) (x,((k+1:Nat):Int)) (((n+1+k:Nat):Int),1);rw[key k (Nat.le_refl _),ih];have hlS:(oC lv x (n+1) P k).length=n+1+k:=by rw[oQ,hn]
  have hRS:ak (oC lv x (n+1) P k) (iO (n+1) k):=by
   have:=vV (lv:=lv) (x:=x) (xs:=P) (by rw[hn];exact hr) k;rw[hn]at this;exact this
  rw[uP (ak.dR.2 (.inr ⟨by rw[hlS],Int.le_refl _,show(0:Int)<3 by decide⟩)) hRS.app];rfl
theorem Ca{lv:Int}{b:Nat}{P:List aj}{p:aD}(hlt:p.1.toNat<P.length):∀{k:Nat},ak (oC lv x b P k) p→ak P p
 |0,h=>h
 |k+1,h=>by
  unfold oC at h;rw[ak.jl,ak.jh,ak.dR,oQ]at h;rcases h with h|⟨h,_⟩
  ·exact Ca hlt h
  ·omega
theorem St.choose(h:St D xs ys)(k:lG D xs x y)(hD:∀i,D i→i<(xs.length:Nat))(h6:(ah xs x).1=6↔(ah xs y).1=11)(hx:(ah xs x).1=6→(ah xs x).2.2.2.2.length=1)(hx1:1≤(ah xs x).2.2.2.2.length)(hy:(ah xs y).2.2.2.2.length=2):
  St (fun i=>D i∨i=x∨i=y) (jP xs x y) (bC (bC (dx ys x y) x) y):=by
 have ey:ah ys y=ah xs y:=(h.ag.2 y k.py.1 k.py.2.1 k.ly).symm;have ex:ah ys x=ah xs x:=(h.ag.2 x k.px.1 k.px.2.1 k.lx).symm;have hl:xs.length=ys.length:=h.ag.1;have xl:x<(xs.length:Nat):=k.px.2.1;have yl:y<(xs.length:Nat):=k.py.2.1;have x0:0≤x:=k.px.1;have y0:0≤y:=k.py.1;have hne:=k.ne;have nd:∀i:Nat,xs.length≤i→¬D (i:Nat):=fun i hi e=>by have:=hD _ e;omega
 have iny1:ak xs (y,1):=⟨k.py.1,k.py.2.1,show(0:Int)≤1 by decide,by show(1:Int)<((ah xs y).2.2.2.2.length:Nat);omega⟩;have hkb:((ah xs x).1==6)=((ah xs y).1==11):=by rw[Bool.eq_iff_iff];simpa using h6
 have s1:∀i:Int,SX D (fun p=>p=(x,0)∨p=(y,0)∨p.1=(xs.length:Nat)) (bD xs y i) (bD ys y i):=fun i=>by
  unfold bD;rw[ey];refine((SX.start h k).add _).congr fun p _ _=> ?_
  constructor
  ·rintro(e|e|e)
   ·exact .inl (.inl e)
   ·exact .inl (.inr e)
   ·exact .inr e
  ·rintro((e|e)|e)
   ·exact .inl e
   ·exact .inr (.inl e)
   ·exact .inr (.inr e)
 have hlen:∀i:Int,(bD xs y i).length=xs.length+1:=fun i=>by unfold bD;rw[qA];rfl
 have hnew:∀i:Int,ak (bD xs y i) ((xs.length:Nat),0):=fun i=>ak.dR.2 (.inr ⟨rfl,Int.le_refl _,show(0:Int)<1 by decide⟩)
 have h1:∀(i:Int) p,ak (bD xs y i) p→p.1=(xs.length:Nat)→p.2=0:=fun i p hp e=>by
  rcases ak.dR.1 hp with q|⟨_,q2,q3⟩
  ·have:=q.2.1;omega
  ·have:p.2<1:=q3;omega
 have hback:∀(i:Int) (p:aD),p.1.toNat<xs.length→ak (bD xs y i) p→ak xs p:=fun i p hlt hp=>by
  rcases ak.dR.1 hp with q|⟨q,_⟩
  ·exact q
  ·omega
 have hin:∀(i:Int) (p:aD),ak xs p→ak (bD xs y i) p:=fun i p hp=>hp.app
 unfold jP dx;rw[ex,ey,hkb,←hl];cases hk:(ah xs y).1==11 with
 |true=>
  simp only[qG];have h3:=hx (h6.2 (by simpa using hk));generalize (bif (ah xs x).2.2.1==0 then(1:Int)else 0)=i;have s2:=(s1 i).move (old:=(y,1)) (now:=((xs.length:Nat),0)) (hin i _ iny1) k.ly (by simp only[Prod.mk.injEq];omega) (hnew i) (nd _ (Nat.le_refl _)) (.inr (.inr rfl));refine s2.NT x0 y0 fun p hp _=> ?_
  rw[ak.jl]at hp;have q0:=h1 i p hp;have q1:=hp.2.2.1;have q2:=hp.1
  have q4:p.1=x→p.2<1:=fun e=>by
   have:=(hback i p (by omega) hp).2.2.2;rw[e]at this;have h2:p.2<((ah xs x).2.2.2.2.length:Nat):=this;omega
  have q5:p.1=y→p.2<2:=fun e=>by
   have:=(hback i p (by omega) hp).2.2.2;rw[e]at this;have h2:p.2<((ah xs y).2.2.2.2.length:Nat):=this;omega
  obtain⟨a,s⟩:=p;simp only[Prod.mk.injEq,ne_eq]at*;omega
 |false=>
  simp only[qH];generalize (ah xs x).2.2.1=i;generalize (ah xs y).2.1=lv;have hxi:∀s:Int,0≤s→s<((ah xs x).2.2.2.2.length:Nat)→ak (bD xs y i) (x,s):=fun s a b=>hin i _ ⟨x0,xl,a,b⟩
  rw[UF (lv:=lv) (hlen i) xl yl x0 k.ne k.lx hD hxi (hnew i) (s1 i).self (h1 i) ((ah xs x).2.2.2.2.length-1) (by omega)];have s2:=L9 (lv:=lv) (hlen i) xl yl x0 k.ne k.lx hD hxi (hnew i) (s1 i) (h1 i) ((ah xs x).2.2.2.2.length-1) (by omega);generalize hm:(ah xs x).2.2.2.2.length=m at*;obtain⟨r1,r2,r3⟩:=Gl (n:=xs.length) (k:=m-1)
  have hR:ak (oC lv x (xs.length+1) (bD xs y i) (m-1)) (iO (xs.length+1) (m-1)):=by
   have:=vV (lv:=lv) (x:=x) (xs:=bD xs y i) (by rw[hlen];exact hnew i) (m-1);rw[hlen]at this;exact this
  have s3:=s2.move (old:=(y,1)) (now:=iO (xs.length+1) (m-1)) (mh (hin i _ iny1) _) k.ly (by
   generalize iO (xs.length+1) (m-1)=R at*;obtain⟨ra,rs⟩:=R;simp only[Prod.mk.injEq]at*;omega) hR (fun e=>by have:=hD _ e;omega) (.inr (.inr rfl))
  refine s3.NT x0 y0 fun p hp _=> ?_
  rw[ak.jl]at hp;have q1:=hp.2.2.1;have q2:=hp.1
  have q4:p.1=x→p.2<(m:Nat):=fun e=>by
   have:=(hback i p (by omega) (Ca (by rw[hlen];omega) hp)).2.2.2;rw[e]at this;have h2:p.2<((ah xs x).2.2.2.2.length:Nat):=this;omega
  have q5:p.1=y→p.2<2:=fun e=>by
   have:=(hback i p (by omega) (Ca (by rw[hlen];omega) hp)).2.2.2;rw[e]at this;have h2:p.2<((ah xs y).2.2.2.2.length:Nat):=this;omega
  generalize iO (xs.length+1) (m-1)=R at*;obtain⟨ra,rs⟩:=R;obtain⟨a,s⟩:=p;clear h1 hback hin hxi s1 s2 s3 hnew hlen nd;simp only[Prod.mk.injEq,ne_eq]at*;omega
end
end Go.Tr
namespace Go.Tr
open Go Go.RowKit
section
variable {D:Int→Prop}{X:aD→Prop}{xs ys:List aj}{x y:Int}
theorem p8{t:List aj}{b i:Int}(hb:b=(xs.length:Int)-1)(h1:(xs.length:Int)≤i)(h2:i-b<(t.length:Nat)):ah (xs++(t.drop 1).map (bW b)) i=bW b (ah t (i-b)):=by
 unfold ah elt;rw[qC,qL (by omega),qY,List.getElem?_drop];have e:1+(i.toNat-xs.length)=(i-b).toNat:=by omega
 rw[e,qC,qB (by omega)];rfl
theorem nG(t:List aj)(b:Int):((t.drop 1).map (bW b)).length=t.length-1:=by rw[qV,List.length_drop]
theorem ak.lV{t:List aj}{b:Int}{p:aD}(hb:b=(xs.length:Int)-1):ak (xs++(t.drop 1).map (bW b)) p↔ak xs p∨((xs.length:Int)≤p.1∧ak t (p.1-b,p.2)):=by
 have hml:=nG t b;have hpl:∀a:aj,(bW b a).aH.length=a.aH.length:=fun a=>by show(List.map _ _).length=_;rw[qV]
 constructor
 ·intro h;have h':=h;obtain⟨h1,h2,h3,h4⟩:=h;rw[qA,hml]at h2
  by_cases hl:p.1.toNat<xs.length
  ·rw[dw hl]at h4;exact .inl ⟨h1,by omega,h3,h4⟩
  ·have hlt:p.1-b<(t.length:Nat):=by omega
   rw[p8 hb (by omega) hlt,hpl]at h4;exact .inr ⟨by omega,by show 0≤p.1-b;omega,hlt,h3,h4⟩
 ·rintro(h|⟨h,h1,h2,h3,h4⟩)
  ·exact h.app
  ·have h2':p.1-b<(t.length:Nat):=h2;refine⟨by omega,by rw[qA,hml];omega,h3,?_⟩;rw[p8 hb h h2',hpl];exact h4
theorem wL{t:List aj}{b:Int}{p:aD}(hb:b=(xs.length:Int)-1)(h:(xs.length:Int)≤p.1)(hp:ak t (p.1-b,p.2)):au (xs++(t.drop 1).map (bW b)) p=((au t (p.1-b,p.2)).1+b,(au t (p.1-b,p.2)).2):=by
 obtain⟨h1,h2,h3,h4⟩:=hp;unfold au;rw[p8 hb h h2];show elt (dflt aR) (List.map _ _) p.2=_;unfold elt
 have h4':p.2.toNat<(ah t (p.1-b)).aH.length:=by
  have h5:p.2<((ah t (p.1-b)).aH.length:Nat):=h4;have h6:0≤p.2:=h3;omega
 rw[qC,qY,qB h4'];show _=(((ah t (p.1-b)).aH.getD p.2.toNat (dflt aR)).1+b,((ah t (p.1-b)).aH.getD p.2.toNat (dflt aR)).2);rw[qC,qB h4'];rfl
theorem SX.Wu{t:List aj}{b:Int}(hb:b=(xs.length:Int)-1)(ht:iy (fun p=>ak t p) t)(h0:ak t (0,0))(h00:∀p,ak t p→p.1=0→p=(0,0))(hD:∀i,D i→i<(xs.length:Nat))(hX:∀p,X p→p.1<(xs.length:Nat))(h:SX D X xs ys):
  SX D (fun p=>X p∨p=((au t (0,0)).1+b,(au t (0,0)).2)) (xs++(t.drop 1).map (bW b)) (ys++(t.drop 1).map (bW b)):=by
 obtain⟨r1,r2,r3,r4⟩:=ht (0,0) h0;have rR:ak t (au t (0,0)):=r2
 have rpos:1≤(au t (0,0)).1:=by
  have h1:=rR.1
  by_cases e:(au t (0,0)).1=0
  ·exact absurd (h00 _ rR e) r4
  ·omega
 refine⟨h.ag.app _,fun p hp=> ?_,fun p hp=>hp.1.2⟩;obtain⟨⟨p1,p2⟩,p3⟩:=hp;rcases(ak.lV hb).1 p1 with q|⟨q1,q2⟩
 ·obtain⟨w1,w2,w3,w4⟩:=h.wi p ⟨⟨q,p2⟩,fun k=>p3 (.inl k)⟩;have e:=nI (ys:=(t.drop 1).map (bW b)) (CP q);refine⟨p1,?_,by rw[e,nI (CP w2.1.1),w3],by rw[e];exact w4⟩;rw[e];refine⟨⟨w2.1.1.app,w2.1.2⟩,fun k=> ?_⟩;rcases k with k|k
  ·exact w2.2 k
  ·have:=w2.1.1.2.1;rw[k]at this;have h2:(au t (0,0)).1+b<(xs.length:Nat):=this;omega
 ·obtain⟨w1,w2,w3,w4⟩:=ht _ q2;have w2':ak t (au t (p.1-b,p.2)):=w2;have e:=wL hb q1 q2
  have hne:(au t (p.1-b,p.2)).1≠0:=fun e0=>by
   have e1:=h00 _ w2' e0;rw[e1]at w3;exact p3 (.inr (dW (by rw[w3];show p.1=p.1-b+b;omega) (by rw[w3])))
  have hge:1≤(au t (p.1-b,p.2)).1:=by have:=w2'.1;omega
  have hin:ak (xs++(t.drop 1).map (bW b)) ((au t (p.1-b,p.2)).1+b,(au t (p.1-b,p.2)).2):=(ak.lV hb).2 (.inr ⟨by show(xs.length:Int)≤(au t (p.1-b,p.2)).1+b;omega,by
   rw[show(((au t (p.1-b,p.2)).1+b,(au t (p.1-b,p.2)).2):aD).1-b=(au t (p.1-b,p.2)).1 by show(au t (p.1-b,p.2)).1+b-b=_;omega];exact w2'⟩)
  refine⟨p1,?_,?_,?_⟩
  ·rw[e];refine⟨⟨hin,fun k=> ?_⟩,fun k=> ?_⟩
   ·have:=hD _ k;have h2:(au t (p.1-b,p.2)).1+b<(xs.length:Nat):=this;omega
   ·rcases k with k|k
    ·have:=hX _ k;have h2:(au t (p.1-b,p.2)).1+b<(xs.length:Nat):=this;omega
    ·have e2:au t (p.1-b,p.2)=au t (0,0):=by
      injection k with k1 k2
      exact dW (by omega) k2
     rw[e2,r3]at w3;injection w3 with w5 w6
     omega
  ·rw[e,wL hb (by show(xs.length:Int)≤(au t (p.1-b,p.2)).1+b;omega) (by
    rw[show(((au t (p.1-b,p.2)).1+b,(au t (p.1-b,p.2)).2):aD).1-b=(au t (p.1-b,p.2)).1 by show(au t (p.1-b,p.2)).1+b-b=_;omega];exact w2')]
   have e3:((((au t (p.1-b,p.2)).1+b,(au t (p.1-b,p.2)).2):aD).1-b,(((au t (p.1-b,p.2)).1+b,(au t (p.1-b,p.2)).2):aD).2)=au t (p.1-b,p.2):=dW (by show(au t (p.1-b,p.2)).1+b-b=_;omega) rfl;rw[e3,w3];exact dW (by show p.1-b+b=p.1;omega) rfl
  ·rw[e];intro k;refine w4 (dW ?_ ?_)
   ·have:=congrArg Prod.fst k;show(au t (p.1-b,p.2)).1=p.1-b;have h2:(au t (p.1-b,p.2)).1+b=p.1:=this;omega
   ·have h2:=congrArg Prod.snd k;exact h2
theorem pG(lv:Int)(a:aj):(iU lv a).aH=a.aH:=by unfold iU;cases bR a.kind<;>rfl
theorem uH(lv:Int)(t:List aj){i:Int}(h0:0≤i)(h1:i<(t.length:Nat)):ah (bY lv t) i=iU lv (ah t i):=by
 unfold ah elt bY;rw[qC,qY,qC,qB (by omega)];rfl
theorem lC(lv:Int)(t:List aj):(bY lv t).length=t.length:=by unfold bY;rw[qV]
theorem ak.jm{lv:Int}{t:List aj}{p:aD}:ak (bY lv t) p↔ak t p:=by
 unfold ak;rw[lC];constructor
 ·rintro⟨h1,h2,h3,h4⟩;rw[uH lv t h1 h2,pG]at h4;exact⟨h1,h2,h3,h4⟩
 ·rintro⟨h1,h2,h3,h4⟩;refine⟨h1,h2,h3,?_⟩;rw[uH lv t h1 h2,pG];exact h4
theorem nU{lv:Int}{t:List aj}{p:aD}(hp:ak t p):au (bY lv t) p=au t p:=by
 unfold au;rw[uH lv t hp.1 hp.2.1,pG]
theorem iy.shift{lv:Int}{t:List aj}(h:iy (fun p=>ak t p) t):iy (fun p=>ak (bY lv t) p) (bY lv t):=fun p hp=>by
 have hp':=ak.jm.1 hp;obtain⟨h1,h2,h3,h4⟩:=h p hp';rw[nU hp'];exact⟨hp,ak.jm.2 h2,by rw[nU h2,h3],h4⟩
theorem St.expand{bk:List (List aj)}(h:St D xs ys)(k:lG D xs x y)(hD:∀i,D i→i<(xs.length:Nat))(hx:(ah xs x).2.2.2.2.length=1)
  (ht:iy (fun p=>ak (bP bk (ah xs x).2.2.1) p) (bP bk (ah xs x).2.2.1)) (h0:ak (bP bk (ah xs x).2.2.1) (0,0)) (h00:∀p,ak (bP bk (ah xs x).2.2.1) p→p.1=0→p=(0,0)):
  St (fun i=>D i∨i=x) (mF bk xs x y) (bC (eU (bP bk (ah ys x).2.2.1) (ah ys x).2.1 ys y) x):=by
 have ex:ah ys x=ah xs x:=(h.ag.2 x k.px.1 k.px.2.1 k.lx).symm;have hl:xs.length=ys.length:=h.ag.1;have xl:x<(xs.length:Nat):=k.px.2.1;have yl:y<(xs.length:Nat):=k.py.2.1;have hne:=k.ne;rw[ex];unfold mF eU kY;generalize bP bk (ah xs x).2.2.1=t at*;generalize (ah xs x).2.1=lv;generalize hb:(xs.length:Int)-1=b;have hb':b=(xs.length:Int)-1:=hb.symm
 have e1:jq lv ((ys.length:Int)-1) t (t.length-1)=((bY lv t).drop 1).map (bW b):=by
  unfold jq;rw[←hl,hb,qN (by rw[List.length_drop,lC];exact Nat.le_refl _)]
 have s0:=SX.start h k;have s1:=s0.Wu (t:=bY lv t) hb' ht.shift (ak.jm.2 h0) (fun p hp e=>h00 p (ak.jm.1 hp) e) hD (fun p hp=>by rcases hp with e|e<;>rw[e]<;>assumption);rw[e1,nU h0]at*;obtain⟨r1,r2,r3,r4⟩:=ht (0,0) h0;have rR:ak t (au t (0,0)):=r2
 have rpos:1≤(au t (0,0)).1:=by
  have h1:=rR.1
  by_cases e:(au t (0,0)).1=0
  ·exact absurd (h00 _ rR e) r4
  ·omega
 generalize au t (0,0)=R at*
 have hR:ak (xs++((bY lv t).drop 1).map (bW b)) (R.1+b,R.2):=(ak.lV hb').2 (.inr ⟨by show(xs.length:Int)≤R.1+b;omega,ak.jm.2 (by
  rw[show((R.1+b,R.2):aD).1-b=R.1 by show R.1+b-b=R.1;omega];exact rR)⟩)
 have s2:=s1.link (p:=(y,0)) (q:=(R.1+b,R.2)) k.py.app k.ly (.inl (.inr rfl)) hR (fun e=>by have:=hD _ e;have h2:R.1+b<(xs.length:Nat):=this;omega) (.inr rfl) (dI (.inl (by omega)))
 have e2:bL (ys++((bY lv t).drop 1).map (bW b)) ((ys.length:Int)-1+R.1,R.2) (y,0)=bL (ys++((bY lv t).drop 1).map (bW b)) (y,0) (R.1+b,R.2):=by
  rw[←hl,hb,show b+R.1=R.1+b by omega];refine uP ?_ ?_
  ·have:=(s1.ag.port hR (fun e=>by have:=hD _ e;have h2:R.1+b<(xs.length:Nat):=this;omega)).1;exact this
  ·exact(s1.ag.port (p:=(y,0)) k.py.app k.ly).1
 rw[e2];refine s2.Zj k.px.1 fun p hp _=> ?_
 rw[ak.jh]at hp;constructor
 ·rintro⟨(e|e)|e,e3,e4⟩
  ·rw[e]
  ·exact absurd e e3
  ·exact absurd e e4
 ·intro e;rcases(ak.lV hb').1 hp with q|⟨q,_⟩
  ·obtain⟨q1,q2,q3,q4⟩:=q;rw[e]at q4;have h3:p.2<((ah xs x).2.2.2.2.length:Nat):=q4;refine⟨.inl (.inl (dW e (by show p.2=0;omega))),fun e2=> ?_,fun e2=> ?_⟩
   ·rw[e2]at e;exact hne e.symm
   ·rw[e2]at e;have h4:R.1+b=x:=e;omega
  ·omega
end
end Go.Tr
namespace Go.Tr
open Go Go.RowKit
def gA(a:aj):aB:=⟨a.1,a.2.1,a.2.2.1,a.2.2.2.1,a.2.2.2.2.map fun p=>⟨p.1,p.2⟩⟩
theorem yY(l:List Int):List.flatMap (enc (.int .i64)) l=l.flatMap bN:=by
 induction l with
 |nil=>rfl
 |cons x l ih=>rw[qU,qU,ih];rfl
theorem NS(l:List aD):(l.map fun p=>(⟨p.1,p.2⟩:aF)).flatMap aF.enc=List.flatMap (enc aR) l:=by
 induction l with
 |nil=>rfl
 |cons x l ih=>rw[List.map_cons,qU,qU,ih];rfl
theorem P7(a:aj):(gA a).enc=enc aG a:=by
 show[_,_,_,D.sl _ _,D.sl _ _]=[_]++([_]++([_]++([_]++[_])));simp only[List.cons_append,List.nil_append,gA];rw[NS,←yY,qV]
abbrev Uz:=Int×Int
def V9(xs:List aj):Nat→Uz→Uz×Bool
 |0,w=>(w,false)
 |k+1,w=>bif (w.1 !=2)||(ah xs w.2).2.2.2.2.length==0 then(w,true)else V9 xs k ((ah xs w.2).2.2.2.2.getD 0 (0,0))
def zh{α:Type}(g:α→Bool):List α→Int→Int
 |[],_=> -1
 |x::l,k=>bif g x then k else zh g l (k+1)
theorem Jd{α:Type}(g:α→Bool):∀(l:List α) (k:Int),0≤k→decide (0≤zh g l k)=l.any g
 |[],k,_=>rfl
 |x::l,k,h=>by
  unfold zh;rw[List.any_cons];cases hg:g x with
  |true=>simpa using h
  |false=>simpa using Jd g l (k+1) (by omega)
theorem Vu{α:Type}(d:α){xs:List α}{i:Nat}(h:i<xs.length):xs.drop i=xs.getD i d::xs.drop (i+1):=by
 rw[qC,qB h];exact List.drop_eq_getElem_cons h
theorem AU(n:Nat)(f:Nat→Bool):dV (n+1) f=(dV n f&&f n):=by simp[dV,List.range_succ]
def Wf(a:aj):Prop:=dO (gA a)=true
theorem fQ{a:aj}(h:Wf a):cB a.1 a.2.1=true∧gI (gA a)=true∧(a.2.2.2.2.length:Int)=cZ a.1 (eZ a.1 a.2.2.2.2.length)∧0<a.2.2.2.2.length:=by
 unfold Wf dO at h;simp only[qD,qQ,beq_iff_eq]at h;obtain⟨⟨⟨h1,h2⟩,h3⟩,h4⟩:=h;have e:((gA a).aH.length:Int)=(a.2.2.2.2.length:Int):=by simp[gA]
 have e2:fieldsOf (gA a)=eZ a.1 a.2.2.2.2.length:=by unfold fieldsOf;rw[e];rfl
 rw[e,e2]at h2;rw[e2]at h1;exact⟨h3,h4,h2,by(have:0<cZ a.1 (eZ a.1 a.2.2.2.2.length):=h1);omega⟩
theorem Ic{a:aj}(h:Wf a):1≤a.1∧a.1≤12:=by
 have:=(fQ h).1;unfold cB kr at this;simp only[qD]at this;exact jS this.1
theorem rO{a:aj}(h:Wf a):(a.1=1∨a.1=5∨a.1=6∨a.1=12→a.2.2.2.2.length=1)∧(a.1=8∨a.1=10∨a.1=11→a.2.2.2.2.length=2)∧(a.1=2∨a.1=3∨a.1=4∨a.1=7→a.2.2.2.2.length=3)∧(a.1=9→1≤a.2.2.2.2.length∧a.2.2.2.2.length≤4):=by
 obtain⟨_,_,h3,h4⟩:=fQ h;have hf:∀k:Int,k≠9→eZ k a.2.2.2.2.length=0:=fun k hk=>by unfold eZ;rw[if_neg (by simpa using hk)]
 refine⟨fun e=> ?_,fun e=> ?_,fun e=> ?_,fun e=> ?_⟩
 ·have k9:a.1≠9:=by omega
  rw[hf _ k9]at h3;unfold cZ at h3;rw[if_neg k9,if_pos rfl,if_pos e]at h3;omega
 ·have k9:a.1≠9:=by omega
  rw[hf _ k9]at h3;unfold cZ at h3;rw[if_neg k9,if_pos rfl,if_neg (by omega),if_pos e]at h3;omega
 ·have k9:a.1≠9:=by omega
  rw[hf _ k9]at h3;unfold cZ at h3;rw[if_neg k9,if_pos rfl,if_neg (by omega),if_neg (by omega),if_pos e]at h3;omega
 ·rw[e]at h3;unfold cZ eZ at h3;simp only[beq_self_eq_true,if_true]at h3
  by_cases hb:dS ((a.2.2.2.2.length:Int)-1) 0 3=true
  ·have:=jS hb;omega
  ·rw[if_neg hb]at h3;omega
theorem iT{ka la kb lb c:Int}(h:rule ka la kb lb=c)(h0:c≠0):
  (c=1→ka=2∧kb=3)∧(c=2→ka=4∧kb=4)∧(c=3→ka=4)∧(c=4→ka=5)∧(c=5→ka=6∧(kb=7∨kb=8))∧(c=6→(ka=6∧kb=11)∨(ka=9∧kb=10))∧(c=7→ka=12∧(kb=3∨kb=7∨kb=8∨kb=10∨kb=11)):=by
 unfold rule at h;split at h
 ·subst h;simp_all
 split at h
 ·split at h
  ·rename_i h1;simp only[qD,beq_iff_eq]at h1;subst h;simp_all
  ·split at h
   ·subst h;simp_all
   ·omega
 split at h
 ·split at h
  ·rename_i h1;simp only[qD,beq_iff_eq]at h1;subst h;simp_all
  ·omega
 split at h
 ·split at h
  ·rename_i h1;simp only[Bool.or_eq_true,beq_iff_eq]at h1;subst h;simp_all
  ·split at h
   ·rename_i h1;simp only[beq_iff_eq]at h1;subst h;simp_all
   ·omega
 split at h
 ·split at h
  ·rename_i h1;simp only[beq_iff_eq]at h1;subst h;simp_all
  ·omega
 split at h
 ·split at h
  ·rename_i h1;unfold oF at h1;simp only[Bool.or_eq_true,beq_iff_eq]at h1;subst h;refine⟨by simp,by simp,by simp,by simp,by simp,by simp,fun _=>⟨by assumption,by omega⟩⟩
  ·omega
 ·omega
theorem Dm(ka la kb lb:Int):(aX ka la kb lb=2→rule kb lb ka la=aW ka la kb lb∧aW ka la kb lb≠0)∧(aX ka la kb lb=1→rule ka la kb lb=aW ka la kb lb∧aW ka la kb lb≠0)∧(aX ka la kb lb=0∨aX ka la kb lb=1∨aX ka la kb lb=2):=by
 unfold aX aW;cases kU ka la kb lb with
 |false=>simp
 |true=>
  simp only[if_true]
  by_cases h1:rule ka la kb lb=0<;>by_cases h2:rule kb lb ka la=0<;>simp[h1,h2]
theorem KG{xs:List aj}{a b:Int}(hc:1≤aW (ah xs a).1 (ah xs a).2.1 (ah xs b).1 (ah xs b).2.1∧aW (ah xs a).1 (ah xs a).2.1 (ah xs b).1 (ah xs b).2.1≤7):
  rule (ah xs (aC xs a b).1).1 (ah xs (aC xs a b).1).2.1 (ah xs (aC xs a b).2).1 (ah xs (aC xs a b).2).2.1=aW (ah xs a).1 (ah xs a).2.1 (ah xs b).1 (ah xs b).2.1:=by
 obtain⟨h2,h1,h3⟩:=Dm (ah xs a).1 (ah xs a).2.1 (ah xs b).1 (ah xs b).2.1;unfold aC;rcases h3 with e|e|e
 ·exfalso;unfold aX at e;unfold aW at hc;cases hp:kU (ah xs a).1 (ah xs a).2.1 (ah xs b).1 (ah xs b).2.1 with
  |false=>rw[hp]at hc;simp at hc
  |true=>
   rw[hp]at e hc;simp only[if_true]at e hc;split at e
   ·rename_i r1;rw[if_pos r1]at hc;split at e
    ·rename_i r2;rw[if_pos r2]at hc;omega
    ·omega
   ·omega
 ·rw[e];exact(h1 e).1
 ·rw[e];exact(h2 e).1
def sig(a:aj):Int×Int×Int×List Int×Nat:=(a.1,a.2.1,a.2.2.1,a.2.2.2.1,a.2.2.2.2.length)
theorem Ie{a b:aj}(h:sig a=sig b):Wf a↔Wf b:=by
 unfold sig at h;simp only[Prod.mk.injEq]at h;obtain⟨h1,h2,h3,h4,h5⟩:=h
 have e:dO (gA a)=dO (gA b):=by
  unfold dO fieldsOf gI gA;simp only[qV,h1,h2,h3,h4,h5]
 unfold Wf;rw[e]
def fu(xs ys:List aj):Prop:=xs.length=ys.length∧∀i:Int,0≤i→i<(xs.length:Nat)→sig (ah xs i)=sig (ah ys i)
theorem fu.refl(xs:List aj):fu xs xs:=⟨rfl,fun _ _ _=>rfl⟩
theorem fu.setPort{xs ys:List aj}(h:fu xs ys)(p q:aD):fu (aL xs p q) ys:=by
 refine⟨by rw[cK];exact h.1,fun i h0 h1=> ?_⟩;rw[cK]at h1;rw[←h.2 i h0 h1,eF];split
 ·rename_i e;rw[yL (xs:=xs) e.1];unfold sig;simp only[List.length_set,aj.aH]
 ·rfl
theorem fu.link{xs ys:List aj}(h:fu xs ys)(p q:aD):fu (bL xs p q) ys:=(h.setPort p q).setPort q p
theorem fu.move{xs ys:List aj}(h:fu xs ys)(p q:aD):fu (dA xs p q) ys:=h.link _ _
theorem fu.join{xs ys:List aj}(h:fu xs ys)(p q:aD):fu (aV xs p q) ys:=by
 unfold aV;cases ((au xs p).1==q.1&&(au xs p).2==q.2)with
 |true=>exact h
 |false=>exact h.link _ _
theorem fu.app{xs ys:List aj}(h:fu xs ys)(zs:List aj):fu (xs++zs) (ys++zs):=by
 refine⟨by rw[qA,qA,h.1],fun i h0 h1=> ?_⟩;rw[qA]at h1
 by_cases hl:i<(xs.length:Nat)
 ·rw[dw (by omega),dw (by rw[←h.1];omega)];exact h.2 i h0 hl
 ·have:∀ws:List aj,ws.length=xs.length→ah (ws++zs) i=zs.getD (i.toNat-xs.length) (dflt aG):=fun ws hw=>by
   unfold ah elt;rw[qC,qL (by omega),hw,qC]
  rw[this xs rfl,this ys h.1.symm]
theorem Mq(y:Int)(xs:List aj):∀k,fu (rV y xs k) (xs++List.replicate k (bg 5 0 0 [] 1))
 |0=>by rw[List.replicate_zero,qS];exact fu.refl _
 |k+1=>by
  unfold rV;rw[List.replicate_succ',←qF];exact((Mq y xs k).app _).move _ _
theorem I8(lab c d:Int)(P:List aj):∀k,fu (aZ lab c d P k) (P++List.replicate k (bg 4 lab 0 [] 3))
 |0=>by rw[List.replicate_zero,qS];exact fu.refl _
 |k+1=>by
  unfold aZ wY;rw[List.replicate_succ',←qF];exact(((I8 lab c d P k).app _).link _ _).link _ _
theorem Fy{y:Int}{b:Nat}{P Q:List aj}(h:fu P Q):∀k,fu (cO y b P k) Q
 |0=>h
 |k+1=>(Fy h k).move _ _
theorem WE:Wf (bg 5 0 0 [] 1):=by unfold Wf;decide
theorem NJ{k l:Int}(h:cB k l=true):l=0∨(0≤l∧l≤8):=by
 unfold cB at h;simp only[qD,Bool.or_eq_true,beq_iff_eq]at h;rcases h.2 with h|h
 ·exact .inl h
 ·exact .inr (jS h.2)
theorem yM{k l:Int}(hk:k=3∨k=4∨k=8∨k=12)(h:l=0∨(0≤l∧l≤8)):cB k l=true:=by
 have h1:kr k=true:=wz (by omega) (by omega)
 have h2:bR k=true:=by
  unfold bR;rw[h1];rcases hk with rfl|rfl|rfl|rfl<;>decide
 unfold cB;rw[h1,h2];rcases h with rfl|h
 ·rfl
 ·rw[show xD l=true from wz h.1 h.2];simp
theorem Kc{k lv v:Int}{d:List Int}{n:Nat}(h1:cB k lv=true)(h2:gI (gA (bg k lv v d n))=true)(h3:(n:Int)=cZ k (eZ k n))(h4:0<n):Wf (bg k lv v d n):=by
 unfold Wf dO;have e:((gA (bg k lv v d n)).aH.length:Int)=(n:Int):=by simp[gA,bg]
 have e2:fieldsOf (gA (bg k lv v d n))=eZ k n:=by unfold fieldsOf;rw[e];rfl
 rw[e2,e];show(decide (0<cZ k (eZ k n))&&(n:Int)==cZ k (eZ k n)&&cB k lv&&gI (gA (bg k lv v d n)))=true;rw[←h3,h1,h2];simp only[beq_self_eq_true,Bool.and_true,qQ];omega
theorem WG{lv:Int}(h:lv=0∨(0≤lv∧lv≤8)):Wf (bg 4 lv 0 [] 3):=Kc (yM (by omega) h) rfl rfl (by decide)
theorem WC{lv:Int}(h:lv=0∨(0≤lv∧lv≤8)):Wf (bg 3 lv 0 [] 3):=Kc (yM (by omega) h) rfl rfl (by decide)
theorem Sj{lv v:Int}(h:lv=0∨(0≤lv∧lv≤8))(hv:jY v=true):Wf (bg 12 lv v [] 1):=Kc (yM (by omega) h) (by show((((0:Nat):Int)==0)&&jY v)=true;rw[hv];rfl) rfl (by decide)
theorem WH{v:Int}(hv:qy v=true):Wf (bg 6 0 v [] 1):=Kc (by decide) (by show((((0:Nat):Int)==0)&&qy v)=true;rw[hv];rfl) rfl (by decide)
theorem WI{lv v w:Int}(h:lv=0∨(0≤lv∧lv≤8))(hv:jT v=true)(hw:qy w=true):Wf (bg 8 lv v [w] 2):=Kc (yM (by omega) h) (by show(((((1:Nat):Int)==1)&&jT v)&&qy (dZ [w] 0))=true;rw[hv,show dZ [w] 0=w from rfl,hw];rfl) rfl (by decide)
theorem NA{a:aj}(h:Wf a):Wf (bg a.1 a.2.1 a.2.2.1 a.2.2.2.1 a.2.2.2.2.length):=(Ie (by unfold sig bg;simp)).2 h
theorem wT{a:aj}(h:Wf a):a.2.1=0∨(0≤a.2.1∧a.2.1≤8):=NJ (fQ h).1
theorem Sg{a:aj}(h:Wf a)(k:a.1=6):qy a.2.2.1=true:=by
 have:=(fQ h).2.1;unfold gI gA at this;simp only[k,beq_self_eq_true,if_true,qD]at this;exact this.2
theorem Ux{a:aj}(h:Wf a)(k:a.1=7):jT a.2.2.1=true:=by
 have:=(fQ h).2.1;unfold gI gA at this;simp only[k]at this;simp at this;exact this.2
theorem Si{a:aj}(h:Wf a)(k:a.1=8):a.2.2.2.1.length=1∧jT a.2.2.1=true∧qy (dZ a.2.2.2.1 0)=true:=by
 have:=(fQ h).2.1;unfold gI gA at this;simp only[k]at this;simp at this;exact⟨by omega,this.1.2,this.2⟩
theorem Me{l:List Int}(h:kL l=true){i:Int}(h0:0≤i)(h1:i<(l.length:Nat)):jY (jd l i)=true:=by
 unfold kL dV at h;rw[List.all_eq_true]at h;have:=h i.toNat (List.mem_range.2 (by omega));exact this
theorem Sd{a:aj}(h:Wf a)(k:a.1=10):1≤a.2.2.2.1.length∧a.2.2.2.1.length≤4∧kL a.2.2.2.1=true:=by
 have:=(fQ h).2.1;unfold gI gA at this;simp only[k]at this;simp at this;have h2:=jS this.1.2;exact⟨by omega,by omega,this.2⟩
theorem D8{a:aj}(h:Wf a)(k:a.1=11):a.2.2.2.1.length=2∧kL a.2.2.2.1=true:=by
 have:=(fQ h).2.1;unfold gI gA at this;simp only[k]at this;simp at this;exact⟨by omega,this.2⟩
theorem uE{a:aj}(h:Wf a)(k:a.1=12):0≤a.2.2.1∧a.2.2.1≤23:=by
 have:=(fQ h).2.1;unfold gI gA at this;simp only[k]at this;simp at this;exact jS this.2
theorem D7{a:aj}(h:Wf a)(k:a.1=9):0≤a.2.2.1∧a.2.2.1≤3:=by
 have:=(fQ h).2.1;unfold gI gA at this;simp only[k]at this;simp at this;exact jS this.2
theorem wf_data{a:aj}(h:Wf a):a.2.2.2.1.length≤4:=by
 have:=(fQ h).2.1;unfold gI gA at this;dsimp only at this;split at this
 ·simp at this;rw[this.1];decide
 split at this
 ·simp at this;rw[this.1];decide
 split at this
 ·simp at this;omega
 split at this
 ·simp at this;rw[this.1];decide
 split at this
 ·simp at this;rw[this.1];decide
 split at this
 ·simp at this;have:=jS this.1.2;omega
 split at this
 ·simp at this;omega
 ·simp at this;rw[this.2];decide
def yI(D:Int→Prop)(xs:List aj):Prop:=∀i:Int,0≤i→i<(xs.length:Nat)→¬D i→Wf (ah xs i)
theorem yI.grow{D E:Int→Prop}{xs xs' zs:List aj}(h:yI D xs)(hs:fu xs' (xs++zs))(hz:∀z∈zs,Wf z)(hE:∀i,D i→E i):yI E xs':=fun i h0 h1 hi=>by
 rw[Ie (hs.2 i h0 h1)]
 by_cases hl:i<(xs.length:Nat)
 ·rw[dw (by omega)];exact h i h0 hl fun k=>hi (hE i k)
 ·have hln:=hs.1;rw[qA]at hln;have hlt:i.toNat-xs.length<zs.length:=by omega
  have e:ah (xs++zs) i=zs[i.toNat-xs.length]:=by
   unfold ah elt;rw[qC,qL (by omega),qB hlt];rfl
  rw[e];exact hz _ (List.getElem_mem hlt)
structure BkW(bk:List (List aj)):Prop where
 wi:∀v:Int,0≤v→v<(bk.length:Nat)→iy (fun p=>ak (bP bk v) p) (bP bk v)
 r0:∀v:Int,0≤v→v<(bk.length:Nat)→ak (bP bk v) (0,0)
 r1:∀v:Int,0≤v→v<(bk.length:Nat)→∀p,ak (bP bk v) p→p.1=0→p=(0,0)
 wf:∀v:Int,0≤v→v<(bk.length:Nat)→∀i:Int,0≤i→i<((bP bk v).length:Nat)→Wf (ah (bP bk v) i)
def rz(bk:List (List aj))(xs:List aj)(c x y:Int):List aj:=
 bif c==3 then[lq xs y]++[lq xs y]++List.replicate ((ah xs y).2.2.2.2.length-1) (bg 4 (ah xs x).2.1 0 [] 3)
 else bif c==4 then List.replicate ((ah xs y).2.2.2.2.length-1) (bg 5 0 0 [] 1)
 else bif c==5 then(bif (ah xs y).1==7 then[bg 8 (ah xs y).2.1 (ah xs y).2.2.1 [(ah xs x).2.2.1] 2]else[bg 6 0 (wK (ah xs y).2.2.1 (jd (ah xs y).2.2.2.1 0) (ah xs x).2.2.1) [] 1])
 else bif c==6 then(bif (ah xs x).1==6 then[bg 12 (ah xs y).2.1 (jd (ah xs y).2.2.2.1 (bif (ah xs x).2.2.1==0 then 1 else 0)) [] 1]
  else[bg 12 (ah xs y).2.1 (jd (ah xs y).2.2.2.1 (ah xs x).2.2.1) [] 1]++List.replicate ((ah xs x).2.2.2.2.length-1) (bg 3 (ah xs y).2.1 0 [] 3))
 else bif c==7 then((kY bk xs x).drop 1).map (bW ((xs.length:Nat)-1))else[]
section
variable {D:Int→Prop}{xs ys:List aj}{x y:Int}{bk:List (List aj)}
theorem LX{x:Int}{b:Nat}{P Q:List aj}(h:fu P Q):∀k,fu (BX x b P k) Q
 |0=>h
 |k+1=>(LX h k).move _ _
theorem LZ(lv:Int)(b:Nat)(P:List aj):∀k,fu (pK lv b P k) (P++List.replicate k (bg 3 lv 0 [] 3))
 |0=>by rw[List.replicate_zero,qS];exact fu.refl _
 |k+1=>by
  unfold pK;rw[List.replicate_succ',←qF];exact((LZ lv b P k).app _).link _ _
theorem Ai{c:Int}(hc:1≤c∧c≤7)(hx:x.toNat<xs.length):fu (gy bk xs c x y) (xs++rz bk xs c x y):=by
 have hcs:c=1∨c=2∨c=3∨c=4∨c=5∨c=6∨c=7:=by omega
 rcases hcs with rfl|rfl|rfl|rfl|rfl|rfl|rfl
 ·show fu (aV (aV xs (x,1) (y,1)) (x,2) (y,2)) (xs++[]);rw[qS];exact((fu.refl xs).join _ _).join _ _
 ·show fu (aV (aV xs (x,1) (y,1)) (x,2) (y,2)) (xs++[]);rw[qS];exact((fu.refl xs).join _ _).join _ _
 ·show fu (bH xs x y) (xs++([lq xs y]++[lq xs y]++List.replicate ((ah xs y).2.2.2.2.length-1) (bg 4 (ah xs x).2.1 0 [] 3)));unfold bH kE dup3
  have e:(ah (dup2 xs y) x).2.1=(ah xs x).2.1:=by
   unfold dup2;rw[dw (by rw[qA];omega),dw hx]
  rw[←(j5 (x:=x) (by rw[gK];omega) _).1,e];refine Fy ((fu.move ?_ _ _).move _ _) _;rw[←qF,←qF];exact I8 _ _ _ _ _
 ·exact Mq y xs _
 ·show fu (bG xs x y) (xs++(bif (ah xs y).1==7 then[bg 8 (ah xs y).2.1 (ah xs y).2.2.1 [(ah xs x).2.2.1] 2]else[bg 6 0 (wK (ah xs y).2.2.1 (jd (ah xs y).2.2.2.1 0) (ah xs x).2.2.1) [] 1]));unfold bG;cases (ah xs y).1==7 with
  |true=>exact(((fu.refl xs).app _).move _ _).move _ _
  |false=>exact((fu.refl xs).app _).move _ _
 ·show fu (jP xs x y) (xs++(bif (ah xs x).1==6 then[bg 12 (ah xs y).2.1 (jd (ah xs y).2.2.2.1 (bif (ah xs x).2.2.1==0 then 1 else 0)) [] 1]
   else[bg 12 (ah xs y).2.1 (jd (ah xs y).2.2.2.1 (ah xs x).2.2.1) [] 1]++List.replicate ((ah xs x).2.2.2.2.length-1) (bg 3 (ah xs y).2.1 0 [] 3)))
  unfold jP;cases (ah xs x).1==6 with
  |true=>exact((fu.refl xs).app _).move _ _
  |false=>
   simp only[qH];rw[←qF];exact(LX (LZ _ _ _ _) _).move _ _
 ·exact((fu.refl xs).app _).link _ _
theorem Qm{c:Int}(h:St D xs ys)(k:lG D xs x y)(hD:∀i,D i→i<(xs.length:Nat))(hw:yI D xs)(hr:rule (ah xs x).1 (ah xs x).2.1 (ah xs y).1 (ah xs y).2.1=c)(hc:1≤c∧c≤7)(hb:BkW bk)(h7:c=7→(ah xs x).2.2.1<(bk.length:Nat)):
  St (fun i=>D i∨i∈gD c x y) (gy bk xs c x y) (fT bk ys c x y):=by
 have wx:=hw x k.px.1 k.px.2.1 k.lx;have wy:=hw y k.py.1 k.py.2.1 k.ly;obtain⟨x1,x2,x3,x4⟩:=rO wx;obtain⟨y1,y2,y3,y4⟩:=rO wy;obtain⟨r1,r2,r3,r4,r5,r6,r7⟩:=iT hr (by omega)
 have mono:∀{E:Int→Prop} {A B:List aj},(∀i,E i↔D i∨i=x∨i=y)→St (fun i=>D i∨i=x∨i=y) A B→St E A B:=fun {E A B} e s=>by
  have:E=fun i=>D i∨i=x∨i=y:=funext fun i=>propext (e i)
  rw[this];exact s
 have g2:c≠7→∀i,(D i∨i∈gD c x y)↔D i∨i=x∨i=y:=fun hne i=>by
  unfold gD;rw[show(c==7)=false by simpa using hne];simp
 have hcs:c=1∨c=2∨c=3∨c=4∨c=5∨c=6∨c=7:=by omega
 rcases hcs with rfl|rfl|rfl|rfl|rfl|rfl|rfl
 ·obtain⟨a,b⟩:=r1 rfl;exact mono (g2 (by decide)) (h.joins k (x3 (by omega)) (y3 (by omega)))
 ·obtain⟨a,b⟩:=r2 rfl;exact mono (g2 (by decide)) (h.joins k (x3 (by omega)) (y3 (by omega)))
 ·exact mono (g2 (by decide)) (h.duplicate k hD (x3 (by have:=r3 rfl;omega)) (fQ wy).2.2.2)
 ·exact mono (g2 (by decide)) (h.erase k hD (x1 (by have:=r4 rfl;omega)))
 ·obtain⟨a,b⟩:=r5 rfl;exact mono (g2 (by decide)) (h.operate k hD (x1 (by omega)) (fun e=>y3 (by omega)) (fun e=>y2 (by omega)))
 ·have q:=r6 rfl;exact mono (g2 (by decide)) (h.choose k hD (by omega) (fun e=>x1 (by omega)) (fQ wx).2.2.2 (y2 (by omega)))
 ·obtain⟨a,b⟩:=r7 rfl;have v:=uE wx a;have e:(fun i=>D i∨i∈gD 7 x y)=fun i=>D i∨i=x:=funext fun i=>propext (by unfold gD;simp)
  rw[e];exact h.expand k hD (x1 (by omega)) (hb.wi _ v.1 (h7 rfl)) (hb.r0 _ v.1 (h7 rfl)) (hb.r1 _ v.1 (h7 rfl))
end
end Go.Tr
namespace Go.Tr
open Go Go.RowKit
theorem zN(x:Int):qy (mU x)=true:=by
 have h: -2147483648≤IntKind.i32.wrap x∧IntKind.i32.wrap x≤2147483647:=by
  simp only[IntKind.wrap,IntKind.bits,IntKind.signed];simp;omega
 unfold mU;rw[qO _ (by omega)];exact wz h.1 h.2
theorem TQ(o a b:Int):qy (wK o a b)=true:=by
 unfold wK;cases o==1 with
 |true=>exact zN _
 |false=>
 cases o==2 with
 |true=>exact zN _
 |false=>
 cases o==3 with
 |true=>exact zN _
 |false=>
 cases o==4 with
 |true=>
  cases mU b==0 with
  |true=>rfl
  |false=>exact zN _
 |false=>
 cases o==5 with
 |true=>cases decide (mU a<mU b)<;>rfl
 |false=>
 cases o==6 with
 |true=>cases mU a==mU b<;>rfl
 |false=>rfl
theorem Sk{lv:Int}{a:aj}(h:Wf a)(h0:0≤lv)(h8:(!(bR a.kind)||decide (a.level+lv≤8))=true):Wf (iU lv a):=by
 unfold iU;cases hl:bR a.kind with
 |false=>exact h
 |true=>
  have h9:a.2.1+lv≤8:=by
   rw[show aj.kind a=a.1 from rfl]at*;rw[hl]at h8;simpa using h8
  have hp:=fQ h;have hlev:=wT h;unfold Wf dO at h ⊢;simp only[qD]at h ⊢;obtain⟨⟨⟨q1,q2⟩,q3⟩,q4⟩:=h;refine⟨⟨⟨q1,q2⟩,?_⟩,q4⟩;show cB a.1 (a.2.1+lv)=true;have q5:cB a.1 a.2.1=true:=q3;unfold cB at q5 ⊢;simp only[qD,Bool.or_eq_true]at q5 ⊢;exact⟨q5.1,.inr ⟨hl,wz (by omega) h9⟩⟩
theorem Oj(b:Int)(a:aj):sig (bW b a)=sig a:=by unfold sig bW;simp
section
variable {D:Int→Prop}{xs:List aj}{x y:Int}{bk:List (List aj)}
theorem Fj{c:Int}(hw:yI D xs)(hx:0≤x∧x<(xs.length:Nat))(hy:0≤y∧y<(xs.length:Nat))(lx:¬D x)(ly:¬D y)(hr:rule (ah xs x).1 (ah xs x).2.1 (ah xs y).1 (ah xs y).2.1=c)(hc:1≤c∧c≤7)(hb:BkW bk)
  (h6:c=6→(ah xs x).1=9→(ah xs x).2.2.1<((ah xs y).2.2.2.1.length:Nat)) (h7:c=7→(ah xs x).2.2.1<(bk.length:Nat)∧fP (ah xs x).2.1 (bP bk (ah xs x).2.2.1)=true):yI D (gy bk xs c x y):=by
 have wx:=hw x hx.1 hx.2 lx;have wy:=hw y hy.1 hy.2 ly;have lvx:=wT wx;have lvy:=wT wy;obtain⟨r1,r2,r3,r4,r5,r6,r7⟩:=iT hr (by omega);refine hw.grow (Ai hc (by omega)) ?_ fun i e=>e
 have hcs:c=1∨c=2∨c=3∨c=4∨c=5∨c=6∨c=7:=by omega
 rcases hcs with rfl|rfl|rfl|rfl|rfl|rfl|rfl
 ·intro z hz;cases hz
 ·intro z hz;cases hz
 ·intro z hz;have hz':z∈[lq xs y]++[lq xs y]++List.replicate ((ah xs y).2.2.2.2.length-1) (bg 4 (ah xs x).2.1 0 [] 3):=hz;rw[qT,qT,qX]at hz';rcases hz' with(e|e)|e
  ·rw[e];exact NA wy
  ·rw[e];exact NA wy
  ·rw[List.eq_of_mem_replicate e];exact WG lvx
 ·intro z hz;have hz':z∈List.replicate ((ah xs y).2.2.2.2.length-1) (bg 5 0 0 [] 1):=hz;rw[List.eq_of_mem_replicate hz'];exact WE
 ·obtain⟨a,b⟩:=r5 rfl;intro z hz;have hz':z∈(bif (ah xs y).1==7 then[bg 8 (ah xs y).2.1 (ah xs y).2.2.1 [(ah xs x).2.2.1] 2]else[bg 6 0 (wK (ah xs y).2.2.1 (jd (ah xs y).2.2.2.1 0) (ah xs x).2.2.1) [] 1]):=hz;cases hk:(ah xs y).1==7 with
  |true=>
   rw[hk,qG,qX]at hz';rw[hz'];exact WI lvy (Ux wy (by simpa using hk)) (Sg wx a)
  |false=>
   rw[hk,qH,qX]at hz';rw[hz'];exact WH (TQ _ _ _)
 ·have q:=r6 rfl;intro z hz
  have hz':z∈(bif (ah xs x).1==6 then[bg 12 (ah xs y).2.1 (jd (ah xs y).2.2.2.1 (bif (ah xs x).2.2.1==0 then 1 else 0)) [] 1]
   else[bg 12 (ah xs y).2.1 (jd (ah xs y).2.2.2.1 (ah xs x).2.2.1) [] 1]++List.replicate ((ah xs x).2.2.2.2.length-1) (bg 3 (ah xs y).2.1 0 [] 3)):=hz
  rcases q with⟨a,b⟩|⟨a,b⟩
  ·rw[show((ah xs x).1==6)=true by simpa using a,qG,qX]at hz';obtain⟨l2,d⟩:=D8 wy b;rw[hz'];refine Sj lvy (Me d ?_ ?_)
   ·cases (ah xs x).2.2.1==0<;>decide
   ·rw[l2];cases (ah xs x).2.2.1==0<;>decide
  ·rw[show((ah xs x).1==6)=false by simp[a],qH,qT,qX]at hz';obtain⟨_,_,d⟩:=Sd wy b;rcases hz' with e|e
   ·rw[e];exact Sj lvy (Me d (D7 wx a).1 (h6 rfl a))
   ·rw[List.eq_of_mem_replicate e];exact WC lvy
 ·obtain⟨a,b⟩:=r7 rfl;obtain⟨v1,v2⟩:=h7 rfl;intro z hz;have hz':z∈((kY bk xs x).drop 1).map (bW ((xs.length:Nat)-1)):=hz;obtain⟨w,hw1,rfl⟩:=List.mem_map.1 hz';rw[Ie (Oj _ w)];have hw2:=List.mem_of_mem_drop hw1;unfold kY bY at hw2;obtain⟨u,hu,rfl⟩:=List.mem_map.1 hw2;obtain⟨i,hi,rfl⟩:=List.mem_iff_getElem.1 hu;have hv:=uE wx a;have wu:=hb.wf _ hv.1 v1 (i:Nat) (by omega) (by omega)
  have e:ah (bP bk (ah xs x).2.2.1) (i:Nat)=(bP bk (ah xs x).2.2.1)[i]:=by
   generalize bP bk (ah xs x).2.2.1=t at*;unfold ah elt;rw[qK,qC,qB hi];rfl
  rw[e]at wu;refine Sk wu (by omega) ?_;unfold fP at v2;exact List.all_eq_true.1 v2 _ hu
theorem Qn{c:Int}(hw:yI D xs)(hx:0≤x∧x<(xs.length:Nat))(hy:0≤y∧y<(xs.length:Nat))(lx:¬D x)(ly:¬D y)(hr:rule (ah xs x).1 (ah xs x).2.1 (ah xs y).1 (ah xs y).2.1=c)(hc:1≤c∧c≤7)(hb:BkW bk)
  (h6:c=6→(ah xs x).1=9→(ah xs x).2.2.1<((ah xs y).2.2.2.1.length:Nat)) (h7:c=7→(ah xs x).2.2.1<(bk.length:Nat)∧fP (ah xs x).2.1 (bP bk (ah xs x).2.2.1)=true):yI (fun i=>D i∨i∈gD c x y) (gy bk xs c x y):=fun i h0 h1 hi=>Fj hw hx hy lx ly hr hc hb h6 h7 i h0 h1 fun e=>hi (.inl e)
end
end Go.Tr
namespace Go.Tr
open Go Go.RowKit
section
variable {D:Int→Prop}{xs ys:List aj}{x y a b:Int}{bk:List (List aj)}
theorem JF{u v:aj}(hu:Wf u)(hv:Wf v)(ru:u.1≠1)(rv:v.1≠1):kU u.1 u.2.1 v.1 v.2.1=true:=by
 unfold kU;rw[(fQ hu).1,(fQ hv).1];simp[ru,rv]
theorem NQ{u v:aj}(hu:Wf u)(hv:Wf v)(ru:u.1≠1)(rv:v.1≠1):1≤aW u.1 u.2.1 v.1 v.2.1∧aW u.1 u.2.1 v.1 v.2.1≤8:=by
 have hp:=JF hu hv ru rv;unfold aW;rw[hp,if_pos rfl];have r1:=uZ u.1 u.2.1 v.1 v.2.1;have r2:=uZ v.1 v.2.1 u.1 u.2.1;split
 ·split
  ·decide
  ·omega
 ·omega
theorem KH{u v:aj}(hu:Wf u)(hv:Wf v)(ru:u.1≠1)(rv:v.1≠1)(h8:aW u.1 u.2.1 v.1 v.2.1=8):aX u.1 u.2.1 v.1 v.2.1=0:=by
 have hp:=JF hu hv ru rv;unfold aW at h8;unfold aX;rw[hp,if_pos rfl]at h8;rw[hp,if_pos rfl];have r1:=uZ u.1 u.2.1 v.1 v.2.1;have r2:=uZ v.1 v.2.1 u.1 u.2.1;split at h8
 ·rename_i e1;rw[if_pos e1];split at h8
  ·rename_i e2;rw[if_pos e2]
  ·omega
 ·omega
theorem Kq{u v:aj}{c:Int}(hr:rule u.1 u.2.1 v.1 v.2.1=c)(hc:1≤c∧c≤7):mq u v=false∧oU c u v=iB u v:=by
 obtain⟨r1,r2,r3,r4,r5,r6,r7⟩:=iT hr (by omega)
 have k2:u.1≠10:=by
  intro e;have:c=1∨c=2∨c=3∨c=4∨c=5∨c=6∨c=7:=by omega
  rcases this with h|h|h|h|h|h|h
  ·have:=r1 h;omega
  ·have:=r2 h;omega
  ·have:=r3 h;omega
  ·have:=r4 h;omega
  ·have:=r5 h;omega
  ·have:=r6 h;omega
  ·have:=r7 h;omega
 constructor
 ·unfold mq;rw[show(u.1==10)=false by simpa using k2];rfl
 ·unfold oU iB
  have e:(bif c==6 then v.kind==10 else false)=(bif u.1==9 then v.1==10 else false):=by
   show(bif c==6 then v.1==10 else false)=_
   by_cases h9:u.1=9
   ·have hc6:c=6∨v.1≠10:=by
     by_cases hv:v.1=10
     ·left;rw[←hr];unfold rule;rw[h9,hv];rfl
     ·exact .inr hv
    rw[show(u.1==9)=true by simpa using h9,qG];rcases hc6 with h|h
    ·rw[h];rfl
    ·rw[show(v.1==10)=false by simpa using h];cases c==6<;>rfl
   ·rw[show(u.1==9)=false by simpa using h9,qH]
    by_cases h6:c=6
    ·have:=r6 h6;rw[show(v.1==10)=false by simp;omega];cases c==6<;>rfl
    ·rw[show(c==6)=false by simpa using h6];rfl
  rw[e]
theorem Ce(ha:Wf (ah xs a))(hb:Wf (ah xs b))(ra:(ah xs a).1≠1)(rb:(ah xs b).1≠1):(bJ (ah xs a) (ah xs b)).1=bF (ah xs (aC xs a b).1) (ah xs (aC xs a b).2)∧
  ((bJ (ah xs a) (ah xs b)).1≠8→(bif (bJ (ah xs a) (ah xs b)).2 then b else a)=(aC xs a b).1∧(bif (bJ (ah xs a) (ah xs b)).2 then a else b)=(aC xs a b).2∧
   rule (ah xs (aC xs a b).1).1 (ah xs (aC xs a b).1).2.1 (ah xs (aC xs a b).2).1 (ah xs (aC xs a b).2).2.1=(bJ (ah xs a) (ah xs b)).1∧1≤(bJ (ah xs a) (ah xs b)).1∧(bJ (ah xs a) (ah xs b)).1≤7):=by
 have hp:=NQ ha hb ra rb
 by_cases h8:aW (ah xs a).1 (ah xs a).2.1 (ah xs b).1 (ah xs b).2.1=8
 ·have hf:=KH ha hb ra rb h8
  have e1:bJ (ah xs a) (ah xs b)=(8,false):=by
   unfold bJ oU;rw[show(aX (ah xs a).kind (ah xs a).level (ah xs b).kind (ah xs b).level==2)=false by rw[show aX (ah xs a).kind (ah xs a).level (ah xs b).kind (ah xs b).level=0 from hf];rfl];rw[show aW (ah xs a).kind (ah xs a).level (ah xs b).kind (ah xs b).level=8 from h8];rfl
  have e2:aC xs a b=(a,b):=by unfold aC;rw[hf];rfl
  rw[e1,e2];refine⟨?_,fun h=>absurd rfl h⟩;unfold bF;rw[h8];cases iB (ah xs a) (ah xs b)<;>cases mq (ah xs a) (ah xs b)<;>rfl
 ·have hc:1≤aW (ah xs a).1 (ah xs a).2.1 (ah xs b).1 (ah xs b).2.1∧aW (ah xs a).1 (ah xs a).2.1 (ah xs b).1 (ah xs b).2.1≤7:=by omega
  have hr:=KG (xs:=xs) (a:=a) (b:=b) hc;obtain⟨c1,c2⟩:=Kq hr hc
  have hcS:bF (ah xs (aC xs a b).1) (ah xs (aC xs a b).2)=bif iB (ah xs (aC xs a b).1) (ah xs (aC xs a b).2)then 8 else aW (ah xs a).1 (ah xs a).2.1 (ah xs b).1 (ah xs b).2.1:=by
   unfold bF;rw[c1]
   have:aW (ah xs (aC xs a b).1).1 (ah xs (aC xs a b).1).2.1 (ah xs (aC xs a b).2).1 (ah xs (aC xs a b).2).2.1=aW (ah xs a).1 (ah xs a).2.1 (ah xs b).1 (ah xs b).2.1:=by
    unfold aC;cases aX (ah xs a).1 (ah xs a).2.1 (ah xs b).1 (ah xs b).2.1==2 with
    |true=>exact xQ _ _ _ _
    |false=>rfl
   rw[this];cases iB (ah xs (aC xs a b).1) (ah xs (aC xs a b).2)<;>rfl
  rw[hcS];generalize hC:aW (ah xs a).1 (ah xs a).2.1 (ah xs b).1 (ah xs b).2.1=c at*;cases hf:aX (ah xs a).1 (ah xs a).2.1 (ah xs b).1 (ah xs b).2.1==2 with
  |true=>
   have e2:aC xs a b=(b,a):=by unfold aC;rw[hf];rfl
   rw[e2]at hr c2 ⊢
   have e1:bJ (ah xs a) (ah xs b)=bif iB (ah xs b) (ah xs a)then(8,false)else(c,true):=by
    unfold bJ;rw[show(aX (ah xs a).kind (ah xs a).level (ah xs b).kind (ah xs b).level==2)=true from hf,show aW (ah xs a).kind (ah xs a).level (ah xs b).kind (ah xs b).level=c from hC];simp only[qG];rw[c2]
   rw[e1];cases iB (ah xs b) (ah xs a)with
   |true=>exact⟨rfl,fun h=>absurd rfl h⟩
   |false=>exact⟨rfl,fun _=>⟨rfl,rfl,hr,hc⟩⟩
  |false=>
   have e2:aC xs a b=(a,b):=by unfold aC;rw[hf];rfl
   rw[e2]at hr c2 ⊢
   have e1:bJ (ah xs a) (ah xs b)=bif iB (ah xs a) (ah xs b)then(8,false)else(c,false):=by
    unfold bJ;rw[show(aX (ah xs a).kind (ah xs a).level (ah xs b).kind (ah xs b).level==2)=false from hf,show aW (ah xs a).kind (ah xs a).level (ah xs b).kind (ah xs b).level=c from hC];simp only[qH];rw[c2]
   rw[e1];cases iB (ah xs a) (ah xs b)with
   |true=>exact⟨rfl,fun h=>absurd rfl h⟩
   |false=>exact⟨rfl,fun _=>⟨rfl,rfl,hr,hc⟩⟩
end
end Go.Tr
namespace Go.Tr
open Go Go.RowKit
section
variable {xs:List aj}{a b:Int}{bk:List (List aj)}
theorem TH{u v m:Int}:G5 u v≤m↔u≤m∧v≤m:=by
 unfold G5;cases h:decide (v<u)with
 |true=>simp only[qQ]at h;simp only[qG];omega
 |false=>simp only[qP]at h;simp only[qH];omega
theorem Ae{t:List aj}{m:Int}(hm:0≤m):∀k:Nat,lu t k≤m↔∀i:Nat,i<k→(ah t (i:Nat)).2.1≤m
 |0=>⟨fun _ i hi=>by omega,fun _=>hm⟩
 |k+1=>by
  unfold lu;rw[TH,Ae hm k];constructor
  ·rintro⟨h1,h2⟩ i hi
   by_cases e:i=k
   ·rw[e];exact h2
   ·exact h1 i (by omega)
  ·intro h;exact⟨fun i hi=>h i (by omega),h k (by omega)⟩
theorem vR{t:List aj}{i:Nat}(hi:i<t.length):ah t (i:Nat)=t[i]:=by
 unfold ah elt;rw[qK,qC,qB hi];rfl
theorem RO{t:List aj}{lv:Int}(ht:∀i:Int,0≤i→i<(t.length:Nat)→Wf (ah t i))(h0:0≤lv)(h8:lv≤8):decide (8<IntKind.i64.wrap (lu t t.length+lv))= !fP lv t:=by
 have hb:lu t t.length≤8:=(Ae (by decide) _).2 fun i hi=>by
  have:=wT (ht (i:Nat) (by omega) (by omega));omega
 have hz:0≤lu t t.length:=by
  have:∀k:Nat,0≤lu t k:=fun k=>by
   induction k with
   |zero=>exact Int.le_refl 0
   |succ k ih=>unfold lu G5;cases h:decide ((ah t (k:Nat)).2.1<lu t k)with
    |true=>exact ih
    |false=>simp only[qP]at h;simp only[qH];omega
  exact this _
 rw[qO _ (by omega)]
 have key:fP lv t=decide (lu t t.length≤8-lv):=by
  rw[Bool.eq_iff_iff,qQ,Ae (by omega)];unfold fP;rw[List.all_eq_true];constructor
  ·intro h i hi;have q:=h _ (List.getElem_mem hi);have w:=ht (i:Nat) (by omega) (by omega);rw[←vR hi]at q;cases hl:bR (ah t (i:Nat)).kind with
   |true=>
    rw[hl]at q;have:(ah t (i:Nat)).2.1+lv≤8:=by simpa using q
    omega
   |false=>
    have q2:=(fQ w).1;unfold cB at q2;rw[show bR (ah t (i:Nat)).1=false from hl]at q2;simp only[Bool.false_and,Bool.or_false,qD,beq_iff_eq]at q2;omega
  ·intro h u hu;obtain⟨i,hi,rfl⟩:=List.mem_iff_getElem.1 hu;have q:=h i hi;rw[vR hi]at q;have:t[i].level+lv≤8:=by show t[i].2.1+lv≤8;omega
   simp[this]
 rw[key,←decide_not];exact decide_eq_decide.2 (by omega)
theorem S9(ha:Wf (ah xs a))(hb:Wf (ah xs b))(ra:(ah xs a).1≠1)(rb:(ah xs b).1≠1)(hbk:BkW bk):
  ((gM bk (ah xs (aC xs a b).1) (ah xs (aC xs a b).2)).2≠0→(checkN bk xs (a,b)).2.2.2=(gM bk (ah xs (aC xs a b).1) (ah xs (aC xs a b).2)).2)∧
  ((gM bk (ah xs (aC xs a b).1) (ah xs (aC xs a b).2)).2=0→checkN bk xs (a,b)=(bF (ah xs (aC xs a b).1) (ah xs (aC xs a b).2),(aC xs a b).1,(aC xs a b).2,0)∧
   r9 bk xs (bF (ah xs (aC xs a b).1) (ah xs (aC xs a b).2)) (aC xs a b).1 (aC xs a b).2=(gM bk (ah xs (aC xs a b).1) (ah xs (aC xs a b).2)).1∧
   (bF (ah xs (aC xs a b).1) (ah xs (aC xs a b).2)=7→(ah xs (aC xs a b).1).2.2.1<(bk.length:Nat)∧fP (ah xs (aC xs a b).1).2.1 (bP bk (ah xs (aC xs a b).1).2.2.1)=true)):=by
 obtain⟨e1,e2⟩:=Ce ha hb ra rb
 have hx1:Wf (ah xs (aC xs a b).1):=by
  unfold aC;cases aX (ah xs a).1 (ah xs a).2.1 (ah xs b).1 (ah xs b).2.1==2
  ·exact ha
  ·exact hb
 generalize hc:bF (ah xs (aC xs a b).1) (ah xs (aC xs a b).2)=c at*;unfold gM checkN;rw[hc];simp only[e1]
 by_cases h8:c=8
 ·subst h8;refine⟨fun _=>rfl,fun h=> ?_⟩;cases h
 ·obtain⟨k1,k2,k3,k4,k5⟩:=e2 (by rw[e1];exact h8);rw[e1]at k3 k4 k5;have k1':(bif (bJ (ah xs a) (ah xs b)).2 then((a,b):Int×Int).2 else((a,b):Int×Int).1)=(aC xs a b).1:=k1;have k2':(bif (bJ (ah xs a) (ah xs b)).2 then((a,b):Int×Int).1 else((a,b):Int×Int).2)=(aC xs a b).2:=k2;rw[show(c==8)=false by simpa using h8];simp only[qH];rw[k1',k2'];generalize (aC xs a b).1=x at*;generalize (aC xs a b).2=y at*
  by_cases h7:c=7
  ·subst h7;obtain⟨_,_,_,_,_,_,r7⟩:=iT k3 (by decide);have hv:=uE hx1 (r7 rfl).1;have hlv:=wT hx1;rw[show((7:Int)==7)=true from rfl];simp only[qG];cases hd:decide ((bk.length:Int)≤(ah xs x).2.2.1)with
   |true=>
    refine⟨fun _=>rfl,fun h=> ?_⟩;cases h
   |false=>
    simp only[qP]at hd;have hvl:(ah xs x).2.2.1<(bk.length:Nat):=by omega
    rw[RO (hbk.wf _ hv.1 hvl) (by omega) (by omega)];cases hs:fP (ah xs x).2.1 (bP bk (ah xs x).2.2.1)with
    |false=>
     refine⟨fun _=>rfl,fun h=> ?_⟩;cases h
    |true=>
     refine⟨fun h=>absurd rfl h,fun _=>⟨by first|rfl|trivial,by first|rfl|trivial,fun _=>⟨hvl,by first|rfl|trivial⟩⟩⟩
  ·rw[show(c==7)=false by simpa using h7];simp only[qH];refine⟨fun h=>absurd rfl h,fun _=>⟨by first|rfl|trivial,?_,fun h=>absurd h h7⟩⟩;rfl
end
end Go.Tr
namespace Go.Tr
open Go Go.RowKit
abbrev rH:U:=.pair (.int .i64) (.pair (.int .i64) (.pair (.int .i64) (.pair (.int .i64) (.int .i64))))
abbrev aT:=Int×Int×Int×Int×Int
def hasB(xs:List aj)(k:Int):Bool:=bif decide (0≤k)then decide (k<(xs.length:Nat))else false
def RX(xs:List aj)(kv:List (Int×Bool))(k:Int):Bool:=bif hasB xs k then !(bE false kv k)else false
def SB(xs:List aj)(a b:Int):Bool:=
 bif (bif (bif decide (a<b)then gL [(elt (dflt aR) (ah xs a).2.2.2.2 0).1,(elt (dflt aR) (ah xs a).2.2.2.2 0).2] [b,0]else false)then(ah xs a).1 !=1 else false)then(ah xs b).1 !=1 else false
theorem tL(kv:List (Int×Bool))(i j:Int):bE false (fM kv i true) j=if i=j then true else bE false kv j:=by
 induction kv with
 |nil=>
  simp only[fM,bE]
  by_cases h:i=j
  ·rw[if_pos h,show(i==j)=true by simpa using h];rfl
  ·rw[if_neg h,show(i==j)=false by simpa using h];rfl
 |cons e l ih=>
  obtain⟨k,v⟩:=e;simp only[fM];cases h:k==i with
  |true=>
   have h1:k=i:=by simpa using h
   subst h1;simp only[qG,bE]
   by_cases h2:k=j
   ·rw[if_pos h2,show(k==j)=true by simpa using h2];rfl
   ·rw[if_neg h2,show(k==j)=false by simpa using h2];rfl
  |false=>
   have h1:k≠i:=by simpa using h
   simp only[qH,bE,ih]
   by_cases h2:k=j
   ·subst h2;rw[if_neg (Ne.symm h1),if_neg (Ne.symm h1)]
   ·rw[show(k==j)=false by simpa using h2];rfl
theorem tN{kv:List (Int×Bool)}(hT:∀e∈kv,e.2=true){i:Int}(h:bE false kv i=false):(fM kv i true).length=kv.length+1:=by
 induction kv with
 |nil=>rfl
 |cons e l ih=>
  obtain⟨k,v⟩:=e;simp only[bE]at h;simp only[fM];cases hk:k==i with
  |true=>
   rw[hk,qG]at h;have:=hT (k,v) (List.mem_cons_self ..);rw[h]at this;cases this
  |false=>
   rw[hk,qH]at h;simp only[qH,qI];rw[ih (fun e he=>hT e (List.mem_cons_of_mem _ he)) h]
theorem GV{kv:List (Int×Bool)}(hT:∀e∈kv,e.2=true)(i:Int):∀e∈fM kv i true,e.2=true:=by
 induction kv with
 |nil=>
  intro e he;simp only[fM,qX]at he;rw[he]
 |cons e l ih=>
  obtain⟨k,v⟩:=e;simp only[fM];cases hk:k==i with
  |true=>
   intro e he;simp only[qG,List.mem_cons]at he;rcases he with rfl|he
   ·rfl
   ·exact hT e (List.mem_cons_of_mem _ he)
  |false=>
   intro e he;simp only[qH,List.mem_cons]at he;rcases he with rfl|he
   ·exact hT _ (List.mem_cons_self ..)
   ·exact ih (fun e he=>hT e (List.mem_cons_of_mem _ he)) e he
def lI(kv:List (Int×Bool)):Nat→Nat
 |0=>0
 |k+1=>bif bE false kv (k:Nat)then lI kv k+1 else lI kv k
theorem zV{kv:List (Int×Bool)}{x:Int}(h0:0≤x)(h:bE false kv x=false):∀n:Nat,lI (fM kv x true) n=lI kv n+(if x<(n:Nat)then 1 else 0)
 |0=>by rw[if_neg (by omega)];rfl
 |n+1=>by
  unfold lI;rw[tL,zV h0 h n]
  by_cases e:x=(n:Nat)
  ·subst e;rw[if_pos rfl,qG,h,qH,if_neg (by omega),if_pos (by omega)]
  ·rw[if_neg e]
   by_cases hl:x<(n:Nat)
   ·rw[if_pos hl,if_pos (by omega)];cases bE false kv (n:Nat)<;>simp only[qG,qH]<;>omega
   ·rw[if_neg hl,if_neg (by omega)];cases bE false kv (n:Nat)<;>simp only[qG,qH]<;>omega
theorem zU{kv:List (Int×Bool)}{n:Nat}(h:∀i:Int,(n:Int)≤i→bE false kv i=false):∀m:Nat,lI kv (n+m)=lI kv n
 |0=>rfl
 |m+1=>by
  show lI kv ((n+m)+1)=_;unfold lI;rw[h ((n+m:Nat):Int) (by omega),qH];have:=zU h m;rw[this];cases n<;>rfl
theorem Jm{kv:List (Int×Bool)}{ys:List aj}:∀n:Nat,(∀i:Nat,i<n→((ah ys (i:Nat)).1=0↔bE false kv (i:Nat)=true))→dh ys n+lI kv n=n
 |0,_=>rfl
 |n+1,h=>by
  have ih:=Jm n fun i hi=>h i (by omega)
  unfold dh lI;have hn:=h n (by omega)
  by_cases e:(ah ys (n:Nat)).1=0
  ·rw[hn.1 e,show((ah ys (n:Nat)).1 !=0)=false by simpa using e,qG,qH];omega
  ·rw[show((ah ys (n:Nat)).1 !=0)=true by simpa using e,show bE false kv (n:Nat)=false by cases hk:bE false kv (n:Nat)with
    |false=>rfl
    |true=>exact absurd (hn.2 hk) e,qG,qH]
   omega
section
variable {P:List aj→Prop}(hl:∀xs p q,P xs→P (bL xs p q))(ha:∀xs zs,P xs→P (xs++zs))
include hl
theorem jM{xs:List aj}{p q:aD}(h:P xs):P (dA xs p q):=hl _ _ _ h
theorem xk{xs:List aj}{p q:aD}(h:P xs):P (aV xs p q):=by
 unfold aV;cases ((au xs p).1==q.1&&(au xs p).2==q.2)with
 |true=>exact h
 |false=>exact hl _ _ _ h
theorem xM{y:Int}{b:Nat}{xs:List aj}(h:P xs):∀k,P (cO y b xs k)
 |0=>h
 |k+1=>jM hl (xM h k)
include ha
theorem zm{x c d:Int}{xs:List aj}(h:P xs):∀k,P (dF x c d xs k)
 |0=>h
 |k+1=>hl _ _ _ (hl _ _ _ (ha _ _ (zm h k)))
theorem Ji{y:Int}{xs:List aj}(h:P xs):∀k,P (rV y xs k)
 |0=>h
 |k+1=>jM hl (ha _ _ (Ji h k))
theorem Jh{lv x:Int}{b:Nat}{xs:List aj}(h:P xs):∀k,P (oC lv x b xs k)
 |0=>h
 |k+1=>jM hl (hl _ _ _ (ha _ _ (Jh h k)))
theorem CG{bk:List (List aj)}{xs:List aj}{c x y:Int}(h:P xs):P (iq bk xs c x y):=by
 unfold iq;cases c==1
 ·cases c==2
  ·cases c==3
   ·cases c==4
    ·cases c==5
     ·cases c==6
      ·cases c==7
       ·exact h
       ·exact hl _ _ _ (ha _ _ h)
      ·show P (dx xs x y);unfold dx;cases (ah xs y).1==11
       ·exact jM hl (Jh hl ha (ha _ _ h) _)
       ·exact jM hl (ha _ _ h)
     ·show P (bG xs x y);unfold bG;cases (ah xs y).1==7
      ·exact jM hl (ha _ _ h)
      ·exact jM hl (jM hl (ha _ _ h))
    ·exact Ji hl ha h _
   ·exact xM hl (jM hl (jM hl (zm hl ha (ha _ _ (ha _ _ h)) _))) _
  ·exact xk hl (xk hl h)
 ·exact xk hl (xk hl h)
end
def Io(i:Int)(ys:List aj):Prop:=i.toNat<ys.length∧ah ys i=Ba
theorem Io.set{i:Int}{ys:List aj}(h:Io i ys)(p q:aD):Io i (aL ys p q):=by
 refine⟨by rw[cK];exact h.1,?_⟩;rw[eF];split
 ·rename_i e;rw[yL e.1,h.2];rfl
 ·exact h.2
theorem Io.inter{i:Int}{ys:List aj}(h:Io i ys)(bk:List (List aj))(c x y:Int):Io i (iq bk ys c x y):=
 CG (P:=Io i) (fun xs p q h=>(h.set p q).set q p) (fun xs zs h=>⟨by rw[qA];have:=h.1;omega,by rw[dw h.1];exact h.2⟩) h
theorem Io.drop{i:Int}{ys:List aj}(h:Io i ys)(a:Int):Io i (bC ys a):=by
 refine⟨by rw[eO];exact h.1,?_⟩;unfold bC;rw[kQ];split
 ·rfl
 ·exact h.2
theorem Io.new{ys:List aj}{a:Int}(h0:0≤a)(h1:a<(ys.length:Nat)):Io a (bC ys a):=by
 refine⟨by rw[eO];omega,?_⟩;unfold bC;rw[kQ,if_pos ⟨rfl,by omega⟩]
theorem Fh{xs:List aj}(bk:List (List aj))(c x y:Int):xs.length≤(iq bk xs c x y).length:=
 CG (P:=fun ws=>xs.length≤ws.length) (fun ws p q h=>by rw[jf];exact h) (fun ws zs h=>by rw[qA];omega) (Nat.le_refl _)
theorem bf.XA{xs:List aj}{p q:aD}(h:∀r,ak xs r→r≠p→r≠q→ak xs (au xs r))(hp:ak xs p)(hq:ak xs q):bf (bL xs p q):=fun r hr=>by
 have hr':=hr.unlink;rw[jC hp hq hr'];split
 ·exact hp.link
 ·rename_i e1;split
  ·exact hq.link
  ·rename_i e2;exact(h r hr' (Ne.symm e2) (Ne.symm e1)).link
section
variable {xs:List aj}{x y c:Int}{bk:List (List aj)}
theorem TA(hp:IntPre xs c x y)(hA:bf xs)(h0:ak xs (0,0))(hc:1≤c∧c≤7)(hb:BkW bk)(h7:c=7→(0≤(ah xs x).2.2.1∧(ah xs x).2.2.1<(bk.length:Nat))):bf (gy bk xs c x y):=by
 obtain⟨hx0,hy0,p12,p3,px,py,dy,p5,p6⟩:=hp;have hcs:c=1∨c=2∨c=3∨c=4∨c=5∨c=6∨c=7:=by omega
 rcases hcs with rfl|rfl|rfl|rfl|rfl|rfl|rfl
 ·obtain⟨j1,j2,j3,j4⟩:=p12 (.inl rfl);exact(hA.join j1 j3).join j2.join j4.join
 ·obtain⟨j1,j2,j3,j4⟩:=p12 (.inr rfl);exact(hA.join j1 j3).join j2.join j4.join
 ·obtain⟨hx1,hx2⟩:=p3 rfl;show bf (bH xs x y);have h2A:=vZ (y:=y) hA h0;have hcd:∀i:Nat,i≤(ah xs y).2.2.2.2.length-1→ak (dup2 xs y) (((xs.length:Nat):Int),(i:Nat))∧ak (dup2 xs y) (((xs.length+1:Nat):Int),(i:Nat)):=fun i hi=>⟨qb (by omega) (by omega),qg (by omega) (by omega)⟩
  have h3A:bf (dup3 xs x y):=lM h2A (mD h0) _ hcd;have h3:∀{p},ak xs p→ak (dup3 xs x y) p:=fun h=>bV (mD h) _
  have hc0:ak (dup3 xs x y) (((xs.length:Nat):Int),0):=bV (qb (by decide) (by omega)) _;have hd0:ak (dup3 xs x y) (((xs.length+1:Nat):Int),0):=bV (qg (by decide) (by omega)) _;have h4A:bf (kE xs x y):=(h3A.move (h3 hx1) hc0).move (h3 hx2).move hd0.move;refine kF h4A _ fun i hi=>⟨(h3 ⟨hy0.1,hy0.2,by omega,?_⟩).move.move,?_⟩
  ·show((i:Nat):Int)+1<((ah xs y).2.2.2.2.length:Nat);omega
  ·have:=(qh (x:=x) (c:=((xs.length:Nat):Int)) (d:=((xs.length+1:Nat):Int)) (xs:=dup2 xs y) hi).move (p:=(x,1)) (q:=(((xs.length:Nat):Int),0));have:=this.move (p:=(x,2)) (q:=(((xs.length+1:Nat):Int),0));rw[gK]at this;exact this
 ·exact wZ hA h0 _ fun i hi=>⟨hy0.1,hy0.2,by omega,by show((i+1:Nat):Int)<((ah xs y).2.2.2.2.length:Nat);omega⟩
 ·obtain⟨j1,j2,j3⟩:=p5 rfl;show bf (bG xs x y);unfold bG;cases hk:(ah xs y).1==7 with
  |true=>
   have k7:=j2 (by simpa using hk);exact((hA.add h0 _ _ _ _ _).move j1.app (ak.new (by decide) (by decide))).move k7.app.move (ak.new (by decide) (by decide)).move
  |false=>exact(hA.add h0 _ _ _ _ _).move j1.app (ak.new (by decide) (by decide))
 ·obtain⟨j1,j2,j3⟩:=p6 rfl;show bf (jP xs x y);unfold jP;cases hk:(ah xs x).1==6 with
  |true=>exact(hA.add h0 _ _ _ _ _).move j1.app (ak.new (by decide) (by decide))
  |false=>
   simp only[qH];have h1A:bf (bD xs y (ah xs x).2.2.1):=hA.add h0 _ _ _ _ _;have h1l:(bD xs y (ah xs x).2.2.1).length=xs.length+1:=pO _ _ _;have h1R:ak (bD xs y (ah xs x).2.2.1) (iO (bD xs y (ah xs x).2.2.1).length 0):=by rw[h1l];exact ak.new (by decide) (by decide)
   have h1:∀{p},ak xs p→ak (bD xs y (ah xs x).2.2.1) p:=fun h=>h.app
   have h2A:=Gj (lv:=(ah xs y).2.1) h1A (h1 h0) h1R ((ah xs x).2.2.2.2.length-1);have hR:=EO (lv:=(ah xs y).2.1) h1R ((ah xs x).2.2.2.2.length-1);have h2:∀{p},ak xs p→ak (pK (ah xs y).2.1 (bD xs y (ah xs x).2.2.1).length (bD xs y (ah xs x).2.2.1) ((ah xs x).2.2.2.2.length-1)) p:=fun h=>BZ (h1 h) _
   have hxi:∀i:Nat,i<((ah xs x).2.2.2.2.length-1)→ak (pK (ah xs y).2.1 (bD xs y (ah xs x).2.2.1).length (bD xs y (ah xs x).2.2.1) ((ah xs x).2.2.2.2.length-1)) (x,((i:Nat):Int)+1)∧ak (pK (ah xs y).2.1 (bD xs y (ah xs x).2.2.1).length (bD xs y (ah xs x).2.2.1) ((ah xs x).2.2.2.2.length-1)) ((((bD xs y (ah xs x).2.2.1).length+i:Nat):Int),1):=fun i hi=>
    ⟨h2 ⟨hx0.1,hx0.2,by omega,by show((i:Nat):Int)+1<((ah xs x).2.2.2.2.length:Nat);omega⟩,yQ (by decide) (by decide) hi⟩
   rw[h1l]at h2A h2 hxi hR;exact(BH h2A _ hxi).move (mg (h2 j1) _) (mg hR _)
 ·obtain⟨v0,v1⟩:=h7 rfl;show bf (mF bk xs x y);unfold mF kY;have hw:=hb.wi _ v0 v1;have r0:=hb.r0 _ v0 v1;have r1:=hb.r1 _ v0 v1;generalize bP bk (ah xs x).2.2.1=t at*;generalize (ah xs x).2.1=lv;generalize hbb:(xs.length:Int)-1=b;have hb':b=(xs.length:Int)-1:=hbb.symm;have hws:iy (fun p=>ak (bY lv t) p) (bY lv t):=hw.shift;have r0s:ak (bY lv t) (0,0):=ak.jm.2 r0;have r1s:∀p,ak (bY lv t) p→p.1=0→p=(0,0):=fun p hp e=>r1 p (ak.jm.1 hp) e
  generalize bY lv t=T at*;obtain⟨q1,q2,q3,q4⟩:=hws (0,0) r0s
  have rpos:1≤(au T (0,0)).1:=by
   have h1:0≤(au T (0,0)).1:=q2.1
   by_cases e:(au T (0,0)).1=0
   ·exact absurd (r1s _ q2 e) q4
   ·omega
  have hR:ak (xs++(T.drop 1).map (bW b)) ((au T (0,0)).1+b,(au T (0,0)).2):=(ak.lV hb').2 (.inr ⟨by show(xs.length:Int)≤(au T (0,0)).1+b;omega,by
   rw[show(((au T (0,0)).1+b,(au T (0,0)).2):aD).1-b=(au T (0,0)).1 by show(au T (0,0)).1+b-b=_;omega];exact q2⟩)
  have hY:ak xs (y,0):=⟨hy0.1,hy0.2,Int.le_refl 0,by show(0:Int)<((ah xs y).2.2.2.2.length:Nat);omega⟩;refine bf.XA (fun r hr n1 n2=> ?_) hY.app hR;rcases(ak.lV hb').1 hr with q|⟨q,qt⟩
  ·rw[nI (CP q)];exact(hA r q).app
  ·rw[wL hb' q qt];obtain⟨s1,s2,s3,s4⟩:=hws _ qt
   by_cases e:(au T (r.1-b,r.2)).1=0
   ·exfalso;have e2:=r1s _ s2 e;rw[e2]at s3;apply n2;rw[s3];exact dW (by show r.1=r.1-b+b;omega) rfl
   ·have s20:0≤(au T (r.1-b,r.2)).1:=s2.1;refine(ak.lV hb').2 (.inr ⟨by show(xs.length:Int)≤(au T (r.1-b,r.2)).1+b;omega,?_⟩);rw[show(((au T (r.1-b,r.2)).1+b,(au T (r.1-b,r.2)).2):aD).1-b=(au T (r.1-b,r.2)).1 by show(au T (r.1-b,r.2)).1+b-b=_;omega];exact s2
end
end Go.Tr
namespace Go.Tr
open Go Go.RowKit
abbrev Gone(kv:List (Int×Bool)):Int→Prop:=fun i=>bE false kv i=true
theorem Qa(kv:List (Int×Bool))(ks:List Int)(i:Int):Gone (kW kv ks) i↔Gone kv i∨i∈ks:=by
 unfold kW Gone
 induction ks generalizing kv with
 |nil=>simp
 |cons k ks ih=>
  rw[List.foldl_cons,ih,tL,List.mem_cons]
  by_cases h:k=i
  ·rw[if_pos h];simp[h]
  ·rw[if_neg h];constructor
   ·rintro(h1|h1)
    ·exact .inl h1
    ·exact .inr (.inr h1)
   ·rintro(h1|h1|h1)
    ·exact .inl h1
    ·exact absurd h1.symm h
    ·exact .inr h1
theorem XW{kv:List (Int×Bool)}(hT:∀e∈kv,e.2=true)(ks:List Int):∀e∈kW kv ks,e.2=true:=by
 unfold kW
 induction ks generalizing kv with
 |nil=>exact hT
 |cons k ks ih=>rw[List.foldl_cons];exact ih (GV hT k)
structure BkV(bk:List (List aj)):Prop extends BkW bk where
 rt:∀v:Int,0≤v→v<(bk.length:Nat)→∀i:Int,0<i→i<((bP bk v).length:Nat)→(ah (bP bk v) i).1≠1
structure Twin(kv:List (Int×Bool))(xs ys:List aj):Prop where
 st:St (Gone kv) xs ys
 wf:yI (Gone kv) xs
 dl:∀i,Gone kv i→0≤i∧i<(xs.length:Nat)
 hole:∀i,Gone kv i→Io i ys
 r1:(ah xs 0).1=1
 r0:¬Gone kv 0
 rl:0<xs.length
 uq:∀i:Int,0<i→i<(xs.length:Nat)→¬Gone kv i→(ah xs i).1≠1
 kt:∀e∈kv,e.2=true
 kl:kv.length=lI kv xs.length
 al:bf xs
section
variable {kv:List (Int×Bool)}{xs ys:List aj}{a b x y c:Int}{bk:List (List aj)}
theorem Twin.len(h:Twin kv xs ys):xs.length=ys.length:=h.st.ag.1
theorem Twin.at_(h:Twin kv xs ys){i:Int}(h0:0≤i)(h1:i<(xs.length:Nat))(hd:¬Gone kv i):ah ys i=ah xs i:=(h.st.ag.2 i h0 h1 hd).symm
theorem Twin.p0(h:Twin kv xs ys):ak xs (0,0):=by
 have w:=h.wf 0 (Int.le_refl 0) (by have:=h.rl;omega) h.r0;have:=(fQ w).2.2.2;exact⟨Int.le_refl 0,by have:=h.rl;show(0:Int)<_;omega,Int.le_refl 0,by show(0:Int)<((ah xs 0).2.2.2.2.length:Nat);omega⟩
theorem Twin.Yw(h:Twin kv xs ys):ak ys (0,0):=(h.st.ag.port h.p0 h.r0).1
theorem Twin.Kl(h:Twin kv xs ys):bf ys:=fun p hp=>by
 by_cases hd:Gone kv p.1
 ·have e:=(h.hole _ hd).2;obtain⟨_,_,h3,h4⟩:=hp;rw[e]at h4;have:p.2<((0:Nat):Int):=h4;omega
 ·have hpx:ak xs p:=by
   obtain⟨h1,h2,h3,h4⟩:=hp;rw[←h.len]at h2;rw[h.at_ h1 h2 hd]at h4;exact⟨h1,h2,h3,h4⟩
  obtain⟨_,k2,_,_⟩:=h.st.wi p ⟨hpx,hd⟩;rw[(h.st.ag.port hpx hd).2];exact(h.st.ag.port k2.1 k2.2).1
theorem Twin.live(h:Twin kv xs ys):dh ys ys.length+kv.length=xs.length:=by
 rw[h.kl,h.len];refine Jm _ fun i hi=> ?_
 constructor
 ·intro e;cases hk:bE false kv (i:Nat)with
  |true=>rfl
  |false=>
   have hd:¬Gone kv (i:Nat):=fun e=>by
    have e':bE false kv (i:Nat)=true:=e;rw[hk]at e';cases e'
   have hl:=h.len;have w:=Ic (h.wf (i:Nat) (by omega) (by omega) hd);rw[h.at_ (by omega) (by omega) hd]at e;omega
 ·intro e;rw[(h.hole _ e).2];rfl
theorem lG.symm{D:Int→Prop}(k:lG D xs a b)(h:St D xs ys):lG D xs b a:=by
 obtain⟨_,_,h3,_⟩:=h.wi (a,0) ⟨k.px,k.lx⟩;rw[k.w]at h3;exact⟨k.ne.symm,k.ly,k.lx,k.py,k.px,h3⟩
theorem lG.first{D:Int→Prop}(k:lG D xs a b)(h:St D xs ys):lG D xs (aC xs a b).1 (aC xs a b).2:=by
 unfold aC;cases aX (ah xs a).1 (ah xs a).2.1 (ah xs b).1 (ah xs b).2.1==2
 ·exact k
 ·exact k.symm h
theorem iN{u:aj}(w:Wf u):0<u.2.2.2.2.length∧u.2.2.2.2.length≤4:=by
 have k:=Ic w;obtain⟨x1,x2,x3,x4⟩:=rO w;refine⟨(fQ w).2.2.2,?_⟩
 by_cases h9:u.1=9
 ·exact(x4 h9).2
 ·by_cases h1:u.1=1∨u.1=5∨u.1=6∨u.1=12
  ·rw[x1 h1];decide
  ·by_cases h2:u.1=8∨u.1=10∨u.1=11
   ·rw[x2 h2];decide
   ·rw[x3 (by omega)];decide
theorem MI(wx:Wf (ah xs x))(wy:Wf (ah xs y))(hx:0≤x∧x<(xs.length:Nat))(hy:0≤y∧y<(xs.length:Nat))(hr:rule (ah xs x).1 (ah xs x).2.1 (ah xs y).1 (ah xs y).2.1=c)(hc:1≤c∧c≤7)
  (h6:(ah xs x).1=9→(ah xs y).1=10→(ah xs x).2.2.1<((ah xs y).2.2.2.1.length:Nat)):F9 xs c x y:=by
 obtain⟨r1,r2,r3,r4,r5,r6,r7⟩:=iT hr (by omega);obtain⟨x1,x2,x3,x4⟩:=rO wx;obtain⟨y1,y2,y3,y4⟩:=rO wy;have sx:=iN wx;have sy:=iN wy;have inx:∀s:Int,0≤s→s<((ah xs x).2.2.2.2.length:Nat)→ak xs (x,s):=fun s h0 h1=>⟨hx.1,hx.2,h0,h1⟩
 have iny:∀s:Int,0≤s→s<((ah xs y).2.2.2.2.length:Nat)→ak xs (y,s):=fun s h0 h1=>⟨hy.1,hy.2,h0,h1⟩
 refine⟨⟨hx,hy,fun e=> ?_,fun e=> ?_,by omega,by omega,by have:=wf_data wy;omega,fun e=> ?_,fun e=> ?_⟩,fun e=>(r5 e).2,fun e=> ?_⟩
 ·have kx:(ah xs x).2.2.2.2.length=3:=x3 (by rcases e with e|e;(have:=r1 e;omega);(have:=r2 e;omega));have ky:(ah xs y).2.2.2.2.length=3:=y3 (by rcases e with e|e;(have:=r1 e;omega);(have:=r2 e;omega));exact⟨inx 1 (by decide) (by omega),inx 2 (by decide) (by omega),iny 1 (by decide) (by omega),iny 2 (by decide) (by omega)⟩
 ·have kx:(ah xs x).2.2.2.2.length=3:=x3 (by have:=r3 e;omega);exact⟨inx 1 (by decide) (by omega),inx 2 (by decide) (by omega)⟩
 ·obtain⟨a1,a2⟩:=r5 e;refine⟨?_,fun k7=> ?_,fun k7=> ?_⟩
  ·rcases a2 with q|q
   ·exact iny 1 (by decide) (by rw[y3 (by omega)];decide)
   ·exact iny 1 (by decide) (by rw[y2 (by omega)];decide)
  ·exact iny 2 (by decide) (by rw[y3 (by omega)];decide)
  ·have:=(Si wy (by omega)).1;omega
 ·refine⟨?_,fun k6=> ?_,fun k6=> ?_⟩
  ·exact iny 1 (by decide) (by rw[y2 (by have:=r6 e;omega)];decide)
  ·exact(D8 wy (by have:=r6 e;omega)).1
  ·have q:=r6 e;have k9:(ah xs x).1=9:=by omega
   exact⟨(D7 wx k9).1,h6 k9 (by omega)⟩
 ·have q:=r6 e;refine⟨fun k=>(D8 wy k).1,fun k=> ?_⟩;have k9:(ah xs x).1=9:=by omega
  exact⟨(D7 wx k9).1,h6 k9 (by omega),k9⟩
theorem uL(h:iB (ah xs x) (ah xs y)=false):(ah xs x).1=9→(ah xs y).1=10→(ah xs x).2.2.1<((ah xs y).2.2.2.1.length:Nat):=fun h9 h10=>by
 unfold iB at h;rw[show((ah xs x).1==9)=true by simpa using h9,show((ah xs y).1==10)=true by simpa using h10]at h;simp only[qG,qP]at h;omega
theorem Ot(hy:(ah xs y).1≠1)(hc:1≤c∧c≤7)(hb:BkV bk)(h7:c=7→(0≤(ah xs x).2.2.1∧(ah xs x).2.2.1<(bk.length:Nat))):∀z∈rz bk xs c x y,z.1≠1:=by
 have hcs:c=1∨c=2∨c=3∨c=4∨c=5∨c=6∨c=7:=by omega
 intro z hz;rcases hcs with rfl|rfl|rfl|rfl|rfl|rfl|rfl
 ·cases hz
 ·cases hz
 ·have hz':z∈[lq xs y]++[lq xs y]++List.replicate ((ah xs y).2.2.2.2.length-1) (bg 4 (ah xs x).2.1 0 [] 3):=hz;rw[qT,qT,qX]at hz';rcases hz' with(e|e)|e
  ·rw[e];exact hy
  ·rw[e];exact hy
  ·rw[List.eq_of_mem_replicate e];intro k;cases k
 ·have hz':z∈List.replicate ((ah xs y).2.2.2.2.length-1) (bg 5 0 0 [] 1):=hz;rw[List.eq_of_mem_replicate hz'];intro k;cases k
 ·have hz':z∈(bif (ah xs y).1==7 then[bg 8 (ah xs y).2.1 (ah xs y).2.2.1 [(ah xs x).2.2.1] 2]else[bg 6 0 (wK (ah xs y).2.2.1 (jd (ah xs y).2.2.2.1 0) (ah xs x).2.2.1) [] 1]):=hz;cases hk:(ah xs y).1==7 with
  |true=>rw[hk,qG,qX]at hz';rw[hz'];intro k;cases k
  |false=>rw[hk,qH,qX]at hz';rw[hz'];intro k;cases k
 ·have hz':z∈(bif (ah xs x).1==6 then[bg 12 (ah xs y).2.1 (jd (ah xs y).2.2.2.1 (bif (ah xs x).2.2.1==0 then 1 else 0)) [] 1]
   else[bg 12 (ah xs y).2.1 (jd (ah xs y).2.2.2.1 (ah xs x).2.2.1) [] 1]++List.replicate ((ah xs x).2.2.2.2.length-1) (bg 3 (ah xs y).2.1 0 [] 3)):=hz
  cases hk:(ah xs x).1==6 with
  |true=>rw[hk,qG,qX]at hz';rw[hz'];intro k;cases k
  |false=>
   rw[hk,qH,qT,qX]at hz';rcases hz' with e|e
   ·rw[e];intro k;cases k
   ·rw[List.eq_of_mem_replicate e];intro k;cases k
 ·obtain⟨v0,v1⟩:=h7 rfl;have hz':z∈((kY bk xs x).drop 1).map (bW ((xs.length:Nat)-1)):=hz;obtain⟨w,hw,rfl⟩:=List.mem_map.1 hz';unfold kY bY at hw;rw[←List.map_drop]at hw;obtain⟨u,hu,rfl⟩:=List.mem_map.1 hw;obtain⟨i,hi,rfl⟩:=List.mem_iff_getElem.1 hu;have hrt:=hb.rt _ v0 v1;generalize bP bk (ah xs x).2.2.1=t at*;rw[List.length_drop]at hi;rw[List.getElem_drop];have:=hrt ((1+i:Nat):Int) (by omega) (by omega);rw[vR (by omega)]at this;show(iU _ t[1+i]).1≠1;unfold iU;cases bR (t[1+i]).kind
  ·exact this
  ·exact this
theorem Twin.next(h:Twin kv xs ys)(k:lG (Gone kv) xs x y)(hb:BkV bk)(rx:(ah xs x).1≠1)(ry:(ah xs y).1≠1)(hr:rule (ah xs x).1 (ah xs x).2.1 (ah xs y).1 (ah xs y).2.1=c)(hc:1≤c∧c≤7)(hcl:iB (ah xs x) (ah xs y)=false)
  (h7:c=7→(ah xs x).2.2.1<(bk.length:Nat)∧fP (ah xs x).2.1 (bP bk (ah xs x).2.2.1)=true):F9 xs c x y∧F9 ys c x y∧(c=7→0≤(ah xs x).2.2.1)∧Twin (kW kv (gD c x y)) (gy bk xs c x y) (fT bk ys c x y)∧(gy bk xs c x y).length=xs.length+(rz bk xs c x y).length:=by
 have hx:0≤x∧x<(xs.length:Nat):=⟨k.px.1,k.px.2.1⟩;have hy:0≤y∧y<(xs.length:Nat):=⟨k.py.1,k.py.2.1⟩;have wx:=h.wf x hx.1 hx.2 k.lx;have wy:=h.wf y hy.1 hy.2 k.ly;have sp:=MI wx wy hx hy hr hc (uL hcl);have ex:=h.at_ hx.1 hx.2 k.lx;have ey:=h.at_ hy.1 hy.2 k.ly;have sy:F9 ys c x y:=MI (by rw[ex];exact wx) (by rw[ey];exact wy) (by rw[←h.len];exact hx) (by rw[←h.len];exact hy) (by rw[ex,ey];exact hr) hc (uL (by rw[ex,ey];exact hcl));have v0:c=7→0≤(ah xs x).2.2.1:=fun e=>(uE wx ((iT hr (by omega)).2.2.2.2.2.2 e).1).1
 have sg:=Ai (bk:=bk) (xs:=xs) (x:=x) (y:=y) hc (by omega);have hln:(gy bk xs c x y).length=xs.length+(rz bk xs c x y).length:=by rw[sg.1,qA]
 have gr:∀i,Gone (kW kv (gD c x y)) i↔Gone kv i∨i∈gD c x y:=fun i=>Qa kv _ i
 have ge:Gone (kW kv (gD c x y))=fun i=>Gone kv i∨i∈gD c x y:=funext fun i=>propext (gr i)
 have gxy:∀i,i∈gD c x y→i=x∨i=y:=fun i hi=>by
  unfold gD at hi;cases hq:c==7 with
  |true=>rw[hq,qG,qX]at hi;exact .inl hi
  |false=>rw[hq,qH]at hi;simpa using hi
 have nx:x≠0:=fun e=>rx (by rw[e];exact h.r1)
 have ny:y≠0:=fun e=>ry (by rw[e];exact h.r1)
 have ksig:∀i:Int,0≤i→i<(xs.length:Nat)→(ah (gy bk xs c x y) i).1=(ah xs i).1:=fun i i0 i1=>by
  have:=sg.2 i i0 (by rw[hln];omega);rw[dw (by omega)]at this;exact congrArg (fun s:Int×Int×Int×List Int×Nat=>s.1) this
 refine⟨sp,sy,v0,?_,hln⟩;refine⟨?_,?_,?_,?_,?_,?_,by omega,?_,XW h.kt _,?_,TA sp.toIntPre h.al h.p0 hc hb.toBkW fun e=>⟨v0 e,(h7 e).1⟩⟩
 ·rw[ge];exact Qm h.st k (fun i hi=>(h.dl i hi).2) h.wf hr hc hb.toBkW fun e=>(h7 e).1
 ·rw[ge];exact Qn h.wf hx hy k.lx k.ly hr hc hb.toBkW (fun e e9=>by
   have q:=(iT hr (by omega)).2.2.2.2.2.1 e;exact uL hcl e9 (by omega)) h7
 ·intro i hi;rcases(gr i).1 hi with e|e
  ·have:=h.dl i e;omega
  ·rcases gxy i e with e|e<;>omega
 ·intro i hi;unfold fT;have hl:=h.len;have hle:=Fh (xs:=ys) bk c x y;have n1:Io x (bC (iq bk ys c x y) x):=Io.new hx.1 (by omega);have n2:Io y (bC (bC (iq bk ys c x y) x) y):=Io.new hy.1 (by rw[eO];omega);rcases(gr i).1 hi with e|e
  ·have q:=(h.hole i e).inter bk c x y;cases c==7
   ·exact(q.drop x).drop y
   ·exact q.drop x
  ·unfold gD at e;cases hq:c==7 with
   |true=>rw[hq,qG,qX]at e;rw[e];exact n1
   |false=>
    rw[hq,qH]at e;have e2:i=x∨i=y:=by simpa using e
    rcases e2 with e2|e2
    ·rw[e2];exact n1.drop y
    ·rw[e2];exact n2
 ·rw[ksig 0 (Int.le_refl 0) (by have:=h.rl;omega)];exact h.r1
 ·intro e;rcases(gr 0).1 e with e|e
  ·exact h.r0 e
  ·rcases gxy 0 e with e|e
   ·exact nx e.symm
   ·exact ny e.symm
 ·intro i i0 i1 hi;have hi2:¬Gone kv i:=fun e=>hi ((gr i).2 (.inl e))
  by_cases hl:i<(xs.length:Nat)
  ·rw[ksig i (by omega) hl];exact h.uq i i0 hl hi2
  ·have:=sg.2 i (by omega) i1;have hlt:i.toNat-xs.length<(rz bk xs c x y).length:=by omega
   have e:ah (xs++rz bk xs c x y) i=(rz bk xs c x y)[i.toNat-xs.length]:=by
    unfold ah elt;rw[qC,qL (by omega),qB hlt];rfl
   rw[e]at this;have k1:(ah (gy bk xs c x y) i).1=((rz bk xs c x y)[i.toNat-xs.length]).1:=congrArg (fun s:Int×Int×Int×List Int×Nat=>s.1) this;rw[k1];exact Ot ry hc hb (fun e=>⟨v0 e,(h7 e).1⟩) _ (List.getElem_mem hlt)
 ·have gf:∀{kv:List (Int×Bool)} {i:Int},¬Gone kv i→bE false kv i=false:=fun {kv i} hi=>by
   cases hq:bE false kv i with
   |true=>exact absurd hq hi
   |false=>rfl
  have c1:lI (fM kv x true) xs.length=lI kv xs.length+1:=by rw[zV hx.1 (gf k.lx),if_pos hx.2]
  have l1:(fM kv x true).length=kv.length+1:=tN h.kt (gf k.lx);have y1:bE false (fM kv x true) y=false:=by rw[tL,if_neg k.ne];exact gf k.ly
  have c2:lI (fM (fM kv x true) y true) xs.length=lI kv xs.length+2:=by rw[zV hy.1 y1,if_pos hy.2,c1]
  have l2:(fM (fM kv x true) y true).length=kv.length+2:=by rw[tN (GV h.kt x) y1,l1]
  have hn:∀i:Int,(xs.length:Int)≤i→bE false (kW kv (gD c x y)) i=false:=fun i hi=>gf fun e=>by
   rcases(gr i).1 e with e|e
   ·have:=h.dl i e;omega
   ·rcases gxy i e with e|e<;>omega
  rw[hln,zU hn];have hk:=h.kl;unfold gD;cases c==7
  ·show(fM (fM kv x true) y true).length=lI (fM (fM kv x true) y true) xs.length;omega
  ·show(fM kv x true).length=lI (fM kv x true) xs.length;omega
end
end Go.Tr
namespace Go.Tr
open Go Go.RowKit
def jI(f:Int→Int)(p:aD):aD:=(f p.1,p.2)
def sG(f:Int→Int)(a:aj):aj:=(a.1,a.2.1,a.2.2.1,a.2.2.2.1,a.2.2.2.2.map (jI f))
def dL(ys:List aj)(i:Nat):Bool:=(ah ys (i:Nat)).1 !=0
def iC(ys:List aj):Nat→Nat
 |0=>0
 |k+1=>bif dL ys k then iC ys k+1 else iC ys k
def tX(ys:List aj)(x:Int):Int:=((iC ys x.toNat:Nat):Int)
def iw(ys:List aj):Nat→List aj
 |0=>[]
 |k+1=>bif dL ys k then iw ys k++[sG (tX ys) (ah ys (k:Nat))]else iw ys k
def mI(ys:List aj):List aj:=iw ys ys.length
def d9(kv:List (Int×Bool)):Nat→List Int
 |0=>[]
 |k+1=>bif !(bE false kv ((k:Nat):Int))then d9 kv k++[((k:Nat):Int)]else d9 kv k
def LB(ord:List Int):Nat→List (Int×Int)
 |0=>[]
 |i+1=>fM (LB ord i) (elt 0 ord ((i:Nat):Int)) ((i:Nat):Int)
def Nw(ord:List Int)(x:Int):Int:=bE 0 (LB ord ord.length) x
def sF(xs:List aj)(ord:List Int):Nat→List aj
 |0=>[]
 |i+1=>sF xs ord i++[sG (Nw ord) (ah xs (elt 0 ord ((i:Nat):Int)))]
theorem Oc{α:Type}(d:α)(kv:List (Int×α))(i j:Int)(x:α):bE d (fM kv i x) j=if i=j then x else bE d kv j:=by
 induction kv with
 |nil=>
  unfold fM bE
  by_cases h:i=j
  ·rw[if_pos h,show(i==j)=true by simpa using h];rfl
  ·rw[if_neg h,show(i==j)=false by simpa using h];rfl
 |cons e kv ih=>
  obtain⟨k,v⟩:=e;unfold fM
  by_cases h:k=i
  ·rw[show(k==i)=true by simpa using h,qG];unfold bE;subst h
   by_cases h2:k=j
   ·rw[if_pos h2,show(k==j)=true by simpa using h2];rfl
   ·rw[if_neg h2,show(k==j)=false by simpa using h2];rfl
  ·rw[show(k==i)=false by simpa using h,qH]
   conv=>lhs;unfold bE
   conv=>rhs;unfold bE
   by_cases h2:k=j
   ·rw[show(k==j)=true by simpa using h2,qG,qG,if_neg (by omega)]
   ·rw[show(k==j)=false by simpa using h2,qH,qH,ih]
theorem Dt(xs:List aj)(ord:List Int):∀i:Nat,i≤ord.length→sF xs ord i=(ord.take i).map fun k=>sG (Nw ord) (ah xs k)
 |0,_=>by rw[List.take_zero];rfl
 |i+1,h=>by
  unfold sF;rw[Dt xs ord i (by omega),List.take_add_one,qZ,qB (by omega)];unfold elt;rw[qK,qC,qB (by omega)];rfl
def oJ(f:Int→Int)(ps:List aD)(j:Nat):List aD:=(ps.take j).map (jI f)++ps.drop j
theorem OI(f:Int→Int)(ps:List aD)(j:Nat):(oJ f ps j).length=ps.length:=by unfold oJ;simp;omega
theorem RF{f:Int→Int}{ps:List aD}{j:Nat}(h:j<ps.length):elt (dflt aR) (oJ f ps j) (j:Nat)=elt (dflt aR) ps (j:Nat):=by
 unfold elt oJ;rw[qK,qC,qC,qL (by simp;omega)];simp;rw[show j-min j ps.length=0 by omega,Nat.add_zero]
theorem Lh{f:Int→Int}{ps:List aD}{j:Nat}(h:j<ps.length):oJ f ps (j+1)=(oJ f ps j).set j (f (elt (dflt aR) ps (j:Nat)).1,(elt (dflt aR) ps (j:Nat)).2):=by
 have he:elt (dflt aR) ps (j:Nat)=ps[j]:=by
  unfold elt;rw[qK,qC,qB h];rfl
 unfold oJ;rw[List.set_append_right _ _ (by simp;omega),List.take_add_one,qB h,qZ,he];have e:j-((ps.take j).map (jI f)).length=0:=by simp;omega
 rw[e,List.drop_eq_getElem_cons h,List.set_cons_zero];simp[jI]
theorem OH(f:Int→Int)(ps:List aD):oJ f ps ps.length=ps.map (jI f):=by unfold oJ;simp
section
variable {kv:List (Int×Bool)}{xs ys:List aj}
theorem SS(ys:List aj):∀k:Nat,iC ys k≤k
 |0=>Nat.le_refl 0
 |k+1=>by unfold iC;have:=SS ys k;cases dL ys k<;>simp<;>omega
theorem Twin.dL(h:Twin kv xs ys){k:Nat}(hk:k<xs.length):dL ys k= !(bE false kv ((k:Nat):Int)):=by
 unfold Tr.dL;cases hg:bE false kv ((k:Nat):Int)with
 |true=>
  rw[(h.hole _ hg).2];rfl
 |false=>
  have hd:¬Gone kv ((k:Nat):Int):=fun e=>by
   have e':bE false kv ((k:Nat):Int)=true:=e;rw[hg]at e';cases e'
  rw[h.at_ (by omega) (by omega) hd];have:=Ic (h.wf (k:Nat) (by omega) (by omega) hd);simp;omega
theorem Twin.ord(h:Twin kv xs ys):∀n:Nat,n≤xs.length→(d9 kv n).length=iC ys n∧(∀j:Nat,j<(d9 kv n).length→∃x:Nat,x<n∧(d9 kv n)[j]? =some ((x:Nat):Int)∧iC ys x=j∧bE false kv ((x:Nat):Int)=false)∧
  (∀x:Nat,x<n→bE false kv ((x:Nat):Int)=false→(d9 kv n)[iC ys x]? =some ((x:Nat):Int))
 |0,_=>⟨rfl,fun j hj=>absurd hj (Nat.not_lt_zero _),fun x hx=>absurd hx (Nat.not_lt_zero _)⟩
 |n+1,hn=>by
  obtain⟨h1,h2,h3⟩:=h.ord n (by omega);have hl:=h.dL (k:=n) (by omega);have eo:d9 kv (n+1)=bif !(bE false kv ((n:Nat):Int))then d9 kv n++[((n:Nat):Int)]else d9 kv n:=rfl
  have ec:iC ys (n+1)=bif Tr.dL ys n then iC ys n+1 else iC ys n:=rfl
  rw[eo,ec,hl];cases hg:bE false kv ((n:Nat):Int)with
  |true=>
   simp only[Bool.not_true,qH];refine⟨h1,fun j hj=> ?_,fun x hx hx2=> ?_⟩
   ·obtain⟨x,k1,k2,k3,k4⟩:=h2 j hj;exact⟨x,by omega,k2,k3,k4⟩
   ·refine h3 x ?_ hx2
    by_cases e:x=n
    ·rw[e,hg]at hx2;cases hx2
    ·omega
  |false=>
   simp only[Bool.not_false,qG];refine⟨by rw[qA,h1];rfl,fun j hj=> ?_,fun x hx hx2=> ?_⟩
   ·rw[qA,qJ]at hj
    by_cases hj2:j<(d9 kv n).length
    ·obtain⟨x,k1,k2,k3,k4⟩:=h2 j hj2;exact⟨x,by omega,by rw[qM hj2];exact k2,k3,k4⟩
    ·have hj3:j=(d9 kv n).length:=by omega
     exact⟨n,by omega,by rw[hj3,qL (Nat.le_refl _),Nat.sub_self];rfl,by rw[hj3,h1],hg⟩
   ·by_cases e:x=n
    ·subst e;rw[←h1,qL (Nat.le_refl _),Nat.sub_self];rfl
    ·have k:=h3 x (by omega) hx2;have:=(qE.1 k).1;rw[qM this];exact k
theorem Twin.U7(h:Twin kv xs ys):∀i:Nat,i≤(d9 kv xs.length).length→∀j:Nat,j<i→bE 0 (LB (d9 kv xs.length) i) (elt 0 (d9 kv xs.length) ((j:Nat):Int))=((j:Nat):Int)
 |0,_,j,hj=>by omega
 |i+1,hi,j,hj=>by
  obtain⟨h1,h2,h3⟩:=h.ord xs.length (Nat.le_refl _);unfold LB;rw[Oc]
  by_cases e:j=i
  ·subst e;rw[if_pos rfl]
  ·rw[if_neg fun k=>e ?_]
   ·exact h.U7 i (by omega) j (by omega)
   ·obtain⟨x,k1,k2,k3,_⟩:=h2 i (by omega);obtain⟨y,l1,l2,l3,_⟩:=h2 j (by omega);unfold elt at k;rw[qK,qK,qC,qC,k2,l2]at k;have k':((x:Nat):Int)=((y:Nat):Int):=k;have:x=y:=by omega
    rw[←k3,←l3,this]
theorem Twin.Nw(h:Twin kv xs ys){x:Int}(h0:0≤x)(h1:x<(xs.length:Nat))(hd:¬Gone kv x):Nw (d9 kv xs.length) x=tX ys x:=by
 obtain⟨k1,k2,k3⟩:=h.ord xs.length (Nat.le_refl _)
 have hg:bE false kv ((x.toNat:Nat):Int)=false:=by
  rw[show((x.toNat:Nat):Int)=x by omega];cases hq:bE false kv x with
  |true=>exact absurd hq hd
  |false=>rfl
 have k4:=k3 x.toNat (by omega) hg;have k5:=(qE.1 k4).1;have k6:=h.U7 (d9 kv xs.length).length (Nat.le_refl _) (iC ys x.toNat) k5
 have e:elt 0 (d9 kv xs.length) ((iC ys x.toNat:Nat):Int)=x:=by
  unfold elt;rw[qK,qC,k4];show((x.toNat:Nat):Int)=x;omega
 rw[e]at k6;exact k6
theorem Twin.iw(h:Twin kv xs ys):∀n:Nat,n≤xs.length→iw ys n=(d9 kv n).map fun k=>sG (tX ys) (ah ys k)
 |0,_=>rfl
 |n+1,hn=>by
  unfold Tr.iw d9;rw[h.dL (k:=n) (by omega),h.iw n (by omega)];cases bE false kv ((n:Nat):Int)
  ·simp
  ·simp
theorem Twin.pack(h:Twin kv xs ys):sF xs (d9 kv xs.length) (d9 kv xs.length).length=mI ys:=by
 rw[Dt _ _ _ (Nat.le_refl _),List.take_length];unfold mI;rw[←h.len,h.iw _ (Nat.le_refl _)];refine List.map_congr_left fun k hk=> ?_
 obtain⟨j,hj,rfl⟩:=List.mem_iff_getElem.1 hk;obtain⟨x,k1,k2,k3,k4⟩:=(h.ord xs.length (Nat.le_refl _)).2.1 j hj;rw[qB hj]at k2;injection k2 with k2
 rw[k2]
 have hd:¬Gone kv ((x:Nat):Int):=fun e=>by
  have e':bE false kv ((x:Nat):Int)=true:=e;rw[k4]at e';cases e'
 rw[h.at_ (by omega) (by omega) hd];unfold sG
 congr 4
 refine List.map_congr_left fun p hp=> ?_
 obtain⟨i,hi,rfl⟩:=List.mem_iff_getElem.1 hp;have hw:=h.st.wi (((x:Nat):Int),((i:Nat):Int)) ⟨⟨by show(0:Int)≤(x:Nat);omega,by show((x:Nat):Int)<(xs.length:Nat);omega,by show(0:Int)≤(i:Nat);omega,by show((i:Nat):Int)<((ah xs (x:Nat)).2.2.2.2.length:Nat);omega⟩,hd⟩
 have hpe:au xs (((x:Nat):Int),((i:Nat):Int))=(ah xs (x:Nat)).2.2.2.2[i]:=by
  unfold au elt;rw[qK,qC,qB hi];rfl
 rw[hpe]at hw;obtain⟨_,⟨q1,q2⟩,_⟩:=hw;unfold jI;rw[h.Nw q1.1 q1.2.1 q2]
end
end Go.Tr
namespace Go.Tr
open Go Go.RowKit
def Xk(us:List Value):El (hol 5):=(us.getD 0 undef,us.getD 1 undef,us.getD 2 undef,us.getD 3 undef,us.getD 4 undef)
def kV:Nat→List Value→List (El (hol 5))
 |0,_=>[]
 |n+1,us=>Xk us::kV n (us.drop 5)
theorem xq:∀(n:Nat) (us:List Value),(kV n us).length=n
 |0,_=>rfl
 |n+1,us=>by unfold kV;rw[qI,xq n]
theorem Au:∀(n:Nat) (us:List Value),us.length=n*5→(kV n us).flatMap (enc (hol 5))=us.map D.v
 |0,us,h=>by
  have:us=[]:=List.length_eq_zero_iff.1 (by omega);rw[this];rfl
 |n+1,us,h=>by
  match us,h with
  |a::b::c::d::e::us,h=>
   have ih:=Au n us (by simp only[qI]at h;omega);unfold kV;rw[qU];show _++(kV n us).flatMap (enc (hol 5))=_;rw[ih];rfl
  |[],h=>simp at h
  |[_],h=>simp at h;omega
  |[_,_],h=>simp at h;omega
  |[_,_,_],h=>simp at h;omega
  |[_,_,_,_],h=>simp at h;omega
theorem TN.M0{w:World}:∀{vs us:List Value} {bs:List Nat},TN w (vs.map D.v) bs us→us=vs∧bs=[]
 |[],us,bs,h=>by obtain⟨rfl,rfl⟩:=TN.nil.1 h;exact⟨rfl,rfl⟩
 |v::vs,us,bs,h=>by
  rw[List.map_cons]at h;obtain⟨b1,b2,u,us',rfl,rfl,h1,h2⟩:=TN.cons.1 h;obtain⟨rfl,rfl,_⟩:=T1.v.1 h1;obtain⟨rfl,rfl⟩:=TN.M0 h2;exact⟨rfl,rfl⟩
theorem Ww{w:World}{x:Value}{ds:List D}{bs:List Nat}{us:List Value}(h:TN w (.v x::ds) bs us):∃us',us=x::us'∧TN w ds bs us':=by
 obtain⟨b1,b2,u,us',e1,e2,h1,h2⟩:=TN.cons.1 h;obtain⟨e3,e4,_⟩:=T1.v.1 h1;exact⟨us',by rw[e1,e3],by rw[e2,e4];exact h2⟩
theorem Ye{w:World}{d:D}{ds:List D}{bs:List Nat}{us:List Value}(h:TN w (d::ds) bs us):∃u us' b2,us=u::us'∧TN w ds b2 us':=by
 obtain⟨b1,b2,u,us',e1,e2,h1,h2⟩:=TN.cons.1 h;exact⟨u,us',b2,e1,h2⟩
section
variable {cx:Cx}{β:Nat→Value}{w:World}{R:List fH}
theorem Inv.VE{g t n:Nat}{xs:List aj}{us:List Value}(h:Inv cx.w0 cx.F0 w (Tok.res cx β (.row g t 5 aG xs us)::R))(hl:us.length=xs.length*5):
  Inv cx.w0 cx.F0 w (Tok.res cx β (.row g t 5 (hol 5) (kV xs.length us) us)::Tok.res cx β (.nest n aG xs us)::R):=by
 refine Inv.part h fun F hp=> ?_
 obtain⟨hs,bs,us',rfl,hg,hpre⟩:=hp;have hul:us'.length=xs.length*5:=hg.row.1;have e:us=us':=hpre.eq_of_length (by omega);subst e;refine⟨Aw (β g),bs,fun b hb=>by simp[hb],fun b hb=>by simp[hb],fun b hb=>hg.out b (ku.1 hb),⟨rfl,[],us,by simp,?_,pR _⟩,⟨hg.tn,hg.own⟩⟩;refine⟨?_,?_,Own.nil _ _,by simp⟩
 ·have:=hg.row;show World.ownsRow w 0 t 5 (β g) (kV xs.length us).length us;rw[xq];exact this
 ·show TN w ((kV xs.length us).flatMap (enc (hol 5))) [] us;rw[Au _ _ hl];exact TN.scalars hg.tn.Ez
def rX(ys:List aj)(us:List Value)(j:Nat):El (hol 5):=(.int .i64 (ah ys (j:Nat)).1,.int .i64 (ah ys (j:Nat)).2.1,.int .i64 (ah ys (j:Nat)).2.2.1,us.getD (j*5+3) undef,us.getD (j*5+4) undef)
theorem zT:∀{ys:List aj} {us:List Value} {bs:List Nat},TN w (ys.flatMap (enc aG)) bs us→us.length=ys.length*5∧((List.range ys.length).map (rX ys us)).flatMap (enc (hol 5))=us.map D.v
 |[],us,bs,h=>by obtain⟨rfl,rfl⟩:=TN.nil.1 h;exact⟨rfl,rfl⟩
 |y::ys,us,bs,h=>by
  rw[qU]at h;obtain⟨b1,b2,u1,u2,rfl,rfl,h1,h2⟩:=TN.append.1 h;have h1':TN w [.v (.int .i64 y.1),.v (.int .i64 y.2.1),.v (.int .i64 y.2.2.1),.sl y.2.2.2.1.length (List.flatMap (enc (.int .i64)) y.2.2.2.1),.sl y.2.2.2.2.length (List.flatMap (enc aR) y.2.2.2.2)] b1 u1:=h1;obtain⟨v1,rfl,k3⟩:=Ww h1';obtain⟨v2,rfl,k4⟩:=Ww k3;obtain⟨v3,rfl,k5⟩:=Ww k4;obtain⟨a4,v4,b4,rfl,k6⟩:=Ye k5;obtain⟨a5,v5,b5,rfl,k7⟩:=Ye k6;obtain⟨rfl,rfl⟩:=TN.nil.1 k7;obtain⟨k1,k2⟩:=zT h2;refine⟨by simp only[qA,qI,qR];omega,?_⟩
  rw[qI,List.range_succ_eq_map,List.map_cons,qU,List.map_map]
  have e:(List.range ys.length).map (rX (y::ys) ([.int .i64 y.1,.int .i64 y.2.1,.int .i64 y.2.2.1,a4,a5]++u2)∘Nat.succ)=(List.range ys.length).map (rX ys u2):=List.map_congr_left fun j _=>by
   have e1:ah (y::ys) ((j.succ:Nat):Int)=ah ys (j:Nat):=by unfold ah elt;rw[qK,qK];rfl
   have e2:∀o:Nat,([.int .i64 y.1,.int .i64 y.2.1,.int .i64 y.2.2.1,a4,a5]++u2:List Value).getD (j.succ*5+o) undef=u2.getD (j*5+o) undef:=fun o=>by
    rw[qC,qL (by simp only[qI,qR];omega),qC];simp only[qI,qR];rw[show j.succ*5+o-(0+1+1+1+1+1)=j*5+o by omega]
   simp only[Function.comp,rX];rw[e1,e2,e2]
  have e':(List.range ys.length).map (rX (y::ys) (Value.int .i64 y.1::Value.int .i64 y.2.1::Value.int .i64 y.2.2.1::a4::a5::[]++u2)∘Nat.succ)=(List.range ys.length).map (rX ys u2):=e;rw[e',k2,qZ];rfl
theorem Inv.merge{gA gB t t' n:Nat}{xs ys:List aj}{usA usB preA:List Value}{hs:List (El (hol 5))}(h:Inv cx.w0 cx.F0 w (Tok.res cx β (.row gA t 5 (hol 5) (kV xs.length usA++hs) preA)::Tok.res cx β (.nest n aG xs usA)::Tok.res cx β (.row gB t' 5 aG ys usB)::R))
  (hlA:usA.length=xs.length*5) (hlB:usB.length=ys.length*5) (h0:0<ys.length) (hh:hs=(List.range (ys.length-1)).map fun j=>rX ys usB (j+1)):
  Inv cx.w0 cx.F0 w (Tok.res cx β (.row gA t 5 aG (xs++ys.drop 1) usA)::R):=by
 have hB:=h.perm ((List.Perm.cons _ (List.Perm.swap _ _ _)).trans (List.Perm.swap _ _ _));obtain⟨F,hp,k,_⟩:=hB.take1;obtain⟨_,bs,us',rfl,hg,hpre⟩:=hp;have hul:us'.length=ys.length*5:=hg.row.1;have e:usB=us':=hpre.eq_of_length (by omega);subst e
 match ys,h0,hg,hh,hlB with
 |y::ys,h0,hg,hh,hlB=>
  have htn:TN w ((y::ys).flatMap (enc aG)) bs usB:=hg.tn;obtain⟨q1,q2⟩:=zT htn;rw[qU]at htn;obtain⟨b1,b2,u1,u2,rfl,rfl,h1,h2⟩:=TN.append.1 htn
  have hu1:u1.length=5:=by
   have:=(zT h2).1;rw[qA]at q1;simp only[qI]at q1;omega
  have hcell:hs.flatMap (enc (hol 5))=u2.map D.v:=by
   rw[qI,List.range_succ_eq_map,List.map_cons,qU,List.map_map,qZ]at q2;have l1:(enc (hol 5) (rX (y::ys) (u1++u2) 0)).length=(u1.map D.v).length:=by rw[qV,hu1];rfl
   have:=(List.append_inj q2 l1).2;rw[hh];exact this
  have hN:Inv cx.w0 cx.F0 w (gH u2 (ys.flatMap (enc aG))::Tok.res cx β (.row gA t 5 (hol 5) (kV xs.length usA++hs) preA)::Tok.res cx β (.nest n aG xs usA)::R):=k _ b2 (fun b hb=>by simp[hb]) ⟨h2,(Own.parts hg.own).2.1⟩
  have hM:Inv cx.w0 cx.F0 w (gH (usA++u2) (xs.flatMap (enc aG)++ys.flatMap (enc aG))::Tok.res cx β (.row gA t 5 (hol 5) (kV xs.length usA++hs) preA)::R):=by
   have:Inv cx.w0 cx.F0 w (gH usA (xs.flatMap (enc aG))::gH u2 (ys.flatMap (enc aG))::Tok.res cx β (.row gA t 5 (hol 5) (kV xs.length usA++hs) preA)::R):=hN.perm (by
    refine(List.Perm.cons _ (List.Perm.swap _ _ _)).trans (List.Perm.swap _ _ _))
   exact this.xZ
  refine hM.swap.join fun F1 F2 hp1 hp2 hd=> ?_
  obtain⟨_,bA,uA,rfl,gA',_⟩:=hp1;have hAtn:TN w ((kV xs.length usA++hs).flatMap (enc (hol 5))) bA uA:=gA'.tn;rw[List.flatMap_append,Au _ _ hlA,hcell,←qZ]at hAtn;obtain⟨rfl,rfl⟩:=TN.M0 hAtn;have hhl:hs.length=ys.length:=by rw[hh,qV,List.length_range];rfl
  refine⟨Aw (β gA)++F2,fun b hb=>by
   rcases qT.1 hb with hb|hb
   ·exact .inl (by simp[hb])
   ·exact .inr hb,⟨rfl,F2,usA++u2,rfl,⟨?_,?_,hp2.2,fun k hk hm=>hd k (by simp[ku.2 hk]) hm⟩,List.prefix_append _ _⟩⟩
  ·have:=gA'.row;show World.ownsRow w 0 t 5 (β gA) (xs++ys).length (usA++u2);rw[show(kV xs.length usA++hs).length=(xs++ys).length by rw[qA,xq,hhl,qA]]at this;exact this
  ·have:=hp2.1;rw[←List.flatMap_append]at this;exact this
end
end Go.Tr
namespace Go.Tr
open Go Go.RowKit
def sS(b:Int)(t:List aj):Nat→List aj
 |0=>t
 |k+1=>(sS b t k).set (1+k) (bW b (ah t ((1+k:Nat):Int)))
def Ol(b:Int)(a:aj)(j:Nat):aj:=(a.1,a.2.1,a.2.2.1,a.2.2.2.1,dQ b a.2.2.2.2 j)
def CX(b:Int)(t:List aj)(k j:Nat):List aj:=(sS b t k).set (1+k) (Ol b (ah t ((1+k:Nat):Int)) j)
section
variable {b:Int}{t:List aj}
theorem sD:∀k,(sS b t k).length=t.length
 |0=>rfl
 |k+1=>by unfold sS;rw[List.length_set,sD k]
theorem MQ(k j:Nat):(CX b t k j).length=t.length:=by unfold CX;rw[List.length_set,sD k]
theorem zu:∀(k i:Nat),(sS b t k)[i]? =if 1≤i∧i≤k then(t[i]?).map (bW b)else t[i]?
 |0,i=>by rw[if_neg (by omega)];rfl
 |k+1,i=>by
  unfold sS;rw[List.getElem?_set,sD,zu k i]
  by_cases h:1+k=i
  ·subst h;rw[if_pos (rfl:1+k=1+k)]
   by_cases h2:1+k<t.length
   ·rw[if_pos h2,if_pos (by omega:1≤1+k∧1+k≤k+1),qB h2];show _=some (bW b _)
    congr 2
    unfold ah elt;rw[qK,qC,qB h2];rfl
   ·rw[if_neg h2,if_pos (by omega:1≤1+k∧1+k≤k+1),List.getElem?_eq_none (by omega)];rfl
  ·rw[if_neg h]
   by_cases h2:1≤i∧i≤k
   ·rw[if_pos h2,if_pos (by omega)]
   ·rw[if_neg h2,if_neg (by omega)]
theorem yK(xs:List aj)(i:Nat):ah xs (i:Nat)=(xs[i]?).getD (dflt aG):=by
 unfold ah elt;rw[qK,qC]
theorem VL{k i:Nat}(h:k<i):ah (sS b t k) (i:Nat)=ah t (i:Nat):=by
 rw[yK,yK,zu,if_neg (by omega)]
theorem Qy(k i:Nat):(ah (sS b t k) (i:Nat)).1=(ah t (i:Nat)).1∧(ah (sS b t k) (i:Nat)).2.1=(ah t (i:Nat)).2.1∧(ah (sS b t k) (i:Nat)).2.2.1=(ah t (i:Nat)).2.2.1:=by
 rw[yK,yK,zu];split
 ·cases t[i]? <;>exact⟨rfl,rfl,rfl⟩
 ·exact⟨rfl,rfl,rfl⟩
theorem Om(k:Nat)(us:List Value)(i:Nat):rX (sS b t k) us i=rX t us i:=by
 obtain⟨h1,h2,h3⟩:=Qy (b:=b) (t:=t) k i;unfold rX;rw[h1,h2,h3]
theorem Qv{k j:Nat}(h:1+k<t.length):ah (CX b t k j) ((1+k:Nat):Int)=Ol b (ah t ((1+k:Nat):Int)) j:=by
 unfold CX;rw[kQ,if_pos ⟨by rw[qK],by rw[sD];exact h⟩]
theorem Qx(k:Nat):CX b t k 0=sS b t k:=by
 unfold CX;apply List.ext_getElem?;intro i;rw[List.getElem?_set,sD]
 by_cases h:1+k=i
 ·subst h;rw[if_pos (rfl:1+k=1+k),zu,if_neg (by omega:¬(1≤1+k∧1+k≤k))]
  by_cases h2:1+k<t.length
  ·rw[if_pos h2,qB h2]
   congr 1
   rw[yK,qB h2];unfold Ol dQ;simp
  ·rw[if_neg h2,List.getElem?_eq_none (by omega)]
 ·rw[if_neg h]
theorem TJ(k:Nat):CX b t k (ah t ((1+k:Nat):Int)).2.2.2.2.length=sS b t (k+1):=by
 show(sS b t k).set (1+k) (Ol b (ah t ((1+k:Nat):Int)) (ah t ((1+k:Nat):Int)).2.2.2.2.length)=(sS b t k).set (1+k) (bW b (ah t ((1+k:Nat):Int)))
 congr 1
 unfold Ol bW;rw[tQ]
theorem Qw{k j:Nat}(h:1+k<t.length)(hj:j<(ah t ((1+k:Nat):Int)).2.2.2.2.length){z:Int}(hz:z=(elt (dflt aR) (ah t ((1+k:Nat):Int)).2.2.2.2 (j:Nat)).1+b):
  (CX b t k j).set (1+k) ((ah (CX b t k j) ((1+k:Nat):Int)).1,(ah (CX b t k j) ((1+k:Nat):Int)).2.1,(ah (CX b t k j) ((1+k:Nat):Int)).2.2.1,(ah (CX b t k j) ((1+k:Nat):Int)).2.2.2.1,(ah (CX b t k j) ((1+k:Nat):Int)).2.2.2.2.set j (z,(elt (dflt aR) (ah (CX b t k j) ((1+k:Nat):Int)).2.2.2.2 (j:Nat)).2))=CX b t k (j+1):=by
 rw[Qv h];unfold CX;rw[List.set_set]
 congr 1
 unfold Ol;rw[qz hj,tT hj,hz]
theorem VK{k j:Nat}(h:1+k<t.length)(hj:j<(ah t ((1+k:Nat):Int)).2.2.2.2.length):elt (dflt aR) (ah (CX b t k j) ((1+k:Nat):Int)).2.2.2.2 (j:Nat)=elt (dflt aR) (ah t ((1+k:Nat):Int)).2.2.2.2 (j:Nat):=by
 rw[Qv h];exact tT hj
theorem Qz:(sS b t (t.length-1)).drop 1=(t.drop 1).map (bW b):=by
 apply List.ext_getElem?;intro i;rw[List.getElem?_drop,qY,List.getElem?_drop,zu]
 by_cases h:1+i<t.length
 ·rw[if_pos (by omega)]
 ·rw[List.getElem?_eq_none (by omega:t.length≤1+i)];split<;>rfl
def KE(t:List aj)(us:List Value)(k:Nat):List (El (hol 5)):=(List.range k).map fun j=>rX t us (j+1)
theorem PW(us:List Value)(k:Nat):KE t us (k+1)=KE t us k++[rX t us (1+k)]:=by
 unfold KE;rw[List.range_succ,qZ,Nat.add_comm 1 k];rfl
theorem Tk(us:List Value)(k:Nat):(KE t us k).length=k:=by unfold KE;simp
theorem Tj{us:List Value}(k:Nat):KE t us k=(List.range k).map fun j=>rX (sS b t k) us (j+1):=by
 unfold KE;exact List.map_congr_left fun j _=>(Om _ _ _).symm
end
end Go.Tr
namespace Go.Tr
open Go Go.RowKit
structure Kg(bk:List (List aj)):Prop extends BkV bk where
 tl:∀v:Int,0≤v→v<(bk.length:Nat)→(bP bk v).length≤600
 bl:bk.length≤1000
section
variable {bk:List (List aj)}
theorem IE{v:Int}(h:¬(0≤v∧v<(bk.length:Nat)))(h0:0≤v):bP bk v=[]:=by
 unfold bP elt;rw[qC,List.getElem?_eq_none (by omega)];rfl
theorem sZ{xs:List aj}{i:Nat}(h:xs.length≤i):ah xs (i:Nat)=dflt aG:=by
 unfold ah elt;rw[qC,qK,List.getElem?_eq_none h];rfl
theorem Kg.len(h:Kg bk)(v:Nat):(bP bk (v:Nat)).length≤600:=by
 by_cases hv:0≤((v:Nat):Int)∧((v:Nat):Int)<(bk.length:Nat)
 ·exact h.tl _ hv.1 hv.2
 ·rw[IE hv (by omega)];decide
theorem Kg.ag(h:Kg bk)(v j:Nat):(0≤(ah (bP bk (v:Nat)) (j:Nat)).2.1∧(ah (bP bk (v:Nat)) (j:Nat)).2.1≤8)∧(ah (bP bk (v:Nat)) (j:Nat)).2.2.2.1.length≤4∧(ah (bP bk (v:Nat)) (j:Nat)).2.2.2.2.length≤4:=by
 by_cases hv:0≤((v:Nat):Int)∧((v:Nat):Int)<(bk.length:Nat)
 ·by_cases hj:j<(bP bk (v:Nat)).length
  ·have w:=h.wf _ hv.1 hv.2 (j:Nat) (by omega) (by omega);have h1:=wT w;exact⟨by omega,wf_data w,(iN w).2⟩
  ·rw[sZ (by omega)];decide
 ·rw[IE hv (by omega),sZ (Nat.zero_le _)];decide
theorem Kg.small(h:Kg bk)(v:Nat):dH (bP bk (v:Nat)):=by
 refine⟨by have:=h.len v;omega,fun i=> ?_⟩;have:=(h.ag v i).2;exact⟨by show(ah (bP bk (v:Nat)) (i:Nat)).2.2.2.1.length≤1048576;omega,by show(ah (bP bk (v:Nat)) (i:Nat)).2.2.2.2.length≤1048576;omega⟩
theorem Kg.ok(h:Kg bk):FY bk:=fun v j=>(h.ag v j).1
theorem Rt{t:List aj}(hw:iy (fun p=>ak t p) t)(hl:t.length≤600)(i j:Nat):sV (elt (dflt aR) (ah t (i:Nat)).2.2.2.2 (j:Nat)).1:=by
 by_cases hi:i<t.length
 ·by_cases hj:j<(ah t (i:Nat)).2.2.2.2.length
  ·obtain⟨_,h2,_⟩:=hw ((i:Nat),(j:Nat)) ⟨by show(0:Int)≤(i:Nat);omega,by show((i:Nat):Int)<(t.length:Nat);omega,by show(0:Int)≤(j:Nat);omega,by show((j:Nat):Int)<((ah t (i:Nat)).2.2.2.2.length:Nat);omega⟩;have h3:0≤(elt (dflt aR) (ah t (i:Nat)).2.2.2.2 (j:Nat)).1:=h2.1;have h4:(elt (dflt aR) (ah t (i:Nat)).2.2.2.2 (j:Nat)).1<(t.length:Nat):=h2.2.1;have h5:((t.length:Nat):Int)≤1000000:=by omega
   exact⟨h3,Int.le_trans (Int.le_of_lt h4) h5⟩
  ·unfold elt;rw[qC,qK,List.getElem?_eq_none (by omega)];exact⟨by decide,by decide⟩
 ·rw[sZ (by omega)];have e:elt (dflt aR) (dflt aG).2.2.2.2 ((j:Nat):Int)=(0,0):=rfl;rw[e];exact⟨by decide,by decide⟩
structure YC(t xs:List aj)(lv b:Int):Prop where
 two:2≤t.length
 r0:ak t (0,0)
 rs:ak (bY lv t) (0,0)
 top:ak (xs++((bY lv t).drop 1).map (bW b)) ((au (bY lv t) (0,0)).1+b,(au (bY lv t) (0,0)).2)
 pe:au (bY lv t) (0,0)=au t (0,0)
 ex:jq lv b t (t.length-1)=((bY lv t).drop 1).map (bW b)
 bt:∀i j:Nat,sV (elt (dflt aR) (ah t (i:Nat)).2.2.2.2 (j:Nat)).1
 bs:∀i j:Nat,sV (elt (dflt aR) (ah (bY lv t) (i:Nat)).2.2.2.2 (j:Nat)).1
 ps:∀i:Nat,(ah (bY lv t) (i:Nat)).2.2.2.2.length≤1048576
theorem Kg.exp(h:Kg bk){v:Int}(v0:0≤v)(v1:v<(bk.length:Nat))(xs:List aj)(lv b:Int)(hb:b=(xs.length:Int)-1)(hx:0<xs.length):YC (bP bk v) xs lv b:=by
 have hw:=h.wi _ v0 v1;have r0:=h.r0 _ v0 v1;have r1:=h.r1 _ v0 v1;have hl:=h.tl _ v0 v1
 have hps:∀i:Nat,(ah (bP bk v) (i:Nat)).2.2.2.2.length≤4:=fun i=>by
  have:=(h.ag v.toNat i).2.2
  rwa[show((v.toNat:Nat):Int)=v by omega]at this
 generalize bP bk v=t at*;have hws:iy (fun p=>ak (bY lv t) p) (bY lv t):=hw.shift;obtain⟨q1,q2,q3,q4⟩:=hw (0,0) r0
 have rpos:1≤(au t (0,0)).1:=by
  have h1:0≤(au t (0,0)).1:=q2.1
  by_cases e:(au t (0,0)).1=0
  ·exact absurd (r1 _ q2 e) q4
  ·omega
 have ps:au (bY lv t) (0,0)=au t (0,0):=nU r0;refine⟨?_,r0,ak.jm.2 r0,?_,ps,?_,Rt hw hl,Rt hws (by rw[lC];exact hl),fun i=> ?_⟩
 ·have:=q2.2.1;omega
 ·rw[ps]
  exact(ak.lV hb).2 (.inr ⟨by show(xs.length:Int)≤(au t (0,0)).1+b;omega,ak.jm.2 (by
   rw[show(((au t (0,0)).1+b,(au t (0,0)).2):aD).1-b=(au t (0,0)).1 by show(au t (0,0)).1+b-b=_;omega];exact q2)⟩)
 ·unfold jq;rw[qN (by rw[List.length_drop,lC];omega)]
 ·by_cases hi:i<t.length
  ·rw[uH lv t (by omega) (by omega),show(iU lv (ah t (i:Nat))).2.2.2.2=(ah t (i:Nat)).2.2.2.2 from pG _ _];have:=hps i;show(ah t (i:Nat)).2.2.2.2.length≤1048576;omega
  ·rw[sZ (by rw[lC];omega)];decide
theorem Kw(u v:aj):bF v u=bF u v:=by
 have h1:iB v u=mq u v:=by
  unfold iB mq;cases u.1==10<;>cases v.1==9<;>rfl
 have h2:mq v u=iB u v:=by
  unfold iB mq;cases u.1==9<;>cases v.1==10<;>rfl
 unfold bF;rw[h1,h2,xQ];cases mq u v<;>cases iB u v<;>rfl
theorem oV(xs:List aj)(a b:Int):bF (ah xs (aC xs a b).1) (ah xs (aC xs a b).2)=bF (ah xs a) (ah xs b):=by
 unfold aC;cases aX (ah xs a).1 (ah xs a).2.1 (ah xs b).1 (ah xs b).2.1==2
 ·rfl
 ·exact Kw _ _
theorem QI{xs:List aj}{c x y:Int}(hb:Kg bk)(hy:(ah xs y).2.2.2.2.length≤4)(hx:(ah xs x).2.2.2.2.length≤4)(h7:c=7→0≤(ah xs x).2.2.1∧(ah xs x).2.2.1<(bk.length:Nat)):(rz bk xs c x y).length≤600:=by
 unfold rz;cases c==3
 case true=>simp only[qG,qA,qI,qR,List.length_replicate];omega
 cases c==4
 case true=>simp only[qG,qH,List.length_replicate];omega
 cases c==5
 case true=>cases (ah xs y).1==7<;>simp
 cases c==6
 case true=>
  cases (ah xs x).1==6
  ·simp only[qG,qH,qA,qI,qR,List.length_replicate];omega
  ·simp
 cases h:c==7
 ·simp
 ·obtain⟨v0,v1⟩:=h7 (by simpa using h);have:=hb.tl _ v0 v1;simp only[qG,qH,qV,List.length_drop,kY,lC];omega
end
end Go.Tr
namespace Go.Tr
open Go Go.RowKit
abbrev Ii:=Int×Int×Int×List Int×Nat
def toA(s:Ii):aj:=(s.1,s.2.1,s.2.2.1,s.2.2.2.1,List.replicate s.2.2.2.2 (0,0))
theorem fu.maps{xs ys:List aj}(h:fu xs ys):xs.map sig=ys.map sig:=by
 apply List.ext_getElem?;intro i;rw[qY,qY]
 by_cases hi:i<xs.length
 ·have:=h.2 (i:Nat) (by omega) (by omega);have hj:i<ys.length:=by rw[←h.1];exact hi
  rw[vR hi,vR hj]at this;rw[qB hi,qB hj,Option.map_some,Option.map_some,this]
 ·rw[List.getElem?_eq_none (by omega),List.getElem?_eq_none (by rw[←h.1];omega)]
def MW(bk:List (List aj))(c:Int)(u v:aj):List aj:=rz bk [u,v] c 0 1
section
variable {bk:List (List aj)}{xs:List aj}{x y c:Int}{u v u' v' a b:aj}
theorem FP(b:Int)(a:aj):sig (bW b a)=sig a:=by
 unfold sig bW;simp only[qV]
theorem QJ:(rz bk xs c x y).map sig=(MW bk c (ah xs x) (ah xs y)).map sig:=by
 unfold MW rz;have e0:ah [ah xs x,ah xs y] 0=ah xs x:=rfl;have e1:ah [ah xs x,ah xs y] 1=ah xs y:=rfl;unfold lq kY;rw[e0,e1];cases c==3
 case true=>rfl
 cases c==4
 case true=>rfl
 cases c==5
 case true=>rfl
 cases c==6
 case true=>rfl
 cases c==7
 case false=>rfl
 simp only[qG,qH,List.map_map];exact List.map_congr_left fun z _=>by rw[Function.comp,Function.comp,FP,FP]
def VP(bk:List (List aj))(a b:aj):List Ii:=bif aX a.1 a.2.1 b.1 b.2.1==2 then(MW bk (bF a b) b a).map sig else(MW bk (bF a b) a b).map sig
structure Duo(a b:aj):Prop where
 wa:Wf a
 wb:Wf b
 ra:a.1≠1
 rb:b.1≠1
 ok:bF a b≠8
theorem KL(hc:1≤bF (ah xs x) (ah xs y)∧bF (ah xs x) (ah xs y)≤7){z w:Int}(hz:z.toNat<xs.length)(hf:aC xs x y=(z,w)):(gy bk xs (bF (ah xs z) (ah xs w)) z w).map sig=xs.map sig++VP bk (ah xs x) (ah xs y):=by
 have hcl:bF (ah xs z) (ah xs w)=bF (ah xs x) (ah xs y):=by
  have:=oV xs x y;rw[hf]at this;exact this
 rw[hcl,(Ai (bk:=bk) (y:=w) hc hz).maps,qZ,QJ]
 congr 1
 unfold aC at hf;unfold VP;cases hp:aX (ah xs x).1 (ah xs x).2.1 (ah xs y).1 (ah xs y).2.1==2 with
 |true=>
  rw[hp]at hf;injection hf with h1 h2
  subst h1 h2;rfl
 |false=>
  rw[hp]at hf;injection hf with h1 h2
  subst h1 h2;rfl
end
def ZH(s:List Ii)(i:Int):Ii:=s.getD i.toNat (0,0,0,[],0)
def OZ(s:List Ii)(i:Int):aj:=toA (ZH s i)
inductive rU(bk:List (List aj)):List Ii→List aT→List Ii→Prop
 |done (s:List Ii):rU bk s [] s
 |step {s:List Ii} {e:aT} {es:List aT} {s':List Ii} (h0:0≤e.1) (hlt:e.1<e.2.1) (h1:e.2.1<((s.length:Nat):Int)) (hf:e.2.2.2.1=((s.length:Nat):Int))
  (hn:e.2.2.2.2=(((VP bk (OZ s e.1) (OZ s e.2.1)).length:Nat):Int)) (hw:Duo (OZ s e.1) (OZ s e.2.1)) (r:rU bk (s++VP bk (OZ s e.1) (OZ s e.2.1)) es s'):rU bk s (e::es) s'
end Go.Tr
namespace Go.Tr
open Go Go.RowKit
def gN(xs:List aj):aO:=⟨xs.map gA⟩
theorem Tv(xs:List aj):(xs.map gA).flatMap aB.enc=List.flatMap (enc aG) xs:=by
 induction xs with
 |nil=>rfl
 |cons x l ih=>rw[List.map_cons,qU,qU,ih,P7]
theorem GD(xs:List aj):(gN xs).enc=enc bO xs:=by
 show[D.sl (xs.map gA).length ((xs.map gA).flatMap aB.enc)]=[D.sl _ _];rw[Tv,qV]
theorem P8(bk:List (List aj)):(bk.map gN).flatMap aO.enc=List.flatMap (enc bO) bk:=by
 induction bk with
 |nil=>rfl
 |cons x l ih=>rw[List.map_cons,qU,qU,ih,GD]
theorem ME(xs:List aj)(i:Nat):gY (xs.map gA) i=gA (ah xs (i:Nat)):=by
 unfold gY ah elt;rw[qK,qC,qC,qY];cases xs[i]? <;>rfl
def gP(p:aD):aF:=⟨p.1,p.2⟩
theorem UJ(ps:List aD)(k:Nat):jD (ps.map gP) k=gP (elt (dflt aR) ps (k:Nat)):=by
 unfold jD elt;rw[qK,qC,qC,qY];cases ps[k]? <;>rfl
theorem Cu(a:aj):(gA a).aH=a.2.2.2.2.map gP:=rfl
theorem VA{p q:aD}(h:gP p=gP q):p=q:=by
 have h1:=congrArg aF.agent h;have h2:=congrArg aF.slot h;exact Prod.ext h1 h2
theorem K8{xs:List aj}{p:aD}(h:iE (xs.map gA) (gP p)=true):ak xs p:=by
 unfold iE at h;rw[qD,ME,Cu]at h;have h1:=jS h.1;have h2:=jS h.2;rw[qV]at h1 h2;have e1:(gP p).agent=p.1:=rfl;have e2:(gP p).slot=p.2:=rfl;rw[e1]at h1 h2;rw[e2]at h2;have e3:((p.1.toNat:Nat):Int)=p.1:=by omega
 rw[e3]at h2;exact⟨by omega,by omega,by omega,by show p.2<((ah xs p.1).2.2.2.2.length:Nat);omega⟩
structure LK(xs:List aj):Prop where
 l1:1≤xs.length
 l2:xs.length≤600
 wf:∀i:Int,0≤i→i<(xs.length:Nat)→Wf (ah xs i)
 rt:∀i:Int,0≤i→i<(xs.length:Nat)→((ah xs i).1=1↔i=0)
 wi:iy (fun p=>ak xs p) xs
theorem MS{xs:List aj}(h:iG (gN xs)=true):LK xs:=by
 unfold iG at h;have hag:(gN xs).agents=xs.map gA:=rfl;rw[qD,hag,qV]at h;obtain⟨h1,h2⟩:=h;unfold fJ at h1;rw[qD,qV]at h1;obtain⟨h3,h4⟩:=h1;have h3:=jS h3;have ha:∀i:Nat,i<xs.length→gZ (xs.map gA) i=true:=fun i hi=>kR h4 hi
 have hk:∀i:Nat,i<xs.length→Wf (ah xs (i:Nat))∧((ah xs (i:Nat)).1=1↔i=0):=fun i hi=>by
  have:=ha i hi;unfold gZ at this;rw[ME,qD]at this;refine⟨this.1,?_⟩;have h5:=this.2;have e:(gA (ah xs (i:Nat))).kind=(ah xs (i:Nat)).1:=rfl;rw[e,beq_iff_eq,Bool.eq_iff_iff,beq_iff_eq,beq_iff_eq]at h5;omega
 refine⟨by omega,by omega,fun i h0 h1=> ?_,fun i h0 h1=> ?_,?_⟩
 ·have:=(hk i.toNat (by omega)).1
  rwa[show((i.toNat:Nat):Int)=i by omega]at this
 ·have:=(hk i.toNat (by omega)).2;rw[show((i.toNat:Nat):Int)=i by omega]at this;rw[this];omega
 ·rintro⟨a,s⟩ ⟨p1,p2,p3,p4⟩;have q1:0≤a:=p1;have q2:a<(xs.length:Nat):=p2;have q3:0≤s:=p3;have q4:s<((ah xs a).2.2.2.2.length:Nat):=p4;have ea:((a.toNat:Nat):Int)=a:=by omega
  have es:((s.toNat:Nat):Int)=s:=by omega
  have hw:pI (xs.map gA) a.toNat=true:=kR h2 (by omega);unfold pI at hw;rw[ME,ea,Cu,qV]at hw;have hw2:=kR hw (k:=s.toNat) (by omega);unfold oM at hw2;rw[UJ,es]at hw2;have ge:(⟨((a.toNat:Nat):Int),((s.toNat:Nat):Int)⟩:aF)=gP (a,s):=by rw[ea,es];rfl
  simp only[qD,Bool.not_eq_true']at hw2;obtain⟨⟨w1,w2⟩,w3⟩:=hw2;have w1:=Cm w1;have w3:=AZ w3;have hin:=K8 w2;have hpe:au xs (a,s)=elt (dflt aR) (ah xs a).2.2.2.2 s:=rfl;rw[←hpe]at w1 w3 hin;refine⟨⟨p1,p2,p3,p4⟩,hin,?_,fun e=>w1 (by rw[e];rfl)⟩;generalize au xs (a,s)=r at*;unfold rC at w3;have er:(gP r).agent=r.1:=rfl;have er2:(gP r).slot=r.2:=rfl;have hr0:=hin.1;have hr2:=hin.2.2.1;rw[er,er2,ME,Cu,UJ,show((r.1.toNat:Nat):Int)=r.1 by omega,show((r.2.toNat:Nat):Int)=r.2 by omega]at w3
  exact VA (q:=(a,s)) w3
theorem LK.twin{xs:List aj}(h:LK xs):Twin [] xs xs:=by
 have hg:∀i,¬Gone [] i:=fun i e=>by cases e
 have hl1:=h.l1;refine⟨⟨?_,?_,?_⟩,fun i h0 h1 _=>h.wf i h0 h1,fun i e=>absurd e (hg i),fun i e=>absurd e (hg i),(h.rt 0 (Int.le_refl 0) (by omega)).2 rfl,hg 0,h.l1,fun i h0 h1 _ e=> ?_,fun e he=>(by cases he),?_,fun p hp=>(h.wi p hp).2.1⟩
 ·exact⟨rfl,fun _ _ _ _=>rfl⟩
 ·exact h.wi.congr fun p=>⟨fun k=>k.1,fun k=>⟨k,hg _⟩⟩
 ·exact fun p k=>k.2
 ·have:=(h.rt i (by omega) h1).1 e;omega
 ·have:=zU (kv:=[]) (n:=0) (fun i _=>rfl) xs.length;rw[Nat.zero_add]at this;rw[this];rfl
theorem Pp(bk:List (List aj))(k:Nat):lW (bk.map gN) k=gN (bP bk (k:Nat)):=by
 unfold lW bP elt;rw[qK,qC,qC,qY];cases bk[k]? <;>rfl
theorem Pt{bk:List (List aj)}(h:lH (bk.map gN)=true):Kg bk∧bk.length≤24:=by
 unfold lH at h;rw[qD,qV]at h
 have hl:bk.length≤24:=by
  have:=of_decide_eq_true h.1;omega
 have hn:∀v:Int,0≤v→v<(bk.length:Nat)→LK (bP bk v):=fun v h0 h1=>by
  have:=kR h.2 (k:=v.toNat) (by omega);rw[Pp,show((v.toNat:Nat):Int)=v by omega]at this;exact MS this
 refine⟨⟨⟨⟨fun v h0 h1=>(hn v h0 h1).wi,fun v h0 h1=> ?_,fun v h0 h1 p hp e=> ?_,fun v h0 h1=>(hn v h0 h1).wf⟩,fun v h0 h1 i i0 i1 e=> ?_⟩,fun v h0 h1=>(hn v h0 h1).l2,by omega⟩,hl⟩
 ·have N:=hn v h0 h1;have hl1:=N.l1;have:=(iN (N.wf 0 (Int.le_refl 0) (by omega))).1;exact⟨Int.le_refl 0,by show(0:Int)<((bP bk v).length:Nat);omega,Int.le_refl 0,by show(0:Int)<((ah (bP bk v) 0).2.2.2.2.length:Nat);omega⟩
 ·have N:=hn v h0 h1;have hl1:=N.l1;have w:=N.wf 0 (Int.le_refl 0) (by omega);have hk:=(N.rt 0 (Int.le_refl 0) (by omega)).2 rfl;have hp1:=(rO w).1 (.inl hk);obtain⟨_,_,p3,p4⟩:=hp;rw[e]at p4;have p4':p.2<((ah (bP bk v) 0).2.2.2.2.length:Nat):=p4;exact Prod.ext e (by show p.2=0;omega)
 ·have:=((hn v h0 h1).rt i (by omega) i1).1 e;omega
abbrev ZP(e:aT):Int:=e.1
abbrev ZQ(e:aT):Int:=e.2.1
abbrev A8(e:aT):Int:=e.2.2.2.1
abbrev NV(e:aT):Int:=e.2.2.2.2
def Km:List aT→Int→Int→Int×Int
 |[],_,k=>(-1,k)
 |e::es,i,k=>bif (bif decide (A8 e≤k)then decide (k<A8 e+NV e)else false)then(i,k-A8 e)else Km es (i+1) k
theorem Gg{e:aT}{es:List aT}{i k:Int}(h1:A8 e≤k)(h2:k<A8 e+NV e):Km (e::es) i k=(i,k-A8 e):=by
 unfold Km;rw[show decide (A8 e≤k)=true by simpa using h1,show decide (k<A8 e+NV e)=true by simpa using h2];rfl
theorem yN{e:aT}{es:List aT}{i k:Int}(h:¬(A8 e≤k∧k<A8 e+NV e)):Km (e::es) i k=Km es (i+1) k:=by
 conv=>lhs;unfold Km
 cases h1:decide (A8 e≤k)with
 |false=>rfl
 |true=>
  cases h2:decide (k<A8 e+NV e)with
  |false=>rfl
  |true=>exact absurd ⟨by simpa using h1,by simpa using h2⟩ h
theorem Pn:∀(es:List aT) (i k:Int),(Km es i k).1= -1∨(Km es i k).1<i+(es.length:Nat)
 |[],i,k=>.inl rfl
 |e::es,i,k=>by
  by_cases h:A8 e≤k∧k<A8 e+NV e
  ·rw[Gg h.1 h.2];right;show i<i+((es.length+1:Nat):Int);omega
  ·rw[yN h];have:=Pn es (i+1) k;rw[qI];omega
theorem Iz:∀{es:List aT} {i k:Int},(∀e∈es,¬(A8 e≤k∧k<A8 e+NV e))→Km es i k=(-1,k)
 |[],_,_,_=>rfl
 |e::es,i,k,h=>by
  rw[yN (h e (by simp))];exact Iz fun e' he=>h e' (by simp[he])
theorem IB:∀{p q:List aT} {i k:Int},(∀e∈p,¬(A8 e≤k∧k<A8 e+NV e))→Km (p++q) i k=Km q (i+(p.length:Nat)) k
 |[],q,i,k,_=>by rw[List.nil_append];congr 1;simp
 |e::p,q,i,k,h=>by
  rw[List.cons_append,yN (h e (by simp)),IB fun e' he=>h e' (by simp[he])]
  congr 1
  rw[qI];omega
section
variable {bk:List (List aj)}
theorem rU.pre{s s':List Ii}{es:List aT}(h:rU bk s es s'):s<+:s':=by
 induction h with
 |done s=>exact pR _
 |step _ _ _ _ _ _ _ ih=>exact(List.prefix_append _ _).trans ih
theorem rU.split{s s':List Ii}:∀{p q:List aT},rU bk s (p++q) s'→∃t,rU bk s p t∧rU bk t q s'
 |[],q,h=>⟨s,.done s,h⟩
 |e::p,q,h=>by
  cases h with
  |step h0 hlt h1 hf hn hw r=>
   obtain⟨t,k1,k2⟩:=rU.split (p:=p) r;exact⟨t,.step h0 hlt h1 hf hn hw k1,k2⟩
theorem rU.snoc{s t:List Ii}{p:List aT}{e:aT}(h:rU bk s p t)(h0:0≤e.1)(hlt:e.1<e.2.1)(h1:e.2.1<((t.length:Nat):Int))(hf:e.2.2.2.1=((t.length:Nat):Int))
  (hn:e.2.2.2.2=(((VP bk (OZ t e.1) (OZ t e.2.1)).length:Nat):Int)) (hw:Duo (OZ t e.1) (OZ t e.2.1)):rU bk s (p++[e]) (t++VP bk (OZ t e.1) (OZ t e.2.1)):=by
 induction h with
 |done s=>exact .step h0 hlt h1 hf hn hw (.done _)
 |step g0 glt g1 gf gn gw _ ih=>exact .step g0 glt g1 gf gn gw (ih h1 hf hn hw)
theorem rU.rng{s s':List Ii}{es:List aT}(h:rU bk s es s'):∀e∈es,((s.length:Nat):Int)≤A8 e∧0≤NV e∧A8 e+NV e≤((s'.length:Nat):Int):=by
 induction h with
 |done s=>intro e he;cases he
 |step h0 hlt h1 hf hn hw r ih=>
  intro e' he';have hp:=r.pre.length_le;rw[qA]at hp;rcases List.mem_cons.1 he' with rfl|he'
  ·exact⟨by show _≤e'.2.2.2.1;omega,by show 0≤e'.2.2.2.2;omega,by show e'.2.2.2.1+e'.2.2.2.2≤_;omega⟩
  ·have:=ih e' he';rw[qA]at this;omega
theorem rU.ab{s s':List Ii}{es:List aT}(h:rU bk s es s'):∀e∈es,0≤ZP e∧ZP e<ZQ e∧ZQ e<((s'.length:Nat):Int):=by
 induction h with
 |done s=>intro e he;cases he
 |step h0 hlt h1 hf hn hw r ih=>
  intro e' he';have hp:=r.pre.length_le;rw[qA]at hp;rcases List.mem_cons.1 he' with rfl|he'
  ·exact⟨h0,hlt,by show e'.2.1<_;omega⟩
  ·exact ih e' he'
theorem rU.old{s t s':List Ii}{p q:List aT}(h1:rU bk s p t)(h2:rU bk t q s'){k:Int}(hk:k<((t.length:Nat):Int)):(Km (p++q) 0 k).1<((p.length:Nat):Int):=by
 have hq:∀e∈q,¬(A8 e≤k∧k<A8 e+NV e):=fun e he hh=>by
  have:=h2.rng e he;omega
 have key:∀(p:List aT) (i:Int),Km (p++q) i k=Km p i k:=by
  intro p
  induction p with
  |nil=>intro i;rw[List.nil_append,Iz hq];rfl
  |cons e p ih=>
   intro i;rw[List.cons_append]
   by_cases h:A8 e≤k∧k<A8 e+NV e
   ·rw[Gg h.1 h.2,Gg h.1 h.2]
   ·rw[yN h,yN h,ih]
 rw[key];have:=Pn p 0 k;omega
theorem rU.new{s t:List Ii}{p q:List aT}{e:aT}(h1:rU bk s p t)(hf:A8 e=((t.length:Nat):Int)){j:Int}(j0:0≤j)(j1:j<NV e):Km (p++e::q) 0 (A8 e+j)=(((p.length:Nat):Int),j):=by
 rw[IB fun e' he hh=>by have:=h1.rng e' he;omega,Int.zero_add,Gg (by omega) (by omega)]
 congr 1
 omega
end
section
variable {bk:List (List aj)}{s0 sa sb:List Ii}{a b:List aT}
end
end Go.Tr
