
/- Nets as data: agents, ports, wires. No program in it. -/
import Derived.Test.YtdpclbjjmhkgiaaVV
import Derived.Test.YtdpclbjjmhkgiaaValid
set_option linter.unusedSimpArgs false
set_option linter.unusedVariables false
set_option linter.unusedSectionVars false
namespace Go.Tr
open Go Go.RowKit
abbrev aQ:U:=.pair (.int .i64) (.int .i64)
abbrev aV:U:=.pair (.int .i64) (.pair (.int .i64) (.pair (.int .i64) (.pair (.sl (.int .i64)) (.sl aQ))))
abbrev kX:U:=.sl aV
abbrev aB:=Int×Int
abbrev ah:=Int×Int×Int×List Int×List aB
def ak(xs:List ah)(i:Int):ah:=elt (dflt aV) xs i
abbrev ah.kind(a:ah):Int:=a.1
abbrev ah.level(a:ah):Int:=a.2.1
abbrev ah.value(a:ah):Int:=a.2.2.1
abbrev ah.data(a:ah):List Int:=a.2.2.2.1
abbrev ah.aH(a:ah):List aB:=a.2.2.2.2
def aD(xs:List ah)(p:aB):aB:=elt (dflt aQ) (ak xs p.1).aH p.2
def aO(xs:List ah)(p q:aB):List ah:=xs.set p.1.toNat ((ak xs p.1).1,(ak xs p.1).2.1,(ak xs p.1).2.2.1,(ak xs p.1).2.2.2.1,(ak xs p.1).2.2.2.2.set p.2.toNat q)
def bf(xs:List ah)(p q:aB):List ah:=aO (aO xs p q) q p
def aj(xs:List ah)(p:aB):Prop:=0≤p.1∧p.1<(xs.length:Nat)∧0≤p.2∧p.2<((ak xs p.1).aH.length:Nat)
abbrev vP(p:aB):SV:=.agg [.int .i64 p.1,.int .i64 p.2]
theorem dV(xs:List ah)(p q:aB):(aO xs p q).length=xs.length:=by unfold aO;simp
theorem wD{xs:List ah}{k:Nat}{y:ah}{i:Int}:ak (xs.set k y) i=if k=i.toNat∧k<xs.length then y else ak xs i:=by
 unfold ak elt;rw[List.getD_eq_getElem?_getD,List.getD_eq_getElem?_getD,List.getElem?_set]
 by_cases h:k=i.toNat
 ·subst h
  by_cases h2:i.toNat<xs.length
  ·simp[h2]
  ·simp[h2]
 ·simp[h]
theorem dK(xs:List ah)(p q:aB)(i:Int):ak (aO xs p q) i=if p.1.toNat=i.toNat∧p.1.toNat<xs.length then((ak xs p.1).1,(ak xs p.1).2.1,(ak xs p.1).2.2.1,(ak xs p.1).2.2.2.1,(ak xs p.1).2.2.2.2.set p.2.toNat q)else ak xs i:=wD
theorem wB{xs:List ah}{i j:Int}(h:i.toNat=j.toNat):ak xs i=ak xs j:=by unfold ak elt;rw[h]
theorem mI(xs:List ah)(p q:aB)(i:Int):(ak (aO xs p q) i).aH.length=(ak xs i).aH.length:=by
 rw[dK];split
 ·rename_i h;rw[wB h.1.symm];simp[ah.aH]
 ·rfl
theorem aj.set{xs:List ah}{p q r:aB}(h:aj xs r):aj (aO xs p q) r:=by
 unfold aj at h ⊢;rw[dV,mI];exact h
theorem aj.link{xs:List ah}{p q r:aB}(h:aj xs r):aj (bf xs p q) r:=h.set.set
theorem eG(xs:List ah)(p q:aB):(bf xs p q).length=xs.length:=by unfold bf;rw[dV,dV]
theorem Dn{us:List Value}{n:Nat}(hl:us.length=n*5){i:Int}(h0:0≤i)(h1:i<(n:Nat)):i.toNat*5+5≤us.length:=by omega
theorem BL{us:List Value}{n:Nat}(hl:us.length=n*5){i:Int}(h0:0≤i)(h1:i<(n:Nat)){o:Nat}(ho:o<5):us[i.toNat*5+o]? =some (us.getD (i.toNat*5+o) undef):=by
 rw[List.getD_eq_getElem?_getD,List.getElem?_eq_getElem (by omega)];rfl
def fO(xs:List ah)(old now:aB):List ah:=bf xs (aD xs old) now
def gu(xs:List ah)(x y:aB):List ah:=bif (aD xs x).1==y.1&&(aD xs x).2==y.2 then xs else bf xs (aD xs x) (aD xs y)
def bW(kind level value:Int)(data:List Int)(n:Nat):ah:=(kind,level,value,data,List.replicate n (0,0))
def H6(kv:List (Int×Bool))(ks:List Int):List (Int×Bool):=ks.foldl (fun kv k=>iA kv k true) kv
theorem bD{k:Nat}(h:k<1000000000):IntKind.i64.wrap ((k:Int)+1)=((k+1:Nat):Int):=Nb (by omega)
def Np(xs:List ah):Prop:=xs.length≤1048576∧∀i:Nat,(ak xs i).data.length≤1048576∧(ak xs i).aH.length≤1048576
def tO(by_:Int)(x:ah):ah:=bif aG x.kind then(x.1,x.2.1+by_,x.2.2)else x
def zT(by_:Int)(xs:List ah):Bool:=xs.all fun x=> !(aG x.kind)||decide (x.level+by_≤8)
def gZ(by_:Int)(xs:List ah):List ah:=xs.map (tO by_)
def nR(x:Int):Int:=IntKind.i64.wrap (IntKind.i32.wrap x)
def Te(o a b:Int):Int:=
 bif o==1 then nR (IntKind.i64.wrap (nR a+nR b))else bif o==2 then nR (IntKind.i64.wrap (nR a-nR b))else bif o==3 then nR (IntKind.i64.wrap (nR a*nR b))
 else bif o==4 then(bif nR b==0 then 0 else nR (IntKind.i64.wrap ((nR a).tdiv (nR b))))else bif o==5 then(bif decide (nR a<nR b)then 1 else 0)else bif o==6 then(bif nR a==nR b then 1 else 0)else 0
def eB(xs:List ah):Prop:=∀p,aj xs p→aj xs (aD xs p)
theorem Rh{α:Type}{d:α}{xs:List α}{k:Nat}{y:α}{i:Int}:elt d (xs.set k y) i=if k=i.toNat∧k<xs.length then y else elt d xs i:=by
 unfold elt;rw[List.getD_eq_getElem?_getD,List.getD_eq_getElem?_getD,List.getElem?_set]
 by_cases h:k=i.toNat
 ·subst h
  by_cases h2:i.toNat<xs.length<;>simp[h2]
 ·simp[h]
theorem Rf{α:Type}{d:α}{xs ys:List α}{i:Int}(h:i.toNat<xs.length):elt d (xs++ys) i=elt d xs i:=by
 unfold elt;rw[List.getD_eq_getElem?_getD,List.getD_eq_getElem?_getD,List.getElem?_append_left h]
theorem N9{α:Type}{d y:α}{xs:List α}{i:Int}(h:i.toNat=xs.length):elt d (xs++[y]) i=y:=by
 unfold elt;rw[h,List.getD_eq_getElem?_getD];simp
theorem dY{xs ys:List ah}{i:Int}(h:i.toNat<xs.length):ak (xs++ys) i=ak xs i:=Rf h
theorem uo{y:ah}{xs:List ah}{i:Int}(h:i.toNat=xs.length):ak (xs++[y]) i=y:=N9 h
theorem aj.app{xs ys:List ah}{p:aB}(h:aj xs p):aj (xs++ys) p:=by
 obtain⟨h1,h2,h3,h4⟩:=h;refine⟨h1,by rw[List.length_append];omega,h3,?_⟩;rw[dY (by omega)];exact h4
theorem aj.new{k l v:Int}{d:List Int}{n:Nat}{xs:List ah}{s:Int}(h0:0≤s)(h1:s<(n:Nat)):aj (xs++[bW k l v d n]) ((xs.length:Nat),s):=by
 refine⟨by omega,by rw[List.length_append,List.length_singleton];show((xs.length:Nat):Int)<_;omega,h0,?_⟩;rw[uo (by simp)];simpa[bW,ah.aH]using h1
theorem mg{xs ys:List ah}{p:aB}(h:p.1.toNat<xs.length):aD (xs++ys) p=aD xs p:=by unfold aD;rw[dY h]
theorem Dc{xs:List ah}{p q r:aB}(hp:aj xs p)(hr:aj xs r):aD (aO xs p q) r=if p=r then q else aD xs r:=by
 obtain⟨p1,p2,p3,p4⟩:=hp;obtain⟨r1,r2,r3,r4⟩:=hr;unfold aD;rw[dK]
 by_cases h:p.1.toNat=r.1.toNat
 ·have e:p.1=r.1:=by omega
  rw[if_pos ⟨h,by omega⟩];show elt (dflt aQ) ((ak xs p.1).2.2.2.2.set p.2.toNat q) r.2=_;rw[Rh]
  by_cases h2:p.2.toNat=r.2.toNat
  ·have e2:p.2=r.2:=by omega
   rw[if_pos ⟨h2,by simp only[ah.aH]at p4;omega⟩,if_pos (Prod.ext e e2)]
  ·rw[if_neg (fun hh=>h2 hh.1),if_neg (fun hh=>h2 (by rw[hh])),e]
 ·rw[if_neg (fun hh=>h hh.1),if_neg (fun hh=>h (by rw[hh]))]
theorem eZ{xs:List ah}{p q r:aB}(hp:aj xs p)(hq:aj xs q)(hr:aj xs r):aD (bf xs p q) r=if q=r then p else if p=r then q else aD xs r:=by
 unfold bf;rw[Dc hq.set hr.set,Dc hp hr]
theorem aj.unset{xs:List ah}{p q r:aB}(h:aj (aO xs p q) r):aj xs r:=by
 unfold aj at h ⊢
 rwa[dV,mI]at h
theorem aj.unlink{xs:List ah}{p q r:aB}(h:aj (bf xs p q) r):aj xs r:=h.unset.unset
theorem eB.link{xs:List ah}{p q:aB}(h:eB xs)(hp:aj xs p)(hq:aj xs q):eB (bf xs p q):=fun r hr=>by
 have hr':=hr.unlink;rw[eZ hp hq hr'];split
 ·exact hp.link
 ·split
  ·exact hq.link
  ·exact(h r hr').link
theorem eB.move{xs:List ah}{p q:aB}(h:eB xs)(hp:aj xs p)(hq:aj xs q):eB (fO xs p q):=h.link (h p hp) hq
theorem aj.move{xs:List ah}{p q r:aB}(h:aj xs r):aj (fO xs p q) r:=h.link
theorem aj.join{xs:List ah}{p q r:aB}(h:aj xs r):aj (gu xs p q) r:=by
 unfold gu;cases ((aD xs p).1==q.1&&(aD xs p).2==q.2)with
 |true=>exact h
 |false=>exact h.link
theorem eB.join{xs:List ah}{p q:aB}(h:eB xs)(hp:aj xs p)(hq:aj xs q):eB (gu xs p q):=by
 unfold gu;cases ((aD xs p).1==q.1&&(aD xs p).2==q.2)with
 |true=>exact h
 |false=>exact h.link (h p hp) (h q hq)
theorem eB.add{xs:List ah}(h:eB xs)(h0:aj xs (0,0))(k l v:Int)(d:List Int)(n:Nat):eB (xs++[bW k l v d n]):=fun r hr=>by
 by_cases hlt:r.1.toNat<xs.length
 ·rw[mg hlt];obtain⟨r1,r2,r3,r4⟩:=hr;rw[dY hlt]at r4;exact(h r ⟨r1,by omega,r3,r4⟩).app
 ·obtain⟨r1,r2,r3,r4⟩:=hr;rw[List.length_append,List.length_singleton]at r2;have e:r.1.toNat=xs.length:=by omega
  have hp:aD (xs++[bW k l v d n]) r=(0,0):=by
   unfold aD;rw[uo e]at r4 ⊢;simp only[bW,ah.aH,List.length_replicate]at r4;unfold elt;rw[List.getD_eq_getElem?_getD];simp only[bW,ah.aH];rw[List.getElem?_replicate];split<;>rfl
  rw[hp];exact h0.app
theorem yE(xs:List ah)(p q:aB):(fO xs p q).length=xs.length:=eG _ _ _
theorem kF{xs:List ah}{p q a b:aB}(hp:aj xs p)(hq:aj xs q)(hn:p≠q):aO (aO xs p a) q b=aO (aO xs q b) p a:=by
 obtain⟨p1,p2,p3,p4⟩:=hp;obtain⟨q1,q2,q3,q4⟩:=hq
 by_cases h:p.1.toNat=q.1.toNat
 ·have e:p.1=q.1:=by omega
  have h2:p.2.toNat≠q.2.toNat:=fun h2=>hn (Prod.ext e (by omega))
  have k1:ak (aO xs p a) q.1=((ak xs p.1).1,(ak xs p.1).2.1,(ak xs p.1).2.2.1,(ak xs p.1).2.2.2.1,(ak xs p.1).2.2.2.2.set p.2.toNat a):=by
   rw[dK,if_pos ⟨h,by omega⟩]
  have k2:ak (aO xs q b) p.1=((ak xs q.1).1,(ak xs q.1).2.1,(ak xs q.1).2.2.1,(ak xs q.1).2.2.2.1,(ak xs q.1).2.2.2.2.set q.2.toNat b):=by
   rw[dK,if_pos ⟨h.symm,by omega⟩]
  rw[show aO (aO xs p a) q b=(aO xs p a).set q.1.toNat ((ak (aO xs p a) q.1).1,(ak (aO xs p a) q.1).2.1,(ak (aO xs p a) q.1).2.2.1,(ak (aO xs p a) q.1).2.2.2.1,(ak (aO xs p a) q.1).2.2.2.2.set q.2.toNat b) from rfl,show aO (aO xs q b) p a=(aO xs q b).set p.1.toNat ((ak (aO xs q b) p.1).1,(ak (aO xs q b) p.1).2.1,(ak (aO xs q b) p.1).2.2.1,(ak (aO xs q b) p.1).2.2.2.1,(ak (aO xs q b) p.1).2.2.2.2.set p.2.toNat a) from rfl,k1,k2];unfold aO;rw[h,List.set_set,List.set_set,e]
  simp only[];rw[List.set_comm _ _ h2]
 ·have k1:ak (aO xs p a) q.1=ak xs q.1:=by rw[dK,if_neg fun hh=>h hh.1]
  have k2:ak (aO xs q b) p.1=ak xs p.1:=by rw[dK,if_neg fun hh=>h hh.1.symm]
  rw[show aO (aO xs p a) q b=(aO xs p a).set q.1.toNat ((ak (aO xs p a) q.1).1,(ak (aO xs p a) q.1).2.1,(ak (aO xs p a) q.1).2.2.1,(ak (aO xs p a) q.1).2.2.2.1,(ak (aO xs p a) q.1).2.2.2.2.set q.2.toNat b) from rfl,show aO (aO xs q b) p a=(aO xs q b).set p.1.toNat ((ak (aO xs q b) p.1).1,(ak (aO xs q b) p.1).2.1,(ak (aO xs q b) p.1).2.2.1,(ak (aO xs q b) p.1).2.2.2.1,(ak (aO xs q b) p.1).2.2.2.2.set p.2.toNat a) from rfl,k1,k2];unfold aO;rw[List.set_comm _ _ h]
theorem AY{xs:List ah}{p q:aB}(hp:aj xs p)(hq:aj xs q):bf xs p q=bf xs q p:=by
 by_cases h:p=q
 ·rw[h]
 ·unfold bf;exact kF hp hq h
def uU(d:List Int)(i:Int):Int:=elt (dflt (.int .i64)) d i
def jL(xs:List ah)(x y:Int):List ah:=
 bif (ak xs y).1==7 then fO (fO (xs++[bW 8 (ak xs y).2.1 (ak xs y).2.2.1 [(ak xs x).2.2.1] 2]) (y,1) ((xs.length:Nat),0)) (y,2) ((xs.length:Nat),1)
 else fO (xs++[bW 6 0 (Te (ak xs y).2.2.1 (uU (ak xs y).2.2.2.1 0) (ak xs x).2.2.1) [] 1]) (y,1) ((xs.length:Nat),0)
def SY:ah:=(0,0,0,[],[])
def eD(xs:List ah)(a:Int):List ah:=xs.set a.toNat SY
def su(x c d:Int)(xs:List ah)(i:Nat):List ah:=bf (bf (xs++[bW 4 (ak xs x).2.1 0 [] 3]) ((xs.length:Nat),1) (c,(i:Nat))) ((xs.length:Nat),2) (d,(i:Nat))
def iw(x c d:Int)(xs:List ah):Nat→List ah
 |0=>xs
 |k+1=>su x c d (iw x c d xs k) (k+1)
def j6(y:Int)(b:Nat)(xs:List ah):Nat→List ah
 |0=>xs
 |k+1=>fO (j6 y b xs k) (y,((k:Nat):Int)+1) (((b+k:Nat):Int),0)
def r9(xs:List ah)(y:Int):ah:=bW (ak xs y).1 (ak xs y).2.1 (ak xs y).2.2.1 (ak xs y).2.2.2.1 (ak xs y).2.2.2.2.length
def dup2(xs:List ah)(y:Int):List ah:=xs++[r9 xs y]++[r9 xs y]
def dup3(xs:List ah)(x y:Int):List ah:=iw x ((xs.length:Nat)) ((xs.length+1:Nat)) (dup2 xs y) ((ak xs y).2.2.2.2.length-1)
def Ra(xs:List ah)(x y:Int):List ah:=fO (fO (dup3 xs x y) (x,1) ((xs.length:Nat),0)) (x,2) ((xs.length+1:Nat),0)
def jI(xs:List ah)(x y:Int):List ah:=j6 y (xs.length+2) (Ra xs x y) ((ak xs y).2.2.2.2.length-1)
theorem I4(x c d:Int)(xs:List ah)(i:Nat):(su x c d xs i).length=xs.length+1:=by unfold su;rw[eG,eG,List.length_append];rfl
theorem oZ(x c d:Int)(xs:List ah):∀k,(iw x c d xs k).length=xs.length+k
 |0=>rfl
 |k+1=>by unfold iw;rw[I4,oZ x c d xs k];omega
theorem CB{x c d:Int}{xs:List ah}{i:Nat}{p:aB}(h:aj xs p):aj (su x c d xs i) p:=h.app.link.link
theorem kK{x c d:Int}{xs:List ah}{p:aB}(h:aj xs p):∀k,aj (iw x c d xs k) p
 |0=>h
 |k+1=>CB (kK h k)
theorem IZ{x c d:Int}{xs:List ah}{i:Nat}(h:eB xs)(h0:aj xs (0,0))(hc:aj xs (c,(i:Nat)))(hd:aj xs (d,(i:Nat))):eB (su x c d xs i):=
 ((h.add h0 4 (ak xs x).2.1 0 [] 3).link (aj.new (by decide) (by decide)) hc.app).link (aj.link (aj.new (by decide) (by decide))) hd.app.link
theorem yX{x c d:Int}{xs:List ah}(h:eB xs)(h0:aj xs (0,0)):∀k,(∀i:Nat,i≤k→aj xs (c,(i:Nat))∧aj xs (d,(i:Nat)))→eB (iw x c d xs k)
 |0,_=>h
 |k+1,hk=>IZ (yX h h0 k fun i hi=>hk i (by omega)) (kK h0 k) (kK (hk (k+1) (Nat.le_refl _)).1 k) (kK (hk (k+1) (Nat.le_refl _)).2 k)
theorem mV{y:Int}{b:Nat}{xs:List ah}{p:aB}(h:aj xs p):∀k,aj (j6 y b xs k) p
 |0=>h
 |k+1=>(mV h k).move
theorem wO{y:Int}{b:Nat}{xs:List ah}(h:eB xs):∀k,(∀i:Nat,i<k→aj xs (y,((i:Nat):Int)+1)∧aj xs (((b+i:Nat):Int),0))→eB (j6 y b xs k)
 |0,_=>h
 |k+1,hk=>(wO h k fun i hi=>hk i (by omega)).move (mV (hk k (by omega)).1 k) (mV (hk k (by omega)).2 k)
theorem p9(xs:List ah)(y:Int):(dup2 xs y).length=xs.length+2:=by unfold dup2;simp
theorem DI{xs:List ah}{y:Int}{p:aB}(h:aj xs p):aj (dup2 xs y) p:=h.app.app
theorem IX{xs:List ah}{y:Int}{i:Int}(h0:0≤i)(h1:i<((ak xs y).2.2.2.2.length:Nat)):aj (dup2 xs y) (((xs.length:Nat):Int),i):=(aj.new h0 h1).app
theorem IY{xs:List ah}{y:Int}{i:Int}(h0:0≤i)(h1:i<((ak xs y).2.2.2.2.length:Nat)):aj (dup2 xs y) (((xs.length+1:Nat):Int),i):=by
 have:=aj.new (xs:=xs++[r9 xs y]) (k:=(ak xs y).1) (l:=(ak xs y).2.1) (v:=(ak xs y).2.2.1) (d:=(ak xs y).2.2.2.1) h0 h1;rw[List.length_append,List.length_singleton]at this;exact this
theorem N8{xs:List ah}{y:Int}(h:eB xs)(h0:aj xs (0,0)):eB (dup2 xs y):=(h.add h0 _ _ _ _ _).add h0.app _ _ _ _ _
theorem Am{x:Int}{c d:Int}{xs:List ah}:∀{k i:Nat},i<k→aj (iw x c d xs k) (((xs.length+i:Nat):Int),0)
 |0,i,h=>by omega
 |k+1,i,h=>by
  by_cases e:i=k
  ·subst e;have h2:=(aj.new (xs:=iw x c d xs i) (k:=4) (l:=(ak (iw x c d xs i) x).2.1) (v:=0) (d:=[]) (n:=3) (s:=0) (by decide) (by decide)).link (p:=(((iw x c d xs i).length:Nat),1)) (q:=(c,((i+1:Nat):Int)));have h3:=h2.link (p:=(((iw x c d xs i).length:Nat),2)) (q:=(d,((i+1:Nat):Int)));rw[oZ]at h3;unfold iw su;rw[oZ];exact h3
  ·exact CB (Am (by omega))
def nG(b:Nat):Nat→aB
 |0=>(((b-1:Nat):Int),0)
 |k+1=>(((b+k:Nat):Int),2)
def uS(lv:Int)(b:Nat)(xs:List ah):Nat→List ah
 |0=>xs
 |k+1=>bf (uS lv b xs k++[bW 3 lv 0 [] 3]) (((b+k:Nat):Int),0) (nG b k)
def F4(x:Int)(b:Nat)(xs:List ah):Nat→List ah
 |0=>xs
 |k+1=>fO (F4 x b xs k) (x,((k:Nat):Int)+1) (((b+k:Nat):Int),1)
def gX(xs:List ah)(y i:Int):List ah:=xs++[bW 12 (ak xs y).2.1 (uU (ak xs y).2.2.2.1 i) [] 1]
def qF(xs:List ah)(x y:Int):List ah:=
 bif (ak xs x).1==6 then fO (gX xs y (bif (ak xs x).2.2.1==0 then 1 else 0)) (y,1) ((xs.length:Nat),0)
 else fO (F4 x (xs.length+1) (uS (ak xs y).2.1 (xs.length+1) (gX xs y (ak xs x).2.2.1) ((ak xs x).2.2.2.2.length-1)) ((ak xs x).2.2.2.2.length-1)) (y,1) (nG (xs.length+1) ((ak xs x).2.2.2.2.length-1))
theorem wK(lv:Int)(b:Nat)(xs:List ah):∀k,(uS lv b xs k).length=xs.length+k
 |0=>rfl
 |k+1=>by unfold uS;rw[eG,List.length_append,wK lv b xs k];simp;omega
theorem Dz{lv:Int}{b:Nat}{xs:List ah}{p:aB}(h:aj xs p):∀k,aj (uS lv b xs k) p
 |0=>h
 |k+1=>(Dz h k).app.link
theorem zG{lv:Int}{xs:List ah}{s:Int}(h0:0≤s)(h1:s<3):∀{k i:Nat},i<k→aj (uS lv xs.length xs k) (((xs.length+i:Nat):Int),s)
 |0,i,h=>by omega
 |k+1,i,h=>by
  by_cases e:i=k
  ·subst e;have:=(aj.new (xs:=uS lv xs.length xs i) (k:=3) (l:=lv) (v:=0) (d:=[]) (n:=3) h0 (by omega)).link (p:=(((xs.length+i:Nat):Int),0)) (q:=nG xs.length i);rw[wK]at this;exact this
  ·exact(zG h0 h1 (by omega:i<k)).app.link
theorem Kc{lv:Int}{xs:List ah}(hr:aj xs (nG xs.length 0)):∀k,aj (uS lv xs.length xs k) (nG xs.length k)
 |0=>hr
 |k+1=>zG (by decide) (by decide) (Nat.lt_succ_self k)
theorem Ke{lv:Int}{xs:List ah}(h:eB xs)(h0:aj xs (0,0))(hr:aj xs (nG xs.length 0)):∀k,eB (uS lv xs.length xs k)
 |0=>h
 |k+1=>by
  unfold uS;have:=aj.new (xs:=uS lv xs.length xs k) (k:=3) (l:=lv) (v:=0) (d:=[]) (n:=3) (s:=0) (by decide) (by decide);rw[wK]at this;exact((Ke h h0 hr k).add (Dz h0 k) _ _ _ _ _).link this (Kc hr k).app
theorem J8(x:Int)(b:Nat)(xs:List ah):∀k,(F4 x b xs k).length=xs.length
 |0=>rfl
 |k+1=>by unfold F4;rw[yE,J8 x b xs k]
theorem pG{x:Int}{b:Nat}{xs:List ah}{p:aB}(h:aj xs p):∀k,aj (F4 x b xs k) p
 |0=>h
 |k+1=>(pG h k).move
theorem J7{x:Int}{b:Nat}{xs:List ah}(h:eB xs):∀k,(∀i:Nat,i<k→aj xs (x,((i:Nat):Int)+1)∧aj xs (((b+i:Nat):Int),1))→eB (F4 x b xs k)
 |0,_=>h
 |k+1,hk=>(J7 h k fun i hi=>hk i (by omega)).move (pG (hk k (by omega)).1 k) (pG (hk k (by omega)).2 k)
theorem Mf(xs:List ah)(y i:Int):(gX xs y i).length=xs.length+1:=by simp[gX]
theorem wC{xs:List ah}{i:Nat}(h:i<xs.length):ak xs (i:Nat)=xs[i]:=by
 unfold ak elt;rw[Int.toNat_natCast,List.getD_eq_getElem?_getD,List.getElem?_eq_getElem h];rfl
def je(bk:List (List ah))(i:Int):List ah:=elt ([]:List ah) bk i
def zu(y:Int)(xs:List ah):Nat→List ah
 |0=>xs
 |k+1=>fO (zu y xs k++[bW 5 0 0 [] 1]) (y,((k+1:Nat):Int)) (((xs.length+k:Nat):Int),0)
def Av(xs:List ah)(y:Int):List ah:=zu y xs ((ak xs y).2.2.2.2.length-1)
theorem zJ(y:Int)(xs:List ah):∀k,(zu y xs k).length=xs.length+k
 |0=>rfl
 |k+1=>by unfold zu;rw[yE,List.length_append,zJ y xs k];simp;omega
theorem DT{y:Int}{xs:List ah}{p:aB}(h:aj xs p):∀k,aj (zu y xs k) p
 |0=>h
 |k+1=>(DT h k).app.move
theorem Rm{y:Int}{xs:List ah}(k:Nat):aj (zu y xs k++[bW 5 0 0 [] 1]) (((xs.length+k:Nat):Int),0):=by
 have:=aj.new (xs:=zu y xs k) (k:=5) (l:=0) (v:=0) (d:=[]) (n:=1) (s:=0) (by decide) (by decide)
 rwa[zJ]at this
theorem Kw{y:Int}{xs:List ah}(h:eB xs)(h0:aj xs (0,0)):∀k,(∀i:Nat,i<k→aj xs (y,((i+1:Nat):Int)))→eB (zu y xs k)
 |0,_=>h
 |k+1,hk=>((Kw h h0 k fun i hi=>hk i (by omega)).add (DT h0 k) _ _ _ _ _).move (DT (hk k (by omega)) k).app (Rm k)
theorem Bn(xs:List ah)(p q:aB)(i:Int):(ak (bf xs p q) i).2.2.2.2.length=(ak xs i).2.2.2.2.length:=by
 unfold bf;have h1:=mI (aO xs p q) q p i;have h2:=mI xs p q i;exact h1.trans h2
def TF(bk:List (List ah)):Prop:=∀i:Nat,(∀j:Nat,0≤(ak (je bk i) j).2.1∧(ak (je bk i) j).2.1≤8)
def gY(b:Int)(a:ah):ah:=(a.1,a.2.1,a.2.2.1,a.2.2.2.1,a.2.2.2.2.map fun p=>(p.1+b,p.2))
def vD(bk:List (List ah))(xs:List ah)(x:Int):List ah:=gZ (ak xs x).2.1 (je bk (ak xs x).2.2.1)
def wR(bk:List (List ah))(xs:List ah)(x y:Int):List ah:=
 bf (xs++((vD bk xs x).drop 1).map (gY ((xs.length:Nat)-1))) (y,0) ((aD (vD bk xs x) (0,0)).1+((xs.length:Nat)-1),(aD (vD bk xs x) (0,0)).2)
def pK(bk:List (List ah))(xs:List ah)(c x y:Int):List ah:=
 bif c==1 then gu (gu xs (x,1) (y,1)) (x,2) (y,2)else bif c==2 then gu (gu xs (x,1) (y,1)) (x,2) (y,2)
 else bif c==3 then jI xs x y else bif c==4 then Av xs y else bif c==5 then jL xs x y else bif c==6 then qF xs x y else bif c==7 then wR bk xs x y else xs
def nJ(c x y:Int):List Int:=bif c==7 then[x]else[x,y]
structure IntPre(xs:List ah)(c x y:Int):Prop where
 x0:0≤x∧x<(xs.length:Nat)
 y0:0≤y∧y<(xs.length:Nat)
 c12:c=1∨c=2→aj xs (x,1)∧aj xs (x,2)∧aj xs (y,1)∧aj xs (y,2)
 c3:c=3→aj xs (x,1)∧aj xs (x,2)
 px:0<(ak xs x).2.2.2.2.length∧(ak xs x).2.2.2.2.length≤1000
 py:0<(ak xs y).2.2.2.2.length∧(ak xs y).2.2.2.2.length≤1000
 dy:(ak xs y).2.2.2.1.length≤1000000
 c5:c=5→aj xs (y,1)∧((ak xs y).1=7→aj xs (y,2))∧((ak xs y).1≠7→0<(ak xs y).2.2.2.1.length)
 c6:c=6→aj xs (y,1)∧((ak xs x).1=6→(ak xs y).2.2.2.1.length=2)∧((ak xs x).1≠6→0≤(ak xs x).2.2.1∧(ak xs x).2.2.1<((ak xs y).2.2.2.1.length:Nat))
def zn(lv x:Int)(b:Nat)(xs:List ah):Nat→List ah
 |0=>xs
 |k+1=>fO (bf (zn lv x b xs k++[bW 3 lv 0 [] 3]) (nG b k) (((b+k:Nat):Int),0)) (x,((k+1:Nat):Int)) (((b+k:Nat):Int),1)
def wM(xs:List ah)(x y:Int):List ah:=
 bif (ak xs y).1==11 then fO (gX xs y (bif (ak xs x).2.2.1==0 then 1 else 0)) (y,1) ((xs.length:Nat),0)
 else fO (zn (ak xs y).2.1 x (xs.length+1) (gX xs y (ak xs x).2.2.1) ((ak xs x).2.2.2.2.length-1)) (y,1) (nG (xs.length+1) ((ak xs x).2.2.2.2.length-1))
theorem wL(lv x:Int)(b:Nat)(xs:List ah):∀k,(zn lv x b xs k).length=xs.length+k
 |0=>rfl
 |k+1=>by unfold zn;rw[yE,eG,List.length_append,wL lv x b xs k];simp;omega
theorem IQ{lv x:Int}{b:Nat}{xs:List ah}{p:aB}(h:aj xs p):∀k,aj (zn lv x b xs k) p
 |0=>h
 |k+1=>(IQ h k).app.link.move
theorem Ki{lv x:Int}{xs:List ah}{s:Int}(h0:0≤s)(h1:s<3):∀{k i:Nat},i<k→aj (zn lv x xs.length xs k) (((xs.length+i:Nat):Int),s)
 |0,i,h=>by omega
 |k+1,i,h=>by
  by_cases e:i=k
  ·subst e;have:=(aj.new (xs:=zn lv x xs.length xs i) (k:=3) (l:=lv) (v:=0) (d:=[]) (n:=3) h0 (by omega));rw[wL]at this;exact this.link.move
  ·exact(Ki h0 h1 (by omega:i<k)).app.link.move
theorem NS{lv x:Int}{xs:List ah}(hr:aj xs (nG xs.length 0)):∀k,aj (zn lv x xs.length xs k) (nG xs.length k)
 |0=>hr
 |k+1=>Ki (by decide) (by decide) (Nat.lt_succ_self k)
def uz(lab c d:Int)(xs:List ah)(i:Nat):List ah:=bf (bf (xs++[bW 4 lab 0 [] 3]) ((xs.length:Nat),1) (c,(i:Nat))) ((xs.length:Nat),2) (d,(i:Nat))
def bX(lab c d:Int)(xs:List ah):Nat→List ah
 |0=>xs
 |k+1=>uz lab c d (bX lab c d xs k) (k+1)
theorem GJ(xs:List ah)(p q:aB)(i:Int):(ak (bf xs p q) i).2.1=(ak xs i).2.1:=by
 unfold bf
 have h:∀(xs:List ah) (p q:aB),(ak (aO xs p q) i).2.1=(ak xs i).2.1:=fun xs p q=>by
  rw[dK];split
  ·rename_i h;rw[wB h.1.symm]
  ·rfl
 rw[h,h]
theorem mU{x c d:Int}{xs:List ah}(hx:x.toNat<xs.length):∀k,bX (ak xs x).2.1 c d xs k=iw x c d xs k∧(ak (iw x c d xs k) x).2.1=(ak xs x).2.1
 |0=>⟨rfl,rfl⟩
 |k+1=>by
  obtain⟨h1,h2⟩:=mU hx k (c:=c) (d:=d);refine⟨?_,?_⟩
  ·unfold bX iw uz su;rw[h1,h2]
  ·unfold iw su;rw[GJ,GJ,dY (by rw[oZ];omega),h2]
def U7(lv b:Int)(t:List ah)(k:Nat):List ah:=(((gZ lv t).drop 1).take k).map (gY b)
def DU(t:List ah)(lv:Int)(xs:List ah)(y:Int):List ah:=
 bf (xs++U7 lv ((xs.length:Nat)-1) t (t.length-1)) (((xs.length:Nat)-1)+(aD t (0,0)).1,(aD t (0,0)).2) (y,0)
def IV(x y:ah):Bool:=bif (bif x.1==9 then y.1==10 else false)then decide ((y.2.2.2.1.length:Int)≤x.2.2.1)else false
def I8(xs:List ah)(a b:Int):Int×Int:=bif Db (ak xs a).1 (ak xs a).2.1 (ak xs b).1 (ak xs b).2.1==2 then(b,a)else(a,b)
def sO(bk:List (List ah))(xs:List ah)(c x y:Int):List ah:=
 bif c==1 then gu (gu xs (x,1) (y,1)) (x,2) (y,2)else bif c==2 then gu (gu xs (x,1) (y,1)) (x,2) (y,2)
 else bif c==3 then jI xs x y else bif c==4 then Av xs y else bif c==5 then jL xs x y else bif c==6 then wM xs x y else bif c==7 then DU (je bk (ak xs x).2.2.1) (ak xs x).2.1 xs y else xs
def NZ(bk:List (List ah))(xs:List ah)(c x y:Int):List ah:=bif c==7 then eD (sO bk xs c x y) x else eD (eD (sO bk xs c x y) x) y
structure QG(xs:List ah)(c x y:Int):Prop extends IntPre xs c x y where
 k5:c=5→(ak xs y).1=7∨(ak xs y).1=8
 k6:c=6→((ak xs y).1=11→(ak xs y).2.2.2.1.length=2)∧((ak xs y).1≠11→0≤(ak xs x).2.2.1∧(ak xs x).2.2.1<((ak xs y).2.2.2.1.length:Nat)∧(ak xs x).1=9)
theorem vL(xs:List ah)(a:Int):(eD xs a).length=xs.length:=List.length_set
def fE(L:aB→Prop)(xs:List ah):Prop:=∀p,L p→aj xs p∧L (aD xs p)∧aD xs (aD xs p)=p∧aD xs p≠p
theorem fE.congr{L M:aB→Prop}{xs:List ah}(h:fE L xs)(e:∀p,M p↔L p):fE M xs:=fun p hp=>by
 obtain⟨h1,h2,h3⟩:=h p ((e p).1 hp);exact⟨h1,(e _).2 h2,h3⟩
theorem fE.cut{L:aB→Prop}{xs:List ah}(h:fE L xs){a:aB}(ha:L a):fE (fun p=>L p∧p≠a∧p≠aD xs a) xs:=fun p ⟨hp,h1,h2⟩=>by
 obtain⟨k1,k2,k3,k4⟩:=h p hp;refine⟨k1,⟨k2,fun e=>h2 (by rw[←e,k3]),fun e=>h1 ?_⟩,k3,k4⟩;have:=congrArg (aD xs) e;rw[k3,(h a ha).2.2.1]at this;exact this
theorem dh{p q:aB}(h1:p.1=q.1)(h2:p.2=q.2):p=q:=by cases p;cases q;simp_all
theorem fE.link{L:aB→Prop}{xs:List ah}(h:fE L xs){p q:aB}(hp:aj xs p)(hq:aj xs q)(np:¬L p)(nq:¬L q)(hpq:p≠q):fE (fun r=>L r∨r=p∨r=q) (bf xs p q):=fun r hr=>by
 have key:∀s,L s→aj xs s∧s≠p∧s≠q:=fun s hs=>⟨(h s hs).1,fun e=>np (e▸hs),fun e=>nq (e▸hs)⟩
 rcases hr with hr|rfl|rfl
 ·obtain⟨h1,h2,h3,h5⟩:=h r hr;obtain⟨_,n1,n2⟩:=key r hr;obtain⟨h4,n3,n4⟩:=key _ h2;have e1:aD (bf xs p q) r=aD xs r:=by rw[eZ hp hq h1,if_neg n2.symm,if_neg n1.symm]
  refine⟨h1.link,?_,?_,?_⟩
  ·rw[e1];exact .inl h2
  ·rw[e1,eZ hp hq h4,if_neg n4.symm,if_neg n3.symm,h3]
  ·rw[e1];exact h5
 ·have e1:aD (bf xs r q) r=q:=by rw[eZ hp hq hp,if_neg hpq.symm,if_pos rfl]
  have e2:aD (bf xs r q) q=r:=by rw[eZ hp hq hq,if_pos rfl]
  exact⟨hp.link,by rw[e1];exact .inr (.inr rfl),by rw[e1,e2],by rw[e1];exact hpq.symm⟩
 ·have e1:aD (bf xs p r) r=p:=by rw[eZ hp hq hq,if_pos rfl]
  have e2:aD (bf xs p r) p=r:=by rw[eZ hp hq hp,if_neg hpq.symm,if_pos rfl]
  exact⟨hq.link,by rw[e1];exact .inr (.inl rfl),by rw[e1,e2],by rw[e1];exact hpq⟩
theorem fE.move{L:aB→Prop}{xs:List ah}(h:fE L xs){old now:aB}(ho:L old)(hn:aj xs now)(nn:¬L now):fE (fun r=>(L r∧r≠old)∨r=now) (fO xs old now):=by
 obtain⟨h1,h2,h3,h4⟩:=h old ho;have hne:aD xs old≠now:=fun e=>nn (e▸h2)
 have:=(h.cut ho).link (p:=aD xs old) (q:=now) (h _ h2).1 hn (fun e=>e.2.2 rfl) (fun e=>nn e.1) hne;refine this.congr fun r=> ?_
 constructor
 ·rintro(⟨k1,k2⟩|rfl)
  ·by_cases e:r=aD xs old
   ·exact .inr (.inl e)
   ·exact .inl ⟨k1,k2,e⟩
  ·exact .inr (.inr rfl)
 ·rintro(⟨k1,k2,k3⟩|rfl|rfl)
  ·exact .inl ⟨k1,k2⟩
  ·exact .inl ⟨h2,h4⟩
  ·exact .inr rfl
theorem fE.join{L:aB→Prop}{xs:List ah}(h:fE L xs){x y:aB}(hx:L x)(hy:L y)(hxy:x≠y):fE (fun r=>L r∧r≠x∧r≠y) (gu xs x y):=by
 obtain⟨h1,h2,h3,h4⟩:=h x hx;obtain⟨k1,k2,k3,k4⟩:=h y hy;unfold gu
 by_cases e:aD xs x=y
 ·rw[show((aD xs x).1==y.1&&(aD xs x).2==y.2)=true by rw[e];simp];refine(h.cut hx).congr fun r=> ?_
  rw[e]
 ·rw[show((aD xs x).1==y.1&&(aD xs x).2==y.2)=false by
   cases hb:((aD xs x).1==y.1&&(aD xs x).2==y.2)with
   |false=>rfl
   |true=>
    simp only[Bool.and_eq_true,beq_iff_eq]at hb;exact absurd (dh hb.1 hb.2) e]
  rw[cond_false];have hyx:aD xs y≠x:=fun h=>e (by rw[←h,k3])
  have hpp:aD xs x≠aD xs y:=fun h=>hxy (by rw[←h3,h,k3])
  have c1:=h.cut hx;have hy':L y∧y≠x∧y≠aD xs x:=⟨hy,hxy.symm,fun h=>e h.symm⟩;have c2:=c1.cut (a:=y) hy';have:=c2.link (p:=aD xs x) (q:=aD xs y) (h _ h2).1 (h _ k2).1 (fun h=>h.1.2.2 rfl) (fun h=>h.2.2 rfl) hpp;refine this.congr fun r=> ?_
  constructor
  ·rintro⟨q1,q2,q3⟩
   by_cases e1:r=aD xs x
   ·exact .inr (.inl e1)
   by_cases e2:r=aD xs y
   ·exact .inr (.inr e2)
   ·exact .inl ⟨⟨q1,q2,e1⟩,q3,e2⟩
  ·rintro(⟨⟨q1,q2,q3⟩,q4,q5⟩|rfl|rfl)
   ·exact⟨q1,q2,q4⟩
   ·exact⟨h2,h4,e⟩
   ·exact⟨k2,hyx,k4⟩
theorem fE.app{L:aB→Prop}{xs:List ah}(h:fE L xs)(zs:List ah):fE L (xs++zs):=fun p hp=>by
 obtain⟨h1,h2,h3,h4⟩:=h p hp;have lt:∀{q:aB},aj xs q→q.1.toNat<xs.length:=fun {q} hq=>by have:=hq.1;have:=hq.2.1;omega
 have e1:=mg (ys:=zs) (lt h1);exact⟨h1.app,by rw[e1];exact h2,by rw[e1,mg (lt (h _ h2).1),h3],by rw[e1];exact h4⟩
def Agree(D:Int→Prop)(xs ys:List ah):Prop:=xs.length=ys.length∧∀i:Int,0≤i→i<(xs.length:Nat)→¬D i→ak xs i=ak ys i
theorem Agree.port{D:Int→Prop}{xs ys:List ah}(h:Agree D xs ys){p:aB}(hp:aj xs p)(hd:¬D p.1):aj ys p∧aD ys p=aD xs p:=by
 obtain⟨p1,p2,p3,p4⟩:=hp;have e:=h.2 p.1 p1 p2 hd;exact⟨⟨p1,by rw[←h.1];exact p2,p3,by rw[←e];exact p4⟩,by unfold aD;rw[e]⟩
theorem Agree.setPort{D:Int→Prop}{xs ys:List ah}(h:Agree D xs ys){p:aB}(q:aB)(hp:aj xs p)(hd:¬D p.1):Agree D (aO xs p q) (aO ys p q):=by
 refine⟨by rw[dV,dV];exact h.1,fun i h0 h1 hi=> ?_⟩;rw[dV]at h1;rw[dK,dK,h.2 p.1 hp.1 hp.2.1 hd,h.2 i h0 h1 hi,h.1]
theorem Agree.link{D:Int→Prop}{xs ys:List ah}(h:Agree D xs ys){p q:aB}(hp:aj xs p)(hq:aj xs q)(dp:¬D p.1)(dq:¬D q.1):Agree D (bf xs p q) (bf ys p q):=(h.setPort q hp dp).setPort p hq.set dq
theorem Agree.app{D:Int→Prop}{xs ys:List ah}(h:Agree D xs ys)(zs:List ah):Agree D (xs++zs) (ys++zs):=by
 refine⟨by rw[List.length_append,List.length_append,h.1],fun i h0 h1 hi=> ?_⟩;rw[List.length_append]at h1
 by_cases hl:i<(xs.length:Nat)
 ·rw[dY (by omega),dY (by rw[←h.1];omega)];exact h.2 i h0 hl hi
 ·have:∀ws:List ah,ws.length=xs.length→ak (ws++zs) i=zs.getD (i.toNat-xs.length) (dflt aV):=fun ws hw=>by
   unfold ak elt;rw[List.getD_eq_getElem?_getD,List.getElem?_append_right (by omega),hw,List.getD_eq_getElem?_getD]
  rw[this xs rfl,this ys h.1.symm]
theorem Agree.mono{D E:Int→Prop}{xs ys:List ah}(h:Agree D xs ys)(k:∀i,D i→E i):Agree E xs ys:=⟨h.1,fun i h0 h1 hi=>h.2 i h0 h1 fun hd=>hi (k i hd)⟩
theorem Agree.drop{D:Int→Prop}{xs ys:List ah}(h:Agree D xs ys){a:Int}(h0:0≤a)(hd:D a):Agree D xs (eD ys a):=by
 refine⟨by unfold eD;rw[List.length_set];exact h.1,fun i i0 i1 hi=> ?_⟩;unfold eD;rw[wD,if_neg (fun e=>hi (by(have:i=a:=by omega);rw[this];exact hd))];exact h.2 i i0 i1 hi
structure qY(D:Int→Prop)(L:aB→Prop)(xs ys:List ah):Prop where
 ag:Agree D xs ys
 wi:fE L xs
 al:∀p,L p→¬D p.1
section
variable {D:Int→Prop}{L:aB→Prop}{xs ys:List ah}
theorem qY.peer(h:qY D L xs ys){p:aB}(hp:L p):aD ys p=aD xs p:=(h.ag.port (h.wi p hp).1 (h.al p hp)).2
theorem qY.move(h:qY D L xs ys){old now:aB}(ho:L old)(hn:aj xs now)(nn:¬L now)(dn:¬D now.1):qY D (fun r=>(L r∧r≠old)∨r=now) (fO xs old now) (fO ys old now):=by
 refine⟨?_,h.wi.move ho hn nn,fun p hp=> ?_⟩
 ·unfold fO;rw[h.peer ho];exact h.ag.link (h.wi _ (h.wi _ ho).2.1).1 hn (h.al _ (h.wi _ ho).2.1) dn
 ·rcases hp with hp|rfl
  ·exact h.al p hp.1
  ·exact dn
theorem qY.join(h:qY D L xs ys){x y:aB}(hx:L x)(hy:L y)(hxy:x≠y):qY D (fun r=>L r∧r≠x∧r≠y) (gu xs x y) (gu ys x y):=by
 refine⟨?_,h.wi.join hx hy hxy,fun p hp=>h.al p hp.1⟩;unfold gu;rw[h.peer hx,h.peer hy];cases ((aD xs x).1==y.1&&(aD xs x).2==y.2)with
 |true=>exact h.ag
 |false=>exact h.ag.link (h.wi _ (h.wi _ hx).2.1).1 (h.wi _ (h.wi _ hy).2.1).1 (h.al _ (h.wi _ hx).2.1) (h.al _ (h.wi _ hy).2.1)
theorem qY.link(h:qY D L xs ys){p q:aB}(hp:aj xs p)(hq:aj xs q)(np:¬L p)(nq:¬L q)(hpq:p≠q)(dp:¬D p.1)(dq:¬D q.1):qY D (fun r=>L r∨r=p∨r=q) (bf xs p q) (bf ys p q):=by
 refine⟨h.ag.link hp hq dp dq,h.wi.link hp hq np nq hpq,fun r hr=> ?_⟩;rcases hr with hr|rfl|rfl
 ·exact h.al r hr
 ·exact dp
 ·exact dq
theorem qY.app(h:qY D L xs ys)(zs:List ah):qY D L (xs++zs) (ys++zs):=⟨h.ag.app zs,h.wi.app zs,h.al⟩
theorem qY.congr(h:qY D L xs ys){M:aB→Prop}(e:∀p,M p↔L p):qY D M xs ys:=⟨h.ag,h.wi.congr e,fun p hp=>h.al p ((e p).1 hp)⟩
theorem qY.cut(h:qY D L xs ys){a:aB}(ha:L a):qY D (fun p=>L p∧p≠a∧p≠aD xs a) xs ys:=⟨h.ag,h.wi.cut ha,fun p hp=>h.al p hp.1⟩
theorem qY.gone(h:qY D L xs ys)(a:Int)(h0:0≤a)(ha:∀p,L p→p.1≠a):qY (fun i=>D i∨i=a) L xs (eD ys a):=
 ⟨(h.ag.mono fun i hi=>.inl hi).drop h0 (.inr rfl),h.wi,fun p hp e=>e.elim (h.al p hp) (ha p hp)⟩
end
end Go.Tr
namespace Go.Tr
open Go Go.RowKit
def Live(D:Int→Prop)(xs:List ah):aB→Prop:=fun p=>aj xs p∧¬D p.1
def St(D:Int→Prop)(xs ys:List ah):Prop:=qY D (Live D xs) xs ys
theorem aj.iP{xs:List ah}{p q r:aB}:aj (bf xs p q) r↔aj xs r:=⟨aj.unlink,aj.link⟩
theorem aj.iR{xs:List ah}{p q r:aB}:aj (fO xs p q) r↔aj xs r:=aj.iP
theorem aj.Gz{xs:List ah}{p q r:aB}:aj (gu xs p q) r↔aj xs r:=by
 unfold gu;cases ((aD xs p).1==q.1&&(aD xs p).2==q.2)with
 |true=>exact Iff.rfl
 |false=>exact aj.iP
theorem aj.dD{xs:List ah}{a:ah}{r:aB}:aj (xs++[a]) r↔aj xs r∨(r.1=(xs.length:Nat)∧0≤r.2∧r.2<(a.aH.length:Nat)):=by
 constructor
 ·rintro⟨h1,h2,h3,h4⟩;rw[List.length_append,List.length_singleton]at h2
  by_cases hl:r.1.toNat<xs.length
  ·rw[dY hl]at h4;exact .inl ⟨h1,by omega,h3,h4⟩
  ·have e:r.1.toNat=xs.length:=by omega
   rw[uo e]at h4;exact .inr ⟨by omega,h3,h4⟩
 ·rintro(h|⟨h1,h2,h3⟩)
  ·exact h.app
  ·refine⟨by omega,by rw[List.length_append,List.length_singleton];omega,h2,?_⟩;rw[uo (by omega)];exact h3
structure mM(D:Int→Prop)(xs:List ah)(x y:Int):Prop where
 ne:x≠y
 lx:¬D x
 ly:¬D y
 px:aj xs (x,0)
 py:aj xs (y,0)
 w:aD xs (x,0)=(y,0)
section
variable {D:Int→Prop}{xs ys:List ah}{x y:Int}
theorem St.open_(h:St D xs ys)(k:mM D xs x y):qY D (fun p=>(aj xs p∧¬D p.1)∧p≠(x,0)∧p≠(y,0)) xs ys:=by
 have:=h.cut (a:=(x,0)) ⟨k.px,k.lx⟩;rw[k.w]at this;exact this
theorem cB{a b s t:Int}(h:a≠b∨s≠t):((a,s):aB)≠(b,t):=fun e=>by
 injection e with e1 e2
 rcases h with h|h
 ·exact h e1
 ·exact h e2
theorem St.joins(h:St D xs ys)(k:mM D xs x y)(hx:(ak xs x).2.2.2.2.length=3)(hy:(ak xs y).2.2.2.2.length=3):
  St (fun i=>D i∨i=x∨i=y) (gu (gu xs (x,1) (y,1)) (x,2) (y,2)) (eD (eD (gu (gu ys (x,1) (y,1)) (x,2) (y,2)) x) y):=by
 have inx:∀s:Int,0≤s→s<3→aj xs (x,s):=fun s h0 h1=>⟨k.px.1,k.px.2.1,h0,by show s<((ak xs x).2.2.2.2.length:Nat);omega⟩
 have iny:∀s:Int,0≤s→s<3→aj xs (y,s):=fun s h0 h1=>⟨k.py.1,k.py.2.1,h0,by show s<((ak xs y).2.2.2.2.length:Nat);omega⟩
 have s0:=h.open_ k;have s1:=s0.join (x:=(x,1)) (y:=(y,1)) ⟨⟨inx 1 (by decide) (by decide),k.lx⟩,cB (.inr (by decide)),cB (.inl k.ne)⟩ ⟨⟨iny 1 (by decide) (by decide),k.ly⟩,cB (.inl k.ne.symm),cB (.inr (by decide))⟩ (cB (.inl k.ne));have s2:=s1.join (x:=(x,2)) (y:=(y,2)) ⟨⟨⟨inx 2 (by decide) (by decide),k.lx⟩,cB (.inr (by decide)),cB (.inl k.ne)⟩,cB (.inr (by decide)),cB (.inl k.ne)⟩ ⟨⟨⟨iny 2 (by decide) (by decide),k.ly⟩,cB (.inl k.ne.symm),cB (.inr (by decide))⟩,cB (.inl k.ne.symm),cB (.inr (by decide))⟩ (cB (.inl k.ne))
 have key:∀p:aB,Live (fun i=>D i∨i=x∨i=y) (gu (gu xs (x,1) (y,1)) (x,2) (y,2)) p↔((((aj xs p∧¬D p.1)∧p≠(x,0)∧p≠(y,0))∧p≠(x,1)∧p≠(y,1))∧p≠(x,2)∧p≠(y,2)):=fun p=>by
  unfold Live;rw[aj.Gz,aj.Gz];constructor
  ·rintro⟨h1,h2⟩;have h3:p.1≠x:=fun e=>h2 (.inr (.inl e))
   have h4:p.1≠y:=fun e=>h2 (.inr (.inr e))
   have nx:∀s,p≠(x,s):=fun s e=>h3 (by rw[e])
   have ny:∀s,p≠(y,s):=fun s e=>h4 (by rw[e])
   exact⟨⟨⟨⟨h1,fun e=>h2 (.inl e)⟩,nx 0,ny 0⟩,nx 1,ny 1⟩,nx 2,ny 2⟩
  ·rintro⟨⟨⟨⟨h1,h2⟩,x0,y0⟩,x1,y1⟩,x2,y2⟩;refine⟨h1,fun e=> ?_⟩;obtain⟨q1,q2,q3,q4⟩:=h1;rcases e with e|e|e
   ·exact h2 e
   ·rw[e]at q4;have q5:p.2<3:=by(have:p.2<((ak xs x).2.2.2.2.length:Nat):=q4);omega
    have:p.2=0∨p.2=1∨p.2=2:=by omega
    rcases this with e2|e2|e2
    ·exact x0 (dh e e2)
    ·exact x1 (dh e e2)
    ·exact x2 (dh e e2)
   ·rw[e]at q4;have q5:p.2<3:=by(have:p.2<((ak xs y).2.2.2.2.length:Nat):=q4);omega
    have:p.2=0∨p.2=1∨p.2=2:=by omega
    rcases this with e2|e2|e2
    ·exact y0 (dh e e2)
    ·exact y1 (dh e e2)
    ·exact y2 (dh e e2)
 have s3:=s2.congr key;have s4:=(s3.gone x k.px.1 fun p hp e=>hp.2 (.inr (.inl e))).gone y k.py.1 fun p hp e=>hp.2 (.inr (.inr e))
 exact⟨s4.ag.mono fun i hi=>by rcases hi with(hi|hi)|hi<;>simp_all,s4.wi,fun p hp=>hp.2⟩
end
end Go.Tr
namespace Go.Tr
open Go Go.RowKit
def SX(D:Int→Prop)(X:aB→Prop)(xs ys:List ah):Prop:=qY D (fun p=>(aj xs p∧¬D p.1)∧¬X p) xs ys
section
variable {D:Int→Prop}{X Y:aB→Prop}{xs ys:List ah}
theorem SX.congr(h:SX D X xs ys)(e:∀p,aj xs p→¬D p.1→(Y p↔X p)):SX D Y xs ys:=qY.congr h fun p=>by
 constructor
 ·rintro⟨⟨h1,h2⟩,h3⟩;exact⟨⟨h1,h2⟩,fun h4=>h3 ((e p h1 h2).2 h4)⟩
 ·rintro⟨⟨h1,h2⟩,h3⟩;exact⟨⟨h1,h2⟩,fun h4=>h3 ((e p h1 h2).1 h4)⟩
theorem SX.add(h:SX D X xs ys)(a:ah):SX D (fun p=>X p∨p.1=(xs.length:Nat)) (xs++[a]) (ys++[a]):=qY.congr (qY.app h [a]) fun p=>by
 rw[aj.dD];constructor
 ·rintro⟨⟨h1,h2⟩,h3⟩;rcases h1 with h1|h1
  ·exact⟨⟨h1,h2⟩,fun h4=>h3 (.inl h4)⟩
  ·exact absurd (.inr h1.1) h3
 ·rintro⟨⟨h1,h2⟩,h3⟩;refine⟨⟨.inl h1,h2⟩,fun h4=> ?_⟩;rcases h4 with h4|h4
  ·exact h3 h4
  ·have:=h1.2.1;omega
theorem SX.move(h:SX D X xs ys){old now:aB}(ho:aj xs old)(od:¬D old.1)(ox:¬X old)(hn:aj xs now)(nd:¬D now.1)(nx:X now):SX D (fun p=>(X p∨p=old)∧p≠now) (fO xs old now) (fO ys old now):=by
 refine qY.congr (qY.move h (old:=old) (now:=now) ⟨⟨ho,od⟩,ox⟩ hn (fun k=>k.2 nx) nd) fun p=> ?_
 rw[aj.iR];constructor
 ·rintro⟨⟨h1,h2⟩,h3⟩
  by_cases e:p=now
  ·exact .inr e
  ·exact .inl ⟨⟨⟨h1,h2⟩,fun k=>h3 ⟨.inl k,e⟩⟩,fun k=>h3 ⟨.inr k,e⟩⟩
 ·rintro(⟨⟨⟨h1,h2⟩,h3⟩,h4⟩|rfl)
  ·exact⟨⟨h1,h2⟩,fun k=>k.1.elim h3 h4⟩
  ·exact⟨⟨hn,nd⟩,fun k=>k.2 rfl⟩
theorem SX.link(h:SX D X xs ys){p q:aB}(hp:aj xs p)(pd:¬D p.1)(px:X p)(hq:aj xs q)(qd:¬D q.1)(qx:X q)(hpq:p≠q):SX D (fun r=>X r∧r≠p∧r≠q) (bf xs p q) (bf ys p q):=by
 refine qY.congr (qY.link h hp hq (fun k=>k.2 px) (fun k=>k.2 qx) hpq pd qd) fun r=> ?_
 rw[aj.iP];constructor
 ·rintro⟨⟨h1,h2⟩,h3⟩
  by_cases e1:r=p
  ·exact .inr (.inl e1)
  by_cases e2:r=q
  ·exact .inr (.inr e2)
  ·exact .inl ⟨⟨h1,h2⟩,fun k=>h3 ⟨k,e1,e2⟩⟩
 ·rintro(⟨⟨h1,h2⟩,h3⟩|rfl|rfl)
  ·exact⟨⟨h1,h2⟩,fun k=>h3 k.1⟩
  ·exact⟨⟨hp,pd⟩,fun k=>k.2.1 rfl⟩
  ·exact⟨⟨hq,qd⟩,fun k=>k.2.2 rfl⟩
theorem SX.start{x y:Int}(h:St D xs ys)(k:mM D xs x y):SX D (fun p=>p=(x,0)∨p=(y,0)) xs ys:=qY.congr (h.open_ k) fun p=>by
 constructor
 ·rintro⟨h1,h3⟩;exact⟨h1,fun e=>h3 (.inl e),fun e=>h3 (.inr e)⟩
 ·rintro⟨h1,h2,h3⟩;exact⟨h1,fun e=>e.elim h2 h3⟩
theorem SX.Mk{x y:Int}(h:SX D X xs ys)(x0:0≤x)(y0:0≤y)(e:∀p,aj xs p→¬D p.1→(X p↔p.1=x∨p.1=y)):St (fun i=>D i∨i=x∨i=y) xs (eD (eD ys x) y):=by
 have s3:qY D (Live (fun i=>D i∨i=x∨i=y) xs) xs ys:=qY.congr h fun p=>by
  unfold Live;constructor
  ·rintro⟨h1,h2⟩;have h3:¬D p.1:=fun k=>h2 (.inl k)
   exact⟨⟨h1,h3⟩,fun k=>h2 (.inr ((e p h1 h3).1 k))⟩
  ·rintro⟨⟨h1,h2⟩,h3⟩;exact⟨h1,fun k=>k.elim h2 fun k=>h3 ((e p h1 h2).2 k)⟩
 have s4:=(s3.gone x x0 fun p hp e=>hp.2 (.inr (.inl e))).gone y y0 fun p hp e=>hp.2 (.inr (.inr e))
 exact⟨s4.ag.mono fun i hi=>by rcases hi with(hi|hi)|hi<;>simp_all,s4.wi,fun p hp=>hp.2⟩
theorem SX.Yo{x:Int}(h:SX D X xs ys)(x0:0≤x)(e:∀p,aj xs p→¬D p.1→(X p↔p.1=x)):St (fun i=>D i∨i=x) xs (eD ys x):=by
 have s3:qY D (Live (fun i=>D i∨i=x) xs) xs ys:=qY.congr h fun p=>by
  unfold Live;constructor
  ·rintro⟨h1,h2⟩;have h3:¬D p.1:=fun k=>h2 (.inl k)
   exact⟨⟨h1,h3⟩,fun k=>h2 (.inr ((e p h1 h3).1 k))⟩
  ·rintro⟨⟨h1,h2⟩,h3⟩;exact⟨h1,fun k=>k.elim h2 fun k=>h3 ((e p h1 h2).2 k)⟩
 have s4:=s3.gone x x0 fun p hp e=>hp.2 (.inr e)
 exact⟨s4.ag,s4.wi,fun p hp=>hp.2⟩
theorem SX.len(h:SX D X xs ys):xs.length=ys.length:=h.ag.1
theorem SX.at_(h:SX D X xs ys){i:Int}(h0:0≤i)(h1:i<(xs.length:Nat))(hd:¬D i):ak ys i=ak xs i:=(h.ag.2 i h0 h1 hd).symm
theorem Gj{y:Int}{p:aB}(hlt:p.1.toNat<xs.length):∀{k:Nat},aj (zu y xs k) p→aj xs p
 |0,h=>h
 |k+1,h=>by
  unfold zu at h;rw[aj.iR,aj.dD,zJ]at h;rcases h with h|⟨h,_⟩
  ·exact Gj hlt h
  ·omega
theorem Oj{x y:Int}(h:St D xs ys)(k:mM D xs x y)(hD:∀i,D i→i<(xs.length:Nat)):∀n:Nat,n≤(ak xs y).2.2.2.2.length-1→SX D (fun p=>p=(x,0)∨(p.1=y∧p.2≤(n:Nat))) (zu y xs n) (zu y ys n)
 |0,_=>(SX.start h k).congr fun p hp _=>by
  constructor
  ·rintro(e|⟨e1,e2⟩)
   ·exact .inl e
   ·exact .inr (dh e1 (by have:=hp.2.2.1;show p.2=0;omega))
  ·rintro(e|e)
   ·exact .inl e
   ·exact .inr (by rw[e];exact⟨rfl,Int.le_refl _⟩)
 |n+1,hn=>by
  have ih:=Oj h k hD n (by omega);have hl:(zu y xs n).length=xs.length+n:=zJ y xs n;have hyl:=k.py.2.1;have hy0:=k.py.1;have hpy:aj xs (y,((n+1:Nat):Int)):=⟨hy0,hyl,by omega,by show((n+1:Nat):Int)<((ak xs y).2.2.2.2.length:Nat);omega⟩;have hin:=DT (y:=y) hpy n;have s1:=ih.add (bW 5 0 0 [] 1);have hnew:aj (zu y xs n++[bW 5 0 0 [] 1]) (((xs.length+n:Nat):Int),0):=aj.dD.2 (.inr ⟨by rw[hl],Int.le_refl _,show(0:Int)<1 by decide⟩)
  have s2:=s1.move (old:=(y,((n+1:Nat):Int))) (now:=(((xs.length+n:Nat):Int),0)) hin.app k.ly (by
   rintro((e|⟨_,e⟩)|e)
   ·exact cB (.inl k.ne.symm) e
   ·have:((n+1:Nat):Int)≤(n:Nat):=e;omega
   ·have:y=((zu y xs n).length:Nat):=e;rw[hl]at this;omega) hnew (fun e=>by have:=hD _ e;show False;have h2:((xs.length+n:Nat):Int)<(xs.length:Nat):=this;omega) (.inr (by rw[hl]))
  have hyx:(zu y ys n++[bW 5 0 0 [] 1])=zu y ys n++[bW 5 0 0 [] 1]:=rfl
  have s3:SX D (fun p=>p=(x,0)∨(p.1=y∧p.2≤((n+1:Nat):Int))) (fO (zu y xs n++[bW 5 0 0 [] 1]) (y,((n+1:Nat):Int)) (((xs.length+n:Nat):Int),0)) (fO (zu y ys n++[bW 5 0 0 [] 1]) (y,((n+1:Nat):Int)) (((xs.length+n:Nat):Int),0)):=s2.congr fun p hp _=>by
   rw[aj.iR,aj.dD,hl]at hp;rw[hl];constructor
   ·rintro(rfl|⟨e1,e2⟩)
    ·refine⟨.inl (.inl (.inl rfl)),cB (.inl ?_)⟩;have:=k.px.2.1;show x≠((xs.length+n:Nat):Int);have h2:x<(xs.length:Nat):=this;omega
    ·refine⟨?_,fun e=> ?_⟩
     ·by_cases e3:p.2=((n+1:Nat):Int)
      ·exact .inr (dh e1 e3)
      ·exact .inl (.inl (.inr ⟨e1,by omega⟩))
     ·rw[e]at e1;have:((xs.length+n:Nat):Int)=y:=e1;have h2:y<(xs.length:Nat):=hyl;omega
   ·rintro⟨((e|⟨e1,e2⟩)|e)|e,e3⟩
    ·exact .inl e
    ·exact .inr ⟨e1,by omega⟩
    ·rcases hp with hp|⟨q1,q2,q3⟩
     ·have h2:=hp.2.1;rw[hl]at h2;have e':p.1=((xs.length+n:Nat):Int):=e;omega
     ·refine absurd (dh (q:=(((xs.length+n:Nat):Int),0)) e ?_) e3;have:p.2<1:=q3;show p.2=0;omega
    ·exact .inr (by rw[e];exact⟨rfl,Int.le_refl _⟩)
  show SX D _ (zu y xs (n+1)) (zu y ys (n+1));unfold zu;rw[←h.ag.1];exact s3
theorem St.erase{x y:Int}(h:St D xs ys)(k:mM D xs x y)(hD:∀i,D i→i<(xs.length:Nat))(hx:(ak xs x).2.2.2.2.length=1):St (fun i=>D i∨i=x∨i=y) (Av xs y) (eD (eD (Av ys y) x) y):=by
 have e:ak ys y=ak xs y:=(h.ag.2 y k.py.1 k.py.2.1 k.ly).symm;unfold Av;rw[e];have s:=Oj h k hD ((ak xs y).2.2.2.2.length-1) (Nat.le_refl _);refine s.Mk k.px.1 k.py.1 fun p hp _=> ?_
 have hport:p.1=x∨p.1=y→aj xs p:=fun hc=>by
  have hlt:p.1.toNat<xs.length:=by
   have h1:=k.px.2.1;have h2:=k.py.2.1;have h3:=k.px.1;have h4:=k.py.1
   have g1:x<(xs.length:Nat):=h1;have g2:y<(xs.length:Nat):=h2;have g3:0≤x:=h3;have g4:0≤y:=h4;rcases hc with hc|hc<;>omega
  exact Gj hlt hp
 constructor
 ·rintro(rfl|⟨e1,_⟩)
  ·exact .inl rfl
  ·exact .inr e1
 ·intro hc;obtain⟨q1,q2,q3,q4⟩:=hport hc;rcases hc with hc|hc
  ·rw[hc]at q4;have:p.2<((ak xs x).2.2.2.2.length:Nat):=q4;exact .inl (dh hc (by show p.2=0;omega))
  ·rw[hc]at q4;have:p.2<((ak xs y).2.2.2.2.length:Nat):=q4;exact .inr ⟨hc,by omega⟩
theorem AZ{p:aB}(h:aj xs p):p.1.toNat<xs.length:=by have:=h.1;have:=h.2.1;omega
theorem St.operate{x y:Int}(h:St D xs ys)(k:mM D xs x y)(hD:∀i,D i→i<(xs.length:Nat))(hx:(ak xs x).2.2.2.2.length=1)(h7:(ak xs y).1=7→(ak xs y).2.2.2.2.length=3)(h8:(ak xs y).1≠7→(ak xs y).2.2.2.2.length=2):
  St (fun i=>D i∨i=x∨i=y) (jL xs x y) (eD (eD (jL ys x y) x) y):=by
 have ey:ak ys y=ak xs y:=(h.ag.2 y k.py.1 k.py.2.1 k.ly).symm;have ex:ak ys x=ak xs x:=(h.ag.2 x k.px.1 k.px.2.1 k.lx).symm;have hn:¬D (xs.length:Nat):=fun e=>by have:=hD _ e;omega
 have xl:x<(xs.length:Nat):=k.px.2.1;have yl:y<(xs.length:Nat):=k.py.2.1;have iny:∀s:Int,0≤s→s<((ak xs y).2.2.2.2.length:Nat)→aj xs (y,s):=fun s h0 h1=>⟨k.py.1,k.py.2.1,h0,h1⟩
 have fin:∀(X:aB→Prop) (a:ah) (zs:List ah),(∀p,aj zs p↔aj (xs++[a]) p)→(∀p,aj (xs++[a]) p→(X p↔(aj xs p∧(p.1=x∨p.1=y))))→∀p,aj zs p→¬D p.1→(X p↔p.1=x∨p.1=y):=fun X a zs hz hX p hp _=>by
  rw[hX p ((hz p).1 hp)];constructor
  ·exact fun e=>e.2
  ·intro e;refine⟨?_,e⟩;rcases aj.dD.1 ((hz p).1 hp)with q|⟨q,_⟩
   ·exact q
   ·rcases e with e|e<;>omega
 unfold jL;rw[ex,ey,←h.ag.1];cases hk:(ak xs y).1==7 with
 |true=>
  have h3:=h7 (by simpa using hk);simp only[cond_true];have i1:=iny 1 (by decide) (by omega);have i2:=iny 2 (by decide) (by omega);have s1:=(SX.start h k).add (bW 8 (ak xs y).2.1 (ak xs y).2.2.1 [(ak xs x).2.2.1] 2);have n0:aj (xs++[bW 8 (ak xs y).2.1 (ak xs y).2.2.1 [(ak xs x).2.2.1] 2]) ((xs.length:Nat),0):=aj.dD.2 (.inr ⟨rfl,Int.le_refl _,show(0:Int)<2 by decide⟩);have n1:aj (xs++[bW 8 (ak xs y).2.1 (ak xs y).2.2.1 [(ak xs x).2.2.1] 2]) ((xs.length:Nat),1):=aj.dD.2 (.inr ⟨rfl,show(0:Int)≤1 by decide,show(1:Int)<2 by decide⟩)
  have s2:=s1.move (old:=(y,1)) (now:=((xs.length:Nat),0)) i1.app k.ly (by
   rintro((e|e)|e)
   ·exact cB (.inl k.ne.symm) e
   ·exact cB (.inr (by decide)) e
   ·have:y=(xs.length:Nat):=e;omega) n0 hn (.inr rfl)
  have s3:=s2.move (old:=(y,2)) (now:=((xs.length:Nat),1)) i2.app.move k.ly (by
   rintro⟨((e|e)|e)|e,_⟩
   ·exact cB (.inl k.ne.symm) e
   ·exact cB (.inr (by decide)) e
   ·have:y=(xs.length:Nat):=e;omega
   ·exact cB (.inr (by decide)) e) n1.move hn ⟨.inl (.inr rfl),cB (.inr (by decide))⟩
  refine s3.Mk k.px.1 k.py.1 (fin _ _ _ (fun p=>by rw[aj.iR,aj.iR]) fun p hp=> ?_)
  have hA:p.1=(xs.length:Nat)→p=(((xs.length:Nat):Int),0)∨p=(((xs.length:Nat):Int),1):=fun e=>by
   rcases aj.dD.1 hp with q|⟨_,q2,q3⟩
   ·have:=q.2.1;omega
   ·have:p.2<2:=q3;have:p.2=0∨p.2=1:=by omega
    rcases this with e2|e2
    ·exact .inl (dh e e2)
    ·exact .inr (dh e e2)
  constructor
  ·rintro⟨(⟨((e|e)|e)|e,e2⟩|e),e3⟩
   ·rw[e];exact⟨k.px,.inl rfl⟩
   ·rw[e];exact⟨k.py,.inr rfl⟩
   ·rcases hA e with e4|e4
    ·exact absurd e4 e2
    ·exact absurd e4 e3
   ·rw[e];exact⟨i1,.inr rfl⟩
   ·rw[e];exact⟨i2,.inr rfl⟩
  ·rintro⟨q,e⟩;have ne:∀s,p≠(((xs.length:Nat):Int),s):=fun s e2=>by have:=q.2.1;rw[e2]at this;have h3:((xs.length:Nat):Int)<(xs.length:Nat):=this;omega
   refine⟨?_,ne 1⟩;obtain⟨q1,q2,q3,q4⟩:=q;rcases e with e|e
   ·rw[e]at q4;have:p.2<((ak xs x).2.2.2.2.length:Nat):=q4;exact .inl ⟨.inl (.inl (.inl (dh e (by show p.2=0;omega)))),ne 0⟩
   ·rw[e]at q4;have:p.2<((ak xs y).2.2.2.2.length:Nat):=q4;have:p.2=0∨p.2=1∨p.2=2:=by omega
    rcases this with e2|e2|e2
    ·exact .inl ⟨.inl (.inl (.inr (dh e e2))),ne 0⟩
    ·exact .inl ⟨.inr (dh e e2),ne 0⟩
    ·exact .inr (dh e e2)
 |false=>
  have h3:=h8 (by simpa using hk);simp only[cond_false];have i1:=iny 1 (by decide) (by omega);generalize hv:Te (ak xs y).2.2.1 (uU (ak xs y).2.2.2.1 0) (ak xs x).2.2.1=v;have s1:=(SX.start h k).add (bW 6 0 v [] 1);have n0:aj (xs++[bW 6 0 v [] 1]) ((xs.length:Nat),0):=aj.dD.2 (.inr ⟨rfl,Int.le_refl _,show(0:Int)<1 by decide⟩)
  have s2:=s1.move (old:=(y,1)) (now:=((xs.length:Nat),0)) i1.app k.ly (by
   rintro((e|e)|e)
   ·exact cB (.inl k.ne.symm) e
   ·exact cB (.inr (by decide)) e
   ·have:y=(xs.length:Nat):=e;omega) n0 hn (.inr rfl)
  refine s2.Mk k.px.1 k.py.1 (fin _ _ _ (fun p=>by rw[aj.iR]) fun p hp=> ?_)
  have hA:p.1=(xs.length:Nat)→p=(((xs.length:Nat):Int),0):=fun e=>by
   rcases aj.dD.1 hp with q|⟨_,q2,q3⟩
   ·have:=q.2.1;omega
   ·have:p.2<1:=q3;exact dh e (by show p.2=0;omega)
  constructor
  ·rintro⟨((e|e)|e)|e,e2⟩
   ·rw[e];exact⟨k.px,.inl rfl⟩
   ·rw[e];exact⟨k.py,.inr rfl⟩
   ·exact absurd (hA e) e2
   ·rw[e];exact⟨i1,.inr rfl⟩
  ·rintro⟨q,e⟩;have ne:∀s,p≠(((xs.length:Nat):Int),s):=fun s e2=>by have:=q.2.1;rw[e2]at this;have h3:((xs.length:Nat):Int)<(xs.length:Nat):=this;omega
   refine⟨?_,ne 0⟩;obtain⟨q1,q2,q3,q4⟩:=q;rcases e with e|e
   ·rw[e]at q4;have:p.2<((ak xs x).2.2.2.2.length:Nat):=q4;exact .inl (.inl (.inl (dh e (by show p.2=0;omega))))
   ·rw[e]at q4;have:p.2<((ak xs y).2.2.2.2.length:Nat):=q4;have:p.2=0∨p.2=1:=by omega
    rcases this with e2|e2
    ·exact .inl (.inl (.inr (dh e e2)))
    ·exact .inr (dh e e2)
end
end Go.Tr
namespace Go.Tr
open Go Go.RowKit
section
variable {D:Int→Prop}{xs ys:List ah}{x y:Int}
theorem nL(lab c d:Int)(xs:List ah):∀k,(bX lab c d xs k).length=xs.length+k
 |0=>rfl
 |k+1=>by unfold bX uz;rw[eG,eG,List.length_append,nL lab c d xs k];rfl
theorem kT{lab c d:Int}{xs:List ah}{p:aB}(h:aj xs p):∀k,aj (bX lab c d xs k) p
 |0=>h
 |k+1=>(kT h k).app.link.link
theorem Gm{P Q:List ah}{lab:Int}{n m:Nat}(hn:P.length=n+2)(hx:x<(n:Nat))(hy:y<(n:Nat))(hD:∀i,D i→i<(n:Nat))(hm:∀s:Int,0≤s→s<(m:Nat)→aj P ((n:Nat),s)∧aj P ((n+1:Nat),s))
  (h:SX D (fun p=>p=(x,0)∨p=(y,0)∨p.1=(n:Nat)∨p.1=((n+1:Nat):Int)) P Q):∀k:Nat,k+1≤m→
  SX D (fun p=>p=(x,0)∨p=(y,0)∨((p.1=(n:Nat)∨p.1=((n+1:Nat):Int))∧(p.2=0∨(k:Int)<p.2))∨(((n+2:Nat):Int)≤p.1∧p.2=0)) (bX lab ((n:Nat):Int) ((n+1:Nat):Int) P k) (bX lab ((n:Nat):Int) ((n+1:Nat):Int) Q k)
 |0,_=>h.congr fun p hp _=>by
  obtain⟨q1,q2,q3,_⟩:=hp;obtain⟨a,s⟩:=p;rw[hn]at q2;simp only[Prod.mk.injEq]at*;omega
 |k+1,hk=>by
  have ih:=Gm (lab:=lab) hn hx hy hD hm h k (by omega);have hl:(bX lab ((n:Nat):Int) ((n+1:Nat):Int) P k).length=n+2+k:=by rw[nL,hn]
  have hlq:(bX lab ((n:Nat):Int) ((n+1:Nat):Int) Q k).length=n+2+k:=by rw[←ih.len,hl]
  have nd:∀i:Nat,n≤i→¬D (i:Nat):=fun i hi e=>by have:=hD _ e;omega
  obtain⟨hc,hd⟩:=hm ((k+1:Nat):Int) (by omega) (by omega);have hc1:=kT (lab:=lab) (c:=((n:Nat):Int)) (d:=((n+1:Nat):Int)) hc k;have hd1:=kT (lab:=lab) (c:=((n:Nat):Int)) (d:=((n+1:Nat):Int)) hd k;generalize hA:bX lab ((n:Nat):Int) ((n+1:Nat):Int) P k=A at*;generalize hB:bX lab ((n:Nat):Int) ((n+1:Nat):Int) Q k=B at*;have s1:=ih.add (bW 4 lab 0 [] 3);have f1:aj (A++[bW 4 lab 0 [] 3]) ((A.length:Nat),1):=aj.dD.2 (.inr ⟨rfl,show(0:Int)≤1 by decide,show(1:Int)<3 by decide⟩)
  have f2:aj (A++[bW 4 lab 0 [] 3]) ((A.length:Nat),2):=aj.dD.2 (.inr ⟨rfl,show(0:Int)≤2 by decide,show(2:Int)<3 by decide⟩);rw[hl]at f1 f2 s1;have s2:=s1.link (p:=((n+2+k:Nat),1)) (q:=((n:Nat),((k+1:Nat):Int))) f1 (nd _ (by omega)) (.inr rfl) hc1.app (nd _ (Nat.le_refl _)) (.inl (.inr (.inr (.inl ⟨.inl rfl,.inr (show(k:Int)<((k+1:Nat):Int) by omega)⟩)))) (cB (.inl (by omega)))
  have s3:=s2.link (p:=((n+2+k:Nat),2)) (q:=((n+1:Nat),((k+1:Nat):Int))) f2.link (nd _ (by omega)) ⟨.inr rfl,cB (.inr (by decide)),cB (.inl (by omega))⟩ hd1.app.link (nd _ (by omega))
   ⟨.inl (.inr (.inr (.inl ⟨.inr rfl,.inr (show(k:Int)<((k+1:Nat):Int) by omega)⟩))),cB (.inl (by omega)),cB (.inl (by omega))⟩ (cB (.inl (by omega)))
  have e1:bX lab ((n:Nat):Int) ((n+1:Nat):Int) P (k+1)=bf (bf (A++[bW 4 lab 0 [] 3]) ((n+2+k:Nat),1) ((n:Nat),((k+1:Nat):Int))) ((n+2+k:Nat),2) ((n+1:Nat),((k+1:Nat):Int)):=by
   rw[←hl,←hA];rfl
  have e2:bX lab ((n:Nat):Int) ((n+1:Nat):Int) Q (k+1)=bf (bf (B++[bW 4 lab 0 [] 3]) ((n+2+k:Nat),1) ((n:Nat),((k+1:Nat):Int))) ((n+2+k:Nat),2) ((n+1:Nat),((k+1:Nat):Int)):=by
   rw[←hlq,←hB];rfl
  rw[e1,e2];refine s3.congr fun p hp _=> ?_
  rw[aj.iP,aj.iP,aj.dD,hl]at hp
  have hp':p.1<((n+2+k:Nat):Int)∨(p.1=((n+2+k:Nat):Int)∧0≤p.2∧p.2<3):=by
   rcases hp with hp|hp
   ·have:=hp.2.1;rw[hl]at this;exact .inl this
   ·exact .inr hp
  have h0:0≤p.2:=by
   rcases hp with hp|hp
   ·exact hp.2.2.1
   ·exact hp.2.1
  obtain⟨a,s⟩:=p;simp only[Prod.mk.injEq,ne_eq]at*;omega
theorem Da{P Q:List ah}{b m:Nat}{X:aB→Prop}(hX:∀k:Nat,k<m→¬X (y,((k:Nat):Int)+1)∧X (((b+k:Nat):Int),0))(hy:aj P (y,0)∧∀k:Nat,k<m→aj P (y,((k:Nat):Int)+1)∧aj P (((b+k:Nat):Int),0))(yd:¬D y)(bd:∀k:Nat,¬D ((b+k:Nat):Int))(yb:y<(b:Nat))(h:SX D X P Q):
  ∀k:Nat,k≤m→SX D (fun p=>(X p∨(p.1=y∧1≤p.2∧p.2≤(k:Nat)))∧¬((b:Int)≤p.1∧p.1<((b+k:Nat):Int)∧p.2=0)) (j6 y b P k) (j6 y b Q k)
 |0,_=>h.congr fun p hp _=>by
  constructor
  ·rintro⟨e|e,_⟩
   ·exact e
   ·omega
  ·intro e;exact⟨.inl e,fun k=>by omega⟩
 |k+1,hk=>by
  have ih:=Da hX hy yd bd yb h k (by omega);obtain⟨x1,x2⟩:=hX k (by omega);obtain⟨y1,y2⟩:=hy.2 k (by omega)
  have s1:=ih.move (old:=(y,((k:Nat):Int)+1)) (now:=(((b+k:Nat):Int),0)) (mV y1 k) yd (by
   rintro⟨e|⟨_,_,e⟩,_⟩
   ·exact x1 e
   ·have:((k:Nat):Int)+1≤(k:Nat):=e;omega) (mV y2 k) (bd k) ⟨.inl x2,fun e=>by have:((b+k:Nat):Int)<((b+k:Nat):Int):=e.2.1;omega⟩
  refine s1.congr fun p hp _=> ?_
  have q:(((X p∨(p.1=y∧1≤p.2∧p.2≤((k+1:Nat):Int)))∧¬((b:Int)≤p.1∧p.1<((b+(k+1):Nat):Int)∧p.2=0))↔((((X p∨(p.1=y∧1≤p.2∧p.2≤(k:Nat)))∧¬((b:Int)≤p.1∧p.1<((b+k:Nat):Int)∧p.2=0))∨p=(y,((k:Nat):Int)+1))∧p≠(((b+k:Nat):Int),0))):=by
   obtain⟨a,s⟩:=p;simp only[Prod.mk.injEq,ne_eq]
   by_cases hXp:X (a,s)
   ·simp only[hXp,true_or,true_and];omega
   ·simp only[hXp,false_or];omega
  exact q
theorem uZ{lab c d:Int}{xs:List ah}{p:aB}(hlt:p.1.toNat<xs.length):∀{k:Nat},aj (bX lab c d xs k) p→aj xs p
 |0,h=>h
 |k+1,h=>by
  unfold bX uz at h;rw[aj.iP,aj.iP,aj.dD,nL]at h;rcases h with h|⟨h,_⟩
  ·exact uZ hlt h
  ·omega
theorem wP{y:Int}{b:Nat}{xs:List ah}{p:aB}:∀k:Nat,aj (j6 y b xs k) p↔aj xs p
 |0=>Iff.rfl
 |k+1=>by unfold j6;rw[aj.iR,wP k]
theorem Mg{xs:List ah}{y:Int}{p:aB}(hlt:p.1.toNat<xs.length)(h:aj (dup2 xs y) p):aj xs p:=by
 unfold dup2 at h;rw[aj.dD,aj.dD,List.length_append]at h;rcases h with(h|⟨h,_⟩)|⟨h,_⟩
 ·exact h
 ·omega
 ·simp only[List.length_singleton]at h;omega
theorem CF{xs:List ah}{y:Int}{lab:Int}{p:aB}:∀k:Nat,aj (bX lab ((xs.length:Nat):Int) ((xs.length+1:Nat):Int) (dup2 xs y) k) p→0≤p.1∧p.1<((xs.length+2+k:Nat):Int)∧0≤p.2∧(p.1=(xs.length:Nat)∨p.1=((xs.length+1:Nat):Int)→p.2<((ak xs y).2.2.2.2.length:Nat))
 |0,h=>by
  have h5:aj (dup2 xs y) p:=h;obtain⟨h1,h2,h3,_⟩:=h;refine⟨h1,by(have:(bX lab ((xs.length:Nat):Int) ((xs.length+1:Nat):Int) (dup2 xs y) 0).length=xs.length+2:=p9 xs y);omega,h3,fun e=> ?_⟩;unfold dup2 at h5;have hd:(r9 xs y).aH.length=(ak xs y).2.2.2.2.length:=by show(List.replicate _ _).length=_;rw[List.length_replicate]
  rw[aj.dD,aj.dD,List.length_append,List.length_singleton]at h5;rcases h5 with(h5|⟨_,_,h5⟩)|⟨_,_,h5⟩
  ·have:=h5.2.1;omega
  ·omega
  ·omega
 |k+1,h=>by
  unfold bX uz at h;rw[aj.iP,aj.iP,aj.dD,nL,p9]at h;rcases h with h|⟨h1,h2,h3⟩
  ·obtain⟨q1,q2,q3,q4⟩:=CF k h;exact⟨q1,by omega,q3,q4⟩
  ·exact⟨by omega,by omega,h2,fun e=>by omega⟩
theorem St.duplicate(h:St D xs ys)(k:mM D xs x y)(hD:∀i,D i→i<(xs.length:Nat))(hx:(ak xs x).2.2.2.2.length=3)(hy:1≤(ak xs y).2.2.2.2.length):
  St (fun i=>D i∨i=x∨i=y) (jI xs x y) (eD (eD (jI ys x y) x) y):=by
 have ey:ak ys y=ak xs y:=(h.ag.2 y k.py.1 k.py.2.1 k.ly).symm;have ex:ak ys x=ak xs x:=(h.ag.2 x k.px.1 k.px.2.1 k.lx).symm;have hl:xs.length=ys.length:=h.ag.1;have xl:x<(xs.length:Nat):=k.px.2.1;have yl:y<(xs.length:Nat):=k.py.2.1;have x0:0≤x:=k.px.1;have y0:0≤y:=k.py.1;have hne:=k.ne;generalize hm:(ak xs y).2.2.2.2.length=m at*;generalize hn:xs.length=n at*;have nd:∀i:Nat,n≤i→¬D (i:Nat):=fun i hi e=>by have:=hD _ e;omega
 have s0:=SX.start h k
 have s2:SX D (fun p=>p=(x,0)∨p=(y,0)∨p.1=(n:Nat)∨p.1=((n+1:Nat):Int)) (dup2 xs y) (dup2 ys y):=by
  have e:r9 ys y=r9 xs y:=by unfold r9;rw[ey]
  unfold dup2;rw[e];refine((s0.add (r9 xs y)).add (r9 xs y)).congr fun p _ _=> ?_
  rw[List.length_append,hn];simp only[List.length_singleton];constructor
  ·rintro(e|e|e|e)
   ·exact .inl (.inl (.inl e))
   ·exact .inl (.inl (.inr e))
   ·exact .inl (.inr e)
   ·exact .inr e
  ·rintro(((e|e)|e)|e)
   ·exact .inl e
   ·exact .inr (.inl e)
   ·exact .inr (.inr (.inl e))
   ·exact .inr (.inr (.inr e))
 have hP:(dup2 xs y).length=n+2:=by rw[p9,hn]
 have hc:∀s:Int,0≤s→s<(m:Nat)→aj (dup2 xs y) ((n:Nat),s)∧aj (dup2 xs y) ((n+1:Nat),s):=fun s h0 h1=>by
  have q1:=IX (xs:=xs) (y:=y) h0 (by rw[hm];exact h1);have q2:=IY (xs:=xs) (y:=y) h0 (by rw[hm];exact h1);rw[hn]at q1 q2;exact⟨q1,q2⟩
 have s3:=Gm (lab:=(ak xs x).2.1) hP xl yl hD hc s2 (m-1) (by omega)
 have fx:(ak (dup2 xs y) x).2.1=(ak xs x).2.1:=by
  unfold dup2;rw[dY (by rw[List.length_append,hn];omega),dY (by omega)]
 have fy:(ak (dup2 ys y) x).2.1=(ak xs x).2.1:=by
  unfold dup2;rw[dY (by rw[List.length_append];omega),dY (by omega),ex]
 have d3x:dup3 xs x y=bX (ak xs x).2.1 ((n:Nat):Int) ((n+1:Nat):Int) (dup2 xs y) (m-1):=by
  unfold dup3;rw[←(mU (x:=x) (by rw[hP];omega) _).1,fx,hn,hm]
 have d3y:dup3 ys x y=bX (ak xs x).2.1 ((n:Nat):Int) ((n+1:Nat):Int) (dup2 ys y) (m-1):=by
  unfold dup3;rw[←(mU (x:=x) (by rw[p9];omega) _).1,fy,←hl,ey,hm]
 have hpp:=fun p=>CF (xs:=xs) (y:=y) (lab:=(ak xs x).2.1) (p:=p) (m-1)
 have hbk:∀p:aB,p.1.toNat<n→aj (bX (ak xs x).2.1 ((n:Nat):Int) ((n+1:Nat):Int) (dup2 xs y) (m-1)) p→aj xs p:=fun p hlt hp=>Mg (by rw[hn];exact hlt) (uZ (by rw[hP];omega) hp)
 have hin:∀p:aB,aj xs p→aj (bX (ak xs x).2.1 ((n:Nat):Int) ((n+1:Nat):Int) (dup2 xs y) (m-1)) p:=fun p hp=>kT (DI hp) _
 have hfan:∀i:Nat,i<m-1→aj (bX (ak xs x).2.1 ((n:Nat):Int) ((n+1:Nat):Int) (dup2 xs y) (m-1)) (((n+2+i:Nat):Int),0):=fun i hi=>by
  have:=Am (x:=x) (c:=((n:Nat):Int)) (d:=((n+1:Nat):Int)) (xs:=dup2 xs y) hi;rw[←(mU (x:=x) (by rw[hP];omega) _).1,fx,hP]at this;exact this
 rw[hn,hm]at hpp;have hcn:=kT (lab:=(ak xs x).2.1) (c:=((n:Nat):Int)) (d:=((n+1:Nat):Int)) (hc 0 (Int.le_refl _) (by omega)).1 (m-1);have hdn:=kT (lab:=(ak xs x).2.1) (c:=((n:Nat):Int)) (d:=((n+1:Nat):Int)) (hc 0 (Int.le_refl _) (by omega)).2 (m-1);have inx:∀s:Int,0≤s→s<3→aj xs (x,s):=fun s h0 h1=>⟨k.px.1,k.px.2.1,h0,by show s<((ak xs x).2.2.2.2.length:Nat);omega⟩
 have iny:∀s:Int,0≤s→s<(m:Nat)→aj xs (y,s):=fun s h0 h1=>⟨k.py.1,k.py.2.1,h0,by show s<((ak xs y).2.2.2.2.length:Nat);rw[hm];exact h1⟩
 unfold jI Ra;rw[d3x,d3y,←hl,hn,ey,hm];generalize bX (ak xs x).2.1 ((n:Nat):Int) ((n+1:Nat):Int) (dup2 xs y) (m-1)=A at*;generalize bX (ak xs x).2.1 ((n:Nat):Int) ((n+1:Nat):Int) (dup2 ys y) (m-1)=B at*;have s4:=s3.move (old:=(x,1)) (now:=((n:Nat),0)) (hin _ (inx 1 (by decide) (by decide))) k.lx (by simp only[Prod.mk.injEq,ne_eq,and_true,true_and,or_true,true_or];omega) hcn (nd _ (Nat.le_refl _)) (.inr (.inr (.inl ⟨.inl rfl,.inl rfl⟩)));have s5:=s4.move (old:=(x,2)) (now:=((n+1:Nat),0)) (hin _ (inx 2 (by decide) (by decide))).move k.lx (by simp only[Prod.mk.injEq,ne_eq,and_true,true_and,or_true,true_or];omega) hdn.move (nd _ (by omega)) (by simp only[Prod.mk.injEq,ne_eq,and_true,true_and,or_true,true_or];omega)
 have s6:=Da (y:=y) (b:=n+2) (m:=m-1) (fun i hi=>by simp only[Prod.mk.injEq,ne_eq,and_true,true_and,or_true,true_or];omega) ⟨(hin _ (iny 0 (Int.le_refl _) (by omega))).move.move,fun i hi=>⟨(hin _ (iny _ (by omega) (by omega))).move.move,(hfan i hi).move.move⟩⟩ k.ly (fun i=>nd _ (by omega)) (by omega) s5 (m-1) (Nat.le_refl _);refine s6.Mk x0 y0 fun p hp _=> ?_
 rw[wP,aj.iR,aj.iR]at hp;obtain⟨q1,q2,q3,q4⟩:=hpp p hp
 have q5:p.1=x→p.2<3:=fun e=>by
  have:=(hbk p (by omega) hp).2.2.2;rw[e]at this;have h2:p.2<((ak xs x).2.2.2.2.length:Nat):=this;omega
 have q6:p.1=y→p.2<(m:Nat):=fun e=>by
  have:=(hbk p (by omega) hp).2.2.2;rw[e]at this;have h2:p.2<((ak xs y).2.2.2.2.length:Nat):=this;omega
 clear hpp hbk hin hfan s0 s2 s3 s4 s5 s6 hc inx iny nd;obtain⟨a,s⟩:=p;simp only[Prod.mk.injEq,ne_eq]at*;omega
end
end Go.Tr
namespace Go.Tr
open Go Go.RowKit
section
variable {D:Int→Prop}{xs ys:List ah}{x y:Int}
theorem xG{zs:List ah}{p:aB}(q:aB)(hp:aj xs p):aO (xs++zs) p q=aO xs p q++zs:=by
 have hl:=AZ hp;unfold aO;rw[dY hl,List.set_append_left _ _ hl]
theorem ME{zs:List ah}{p q:aB}(hp:aj xs p)(hq:aj xs q):bf (xs++zs) p q=bf xs p q++zs:=by
 unfold bf;rw[xG q hp,xG p hq.set]
theorem Jg{p q r s:aB}(hp:aj xs p)(hq:aj xs q)(hr:aj xs r)(hs:aj xs s)(pr:p≠r)(ps:p≠s)(qr:q≠r)(qs:q≠s):bf (bf xs p q) r s=bf (bf xs r s) p q:=by
 unfold bf;rw[kF hq.set hr.set qr,kF (xs:=xs) hp hr pr];rw[kF (xs:=aO (aO xs r s) p q) hq.set.set hs.set.set qs,kF (xs:=aO xs r s) hp.set hs.set ps]
theorem MN{W:List ah}{a:ah}{old now P Q:aB}(ho:aj W old)(hpe:aj W (aD W old))(hn:aj W now)(hP:aj (W++[a]) P)(hPl:(W.length:Int)≤P.1)(hQ:aj W Q)(oq:old≠Q)(pq:aD W old≠Q)(nq:now≠Q):
  fO (bf (W++[a]) P Q) old now=bf (fO W old now++[a]) P Q:=by
 have far:∀r:aB,aj W r→r≠P:=fun r hr e=>by have:=hr.2.1;rw[e]at this;omega
 have e1:aD (bf (W++[a]) P Q) old=aD W old:=by
  rw[eZ hP hQ.app ho.app,if_neg (fun e=>oq e.symm),if_neg (fun e=>far old ho e.symm),mg (AZ ho)]
 unfold fO;rw[e1,Jg hP hQ.app hpe.app hn.app (fun e=>far _ hpe e.symm) (fun e=>far _ hn e.symm) (fun e=>pq e.symm) (fun e=>nq e.symm),ME hpe hn]
theorem Kj{P Q:List ah}{lv:Int}{n m:Nat}(hn:P.length=n+1)(xl:x<(n:Nat))(yl:y<(n:Nat))(x0:0≤x)(xy:x≠y)(xd:¬D x)(hD:∀i,D i→i<(n:Nat))(hx:∀s:Int,0≤s→s<(m:Nat)→aj P (x,s))(hr:aj P ((n:Nat),0))
  (h:SX D (fun p=>p=(x,0)∨p=(y,0)∨p.1=(n:Nat)) P Q) (h1:∀p,aj P p→p.1=(n:Nat)→p.2=0):∀k:Nat,k+1≤m→
  SX D (fun p=>(p.1=x∧p.2≤(k:Nat))∨p=(y,0)∨p=nG (n+1) k) (zn lv x (n+1) P k) (zn lv x (n+1) Q k)
 |0,_=>h.congr fun p hp _=>by
  have h2:=h1 p hp;obtain⟨q1,q2,q3,_⟩:=hp;unfold nG;obtain⟨a,s⟩:=p;rw[hn]at q2;simp only[Prod.mk.injEq]at*;omega
 |k+1,hk=>by
  have ih:=Kj (lv:=lv) hn xl yl x0 xy xd hD hx hr h h1 k (by omega);have hl:(zn lv x (n+1) P k).length=n+1+k:=by rw[wL,hn]
  have nd:∀i:Nat,n≤i→¬D (i:Nat):=fun i hi e=>by have:=hD _ e;omega
  have hxk:=IQ (lv:=lv) (x:=x) (b:=n+1) (hx ((k+1:Nat):Int) (by omega) (by omega)) k
  have hR:aj (zn lv x (n+1) P k) (nG (n+1) k):=by
   have:=NS (lv:=lv) (x:=x) (xs:=P) (by rw[hn];exact hr) k;rw[hn]at this;exact this
  have hR1:(n:Int)≤(nG (n+1) k).1∧(nG (n+1) k).1<((n+1+k:Nat):Int):=by
   cases k with
   |zero=>unfold nG;simp only[];omega
   |succ k=>unfold nG;simp only[];omega
  have s1:=ih.add (bW 3 lv 0 [] 3);rw[hl]at s1;have f0:aj (zn lv x (n+1) P k++[bW 3 lv 0 [] 3]) ((n+1+k:Nat),0):=aj.dD.2 (.inr ⟨by rw[hl],Int.le_refl _,show(0:Int)<3 by decide⟩);have f1:aj (zn lv x (n+1) P k++[bW 3 lv 0 [] 3]) ((n+1+k:Nat),1):=aj.dD.2 (.inr ⟨by rw[hl],show(0:Int)≤1 by decide,show(1:Int)<3 by decide⟩);have hRd:¬D (nG (n+1) k).1:=fun e=>by have:=hD _ e;omega
  have s2:=s1.link (p:=nG (n+1) k) (q:=((n+1+k:Nat),0)) hR.app hRd (.inl (.inr (.inr rfl))) f0 (nd _ (by omega)) (.inr rfl) (fun e=>by rw[e]at hR1;have:=hR1.2;have h3:((n+1+k:Nat):Int)<((n+1+k:Nat):Int):=this;omega)
  have s3:=s2.move (old:=(x,((k+1:Nat):Int))) (now:=((n+1+k:Nat),1)) hxk.app.link xd (by
   rintro⟨(⟨_,e⟩|e|e)|e,_,_⟩
   ·have:((k+1:Nat):Int)≤(k:Nat):=e;omega
   ·exact cB (.inl xy) e
   ·rw[←e]at hR1;have:=hR1.1;have h3:(n:Int)≤x:=this;omega
   ·have:x=((n+1+k:Nat):Int):=e;omega) f1.link (nd _ (by omega)) ⟨.inr rfl,fun e=>by rw[←e]at hR1;have:=hR1.2;have h3:((n+1+k:Nat):Int)<((n+1+k:Nat):Int):=this;omega,cB (.inr (by decide))⟩
  show SX D _ (zn lv x (n+1) P (k+1)) (zn lv x (n+1) Q (k+1));unfold zn;refine s3.congr fun p hp _=> ?_
  rw[aj.iR,aj.iP,aj.dD,hl]at hp
  have hp':p.1<((n+1+k:Nat):Int)∨(p.1=((n+1+k:Nat):Int)∧0≤p.2∧p.2<3):=by
   rcases hp with hp|hp
   ·have:=hp.2.1;rw[hl]at this;exact .inl this
   ·exact .inr hp
  have e2:nG (n+1) (k+1)=(((n+1+k:Nat):Int),2):=rfl;rw[e2];obtain⟨a,s⟩:=p;generalize hRR:nG (n+1) k=R at*;obtain⟨ra,rs⟩:=R;simp only[Prod.mk.injEq,ne_eq]at*;omega
theorem SX.self{X:aB→Prop}(h:SX D X xs ys):SX D X xs xs:=⟨⟨rfl,fun _ _ _ _=>rfl⟩,h.wi,h.al⟩
theorem DC{n k:Nat}:(n:Int)≤(nG (n+1) k).1∧(nG (n+1) k).1<((n+1+k:Nat):Int)∧(nG (n+1) k).2≠1:=by
 cases k with
 |zero=>unfold nG;simp only[];omega
 |succ k=>unfold nG;simp only[];omega
theorem Kh{P Q:List ah}{lv:Int}{n:Nat}(hn:P.length=n+1)(xl:x<(n:Nat))(yl:y<(n:Nat))(hD:∀i,D i→i<(n:Nat))(hr:aj P ((n:Nat),0))
  (h:SX D (fun p=>p=(x,0)∨p=(y,0)∨p.1=(n:Nat)) P Q) (h1:∀p,aj P p→p.1=(n:Nat)→p.2=0):∀k:Nat,
  SX D (fun p=>p=(x,0)∨p=(y,0)∨(((n+1:Nat):Int)≤p.1∧p.2=1)∨p=nG (n+1) k) (uS lv (n+1) P k) (uS lv (n+1) Q k)
 |0=>h.congr fun p hp _=>by
  have h2:=h1 p hp;obtain⟨q1,q2,q3,_⟩:=hp;unfold nG;obtain⟨a,s⟩:=p;rw[hn]at q2;simp only[Prod.mk.injEq]at*;omega
 |k+1=>by
  have ih:=Kh (lv:=lv) hn xl yl hD hr h h1 k;have hl:(uS lv (n+1) P k).length=n+1+k:=by rw[wK,hn]
  have nd:∀i:Nat,n≤i→¬D (i:Nat):=fun i hi e=>by have:=hD _ e;omega
  obtain⟨r1,r2,r3⟩:=DC (n:=n) (k:=k)
  have hR:aj (uS lv (n+1) P k) (nG (n+1) k):=by
   have:=Kc (lv:=lv) (xs:=P) (by rw[hn];exact hr) k;rw[hn]at this;exact this
  have s1:=ih.add (bW 3 lv 0 [] 3);rw[hl]at s1;have f0:aj (uS lv (n+1) P k++[bW 3 lv 0 [] 3]) ((n+1+k:Nat),0):=aj.dD.2 (.inr ⟨by rw[hl],Int.le_refl _,show(0:Int)<3 by decide⟩);have s2:=s1.link (p:=((n+1+k:Nat),0)) (q:=nG (n+1) k) f0 (nd _ (by omega)) (.inr rfl) hR.app (fun e=>by have:=hD _ e;omega) (.inl (.inr (.inr (.inr rfl)))) (fun e=>by rw[←e]at r2;have h3:((n+1+k:Nat):Int)<((n+1+k:Nat):Int):=r2;omega);unfold uS;refine s2.congr fun p hp _=> ?_
  rw[aj.iP,aj.dD,hl]at hp
  have hp':p.1<((n+1+k:Nat):Int)∨(p.1=((n+1+k:Nat):Int)∧0≤p.2∧p.2<3):=by
   rcases hp with hp|hp
   ·have:=hp.2.1;rw[hl]at this;exact .inl this
   ·exact .inr hp
  have e2:nG (n+1) (k+1)=(((n+1+k:Nat):Int),2):=rfl;rw[e2];obtain⟨a,s⟩:=p;generalize hRR:nG (n+1) k=R at*;obtain⟨ra,rs⟩:=R;simp only[Prod.mk.injEq,ne_eq]at*;omega
theorem Ka{Z:List ah}{n m k:Nat}(xl:x<(n:Nat))(x0:0≤x)(xy:x≠y)(xd:¬D x)(hD:∀i,D i→i<(n:Nat))(hx:∀s:Int,0≤s→s<(m:Nat)→aj Z (x,s))(hz:∀i:Nat,i<k→aj Z (((n+1+i:Nat):Int),1))(hl:Z.length=n+1+k)
  (h:SX D (fun p=>p=(x,0)∨p=(y,0)∨(((n+1:Nat):Int)≤p.1∧p.2=1)∨p=nG (n+1) k) Z Z):∀j:Nat,j≤k→j+1≤m→
  SX D (fun p=>(p.1=x∧p.2≤(j:Nat))∨p=(y,0)∨(((n+1+j:Nat):Int)≤p.1∧p.2=1)∨p=nG (n+1) k) (F4 x (n+1) Z j) (F4 x (n+1) Z j)
 |0,_,_=>h.congr fun p hp _=>by
  obtain⟨q1,q2,q3,_⟩:=hp;obtain⟨a,s⟩:=p;generalize nG (n+1) k=R;obtain⟨ra,rs⟩:=R;simp only[Prod.mk.injEq]at*;omega
 |j+1,hj,hm=>by
  have ih:=Ka xl x0 xy xd hD hx hz hl h j (by omega) (by omega);obtain⟨r1,r2,r3⟩:=DC (n:=n) (k:=k);have nd:∀i:Nat,n≤i→¬D (i:Nat):=fun i hi e=>by have:=hD _ e;omega
  have s1:=ih.move (old:=(x,((j:Nat):Int)+1)) (now:=(((n+1+j:Nat):Int),1)) (pG (hx _ (by omega) (by omega)) j) xd (by
   generalize nG (n+1) k=R at*;obtain⟨ra,rs⟩:=R;simp only[Prod.mk.injEq,ne_eq]at*;omega) (pG (hz j (by omega)) j) (nd _ (by omega)) (.inr (.inr (.inl ⟨Int.le_refl _,rfl⟩)))
  unfold F4;refine s1.congr fun p hp _=> ?_
  have q3:=hp.2.2.1;have q2:=hp.2.1;obtain⟨a,s⟩:=p;generalize hRR:nG (n+1) k=R at*;obtain⟨ra,rs⟩:=R;simp only[Prod.mk.injEq,ne_eq]at*;omega
theorem SG{P:List ah}{lv:Int}{n m:Nat}(hn:P.length=n+1)(xl:x<(n:Nat))(yl:y<(n:Nat))(x0:0≤x)(xy:x≠y)(xd:¬D x)(hD:∀i,D i→i<(n:Nat))(hx:∀s:Int,0≤s→s<(m:Nat)→aj P (x,s))(hr:aj P ((n:Nat),0))
  (h:SX D (fun p=>p=(x,0)∨p=(y,0)∨p.1=(n:Nat)) P P) (h1:∀p,aj P p→p.1=(n:Nat)→p.2=0):∀k:Nat,k+1≤m→F4 x (n+1) (uS lv (n+1) P k) k=zn lv x (n+1) P k
 |0,_=>rfl
 |k+1,hk=>by
  have ih:=SG (lv:=lv) hn xl yl x0 xy xd hD hx hr h h1 k (by omega);have hl:(uS lv (n+1) P k).length=n+1+k:=by rw[wK,hn]
  have nd:∀i:Nat,n≤i→¬D (i:Nat):=fun i hi e=>by have:=hD _ e;omega
  obtain⟨r1,r2,r3⟩:=DC (n:=n) (k:=k)
  have hR:aj (uS lv (n+1) P k) (nG (n+1) k):=by
   have:=Kc (lv:=lv) (xs:=P) (by rw[hn];exact hr) k;rw[hn]at this;exact this
  have hxN:∀s:Int,0≤s→s<(m:Nat)→aj (uS lv (n+1) P k) (x,s):=fun s a b=>Dz (hx s a b) k
  have hzN:∀i:Nat,i<k→aj (uS lv (n+1) P k) (((n+1+i:Nat):Int),1):=fun i hi=>by
   have:=zG (lv:=lv) (xs:=P) (s:=1) (by decide) (by decide) hi;rw[hn]at this;exact this
  have sN:=Kh (lv:=lv) hn xl yl hD hr h h1 k
  have key:∀j:Nat,j≤k→F4 x (n+1) (bf (uS lv (n+1) P k++[bW 3 lv 0 [] 3]) ((n+1+k:Nat),0) (nG (n+1) k)) j=bf (F4 x (n+1) (uS lv (n+1) P k) j++[bW 3 lv 0 [] 3]) ((n+1+k:Nat),0) (nG (n+1) k):=by
   intro j
   induction j with
   |zero=>intro _;rfl
   |succ j ihj=>
    intro hj;have e:=ihj (by omega);have sM:=Ka (k:=k) xl x0 xy xd hD hxN hzN hl sN j (by omega) (by omega);have hlW:(F4 x (n+1) (uS lv (n+1) P k) j).length=n+1+k:=by rw[J8,hl]
    show fO (F4 x (n+1) (bf (uS lv (n+1) P k++[bW 3 lv 0 [] 3]) ((n+1+k:Nat),0) (nG (n+1) k)) j) (x,((j:Nat):Int)+1) (((n+1+j:Nat):Int),1)=bf (fO (F4 x (n+1) (uS lv (n+1) P k) j) (x,((j:Nat):Int)+1) (((n+1+j:Nat):Int),1)++[bW 3 lv 0 [] 3]) _ _;rw[e];have ho:=pG (x:=x) (b:=n+1) (hxN (((j:Nat):Int)+1) (by omega) (by omega)) j
    have hw:=sM.wi (x,((j:Nat):Int)+1) ⟨⟨ho,xd⟩,by
     generalize nG (n+1) k=R at*;obtain⟨ra,rs⟩:=R;simp only[Prod.mk.injEq]at*;omega⟩
    refine MN ho hw.2.1.1.1 (pG (hzN j (by omega)) j) (aj.dD.2 (.inr ⟨by rw[hlW],Int.le_refl _,show(0:Int)<3 by decide⟩)) (by rw[hlW];exact Int.le_refl _) (pG hR j) ?_ (fun e=>hw.2.1.2 (.inr (.inr (.inr e)))) ?_
    ·intro e;rw[←e]at r1;have:(n:Int)≤x:=r1;omega
    ·intro e;rw[←e]at r3;exact r3 rfl
  show fO (F4 x (n+1) (bf (uS lv (n+1) P k++[bW 3 lv 0 [] 3]) (((n+1+k:Nat):Int),0) (nG (n+1) k)) k) (x,((k:Nat):Int)+1) (((n+1+k:Nat):Int),1)=fO (bf (zn lv x (n+1) P k++[bW 3 lv 0 [] 3]) (nG (n+1) k) (((n+1+k:Nat):Int),0)) (x,((k+1:Nat):Int)) (((n+1+k:Nat):Int),1);rw[key k (Nat.le_refl _),ih];have hlS:(zn lv x (n+1) P k).length=n+1+k:=by rw[wL,hn]
  have hRS:aj (zn lv x (n+1) P k) (nG (n+1) k):=by
   have:=NS (lv:=lv) (x:=x) (xs:=P) (by rw[hn];exact hr) k;rw[hn]at this;exact this
  rw[AY (aj.dD.2 (.inr ⟨by rw[hlS],Int.le_refl _,show(0:Int)<3 by decide⟩)) hRS.app];rfl
theorem Af{lv:Int}{b:Nat}{P:List ah}{p:aB}(hlt:p.1.toNat<P.length):∀{k:Nat},aj (zn lv x b P k) p→aj P p
 |0,h=>h
 |k+1,h=>by
  unfold zn at h;rw[aj.iR,aj.iP,aj.dD,wL]at h;rcases h with h|⟨h,_⟩
  ·exact Af hlt h
  ·omega
theorem St.choose(h:St D xs ys)(k:mM D xs x y)(hD:∀i,D i→i<(xs.length:Nat))(h6:(ak xs x).1=6↔(ak xs y).1=11)(hx:(ak xs x).1=6→(ak xs x).2.2.2.2.length=1)(hx1:1≤(ak xs x).2.2.2.2.length)(hy:(ak xs y).2.2.2.2.length=2):
  St (fun i=>D i∨i=x∨i=y) (qF xs x y) (eD (eD (wM ys x y) x) y):=by
 have ey:ak ys y=ak xs y:=(h.ag.2 y k.py.1 k.py.2.1 k.ly).symm;have ex:ak ys x=ak xs x:=(h.ag.2 x k.px.1 k.px.2.1 k.lx).symm;have hl:xs.length=ys.length:=h.ag.1;have xl:x<(xs.length:Nat):=k.px.2.1;have yl:y<(xs.length:Nat):=k.py.2.1;have x0:0≤x:=k.px.1;have y0:0≤y:=k.py.1;have hne:=k.ne;have nd:∀i:Nat,xs.length≤i→¬D (i:Nat):=fun i hi e=>by have:=hD _ e;omega
 have iny1:aj xs (y,1):=⟨k.py.1,k.py.2.1,show(0:Int)≤1 by decide,by show(1:Int)<((ak xs y).2.2.2.2.length:Nat);omega⟩;have hkb:((ak xs x).1==6)=((ak xs y).1==11):=by rw[Bool.eq_iff_iff];simpa using h6
 have s1:∀i:Int,SX D (fun p=>p=(x,0)∨p=(y,0)∨p.1=(xs.length:Nat)) (gX xs y i) (gX ys y i):=fun i=>by
  unfold gX;rw[ey];refine((SX.start h k).add _).congr fun p _ _=> ?_
  constructor
  ·rintro(e|e|e)
   ·exact .inl (.inl e)
   ·exact .inl (.inr e)
   ·exact .inr e
  ·rintro((e|e)|e)
   ·exact .inl e
   ·exact .inr (.inl e)
   ·exact .inr (.inr e)
 have hlen:∀i:Int,(gX xs y i).length=xs.length+1:=fun i=>by unfold gX;rw[List.length_append];rfl
 have hnew:∀i:Int,aj (gX xs y i) ((xs.length:Nat),0):=fun i=>aj.dD.2 (.inr ⟨rfl,Int.le_refl _,show(0:Int)<1 by decide⟩)
 have h1:∀(i:Int) p,aj (gX xs y i) p→p.1=(xs.length:Nat)→p.2=0:=fun i p hp e=>by
  rcases aj.dD.1 hp with q|⟨_,q2,q3⟩
  ·have:=q.2.1;omega
  ·have:p.2<1:=q3;omega
 have hback:∀(i:Int) (p:aB),p.1.toNat<xs.length→aj (gX xs y i) p→aj xs p:=fun i p hlt hp=>by
  rcases aj.dD.1 hp with q|⟨q,_⟩
  ·exact q
  ·omega
 have hin:∀(i:Int) (p:aB),aj xs p→aj (gX xs y i) p:=fun i p hp=>hp.app
 unfold qF wM;rw[ex,ey,hkb,←hl];cases hk:(ak xs y).1==11 with
 |true=>
  simp only[cond_true];have h3:=hx (h6.2 (by simpa using hk));generalize (bif (ak xs x).2.2.1==0 then(1:Int)else 0)=i;have s2:=(s1 i).move (old:=(y,1)) (now:=((xs.length:Nat),0)) (hin i _ iny1) k.ly (by simp only[Prod.mk.injEq];omega) (hnew i) (nd _ (Nat.le_refl _)) (.inr (.inr rfl));refine s2.Mk x0 y0 fun p hp _=> ?_
  rw[aj.iR]at hp;have q0:=h1 i p hp;have q1:=hp.2.2.1;have q2:=hp.1
  have q4:p.1=x→p.2<1:=fun e=>by
   have:=(hback i p (by omega) hp).2.2.2;rw[e]at this;have h2:p.2<((ak xs x).2.2.2.2.length:Nat):=this;omega
  have q5:p.1=y→p.2<2:=fun e=>by
   have:=(hback i p (by omega) hp).2.2.2;rw[e]at this;have h2:p.2<((ak xs y).2.2.2.2.length:Nat):=this;omega
  obtain⟨a,s⟩:=p;simp only[Prod.mk.injEq,ne_eq]at*;omega
 |false=>
  simp only[cond_false];generalize (ak xs x).2.2.1=i;generalize (ak xs y).2.1=lv;have hxi:∀s:Int,0≤s→s<((ak xs x).2.2.2.2.length:Nat)→aj (gX xs y i) (x,s):=fun s a b=>hin i _ ⟨x0,xl,a,b⟩
  rw[SG (lv:=lv) (hlen i) xl yl x0 k.ne k.lx hD hxi (hnew i) (s1 i).self (h1 i) ((ak xs x).2.2.2.2.length-1) (by omega)];have s2:=Kj (lv:=lv) (hlen i) xl yl x0 k.ne k.lx hD hxi (hnew i) (s1 i) (h1 i) ((ak xs x).2.2.2.2.length-1) (by omega);generalize hm:(ak xs x).2.2.2.2.length=m at*;obtain⟨r1,r2,r3⟩:=DC (n:=xs.length) (k:=m-1)
  have hR:aj (zn lv x (xs.length+1) (gX xs y i) (m-1)) (nG (xs.length+1) (m-1)):=by
   have:=NS (lv:=lv) (x:=x) (xs:=gX xs y i) (by rw[hlen];exact hnew i) (m-1);rw[hlen]at this;exact this
  have s3:=s2.move (old:=(y,1)) (now:=nG (xs.length+1) (m-1)) (IQ (hin i _ iny1) _) k.ly (by
   generalize nG (xs.length+1) (m-1)=R at*;obtain⟨ra,rs⟩:=R;simp only[Prod.mk.injEq]at*;omega) hR (fun e=>by have:=hD _ e;omega) (.inr (.inr rfl))
  refine s3.Mk x0 y0 fun p hp _=> ?_
  rw[aj.iR]at hp;have q1:=hp.2.2.1;have q2:=hp.1
  have q4:p.1=x→p.2<(m:Nat):=fun e=>by
   have:=(hback i p (by omega) (Af (by rw[hlen];omega) hp)).2.2.2;rw[e]at this;have h2:p.2<((ak xs x).2.2.2.2.length:Nat):=this;omega
  have q5:p.1=y→p.2<2:=fun e=>by
   have:=(hback i p (by omega) (Af (by rw[hlen];omega) hp)).2.2.2;rw[e]at this;have h2:p.2<((ak xs y).2.2.2.2.length:Nat):=this;omega
  generalize nG (xs.length+1) (m-1)=R at*;obtain⟨ra,rs⟩:=R;obtain⟨a,s⟩:=p;clear h1 hback hin hxi s1 s2 s3 hnew hlen nd;simp only[Prod.mk.injEq,ne_eq]at*;omega
end
end Go.Tr
namespace Go.Tr
open Go Go.RowKit
section
variable {D:Int→Prop}{X:aB→Prop}{xs ys:List ah}{x y:Int}
theorem vG{t:List ah}{b i:Int}(hb:b=(xs.length:Int)-1)(h1:(xs.length:Int)≤i)(h2:i-b<(t.length:Nat)):ak (xs++(t.drop 1).map (gY b)) i=gY b (ak t (i-b)):=by
 unfold ak elt;rw[List.getD_eq_getElem?_getD,List.getElem?_append_right (by omega),List.getElem?_map,List.getElem?_drop];have e:1+(i.toNat-xs.length)=(i-b).toNat:=by omega
 rw[e,List.getD_eq_getElem?_getD,List.getElem?_eq_getElem (by omega)];rfl
theorem MO(t:List ah)(b:Int):((t.drop 1).map (gY b)).length=t.length-1:=by rw[List.length_map,List.length_drop]
theorem aj.l8{t:List ah}{b:Int}{p:aB}(hb:b=(xs.length:Int)-1):aj (xs++(t.drop 1).map (gY b)) p↔aj xs p∨((xs.length:Int)≤p.1∧aj t (p.1-b,p.2)):=by
 have hml:=MO t b;have hpl:∀a:ah,(gY b a).aH.length=a.aH.length:=fun a=>by show(List.map _ _).length=_;rw[List.length_map]
 constructor
 ·intro h;have h':=h;obtain⟨h1,h2,h3,h4⟩:=h;rw[List.length_append,hml]at h2
  by_cases hl:p.1.toNat<xs.length
  ·rw[dY hl]at h4;exact .inl ⟨h1,by omega,h3,h4⟩
  ·have hlt:p.1-b<(t.length:Nat):=by omega
   rw[vG hb (by omega) hlt,hpl]at h4;exact .inr ⟨by omega,by show 0≤p.1-b;omega,hlt,h3,h4⟩
 ·rintro(h|⟨h,h1,h2,h3,h4⟩)
  ·exact h.app
  ·have h2':p.1-b<(t.length:Nat):=h2;refine⟨by omega,by rw[List.length_append,hml];omega,h3,?_⟩;rw[vG hb h h2',hpl];exact h4
theorem tJ{t:List ah}{b:Int}{p:aB}(hb:b=(xs.length:Int)-1)(h:(xs.length:Int)≤p.1)(hp:aj t (p.1-b,p.2)):aD (xs++(t.drop 1).map (gY b)) p=((aD t (p.1-b,p.2)).1+b,(aD t (p.1-b,p.2)).2):=by
 obtain⟨h1,h2,h3,h4⟩:=hp;unfold aD;rw[vG hb h h2];show elt (dflt aQ) (List.map _ _) p.2=_;unfold elt
 have h4':p.2.toNat<(ak t (p.1-b)).aH.length:=by
  have h5:p.2<((ak t (p.1-b)).aH.length:Nat):=h4;have h6:0≤p.2:=h3;omega
 rw[List.getD_eq_getElem?_getD,List.getElem?_map,List.getElem?_eq_getElem h4'];show _=(((ak t (p.1-b)).aH.getD p.2.toNat (dflt aQ)).1+b,((ak t (p.1-b)).aH.getD p.2.toNat (dflt aQ)).2);rw[List.getD_eq_getElem?_getD,List.getElem?_eq_getElem h4'];rfl
theorem SX.YE{t:List ah}{b:Int}(hb:b=(xs.length:Int)-1)(ht:fE (fun p=>aj t p) t)(h0:aj t (0,0))(h00:∀p,aj t p→p.1=0→p=(0,0))(hD:∀i,D i→i<(xs.length:Nat))(hX:∀p,X p→p.1<(xs.length:Nat))(h:SX D X xs ys):
  SX D (fun p=>X p∨p=((aD t (0,0)).1+b,(aD t (0,0)).2)) (xs++(t.drop 1).map (gY b)) (ys++(t.drop 1).map (gY b)):=by
 obtain⟨r1,r2,r3,r4⟩:=ht (0,0) h0;have rR:aj t (aD t (0,0)):=r2
 have rpos:1≤(aD t (0,0)).1:=by
  have h1:=rR.1
  by_cases e:(aD t (0,0)).1=0
  ·exact absurd (h00 _ rR e) r4
  ·omega
 refine⟨h.ag.app _,fun p hp=> ?_,fun p hp=>hp.1.2⟩;obtain⟨⟨p1,p2⟩,p3⟩:=hp;rcases(aj.l8 hb).1 p1 with q|⟨q1,q2⟩
 ·obtain⟨w1,w2,w3,w4⟩:=h.wi p ⟨⟨q,p2⟩,fun k=>p3 (.inl k)⟩;have e:=mg (ys:=(t.drop 1).map (gY b)) (AZ q);refine⟨p1,?_,by rw[e,mg (AZ w2.1.1),w3],by rw[e];exact w4⟩;rw[e];refine⟨⟨w2.1.1.app,w2.1.2⟩,fun k=> ?_⟩;rcases k with k|k
  ·exact w2.2 k
  ·have:=w2.1.1.2.1;rw[k]at this;have h2:(aD t (0,0)).1+b<(xs.length:Nat):=this;omega
 ·obtain⟨w1,w2,w3,w4⟩:=ht _ q2;have w2':aj t (aD t (p.1-b,p.2)):=w2;have e:=tJ hb q1 q2
  have hne:(aD t (p.1-b,p.2)).1≠0:=fun e0=>by
   have e1:=h00 _ w2' e0;rw[e1]at w3;exact p3 (.inr (dh (by rw[w3];show p.1=p.1-b+b;omega) (by rw[w3])))
  have hge:1≤(aD t (p.1-b,p.2)).1:=by have:=w2'.1;omega
  have hin:aj (xs++(t.drop 1).map (gY b)) ((aD t (p.1-b,p.2)).1+b,(aD t (p.1-b,p.2)).2):=(aj.l8 hb).2 (.inr ⟨by show(xs.length:Int)≤(aD t (p.1-b,p.2)).1+b;omega,by
   rw[show(((aD t (p.1-b,p.2)).1+b,(aD t (p.1-b,p.2)).2):aB).1-b=(aD t (p.1-b,p.2)).1 by show(aD t (p.1-b,p.2)).1+b-b=_;omega];exact w2'⟩)
  refine⟨p1,?_,?_,?_⟩
  ·rw[e];refine⟨⟨hin,fun k=> ?_⟩,fun k=> ?_⟩
   ·have:=hD _ k;have h2:(aD t (p.1-b,p.2)).1+b<(xs.length:Nat):=this;omega
   ·rcases k with k|k
    ·have:=hX _ k;have h2:(aD t (p.1-b,p.2)).1+b<(xs.length:Nat):=this;omega
    ·have e2:aD t (p.1-b,p.2)=aD t (0,0):=by
      injection k with k1 k2
      exact dh (by omega) k2
     rw[e2,r3]at w3;injection w3 with w5 w6
     omega
  ·rw[e,tJ hb (by show(xs.length:Int)≤(aD t (p.1-b,p.2)).1+b;omega) (by
    rw[show(((aD t (p.1-b,p.2)).1+b,(aD t (p.1-b,p.2)).2):aB).1-b=(aD t (p.1-b,p.2)).1 by show(aD t (p.1-b,p.2)).1+b-b=_;omega];exact w2')]
   have e3:((((aD t (p.1-b,p.2)).1+b,(aD t (p.1-b,p.2)).2):aB).1-b,(((aD t (p.1-b,p.2)).1+b,(aD t (p.1-b,p.2)).2):aB).2)=aD t (p.1-b,p.2):=dh (by show(aD t (p.1-b,p.2)).1+b-b=_;omega) rfl;rw[e3,w3];exact dh (by show p.1-b+b=p.1;omega) rfl
  ·rw[e];intro k;refine w4 (dh ?_ ?_)
   ·have:=congrArg Prod.fst k;show(aD t (p.1-b,p.2)).1=p.1-b;have h2:(aD t (p.1-b,p.2)).1+b=p.1:=this;omega
   ·have h2:=congrArg Prod.snd k;exact h2
theorem qU(lv:Int)(a:ah):(tO lv a).aH=a.aH:=by unfold tO;cases aG a.kind<;>rfl
theorem vH(lv:Int)(t:List ah){i:Int}(h0:0≤i)(h1:i<(t.length:Nat)):ak (gZ lv t) i=tO lv (ak t i):=by
 unfold ak elt gZ;rw[List.getD_eq_getElem?_getD,List.getElem?_map,List.getD_eq_getElem?_getD,List.getElem?_eq_getElem (by omega)];rfl
theorem Bz(lv:Int)(t:List ah):(gZ lv t).length=t.length:=by unfold gZ;rw[List.length_map]
theorem aj.mD{lv:Int}{t:List ah}{p:aB}:aj (gZ lv t) p↔aj t p:=by
 unfold aj;rw[Bz];constructor
 ·rintro⟨h1,h2,h3,h4⟩;rw[vH lv t h1 h2,qU]at h4;exact⟨h1,h2,h3,h4⟩
 ·rintro⟨h1,h2,h3,h4⟩;refine⟨h1,h2,h3,?_⟩;rw[vH lv t h1 h2,qU];exact h4
theorem tK{lv:Int}{t:List ah}{p:aB}(hp:aj t p):aD (gZ lv t) p=aD t p:=by
 unfold aD;rw[vH lv t hp.1 hp.2.1,qU]
theorem fE.shift{lv:Int}{t:List ah}(h:fE (fun p=>aj t p) t):fE (fun p=>aj (gZ lv t) p) (gZ lv t):=fun p hp=>by
 have hp':=aj.mD.1 hp;obtain⟨h1,h2,h3,h4⟩:=h p hp';rw[tK hp'];exact⟨hp,aj.mD.2 h2,by rw[tK h2,h3],h4⟩
theorem St.expand{bk:List (List ah)}(h:St D xs ys)(k:mM D xs x y)(hD:∀i,D i→i<(xs.length:Nat))(hx:(ak xs x).2.2.2.2.length=1)
  (ht:fE (fun p=>aj (je bk (ak xs x).2.2.1) p) (je bk (ak xs x).2.2.1)) (h0:aj (je bk (ak xs x).2.2.1) (0,0)) (h00:∀p,aj (je bk (ak xs x).2.2.1) p→p.1=0→p=(0,0)):
  St (fun i=>D i∨i=x) (wR bk xs x y) (eD (DU (je bk (ak ys x).2.2.1) (ak ys x).2.1 ys y) x):=by
 have ex:ak ys x=ak xs x:=(h.ag.2 x k.px.1 k.px.2.1 k.lx).symm;have hl:xs.length=ys.length:=h.ag.1;have xl:x<(xs.length:Nat):=k.px.2.1;have yl:y<(xs.length:Nat):=k.py.2.1;have hne:=k.ne;rw[ex];unfold wR DU vD;generalize je bk (ak xs x).2.2.1=t at*;generalize (ak xs x).2.1=lv;generalize hb:(xs.length:Int)-1=b;have hb':b=(xs.length:Int)-1:=hb.symm
 have e1:U7 lv ((ys.length:Int)-1) t (t.length-1)=((gZ lv t).drop 1).map (gY b):=by
  unfold U7;rw[←hl,hb,List.take_of_length_le (by rw[List.length_drop,Bz];exact Nat.le_refl _)]
 have s0:=SX.start h k;have s1:=s0.YE (t:=gZ lv t) hb' ht.shift (aj.mD.2 h0) (fun p hp e=>h00 p (aj.mD.1 hp) e) hD (fun p hp=>by rcases hp with e|e<;>rw[e]<;>assumption);rw[e1,tK h0]at*;obtain⟨r1,r2,r3,r4⟩:=ht (0,0) h0;have rR:aj t (aD t (0,0)):=r2
 have rpos:1≤(aD t (0,0)).1:=by
  have h1:=rR.1
  by_cases e:(aD t (0,0)).1=0
  ·exact absurd (h00 _ rR e) r4
  ·omega
 generalize aD t (0,0)=R at*
 have hR:aj (xs++((gZ lv t).drop 1).map (gY b)) (R.1+b,R.2):=(aj.l8 hb').2 (.inr ⟨by show(xs.length:Int)≤R.1+b;omega,aj.mD.2 (by
  rw[show((R.1+b,R.2):aB).1-b=R.1 by show R.1+b-b=R.1;omega];exact rR)⟩)
 have s2:=s1.link (p:=(y,0)) (q:=(R.1+b,R.2)) k.py.app k.ly (.inl (.inr rfl)) hR (fun e=>by have:=hD _ e;have h2:R.1+b<(xs.length:Nat):=this;omega) (.inr rfl) (cB (.inl (by omega)))
 have e2:bf (ys++((gZ lv t).drop 1).map (gY b)) ((ys.length:Int)-1+R.1,R.2) (y,0)=bf (ys++((gZ lv t).drop 1).map (gY b)) (y,0) (R.1+b,R.2):=by
  rw[←hl,hb,show b+R.1=R.1+b by omega];refine AY ?_ ?_
  ·have:=(s1.ag.port hR (fun e=>by have:=hD _ e;have h2:R.1+b<(xs.length:Nat):=this;omega)).1;exact this
  ·exact(s1.ag.port (p:=(y,0)) k.py.app k.ly).1
 rw[e2];refine s2.Yo k.px.1 fun p hp _=> ?_
 rw[aj.iP]at hp;constructor
 ·rintro⟨(e|e)|e,e3,e4⟩
  ·rw[e]
  ·exact absurd e e3
  ·exact absurd e e4
 ·intro e;rcases(aj.l8 hb').1 hp with q|⟨q,_⟩
  ·obtain⟨q1,q2,q3,q4⟩:=q;rw[e]at q4;have h3:p.2<((ak xs x).2.2.2.2.length:Nat):=q4;refine⟨.inl (.inl (dh e (by show p.2=0;omega))),fun e2=> ?_,fun e2=> ?_⟩
   ·rw[e2]at e;exact hne e.symm
   ·rw[e2]at e;have h4:R.1+b=x:=e;omega
  ·omega
end
end Go.Tr
namespace Go.Tr
open Go Go.RowKit
def gA(a:ah):au:=⟨a.1,a.2.1,a.2.2.1,a.2.2.2.1,a.2.2.2.2.map fun p=>⟨p.1,p.2⟩⟩
theorem Gd(l:List Int):List.flatMap (enc (.int .i64)) l=l.flatMap bL:=by
 induction l with
 |nil=>rfl
 |cons x l ih=>rw[List.flatMap_cons,List.flatMap_cons,ih];rfl
theorem Mj(l:List aB):(l.map fun p=>(⟨p.1,p.2⟩:aF)).flatMap aF.enc=List.flatMap (enc aQ) l:=by
 induction l with
 |nil=>rfl
 |cons x l ih=>rw[List.map_cons,List.flatMap_cons,List.flatMap_cons,ih];rfl
theorem Ov(a:ah):(gA a).enc=enc aV a:=by
 show[_,_,_,D.sl _ _,D.sl _ _]=[_]++([_]++([_]++([_]++[_])));simp only[List.cons_append,List.nil_append,gA];rw[Mj,←Gd,List.length_map]
theorem rU(n:Nat)(f:Nat→Bool):dZ (n+1) f=(dZ n f&&f n):=by simp[dZ,List.range_succ]
def Wf(a:ah):Prop:=eO (gA a)=true
theorem eU{a:ah}(h:Wf a):fF a.1 a.2.1=true∧fG (gA a)=true∧(a.2.2.2.2.length:Int)=aL a.1 (dH a.1 a.2.2.2.2.length)∧0<a.2.2.2.2.length:=by
 unfold Wf eO at h;simp only[Bool.and_eq_true,decide_eq_true_eq,beq_iff_eq]at h;obtain⟨⟨⟨h1,h2⟩,h3⟩,h4⟩:=h;have e:((gA a).aH.length:Int)=(a.2.2.2.2.length:Int):=by simp[gA]
 have e2:fieldsOf (gA a)=dH a.1 a.2.2.2.2.length:=by unfold fieldsOf;rw[e];rfl
 rw[e,e2]at h2;rw[e2]at h1;exact⟨h3,h4,h2,by(have:0<aL a.1 (dH a.1 a.2.2.2.2.length):=h1);omega⟩
theorem FB{a:ah}(h:Wf a):1≤a.1∧a.1≤12:=by
 have:=(eU h).1;unfold fF kV at this;simp only[Bool.and_eq_true]at this;exact jl this.1
theorem tZ{a:ah}(h:Wf a):(a.1=1∨a.1=5∨a.1=6∨a.1=12→a.2.2.2.2.length=1)∧(a.1=8∨a.1=10∨a.1=11→a.2.2.2.2.length=2)∧(a.1=2∨a.1=3∨a.1=4∨a.1=7→a.2.2.2.2.length=3)∧(a.1=9→1≤a.2.2.2.2.length∧a.2.2.2.2.length≤4):=by
 obtain⟨_,_,h3,h4⟩:=eU h;have hf:∀k:Int,k≠9→dH k a.2.2.2.2.length=0:=fun k hk=>by unfold dH;rw[if_neg (by simpa using hk)]
 refine⟨fun e=> ?_,fun e=> ?_,fun e=> ?_,fun e=> ?_⟩
 ·have k9:a.1≠9:=by omega
  rw[hf _ k9]at h3;unfold aL at h3;rw[if_neg k9,if_pos rfl,if_pos e]at h3;omega
 ·have k9:a.1≠9:=by omega
  rw[hf _ k9]at h3;unfold aL at h3;rw[if_neg k9,if_pos rfl,if_neg (by omega),if_pos e]at h3;omega
 ·have k9:a.1≠9:=by omega
  rw[hf _ k9]at h3;unfold aL at h3;rw[if_neg k9,if_pos rfl,if_neg (by omega),if_neg (by omega),if_pos e]at h3;omega
 ·rw[e]at h3;unfold aL dH at h3;simp only[beq_self_eq_true,if_true]at h3
  by_cases hb:iy ((a.2.2.2.2.length:Int)-1) 0 3=true
  ·have:=jl hb;omega
  ·rw[if_neg hb]at h3;omega
theorem oJ{ka la kb lb c:Int}(h:rule ka la kb lb=c)(h0:c≠0):
  (c=1→ka=2∧kb=3)∧(c=2→ka=4∧kb=4)∧(c=3→ka=4)∧(c=4→ka=5)∧(c=5→ka=6∧(kb=7∨kb=8))∧(c=6→(ka=6∧kb=11)∨(ka=9∧kb=10))∧(c=7→ka=12∧(kb=3∨kb=7∨kb=8∨kb=10∨kb=11)):=by
 unfold rule at h;split at h
 ·subst h;simp_all
 split at h
 ·split at h
  ·rename_i h1;simp only[Bool.and_eq_true,beq_iff_eq]at h1;subst h;simp_all
  ·split at h
   ·subst h;simp_all
   ·omega
 split at h
 ·split at h
  ·rename_i h1;simp only[Bool.and_eq_true,beq_iff_eq]at h1;subst h;simp_all
  ·omega
 split at h
 ·split at h
  ·rename_i h1;simp only[Bool.or_eq_true,beq_iff_eq]at h1;subst h;simp_all
  ·split at h
   ·rename_i h1;simp only[beq_iff_eq]at h1;subst h;simp_all
   ·omega
 split at h
 ·split at h
  ·rename_i h1;simp only[beq_iff_eq]at h1;subst h;simp_all
  ·omega
 split at h
 ·split at h
  ·rename_i h1;unfold SI at h1;simp only[Bool.or_eq_true,beq_iff_eq]at h1;subst h;refine⟨by simp,by simp,by simp,by simp,by simp,by simp,fun _=>⟨by assumption,by omega⟩⟩
  ·omega
 ·omega
def sig(a:ah):Int×Int×Int×List Int×Nat:=(a.1,a.2.1,a.2.2.1,a.2.2.2.1,a.2.2.2.2.length)
theorem BO{a b:ah}(h:sig a=sig b):Wf a↔Wf b:=by
 unfold sig at h;simp only[Prod.mk.injEq]at h;obtain⟨h1,h2,h3,h4,h5⟩:=h
 have e:eO (gA a)=eO (gA b):=by
  unfold eO fieldsOf fG gA;simp only[List.length_map,h1,h2,h3,h4,h5]
 unfold Wf;rw[e]
def bH(xs ys:List ah):Prop:=xs.length=ys.length∧∀i:Int,0≤i→i<(xs.length:Nat)→sig (ak xs i)=sig (ak ys i)
theorem bH.refl(xs:List ah):bH xs xs:=⟨rfl,fun _ _ _=>rfl⟩
theorem bH.setPort{xs ys:List ah}(h:bH xs ys)(p q:aB):bH (aO xs p q) ys:=by
 refine⟨by rw[dV];exact h.1,fun i h0 h1=> ?_⟩;rw[dV]at h1;rw[←h.2 i h0 h1,dK];split
 ·rename_i e;rw[wB (xs:=xs) e.1];unfold sig;simp only[List.length_set,ah.aH]
 ·rfl
theorem bH.link{xs ys:List ah}(h:bH xs ys)(p q:aB):bH (bf xs p q) ys:=(h.setPort p q).setPort q p
theorem bH.move{xs ys:List ah}(h:bH xs ys)(p q:aB):bH (fO xs p q) ys:=h.link _ _
theorem bH.join{xs ys:List ah}(h:bH xs ys)(p q:aB):bH (gu xs p q) ys:=by
 unfold gu;cases ((aD xs p).1==q.1&&(aD xs p).2==q.2)with
 |true=>exact h
 |false=>exact h.link _ _
theorem bH.app{xs ys:List ah}(h:bH xs ys)(zs:List ah):bH (xs++zs) (ys++zs):=by
 refine⟨by rw[List.length_append,List.length_append,h.1],fun i h0 h1=> ?_⟩;rw[List.length_append]at h1
 by_cases hl:i<(xs.length:Nat)
 ·rw[dY (by omega),dY (by rw[←h.1];omega)];exact h.2 i h0 hl
 ·have:∀ws:List ah,ws.length=xs.length→ak (ws++zs) i=zs.getD (i.toNat-xs.length) (dflt aV):=fun ws hw=>by
   unfold ak elt;rw[List.getD_eq_getElem?_getD,List.getElem?_append_right (by omega),hw,List.getD_eq_getElem?_getD]
  rw[this xs rfl,this ys h.1.symm]
theorem Ky(y:Int)(xs:List ah):∀k,bH (zu y xs k) (xs++List.replicate k (bW 5 0 0 [] 1))
 |0=>by rw[List.replicate_zero,List.append_nil];exact bH.refl _
 |k+1=>by
  unfold zu;rw[List.replicate_succ',←List.append_assoc];exact((Ky y xs k).app _).move _ _
theorem Gl(lab c d:Int)(P:List ah):∀k,bH (bX lab c d P k) (P++List.replicate k (bW 4 lab 0 [] 3))
 |0=>by rw[List.replicate_zero,List.append_nil];exact bH.refl _
 |k+1=>by
  unfold bX uz;rw[List.replicate_succ',←List.append_assoc];exact(((Gl lab c d P k).app _).link _ _).link _ _
theorem C9{y:Int}{b:Nat}{P Q:List ah}(h:bH P Q):∀k,bH (j6 y b P k) Q
 |0=>h
 |k+1=>(C9 h k).move _ _
theorem VZ:Wf (bW 5 0 0 [] 1):=by unfold Wf;decide
theorem Ma{k l:Int}(h:fF k l=true):l=0∨(0≤l∧l≤8):=by
 unfold fF at h;simp only[Bool.and_eq_true,Bool.or_eq_true,beq_iff_eq]at h;rcases h.2 with h|h
 ·exact .inl h
 ·exact .inr (jl h.2)
theorem wF{k l:Int}(hk:k=3∨k=4∨k=8∨k=12)(h:l=0∨(0≤l∧l≤8)):fF k l=true:=by
 have h1:kV k=true:=sJ (by omega) (by omega)
 have h2:aG k=true:=by
  unfold aG;rw[h1];rcases hk with rfl|rfl|rfl|rfl<;>decide
 unfold fF;rw[h1,h2];rcases h with rfl|h
 ·rfl
 ·rw[show Ez l=true from sJ h.1 h.2];simp
theorem Ir{k lv v:Int}{d:List Int}{n:Nat}(h1:fF k lv=true)(h2:fG (gA (bW k lv v d n))=true)(h3:(n:Int)=aL k (dH k n))(h4:0<n):Wf (bW k lv v d n):=by
 unfold Wf eO;have e:((gA (bW k lv v d n)).aH.length:Int)=(n:Int):=by simp[gA,bW]
 have e2:fieldsOf (gA (bW k lv v d n))=dH k n:=by unfold fieldsOf;rw[e];rfl
 rw[e2,e];show(decide (0<aL k (dH k n))&&(n:Int)==aL k (dH k n)&&fF k lv&&fG (gA (bW k lv v d n)))=true;rw[←h3,h1,h2];simp only[beq_self_eq_true,Bool.and_true,decide_eq_true_eq];omega
theorem V3{lv:Int}(h:lv=0∨(0≤lv∧lv≤8)):Wf (bW 4 lv 0 [] 3):=Ir (wF (by omega) h) rfl rfl (by decide)
theorem VY{lv:Int}(h:lv=0∨(0≤lv∧lv≤8)):Wf (bW 3 lv 0 [] 3):=Ir (wF (by omega) h) rfl rfl (by decide)
theorem Qt{lv v:Int}(h:lv=0∨(0≤lv∧lv≤8))(hv:jr v=true):Wf (bW 12 lv v [] 1):=Ir (wF (by omega) h) (by show((((0:Nat):Int)==0)&&jr v)=true;rw[hv];rfl) rfl (by decide)
theorem V4{v:Int}(hv:eH v=true):Wf (bW 6 0 v [] 1):=Ir (by decide) (by show((((0:Nat):Int)==0)&&eH v)=true;rw[hv];rfl) rfl (by decide)
theorem V5{lv v w:Int}(h:lv=0∨(0≤lv∧lv≤8))(hv:jK v=true)(hw:eH w=true):Wf (bW 8 lv v [w] 2):=Ir (wF (by omega) h) (by show(((((1:Nat):Int)==1)&&jK v)&&eH (fM [w] 0))=true;rw[hv,show fM [w] 0=w from rfl,hw];rfl) rfl (by decide)
theorem LW{a:ah}(h:Wf a):Wf (bW a.1 a.2.1 a.2.2.1 a.2.2.2.1 a.2.2.2.2.length):=(BO (by unfold sig bW;simp)).2 h
theorem FC{a:ah}(h:Wf a):a.2.1=0∨(0≤a.2.1∧a.2.1≤8):=Ma (eU h).1
theorem Iu{a:ah}(h:Wf a)(k:a.1=6):eH a.2.2.1=true:=by
 have:=(eU h).2.1;unfold fG gA at this;simp only[k,beq_self_eq_true,if_true,Bool.and_eq_true]at this;exact this.2
theorem LY{a:ah}(h:Wf a)(k:a.1=7):jK a.2.2.1=true:=by
 have:=(eU h).2.1;unfold fG gA at this;simp only[k]at this;simp at this;exact this.2
theorem Iw{a:ah}(h:Wf a)(k:a.1=8):a.2.2.2.1.length=1∧jK a.2.2.1=true∧eH (fM a.2.2.2.1 0)=true:=by
 have:=(eU h).2.1;unfold fG gA at this;simp only[k]at this;simp at this;exact⟨by omega,this.1.2,this.2⟩
theorem Km{l:List Int}(h:jH l=true){i:Int}(h0:0≤i)(h1:i<(l.length:Nat)):jr (uU l i)=true:=by
 unfold jH dZ at h;rw[List.all_eq_true]at h;have:=h i.toNat (List.mem_range.2 (by omega));exact this
theorem Iq{a:ah}(h:Wf a)(k:a.1=10):1≤a.2.2.2.1.length∧a.2.2.2.1.length≤4∧jH a.2.2.2.1=true:=by
 have:=(eU h).2.1;unfold fG gA at this;simp only[k]at this;simp at this;have h2:=jl this.1.2;exact⟨by omega,by omega,this.2⟩
theorem xM{a:ah}(h:Wf a)(k:a.1=11):a.2.2.2.1.length=2∧jH a.2.2.2.1=true:=by
 have:=(eU h).2.1;unfold fG gA at this;simp only[k]at this;simp at this;exact⟨by omega,this.2⟩
theorem xL{a:ah}(h:Wf a)(k:a.1=12):0≤a.2.2.1∧a.2.2.1≤23:=by
 have:=(eU h).2.1;unfold fG gA at this;simp only[k]at this;simp at this;exact jl this.2
theorem xK{a:ah}(h:Wf a)(k:a.1=9):0≤a.2.2.1∧a.2.2.1≤3:=by
 have:=(eU h).2.1;unfold fG gA at this;simp only[k]at this;simp at this;exact jl this.2
theorem wf_data{a:ah}(h:Wf a):a.2.2.2.1.length≤4:=by
 have:=(eU h).2.1;unfold fG gA at this;dsimp only at this;split at this
 ·simp at this;rw[this.1];decide
 split at this
 ·simp at this;rw[this.1];decide
 split at this
 ·simp at this;omega
 split at this
 ·simp at this;rw[this.1];decide
 split at this
 ·simp at this;rw[this.1];decide
 split at this
 ·simp at this;have:=jl this.1.2;omega
 split at this
 ·simp at this;omega
 ·simp at this;rw[this.2];decide
def QI(D:Int→Prop)(xs:List ah):Prop:=∀i:Int,0≤i→i<(xs.length:Nat)→¬D i→Wf (ak xs i)
theorem QI.grow{D E:Int→Prop}{xs xs' zs:List ah}(h:QI D xs)(hs:bH xs' (xs++zs))(hz:∀z∈zs,Wf z)(hE:∀i,D i→E i):QI E xs':=fun i h0 h1 hi=>by
 rw[BO (hs.2 i h0 h1)]
 by_cases hl:i<(xs.length:Nat)
 ·rw[dY (by omega)];exact h i h0 hl fun k=>hi (hE i k)
 ·have hln:=hs.1;rw[List.length_append]at hln;have hlt:i.toNat-xs.length<zs.length:=by omega
  have e:ak (xs++zs) i=zs[i.toNat-xs.length]:=by
   unfold ak elt;rw[List.getD_eq_getElem?_getD,List.getElem?_append_right (by omega),List.getElem?_eq_getElem hlt];rfl
  rw[e];exact hz _ (List.getElem_mem hlt)
structure BkW(bk:List (List ah)):Prop where
 wi:∀v:Int,0≤v→v<(bk.length:Nat)→fE (fun p=>aj (je bk v) p) (je bk v)
 r0:∀v:Int,0≤v→v<(bk.length:Nat)→aj (je bk v) (0,0)
 r1:∀v:Int,0≤v→v<(bk.length:Nat)→∀p,aj (je bk v) p→p.1=0→p=(0,0)
 wf:∀v:Int,0≤v→v<(bk.length:Nat)→∀i:Int,0≤i→i<((je bk v).length:Nat)→Wf (ak (je bk v) i)
def zh(bk:List (List ah))(xs:List ah)(c x y:Int):List ah:=
 bif c==3 then[r9 xs y]++[r9 xs y]++List.replicate ((ak xs y).2.2.2.2.length-1) (bW 4 (ak xs x).2.1 0 [] 3)
 else bif c==4 then List.replicate ((ak xs y).2.2.2.2.length-1) (bW 5 0 0 [] 1)
 else bif c==5 then(bif (ak xs y).1==7 then[bW 8 (ak xs y).2.1 (ak xs y).2.2.1 [(ak xs x).2.2.1] 2]else[bW 6 0 (Te (ak xs y).2.2.1 (uU (ak xs y).2.2.2.1 0) (ak xs x).2.2.1) [] 1])
 else bif c==6 then(bif (ak xs x).1==6 then[bW 12 (ak xs y).2.1 (uU (ak xs y).2.2.2.1 (bif (ak xs x).2.2.1==0 then 1 else 0)) [] 1]
  else[bW 12 (ak xs y).2.1 (uU (ak xs y).2.2.2.1 (ak xs x).2.2.1) [] 1]++List.replicate ((ak xs x).2.2.2.2.length-1) (bW 3 (ak xs y).2.1 0 [] 3))
 else bif c==7 then((vD bk xs x).drop 1).map (gY ((xs.length:Nat)-1))else[]
section
variable {D:Int→Prop}{xs ys:List ah}{x y:Int}{bk:List (List ah)}
theorem J9{x:Int}{b:Nat}{P Q:List ah}(h:bH P Q):∀k,bH (F4 x b P k) Q
 |0=>h
 |k+1=>(J9 h k).move _ _
theorem Kg(lv:Int)(b:Nat)(P:List ah):∀k,bH (uS lv b P k) (P++List.replicate k (bW 3 lv 0 [] 3))
 |0=>by rw[List.replicate_zero,List.append_nil];exact bH.refl _
 |k+1=>by
  unfold uS;rw[List.replicate_succ',←List.append_assoc];exact((Kg lv b P k).app _).link _ _
theorem CX{c:Int}(hc:1≤c∧c≤7)(hx:x.toNat<xs.length):bH (pK bk xs c x y) (xs++zh bk xs c x y):=by
 have hcs:c=1∨c=2∨c=3∨c=4∨c=5∨c=6∨c=7:=by omega
 rcases hcs with rfl|rfl|rfl|rfl|rfl|rfl|rfl
 ·show bH (gu (gu xs (x,1) (y,1)) (x,2) (y,2)) (xs++[]);rw[List.append_nil];exact((bH.refl xs).join _ _).join _ _
 ·show bH (gu (gu xs (x,1) (y,1)) (x,2) (y,2)) (xs++[]);rw[List.append_nil];exact((bH.refl xs).join _ _).join _ _
 ·show bH (jI xs x y) (xs++([r9 xs y]++[r9 xs y]++List.replicate ((ak xs y).2.2.2.2.length-1) (bW 4 (ak xs x).2.1 0 [] 3)));unfold jI Ra dup3
  have e:(ak (dup2 xs y) x).2.1=(ak xs x).2.1:=by
   unfold dup2;rw[dY (by rw[List.length_append];omega),dY hx]
  rw[←(mU (x:=x) (by rw[p9];omega) _).1,e];refine C9 ((bH.move ?_ _ _).move _ _) _;rw[←List.append_assoc,←List.append_assoc];exact Gl _ _ _ _ _
 ·exact Ky y xs _
 ·show bH (jL xs x y) (xs++(bif (ak xs y).1==7 then[bW 8 (ak xs y).2.1 (ak xs y).2.2.1 [(ak xs x).2.2.1] 2]else[bW 6 0 (Te (ak xs y).2.2.1 (uU (ak xs y).2.2.2.1 0) (ak xs x).2.2.1) [] 1]));unfold jL;cases (ak xs y).1==7 with
  |true=>exact(((bH.refl xs).app _).move _ _).move _ _
  |false=>exact((bH.refl xs).app _).move _ _
 ·show bH (qF xs x y) (xs++(bif (ak xs x).1==6 then[bW 12 (ak xs y).2.1 (uU (ak xs y).2.2.2.1 (bif (ak xs x).2.2.1==0 then 1 else 0)) [] 1]
   else[bW 12 (ak xs y).2.1 (uU (ak xs y).2.2.2.1 (ak xs x).2.2.1) [] 1]++List.replicate ((ak xs x).2.2.2.2.length-1) (bW 3 (ak xs y).2.1 0 [] 3)))
  unfold qF;cases (ak xs x).1==6 with
  |true=>exact((bH.refl xs).app _).move _ _
  |false=>
   simp only[cond_false];rw[←List.append_assoc];exact(J9 (Kg _ _ _ _) _).move _ _
 ·exact((bH.refl xs).app _).link _ _
theorem OI{c:Int}(h:St D xs ys)(k:mM D xs x y)(hD:∀i,D i→i<(xs.length:Nat))(hw:QI D xs)(hr:rule (ak xs x).1 (ak xs x).2.1 (ak xs y).1 (ak xs y).2.1=c)(hc:1≤c∧c≤7)(hb:BkW bk)(h7:c=7→(ak xs x).2.2.1<(bk.length:Nat)):
  St (fun i=>D i∨i∈nJ c x y) (pK bk xs c x y) (NZ bk ys c x y):=by
 have wx:=hw x k.px.1 k.px.2.1 k.lx;have wy:=hw y k.py.1 k.py.2.1 k.ly;obtain⟨x1,x2,x3,x4⟩:=tZ wx;obtain⟨y1,y2,y3,y4⟩:=tZ wy;obtain⟨r1,r2,r3,r4,r5,r6,r7⟩:=oJ hr (by omega)
 have mono:∀{E:Int→Prop} {A B:List ah},(∀i,E i↔D i∨i=x∨i=y)→St (fun i=>D i∨i=x∨i=y) A B→St E A B:=fun {E A B} e s=>by
  have:E=fun i=>D i∨i=x∨i=y:=funext fun i=>propext (e i)
  rw[this];exact s
 have g2:c≠7→∀i,(D i∨i∈nJ c x y)↔D i∨i=x∨i=y:=fun hne i=>by
  unfold nJ;rw[show(c==7)=false by simpa using hne];simp
 have hcs:c=1∨c=2∨c=3∨c=4∨c=5∨c=6∨c=7:=by omega
 rcases hcs with rfl|rfl|rfl|rfl|rfl|rfl|rfl
 ·obtain⟨a,b⟩:=r1 rfl;exact mono (g2 (by decide)) (h.joins k (x3 (by omega)) (y3 (by omega)))
 ·obtain⟨a,b⟩:=r2 rfl;exact mono (g2 (by decide)) (h.joins k (x3 (by omega)) (y3 (by omega)))
 ·exact mono (g2 (by decide)) (h.duplicate k hD (x3 (by have:=r3 rfl;omega)) (eU wy).2.2.2)
 ·exact mono (g2 (by decide)) (h.erase k hD (x1 (by have:=r4 rfl;omega)))
 ·obtain⟨a,b⟩:=r5 rfl;exact mono (g2 (by decide)) (h.operate k hD (x1 (by omega)) (fun e=>y3 (by omega)) (fun e=>y2 (by omega)))
 ·have q:=r6 rfl;exact mono (g2 (by decide)) (h.choose k hD (by omega) (fun e=>x1 (by omega)) (eU wx).2.2.2 (y2 (by omega)))
 ·obtain⟨a,b⟩:=r7 rfl;have v:=xL wx a;have e:(fun i=>D i∨i∈nJ 7 x y)=fun i=>D i∨i=x:=funext fun i=>propext (by unfold nJ;simp)
  rw[e];exact h.expand k hD (x1 (by omega)) (hb.wi _ v.1 (h7 rfl)) (hb.r0 _ v.1 (h7 rfl)) (hb.r1 _ v.1 (h7 rfl))
end
end Go.Tr
namespace Go.Tr
open Go Go.RowKit
theorem xP(x:Int):eH (nR x)=true:=by
 have h: -2147483648≤IntKind.i32.wrap x∧IntKind.i32.wrap x≤2147483647:=by
  simp only[IntKind.wrap,IntKind.bits,IntKind.signed];simp;omega
 unfold nR;rw[IntWalk.i64_in _ (by omega)];exact sJ h.1 h.2
theorem RG(o a b:Int):eH (Te o a b)=true:=by
 unfold Te;cases o==1 with
 |true=>exact xP _
 |false=>
 cases o==2 with
 |true=>exact xP _
 |false=>
 cases o==3 with
 |true=>exact xP _
 |false=>
 cases o==4 with
 |true=>
  cases nR b==0 with
  |true=>rfl
  |false=>exact xP _
 |false=>
 cases o==5 with
 |true=>cases decide (nR a<nR b)<;>rfl
 |false=>
 cases o==6 with
 |true=>cases nR a==nR b<;>rfl
 |false=>rfl
theorem Qu{lv:Int}{a:ah}(h:Wf a)(h0:0≤lv)(h8:(!(aG a.kind)||decide (a.level+lv≤8))=true):Wf (tO lv a):=by
 unfold tO;cases hl:aG a.kind with
 |false=>exact h
 |true=>
  have h9:a.2.1+lv≤8:=by
   rw[show ah.kind a=a.1 from rfl]at*;rw[hl]at h8;simpa using h8
  have hp:=eU h;have hlev:=FC h;unfold Wf eO at h ⊢;simp only[Bool.and_eq_true]at h ⊢;obtain⟨⟨⟨q1,q2⟩,q3⟩,q4⟩:=h;refine⟨⟨⟨q1,q2⟩,?_⟩,q4⟩;show fF a.1 (a.2.1+lv)=true;have q5:fF a.1 a.2.1=true:=q3;unfold fF at q5 ⊢;simp only[Bool.and_eq_true,Bool.or_eq_true]at q5 ⊢;exact⟨q5.1,.inr ⟨hl,sJ (by omega) h9⟩⟩
theorem MP(b:Int)(a:ah):sig (gY b a)=sig a:=by unfold sig gY;simp
section
variable {D:Int→Prop}{xs:List ah}{x y:Int}{bk:List (List ah)}
theorem MB{c:Int}(hw:QI D xs)(hx:0≤x∧x<(xs.length:Nat))(hy:0≤y∧y<(xs.length:Nat))(lx:¬D x)(ly:¬D y)(hr:rule (ak xs x).1 (ak xs x).2.1 (ak xs y).1 (ak xs y).2.1=c)(hc:1≤c∧c≤7)(hb:BkW bk)
  (h6:c=6→(ak xs x).1=9→(ak xs x).2.2.1<((ak xs y).2.2.2.1.length:Nat)) (h7:c=7→(ak xs x).2.2.1<(bk.length:Nat)∧zT (ak xs x).2.1 (je bk (ak xs x).2.2.1)=true):QI D (pK bk xs c x y):=by
 have wx:=hw x hx.1 hx.2 lx;have wy:=hw y hy.1 hy.2 ly;have lvx:=FC wx;have lvy:=FC wy;obtain⟨r1,r2,r3,r4,r5,r6,r7⟩:=oJ hr (by omega);refine hw.grow (CX hc (by omega)) ?_ fun i e=>e
 have hcs:c=1∨c=2∨c=3∨c=4∨c=5∨c=6∨c=7:=by omega
 rcases hcs with rfl|rfl|rfl|rfl|rfl|rfl|rfl
 ·intro z hz;cases hz
 ·intro z hz;cases hz
 ·intro z hz;have hz':z∈[r9 xs y]++[r9 xs y]++List.replicate ((ak xs y).2.2.2.2.length-1) (bW 4 (ak xs x).2.1 0 [] 3):=hz;rw[List.mem_append,List.mem_append,List.mem_singleton]at hz';rcases hz' with(e|e)|e
  ·rw[e];exact LW wy
  ·rw[e];exact LW wy
  ·rw[List.eq_of_mem_replicate e];exact V3 lvx
 ·intro z hz;have hz':z∈List.replicate ((ak xs y).2.2.2.2.length-1) (bW 5 0 0 [] 1):=hz;rw[List.eq_of_mem_replicate hz'];exact VZ
 ·obtain⟨a,b⟩:=r5 rfl;intro z hz;have hz':z∈(bif (ak xs y).1==7 then[bW 8 (ak xs y).2.1 (ak xs y).2.2.1 [(ak xs x).2.2.1] 2]else[bW 6 0 (Te (ak xs y).2.2.1 (uU (ak xs y).2.2.2.1 0) (ak xs x).2.2.1) [] 1]):=hz;cases hk:(ak xs y).1==7 with
  |true=>
   rw[hk,cond_true,List.mem_singleton]at hz';rw[hz'];exact V5 lvy (LY wy (by simpa using hk)) (Iu wx a)
  |false=>
   rw[hk,cond_false,List.mem_singleton]at hz';rw[hz'];exact V4 (RG _ _ _)
 ·have q:=r6 rfl;intro z hz
  have hz':z∈(bif (ak xs x).1==6 then[bW 12 (ak xs y).2.1 (uU (ak xs y).2.2.2.1 (bif (ak xs x).2.2.1==0 then 1 else 0)) [] 1]
   else[bW 12 (ak xs y).2.1 (uU (ak xs y).2.2.2.1 (ak xs x).2.2.1) [] 1]++List.replicate ((ak xs x).2.2.2.2.length-1) (bW 3 (ak xs y).2.1 0 [] 3)):=hz
  rcases q with⟨a,b⟩|⟨a,b⟩
  ·rw[show((ak xs x).1==6)=true by simpa using a,cond_true,List.mem_singleton]at hz';obtain⟨l2,d⟩:=xM wy b;rw[hz'];refine Qt lvy (Km d ?_ ?_)
   ·cases (ak xs x).2.2.1==0<;>decide
   ·rw[l2];cases (ak xs x).2.2.1==0<;>decide
  ·rw[show((ak xs x).1==6)=false by simp[a],cond_false,List.mem_append,List.mem_singleton]at hz';obtain⟨_,_,d⟩:=Iq wy b;rcases hz' with e|e
   ·rw[e];exact Qt lvy (Km d (xK wx a).1 (h6 rfl a))
   ·rw[List.eq_of_mem_replicate e];exact VY lvy
 ·obtain⟨a,b⟩:=r7 rfl;obtain⟨v1,v2⟩:=h7 rfl;intro z hz;have hz':z∈((vD bk xs x).drop 1).map (gY ((xs.length:Nat)-1)):=hz;obtain⟨w,hw1,rfl⟩:=List.mem_map.1 hz';rw[BO (MP _ w)];have hw2:=List.mem_of_mem_drop hw1;unfold vD gZ at hw2;obtain⟨u,hu,rfl⟩:=List.mem_map.1 hw2;obtain⟨i,hi,rfl⟩:=List.mem_iff_getElem.1 hu;have hv:=xL wx a;have wu:=hb.wf _ hv.1 v1 (i:Nat) (by omega) (by omega)
  have e:ak (je bk (ak xs x).2.2.1) (i:Nat)=(je bk (ak xs x).2.2.1)[i]:=by
   generalize je bk (ak xs x).2.2.1=t at*;unfold ak elt;rw[Int.toNat_natCast,List.getD_eq_getElem?_getD,List.getElem?_eq_getElem hi];rfl
  rw[e]at wu;refine Qu wu (by omega) ?_;unfold zT at v2;exact List.all_eq_true.1 v2 _ hu
theorem OJ{c:Int}(hw:QI D xs)(hx:0≤x∧x<(xs.length:Nat))(hy:0≤y∧y<(xs.length:Nat))(lx:¬D x)(ly:¬D y)(hr:rule (ak xs x).1 (ak xs x).2.1 (ak xs y).1 (ak xs y).2.1=c)(hc:1≤c∧c≤7)(hb:BkW bk)
  (h6:c=6→(ak xs x).1=9→(ak xs x).2.2.1<((ak xs y).2.2.2.1.length:Nat)) (h7:c=7→(ak xs x).2.2.1<(bk.length:Nat)∧zT (ak xs x).2.1 (je bk (ak xs x).2.2.1)=true):QI (fun i=>D i∨i∈nJ c x y) (pK bk xs c x y):=fun i h0 h1 hi=>MB hw hx hy lx ly hr hc hb h6 h7 i h0 h1 fun e=>hi (.inl e)
end
end Go.Tr
namespace Go.Tr
open Go Go.RowKit
section
variable {D:Int→Prop}{xs ys:List ah}{x y a b:Int}{bk:List (List ah)}
end
end Go.Tr
namespace Go.Tr
open Go Go.RowKit
section
variable {xs:List ah}{a b:Int}{bk:List (List ah)}
theorem kZ{t:List ah}{i:Nat}(hi:i<t.length):ak t (i:Nat)=t[i]:=by
 unfold ak elt;rw[Int.toNat_natCast,List.getD_eq_getElem?_getD,List.getElem?_eq_getElem hi];rfl
end
end Go.Tr
namespace Go.Tr
open Go Go.RowKit
def hasB(xs:List ah)(k:Int):Bool:=bif decide (0≤k)then decide (k<(xs.length:Nat))else false
theorem yA(kv:List (Int×Bool))(i j:Int):iO false (iA kv i true) j=if i=j then true else iO false kv j:=by
 induction kv with
 |nil=>
  simp only[iA,iO]
  by_cases h:i=j
  ·rw[if_pos h,show(i==j)=true by simpa using h];rfl
  ·rw[if_neg h,show(i==j)=false by simpa using h];rfl
 |cons e l ih=>
  obtain⟨k,v⟩:=e;simp only[iA];cases h:k==i with
  |true=>
   have h1:k=i:=by simpa using h
   subst h1;simp only[cond_true,iO]
   by_cases h2:k=j
   ·rw[if_pos h2,show(k==j)=true by simpa using h2];rfl
   ·rw[if_neg h2,show(k==j)=false by simpa using h2];rfl
  |false=>
   have h1:k≠i:=by simpa using h
   simp only[cond_false,iO,ih]
   by_cases h2:k=j
   ·subst h2;rw[if_neg (Ne.symm h1),if_neg (Ne.symm h1)]
   ·rw[show(k==j)=false by simpa using h2];rfl
theorem CZ{kv:List (Int×Bool)}(hT:∀e∈kv,e.2=true){i:Int}(h:iO false kv i=false):(iA kv i true).length=kv.length+1:=by
 induction kv with
 |nil=>rfl
 |cons e l ih=>
  obtain⟨k,v⟩:=e;simp only[iO]at h;simp only[iA];cases hk:k==i with
  |true=>
   rw[hk,cond_true]at h;have:=hT (k,v) (List.mem_cons_self ..);rw[h]at this;cases this
  |false=>
   rw[hk,cond_false]at h;simp only[cond_false,List.length_cons];rw[ih (fun e he=>hT e (List.mem_cons_of_mem _ he)) h]
theorem KT{kv:List (Int×Bool)}(hT:∀e∈kv,e.2=true)(i:Int):∀e∈iA kv i true,e.2=true:=by
 induction kv with
 |nil=>
  intro e he;simp only[iA,List.mem_singleton]at he;rw[he]
 |cons e l ih=>
  obtain⟨k,v⟩:=e;simp only[iA];cases hk:k==i with
  |true=>
   intro e he;simp only[cond_true,List.mem_cons]at he;rcases he with rfl|he
   ·rfl
   ·exact hT e (List.mem_cons_of_mem _ he)
  |false=>
   intro e he;simp only[cond_false,List.mem_cons]at he;rcases he with rfl|he
   ·exact hT _ (List.mem_cons_self ..)
   ·exact ih (fun e he=>hT e (List.mem_cons_of_mem _ he)) e he
def nH(kv:List (Int×Bool)):Nat→Nat
 |0=>0
 |k+1=>bif iO false kv (k:Nat)then nH kv k+1 else nH kv k
theorem xY{kv:List (Int×Bool)}{x:Int}(h0:0≤x)(h:iO false kv x=false):∀n:Nat,nH (iA kv x true) n=nH kv n+(if x<(n:Nat)then 1 else 0)
 |0=>by rw[if_neg (by omega)];rfl
 |n+1=>by
  unfold nH;rw[yA,xY h0 h n]
  by_cases e:x=(n:Nat)
  ·subst e;rw[if_pos rfl,cond_true,h,cond_false,if_neg (by omega),if_pos (by omega)]
  ·rw[if_neg e]
   by_cases hl:x<(n:Nat)
   ·rw[if_pos hl,if_pos (by omega)];cases iO false kv (n:Nat)<;>simp only[cond_true,cond_false]<;>omega
   ·rw[if_neg hl,if_neg (by omega)];cases iO false kv (n:Nat)<;>simp only[cond_true,cond_false]<;>omega
theorem Cu{kv:List (Int×Bool)}{n:Nat}(h:∀i:Int,(n:Int)≤i→iO false kv i=false):∀m:Nat,nH kv (n+m)=nH kv n
 |0=>rfl
 |m+1=>by
  show nH kv ((n+m)+1)=_;unfold nH;rw[h ((n+m:Nat):Int) (by omega),cond_false];have:=Cu h m;rw[this];cases n<;>rfl
section
variable {P:List ah→Prop}(hl:∀xs p q,P xs→P (bf xs p q))(ha:∀xs zs,P xs→P (xs++zs))
include hl
theorem jo{xs:List ah}{p q:aB}(h:P xs):P (fO xs p q):=hl _ _ _ h
theorem uH{xs:List ah}{p q:aB}(h:P xs):P (gu xs p q):=by
 unfold gu;cases ((aD xs p).1==q.1&&(aD xs p).2==q.2)with
 |true=>exact h
 |false=>exact hl _ _ _ h
theorem vB{y:Int}{b:Nat}{xs:List ah}(h:P xs):∀k,P (j6 y b xs k)
 |0=>h
 |k+1=>jo hl (vB h k)
include ha
theorem wW{x c d:Int}{xs:List ah}(h:P xs):∀k,P (iw x c d xs k)
 |0=>h
 |k+1=>hl _ _ _ (hl _ _ _ (ha _ _ (wW h k)))
theorem GD{y:Int}{xs:List ah}(h:P xs):∀k,P (zu y xs k)
 |0=>h
 |k+1=>jo hl (ha _ _ (GD h k))
theorem GA{lv x:Int}{b:Nat}{xs:List ah}(h:P xs):∀k,P (zn lv x b xs k)
 |0=>h
 |k+1=>jo hl (hl _ _ _ (ha _ _ (GA h k)))
theorem AV{bk:List (List ah)}{xs:List ah}{c x y:Int}(h:P xs):P (sO bk xs c x y):=by
 unfold sO;cases c==1
 ·cases c==2
  ·cases c==3
   ·cases c==4
    ·cases c==5
     ·cases c==6
      ·cases c==7
       ·exact h
       ·exact hl _ _ _ (ha _ _ h)
      ·show P (wM xs x y);unfold wM;cases (ak xs y).1==11
       ·exact jo hl (GA hl ha (ha _ _ h) _)
       ·exact jo hl (ha _ _ h)
     ·show P (jL xs x y);unfold jL;cases (ak xs y).1==7
      ·exact jo hl (ha _ _ h)
      ·exact jo hl (jo hl (ha _ _ h))
    ·exact GD hl ha h _
   ·exact vB hl (jo hl (jo hl (wW hl ha (ha _ _ (ha _ _ h)) _))) _
  ·exact uH hl (uH hl h)
 ·exact uH hl (uH hl h)
end
def FK(i:Int)(ys:List ah):Prop:=i.toNat<ys.length∧ak ys i=SY
theorem FK.set{i:Int}{ys:List ah}(h:FK i ys)(p q:aB):FK i (aO ys p q):=by
 refine⟨by rw[dV];exact h.1,?_⟩;rw[dK];split
 ·rename_i e;rw[wB e.1,h.2];rfl
 ·exact h.2
theorem FK.inter{i:Int}{ys:List ah}(h:FK i ys)(bk:List (List ah))(c x y:Int):FK i (sO bk ys c x y):=
 AV (P:=FK i) (fun xs p q h=>(h.set p q).set q p) (fun xs zs h=>⟨by rw[List.length_append];have:=h.1;omega,by rw[dY h.1];exact h.2⟩) h
theorem FK.drop{i:Int}{ys:List ah}(h:FK i ys)(a:Int):FK i (eD ys a):=by
 refine⟨by rw[vL];exact h.1,?_⟩;unfold eD;rw[wD];split
 ·rfl
 ·exact h.2
theorem FK.new{ys:List ah}{a:Int}(h0:0≤a)(h1:a<(ys.length:Nat)):FK a (eD ys a):=by
 refine⟨by rw[vL];omega,?_⟩;unfold eD;rw[wD,if_pos ⟨rfl,by omega⟩]
theorem Mx{xs:List ah}(bk:List (List ah))(c x y:Int):xs.length≤(sO bk xs c x y).length:=
 AV (P:=fun ws=>xs.length≤ws.length) (fun ws p q h=>by rw[eG];exact h) (fun ws zs h=>by rw[List.length_append];omega) (Nat.le_refl _)
theorem eB.WZ{xs:List ah}{p q:aB}(h:∀r,aj xs r→r≠p→r≠q→aj xs (aD xs r))(hp:aj xs p)(hq:aj xs q):eB (bf xs p q):=fun r hr=>by
 have hr':=hr.unlink;rw[eZ hp hq hr'];split
 ·exact hp.link
 ·rename_i e1;split
  ·exact hq.link
  ·rename_i e2;exact(h r hr' (Ne.symm e2) (Ne.symm e1)).link
section
variable {xs:List ah}{x y c:Int}{bk:List (List ah)}
theorem Rt(hp:IntPre xs c x y)(hA:eB xs)(h0:aj xs (0,0))(hc:1≤c∧c≤7)(hb:BkW bk)(h7:c=7→(0≤(ak xs x).2.2.1∧(ak xs x).2.2.1<(bk.length:Nat))):eB (pK bk xs c x y):=by
 obtain⟨hx0,hy0,p12,p3,px,py,dy,p5,p6⟩:=hp;have hcs:c=1∨c=2∨c=3∨c=4∨c=5∨c=6∨c=7:=by omega
 rcases hcs with rfl|rfl|rfl|rfl|rfl|rfl|rfl
 ·obtain⟨j1,j2,j3,j4⟩:=p12 (.inl rfl);exact(hA.join j1 j3).join j2.join j4.join
 ·obtain⟨j1,j2,j3,j4⟩:=p12 (.inr rfl);exact(hA.join j1 j3).join j2.join j4.join
 ·obtain⟨hx1,hx2⟩:=p3 rfl;show eB (jI xs x y);have h2A:=N8 (y:=y) hA h0;have hcd:∀i:Nat,i≤(ak xs y).2.2.2.2.length-1→aj (dup2 xs y) (((xs.length:Nat):Int),(i:Nat))∧aj (dup2 xs y) (((xs.length+1:Nat):Int),(i:Nat)):=fun i hi=>⟨IX (by omega) (by omega),IY (by omega) (by omega)⟩
  have h3A:eB (dup3 xs x y):=yX h2A (DI h0) _ hcd;have h3:∀{p},aj xs p→aj (dup3 xs x y) p:=fun h=>kK (DI h) _
  have hc0:aj (dup3 xs x y) (((xs.length:Nat):Int),0):=kK (IX (by decide) (by omega)) _;have hd0:aj (dup3 xs x y) (((xs.length+1:Nat):Int),0):=kK (IY (by decide) (by omega)) _;have h4A:eB (Ra xs x y):=(h3A.move (h3 hx1) hc0).move (h3 hx2).move hd0.move;refine wO h4A _ fun i hi=>⟨(h3 ⟨hy0.1,hy0.2,by omega,?_⟩).move.move,?_⟩
  ·show((i:Nat):Int)+1<((ak xs y).2.2.2.2.length:Nat);omega
  ·have:=(Am (x:=x) (c:=((xs.length:Nat):Int)) (d:=((xs.length+1:Nat):Int)) (xs:=dup2 xs y) hi).move (p:=(x,1)) (q:=(((xs.length:Nat):Int),0));have:=this.move (p:=(x,2)) (q:=(((xs.length+1:Nat):Int),0));rw[p9]at this;exact this
 ·exact Kw hA h0 _ fun i hi=>⟨hy0.1,hy0.2,by omega,by show((i+1:Nat):Int)<((ak xs y).2.2.2.2.length:Nat);omega⟩
 ·obtain⟨j1,j2,j3⟩:=p5 rfl;show eB (jL xs x y);unfold jL;cases hk:(ak xs y).1==7 with
  |true=>
   have k7:=j2 (by simpa using hk);exact((hA.add h0 _ _ _ _ _).move j1.app (aj.new (by decide) (by decide))).move k7.app.move (aj.new (by decide) (by decide)).move
  |false=>exact(hA.add h0 _ _ _ _ _).move j1.app (aj.new (by decide) (by decide))
 ·obtain⟨j1,j2,j3⟩:=p6 rfl;show eB (qF xs x y);unfold qF;cases hk:(ak xs x).1==6 with
  |true=>exact(hA.add h0 _ _ _ _ _).move j1.app (aj.new (by decide) (by decide))
  |false=>
   simp only[cond_false];have h1A:eB (gX xs y (ak xs x).2.2.1):=hA.add h0 _ _ _ _ _;have h1l:(gX xs y (ak xs x).2.2.1).length=xs.length+1:=Mf _ _ _;have h1R:aj (gX xs y (ak xs x).2.2.1) (nG (gX xs y (ak xs x).2.2.1).length 0):=by rw[h1l];exact aj.new (by decide) (by decide)
   have h1:∀{p},aj xs p→aj (gX xs y (ak xs x).2.2.1) p:=fun h=>h.app
   have h2A:=Ke (lv:=(ak xs y).2.1) h1A (h1 h0) h1R ((ak xs x).2.2.2.2.length-1);have hR:=Kc (lv:=(ak xs y).2.1) h1R ((ak xs x).2.2.2.2.length-1);have h2:∀{p},aj xs p→aj (uS (ak xs y).2.1 (gX xs y (ak xs x).2.2.1).length (gX xs y (ak xs x).2.2.1) ((ak xs x).2.2.2.2.length-1)) p:=fun h=>Dz (h1 h) _
   have hxi:∀i:Nat,i<((ak xs x).2.2.2.2.length-1)→aj (uS (ak xs y).2.1 (gX xs y (ak xs x).2.2.1).length (gX xs y (ak xs x).2.2.1) ((ak xs x).2.2.2.2.length-1)) (x,((i:Nat):Int)+1)∧aj (uS (ak xs y).2.1 (gX xs y (ak xs x).2.2.1).length (gX xs y (ak xs x).2.2.1) ((ak xs x).2.2.2.2.length-1)) ((((gX xs y (ak xs x).2.2.1).length+i:Nat):Int),1):=fun i hi=>
    ⟨h2 ⟨hx0.1,hx0.2,by omega,by show((i:Nat):Int)+1<((ak xs x).2.2.2.2.length:Nat);omega⟩,zG (by decide) (by decide) hi⟩
   rw[h1l]at h2A h2 hxi hR;exact(J7 h2A _ hxi).move (pG (h2 j1) _) (pG hR _)
 ·obtain⟨v0,v1⟩:=h7 rfl;show eB (wR bk xs x y);unfold wR vD;have hw:=hb.wi _ v0 v1;have r0:=hb.r0 _ v0 v1;have r1:=hb.r1 _ v0 v1;generalize je bk (ak xs x).2.2.1=t at*;generalize (ak xs x).2.1=lv;generalize hbb:(xs.length:Int)-1=b;have hb':b=(xs.length:Int)-1:=hbb.symm;have hws:fE (fun p=>aj (gZ lv t) p) (gZ lv t):=hw.shift;have r0s:aj (gZ lv t) (0,0):=aj.mD.2 r0;have r1s:∀p,aj (gZ lv t) p→p.1=0→p=(0,0):=fun p hp e=>r1 p (aj.mD.1 hp) e
  generalize gZ lv t=T at*;obtain⟨q1,q2,q3,q4⟩:=hws (0,0) r0s
  have rpos:1≤(aD T (0,0)).1:=by
   have h1:0≤(aD T (0,0)).1:=q2.1
   by_cases e:(aD T (0,0)).1=0
   ·exact absurd (r1s _ q2 e) q4
   ·omega
  have hR:aj (xs++(T.drop 1).map (gY b)) ((aD T (0,0)).1+b,(aD T (0,0)).2):=(aj.l8 hb').2 (.inr ⟨by show(xs.length:Int)≤(aD T (0,0)).1+b;omega,by
   rw[show(((aD T (0,0)).1+b,(aD T (0,0)).2):aB).1-b=(aD T (0,0)).1 by show(aD T (0,0)).1+b-b=_;omega];exact q2⟩)
  have hY:aj xs (y,0):=⟨hy0.1,hy0.2,Int.le_refl 0,by show(0:Int)<((ak xs y).2.2.2.2.length:Nat);omega⟩;refine eB.WZ (fun r hr n1 n2=> ?_) hY.app hR;rcases(aj.l8 hb').1 hr with q|⟨q,qt⟩
  ·rw[mg (AZ q)];exact(hA r q).app
  ·rw[tJ hb' q qt];obtain⟨s1,s2,s3,s4⟩:=hws _ qt
   by_cases e:(aD T (r.1-b,r.2)).1=0
   ·exfalso;have e2:=r1s _ s2 e;rw[e2]at s3;apply n2;rw[s3];exact dh (by show r.1=r.1-b+b;omega) rfl
   ·have s20:0≤(aD T (r.1-b,r.2)).1:=s2.1;refine(aj.l8 hb').2 (.inr ⟨by show(xs.length:Int)≤(aD T (r.1-b,r.2)).1+b;omega,?_⟩);rw[show(((aD T (r.1-b,r.2)).1+b,(aD T (r.1-b,r.2)).2):aB).1-b=(aD T (r.1-b,r.2)).1 by show(aD T (r.1-b,r.2)).1+b-b=_;omega];exact s2
end
end Go.Tr
namespace Go.Tr
open Go Go.RowKit
abbrev Gone(kv:List (Int×Bool)):Int→Prop:=fun i=>iO false kv i=true
theorem Ox(kv:List (Int×Bool))(ks:List Int)(i:Int):Gone (H6 kv ks) i↔Gone kv i∨i∈ks:=by
 unfold H6 Gone
 induction ks generalizing kv with
 |nil=>simp
 |cons k ks ih=>
  rw[List.foldl_cons,ih,yA,List.mem_cons]
  by_cases h:k=i
  ·rw[if_pos h];simp[h]
  ·rw[if_neg h];constructor
   ·rintro(h1|h1)
    ·exact .inl h1
    ·exact .inr (.inr h1)
   ·rintro(h1|h1|h1)
    ·exact .inl h1
    ·exact absurd h1.symm h
    ·exact .inr h1
theorem XA{kv:List (Int×Bool)}(hT:∀e∈kv,e.2=true)(ks:List Int):∀e∈H6 kv ks,e.2=true:=by
 unfold H6
 induction ks generalizing kv with
 |nil=>exact hT
 |cons k ks ih=>rw[List.foldl_cons];exact ih (KT hT k)
structure X5(bk:List (List ah)):Prop extends BkW bk where
 rt:∀v:Int,0≤v→v<(bk.length:Nat)→∀i:Int,0<i→i<((je bk v).length:Nat)→(ak (je bk v) i).1≠1
structure Twin(kv:List (Int×Bool))(xs ys:List ah):Prop where
 st:St (Gone kv) xs ys
 wf:QI (Gone kv) xs
 dl:∀i,Gone kv i→0≤i∧i<(xs.length:Nat)
 hole:∀i,Gone kv i→FK i ys
 r1:(ak xs 0).1=1
 r0:¬Gone kv 0
 rl:0<xs.length
 uq:∀i:Int,0<i→i<(xs.length:Nat)→¬Gone kv i→(ak xs i).1≠1
 kt:∀e∈kv,e.2=true
 kl:kv.length=nH kv xs.length
 al:eB xs
section
variable {kv:List (Int×Bool)}{xs ys:List ah}{a b x y c:Int}{bk:List (List ah)}
theorem Twin.len(h:Twin kv xs ys):xs.length=ys.length:=h.st.ag.1
theorem Twin.at_(h:Twin kv xs ys){i:Int}(h0:0≤i)(h1:i<(xs.length:Nat))(hd:¬Gone kv i):ak ys i=ak xs i:=(h.st.ag.2 i h0 h1 hd).symm
theorem Twin.p0(h:Twin kv xs ys):aj xs (0,0):=by
 have w:=h.wf 0 (Int.le_refl 0) (by have:=h.rl;omega) h.r0;have:=(eU w).2.2.2;exact⟨Int.le_refl 0,by have:=h.rl;show(0:Int)<_;omega,Int.le_refl 0,by show(0:Int)<((ak xs 0).2.2.2.2.length:Nat);omega⟩
theorem mM.symm{D:Int→Prop}(k:mM D xs a b)(h:St D xs ys):mM D xs b a:=by
 obtain⟨_,_,h3,_⟩:=h.wi (a,0) ⟨k.px,k.lx⟩;rw[k.w]at h3;exact⟨k.ne.symm,k.ly,k.lx,k.py,k.px,h3⟩
theorem mM.first{D:Int→Prop}(k:mM D xs a b)(h:St D xs ys):mM D xs (I8 xs a b).1 (I8 xs a b).2:=by
 unfold I8;cases Db (ak xs a).1 (ak xs a).2.1 (ak xs b).1 (ak xs b).2.1==2
 ·exact k
 ·exact k.symm h
theorem oN{u:ah}(w:Wf u):0<u.2.2.2.2.length∧u.2.2.2.2.length≤4:=by
 have k:=FB w;obtain⟨x1,x2,x3,x4⟩:=tZ w;refine⟨(eU w).2.2.2,?_⟩
 by_cases h9:u.1=9
 ·exact(x4 h9).2
 ·by_cases h1:u.1=1∨u.1=5∨u.1=6∨u.1=12
  ·rw[x1 h1];decide
  ·by_cases h2:u.1=8∨u.1=10∨u.1=11
   ·rw[x2 h2];decide
   ·rw[x3 (by omega)];decide
theorem KS(wx:Wf (ak xs x))(wy:Wf (ak xs y))(hx:0≤x∧x<(xs.length:Nat))(hy:0≤y∧y<(xs.length:Nat))(hr:rule (ak xs x).1 (ak xs x).2.1 (ak xs y).1 (ak xs y).2.1=c)(hc:1≤c∧c≤7)
  (h6:(ak xs x).1=9→(ak xs y).1=10→(ak xs x).2.2.1<((ak xs y).2.2.2.1.length:Nat)):QG xs c x y:=by
 obtain⟨r1,r2,r3,r4,r5,r6,r7⟩:=oJ hr (by omega);obtain⟨x1,x2,x3,x4⟩:=tZ wx;obtain⟨y1,y2,y3,y4⟩:=tZ wy;have sx:=oN wx;have sy:=oN wy;have inx:∀s:Int,0≤s→s<((ak xs x).2.2.2.2.length:Nat)→aj xs (x,s):=fun s h0 h1=>⟨hx.1,hx.2,h0,h1⟩
 have iny:∀s:Int,0≤s→s<((ak xs y).2.2.2.2.length:Nat)→aj xs (y,s):=fun s h0 h1=>⟨hy.1,hy.2,h0,h1⟩
 refine⟨⟨hx,hy,fun e=> ?_,fun e=> ?_,by omega,by omega,by have:=wf_data wy;omega,fun e=> ?_,fun e=> ?_⟩,fun e=>(r5 e).2,fun e=> ?_⟩
 ·have kx:(ak xs x).2.2.2.2.length=3:=x3 (by rcases e with e|e;(have:=r1 e;omega);(have:=r2 e;omega));have ky:(ak xs y).2.2.2.2.length=3:=y3 (by rcases e with e|e;(have:=r1 e;omega);(have:=r2 e;omega));exact⟨inx 1 (by decide) (by omega),inx 2 (by decide) (by omega),iny 1 (by decide) (by omega),iny 2 (by decide) (by omega)⟩
 ·have kx:(ak xs x).2.2.2.2.length=3:=x3 (by have:=r3 e;omega);exact⟨inx 1 (by decide) (by omega),inx 2 (by decide) (by omega)⟩
 ·obtain⟨a1,a2⟩:=r5 e;refine⟨?_,fun k7=> ?_,fun k7=> ?_⟩
  ·rcases a2 with q|q
   ·exact iny 1 (by decide) (by rw[y3 (by omega)];decide)
   ·exact iny 1 (by decide) (by rw[y2 (by omega)];decide)
  ·exact iny 2 (by decide) (by rw[y3 (by omega)];decide)
  ·have:=(Iw wy (by omega)).1;omega
 ·refine⟨?_,fun k6=> ?_,fun k6=> ?_⟩
  ·exact iny 1 (by decide) (by rw[y2 (by have:=r6 e;omega)];decide)
  ·exact(xM wy (by have:=r6 e;omega)).1
  ·have q:=r6 e;have k9:(ak xs x).1=9:=by omega
   exact⟨(xK wx k9).1,h6 k9 (by omega)⟩
 ·have q:=r6 e;refine⟨fun k=>(xM wy k).1,fun k=> ?_⟩;have k9:(ak xs x).1=9:=by omega
  exact⟨(xK wx k9).1,h6 k9 (by omega),k9⟩
theorem vJ(h:IV (ak xs x) (ak xs y)=false):(ak xs x).1=9→(ak xs y).1=10→(ak xs x).2.2.1<((ak xs y).2.2.2.1.length:Nat):=fun h9 h10=>by
 unfold IV at h;rw[show((ak xs x).1==9)=true by simpa using h9,show((ak xs y).1==10)=true by simpa using h10]at h;simp only[cond_true,decide_eq_false_iff_not]at h;omega
theorem MQ(hy:(ak xs y).1≠1)(hc:1≤c∧c≤7)(hb:X5 bk)(h7:c=7→(0≤(ak xs x).2.2.1∧(ak xs x).2.2.1<(bk.length:Nat))):∀z∈zh bk xs c x y,z.1≠1:=by
 have hcs:c=1∨c=2∨c=3∨c=4∨c=5∨c=6∨c=7:=by omega
 intro z hz;rcases hcs with rfl|rfl|rfl|rfl|rfl|rfl|rfl
 ·cases hz
 ·cases hz
 ·have hz':z∈[r9 xs y]++[r9 xs y]++List.replicate ((ak xs y).2.2.2.2.length-1) (bW 4 (ak xs x).2.1 0 [] 3):=hz;rw[List.mem_append,List.mem_append,List.mem_singleton]at hz';rcases hz' with(e|e)|e
  ·rw[e];exact hy
  ·rw[e];exact hy
  ·rw[List.eq_of_mem_replicate e];intro k;cases k
 ·have hz':z∈List.replicate ((ak xs y).2.2.2.2.length-1) (bW 5 0 0 [] 1):=hz;rw[List.eq_of_mem_replicate hz'];intro k;cases k
 ·have hz':z∈(bif (ak xs y).1==7 then[bW 8 (ak xs y).2.1 (ak xs y).2.2.1 [(ak xs x).2.2.1] 2]else[bW 6 0 (Te (ak xs y).2.2.1 (uU (ak xs y).2.2.2.1 0) (ak xs x).2.2.1) [] 1]):=hz;cases hk:(ak xs y).1==7 with
  |true=>rw[hk,cond_true,List.mem_singleton]at hz';rw[hz'];intro k;cases k
  |false=>rw[hk,cond_false,List.mem_singleton]at hz';rw[hz'];intro k;cases k
 ·have hz':z∈(bif (ak xs x).1==6 then[bW 12 (ak xs y).2.1 (uU (ak xs y).2.2.2.1 (bif (ak xs x).2.2.1==0 then 1 else 0)) [] 1]
   else[bW 12 (ak xs y).2.1 (uU (ak xs y).2.2.2.1 (ak xs x).2.2.1) [] 1]++List.replicate ((ak xs x).2.2.2.2.length-1) (bW 3 (ak xs y).2.1 0 [] 3)):=hz
  cases hk:(ak xs x).1==6 with
  |true=>rw[hk,cond_true,List.mem_singleton]at hz';rw[hz'];intro k;cases k
  |false=>
   rw[hk,cond_false,List.mem_append,List.mem_singleton]at hz';rcases hz' with e|e
   ·rw[e];intro k;cases k
   ·rw[List.eq_of_mem_replicate e];intro k;cases k
 ·obtain⟨v0,v1⟩:=h7 rfl;have hz':z∈((vD bk xs x).drop 1).map (gY ((xs.length:Nat)-1)):=hz;obtain⟨w,hw,rfl⟩:=List.mem_map.1 hz';unfold vD gZ at hw;rw[←List.map_drop]at hw;obtain⟨u,hu,rfl⟩:=List.mem_map.1 hw;obtain⟨i,hi,rfl⟩:=List.mem_iff_getElem.1 hu;have hrt:=hb.rt _ v0 v1;generalize je bk (ak xs x).2.2.1=t at*;rw[List.length_drop]at hi;rw[List.getElem_drop];have:=hrt ((1+i:Nat):Int) (by omega) (by omega);rw[kZ (by omega)]at this;show(tO _ t[1+i]).1≠1;unfold tO;cases aG (t[1+i]).kind
  ·exact this
  ·exact this
theorem Twin.next(h:Twin kv xs ys)(k:mM (Gone kv) xs x y)(hb:X5 bk)(rx:(ak xs x).1≠1)(ry:(ak xs y).1≠1)(hr:rule (ak xs x).1 (ak xs x).2.1 (ak xs y).1 (ak xs y).2.1=c)(hc:1≤c∧c≤7)(hcl:IV (ak xs x) (ak xs y)=false)
  (h7:c=7→(ak xs x).2.2.1<(bk.length:Nat)∧zT (ak xs x).2.1 (je bk (ak xs x).2.2.1)=true):QG xs c x y∧QG ys c x y∧(c=7→0≤(ak xs x).2.2.1)∧Twin (H6 kv (nJ c x y)) (pK bk xs c x y) (NZ bk ys c x y)∧(pK bk xs c x y).length=xs.length+(zh bk xs c x y).length:=by
 have hx:0≤x∧x<(xs.length:Nat):=⟨k.px.1,k.px.2.1⟩;have hy:0≤y∧y<(xs.length:Nat):=⟨k.py.1,k.py.2.1⟩;have wx:=h.wf x hx.1 hx.2 k.lx;have wy:=h.wf y hy.1 hy.2 k.ly;have sp:=KS wx wy hx hy hr hc (vJ hcl);have ex:=h.at_ hx.1 hx.2 k.lx;have ey:=h.at_ hy.1 hy.2 k.ly;have sy:QG ys c x y:=KS (by rw[ex];exact wx) (by rw[ey];exact wy) (by rw[←h.len];exact hx) (by rw[←h.len];exact hy) (by rw[ex,ey];exact hr) hc (vJ (by rw[ex,ey];exact hcl));have v0:c=7→0≤(ak xs x).2.2.1:=fun e=>(xL wx ((oJ hr (by omega)).2.2.2.2.2.2 e).1).1
 have sg:=CX (bk:=bk) (xs:=xs) (x:=x) (y:=y) hc (by omega);have hln:(pK bk xs c x y).length=xs.length+(zh bk xs c x y).length:=by rw[sg.1,List.length_append]
 have gr:∀i,Gone (H6 kv (nJ c x y)) i↔Gone kv i∨i∈nJ c x y:=fun i=>Ox kv _ i
 have ge:Gone (H6 kv (nJ c x y))=fun i=>Gone kv i∨i∈nJ c x y:=funext fun i=>propext (gr i)
 have gxy:∀i,i∈nJ c x y→i=x∨i=y:=fun i hi=>by
  unfold nJ at hi;cases hq:c==7 with
  |true=>rw[hq,cond_true,List.mem_singleton]at hi;exact .inl hi
  |false=>rw[hq,cond_false]at hi;simpa using hi
 have nx:x≠0:=fun e=>rx (by rw[e];exact h.r1)
 have ny:y≠0:=fun e=>ry (by rw[e];exact h.r1)
 have ksig:∀i:Int,0≤i→i<(xs.length:Nat)→(ak (pK bk xs c x y) i).1=(ak xs i).1:=fun i i0 i1=>by
  have:=sg.2 i i0 (by rw[hln];omega);rw[dY (by omega)]at this;exact congrArg (fun s:Int×Int×Int×List Int×Nat=>s.1) this
 refine⟨sp,sy,v0,?_,hln⟩;refine⟨?_,?_,?_,?_,?_,?_,by omega,?_,XA h.kt _,?_,Rt sp.toIntPre h.al h.p0 hc hb.toBkW fun e=>⟨v0 e,(h7 e).1⟩⟩
 ·rw[ge];exact OI h.st k (fun i hi=>(h.dl i hi).2) h.wf hr hc hb.toBkW fun e=>(h7 e).1
 ·rw[ge];exact OJ h.wf hx hy k.lx k.ly hr hc hb.toBkW (fun e e9=>by
   have q:=(oJ hr (by omega)).2.2.2.2.2.1 e;exact vJ hcl e9 (by omega)) h7
 ·intro i hi;rcases(gr i).1 hi with e|e
  ·have:=h.dl i e;omega
  ·rcases gxy i e with e|e<;>omega
 ·intro i hi;unfold NZ;have hl:=h.len;have hle:=Mx (xs:=ys) bk c x y;have n1:FK x (eD (sO bk ys c x y) x):=FK.new hx.1 (by omega);have n2:FK y (eD (eD (sO bk ys c x y) x) y):=FK.new hy.1 (by rw[vL];omega);rcases(gr i).1 hi with e|e
  ·have q:=(h.hole i e).inter bk c x y;cases c==7
   ·exact(q.drop x).drop y
   ·exact q.drop x
  ·unfold nJ at e;cases hq:c==7 with
   |true=>rw[hq,cond_true,List.mem_singleton]at e;rw[e];exact n1
   |false=>
    rw[hq,cond_false]at e;have e2:i=x∨i=y:=by simpa using e
    rcases e2 with e2|e2
    ·rw[e2];exact n1.drop y
    ·rw[e2];exact n2
 ·rw[ksig 0 (Int.le_refl 0) (by have:=h.rl;omega)];exact h.r1
 ·intro e;rcases(gr 0).1 e with e|e
  ·exact h.r0 e
  ·rcases gxy 0 e with e|e
   ·exact nx e.symm
   ·exact ny e.symm
 ·intro i i0 i1 hi;have hi2:¬Gone kv i:=fun e=>hi ((gr i).2 (.inl e))
  by_cases hl:i<(xs.length:Nat)
  ·rw[ksig i (by omega) hl];exact h.uq i i0 hl hi2
  ·have:=sg.2 i (by omega) i1;have hlt:i.toNat-xs.length<(zh bk xs c x y).length:=by omega
   have e:ak (xs++zh bk xs c x y) i=(zh bk xs c x y)[i.toNat-xs.length]:=by
    unfold ak elt;rw[List.getD_eq_getElem?_getD,List.getElem?_append_right (by omega),List.getElem?_eq_getElem hlt];rfl
   rw[e]at this;have k1:(ak (pK bk xs c x y) i).1=((zh bk xs c x y)[i.toNat-xs.length]).1:=congrArg (fun s:Int×Int×Int×List Int×Nat=>s.1) this;rw[k1];exact MQ ry hc hb (fun e=>⟨v0 e,(h7 e).1⟩) _ (List.getElem_mem hlt)
 ·have gf:∀{kv:List (Int×Bool)} {i:Int},¬Gone kv i→iO false kv i=false:=fun {kv i} hi=>by
   cases hq:iO false kv i with
   |true=>exact absurd hq hi
   |false=>rfl
  have c1:nH (iA kv x true) xs.length=nH kv xs.length+1:=by rw[xY hx.1 (gf k.lx),if_pos hx.2]
  have l1:(iA kv x true).length=kv.length+1:=CZ h.kt (gf k.lx);have y1:iO false (iA kv x true) y=false:=by rw[yA,if_neg k.ne];exact gf k.ly
  have c2:nH (iA (iA kv x true) y true) xs.length=nH kv xs.length+2:=by rw[xY hy.1 y1,if_pos hy.2,c1]
  have l2:(iA (iA kv x true) y true).length=kv.length+2:=by rw[CZ (KT h.kt x) y1,l1]
  have hn:∀i:Int,(xs.length:Int)≤i→iO false (H6 kv (nJ c x y)) i=false:=fun i hi=>gf fun e=>by
   rcases(gr i).1 e with e|e
   ·have:=h.dl i e;omega
   ·rcases gxy i e with e|e<;>omega
  rw[hln,Cu hn];have hk:=h.kl;unfold nJ;cases c==7
  ·show(iA (iA kv x true) y true).length=nH (iA (iA kv x true) y true) xs.length;omega
  ·show(iA kv x true).length=nH (iA kv x true) xs.length;omega
end
end Go.Tr
namespace Go.Tr
open Go Go.RowKit
section
variable {cx:Cx}{β:Nat→Value}{w:World}{R:List dF}
end
end Go.Tr
namespace Go.Tr
open Go Go.RowKit
section
variable {b:Int}{t:List ah}
end
end Go.Tr
namespace Go.Tr
open Go Go.RowKit
structure Sy(bk:List (List ah)):Prop extends X5 bk where
 tl:∀v:Int,0≤v→v<(bk.length:Nat)→(je bk v).length≤600
 bl:bk.length≤1000
section
variable {bk:List (List ah)}
theorem FY{v:Int}(h:¬(0≤v∧v<(bk.length:Nat)))(h0:0≤v):je bk v=[]:=by
 unfold je elt;rw[List.getD_eq_getElem?_getD,List.getElem?_eq_none (by omega)];rfl
theorem FN{xs:List ah}{i:Nat}(h:xs.length≤i):ak xs (i:Nat)=dflt aV:=by
 unfold ak elt;rw[List.getD_eq_getElem?_getD,Int.toNat_natCast,List.getElem?_eq_none h];rfl
theorem Sy.len(h:Sy bk)(v:Nat):(je bk (v:Nat)).length≤600:=by
 by_cases hv:0≤((v:Nat):Int)∧((v:Nat):Int)<(bk.length:Nat)
 ·exact h.tl _ hv.1 hv.2
 ·rw[FY hv (by omega)];decide
theorem Sy.ag(h:Sy bk)(v j:Nat):(0≤(ak (je bk (v:Nat)) (j:Nat)).2.1∧(ak (je bk (v:Nat)) (j:Nat)).2.1≤8)∧(ak (je bk (v:Nat)) (j:Nat)).2.2.2.1.length≤4∧(ak (je bk (v:Nat)) (j:Nat)).2.2.2.2.length≤4:=by
 by_cases hv:0≤((v:Nat):Int)∧((v:Nat):Int)<(bk.length:Nat)
 ·by_cases hj:j<(je bk (v:Nat)).length
  ·have w:=h.wf _ hv.1 hv.2 (j:Nat) (by omega) (by omega);have h1:=FC w;exact⟨by omega,wf_data w,(oN w).2⟩
  ·rw[FN (by omega)];decide
 ·rw[FY hv (by omega),FN (Nat.zero_le _)];decide
theorem Sy.small(h:Sy bk)(v:Nat):Np (je bk (v:Nat)):=by
 refine⟨by have:=h.len v;omega,fun i=> ?_⟩;have:=(h.ag v i).2;exact⟨by show(ak (je bk (v:Nat)) (i:Nat)).2.2.2.1.length≤1048576;omega,by show(ak (je bk (v:Nat)) (i:Nat)).2.2.2.2.length≤1048576;omega⟩
theorem Sy.ok(h:Sy bk):TF bk:=fun v j=>(h.ag v j).1
end
end Go.Tr
namespace Go.Tr
open Go Go.RowKit
def gN(xs:List ah):aW:=⟨xs.map gA⟩
theorem KJ(xs:List ah):(xs.map gA).flatMap au.enc=List.flatMap (enc aV) xs:=by
 induction xs with
 |nil=>rfl
 |cons x l ih=>rw[List.map_cons,List.flatMap_cons,List.flatMap_cons,ih,Ov]
theorem Ep(xs:List ah):(gN xs).enc=enc kX xs:=by
 show[D.sl (xs.map gA).length ((xs.map gA).flatMap au.enc)]=[D.sl _ _];rw[KJ,List.length_map]
theorem Vb(bk:List (List ah)):(bk.map gN).flatMap aW.enc=List.flatMap (enc kX) bk:=by
 induction bk with
 |nil=>rfl
 |cons x l ih=>rw[List.map_cons,List.flatMap_cons,List.flatMap_cons,ih,Ep]
theorem vk(xs:List ah)(i:Nat):gF (xs.map gA) i=gA (ak xs (i:Nat)):=by
 unfold gF ak elt;rw[Int.toNat_natCast,List.getD_eq_getElem?_getD,List.getD_eq_getElem?_getD,List.getElem?_map];cases xs[i]? <;>rfl
def gP(p:aB):aF:=⟨p.1,p.2⟩
theorem KL(ps:List aB)(k:Nat):jW (ps.map gP) k=gP (elt (dflt aQ) ps (k:Nat)):=by
 unfold jW elt;rw[Int.toNat_natCast,List.getD_eq_getElem?_getD,List.getD_eq_getElem?_getD,List.getElem?_map];cases ps[k]? <;>rfl
theorem qj(a:ah):(gA a).aH=a.2.2.2.2.map gP:=rfl
theorem Ow{p q:aB}(h:gP p=gP q):p=q:=by
 have h1:=congrArg aF.agent h;have h2:=congrArg aF.slot h;exact Prod.ext h1 h2
theorem Ju{xs:List ah}{p:aB}(h:iT (xs.map gA) (gP p)=true):aj xs p:=by
 unfold iT at h;rw[Bool.and_eq_true,vk,qj]at h;have h1:=jl h.1;have h2:=jl h.2;rw[List.length_map]at h1 h2;have e1:(gP p).agent=p.1:=rfl;have e2:(gP p).slot=p.2:=rfl;rw[e1]at h1 h2;rw[e2]at h2;have e3:((p.1.toNat:Nat):Int)=p.1:=by omega
 rw[e3]at h2;exact⟨by omega,by omega,by omega,by show p.2<((ak xs p.1).2.2.2.2.length:Nat);omega⟩
structure jY(xs:List ah):Prop where
 l1:1≤xs.length
 l2:xs.length≤600
 wf:∀i:Int,0≤i→i<(xs.length:Nat)→Wf (ak xs i)
 rt:∀i:Int,0≤i→i<(xs.length:Nat)→((ak xs i).1=1↔i=0)
 wi:fE (fun p=>aj xs p) xs
theorem K3{xs:List ah}(h:gW (gN xs)=true):jY xs:=by
 unfold gW at h;have hag:(gN xs).agents=xs.map gA:=rfl;rw[Bool.and_eq_true,hag,List.length_map]at h;obtain⟨h1,h2⟩:=h;unfold bP at h1;rw[Bool.and_eq_true,List.length_map]at h1;obtain⟨h3,h4⟩:=h1;have h3:=jl h3;have ha:∀i:Nat,i<xs.length→eP (xs.map gA) i=true:=fun i hi=>jF h4 hi
 have hk:∀i:Nat,i<xs.length→Wf (ak xs (i:Nat))∧((ak xs (i:Nat)).1=1↔i=0):=fun i hi=>by
  have:=ha i hi;unfold eP at this;rw[vk,Bool.and_eq_true]at this;refine⟨this.1,?_⟩;have h5:=this.2;have e:(gA (ak xs (i:Nat))).kind=(ak xs (i:Nat)).1:=rfl;rw[e,beq_iff_eq,Bool.eq_iff_iff,beq_iff_eq,beq_iff_eq]at h5;omega
 refine⟨by omega,by omega,fun i h0 h1=> ?_,fun i h0 h1=> ?_,?_⟩
 ·have:=(hk i.toNat (by omega)).1
  rwa[show((i.toNat:Nat):Int)=i by omega]at this
 ·have:=(hk i.toNat (by omega)).2;rw[show((i.toNat:Nat):Int)=i by omega]at this;rw[this];omega
 ·rintro⟨a,s⟩ ⟨p1,p2,p3,p4⟩;have q1:0≤a:=p1;have q2:a<(xs.length:Nat):=p2;have q3:0≤s:=p3;have q4:s<((ak xs a).2.2.2.2.length:Nat):=p4;have ea:((a.toNat:Nat):Int)=a:=by omega
  have es:((s.toNat:Nat):Int)=s:=by omega
  have hw:uP (xs.map gA) a.toNat=true:=jF h2 (by omega);unfold uP at hw;rw[vk,ea,qj,List.length_map]at hw;have hw2:=jF hw (k:=s.toNat) (by omega);unfold xO at hw2;rw[KL,es]at hw2;have ge:(⟨((a.toNat:Nat):Int),((s.toNat:Nat):Int)⟩:aF)=gP (a,s):=by rw[ea,es];rfl
  simp only[Bool.and_eq_true,Bool.not_eq_true']at hw2;obtain⟨⟨w1,w2⟩,w3⟩:=hw2;have w1:=DR w1;have w3:=Au w3;have hin:=Ju w2;have hpe:aD xs (a,s)=elt (dflt aQ) (ak xs a).2.2.2.2 s:=rfl;rw[←hpe]at w1 w3 hin;refine⟨⟨p1,p2,p3,p4⟩,hin,?_,fun e=>w1 (by rw[e];rfl)⟩;generalize aD xs (a,s)=r at*;unfold mh at w3;have er:(gP r).agent=r.1:=rfl;have er2:(gP r).slot=r.2:=rfl;have hr0:=hin.1;have hr2:=hin.2.2.1;rw[er,er2,vk,qj,KL,show((r.1.toNat:Nat):Int)=r.1 by omega,show((r.2.toNat:Nat):Int)=r.2 by omega]at w3
  exact Ow (q:=(a,s)) w3
end Go.Tr
